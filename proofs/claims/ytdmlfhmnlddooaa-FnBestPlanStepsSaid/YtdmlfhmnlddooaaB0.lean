/- The pure layer and the contracts of the functions, part 1: what the functions of the program leave, as values. -/
import Derived.Below
import Derived.Deep.LoopGhost
import Derived.KernelRfl
import Derived.Laws.StructEq
import Derived.Orders
import Derived.Test.YtdmlfhmnlddooaaChecked
import Derived.WalkKit
set_option linter.unusedSimpArgs false
set_option linter.unusedVariables false
/- The pure layer, part 1: pure values, what they say of the machine's values, states, structural rules. Any program. -/
namespace Go.Pu
open Go

/-- Cells that never change again: block, offset, value. -/
abbrev FMap := Nat → Nat → Option Value

/-- Ground values: no memory of the call's own in them. -/
inductive GV where
  | int (k : IntKind) (n : Int)
  | bool (b : Bool)
  | str (l : List UInt8)
  | agg (cs : List GV)
  | tup (vs : List GV)
  | nil
  | sl (es : List (List GV))
  | ref (cs : List GV)
  | clo (f : FuncId) (caps : List GV)

/-- What a ground value says of a value of the machine, over the cells that never change. -/
inductive RG (F : FMap) : GV → Value → Prop where
  | int (k : IntKind) (n : Int) : RG F (.int k n) (.int k n)
  | bool (b : Bool) : RG F (.bool b) (.bool b)
  | str (l : List UInt8) : RG F (.str l) (.string ⟨⟨l⟩⟩)
  | agg (cs : List GV) (vs : List Value) (hl : cs.length = vs.length) (h : ∀ (i : Nat) (c : GV) (v : Value), cs[i]? = some c → vs[i]? = some v → RG F c v) : RG F (.agg cs) (.agg ⟨vs⟩)
  | tup (cs : List GV) (vs : List Value) (hl : cs.length = vs.length) (h : ∀ (i : Nat) (c : GV) (v : Value), cs[i]? = some c → vs[i]? = some v → RG F c v) : RG F (.tup cs) (.tuple ⟨vs⟩)
  | nil : RG F .nil (.slice none 0 0)
  | sl0 (a : Option Addr) (cap : Nat) : RG F (.sl []) (.slice a 0 cap)
  | sl (es : List (List GV)) (b off cap sz : Nat) (g : Nat → Nat → Value) (hsz : ∀ el ∈ es, el.length = sz)
      (hF : ∀ i j : Nat, i < es.length → j < sz → F b (off + i * sz + j) = some (g i j))
      (h : ∀ (i j : Nat) (el : List GV) (c : GV), es[i]? = some el → el[j]? = some c → RG F c (g i j)) (hc : es.length ≤ cap) : RG F (.sl es) (.slice (some ⟨b, off, none⟩) es.length cap)
  | ref (cs : List GV) (b off : Nat) (g : Nat → Value) (hF : ∀ j : Nat, j < cs.length → F b (off + j) = some (g j))
      (h : ∀ (j : Nat) (c : GV), cs[j]? = some c → RG F c (g j)) : RG F (.ref cs) (.pointer (some ⟨b, off, none⟩))
  | clo (f : FuncId) (caps : List GV) (vs : List Value) (hl : caps.length = vs.length) (h : ∀ (i : Nat) (c : GV) (v : Value), caps[i]? = some c → vs[i]? = some v → RG F c v) : RG F (.clo f caps) (.func (.func f) #[] ⟨vs⟩)

theorem RG.mono {F F' : FMap} (hF : ∀ b o v, F b o = some v → F' b o = some v) : ∀ {g : GV} {v : Value}, RG F g v → RG F' g v := by
  intro g v h
  induction h with
  | int k n => exact .int k n
  | bool b => exact .bool b
  | str l => exact .str l
  | agg cs vs hl _ ih => exact .agg cs vs hl ih
  | tup cs vs hl _ ih => exact .tup cs vs hl ih
  | nil => exact .nil
  | sl0 a cap => exact .sl0 a cap
  | sl es b off cap sz g hsz h1 _ hc ih => exact .sl es b off cap sz g hsz (fun i j hi hj => hF _ _ _ (h1 i j hi hj)) ih hc
  | ref cs b off g h1 _ ih => exact .ref cs b off g (fun j hj => hF _ _ _ (h1 j hj)) ih
  | clo f caps vs hl _ ih => exact .clo f caps vs hl ih

/-- A value of one cell. -/
inductive LC where
  | g (v : GV)
  | osl (id off len : Nat)
  | optr (id el off : Nat)
  | junk

inductive PV where
  | c (x : LC)
  | agg (cs : List LC)
  | tup (vs : List (Bool × List LC))

structure Plc where
  blk : Option Nat
  o : Nat
  cap : Nat
  sz : Nat
  fz : Nat

abbrev LMap := Nat → Option Plc

def RL (F : FMap) (L : LMap) : LC → Value → Prop
  | .g v, x => RG F v x
  | .junk, _ => True
  | .osl id off len, x => ∃ p, L id = some p ∧ off + len ≤ p.cap ∧
      ((p.blk = none ∧ x = .slice none 0 0 ∧ off = 0 ∧ len = 0) ∨ ∃ b o', p.blk = some b ∧ x = .slice (some ⟨b, o', none⟩) len (p.cap - off) ∧ ((off = 0 ∨ off < p.cap) → o' = p.o + off * p.sz))
  | .optr id el off, x => ∃ p b, L id = some p ∧ p.blk = some b ∧ x = .pointer (some ⟨b, p.o + el * p.sz + off, none⟩)

def RP (F : FMap) (L : LMap) : PV → Value → Prop
  | .c x, v => RL F L x v
  | .agg cs, v => ∃ vs : List Value, v = .agg ⟨vs⟩ ∧ vs.length = cs.length ∧ ∀ (i : Nat) (c : LC) (u : Value), cs[i]? = some c → vs[i]? = some u → RL F L c u
  | .tup ps, v => ∃ vs : List Value, v = .tuple ⟨vs⟩ ∧ vs.length = ps.length ∧ ∀ (i : Nat) (p : Bool × List LC) (u : Value), ps[i]? = some p → vs[i]? = some u →
      if p.1 then ∃ us : List Value, u = .agg ⟨us⟩ ∧ us.length = p.2.length ∧ ∀ (i : Nat) (c : LC) (u : Value), p.2[i]? = some c → us[i]? = some u → RL F L c u
      else ∃ c, p.2 = [c] ∧ RL F L c u

/-- Which id a cell leans on. -/
def LC.id? : LC → Option Nat
  | .osl id _ _ => some id
  | .optr id _ _ => some id
  | _ => none

def LC.kill (k : Nat) : LC → LC
  | .g v => .g v
  | .junk => .junk
  | .osl i o l => bif Nat.beq i k then .junk else .osl i o l
  | .optr i e o => bif Nat.beq i k then .junk else .optr i e o

def LC.noRef (k : Nat) : LC → Bool
  | .g _ => true
  | .junk => true
  | .osl i _ _ => !Nat.beq i k
  | .optr i _ _ => !Nat.beq i k

def killO (k : Nat) : Option PV → Option PV
  | none => none
  | some (.c (.g v)) => some (.c (.g v))
  | some (.c .junk) => some (.c .junk)
  | some (.c (.osl i o l)) => bif Nat.beq i k then none else some (.c (.osl i o l))
  | some (.c (.optr i e o)) => bif Nat.beq i k then none else some (.c (.optr i e o))
  | some (.agg cs) => bif cs.all (LC.noRef k) then some (.agg cs) else none
  | some (.tup vs) => bif vs.all (fun p => p.2.all (LC.noRef k)) then some (.tup vs) else none

inductive REv where
  | set (t : Nat) (v : PV)
  | kill (id : Nat)
  | drop (t : Nat)

def look : List REv → Nat → Option PV
  | [], _ => none
  | .set t' v :: r, t => bif Nat.beq t' t then some v else look r t
  | .kill id :: r, t => killO id (look r t)
  | .drop t' :: r, t => bif Nat.beq t' t then none else look r t

inductive Cont where
  | gnd (es : List (List GV))
  | loc (es : List (List LC))

def Cont.cells : Cont → List (List LC)
  | .gnd es => es.map (·.map LC.g)
  | .loc es => es

structure Obj where
  e : TypeId
  fz : Nat
  es : Cont

inductive OEv where
  | set (id : Nat) (o : Obj)
  | kill (id : Nat)
  | del (id : Nat)
  | free (id : Nat)

def killObj (k : Nat) : Option Obj → Option Obj
  | none => none
  | some ⟨e, fz, .gnd es⟩ => some ⟨e, fz, .gnd es⟩
  | some ⟨e, fz, .loc es⟩ => some ⟨e, fz, .loc (es.map (·.map (LC.kill k)))⟩

def lookO : List OEv → Nat → Option Obj
  | [], _ => none
  | .set i o :: r, id => bif Nat.beq i id then some o else lookO r id
  | .kill k :: r, id => killObj k (lookO r id)
  | .del i :: r, id => bif Nat.beq i id then none else lookO r id
  | .free i :: r, id => bif Nat.beq i id then none else killObj i (lookO r id)

/-- An id of which nothing leans on anything. -/
def freeO : List OEv → Nat → Bool
  | [], _ => false
  | .set i _ :: r, id => bif Nat.beq i id then false else freeO r id
  | .kill _ :: r, id => freeO r id
  | .del i :: r, id => bif Nat.beq i id then false else freeO r id
  | .free i :: r, id => bif Nat.beq i id then true else freeO r id

structure St where
  regs : List REv
  objs : List OEv

def Ag (F : FMap) (w : World) : Prop := ∀ b o v, F b o = some v → w.cell? ⟨b, o, none⟩ = some v

structure Fr (w0 w : World) (M : Nat → Prop) : Prop where
  os : w.os = w0.os
  tape : w.tape = w0.tape
  output : w.output = w0.output
  size : w0.heap.size ≤ w.heap.size
  block : ∀ k, k < w0.heap.size → ¬ M k → w.heap[k]? = w0.heap[k]?

theorem Fr.refl (w : World) (M : Nat → Prop) : Fr w w M := ⟨rfl, rfl, rfl, Nat.le_refl _, fun _ _ _ => rfl⟩

def ObjOk (P : Program) (F : FMap) (L : LMap) (w : World) (id : Nat) (o : Obj) : Prop :=
  ∃ p, L id = some p ∧ p.fz ≤ o.fz ∧ (∃ i, P.info? o.e = some i ∧ i.size = p.sz) ∧ (∀ el ∈ o.es.cells, el.length = p.sz) ∧ o.es.cells.length ≤ p.cap ∧ p.cap ≤ maxLen ∧
    ((p.blk = none ∧ o.es.cells = []) ∨ ∃ b cur, p.blk = some b ∧ w.heap[b]? = some (.cells cur o.e (0, 0)) ∧ p.o + p.cap * p.sz ≤ cur.size ∧
      ∀ i j el c, o.es.cells[i]? = some el → el[j]? = some c → ∃ v, cur[p.o + i * p.sz + j]? = some v ∧ v.oneCell' = true ∧ RL F L c v)

structure LOk (F : FMap) (L : LMap) (w0 w : World) (M : Nat → Prop) : Prop where
  own : ∀ id p b, L id = some p → p.blk = some b → (w0.heap.size ≤ b ∨ M b) ∧ b < w.heap.size
  free : ∀ id p b o, L id = some p → p.blk = some b → p.o + p.fz * p.sz ≤ o → F b o = none
  inj : ∀ id id' p p' b, L id = some p → L id' = some p' → p.blk = some b → p'.blk = some b → id = id'

structure Ctx where
  n : Nat
  w0 : World
  F0 : FMap
  M : Nat → Prop
  pin : LMap

structure SimFL (P : Program) (c : Ctx) (s : St) (a : Act) (w : World) (F : FMap) (L : LMap) : Prop where
  df : a.defers = []
  sz : a.tmps.size = c.n
  ag : Ag F w
  fr : Fr c.w0 w c.M
  fx : ∀ b o, b < c.w0.heap.size → ¬ c.M b → F b o = c.F0 b o
  rg : ∀ t v, look s.regs t = some v → RP F L v (a.tmps.getD t undef)
  ob : ∀ id o, lookO s.objs id = some o → ObjOk P F L w id o
  lk : LOk F L c.w0 w c.M
  fe : ∀ id, freeO s.objs id = true → L id = none
  pn : ∀ id, c.n ≤ id → L id = c.pin id
  f0 : ∀ b o v, c.F0 b o = some v → F b o = some v

def Sim (P : Program) (c : Ctx) (s : St) (a : Act) (w : World) : Prop := ∃ F L, SimFL P c s a w F L

/-- From every real state that the pure state s tells of, the code comes to an exit at which Q holds of a pure state. -/
def PW (P : Program) (c : Ctx) (code : Code) (Q : Exit → St → Prop) (s : St) : Prop :=
  ∀ a w, Sim P c s a w → code.wp P (fun e a' w' => ∃ s', Q e s' ∧ Sim P c s' a' w') a w

section struct
variable {P : Program} {c : Ctx} {Q : Exit → St → Prop} {s : St}

theorem PW.mono {code : Code} {Q' : Exit → St → Prop} (h : PW P c code Q s) (hq : ∀ e s, Q e s → Q' e s) : PW P c code Q' s :=
  fun a w hs => wp_mono (h a w hs) fun _ _ _ ⟨s', q, k⟩ => ⟨s', hq _ _ q, k⟩

def thenQ (next : St → Prop) (Q : Exit → St → Prop) : Exit → St → Prop
  | .normal, s => next s
  | e, s => Q e s

theorem PW_seq {x y : Code} (h : PW P c x (thenQ (PW P c y Q) Q) s) : PW P c (.seq x y) Q s := by
  intro a w hs
  refine wp_seq (wp_mono (h a w hs) ?_)
  rintro e a' w' ⟨s', q, k⟩
  cases e with
  | normal => exact q a' w' k
  | _ => exact ⟨s', q, k⟩

theorem PW_skip (h : Q .normal s) : PW P c .skip Q s := fun _ _ hs => wp_skip ⟨s, h, hs⟩
theorem PW_ret (h : Q .ret s) : PW P c .ret Q s := fun _ _ hs => wp_ret ⟨s, h, hs⟩
theorem PW_exit {id : Nat} (h : Q (.exit id) s) : PW P c (.exit id) Q s := fun _ _ hs => wp_exit ⟨s, h, hs⟩

def blockQ (id : Nat) (Q : Exit → St → Prop) : Exit → St → Prop
  | .exit id', s => bif Nat.beq id' id then Q .normal s else Q (.exit id') s
  | e, s => Q e s

theorem beq_of {a b : Nat} (h : Nat.beq a b = true) : a = b := Nat.eq_of_beq_eq_true h
theorem ne_of_beq {a b : Nat} (h : Nat.beq a b = false) : a ≠ b := Nat.ne_of_beq_eq_false h

theorem PW_block {id : Nat} {x : Code} (h : PW P c x (blockQ id Q) s) : PW P c (.block id x) Q s := by
  intro a w hs
  refine wp_block (wp_mono (h a w hs) ?_)
  rintro e a' w' ⟨s', q, k⟩
  cases e with
  | exit id' =>
    simp only [blockQ, Exit.inBlock] at q ⊢
    cases hb : Nat.beq id' id with
    | true => rw [hb] at q; rw [if_pos (beq_of hb)]; exact ⟨s', q, k⟩
    | false => rw [hb] at q; rw [if_neg (ne_of_beq hb)]; exact ⟨s', q, k⟩
  | _ => exact ⟨s', q, k⟩

theorem PW_loop {x : Code} (I : Nat → St → Prop) (n₀ : Nat) (h₀ : I n₀ s)
    (round : ∀ n s, I n s → PW P c x (thenQ (fun s' => ∃ n', n' < n ∧ I n' s') Q) s) : PW P c (.loop x) Q s := by
  intro a w hs
  refine wp_loop_ghost (fun n a w => ∃ s, I n s ∧ Sim P c s a w) n₀ ⟨s, h₀, hs⟩ ?_
  rintro n a w ⟨s, hI, hs⟩
  refine wp_mono (round n s hI a w hs) ?_
  rintro e a' w' ⟨s', q, k⟩
  cases e with
  | normal => obtain ⟨n', hn, hI'⟩ := q; exact ⟨n', hn, s', hI', k⟩
  | _ => exact ⟨s', q, k⟩


/-- s tells all that s' tells. -/
def Weak (s s' : St) : Prop :=
  (∀ t v, look s'.regs t = some v → look s.regs t = some v) ∧ (∀ id o, lookO s'.objs id = some o → lookO s.objs id = some o) ∧ (∀ id, freeO s'.objs id = true → freeO s.objs id = true)

theorem Sim.weak {s' : St} {a : Act} {w : World} (h : Sim P c s a w) (hw : Weak s s') : Sim P c s' a w := by
  obtain ⟨F, L, h⟩ := h
  exact ⟨F, L, { h with rg := fun t v ht => h.rg t v (hw.1 t v ht), ob := fun id o ho => h.ob id o (hw.2.1 id o ho), fe := fun id hf => h.fe id (hw.2.2 id hf) }⟩

theorem PW_weak {code : Code} {s' : St} (hw : Weak s s') (h : PW P c code Q s') : PW P c code Q s := fun a w hs => h a w (hs.weak hw)

theorem weak_rnil {r0 : List REv} : ∀ t v, look [] t = some v → look r0 t = some v := fun _ _ h => by cases h
theorem weak_onil {r0 : List OEv} : ∀ t v, lookO [] t = some v → lookO r0 t = some v := fun _ _ h => by cases h
theorem weak_rset {r0 r : List REv} {t : Nat} {v : PV} (h : look r0 t = some v) (hr : ∀ t v, look r t = some v → look r0 t = some v) :
    ∀ t' v', look (.set t v :: r) t' = some v' → look r0 t' = some v' := by
  intro t' v' h'
  simp only [look] at h'
  cases hb : Nat.beq t t' with
  | true => rw [hb] at h'; rw [← beq_of hb, h, ← h']; rfl
  | false => rw [hb] at h'; exact hr _ _ h'
theorem weak_oset {r0 r : List OEv} {i : Nat} {o : Obj} (h : lookO r0 i = some o) (hr : ∀ t v, lookO r t = some v → lookO r0 t = some v) :
    ∀ t' v', lookO (.set i o :: r) t' = some v' → lookO r0 t' = some v' := by
  intro t' v' h'
  simp only [lookO] at h'
  cases hb : Nat.beq i t' with
  | true => rw [hb] at h'; rw [← beq_of hb, h, ← h']; rfl
  | false => rw [hb] at h'; exact hr _ _ h'
end struct

/-- A slot's pure value, or an operand's. -/
def ev (r : List REv) : Operand → Option PV
  | .tmp t => look r t
  | .const (.int k n) => some (.c (.g (.int k n)))
  | .const (.bool b) => some (.c (.g (.bool b)))
  | .const (.slice none 0 0) => some (.c (.g .nil))
  | .const (.string ⟨⟨l⟩⟩) => some (.c (.g (.str l)))
  | .func f => some (.c (.g (.clo f [])))
  | _ => none

theorem ev_ok {r : List REv} {a : Act} {F : FMap} {L : LMap} (h : ∀ t v, look r t = some v → RP F L v (a.tmps.getD t undef)) {x : Operand} {v : PV} (hx : ev r x = some v) : RP F L v (a.eval x) := by
  unfold ev at hx
  split at hx
  · exact h _ _ hx
  · cases hx; exact RG.int _ _
  · cases hx; exact RG.bool _
  · cases hx; exact RG.nil
  · cases hx; exact RG.str _
  · cases hx; exact RG.clo _ [] [] rfl (by simp)
  · cases hx

theorem PW_cond {P : Program} {c : Ctx} {Q : Exit → St → Prop} {s : St} {x : Operand} {thn els : Code} {b : Bool} (hx : ev s.regs x = some (.c (.g (.bool b))))
    (ht : b = true → PW P c thn Q s) (hf : b = false → PW P c els Q s) : PW P c (.cond x thn els) Q s := by
  rintro a w ⟨F, L, hs⟩
  have hv : a.eval x = .bool b := by
    have := ev_ok hs.rg hx
    simp only [RP, RL] at this
    generalize a.eval x = y at this
    cases this
    rfl
  exact wp_cond_split hv (fun e => ht e a w ⟨F, L, hs⟩) (fun e => hf e a w ⟨F, L, hs⟩)
end Go.Pu
/- The pure layer, part 2: regions of operations, in the text's order or in any order that the edges allow. Any program. -/
namespace Go.Pu
open Go

/-- What one operation looks at, and what it changes. -/
structure Foot where
  rr : List (Nat × PV) := []
  ro : List (Nat × Obj) := []
  wr : List REv := []
  wo : List OEv := []

def holds (s : St) (f : Foot) : Prop := (∀ x ∈ f.rr, look s.regs x.1 = some x.2) ∧ (∀ x ∈ f.ro, lookO s.objs x.1 = some x.2)
def ap (f : Foot) (s : St) : St := ⟨f.wr ++ s.regs, f.wo ++ s.objs⟩

/-! ### events that do not meet -/
def PV.noRef (k : Nat) : PV → Bool
  | .c x => x.noRef k
  | .agg cs => cs.all (LC.noRef k)
  | .tup vs => vs.all fun p => p.2.all (LC.noRef k)
def Obj.noRef (k : Nat) (o : Obj) : Bool := match o.es with | .gnd _ => true | .loc es => es.all fun r => r.all (LC.noRef k)
def LC.notJunk : LC → Bool
  | .junk => false
  | _ => true
def Obj.noJunk (o : Obj) : Bool := match o.es with | .gnd _ => true | .loc es => es.all fun r => r.all LC.notJunk

theorem killO_some {k : Nat} {x : Option PV} {v : PV} (h : killO k x = some v) : x = some v := by
  cases x with
  | none => cases h
  | some p =>
    cases p with
    | c y =>
      cases y with
      | g v => exact h
      | junk => exact h
      | osl i o l => simp only [killO] at h; cases hb : Nat.beq i k <;> rw [hb] at h <;> first | exact h | cases h
      | optr i o l => simp only [killO] at h; cases hb : Nat.beq i k <;> rw [hb] at h <;> first | exact h | cases h
    | agg cs => simp only [killO] at h; cases hb : cs.all (LC.noRef k) <;> rw [hb] at h <;> first | exact h | cases h
    | tup cs => simp only [killO] at h; cases hb : cs.all (fun p => p.2.all (LC.noRef k)) <;> rw [hb] at h <;> first | exact h | cases h
theorem killO_noRef {k : Nat} {v : PV} (h : v.noRef k = true) : killO k (some v) = some v := by
  cases v with
  | c y =>
    cases y with
    | g v => rfl
    | junk => rfl
    | osl i o l => simp only [PV.noRef, LC.noRef, Bool.not_eq_true'] at h; simp only [killO, h]; rfl
    | optr i o l => simp only [PV.noRef, LC.noRef, Bool.not_eq_true'] at h; simp only [killO, h]; rfl
  | agg cs => simp only [PV.noRef] at h; simp only [killO, h]; rfl
  | tup cs => simp only [PV.noRef] at h; simp only [killO, h]; rfl
theorem noRef_killO {k : Nat} {x : Option PV} {v : PV} (h : killO k x = some v) : v.noRef k = true := by
  have hx := killO_some h
  subst hx
  cases v with
  | c y =>
    cases y with
    | g v => rfl
    | junk => rfl
    | osl i o l => simp only [killO] at h; simp only [PV.noRef, LC.noRef]; cases hb : Nat.beq i k <;> rw [hb] at h <;> first | rfl | cases h
    | optr i o l => simp only [killO] at h; simp only [PV.noRef, LC.noRef]; cases hb : Nat.beq i k <;> rw [hb] at h <;> first | rfl | cases h
  | agg cs => simp only [killO] at h; simp only [PV.noRef]; cases hb : cs.all (LC.noRef k) <;> rw [hb] at h <;> first | rfl | cases h
  | tup cs => simp only [killO] at h; simp only [PV.noRef]; cases hb : cs.all (fun p => p.2.all (LC.noRef k)) <;> rw [hb] at h <;> first | rfl | cases h
theorem killO_killO (k l : Nat) (x : Option PV) : killO k (killO l x) = killO l (killO k x) := by
  have key : ∀ (k l : Nat) v, killO k (killO l x) = some v → killO l (killO k x) = some v := by
    intro k l v h
    have h1 := killO_some h
    have h2 := killO_some h1
    have n1 := noRef_killO h
    have n2 := noRef_killO h1
    subst h2
    rw [killO_noRef n1, killO_noRef n2]
  cases h1 : killO k (killO l x) with
  | none =>
    cases h2 : killO l (killO k x) with
    | none => rfl
    | some v => rw [key l k v h2] at h1; cases h1
  | some v => exact (key k l v h1).symm

theorem LC.kill_noRef {k : Nat} {x : LC} (h : x.noRef k = true) : x.kill k = x := by
  cases x with
  | g v => rfl
  | junk => rfl
  | osl i o l => simp only [LC.noRef, Bool.not_eq_true'] at h; simp only [LC.kill, h]; rfl
  | optr i o l => simp only [LC.noRef, Bool.not_eq_true'] at h; simp only [LC.kill, h]; rfl
theorem LC.kill_notJunk {k : Nat} {x : LC} (h : (x.kill k).notJunk = true) : x.kill k = x := by
  cases x with
  | g v => rfl
  | junk => rfl
  | osl i o l => simp only [LC.kill] at h ⊢; cases hb : Nat.beq i k <;> rw [hb] at h <;> first | rfl | cases h
  | optr i o l => simp only [LC.kill] at h ⊢; cases hb : Nat.beq i k <;> rw [hb] at h <;> first | rfl | cases h
theorem LC.kill_kill (k l : Nat) (x : LC) : (x.kill l).kill k = (x.kill k).kill l := by
  cases x with
  | g v => rfl
  | junk => rfl
  | osl i o n => simp only [LC.kill]; cases hb : Nat.beq i k <;> cases hc : Nat.beq i l <;> simp [hb, hc]
  | optr i o n => simp only [LC.kill]; cases hb : Nat.beq i k <;> cases hc : Nat.beq i l <;> simp [hb, hc]

theorem killObj_noRef {k : Nat} {o : Obj} (h : o.noRef k = true) : killObj k (some o) = some o := by
  obtain ⟨e, fz, es⟩ := o
  cases es with
  | gnd es => rfl
  | loc es =>
    simp only [Obj.noRef, List.all_eq_true] at h
    simp only [killObj, Option.some.injEq, Obj.mk.injEq, Cont.loc.injEq, true_and]
    conv => rhs; rw [← List.map_id es]
    refine List.map_congr_left fun r hr => ?_
    conv => rhs; rw [id, ← List.map_id r]
    exact List.map_congr_left fun x hx => LC.kill_noRef (h r hr x hx)
theorem killObj_noJunk {k : Nat} {x : Option Obj} {o : Obj} (h : killObj k x = some o) (hj : o.noJunk = true) : x = some o := by
  cases x with
  | none => cases h
  | some p =>
    obtain ⟨e, fz, es⟩ := p
    cases es with
    | gnd es => exact h
    | loc es =>
      simp only [killObj, Option.some.injEq] at h
      subst h
      simp only [Obj.noJunk, List.all_eq_true, List.mem_map, forall_exists_index, and_imp, forall_apply_eq_imp_iff₂] at hj
      simp only [Option.some.injEq, Obj.mk.injEq, Cont.loc.injEq, true_and]
      conv => lhs; rw [← List.map_id es]
      refine List.map_congr_left fun r hr => ?_
      conv => lhs; rw [id, ← List.map_id r]
      exact List.map_congr_left fun x hx => (LC.kill_notJunk (hj r hr x hx)).symm
theorem killObj_killObj (k l : Nat) (x : Option Obj) : killObj k (killObj l x) = killObj l (killObj k x) := by
  cases x with
  | none => rfl
  | some p =>
    obtain ⟨e, fz, es⟩ := p
    cases es with
    | gnd es => rfl
    | loc es =>
      simp only [killObj, Option.some.injEq, Obj.mk.injEq, Cont.loc.injEq, true_and, List.map_map]
      refine List.map_congr_left fun r _ => ?_
      simp only [Function.comp, List.map_map]
      exact List.map_congr_left fun x _ => LC.kill_kill k l x

def rcomm : REv → REv → Bool
  | .set t _, .set t' _ => !Nat.beq t t'
  | .set t _, .drop t' => !Nat.beq t t'
  | .drop t, .set t' _ => !Nat.beq t t'
  | .set _ v, .kill k => v.noRef k
  | .kill k, .set _ v => v.noRef k
  | _, _ => true
/-- The event does not touch what is read. -/
def rread (x : Nat × PV) : REv → Bool
  | .set t _ => !Nat.beq t x.1
  | .drop t => !Nat.beq t x.1
  | .kill k => x.2.noRef k
def ocomm : OEv → OEv → Bool
  | .set i _, .set i' _ => !Nat.beq i i'
  | .set _ o, .kill k => o.noRef k
  | .kill k, .set _ o => o.noRef k
  | .set i o, .free k => !Nat.beq i k && o.noRef k
  | .free k, .set i o => !Nat.beq i k && o.noRef k
  | .kill _, .kill _ => true
  | .kill _, .free _ => true
  | .free _, .kill _ => true
  | .free _, .free _ => true
  | _, _ => false
def oread (x : Nat × Obj) : OEv → Bool
  | .set i _ => !Nat.beq i x.1
  | .kill k => x.2.noRef k && x.2.noJunk
  | .free k => !Nat.beq k x.1 && x.2.noRef k && x.2.noJunk
  | .del _ => false

theorem not_beq {a b : Nat} (h : (!Nat.beq a b) = true) : Nat.beq a b = false := by simpa using h
theorem beq_comm' (a b : Nat) : Nat.beq a b = Nat.beq b a := by
  rw [Bool.eq_iff_iff]
  exact ⟨fun h => by rw [beq_of h]; exact Nat.beq_refl _, fun h => by rw [beq_of h]; exact Nat.beq_refl _⟩
theorem not_beq' {a b : Nat} (h : (!Nat.beq a b) = true) : Nat.beq b a = false := by rw [beq_comm']; exact not_beq h

theorem look_swap {e e' : REv} (h : rcomm e e' = true) (r : List REv) (t : Nat) : look (e :: e' :: r) t = look (e' :: e :: r) t := by
  cases e with
  | set a v =>
    cases e' with
    | set b u =>
      simp only [rcomm] at h
      simp only [look]
      cases hb : Nat.beq a t <;> cases hc : Nat.beq b t <;> try rfl
      rw [beq_of hb, beq_of hc] at h
      simp at h
    | kill k =>
      simp only [rcomm] at h
      simp only [look]
      cases hb : Nat.beq a t
      · rfl
      · exact (killO_noRef h).symm
    | drop b =>
      simp only [rcomm] at h
      simp only [look]
      cases hb : Nat.beq a t <;> cases hc : Nat.beq b t <;> try rfl
      rw [beq_of hb, beq_of hc] at h
      simp at h
  | kill k =>
    cases e' with
    | set b u =>
      simp only [rcomm] at h
      simp only [look]
      cases hb : Nat.beq b t
      · rfl
      · exact killO_noRef h
    | kill l => exact killO_killO _ _ _
    | drop b =>
      simp only [look]
      cases hb : Nat.beq b t <;> rfl
  | drop a =>
    cases e' with
    | set b u =>
      simp only [rcomm] at h
      simp only [look]
      cases hb : Nat.beq a t <;> cases hc : Nat.beq b t <;> try rfl
      rw [beq_of hb, beq_of hc] at h
      simp at h
    | kill l =>
      simp only [look]
      cases hb : Nat.beq a t <;> rfl
    | drop b =>
      simp only [look]
      cases hb : Nat.beq a t <;> cases hc : Nat.beq b t <;> rfl

theorem lookO_swap {e e' : OEv} (h : ocomm e e' = true) (r : List OEv) (t : Nat) : lookO (e :: e' :: r) t = lookO (e' :: e :: r) t := by
  cases e with
  | set a v =>
    cases e' with
    | set b u =>
      simp only [ocomm] at h
      simp only [lookO]
      cases hb : Nat.beq a t <;> cases hc : Nat.beq b t <;> try rfl
      rw [beq_of hb, beq_of hc] at h
      simp at h
    | kill k =>
      simp only [ocomm] at h
      simp only [lookO]
      cases hb : Nat.beq a t
      · rfl
      · exact (killObj_noRef h).symm
    | del b => simp [ocomm] at h
    | free b =>
      simp only [ocomm, Bool.and_eq_true] at h
      simp only [lookO]
      cases hb : Nat.beq a t <;> cases hc : Nat.beq b t <;> try rfl
      · exact (killObj_noRef h.2).symm
      · rw [beq_of hb, beq_of hc] at h; simp at h
  | kill k =>
    cases e' with
    | set b u =>
      simp only [ocomm] at h
      simp only [lookO]
      cases hb : Nat.beq b t
      · rfl
      · exact killObj_noRef h
    | kill l => exact killObj_killObj _ _ _
    | del b => simp [ocomm] at h
    | free b =>
      simp only [lookO]
      cases hb : Nat.beq b t
      · exact killObj_killObj _ _ _
      · rfl
  | del a => cases e' <;> simp [ocomm] at h
  | free a =>
    cases e' with
    | set b u =>
      simp only [ocomm, Bool.and_eq_true] at h
      simp only [lookO]
      cases hb : Nat.beq a t <;> cases hc : Nat.beq b t <;> try rfl
      · exact killObj_noRef h.2
      · rw [beq_of hb, beq_of hc] at h; simp at h
    | kill l =>
      simp only [lookO]
      cases hb : Nat.beq a t
      · exact killObj_killObj _ _ _
      · rfl
    | del b => simp [ocomm] at h
    | free b =>
      simp only [lookO]
      cases hb : Nat.beq a t <;> cases hc : Nat.beq b t <;> try rfl
      exact killObj_killObj _ _ _

theorem freeO_swap {e e' : OEv} (h : ocomm e e' = true) (r : List OEv) (t : Nat) : freeO (e :: e' :: r) t = freeO (e' :: e :: r) t := by
  cases e <;> cases e' <;> simp only [ocomm, Bool.and_eq_true] at h <;> simp only [freeO] <;> try cases h
  all_goals first
    | rfl
    | (rename_i a _ b _; cases hb : Nat.beq a t <;> cases hc : Nat.beq b t <;> first | rfl | (rw [beq_of hb, beq_of hc] at h; simp at h))
    | (rename_i a _ b h1 h2; cases hb : Nat.beq a t <;> cases hc : Nat.beq b t <;> first | rfl | (rw [beq_of hb, beq_of hc] at h1; simp at h1))
    | (rename_i a b _ h1 h2; cases hb : Nat.beq a t <;> cases hc : Nat.beq b t <;> first | rfl | (rw [beq_of hb, beq_of hc] at h1; simp at h1))
    | (rename_i a b; cases hb : Nat.beq a t <;> cases hc : Nat.beq b t <;> rfl)

theorem look_congr (e : REv) {r r' : List REv} (h : ∀ t, look r t = look r' t) (t : Nat) : look (e :: r) t = look (e :: r') t := by
  cases e <;> simp only [look, h]
theorem lookO_congr (e : OEv) {r r' : List OEv} (h : ∀ t, lookO r t = lookO r' t) (t : Nat) : lookO (e :: r) t = lookO (e :: r') t := by
  cases e <;> simp only [lookO, h]
theorem freeO_congr (e : OEv) {r r' : List OEv} (h : ∀ t, freeO r t = freeO r' t) (t : Nat) : freeO (e :: r) t = freeO (e :: r') t := by
  cases e <;> simp only [freeO, h]
theorem look_app (l : List REv) {r r' : List REv} (h : ∀ t, look r t = look r' t) : ∀ t, look (l ++ r) t = look (l ++ r') t := by
  induction l with
  | nil => exact h
  | cons e l ih => exact look_congr e ih
theorem lookO_app (l : List OEv) {r r' : List OEv} (h : ∀ t, lookO r t = lookO r' t) : ∀ t, lookO (l ++ r) t = lookO (l ++ r') t := by
  induction l with
  | nil => exact h
  | cons e l ih => exact lookO_congr e ih
theorem freeO_app (l : List OEv) {r r' : List OEv} (h : ∀ t, freeO r t = freeO r' t) : ∀ t, freeO (l ++ r) t = freeO (l ++ r') t := by
  induction l with
  | nil => exact h
  | cons e l ih => exact freeO_congr e ih

theorem look_move (e : REv) : ∀ (l : List REv), (l.all (rcomm e) = true) → ∀ r t, look (e :: (l ++ r)) t = look (l ++ e :: r) t := by
  intro l
  induction l with
  | nil => intro _ r t; rfl
  | cons a l ih =>
    intro h r t
    simp only [List.all_cons, Bool.and_eq_true] at h
    rw [List.cons_append, look_swap h.1]
    exact look_congr a (fun t => ih h.2 r t) t
theorem lookO_move (e : OEv) : ∀ (l : List OEv), (l.all (ocomm e) = true) → ∀ r t, lookO (e :: (l ++ r)) t = lookO (l ++ e :: r) t := by
  intro l
  induction l with
  | nil => intro _ r t; rfl
  | cons a l ih =>
    intro h r t
    simp only [List.all_cons, Bool.and_eq_true] at h
    rw [List.cons_append, lookO_swap h.1]
    exact lookO_congr a (fun t => ih h.2 r t) t
theorem freeO_move (e : OEv) : ∀ (l : List OEv), (l.all (ocomm e) = true) → ∀ r t, freeO (e :: (l ++ r)) t = freeO (l ++ e :: r) t := by
  intro l
  induction l with
  | nil => intro _ r t; rfl
  | cons a l ih =>
    intro h r t
    simp only [List.all_cons, Bool.and_eq_true] at h
    rw [List.cons_append, freeO_swap h.1]
    exact freeO_congr a (fun t => ih h.2 r t) t
theorem look_comm : ∀ (l m : List REv), (l.all (fun e => m.all (rcomm e)) = true) → ∀ r t, look (l ++ (m ++ r)) t = look (m ++ (l ++ r)) t := by
  intro l
  induction l with
  | nil => intro m _ r t; rfl
  | cons e l ih =>
    intro m h r t
    simp only [List.all_cons, Bool.and_eq_true] at h
    have h1 := look_congr e (fun t => ih m h.2 r t) t
    have h2 := look_move e m h.1 (l ++ r) t
    simpa using h1.trans h2
theorem lookO_comm : ∀ (l m : List OEv), (l.all (fun e => m.all (ocomm e)) = true) → ∀ r t, lookO (l ++ (m ++ r)) t = lookO (m ++ (l ++ r)) t := by
  intro l
  induction l with
  | nil => intro m _ r t; rfl
  | cons e l ih =>
    intro m h r t
    simp only [List.all_cons, Bool.and_eq_true] at h
    have h1 := lookO_congr e (fun t => ih m h.2 r t) t
    have h2 := lookO_move e m h.1 (l ++ r) t
    simpa using h1.trans h2
theorem freeO_comm : ∀ (l m : List OEv), (l.all (fun e => m.all (ocomm e)) = true) → ∀ r t, freeO (l ++ (m ++ r)) t = freeO (m ++ (l ++ r)) t := by
  intro l
  induction l with
  | nil => intro m _ r t; rfl
  | cons e l ih =>
    intro m h r t
    simp only [List.all_cons, Bool.and_eq_true] at h
    have h1 := freeO_congr e (fun t => ih m h.2 r t) t
    have h2 := freeO_move e m h.1 (l ++ r) t
    simpa using h1.trans h2

theorem look_read {x : Nat × PV} : ∀ (l : List REv), l.all (rread x) = true → ∀ r, (look (l ++ r) x.1 = some x.2 ↔ look r x.1 = some x.2) := by
  intro l
  induction l with
  | nil => intro _ r; rfl
  | cons e l ih =>
    intro h r
    simp only [List.all_cons, Bool.and_eq_true] at h
    rw [← ih h.2 r]
    cases e with
    | set t v => simp only [rread] at h; simp only [List.cons_append, look, not_beq h.1]; rfl
    | drop t => simp only [rread] at h; simp only [List.cons_append, look, not_beq h.1]; rfl
    | kill k =>
      simp only [rread] at h
      simp only [List.cons_append, look]
      exact ⟨killO_some, fun e => by rw [e]; exact killO_noRef h.1⟩
theorem lookO_read {x : Nat × Obj} : ∀ (l : List OEv), l.all (oread x) = true → ∀ r, (lookO (l ++ r) x.1 = some x.2 ↔ lookO r x.1 = some x.2) := by
  intro l
  induction l with
  | nil => intro _ r; rfl
  | cons e l ih =>
    intro h r
    simp only [List.all_cons, Bool.and_eq_true] at h
    rw [← ih h.2 r]
    cases e with
    | set t v => simp only [oread] at h; simp only [List.cons_append, lookO, not_beq h.1]; rfl
    | del t => simp [oread] at h
    | kill k =>
      simp only [oread, Bool.and_eq_true] at h
      simp only [List.cons_append, lookO]
      exact ⟨fun e => killObj_noJunk e h.1.2, fun e => by rw [e]; exact killObj_noRef h.1.1⟩
    | free k =>
      simp only [oread, Bool.and_eq_true] at h
      simp only [List.cons_append, lookO, not_beq h.1.1.1]
      exact ⟨fun e => killObj_noJunk e h.1.2, fun e => by
        show killObj k _ = _
        rw [e]; exact killObj_noRef h.1.1.2⟩

/-- Two operations of which either may come first. -/
def indep (f g : Foot) : Bool :=
  f.wr.all (fun e => g.wr.all (rcomm e)) && f.wo.all (fun e => g.wo.all (ocomm e)) &&
  f.rr.all (fun x => g.wr.all (rread x)) && g.rr.all (fun x => f.wr.all (rread x)) &&
  f.ro.all (fun x => g.wo.all (oread x)) && g.ro.all (fun x => f.wo.all (oread x))

def Same (s s' : St) : Prop := (∀ t, look s.regs t = look s'.regs t) ∧ (∀ t, lookO s.objs t = lookO s'.objs t) ∧ (∀ t, freeO s.objs t = freeO s'.objs t)
theorem Same.refl (s : St) : Same s s := ⟨fun _ => rfl, fun _ => rfl, fun _ => rfl⟩
theorem Same.symm {s s' : St} (h : Same s s') : Same s' s := ⟨fun t => (h.1 t).symm, fun t => (h.2.1 t).symm, fun t => (h.2.2 t).symm⟩
theorem Same.trans {a b c : St} (h : Same a b) (k : Same b c) : Same a c := ⟨fun t => (h.1 t).trans (k.1 t), fun t => (h.2.1 t).trans (k.2.1 t), fun t => (h.2.2 t).trans (k.2.2 t)⟩
theorem Same.weak {s s' : St} (h : Same s s') : Weak s s' := ⟨fun t v hv => by rw [h.1]; exact hv, fun t v hv => by rw [h.2.1]; exact hv, fun t hv => by rw [h.2.2]; exact hv⟩
theorem Same.ap {s s' : St} (h : Same s s') (f : Foot) : Same (ap f s) (ap f s') := ⟨look_app _ h.1, lookO_app _ h.2.1, freeO_app _ h.2.2⟩
theorem Same.holds {s s' : St} (h : Same s s') {f : Foot} (k : holds s f) : holds s' f := ⟨fun x hx => by rw [← h.1]; exact k.1 x hx, fun x hx => by rw [← h.2.1]; exact k.2 x hx⟩

theorem indep_comm {f g : Foot} (h : indep f g = true) (s : St) : Same (ap f (ap g s)) (ap g (ap f s)) := by
  simp only [indep, Bool.and_eq_true] at h
  exact ⟨look_comm _ _ h.1.1.1.1.1 _, lookO_comm _ _ h.1.1.1.1.2 _, freeO_comm _ _ h.1.1.1.1.2 _⟩
theorem indep_left {f g : Foot} (h : indep f g = true) (s : St) : holds (ap g s) f ↔ holds s f := by
  simp only [indep, Bool.and_eq_true, List.all_eq_true (p := fun x => List.all _ (rread x)), List.all_eq_true (p := fun x => List.all _ (oread x))] at h
  constructor
  · intro k
    exact ⟨fun x hx => (look_read _ (h.1.1.1.2 x hx) _).1 (k.1 x hx), fun x hx => (lookO_read _ (h.1.2 x hx) _).1 (k.2 x hx)⟩
  · intro k
    exact ⟨fun x hx => (look_read _ (h.1.1.1.2 x hx) _).2 (k.1 x hx), fun x hx => (lookO_read _ (h.1.2 x hx) _).2 (k.2 x hx)⟩
theorem indep_right {f g : Foot} (h : indep f g = true) (s : St) : holds (ap f s) g ↔ holds s g := by
  simp only [indep, Bool.and_eq_true, List.all_eq_true (p := fun x => List.all _ (rread x)), List.all_eq_true (p := fun x => List.all _ (oread x))] at h
  constructor
  · intro k
    exact ⟨fun x hx => (look_read _ (h.1.1.2 x hx) _).1 (k.1 x hx), fun x hx => (lookO_read _ (h.2 x hx) _).1 (k.2 x hx)⟩
  · intro k
    exact ⟨fun x hx => (look_read _ (h.1.1.2 x hx) _).2 (k.1 x hx), fun x hx => (lookO_read _ (h.2 x hx) _).2 (k.2 x hx)⟩

/-- The feet, one after the other. -/
def Runs : List Foot → St → St → Prop
  | [], s, s' => Same s s'
  | f :: l, s, s' => holds s f ∧ Runs l (ap f s) s'

theorem Runs.same : ∀ {l : List Foot} {s t s' : St}, Same s t → Runs l s s' → Runs l t s' := by
  intro l
  induction l with
  | nil => intro s t s' h k; exact h.symm.trans k
  | cons f l ih => intro s t s' h k; exact ⟨h.holds k.1, ih (h.ap f) k.2⟩

theorem Runs.front {f : Foot} : ∀ {pre post : List Foot} {s s' : St}, (∀ g ∈ pre, indep f g = true) → Runs (pre ++ f :: post) s s' → holds s f ∧ Runs (pre ++ post) (ap f s) s' := by
  intro pre
  induction pre with
  | nil => intro post s s' _ h; exact h
  | cons g pre ih =>
    intro post s s' hp h
    have hg := hp g (by simp)
    obtain ⟨h1, h2⟩ := ih (fun g hg => hp g (by simp [hg])) h.2
    exact ⟨(indep_left hg s).1 h1, (indep_right hg s).2 h.1, h2.same (indep_comm hg s)⟩

/-! ### one operation -/
def OSem (P : Program) (c : Ctx) (ops : Array Oper) (o : Oper) (f : Foot) : Prop :=
  ∀ s a w, holds s f → Sim P c s a w →
    if Region.wanted o (yielded ops a.tmps) then o.wp P a w (fun a' w' => Sim P c (ap f s) a' w') (fun _ _ _ => False)
    else Sim P c (ap f s) (a.put o.dst undef) w

/-- From the state s the operations run in the text's order, each by its foot ('nd': in a region that draws no order a call's outcome may hang on the world). -/
def PD (P : Program) (c : Ctx) (nd : Bool) (ops : Array Oper) : List Oper → List Foot → (List Foot → St → Prop) → St → Prop
  | [], acc, Q, s => Q acc s
  | o :: rest, acc, Q, s =>
    (∃ f, OSem P c ops o f ∧ holds s f ∧ PD P c nd ops rest (f :: acc) Q (ap f s)) ∨
    (nd = true ∧ ∃ X : St → Prop, (∀ a w, Sim P c s a w → if Region.wanted o (yielded ops a.tmps) then o.wp P a w (fun a' w' => ∃ s', X s' ∧ Sim P c s' a' w') (fun _ _ _ => False)
      else ∃ s', X s' ∧ Sim P c s' (a.put o.dst undef) w) ∧ ∀ s', X s' → PD P c nd ops rest acc Q s')

theorem wp_noExit {P : Program} {o : Oper} {a : Act} {w : World} {K : Act → World → Prop} {Q : Exit → Act → World → Prop} (h : o.wp P a w K (fun _ _ _ => False)) : o.wp P a w K Q := by
  unfold Oper.wp at *
  generalize (execOp a.eval o).run P w = r at *
  cases r with
  | ok n w' =>
    cases n <;> simp only [Oper.upon] at h ⊢ <;> first
      | exact h
      | exact Calls.mono h (fun e w'' he => by cases e <;> first | exact he | exact he.elim | (obtain ⟨_, _, h⟩ := he; exact h.elim))
  | halt x w' => cases x <;> simp only [Oper.upon] at h ⊢

theorem PD_list {P : Program} {c : Ctx} {ops : Array Oper} {Q : Exit → St → Prop} : ∀ (l : List Oper) (acc : List Foot) (s : St), PD P c true ops l acc (fun _ s => Q .normal s) s →
    ∀ a w, Sim P c s a w → wpList P ops (fun e a' w' => ∃ s', Q e s' ∧ Sim P c s' a' w') l a w := by
  intro l
  induction l with
  | nil => intro acc s h a w hs; exact ⟨s, h, hs⟩
  | cons o l ih =>
    intro acc s h a w hs
    unfold wpList
    rcases h with ⟨f, h1, h2, h3⟩ | ⟨_, X, h1, h2⟩
    · have := h1 s a w h2 hs
      split
      · rename_i hw
        rw [if_pos hw] at this
        exact .inl (wp_noExit (Oper.wp_mono (fun a' w' hs' => ih _ _ h3 a' w' hs') this))
      · rename_i hw
        rw [if_neg hw] at this
        exact ih _ _ h3 _ _ this
    · have := h1 a w hs
      split
      · rename_i hw
        rw [if_pos hw] at this
        exact .inl (wp_noExit (Oper.wp_mono (fun a' w' ⟨s', hx, hs'⟩ => ih _ _ (h2 s' hx) a' w' hs') this))
      · rename_i hw
        rw [if_neg hw] at this
        obtain ⟨s', hx, hs'⟩ := this
        exact ih _ _ (h2 s' hx) _ _ hs'

/-! ### any order that the edges allow -/
def depB (b : Array Nat) (j i : Nat) : Bool := (b.getD i 0).testBit j

/-- The feet of a region's operations (the last one first): any two that no edge orders do not meet. -/
def checkFrom (b : Array Nat) : List Foot → Bool
  | [] => true
  | f :: l => checkOne b f l.length l && checkFrom b l
where
  checkOne (b : Array Nat) (f : Foot) (i : Nat) : List Foot → Bool
  | [] => true
  | g :: l => (depB b l.length i || indep f g) && checkOne b f i l
def check (ops : Array Oper) (acc : List Foot) : Bool := checkFrom (Region.before ops) acc

theorem PW_region {P : Program} {c : Ctx} {Q : Exit → St → Prop} {s : St} {id : Nat} {l : List Oper} (h : PD P c true l.toArray l [] (fun _ s => Q .normal s) s) : PW P c (.region id l.toArray false) Q s :=
  fun a w hs => wp_region_lit (PD_list l [] s h a w hs)
def edgesOk (ops : Array Oper) : Bool := (List.range ops.size).all fun i => ((ops[i]?).map fun o => o.after.all fun e => !Region.binds .any e || Nat.blt e.on i).getD true

theorem before_size (l : List Oper) : ∀ (acc : Array Nat), (l.foldl (fun acc o => acc.push (o.after.foldl (fun s e => if Region.binds .any e then s ||| 2 ^ e.on ||| acc.getD e.on 0 else s) 0)) acc).size = acc.size + l.length := by
  induction l with
  | nil => intro acc; rfl
  | cons o l ih => intro acc; simp only [List.foldl_cons, List.length_cons, ih, Array.size_push]; omega

theorem orfold {A : Array Nat} {j : Nat} : ∀ (l : List Edge) (s : Nat), (l.foldl (fun s e => if Region.binds .any e then s ||| 2 ^ e.on ||| A.getD e.on 0 else s) s).testBit j = true →
    s.testBit j = true ∨ ∃ e ∈ l, Region.binds .any e = true ∧ (e.on = j ∨ (A.getD e.on 0).testBit j = true) := by
  intro l
  induction l with
  | nil => intro s h; exact .inl h
  | cons e l ih =>
    intro s h
    simp only [List.foldl_cons] at h
    rcases ih _ h with h | ⟨e', he', hb, hr⟩
    · split at h
      · rename_i hb
        simp only [Nat.testBit_or, Bool.or_eq_true] at h
        rcases h with (h | h) | h
        · exact .inl h
        · refine .inr ⟨e, by simp, hb, .inl ?_⟩
          rw [Nat.testBit_two_pow] at h
          simpa using h
        · exact .inr ⟨e, by simp, hb, .inr h⟩
      · exact .inl h
    · exact .inr ⟨e', by simp [he'], hb, hr⟩

/-- What the table of predecessors says: by an edge, or by an edge to an operation whose row in the table says so. -/
theorem before_spec (l : List Oper) : ∀ (acc : Array Nat),
    (∀ k, k < acc.size → (l.foldl (fun acc o => acc.push (o.after.foldl (fun s e => if Region.binds .any e then s ||| 2 ^ e.on ||| acc.getD e.on 0 else s) 0)) acc).getD k 0 = acc.getD k 0) ∧
    ∀ k j o, l[k]? = some o → ((l.foldl (fun acc o => acc.push (o.after.foldl (fun s e => if Region.binds .any e then s ||| 2 ^ e.on ||| acc.getD e.on 0 else s) 0)) acc).getD (acc.size + k) 0).testBit j = true →
      ∃ e ∈ o.after.toList, Region.binds .any e = true ∧ (e.on = j ∨ (e.on < acc.size + k ∧ ((l.foldl (fun acc o => acc.push (o.after.foldl (fun s e => if Region.binds .any e then s ||| 2 ^ e.on ||| acc.getD e.on 0 else s) 0)) acc).getD e.on 0).testBit j = true)) := by
  induction l with
  | nil => intro acc; exact ⟨fun _ _ => rfl, fun k j o h => by simp at h⟩
  | cons o l ih =>
    intro acc
    simp only [List.foldl_cons]
    generalize hA : acc.push (o.after.foldl (fun s e => if Region.binds .any e then s ||| 2 ^ e.on ||| acc.getD e.on 0 else s) 0) = A
    have hs : A.size = acc.size + 1 := by rw [← hA]; simp
    obtain ⟨h1, h2⟩ := ih A
    have hold : ∀ k, k < acc.size → A.getD k 0 = acc.getD k 0 := by
      intro k hk
      rw [← hA]
      simp [Array.getD_eq_getD_getElem?, Array.getElem?_push, show k ≠ acc.size by omega]
    refine ⟨fun k hk => by rw [h1 k (by omega), hold k hk], ?_⟩
    intro k j o' hk ht
    cases k with
    | zero =>
      simp only [List.getElem?_cons_zero, Option.some.injEq] at hk
      subst hk
      rw [Nat.add_zero, h1 _ (by omega)] at ht
      have : A.getD acc.size 0 = o.after.foldl (fun s e => if Region.binds .any e then s ||| 2 ^ e.on ||| acc.getD e.on 0 else s) 0 := by
        rw [← hA]; simp [Array.getD_eq_getD_getElem?]
      rw [this, ← Array.foldl_toList] at ht
      rcases orfold _ _ ht with h | ⟨e, he, hb, hr⟩
      · simp at h
      · refine ⟨e, he, hb, ?_⟩
        rcases hr with hr | hr
        · exact .inl hr
        · have hlt : e.on < acc.size := by
            rcases Nat.lt_or_ge e.on acc.size with h | h
            · exact h
            · simp [Array.getD_eq_getD_getElem?, Array.getElem?_eq_none h] at hr
          exact .inr ⟨by omega, by rw [h1 _ (by omega), hold _ hlt]; exact hr⟩
    | succ k =>
      simp only [List.getElem?_cons_succ] at hk
      have := h2 k j o' hk (by rw [hs]; rwa [show acc.size + 1 + k = acc.size + (k + 1) by omega])
      rw [hs] at this
      rwa [show acc.size + (k + 1) = acc.size + 1 + k by omega]

theorem dep_spec {ops : Array Oper} {k j : Nat} {o : Oper} (hk : ops[k]? = some o) (h : depB (Region.before ops) j k = true) :
    ∃ e ∈ o.after.toList, Region.binds .any e = true ∧ (e.on = j ∨ (e.on < k ∧ depB (Region.before ops) j e.on = true)) := by
  have := (before_spec ops.toList #[]).2 k j o (by simpa using hk)
  simp only [Nat.zero_add, List.size_toArray, List.length_nil] at this
  unfold depB Region.before at *
  rw [← Array.foldl_toList] at *
  exact this h

/-- Where all that an operation waits for has come up, all its predecessors have. -/
theorem dep_listed {ops : Array Oper} {listed : Array Bool} (hc : ∀ i o, ops[i]? = some o → listed.getD i false = true → ∀ e ∈ o.after.toList, Region.binds .any e = true → listed.getD e.on false = true) :
    ∀ (k : Nat) {j : Nat} {o : Oper}, ops[k]? = some o → (∀ e ∈ o.after.toList, Region.binds .any e = true → listed.getD e.on false = true) → depB (Region.before ops) j k = true → listed.getD j false = true := by
  intro k
  induction k using Nat.strongRecOn with
  | _ k ih =>
    intro j o hk hl hd
    obtain ⟨e, he, hb, hr⟩ := dep_spec hk hd
    have h1 := hl e he hb
    rcases hr with rfl | ⟨hlt, hr⟩
    · exact h1
    · cases ho : ops[e.on]? with
      | none =>
        have hsz : ops.size ≤ e.on := by
          rcases Nat.lt_or_ge e.on ops.size with h | h
          · rw [Array.getElem?_eq_getElem h] at ho; cases ho
          · exact h
        have : ((Region.before ops).getD e.on 0) = 0 := by
          have hs : (Region.before ops).size = ops.size := by
            have := before_size ops.toList #[]
            unfold Region.before
            rw [← Array.foldl_toList, this]; simp
          simp [Array.getD_eq_getD_getElem?, Array.getElem?_eq_none (by omega : (Region.before ops).size ≤ e.on)]
        simp [depB, this] at hr
      | some o' => exact ih e.on hlt ho (hc _ _ ho h1) hr

theorem checkOne_spec {b : Array Nat} {f : Foot} {i : Nat} : ∀ {l : List Foot}, checkFrom.checkOne b f i l = true → ∀ j g, l.reverse[j]? = some g → depB b j i = true ∨ indep f g = true := by
  intro l
  induction l with
  | nil => intro _ j g h; simp at h
  | cons x l ih =>
    intro h j g hg
    simp only [checkFrom.checkOne, Bool.and_eq_true, Bool.or_eq_true] at h
    simp only [List.reverse_cons] at hg
    rcases Nat.lt_trichotomy j l.length with hj | hj | hj
    · rw [List.getElem?_append_left (by simpa using hj)] at hg
      exact ih h.2 j g hg
    · subst hj
      rw [List.getElem?_append_right (by simp)] at hg
      simp at hg
      subst hg
      exact h.1
    · rw [List.getElem?_append_right (by simp; omega)] at hg
      simp only [List.length_reverse] at hg
      rw [List.getElem?_eq_none (by simp; omega)] at hg
      cases hg

theorem check_spec {b : Array Nat} : ∀ {l : List Foot}, checkFrom b l = true → ∀ i j f g, j < i → l.reverse[i]? = some f → l.reverse[j]? = some g → depB b j i = true ∨ indep f g = true := by
  intro l
  induction l with
  | nil => intro _ i j f g _ h; simp at h
  | cons x l ih =>
    intro h i j f g hji hf hg
    simp only [checkFrom, Bool.and_eq_true] at h
    simp only [List.reverse_cons] at hf hg
    rcases Nat.lt_trichotomy i l.length with hi | hi | hi
    · rw [List.getElem?_append_left (by simpa using hi)] at hf
      rw [List.getElem?_append_left (by simp; omega)] at hg
      exact ih h.2 i j f g hji hf hg
    · subst hi
      rw [List.getElem?_append_right (by simp)] at hf
      simp at hf
      subst hf
      rw [List.getElem?_append_left (by simpa using hji)] at hg
      exact checkOne_spec h.1 j g hg
    · rw [List.getElem?_append_right (by simp; omega)] at hf
      rw [List.getElem?_eq_none (by simp; omega)] at hf
      cases hf

theorem PD_feet {P : Program} {c : Ctx} {ops : Array Oper} {Q : List Foot → St → Prop} : ∀ (l : List Oper) (acc : List Foot) (s : St), PD P c false ops l acc Q s →
    ∃ feet s', feet.length = l.length ∧ (∀ (i : Nat) (o : Oper) (f : Foot), l[i]? = some o → feet[i]? = some f → OSem P c ops o f) ∧ Runs feet s s' ∧ Q (feet.reverse ++ acc) s' := by
  intro l
  induction l with
  | nil => intro acc s h; exact ⟨[], s, rfl, by simp, Same.refl s, h⟩
  | cons o l ih =>
    intro acc s h
    rcases h with ⟨f, h1, h2, h3⟩ | ⟨h, _⟩
    · obtain ⟨feet, s', e1, e2, e3, e4⟩ := ih _ _ h3
      refine ⟨f :: feet, s', by simp [e1], ?_, ⟨h2, e3⟩, by simpa using e4⟩
      intro i o' f' ho hf
      cases i with
      | zero => simp at ho hf; subst ho; subst hf; exact h1
      | succ i => simp at ho hf; exact e2 i o' f' ho hf
    · cases h

theorem any_order {P : Program} {c : Ctx} {ops : Array Oper} {Q : Exit → Act → World → Prop} {feet : List Foot} {s' : St} (hlen : feet.length = ops.size)
    (hsem : ∀ (i : Nat) (o : Oper) (f : Foot), ops[i]? = some o → feet[i]? = some f → OSem P c ops o f) (hck : check ops feet.reverse = true) (hed : edgesOk ops = true)
    (hQ : ∀ a w, Sim P c s' a w → Q .normal a w) : ∀ (rem : List Nat) (listed : Array Bool) (s : St) (a : Act) (w : World), listed.size = ops.size → rem.Pairwise (· < ·) → (∀ i, i ∈ rem ↔ i < ops.size ∧ listed.getD i true = false) →
      (∀ i o, ops[i]? = some o → listed.getD i false = true → ∀ e ∈ o.after.toList, Region.binds .any e = true → listed.getD e.on false = true) →
      Runs (rem.map fun i => feet.getD i {}) s s' → Sim P c s a w → wpAny P .any ops Q rem.length listed a w := by
  intro rem
  generalize hn : rem.length = n
  induction n generalizing rem with
  | zero =>
    intro listed s a w hsz _ hrem _ hruns hs
    have : rem = [] := List.eq_nil_of_length_eq_zero hn
    subst this
    refine ⟨?_, hQ a w (hs.weak (Same.weak hruns))⟩
    unfold Region.ready
    rw [List.filter_eq_nil_iff]
    intro i hi hr
    simp only [Bool.and_eq_true, Bool.not_eq_true'] at hr
    have := (hrem i).2 ⟨by simpa using hi, hr.1⟩
    cases this
  | succ n ih =>
    intro listed s a w hsz hsort hrem hcl hruns hs
    have gd : ∀ i, i < ops.size → listed.getD i true = listed.getD i false := by
      intro i hi
      simp [Array.getD_eq_getD_getElem?, Array.getElem?_eq_getElem (by omega : i < listed.size)]
    constructor
    · intro hnil
      exfalso
      match rem, hn, hsort, hrem with
      | i :: r, _, hsort, hrem =>
        have hi := (hrem i).1 (by simp)
        have hmem : i ∈ Region.ready .any ops listed := by
          unfold Region.ready
          rw [List.mem_filter]
          refine ⟨by simpa using hi.1, ?_⟩
          simp only [hi.2, Bool.not_false, Bool.true_and]
          rw [Array.getElem?_eq_getElem hi.1]
          simp only [Option.map_some, Option.getD_some, Array.all_eq_true_iff_forall_mem]
          intro e he
          unfold edgesOk at hed
          rw [List.all_eq_true] at hed
          have h1 := hed i (by simpa using hi.1)
          rw [Array.getElem?_eq_getElem hi.1] at h1
          simp only [Option.map_some, Option.getD_some, Array.all_eq_true_iff_forall_mem] at h1
          have h2 := h1 e he
          simp only [Bool.or_eq_true, Bool.not_eq_true'] at h2 ⊢
          rcases h2 with h2 | h2
          · exact .inl h2
          · right
            have hlt : e.on < i := by simpa [Nat.blt_eq] using h2
            cases hl : listed.getD e.on false with
            | true => rfl
            | false =>
              have := (hrem e.on).2 ⟨by omega, by rw [gd _ (by omega)]; exact hl⟩
              rcases List.mem_cons.1 this with h | h
              · omega
              · have := (List.pairwise_cons.1 hsort).1 _ h; omega
        rw [hnil] at hmem
        cases hmem
    · intro i hi
      unfold Region.ready at hi
      rw [List.mem_filter] at hi
      have hlt : i < ops.size := by simpa using hi.1
      have hi2 := hi.2
      simp only [Bool.and_eq_true, Bool.not_eq_true'] at hi2
      have hmem : i ∈ rem := (hrem i).2 ⟨hlt, hi2.1⟩
      obtain ⟨pre, post, rfl⟩ := List.append_of_mem hmem
      have ho : ops[i]? = some ops[i] := Array.getElem?_eq_getElem hlt
      have haft : ∀ e ∈ ops[i].after.toList, Region.binds .any e = true → listed.getD e.on false = true := by
        intro e he hb
        have := hi2.2
        rw [ho] at this
        simp only [Option.map_some, Option.getD_some, Array.all_eq_true_iff_forall_mem] at this
        have := this e (by simpa using he)
        simpa [hb] using this
      have hfi : feet[i]? = some feet[i] := List.getElem?_eq_getElem (by omega)
      have hgi : feet.getD i {} = feet[i] := by simp [List.getD_eq_getElem?_getD, hfi]
      simp only [List.map_append, List.map_cons] at hruns
      have hind : ∀ g ∈ pre.map (fun i => feet.getD i {}), indep (feet.getD i {}) g = true := by
        intro g hg
        obtain ⟨j, hj, rfl⟩ := List.mem_map.1 hg
        have hjr := (hrem j).1 (by simp [hj])
        have hji : j < i := by
          have := (List.pairwise_append.1 hsort).2.2 j hj i (by simp)
          exact this
        have hfj : feet[j]? = some feet[j] := List.getElem?_eq_getElem (by omega)
        rw [hgi, show feet.getD j {} = feet[j] by simp [List.getD_eq_getElem?_getD, hfj]]
        rcases check_spec hck i j feet[i] feet[j] hji (by simp [hfi]) (by simp [hfj]) with hd | hd
        · have := dep_listed hcl i ho haft hd
          rw [gd _ (by omega)] at hjr
          rw [this] at hjr
          simp at hjr
        · exact hd
      obtain ⟨hh, hrun'⟩ := Runs.front hind hruns
      rw [hgi] at hh hrun'
      have hop := hsem i _ _ ho hfi s a w hh hs
      have hnext : ∀ a' w', Sim P c (ap feet[i] s) a' w' → wpAny P .any ops Q n (listed.setIfInBounds i true) a' w' := by
        intro a' w' hs'
        have hget : ∀ j d, (listed.setIfInBounds i true).getD j d = if j = i then true else listed.getD j d := by
          intro j d
          rw [Array.getD_eq_getD_getElem?, Array.getElem?_setIfInBounds]
          by_cases h : i = j
          · subst h; simp [show i < listed.size by omega]
          · rw [if_neg h, if_neg (fun e => h e.symm), Array.getD_eq_getD_getElem?]
        refine ih (pre ++ post) (by simp at hn ⊢; omega) _ (ap feet[i] s) a' w' (by simpa using hsz) ?_ ?_ ?_ ?_ hs'
        · rw [List.pairwise_append] at hsort ⊢
          exact ⟨hsort.1, (List.pairwise_cons.1 hsort.2.1).2, fun x hx y hy => hsort.2.2 x hx y (by simp [hy])⟩
        · intro j
          rw [hget]
          constructor
          · intro hj
            have hj' : j ∈ pre ++ i :: post := by
              rcases List.mem_append.1 hj with h | h
              · exact List.mem_append.2 (.inl h)
              · exact List.mem_append.2 (.inr (List.mem_cons.2 (.inr h)))
            have := (hrem j).1 hj'
            refine ⟨this.1, ?_⟩
            rw [if_neg]
            · exact this.2
            · rintro rfl
              rcases List.mem_append.1 hj with h | h
              · have := (List.pairwise_append.1 hsort).2.2 j h j (by simp); omega
              · have := (List.pairwise_cons.1 (List.pairwise_append.1 hsort).2.1).1 j h; omega
          · rintro ⟨h1, h2⟩
            by_cases hji : j = i
            · simp [hji] at h2
            · rw [if_neg hji] at h2
              have := (hrem j).2 ⟨h1, h2⟩
              rcases List.mem_append.1 this with h | h
              · exact List.mem_append.2 (.inl h)
              · rcases List.mem_cons.1 h with h | h
                · exact absurd h hji
                · exact List.mem_append.2 (.inr h)
        · intro j o hj hl e he hb
          rw [hget] at hl ⊢
          split
          · rfl
          · by_cases hji : j = i
            · subst hji
              rw [ho] at hj
              cases hj
              exact haft e he hb
            · rw [if_neg hji] at hl
              exact hcl j o hj hl e he hb
        · simpa using hrun'
      unfold wpOp
      rw [ho]
      simp only
      split
      · rename_i hw
        rw [if_pos hw] at hop
        exact .inl (wp_noExit (Oper.wp_mono (fun a' w' h => hnext a' w' h) hop))
      · rename_i hw
        rw [if_neg hw] at hop
        exact hnext _ _ hop

theorem Sim.drew {P : Program} {c : Ctx} {s : St} {a : Act} {w : World} (h : Sim P c s a w) : Sim P c s a { w with drawn := w.drawn + 1 } := by
  obtain ⟨F, L, h⟩ := h
  exact ⟨F, L, { h with ag := h.ag, fr := ⟨h.fr.os, h.fr.tape, h.fr.output, h.fr.size, h.fr.block⟩, ob := h.ob, lk := ⟨h.lk.own, h.lk.free, h.lk.inj⟩ }⟩

class Mixed (P : Program) : Prop where
  h : P.follows .mixedOrders = true

theorem PW_draw {P : Program} [hm : Mixed P] {c : Ctx} {Q : Exit → St → Prop} {s : St} {id : Nat} {l : List Oper} (hed : edgesOk l.toArray = true)
    (h : PD P c false l.toArray l [] (fun acc s => check l.toArray acc = true ∧ Q .normal s) s) : PW P c (.region id l.toArray true) Q s := by
  intro a w hs
  obtain ⟨feet, s', h1, h2, h3, h4, h5⟩ := PD_feet l [] s h
  refine wp_region_any hm.h ?_
  have := any_order (P := P) (c := c) (ops := l.toArray) (Q := fun e a' w' => ∃ s', Q e s' ∧ Sim P c s' a' w') (feet := feet) (s' := s') (by simpa using h1) (by simpa using h2) (by simpa using h4) hed
    (fun a w hs => ⟨s', h5, hs⟩) (List.range l.length) (Array.replicate l.length false) s a { w with drawn := w.drawn + 1 } (by simp) List.pairwise_lt_range (by intro i; simp [Array.getD_eq_getD_getElem?, Array.getElem?_replicate]; intro h; simp [h])
    (by intro i o _ hl; simp [Array.getD_eq_getD_getElem?, Array.getElem?_replicate] at hl; split at hl <;> simp at hl) ?_ hs.drew
  · simpa using this
  · have : (List.range l.length).map (fun i => feet.getD i {}) = feet := by
      apply List.ext_getElem?
      intro i
      by_cases hi : i < l.length
      · simp [hi, List.getD_eq_getElem?_getD, List.getElem?_eq_getElem (by omega : i < feet.length)]
      · simp [hi, List.getElem?_eq_none (by omega : feet.length ≤ i)]
    rw [this]; exact h3
end Go.Pu
/- The pure layer, part 3: operations that change no memory. Any program. -/
namespace Go.Pu
open Go

/-! What the steps ask of the program's table of types. -/
class TSz (P : Program) (t : TypeId) (n : outParam Nat) : Prop where
  h : ∃ i, P.info? t = some i ∧ i.size = n
class TAgg (P : Program) (t : TypeId) : Prop where
  h : ∃ d, P.underlying t = some d ∧ (match d with | .struct _ | .array _ _ => True | _ => False)
class TOne (P : Program) (t : TypeId) : Prop where
  h : ∃ d, P.underlying t = some d ∧ (match d with | .struct _ | .array _ _ => False | _ => True)
class TSlice (P : Program) (t : TypeId) (e : outParam TypeId) : Prop where
  h : P.underlying t = some (.slice e)
class TArr (P : Program) (t : TypeId) (n : outParam Nat) (e : outParam TypeId) : Prop where
  h : P.underlying t = some (.array n e)
class TStr (P : Program) (t : TypeId) : Prop where
  h : P.underlying t = some .string
class TInt (P : Program) (t : TypeId) (k : outParam IntKind) : Prop where
  h : P.underlying t = some (.int k)
class TBool (P : Program) (t : TypeId) : Prop where
  h : P.underlying t = some .bool
class TField (P : Program) (t : TypeId) (f : Nat) (off : outParam Nat) (ft : outParam TypeId) : Prop where
  h : ∃ fs fd, P.underlying t = some (.struct fs) ∧ fs[f]? = some fd ∧ fd.offset = off ∧ fd.type = ft

theorem some_of_getD {a : Array Value} {d : Nat} {b : Bool} (h : a.getD d undef = .bool b) : a[d]? = some (.bool b) := by
  rw [Array.getD_eq_getD_getElem?] at h
  cases hx : a[d]? with
  | none => rw [hx] at h; simp [undef] at h
  | some v => rw [hx] at h; simpa using h
theorem getD_put_same (a : Act) (d : Nat) (v : Value) (h : d < a.tmps.size) : (a.put (some d) v).tmps.getD d undef = v := by
  simp [Act.put, Array.getD, h]
theorem getD_put_other (a : Act) (d t : Nat) (v : Value) (h : d ≠ t) : (a.put (some d) v).tmps.getD t undef = a.tmps.getD t undef := by
  simp only [Act.put, Array.getD_eq_getD_getElem?, Array.getElem?_setIfInBounds, if_neg h]
theorem size_put (a : Act) (d : Option Nat) (v : Value) : (a.put d v).tmps.size = a.tmps.size := by
  cases d <;> simp [Act.put]
theorem defers_put (a : Act) (d : Option Nat) (v : Value) : (a.put d v).defers = a.defers := by
  cases d <;> simp [Act.put]

section
variable {P : Program} {c : Ctx} {ops : Array Oper}

theorem SimFL.set {s : St} {a : Act} {w : World} {F : FMap} {L : LMap} (h : SimFL P c s a w F L) {d : Nat} (hd : d < c.n) {nv : PV} {v : Value} (hv : RP F L nv v) :
    SimFL P c ⟨.set d nv :: s.regs, s.objs⟩ (a.put (some d) v) w F L where
  df := by rw [defers_put]; exact h.df
  sz := by rw [size_put]; exact h.sz
  ag := h.ag
  fr := h.fr
  fx := h.fx
  rg := by
    intro t v' ht
    simp only [look] at ht
    cases hb : Nat.beq d t with
    | true =>
      rw [hb] at ht
      cases ht
      rw [← beq_of hb, getD_put_same _ _ _ (by rw [h.sz]; exact hd)]
      exact hv
    | false =>
      rw [hb] at ht
      rw [getD_put_other _ _ _ _ (ne_of_beq hb)]
      exact h.rg _ _ ht
  ob := h.ob
  lk := h.lk
  fe := h.fe
  pn := h.pn
  f0 := h.f0

theorem SimFL.dropd {s : St} {a : Act} {w : World} {F : FMap} {L : LMap} (h : SimFL P c s a w F L) (d : Nat) (v : Value) :
    SimFL P c ⟨.drop d :: s.regs, s.objs⟩ (a.put (some d) v) w F L where
  df := by rw [defers_put]; exact h.df
  sz := by rw [size_put]; exact h.sz
  ag := h.ag
  fr := h.fr
  fx := h.fx
  rg := by
    intro t v' ht
    simp only [look] at ht
    cases hb : Nat.beq d t with
    | true => rw [hb] at ht; cases ht
    | false =>
      rw [hb] at ht
      rw [getD_put_other _ _ _ _ (ne_of_beq hb)]
      exact h.rg _ _ ht
  ob := h.ob
  lk := h.lk
  fe := h.fe
  pn := h.pn
  f0 := h.f0

/-- The slots that an operand looks at. -/
def rdx : Operand × PV → List (Nat × PV)
  | (.tmp t, v) => [(t, v)]
  | _ => []

theorem ev_rdx {r r' : List REv} {p : Operand × PV} (h : ev r p.1 = some p.2) (k : ∀ x ∈ rdx p, look r' x.1 = some x.2) : ev r' p.1 = some p.2 := by
  obtain ⟨x, v⟩ := p
  cases x with
  | tmp t => exact k (t, v) (by simp [rdx])
  | const c =>
    have e : ev r' (.const c) = ev r (.const c) := by
      cases c with
      | slice a l cp => cases a <;> cases l <;> cases cp <;> rfl
      | _ => rfl
    exact e.trans h
  | global g => exact h
  | func f => exact h

theorem rdx_holds {r : List REv} {p : Operand × PV} (h : ev r p.1 = some p.2) : ∀ x ∈ rdx p, look r x.1 = some x.2 := by
  obtain ⟨x, v⟩ := p
  cases x with
  | tmp t => intro x hx; simp only [rdx, List.mem_singleton] at hx; subst hx; exact h
  | const c => intro x hx; cases hx
  | global g => intro x hx; cases hx
  | func f => intro x hx; cases hx

theorem holds_of {r : List REv} {o : List OEv} {xs : List (Operand × PV)} {ro : List (Nat × Obj)} {wr : List REv} {wo : List OEv} (hx : ∀ p ∈ xs, ev r p.1 = some p.2) (hro : ∀ p ∈ ro, lookO o p.1 = some p.2) :
    holds ⟨r, o⟩ ⟨xs.flatMap rdx, ro, wr, wo⟩ := by
  refine ⟨fun x h => ?_, hro⟩
  obtain ⟨p, hp, hxp⟩ := List.mem_flatMap.1 h
  exact rdx_holds (hx p hp) x hxp

theorem ev_of_holds {r r' : List REv} {o' : List OEv} {xs : List (Operand × PV)} {ro : List (Nat × Obj)} {wr : List REv} {wo : List OEv} (hx : ∀ p ∈ xs, ev r p.1 = some p.2) (h : holds ⟨r', o'⟩ ⟨xs.flatMap rdx, ro, wr, wo⟩) :
    ∀ p ∈ xs, ev r' p.1 = some p.2 := fun p hp => ev_rdx (hx p hp) fun x hxp => h.1 x (List.mem_flatMap.2 ⟨p, hp, hxp⟩)

/-- One unguarded operation from the state s, by the foot f. -/
def Op1 (P : Program) (c : Ctx) (ops : Array Oper) (dst : Option Nat) (op : Op) (ty : TypeId) (pos : String) (af : Array Edge) (s : St) (f : Foot) : Prop :=
  OSem P c ops ⟨dst, op, ty, pos, af, none⟩ f ∧ holds s f

/-- An operation that computes a value and leaves the world alone. -/
theorem S_quiet {r : List REv} {o : List OEv} {d : Nat} {op : Op} {ty : TypeId} {pos : String} {af : Array Edge} (xs : List (Operand × PV)) (ro : List (Nat × Obj)) (nv : PV) (hd : Nat.blt d c.n = true)
    (hx : ∀ p ∈ xs, ev r p.1 = some p.2) (hro : ∀ p ∈ ro, lookO o p.1 = some p.2)
    (h : ∀ (ρ : Operand → Value) w F L, (∀ p ∈ xs, RP F L p.2 (ρ p.1)) → (∀ p ∈ ro, ObjOk P F L w p.1 p.2) → Ag F w →
      ∃ v, (execOp ρ ⟨some d, op, ty, pos, af, none⟩).run P w = .ok (.value v) w ∧ RP F L nv v) :
    Op1 P c ops (some d) op ty pos af ⟨r, o⟩ ⟨xs.flatMap rdx, ro, [.set d nv], []⟩ := by
  refine ⟨?_, holds_of hx hro⟩
  rintro ⟨r', o'⟩ a w hh ⟨F, L, hs⟩
  rw [if_pos (by simp [Region.wanted])]
  have hx' := ev_of_holds hx hh
  obtain ⟨v, hr, hv⟩ := h a.eval w F L (fun p hp => ev_ok hs.rg (hx' p hp)) (fun p hp => hs.ob _ _ (hh.2 p hp)) hs.ag
  unfold Oper.wp
  rw [hr]
  exact ⟨F, L, hs.set (by simpa [Nat.blt_eq] using hd) hv⟩

theorem S_quiet0 {r : List REv} {o : List OEv} {d : Nat} {op : Op} {ty : TypeId} {pos : String} {af : Array Edge} (nv : PV) (hd : Nat.blt d c.n = true)
    (h : ∀ (ρ : Operand → Value) w F L, Ag F w → ∃ v, (execOp ρ ⟨some d, op, ty, pos, af, none⟩).run P w = .ok (.value v) w ∧ RP F L nv v) :
    Op1 P c ops (some d) op ty pos af ⟨r, o⟩ ⟨[], [], [.set d nv], []⟩ :=
  S_quiet [] [] nv hd (by simp) (by simp) (fun ρ w F L _ _ ha => h ρ w F L ha)
theorem S_quiet1 {r : List REv} {o : List OEv} {d : Nat} {op : Op} {ty : TypeId} {pos : String} {af : Array Edge} {x : Operand} {u : PV} (nv : PV) (hx : ev r x = some u) (hd : Nat.blt d c.n = true)
    (h : ∀ (ρ : Operand → Value) w F L, RP F L u (ρ x) → Ag F w → ∃ v, (execOp ρ ⟨some d, op, ty, pos, af, none⟩).run P w = .ok (.value v) w ∧ RP F L nv v) :
    Op1 P c ops (some d) op ty pos af ⟨r, o⟩ ⟨[(x, u)].flatMap rdx, [], [.set d nv], []⟩ :=
  S_quiet [(x, u)] [] nv hd (by simpa using hx) (by simp) (fun ρ w F L hx _ ha => h ρ w F L (hx (x, u) (by simp)) ha)
theorem S_quiet2 {r : List REv} {o : List OEv} {d : Nat} {op : Op} {ty : TypeId} {pos : String} {af : Array Edge} {x y : Operand} {u v : PV} (nv : PV) (hx : ev r x = some u) (hy : ev r y = some v) (hd : Nat.blt d c.n = true)
    (h : ∀ (ρ : Operand → Value) w F L, RP F L u (ρ x) → RP F L v (ρ y) → Ag F w → ∃ v, (execOp ρ ⟨some d, op, ty, pos, af, none⟩).run P w = .ok (.value v) w ∧ RP F L nv v) :
    Op1 P c ops (some d) op ty pos af ⟨r, o⟩ ⟨[(x, u), (y, v)].flatMap rdx, [], [.set d nv], []⟩ :=
  S_quiet [(x, u), (y, v)] [] nv hd (by simpa using ⟨hx, hy⟩) (by simp) (fun ρ w F L hx _ ha => h ρ w F L (hx (x, u) (by simp)) (hx (y, v) (by simp)) ha)
/-- One operand that leans on an object. -/
theorem S_quietO {r : List REv} {o : List OEv} {d : Nat} {op : Op} {ty : TypeId} {pos : String} {af : Array Edge} {x : Operand} {u : PV} {id : Nat} {ob : Obj} (nv : PV) (hx : ev r x = some u) (ho : lookO o id = some ob) (hd : Nat.blt d c.n = true)
    (h : ∀ (ρ : Operand → Value) w F L, RP F L u (ρ x) → ObjOk P F L w id ob → ∃ v, (execOp ρ ⟨some d, op, ty, pos, af, none⟩).run P w = .ok (.value v) w ∧ RP F L nv v) :
    Op1 P c ops (some d) op ty pos af ⟨r, o⟩ ⟨[(x, u)].flatMap rdx, [(id, ob)], [.set d nv], []⟩ :=
  S_quiet [(x, u)] [(id, ob)] nv hd (by simpa using hx) (by simpa using ho) (fun ρ w F L hx ho _ => h ρ w F L (hx (x, u) (by simp)) (ho (id, ob) (by simp)))

/-! ### guards -/
theorem wanted_of {o : Oper} {j : Nat} {want b : Bool} {d : Nat} {a : Act} {F : FMap} {L : LMap} (hg : o.guard = some (j, want)) (hj : (ops[j]?).bind (·.dst) = some d) (hv : RP F L (.c (.g (.bool b))) (a.tmps.getD d undef)) :
    Region.wanted o (yielded ops a.tmps) = (b == want) := by
  simp only [RP, RL] at hv
  generalize hx : a.tmps.getD d undef = x at hv
  cases hv
  simp only [Region.wanted, hg, yielded, hj]
  simp [some_of_getD hx]

/-- The guard says: go on. 'ex': what it looked at. -/
inductive GOk (ops : Array Oper) (r : List REv) : Option (Nat × Bool) → List (Nat × PV) → Prop where
  | none : GOk ops r none []
  | yes {j d : Nat} {want b : Bool} (hj : (ops[j]?).bind (·.dst) = some d) (hb : look r d = some (.c (.g (.bool b)))) (hw : b = want) : GOk ops r (some (j, want)) [(d, .c (.g (.bool want)))]

theorem Op1.guarded {r : List REv} {o : List OEv} {dst : Option Nat} {op : Op} {ty : TypeId} {pos : String} {af : Array Edge} {gd : Option (Nat × Bool)} {ex rr : List (Nat × PV)} {ro : List (Nat × Obj)} {wr : List REv} {wo : List OEv}
    (hg : GOk ops r gd ex) (h : Op1 P c ops dst op ty pos af ⟨r, o⟩ ⟨rr, ro, wr, wo⟩) : OSem P c ops ⟨dst, op, ty, pos, af, gd⟩ ⟨ex ++ rr, ro, wr, wo⟩ ∧ holds ⟨r, o⟩ ⟨ex ++ rr, ro, wr, wo⟩ := by
  obtain ⟨h1, h2⟩ := h
  cases hg with
  | none => exact ⟨h1, h2⟩
  | yes hj hb hw =>
    rename_i j d want b
    refine ⟨?_, ⟨fun x hx => ?_, h2.2⟩⟩
    · intro s a w hh hs
      have hh' : holds s ⟨rr, ro, wr, wo⟩ := ⟨fun x hx => hh.1 x (by simp [hx]), hh.2⟩
      have := h1 s a w hh' hs
      rw [if_pos (by simp [Region.wanted])] at this
      obtain ⟨F, L, hs⟩ := hs
      have hv := hs.rg d _ (hh.1 (d, .c (.g (.bool want))) (by simp))
      rw [wanted_of (o := ⟨dst, op, ty, pos, af, some (j, want)⟩) rfl hj hv]
      rw [if_pos (by simp)]
      exact this
    · rcases List.mem_cons.1 hx with rfl | hx
      · show look r d = _; rw [hb, hw]
      · exact h2.1 x hx

section
variable {nd : Bool} {Q : List Foot → St → Prop} {rest : List Oper} {acc : List Foot}
variable {r : List REv} {o : List OEv} {dst : Option Nat} {op : Op} {ty : TypeId} {pos : String} {af : Array Edge} {gd : Option (Nat × Bool)} {ex rr : List (Nat × PV)} {ro : List (Nat × Obj)}

/-- One step, by what it changes: so many slots' events, so many objects' events. -/
theorem P10 {e1 : REv} (hg : GOk ops r gd ex) (h : Op1 P c ops dst op ty pos af ⟨r, o⟩ ⟨rr, ro, [e1], []⟩)
    (k : PD P c nd ops rest (⟨ex ++ rr, ro, [e1], []⟩ :: acc) Q ⟨e1 :: r, o⟩) : PD P c nd ops (⟨dst, op, ty, pos, af, gd⟩ :: rest) acc Q ⟨r, o⟩ :=
  .inl ⟨_, (h.guarded hg).1, (h.guarded hg).2, k⟩
theorem P01 {f1 : OEv} (hg : GOk ops r gd ex) (h : Op1 P c ops dst op ty pos af ⟨r, o⟩ ⟨rr, ro, [], [f1]⟩)
    (k : PD P c nd ops rest (⟨ex ++ rr, ro, [], [f1]⟩ :: acc) Q ⟨r, f1 :: o⟩) : PD P c nd ops (⟨dst, op, ty, pos, af, gd⟩ :: rest) acc Q ⟨r, o⟩ :=
  .inl ⟨_, (h.guarded hg).1, (h.guarded hg).2, k⟩
theorem P22 {e1 e2 : REv} {f1 f2 : OEv} (hg : GOk ops r gd ex) (h : Op1 P c ops dst op ty pos af ⟨r, o⟩ ⟨rr, ro, [e1, e2], [f1, f2]⟩)
    (k : PD P c nd ops rest (⟨ex ++ rr, ro, [e1, e2], [f1, f2]⟩ :: acc) Q ⟨e1 :: e2 :: r, f1 :: f2 :: o⟩) : PD P c nd ops (⟨dst, op, ty, pos, af, gd⟩ :: rest) acc Q ⟨r, o⟩ :=
  .inl ⟨_, (h.guarded hg).1, (h.guarded hg).2, k⟩
theorem P00 {wr : List REv} {wo : List OEv} (hg : GOk ops r gd ex) (h : Op1 P c ops dst op ty pos af ⟨r, o⟩ ⟨rr, ro, wr, wo⟩)
    (k : PD P c nd ops rest (⟨ex ++ rr, ro, wr, wo⟩ :: acc) Q ⟨wr ++ r, wo ++ o⟩) : PD P c nd ops (⟨dst, op, ty, pos, af, gd⟩ :: rest) acc Q ⟨r, o⟩ :=
  .inl ⟨_, (h.guarded hg).1, (h.guarded hg).2, k⟩
theorem Pskip {d' j d : Nat} {want b : Bool} (hj : (ops[j]?).bind (·.dst) = some d) (hb : look r d = some (.c (.g (.bool b)))) (hw : b = !want) (hd : Nat.blt d' c.n = true)
    (k : PD P c nd ops rest (⟨[(d, .c (.g (.bool !want)))], [], [.set d' (.c (.g (.tup [])))], []⟩ :: acc) Q ⟨.set d' (.c (.g (.tup []))) :: r, o⟩) : PD P c nd ops (⟨some d', op, ty, pos, af, some (j, want)⟩ :: rest) acc Q ⟨r, o⟩ := by
  refine .inl ⟨⟨[(d, .c (.g (.bool !want)))], [], [.set d' (.c (.g (.tup [])))], []⟩, ?_, ⟨by simp [hb, hw], by simp⟩, k⟩
  intro s a w hh hs
  obtain ⟨F, L, hs⟩ := hs
  have hv := hs.rg d _ (hh.1 (d, .c (.g (.bool !want))) (by simp))
  rw [wanted_of (o := ⟨some d', op, ty, pos, af, some (j, want)⟩) rfl hj hv]
  rw [if_neg (by cases want <;> simp)]
  exact ⟨F, L, hs.set (by simpa [Nat.blt_eq] using hd) (nv := .c (.g (.tup []))) (RG.tup [] [] rfl (by simp))⟩
/-- A guard on a slot that was itself passed over. -/
theorem Pskip2 {d' j d : Nat} {want : Bool} (hj : (ops[j]?).bind (·.dst) = some d) (hb : look r d = some (.c (.g (.tup [])))) (hd : Nat.blt d' c.n = true)
    (k : PD P c nd ops rest (⟨[(d, .c (.g (.tup [])))], [], [.set d' (.c (.g (.tup [])))], []⟩ :: acc) Q ⟨.set d' (.c (.g (.tup []))) :: r, o⟩) : PD P c nd ops (⟨some d', op, ty, pos, af, some (j, want)⟩ :: rest) acc Q ⟨r, o⟩ := by
  refine .inl ⟨⟨[(d, .c (.g (.tup [])))], [], [.set d' (.c (.g (.tup [])))], []⟩, ?_, ⟨by simp [hb], by simp⟩, k⟩
  intro s a w hh hs
  obtain ⟨F, L, hs⟩ := hs
  have hv := hs.rg d _ (hh.1 (d, .c (.g (.tup []))) (by simp))
  have hy : yielded ops a.tmps j = none := by
    simp only [RP, RL] at hv
    generalize hx : a.tmps.getD d undef = x at hv
    cases hv with
    | tup _ vs hl _ =>
      simp only [yielded, hj, Option.bind_some]
      rw [Array.getD_eq_getD_getElem?] at hx
      cases hg : a.tmps[d]? with
      | none => rfl
      | some v => rw [hg] at hx; simp at hx; rw [hx]
  rw [if_neg (by simp [Region.wanted, hy])]
  exact ⟨F, L, hs.set (by simpa [Nat.blt_eq] using hd) (nv := .c (.g (.tup []))) (RG.tup [] [] rfl (by simp))⟩
theorem Pend (k : Q acc ⟨r, o⟩) : PD P c nd ops [] acc Q ⟨r, o⟩ := k
end

/-! ### moves -/
theorem S_move {r : List REv} {o : List OEv} {d : Nat} {x : Operand} {ty : TypeId} {pos : String} {af : Array Edge} {v : PV} (hx : ev r x = some v) (hd : Nat.blt d c.n = true) :
    Op1 P c ops (some d) (.move x) ty pos af ⟨r, o⟩ ⟨[(x, v)].flatMap rdx, [], [.set d v], []⟩ :=
  S_quiet1 v hx hd (fun ρ _ _ _ hr _ => ⟨ρ x, by simp [execOp], hr⟩)
theorem S_assign {r : List REv} {o : List OEv} {d : Nat} {x : Operand} {ty : TypeId} {pos : String} {af : Array Edge} {v : PV} (hx : ev r x = some v) (hd : Nat.blt d c.n = true) :
    Op1 P c ops (some d) (.assign x) ty pos af ⟨r, o⟩ ⟨[(x, v)].flatMap rdx, [], [.set d v], []⟩ :=
  S_quiet1 v hx hd (fun ρ _ _ _ hr _ => ⟨ρ x, by simp [execOp], hr⟩)

theorem gbool {F : FMap} {L : LMap} {b : Bool} {v : Value} (h : RP F L (.c (.g (.bool b))) v) : v = .bool b := by
  simp only [RP, RL] at h; cases h; rfl
theorem gint {F : FMap} {L : LMap} {k : IntKind} {n : Int} {v : Value} (h : RP F L (.c (.g (.int k n))) v) : v = .int k n := by
  simp only [RP, RL] at h; cases h; rfl
theorem gstr {F : FMap} {L : LMap} {l : List UInt8} {v : Value} (h : RP F L (.c (.g (.str l))) v) : v = .string ⟨⟨l⟩⟩ := by
  simp only [RP, RL] at h; cases h; rfl

theorem S_pickT {r : List REv} {o : List OEv} {d : Nat} {x y z : Operand} {ty : TypeId} {pos : String} {af : Array Edge} {v : PV} {b : Bool} (hx : ev r x = some (.c (.g (.bool b)))) (hb : b = true)
    (hy : ev r y = some v) (hd : Nat.blt d c.n = true) : Op1 P c ops (some d) (.pick x y z) ty pos af ⟨r, o⟩ ⟨[(x, .c (.g (.bool b))), (y, v)].flatMap rdx, [], [.set d v], []⟩ :=
  S_quiet2 v hx hy hd (fun ρ _ _ _ h1 h2 _ => ⟨ρ y, by simp [execOp, asBool, gbool h1, hb], h2⟩)
theorem S_pickF {r : List REv} {o : List OEv} {d : Nat} {x y z : Operand} {ty : TypeId} {pos : String} {af : Array Edge} {v : PV} {b : Bool} (hx : ev r x = some (.c (.g (.bool b)))) (hb : b = false)
    (hy : ev r z = some v) (hd : Nat.blt d c.n = true) : Op1 P c ops (some d) (.pick x y z) ty pos af ⟨r, o⟩ ⟨[(x, .c (.g (.bool b))), (z, v)].flatMap rdx, [], [.set d v], []⟩ :=
  S_quiet2 v hx hy hd (fun ρ _ _ _ h1 h2 _ => ⟨ρ z, by simp [execOp, asBool, gbool h1, hb], h2⟩)

/-! ### arithmetic -/
theorem S_bin {r : List REv} {o : List OEv} {d : Nat} {x y : Operand} {ty t1 t2 : TypeId} {pos : String} {af : Array Edge} {op : BinOp} {u v : GV} {z : GV}
    (hx : ev r x = some (.c (.g u))) (hy : ev r y = some (.c (.g v))) (hd : Nat.blt d c.n = true)
    (h : ∀ F a b w, RG F u a → RG F v b → ∃ e, (eqGuard op t1 x y a b).run P w = .ok () w ∧ (binOp op t1 a b).run P w = .ok e w ∧ RG F z e) :
    Op1 P c ops (some d) (.binOp op t1 x y t2) ty pos af ⟨r, o⟩ ⟨[(x, .c (.g u)), (y, .c (.g v))].flatMap rdx, [], [.set d (.c (.g z))], []⟩ :=
  S_quiet2 _ hx hy hd (fun ρ w F L h1 h2 _ => by
    obtain ⟨e, hg, he, hr⟩ := h F (ρ x) (ρ y) w h1 h2
    exact ⟨e, by simp [execOp, hg, he], hr⟩)
theorem S_int {r : List REv} {o : List OEv} {d : Nat} {x y : Operand} {ty t1 t2 : TypeId} {pos : String} {af : Array Edge} {op : BinOp} {kd : IntKind} {m n : Int} {z : GV}
    (hx : ev r x = some (.c (.g (.int kd m)))) (hy : ev r y = some (.c (.g (.int kd n)))) (hd : Nat.blt d c.n = true)
    (h : ∀ F w, ∃ e, (binOp op t1 (.int kd m) (.int kd n)).run P w = .ok e w ∧ RG F z e) :
    Op1 P c ops (some d) (.binOp op t1 x y t2) ty pos af ⟨r, o⟩ ⟨[(x, .c (.g (.int kd m))), (y, .c (.g (.int kd n)))].flatMap rdx, [], [.set d (.c (.g z))], []⟩ :=
  S_bin hx hy hd (fun F a b w ha hb => by
    cases ha; cases hb
    obtain ⟨e, he, hr⟩ := h F w
    exact ⟨e, by cases op <;> simp [eqGuard], he, hr⟩)

/-- In i64's range. -/
def In64 (n : Int) : Prop := -9223372036854775808 ≤ n ∧ n ≤ 9223372036854775807
theorem wrap_in {n : Int} (h : In64 n) : IntKind.i64.wrap n = n := by
  have e : (2 : Int) ^ IntKind.i64.bits = 18446744073709551616 := by decide
  have e' : (2 : Int) ^ (IntKind.i64.bits - 1) = 9223372036854775808 := by decide
  have es : IntKind.i64.signed = true := by decide
  unfold In64 at h
  simp only [IntKind.wrap, e, e', es, Bool.true_and, decide_eq_true_eq]
  split <;> omega
theorem S_add {r : List REv} {o : List OEv} {d : Nat} {x y : Operand} {ty t1 t2 : TypeId} {pos : String} {af : Array Edge} {m n : Int}
    (hx : ev r x = some (.c (.g (.int .i64 m)))) (hy : ev r y = some (.c (.g (.int .i64 n)))) (hd : Nat.blt d c.n = true) (h : In64 (m + n)) :
    Op1 P c ops (some d) (.binOp .add t1 x y t2) ty pos af ⟨r, o⟩ ⟨[(x, .c (.g (.int .i64 m))), (y, .c (.g (.int .i64 n)))].flatMap rdx, [], [.set d (.c (.g (.int .i64 (m + n))))], []⟩ :=
  S_int hx hy hd (fun _ _ => ⟨_, by simp only [binOp, Op.intArith, ne_eq, not_true_eq_false, if_false]; rfl, by rw [wrap_in h]; exact .int _ _⟩)
theorem S_wadd {r : List REv} {o : List OEv} {d : Nat} {x y : Operand} {ty t1 t2 : TypeId} {pos : String} {af : Array Edge} {kd : IntKind} {m n : Int}
    (hx : ev r x = some (.c (.g (.int kd m)))) (hy : ev r y = some (.c (.g (.int kd n)))) (hd : Nat.blt d c.n = true) :
    Op1 P c ops (some d) (.binOp .add t1 x y t2) ty pos af ⟨r, o⟩ ⟨[(x, .c (.g (.int kd m))), (y, .c (.g (.int kd n)))].flatMap rdx, [], [.set d (.c (.g (.int kd (kd.wrap (m + n)))))], []⟩ :=
  S_int hx hy hd (fun _ _ => ⟨_, by simp only [binOp, Op.intArith, ne_eq, not_true_eq_false, if_false]; rfl, .int _ _⟩)
theorem S_sub {r : List REv} {o : List OEv} {d : Nat} {x y : Operand} {ty t1 t2 : TypeId} {pos : String} {af : Array Edge} {m n : Int}
    (hx : ev r x = some (.c (.g (.int .i64 m)))) (hy : ev r y = some (.c (.g (.int .i64 n)))) (hd : Nat.blt d c.n = true) (h : In64 (m - n)) :
    Op1 P c ops (some d) (.binOp .sub t1 x y t2) ty pos af ⟨r, o⟩ ⟨[(x, .c (.g (.int .i64 m))), (y, .c (.g (.int .i64 n)))].flatMap rdx, [], [.set d (.c (.g (.int .i64 (m - n))))], []⟩ :=
  S_int hx hy hd (fun _ _ => ⟨_, by simp only [binOp, Op.intArith, ne_eq, not_true_eq_false, if_false]; rfl, by rw [wrap_in h]; exact .int _ _⟩)
theorem S_wsub {r : List REv} {o : List OEv} {d : Nat} {x y : Operand} {ty t1 t2 : TypeId} {pos : String} {af : Array Edge} {kd : IntKind} {m n : Int}
    (hx : ev r x = some (.c (.g (.int kd m)))) (hy : ev r y = some (.c (.g (.int kd n)))) (hd : Nat.blt d c.n = true) :
    Op1 P c ops (some d) (.binOp .sub t1 x y t2) ty pos af ⟨r, o⟩ ⟨[(x, .c (.g (.int kd m))), (y, .c (.g (.int kd n)))].flatMap rdx, [], [.set d (.c (.g (.int kd (kd.wrap (m - n)))))], []⟩ :=
  S_int hx hy hd (fun _ _ => ⟨_, by simp only [binOp, Op.intArith, ne_eq, not_true_eq_false, if_false]; rfl, .int _ _⟩)
theorem S_mul {r : List REv} {o : List OEv} {d : Nat} {x y : Operand} {ty t1 t2 : TypeId} {pos : String} {af : Array Edge} {m n : Int}
    (hx : ev r x = some (.c (.g (.int .i64 m)))) (hy : ev r y = some (.c (.g (.int .i64 n)))) (hd : Nat.blt d c.n = true) (h : In64 (m * n)) :
    Op1 P c ops (some d) (.binOp .mul t1 x y t2) ty pos af ⟨r, o⟩ ⟨[(x, .c (.g (.int .i64 m))), (y, .c (.g (.int .i64 n)))].flatMap rdx, [], [.set d (.c (.g (.int .i64 (m * n))))], []⟩ :=
  S_int hx hy hd (fun _ _ => ⟨_, by simp only [binOp, Op.intArith, ne_eq, not_true_eq_false, if_false]; rfl, by rw [wrap_in h]; exact .int _ _⟩)
theorem S_wmul {r : List REv} {o : List OEv} {d : Nat} {x y : Operand} {ty t1 t2 : TypeId} {pos : String} {af : Array Edge} {kd : IntKind} {m n : Int}
    (hx : ev r x = some (.c (.g (.int kd m)))) (hy : ev r y = some (.c (.g (.int kd n)))) (hd : Nat.blt d c.n = true) :
    Op1 P c ops (some d) (.binOp .mul t1 x y t2) ty pos af ⟨r, o⟩ ⟨[(x, .c (.g (.int kd m))), (y, .c (.g (.int kd n)))].flatMap rdx, [], [.set d (.c (.g (.int kd (kd.wrap (m * n)))))], []⟩ :=
  S_int hx hy hd (fun _ _ => ⟨_, by simp only [binOp, Op.intArith, ne_eq, not_true_eq_false, if_false]; rfl, .int _ _⟩)
theorem S_quo {r : List REv} {o : List OEv} {d : Nat} {x y : Operand} {ty t1 t2 : TypeId} {pos : String} {af : Array Edge} {m n : Int}
    (hx : ev r x = some (.c (.g (.int .i64 m)))) (hy : ev r y = some (.c (.g (.int .i64 n)))) (hd : Nat.blt d c.n = true) (h : 0 < n) (hm : 0 ≤ m ∧ m ≤ 9223372036854775807) :
    Op1 P c ops (some d) (.binOp .quo t1 x y t2) ty pos af ⟨r, o⟩ ⟨[(x, .c (.g (.int .i64 m))), (y, .c (.g (.int .i64 n)))].flatMap rdx, [], [.set d (.c (.g (.int .i64 (m / n))))], []⟩ :=
  S_int hx hy hd (fun _ _ => ⟨.int .i64 (IntKind.i64.wrap (m.tdiv n)), by
    have : ¬ n = 0 := by omega
    simp [binOp, Op.intDiv, this], by
    rw [Int.tdiv_eq_ediv_of_nonneg hm.1, wrap_in ⟨by have := Int.ediv_nonneg hm.1 (Int.le_of_lt h); omega, by have := Int.ediv_le_self n hm.1; omega⟩]; exact .int _ _⟩)
theorem S_rem {r : List REv} {o : List OEv} {d : Nat} {x y : Operand} {ty t1 t2 : TypeId} {pos : String} {af : Array Edge} {m n : Int}
    (hx : ev r x = some (.c (.g (.int .i64 m)))) (hy : ev r y = some (.c (.g (.int .i64 n)))) (hd : Nat.blt d c.n = true) (h : 0 < n) (hm : 0 ≤ m) :
    Op1 P c ops (some d) (.binOp .rem t1 x y t2) ty pos af ⟨r, o⟩ ⟨[(x, .c (.g (.int .i64 m))), (y, .c (.g (.int .i64 n)))].flatMap rdx, [], [.set d (.c (.g (.int .i64 (m % n))))], []⟩ :=
  S_int hx hy hd (fun _ _ => ⟨.int .i64 (m.tmod n), by
    have : ¬ n = 0 := by omega
    simp [binOp, Op.intDiv, this], by
    rw [Int.tmod_eq_emod_of_nonneg hm]; exact .int _ _⟩)
theorem S_lss {r : List REv} {o : List OEv} {d : Nat} {x y : Operand} {ty t1 t2 : TypeId} {pos : String} {af : Array Edge} {kd : IntKind} {m n : Int}
    (hx : ev r x = some (.c (.g (.int kd m)))) (hy : ev r y = some (.c (.g (.int kd n)))) (hd : Nat.blt d c.n = true) :
    Op1 P c ops (some d) (.binOp .lss t1 x y t2) ty pos af ⟨r, o⟩ ⟨[(x, .c (.g (.int kd m))), (y, .c (.g (.int kd n)))].flatMap rdx, [], [.set d (.c (.g (.bool (decide (m < n)))))], []⟩ :=
  S_int hx hy hd (fun _ _ => ⟨_, by simp only [binOp, Op.intCmp, ne_eq, not_true_eq_false, if_false]; rfl, .bool _⟩)
theorem S_leq {r : List REv} {o : List OEv} {d : Nat} {x y : Operand} {ty t1 t2 : TypeId} {pos : String} {af : Array Edge} {kd : IntKind} {m n : Int}
    (hx : ev r x = some (.c (.g (.int kd m)))) (hy : ev r y = some (.c (.g (.int kd n)))) (hd : Nat.blt d c.n = true) :
    Op1 P c ops (some d) (.binOp .leq t1 x y t2) ty pos af ⟨r, o⟩ ⟨[(x, .c (.g (.int kd m))), (y, .c (.g (.int kd n)))].flatMap rdx, [], [.set d (.c (.g (.bool (decide (m ≤ n)))))], []⟩ :=
  S_int hx hy hd (fun _ _ => ⟨_, by simp only [binOp, Op.intCmp, ne_eq, not_true_eq_false, if_false]; rfl, .bool _⟩)
theorem S_gtr {r : List REv} {o : List OEv} {d : Nat} {x y : Operand} {ty t1 t2 : TypeId} {pos : String} {af : Array Edge} {kd : IntKind} {m n : Int}
    (hx : ev r x = some (.c (.g (.int kd m)))) (hy : ev r y = some (.c (.g (.int kd n)))) (hd : Nat.blt d c.n = true) :
    Op1 P c ops (some d) (.binOp .gtr t1 x y t2) ty pos af ⟨r, o⟩ ⟨[(x, .c (.g (.int kd m))), (y, .c (.g (.int kd n)))].flatMap rdx, [], [.set d (.c (.g (.bool (decide (n < m)))))], []⟩ :=
  S_int hx hy hd (fun _ _ => ⟨_, by simp only [binOp, Op.intCmp, ne_eq, not_true_eq_false, if_false]; rfl, .bool _⟩)
theorem S_geq {r : List REv} {o : List OEv} {d : Nat} {x y : Operand} {ty t1 t2 : TypeId} {pos : String} {af : Array Edge} {kd : IntKind} {m n : Int}
    (hx : ev r x = some (.c (.g (.int kd m)))) (hy : ev r y = some (.c (.g (.int kd n)))) (hd : Nat.blt d c.n = true) :
    Op1 P c ops (some d) (.binOp .geq t1 x y t2) ty pos af ⟨r, o⟩ ⟨[(x, .c (.g (.int kd m))), (y, .c (.g (.int kd n)))].flatMap rdx, [], [.set d (.c (.g (.bool (decide (n ≤ m)))))], []⟩ :=
  S_int hx hy hd (fun _ _ => ⟨_, by simp only [binOp, Op.intCmp, ne_eq, not_true_eq_false, if_false]; rfl, .bool _⟩)
theorem S_eql {r : List REv} {o : List OEv} {d : Nat} {x y : Operand} {ty t1 t2 : TypeId} {pos : String} {af : Array Edge} {kd : IntKind} {m n : Int}
    (hx : ev r x = some (.c (.g (.int kd m)))) (hy : ev r y = some (.c (.g (.int kd n)))) (hd : Nat.blt d c.n = true) :
    Op1 P c ops (some d) (.binOp .eql t1 x y t2) ty pos af ⟨r, o⟩ ⟨[(x, .c (.g (.int kd m))), (y, .c (.g (.int kd n)))].flatMap rdx, [], [.set d (.c (.g (.bool (decide (m = n)))))], []⟩ :=
  S_int hx hy hd (fun _ _ => ⟨.bool (decide (m = n)), by simp only [binOp, Op.intCmp, ne_eq, not_true_eq_false, if_false]; rfl, .bool _⟩)
theorem S_neq {r : List REv} {o : List OEv} {d : Nat} {x y : Operand} {ty t1 t2 : TypeId} {pos : String} {af : Array Edge} {kd : IntKind} {m n : Int}
    (hx : ev r x = some (.c (.g (.int kd m)))) (hy : ev r y = some (.c (.g (.int kd n)))) (hd : Nat.blt d c.n = true) :
    Op1 P c ops (some d) (.binOp .neq t1 x y t2) ty pos af ⟨r, o⟩ ⟨[(x, .c (.g (.int kd m))), (y, .c (.g (.int kd n)))].flatMap rdx, [], [.set d (.c (.g (.bool (!decide (m = n)))))], []⟩ :=
  S_int hx hy hd (fun _ _ => ⟨.bool (!decide (m = n)), by simp only [binOp, Op.intCmp, ne_eq, not_true_eq_false, if_false]; rfl, .bool _⟩)
theorem S_not {r : List REv} {o : List OEv} {d : Nat} {x : Operand} {ty t1 : TypeId} {pos : String} {af : Array Edge} {b : Bool}
    (hx : ev r x = some (.c (.g (.bool b)))) (hd : Nat.blt d c.n = true) :
    Op1 P c ops (some d) (.unOp .not t1 x) ty pos af ⟨r, o⟩ ⟨[(x, .c (.g (.bool b)))].flatMap rdx, [], [.set d (.c (.g (.bool (!b))))], []⟩ :=
  S_quiet1 _ hx hd (fun ρ w F L h1 _ => ⟨.bool (!b), by simp [execOp, gbool h1, Op.unary], RG.bool _⟩)
end
end Go.Pu
/- The pure layer, part 4: operations that read memory. Any program. -/
namespace Go.Pu
open Go
section
variable {P : Program} {c : Ctx} {ops : Array Oper}

theorem run_isAgg {t : TypeId} [h : TAgg P t] (w : World) : (isAgg t).run P w = .ok true w := by
  obtain ⟨d, hd, hm⟩ := h.h
  cases d <;> first | (cases hm; done) | simp [isAgg, run_underlying hd]
theorem run_isOne {t : TypeId} [h : TOne P t] (w : World) : (isAgg t).run P w = .ok false w := by
  obtain ⟨d, hd, hm⟩ := h.h
  cases d <;> first | (cases hm; done) | simp [isAgg, run_underlying hd]
theorem run_sizeOf {t : TypeId} {n : Nat} [h : TSz P t n] (w : World) : (sizeOf t).run P w = .ok n w := by
  obtain ⟨i, hi, hn⟩ := h.h
  simp [sizeOf, typeInfo, hi, hn]

theorem add_off (b o n : Nat) : Addr.add ⟨b, o, none⟩ n = ⟨b, o + n, none⟩ := by
  unfold Addr.add; split <;> simp_all

/-- A variable of one cell. -/
theorem run_load1 {t : TypeId} [TOne P t] {w : World} {b o : Nat} {v : Value} (h : w.cell? ⟨b, o, none⟩ = some v) : (Instr.loadAt t (.pointer (some ⟨b, o, none⟩))).run P w = .ok v w := by
  simp [Instr.loadAt, Instr.sureAddr, loadVar, run_isOne, h]
/-- A variable of several cells. -/
theorem run_loadA {t : TypeId} {n : Nat} [TAgg P t] [TSz P t n] {w : World} {b o : Nat} {vs : List Value} (hn : vs.length = n) (h : ∀ j v, vs[j]? = some v → w.cell? ⟨b, o + j, none⟩ = some v) :
    (Instr.loadAt t (.pointer (some ⟨b, o, none⟩))).run P w = .ok (.agg ⟨vs⟩) w := by
  have := run_loadCells_list (P := P) w ⟨b, o, none⟩ vs (fun j v hj => by rw [add_off]; exact h j v hj)
  simp [Instr.loadAt, Instr.sureAddr, loadVar, run_isAgg, run_sizeOf, ← hn, this]

theorem gref {F : FMap} {L : LMap} {cs : List GV} {v : Value} (h : RP F L (.c (.g (.ref cs))) v) :
    ∃ (b off : Nat) (g : Nat → Value), v = .pointer (some ⟨b, off, none⟩) ∧ (∀ j, j < cs.length → F b (off + j) = some (g j)) ∧ ∀ j x, cs[j]? = some x → RG F x (g j) := by
  simp only [RP, RL] at h
  cases h with
  | ref _ b off g h1 h2 => exact ⟨b, off, g, rfl, h1, h2⟩

theorem S_loadR1 {r : List REv} {o : List OEv} {d : Nat} {x : Operand} {t ty : TypeId} {pos : String} {af : Array Edge} {cs : List GV} {y : GV} [TOne P t]
    (hx : ev r x = some (.c (.g (.ref cs)))) (hy : cs[0]? = some y) (hd : Nat.blt d c.n = true) :
    Op1 P c ops (some d) (.load t x) ty pos af ⟨r, o⟩ ⟨[(x, .c (.g (.ref cs)))].flatMap rdx, [], [.set d (.c (.g y))], []⟩ :=
  S_quiet1 _ hx hd (fun ρ w F L h1 ha => by
    obtain ⟨b, off, g, hv, h2, h3⟩ := gref h1
    have h0 : 0 < cs.length := (List.getElem?_eq_some_iff.1 hy).1
    refine ⟨g 0, ?_, h3 0 y hy⟩
    have h20 := h2 0 h0
    rw [Nat.add_zero] at h20
    simp [execOp, hv, run_load1 (P := P) (t := t) (ha _ _ _ h20)])
theorem S_loadRA {r : List REv} {o : List OEv} {d : Nat} {x : Operand} {t ty : TypeId} {pos : String} {af : Array Edge} {cs : List GV} {n : Nat} [TAgg P t] [TSz P t n]
    (hx : ev r x = some (.c (.g (.ref cs)))) (hn : n ≤ cs.length) (hd : Nat.blt d c.n = true) :
    Op1 P c ops (some d) (.load t x) ty pos af ⟨r, o⟩ ⟨[(x, .c (.g (.ref cs)))].flatMap rdx, [], [.set d (.c (.g (.agg (cs.take n))))], []⟩ :=
  S_quiet1 _ hx hd (fun ρ w F L h1 ha => by
    obtain ⟨b, off, g, hv, h2, h3⟩ := gref h1
    refine ⟨.agg ⟨(List.range n).map g⟩, ?_, ?_⟩
    · rw [show execOp ρ _ = (do pure (.value (← Instr.loadAt t (ρ x))) : Sem Next) from rfl, hv]
      have := run_loadA (P := P) (t := t) (w := w) (b := b) (o := off) (vs := (List.range n).map g) (by simp) (fun j v hj => by
        simp only [List.getElem?_map, Option.map_eq_some_iff] at hj
        obtain ⟨k, hk, rfl⟩ := hj
        obtain ⟨hlt, rfl⟩ := List.getElem?_eq_some_iff.1 hk
        simp only [List.length_range] at hlt
        simp only [List.getElem_range]
        exact ha _ _ _ (h2 j (by omega)))
      simp [this]
    · refine RG.agg _ _ (by simp [hn]) fun i y v hy hv' => ?_
      simp only [List.getElem?_map, Option.map_eq_some_iff] at hv'
      obtain ⟨k, hk, rfl⟩ := hv'
      obtain ⟨hlt, rfl⟩ := List.getElem?_eq_some_iff.1 hk
      simp only [List.getElem_range]
      rw [List.getElem?_take] at hy
      split at hy
      · exact h3 _ _ hy
      · cases hy)
theorem S_loadRW {r : List REv} {o : List OEv} {d : Nat} {x : Operand} {t ty : TypeId} {pos : String} {af : Array Edge} {cs : List GV} {n : Nat} [TAgg P t] [TSz P t n]
    (hx : ev r x = some (.c (.g (.ref cs)))) (hn : cs.length = n) (hd : Nat.blt d c.n = true) :
    Op1 P c ops (some d) (.load t x) ty pos af ⟨r, o⟩ ⟨[(x, .c (.g (.ref cs)))].flatMap rdx, [], [.set d (.c (.g (.agg cs)))], []⟩ := by
  have := S_loadRA (P := P) (c := c) (ops := ops) (o := o) (t := t) (ty := ty) (pos := pos) (af := af) hx (Nat.le_of_eq hn.symm) hd
  rwa [← hn, List.take_length] at this

/-- What an own pointer reads. -/
theorem optr_cell {F : FMap} {L : LMap} {w : World} {id el off : Nat} {ob : Obj} {v : Value} (h : RP F L (.c (.optr id el off)) v) (ho : ObjOk P F L w id ob) :
    ∃ b o, v = .pointer (some ⟨b, o, none⟩) ∧ ∀ cs, ob.es.cells[el]? = some cs → ∀ j y, cs[off + j]? = some y → ∃ u, w.cell? ⟨b, o + j, none⟩ = some u ∧ u.oneCell' = true ∧ RL F L y u := by
  simp only [RP, RL] at h
  obtain ⟨p, b, hp, hb, hv⟩ := h
  obtain ⟨p', hp', _, _, hlen, _, _, hcase⟩ := ho
  rw [hp] at hp'
  cases hp'
  refine ⟨b, _, hv, ?_⟩
  intro cs hcs j y hy
  rcases hcase with ⟨hn, _⟩ | ⟨b', cur, hb', hcur, _, hread⟩
  · rw [hb] at hn; cases hn
  · rw [hb] at hb'
    cases hb'
    obtain ⟨u, hu, h1, hr⟩ := hread el (off + j) cs y hcs hy
    refine ⟨u, ?_, h1, hr⟩
    rw [cell_of_row w b _ cur _ _ hcur, ← hu]
    congr 1
    omega

theorem cells_gnd (es : List (List GV)) : (Cont.gnd es).cells = es.map (·.map LC.g) := rfl
theorem gnd_at {es : List (List GV)} {el : Nat} {cs : List GV} (h : es[el]? = some cs) : (Cont.gnd es).cells[el]? = some (cs.map LC.g) := by
  simp [Cont.cells, h]

theorem S_loadO1 {r : List REv} {o : List OEv} {d : Nat} {x : Operand} {t ty : TypeId} {pos : String} {af : Array Edge} {id el off fz : Nat} {e : TypeId} {es : List (List GV)} {cs : List GV} {y : GV} [TOne P t]
    (hx : ev r x = some (.c (.optr id el off))) (ho : lookO o id = some ⟨e, fz, .gnd es⟩) (hc : es[el]? = some cs) (hy : cs[off]? = some y) (hd : Nat.blt d c.n = true) :
    Op1 P c ops (some d) (.load t x) ty pos af ⟨r, o⟩ ⟨[(x, .c (.optr id el off))].flatMap rdx, [(id, ⟨e, fz, .gnd es⟩)], [.set d (.c (.g y))], []⟩ :=
  S_quietO _ hx ho hd (fun ρ w F L h1 h2 => by
    obtain ⟨b, q, hv, hr⟩ := optr_cell h1 h2
    obtain ⟨u, hu, _, hru⟩ := hr _ (gnd_at hc) 0 (.g y) (by simp [hy])
    refine ⟨u, ?_, hru⟩
    rw [Nat.add_zero] at hu
    simp [execOp, hv, run_load1 (P := P) (t := t) hu])
theorem S_loadL1 {r : List REv} {o : List OEv} {d : Nat} {x : Operand} {t ty : TypeId} {pos : String} {af : Array Edge} {id el off fz : Nat} {e : TypeId} {es : List (List LC)} {cs : List LC} {y : LC} [TOne P t]
    (hx : ev r x = some (.c (.optr id el off))) (ho : lookO o id = some ⟨e, fz, .loc es⟩) (hc : es[el]? = some cs) (hy : cs[off]? = some y) (hd : Nat.blt d c.n = true) :
    Op1 P c ops (some d) (.load t x) ty pos af ⟨r, o⟩ ⟨[(x, .c (.optr id el off))].flatMap rdx, [(id, ⟨e, fz, .loc es⟩)], [.set d (.c y)], []⟩ :=
  S_quietO _ hx ho hd (fun ρ w F L h1 h2 => by
    obtain ⟨b, q, hv, hr⟩ := optr_cell h1 h2
    obtain ⟨u, hu, _, hru⟩ := hr cs hc 0 y (by simp [hy])
    refine ⟨u, ?_, hru⟩
    rw [Nat.add_zero] at hu
    simp [execOp, hv, run_load1 (P := P) (t := t) hu])

/-- Several cells of an own object, as values. -/
theorem own_cells {F : FMap} {L : LMap} {w : World} {b q off n : Nat} {cs : List LC} (hn : off + n ≤ cs.length) (hr : ∀ j y, cs[off + j]? = some y → ∃ u, w.cell? ⟨b, q + j, none⟩ = some u ∧ u.oneCell' = true ∧ RL F L y u) :
    ∃ vs : List Value, vs.length = n ∧ (∀ (j : Nat) (v : Value), vs[j]? = some v → w.cell? ⟨b, q + j, none⟩ = some v) ∧ ∀ (j : Nat) (y : LC) (v : Value), ((cs.drop off).take n)[j]? = some y → vs[j]? = some v → RL F L y v := by
  refine ⟨(List.range n).map fun j => (w.cell? ⟨b, q + j, none⟩).getD undef, by simp, ?_, ?_⟩
  · intro j v hj
    simp only [List.getElem?_map, Option.map_eq_some_iff] at hj
    obtain ⟨k, hk, rfl⟩ := hj
    obtain ⟨hlt, rfl⟩ := List.getElem?_eq_some_iff.1 hk
    simp only [List.length_range] at hlt
    simp only [List.getElem_range]
    obtain ⟨u, hu, _⟩ := hr j cs[off + j] (List.getElem?_eq_getElem (by omega))
    rw [hu]; rfl
  · intro j y v hy hv
    simp only [List.getElem?_map, Option.map_eq_some_iff] at hv
    obtain ⟨k, hk, rfl⟩ := hv
    obtain ⟨hlt, rfl⟩ := List.getElem?_eq_some_iff.1 hk
    simp only [List.length_range] at hlt
    simp only [List.getElem_range]
    rw [List.getElem?_take, if_pos hlt, List.getElem?_drop] at hy
    obtain ⟨u, hu, _, hru⟩ := hr j y hy
    rw [hu]; exact hru

theorem S_loadOA {r : List REv} {o : List OEv} {d : Nat} {x : Operand} {t ty : TypeId} {pos : String} {af : Array Edge} {id el off fz n : Nat} {e : TypeId} {es : List (List GV)} {cs : List GV} [TAgg P t] [TSz P t n]
    (hx : ev r x = some (.c (.optr id el off))) (ho : lookO o id = some ⟨e, fz, .gnd es⟩) (hc : es[el]? = some cs) (hn : off + n ≤ cs.length) (hd : Nat.blt d c.n = true) :
    Op1 P c ops (some d) (.load t x) ty pos af ⟨r, o⟩ ⟨[(x, .c (.optr id el off))].flatMap rdx, [(id, ⟨e, fz, .gnd es⟩)], [.set d (.c (.g (.agg ((cs.drop off).take n))))], []⟩ :=
  S_quietO _ hx ho hd (fun ρ w F L h1 h2 => by
    obtain ⟨b, q, hv, hr⟩ := optr_cell h1 h2
    obtain ⟨vs, e1, e2, e3⟩ := own_cells (n := n) (by simpa using hn) (hr _ (gnd_at hc))
    refine ⟨.agg ⟨vs⟩, ?_, ?_⟩
    · rw [show execOp ρ _ = (do pure (.value (← Instr.loadAt t (ρ x))) : Sem Next) from rfl, hv]
      simp [run_loadA (P := P) (t := t) e1 e2]
    · refine RG.agg _ _ (by simp [e1]; omega) fun i y v hy hv' => ?_
      exact e3 i (.g y) v (by rw [← List.map_drop, ← List.map_take, List.getElem?_map, hy]; rfl) hv')
theorem S_loadOW {r : List REv} {o : List OEv} {d : Nat} {x : Operand} {t ty : TypeId} {pos : String} {af : Array Edge} {id el fz n : Nat} {e : TypeId} {es : List (List GV)} {cs : List GV} [TAgg P t] [TSz P t n]
    (hx : ev r x = some (.c (.optr id el 0))) (ho : lookO o id = some ⟨e, fz, .gnd es⟩) (hc : es[el]? = some cs) (hn : cs.length = n) (hd : Nat.blt d c.n = true) :
    Op1 P c ops (some d) (.load t x) ty pos af ⟨r, o⟩ ⟨[(x, .c (.optr id el 0))].flatMap rdx, [(id, ⟨e, fz, .gnd es⟩)], [.set d (.c (.g (.agg cs)))], []⟩ := by
  have := S_loadOA (P := P) (c := c) (ops := ops) (o := o) (t := t) (ty := ty) (pos := pos) (af := af) hx ho hc (n := n) (by omega) hd
  rwa [← hn, List.drop_zero, List.take_length] at this
theorem S_loadLA {r : List REv} {o : List OEv} {d : Nat} {x : Operand} {t ty : TypeId} {pos : String} {af : Array Edge} {id el off fz n : Nat} {e : TypeId} {es : List (List LC)} {cs : List LC} [TAgg P t] [TSz P t n]
    (hx : ev r x = some (.c (.optr id el off))) (ho : lookO o id = some ⟨e, fz, .loc es⟩) (hc : es[el]? = some cs) (hn : off + n ≤ cs.length) (hd : Nat.blt d c.n = true) :
    Op1 P c ops (some d) (.load t x) ty pos af ⟨r, o⟩ ⟨[(x, .c (.optr id el off))].flatMap rdx, [(id, ⟨e, fz, .loc es⟩)], [.set d (.agg ((cs.drop off).take n))], []⟩ :=
  S_quietO _ hx ho hd (fun ρ w F L h1 h2 => by
    obtain ⟨b, q, hv, hr⟩ := optr_cell h1 h2
    obtain ⟨vs, e1, e2, e3⟩ := own_cells (n := n) hn (hr cs hc)
    refine ⟨.agg ⟨vs⟩, ?_, vs, rfl, by simp [e1]; omega, e3⟩
    rw [show execOp ρ _ = (do pure (.value (← Instr.loadAt t (ρ x))) : Sem Next) from rfl, hv]
    simp [run_loadA (P := P) (t := t) e1 e2])

/-! ### addresses -/
theorem S_fieldR {r : List REv} {o : List OEv} {d : Nat} {x : Operand} {t ty : TypeId} {pos : String} {af : Array Edge} {cs : List GV} {f off : Nat} {ft : TypeId} {n : Nat} [hf : TField P t f off ft] [hz : TSz P ft n]
    (hx : ev r x = some (.c (.g (.ref cs)))) (hn : Nat.blt 0 n = true) (hd : Nat.blt d c.n = true) :
    Op1 P c ops (some d) (.fieldAddr t x f) ty pos af ⟨r, o⟩ ⟨[(x, .c (.g (.ref cs)))].flatMap rdx, [], [.set d (.c (.g (.ref (cs.drop off))))], []⟩ :=
  S_quiet1 _ hx hd (fun ρ w F L h1 _ => by
    obtain ⟨b, q, g, hv, h2, h3⟩ := gref h1
    obtain ⟨fs, fd, e1, e2, e3, e4⟩ := hf.h
    have hs := run_sizeOf (P := P) (t := ft) (n := n) w
    have hn' : n ≠ 0 := by have : 0 < n := by simpa [Nat.blt_eq] using hn
                           omega
    refine ⟨.pointer (some ⟨b, q + off, none⟩), ?_, RG.ref _ b (q + off) (fun j => g (off + j)) ?_ ?_⟩
    · simp [execOp, hv, Instr.fieldAt, run_underlying e1, e2, Instr.sureAddr, fieldPlace, e4, hs, hn', add_off, e3]
    · intro j hj
      rw [Nat.add_assoc]
      exact h2 _ (by simp at hj; omega)
    · intro j y hy
      rw [List.getElem?_drop] at hy
      exact h3 _ _ hy)
theorem S_fieldO {r : List REv} {o : List OEv} {d : Nat} {x : Operand} {t ty : TypeId} {pos : String} {af : Array Edge} {id el q f off : Nat} {ft : TypeId} {n : Nat} [hf : TField P t f off ft] [hz : TSz P ft n]
    (hx : ev r x = some (.c (.optr id el q))) (hn : Nat.blt 0 n = true) (hd : Nat.blt d c.n = true) :
    Op1 P c ops (some d) (.fieldAddr t x f) ty pos af ⟨r, o⟩ ⟨[(x, .c (.optr id el q))].flatMap rdx, [], [.set d (.c (.optr id el (q + off)))], []⟩ :=
  S_quiet1 _ hx hd (fun ρ w F L h1 _ => by
    simp only [RP, RL] at h1
    obtain ⟨p, b, hp, hb, hv⟩ := h1
    obtain ⟨fs, fd, e1, e2, e3, e4⟩ := hf.h
    have hs := run_sizeOf (P := P) (t := ft) (n := n) w
    have hn' : n ≠ 0 := by have : 0 < n := by simpa [Nat.blt_eq] using hn
                           omega
    refine ⟨.pointer (some ⟨b, p.o + el * p.sz + q + off, none⟩), ?_, p, b, hp, hb, by rw [Nat.add_assoc]⟩
    simp [execOp, hv, Instr.fieldAt, run_underlying e1, e2, Instr.sureAddr, fieldPlace, e4, hs, hn', add_off, e3])

theorem gsl {F : FMap} {L : LMap} {es : List (List GV)} {v : Value} (h : RP F L (.c (.g (.sl es))) v) {k : Nat} {cs : List GV} (hk : es[k]? = some cs) :
    ∃ (b off cap sz : Nat) (g : Nat → Nat → Value), v = .slice (some ⟨b, off, none⟩) es.length cap ∧ cs.length = sz ∧ es.length ≤ cap ∧ (∀ i j : Nat, i < es.length → j < sz → F b (off + i * sz + j) = some (g i j)) ∧
      ∀ (i j : Nat) (el : List GV) (x : GV), es[i]? = some el → el[j]? = some x → RG F x (g i j) := by
  simp only [RP, RL] at h
  cases h with
  | sl0 a cap => simp at hk
  | sl _ b off cap sz g hsz h1 h2 hc => exact ⟨b, off, cap, sz, g, rfl, hsz _ (List.mem_of_getElem? hk), hc, h1, h2⟩

/-- An index into a slice that never changes. -/
theorem S_indexR {r : List REv} {o : List OEv} {d : Nat} {x y : Operand} {t ty : TypeId} {pos : String} {af : Array Edge} {es : List (List GV)} {i : Int} {kd : IntKind} {k : Nat} {cs : List GV} {e : TypeId} {n : Nat} [ht : TSlice P t e] [hz : TSz P e n]
    (hx : ev r x = some (.c (.g (.sl es)))) (hy : ev r y = some (.c (.g (.int kd i)))) (hi : i = (k : Int)) (hk : es[k]? = some cs) (hn : cs.length = n) (hd : Nat.blt d c.n = true) :
    Op1 P c ops (some d) (.indexAddr t x y) ty pos af ⟨r, o⟩ ⟨[(x, .c (.g (.sl es))), (y, .c (.g (.int kd i)))].flatMap rdx, [], [.set d (.c (.g (.ref cs)))], []⟩ :=
  S_quiet2 _ hx hy hd (fun ρ w F L h1 h2 _ => by
    obtain ⟨b, off, cap, sz, g, hv, hsz, _, h3, h4⟩ := gsl h1 hk
    have hs := run_sizeOf (P := P) (t := e) (n := n) w
    have hlt : k < es.length := (List.getElem?_eq_some_iff.1 hk).1
    have e1 : (0 : Int) ≤ i := by omega
    have e2 : i < (es.length : Int) := by omega
    have e3 : i.toNat = k := by omega
    have hnz : n = sz := by omega
    subst hnz
    refine ⟨.pointer (some ⟨b, off + k * n, none⟩), ?_, RG.ref _ b (off + k * n) (fun j => g k j) ?_ ?_⟩
    · simp [execOp, hv, gint h2, Instr.indexAt, asIntOf, run_underlying ht.h, e1, e2, e3, hs, add_off]
    · intro j hj
      exact h3 k j hlt (by omega)
    · intro j u hu
      exact h4 k j _ u hk hu)
/-- An index into a slice of the call's own. -/
theorem S_indexO {r : List REv} {o : List OEv} {d : Nat} {x y : Operand} {t ty : TypeId} {pos : String} {af : Array Edge} {id off len fz : Nat} {i : Int} {kd : IntKind} {k : Nat} {et : TypeId} {es : Cont} {e : TypeId} {n : Nat} [ht : TSlice P t e] [hz : TSz P e n]
    (hx : ev r x = some (.c (.osl id off len))) (hy : ev r y = some (.c (.g (.int kd i)))) (ho : lookO o id = some ⟨et, fz, es⟩) (het : Nat.beq et e = true) (hi : i = (k : Int)) (hk : k < len) (hd : Nat.blt d c.n = true) :
    Op1 P c ops (some d) (.indexAddr t x y) ty pos af ⟨r, o⟩ ⟨[(x, .c (.osl id off len)), (y, .c (.g (.int kd i)))].flatMap rdx, [(id, ⟨et, fz, es⟩)], [.set d (.c (.optr id (off + k) 0))], []⟩ :=
  S_quiet [(x, .c (.osl id off len)), (y, .c (.g (.int kd i)))] [(id, ⟨et, fz, es⟩)] _ hd (by simpa using ⟨hx, hy⟩) (by simpa using ho) (fun ρ w F L hx' ho' _ => by
    have h1 := hx' (x, .c (.osl id off len)) (by simp)
    have h2 := hx' (y, .c (.g (.int kd i))) (by simp)
    have h3 := ho' (id, ⟨et, fz, es⟩) (by simp)
    simp only [RP, RL] at h1
    obtain ⟨p, hp, hle, hcase⟩ := h1
    obtain ⟨p', hp', _, ⟨ii, hii, hsz⟩, _⟩ := h3
    rw [hp] at hp'
    cases hp'
    have hs := run_sizeOf (P := P) (t := e) (n := n) w
    have hne : n = p.sz := by
      obtain ⟨i', hi', hn'⟩ := hz.h
      rw [← beq_of het] at hi'
      simp only at hii
      rw [hii] at hi'
      cases hi'
      omega
    have e1 : (0 : Int) ≤ i := by omega
    have e2 : i < (len : Int) := by omega
    have e3 : i.toNat = k := by omega
    rcases hcase with ⟨_, _, _, hl⟩ | ⟨b, o', hb, hv, ho''⟩
    · omega
    · refine ⟨.pointer (some ⟨b, p.o + (off + k) * p.sz + 0, none⟩), ?_, p, b, hp, hb, rfl⟩
      have : o' = p.o + off * p.sz := ho'' (by omega)
      subst this
      have eq : p.o + off * p.sz + k * p.sz = p.o + (off + k) * p.sz := by rw [Nat.add_mul]; omega
      simp [execOp, hv, gint h2, Instr.indexAt, asIntOf, run_underlying ht.h, e1, e2, e3, hs, add_off, hne, eq])
/-- An index into an array behind a pointer of the call's own. -/
theorem S_indexA {r : List REv} {o : List OEv} {d : Nat} {x y : Operand} {t ty : TypeId} {pos : String} {af : Array Edge} {id el off : Nat} {i : Int} {kd : IntKind} {k : Nat} {e : TypeId} {m n : Nat} [ht : TArr P t m e] [hz : TSz P e n]
    (hx : ev r x = some (.c (.optr id el off))) (hy : ev r y = some (.c (.g (.int kd i)))) (hi : i = (k : Int)) (hk : k < m) (hd : Nat.blt d c.n = true) :
    Op1 P c ops (some d) (.indexAddr t x y) ty pos af ⟨r, o⟩ ⟨[(x, .c (.optr id el off)), (y, .c (.g (.int kd i)))].flatMap rdx, [], [.set d (.c (.optr id el (off + k * n)))], []⟩ :=
  S_quiet2 _ hx hy hd (fun ρ w F L h1 h2 _ => by
    simp only [RP, RL] at h1
    obtain ⟨p, b, hp, hb, hv⟩ := h1
    have hs := run_sizeOf (P := P) (t := e) (n := n) w
    have e1 : (0 : Int) ≤ i := by omega
    have e2 : i < (m : Int) := by omega
    have e3 : i.toNat = k := by omega
    refine ⟨.pointer (some ⟨b, p.o + el * p.sz + off + k * n, none⟩), ?_, p, b, hp, hb, by rw [Nat.add_assoc]⟩
    simp [execOp, hv, gint h2, Instr.indexAt, asIntOf, run_underlying ht.h, e1, e2, e3, hs, add_off, Instr.sureAddr])
theorem S_indexAR {r : List REv} {o : List OEv} {d : Nat} {x y : Operand} {t ty : TypeId} {pos : String} {af : Array Edge} {cs : List GV} {i : Int} {kd : IntKind} {k : Nat} {e : TypeId} {m n : Nat} [ht : TArr P t m e] [hz : TSz P e n]
    (hx : ev r x = some (.c (.g (.ref cs)))) (hy : ev r y = some (.c (.g (.int kd i)))) (hi : i = (k : Int)) (hk : k < m) (hd : Nat.blt d c.n = true) :
    Op1 P c ops (some d) (.indexAddr t x y) ty pos af ⟨r, o⟩ ⟨[(x, .c (.g (.ref cs))), (y, .c (.g (.int kd i)))].flatMap rdx, [], [.set d (.c (.g (.ref (cs.drop (k * n)))))], []⟩ :=
  S_quiet2 _ hx hy hd (fun ρ w F L h1 h2 _ => by
    obtain ⟨b, q, g, hv, h3, h4⟩ := gref h1
    have hs := run_sizeOf (P := P) (t := e) (n := n) w
    have e1 : (0 : Int) ≤ i := by omega
    have e2 : i < (m : Int) := by omega
    have e3 : i.toNat = k := by omega
    refine ⟨.pointer (some ⟨b, q + k * n, none⟩), ?_, RG.ref _ b (q + k * n) (fun j => g (k * n + j)) ?_ ?_⟩
    · simp [execOp, hv, gint h2, Instr.indexAt, asIntOf, run_underlying ht.h, e1, e2, e3, hs, add_off, Instr.sureAddr]
    · intro j hj
      rw [Nat.add_assoc]
      exact h3 _ (by simp at hj; omega)
    · intro j u hu
      rw [List.getElem?_drop] at hu
      exact h4 _ _ hu)

/-! ### lengths -/
theorem S_lenR {r : List REv} {o : List OEv} {d : Nat} {x : Operand} {t e ty : TypeId} {pos : String} {af : Array Edge} {es : List (List GV)} [ht : TSlice P t e]
    (hx : ev r x = some (.c (.g (.sl es)))) (hd : Nat.blt d c.n = true) :
    Op1 P c ops (some d) (.call { callee := .builtin .len, args := #[x], argTypes := #[t] }) ty pos af ⟨r, o⟩ ⟨[(x, .c (.g (.sl es)))].flatMap rdx, [], [.set d (.c (.g (.int .i64 es.length)))], []⟩ :=
  S_quiet1 _ hx hd (fun ρ w F L h1 _ => by
    refine ⟨.int .i64 es.length, ?_, RG.int _ _⟩
    simp only [RP, RL] at h1
    generalize hv : ρ x = v at h1
    cases h1 <;> simp [execOp, resolve, invoke, builtin, Builtin.len_, run_underlying ht.h, hv, goInt])
theorem S_lenN {r : List REv} {o : List OEv} {d : Nat} {x : Operand} {t e ty : TypeId} {pos : String} {af : Array Edge} [ht : TSlice P t e]
    (hx : ev r x = some (.c (.g .nil))) (hd : Nat.blt d c.n = true) :
    Op1 P c ops (some d) (.call { callee := .builtin .len, args := #[x], argTypes := #[t] }) ty pos af ⟨r, o⟩ ⟨[(x, .c (.g .nil))].flatMap rdx, [], [.set d (.c (.g (.int .i64 0)))], []⟩ :=
  S_quiet1 _ hx hd (fun ρ w F L h1 _ => by
    refine ⟨.int .i64 0, ?_, RG.int _ _⟩
    simp only [RP, RL] at h1
    generalize hv : ρ x = v at h1
    cases h1
    simp [execOp, resolve, invoke, builtin, Builtin.len_, run_underlying ht.h, hv, goInt])
theorem S_lenO {r : List REv} {o : List OEv} {d : Nat} {x : Operand} {t e ty : TypeId} {pos : String} {af : Array Edge} {id off len : Nat} [ht : TSlice P t e]
    (hx : ev r x = some (.c (.osl id off len))) (hd : Nat.blt d c.n = true) :
    Op1 P c ops (some d) (.call { callee := .builtin .len, args := #[x], argTypes := #[t] }) ty pos af ⟨r, o⟩ ⟨[(x, .c (.osl id off len))].flatMap rdx, [], [.set d (.c (.g (.int .i64 len)))], []⟩ :=
  S_quiet1 _ hx hd (fun ρ w F L h1 _ => by
    refine ⟨.int .i64 len, ?_, RG.int _ _⟩
    simp only [RP, RL] at h1
    obtain ⟨p, hp, hle, ⟨_, hv, _, hl⟩ | ⟨b, o', _, hv, _⟩⟩ := h1
    · simp [execOp, resolve, invoke, builtin, Builtin.len_, run_underlying ht.h, hv, goInt, hl]
    · simp [execOp, resolve, invoke, builtin, Builtin.len_, run_underlying ht.h, hv, goInt])
theorem S_lenS {r : List REv} {o : List OEv} {d : Nat} {x : Operand} {t ty : TypeId} {pos : String} {af : Array Edge} {l : List UInt8} [ht : TStr P t]
    (hx : ev r x = some (.c (.g (.str l)))) (hd : Nat.blt d c.n = true) :
    Op1 P c ops (some d) (.call { callee := .builtin .len, args := #[x], argTypes := #[t] }) ty pos af ⟨r, o⟩ ⟨[(x, .c (.g (.str l)))].flatMap rdx, [], [.set d (.c (.g (.int .i64 l.length)))], []⟩ :=
  S_quiet1 _ hx hd (fun ρ w F L h1 _ => by
    refine ⟨.int .i64 l.length, ?_, RG.int _ _⟩
    have e : (ByteArray.mk ⟨l⟩).size = l.length := rfl
    simp [execOp, resolve, invoke, builtin, Builtin.len_, run_underlying ht.h, gstr h1, goInt, e, -ByteArray.size_data])

/-! ### parts of values -/
theorem S_extractG {r : List REv} {o : List OEv} {d : Nat} {x : Operand} {ty : TypeId} {pos : String} {af : Array Edge} {vs : List GV} {i : Nat} {y : GV}
    (hx : ev r x = some (.c (.g (.tup vs)))) (hy : vs[i]? = some y) (hd : Nat.blt d c.n = true) :
    Op1 P c ops (some d) (.extract x i) ty pos af ⟨r, o⟩ ⟨[(x, .c (.g (.tup vs)))].flatMap rdx, [], [.set d (.c (.g y))], []⟩ :=
  S_quiet1 _ hx hd (fun ρ w F L h1 _ => by
    simp only [RP, RL] at h1
    generalize hv : ρ x = v at h1
    cases h1 with
    | tup _ us hl h =>
      have hi : i < us.length := by rw [← hl]; exact (List.getElem?_eq_some_iff.1 hy).1
      refine ⟨us[i], ?_, h i y _ hy (List.getElem?_eq_getElem hi)⟩
      simp [execOp, hv, Instr.extract, hi])
theorem S_extractC {r : List REv} {o : List OEv} {d : Nat} {x : Operand} {ty : TypeId} {pos : String} {af : Array Edge} {vs : List (Bool × List LC)} {i : Nat} {y : LC}
    (hx : ev r x = some (.tup vs)) (hy : vs[i]? = some (false, [y])) (hd : Nat.blt d c.n = true) :
    Op1 P c ops (some d) (.extract x i) ty pos af ⟨r, o⟩ ⟨[(x, .tup vs)].flatMap rdx, [], [.set d (.c y)], []⟩ :=
  S_quiet1 _ hx hd (fun ρ w F L h1 _ => by
    simp only [RP] at h1
    obtain ⟨us, hv, hl, h⟩ := h1
    have hi : i < us.length := by rw [hl]; exact (List.getElem?_eq_some_iff.1 hy).1
    have := h i _ _ hy (List.getElem?_eq_getElem hi)
    simp only [Bool.false_eq_true, if_false] at this
    obtain ⟨u, hu, hr⟩ := this
    cases hu
    refine ⟨us[i], ?_, hr⟩
    simp [execOp, hv, Instr.extract, hi])
theorem S_extractA {r : List REv} {o : List OEv} {d : Nat} {x : Operand} {ty : TypeId} {pos : String} {af : Array Edge} {vs : List (Bool × List LC)} {i : Nat} {cs : List LC}
    (hx : ev r x = some (.tup vs)) (hy : vs[i]? = some (true, cs)) (hd : Nat.blt d c.n = true) :
    Op1 P c ops (some d) (.extract x i) ty pos af ⟨r, o⟩ ⟨[(x, .tup vs)].flatMap rdx, [], [.set d (.agg cs)], []⟩ :=
  S_quiet1 _ hx hd (fun ρ w F L h1 _ => by
    simp only [RP] at h1
    obtain ⟨us, hv, hl, h⟩ := h1
    have hi : i < us.length := by rw [hl]; exact (List.getElem?_eq_some_iff.1 hy).1
    have := h i _ _ hy (List.getElem?_eq_getElem hi)
    simp only [if_true] at this
    refine ⟨us[i], ?_, this⟩
    simp [execOp, hv, Instr.extract, hi])
end
end Go.Pu
/- The pure layer, part 5: memory of the call's own. Any program. -/
namespace Go.Pu
open Go
section
variable {P : Program} {c : Ctx} {ops : Array Oper}

/-! ### how the readings move -/
theorem RL_mono {F F' : FMap} {L : LMap} (hF : ∀ b o v, F b o = some v → F' b o = some v) {x : LC} {v : Value} (h : RL F L x v) : RL F' L x v := by
  cases x with
  | g y => exact RG.mono hF h
  | junk => trivial
  | osl i o l => exact h
  | optr i e o => exact h
theorem RL_noRef {F : FMap} {L L' : LMap} {id : Nat} (hL : ∀ i, i ≠ id → L' i = L i) {x : LC} {v : Value} (hn : x.noRef id = true) (h : RL F L x v) : RL F L' x v := by
  cases x with
  | g y => exact h
  | junk => trivial
  | osl i o l =>
    simp only [LC.noRef, Bool.not_eq_true'] at hn
    obtain ⟨p, hp, r⟩ := h
    exact ⟨p, by rw [hL i (ne_of_beq hn)]; exact hp, r⟩
  | optr i e o =>
    simp only [LC.noRef, Bool.not_eq_true'] at hn
    obtain ⟨p, b, hp, r⟩ := h
    exact ⟨p, b, by rw [hL i (ne_of_beq hn)]; exact hp, r⟩
theorem RL_kill {F : FMap} {L L' : LMap} {id : Nat} (hL : ∀ i, i ≠ id → L' i = L i) {x : LC} {v : Value} (h : RL F L x v) : RL F L' (x.kill id) v := by
  cases hb : x.noRef id with
  | true => rw [LC.kill_noRef hb]; exact RL_noRef hL hb h
  | false =>
    cases x with
    | g y => simp [LC.noRef] at hb
    | junk => trivial
    | osl i o l => simp only [LC.noRef, Bool.not_eq_false'] at hb; simp only [LC.kill, hb, cond_true]; trivial
    | optr i e o => simp only [LC.noRef, Bool.not_eq_false'] at hb; simp only [LC.kill, hb, cond_true]; trivial
theorem RL_add {F : FMap} {L L' : LMap} (hL : ∀ i p, L i = some p → L' i = some p) {x : LC} {v : Value} (h : RL F L x v) : RL F L' x v := by
  cases x with
  | g y => exact h
  | junk => trivial
  | osl i o l => obtain ⟨p, hp, r⟩ := h; exact ⟨p, hL _ _ hp, r⟩
  | optr i e o => obtain ⟨p, b, hp, r⟩ := h; exact ⟨p, b, hL _ _ hp, r⟩

/-- A reading of a value, by a map on the readings of cells. -/
theorem RP_of {F F' : FMap} {L L' : LMap} {pv : PV} {v : Value} (ok : LC → Prop) (hc : ∀ x u, ok x → RL F L x u → RL F' L' x u) (hok : match pv with | .c x => ok x | .agg cs => ∀ x ∈ cs, ok x | .tup ps => ∀ p ∈ ps, ∀ x ∈ p.2, ok x)
    (h : RP F L pv v) : RP F' L' pv v := by
  cases pv with
  | c x => exact hc _ _ hok h
  | agg cs =>
    obtain ⟨vs, h1, h2, h3⟩ := h
    exact ⟨vs, h1, h2, fun i x u hx hu => hc _ _ (hok x (List.mem_of_getElem? hx)) (h3 i x u hx hu)⟩
  | tup ps =>
    obtain ⟨vs, h1, h2, h3⟩ := h
    refine ⟨vs, h1, h2, fun i p u hp hu => ?_⟩
    have h4 := h3 i p u hp hu
    have hk := hok p (List.mem_of_getElem? hp)
    split at h4
    · rename_i hb
      rw [if_pos hb]
      obtain ⟨us, e1, e2, e3⟩ := h4
      exact ⟨us, e1, e2, fun i x u hx hu => hc _ _ (hk x (List.mem_of_getElem? hx)) (e3 i x u hx hu)⟩
    · rename_i hb
      rw [if_neg hb]
      obtain ⟨x, e1, e2⟩ := h4
      exact ⟨x, e1, hc _ _ (hk x (by rw [e1]; simp)) e2⟩
theorem RP_mono {F F' : FMap} {L : LMap} (hF : ∀ b o v, F b o = some v → F' b o = some v) {x : PV} {v : Value} (h : RP F L x v) : RP F' L x v :=
  RP_of (fun _ => True) (fun _ _ _ => RL_mono hF) (by cases x <;> simp) h
theorem RP_add {F : FMap} {L L' : LMap} (hL : ∀ i p, L i = some p → L' i = some p) {x : PV} {v : Value} (h : RP F L x v) : RP F L' x v :=
  RP_of (fun _ => True) (fun _ _ _ => RL_add hL) (by cases x <;> simp) h
theorem RP_noRef {F : FMap} {L L' : LMap} {id : Nat} (hL : ∀ i, i ≠ id → L' i = L i) {x : PV} {v : Value} (hn : x.noRef id = true) (h : RP F L x v) : RP F L' x v := by
  refine RP_of (fun x => x.noRef id = true) (fun _ _ hk => RL_noRef hL hk) ?_ h
  cases x with
  | c x => exact hn
  | agg cs => simpa [PV.noRef] using hn
  | tup ps => simpa [PV.noRef] using hn

def updL (L : LMap) (id : Nat) (p : Option Plc) : LMap := fun i => if i = id then p else L i
theorem updL_ne {L : LMap} {id : Nat} {p : Option Plc} : ∀ i, i ≠ id → updL L id p i = L i := fun i h => by simp [updL, h]
theorem updL_same (L : LMap) (id : Nat) (p : Option Plc) : updL L id p id = p := by simp [updL]

theorem killObj_cells {k : Nat} {o o' : Obj} (h : killObj k (some o) = some o') : o'.e = o.e ∧ o'.fz = o.fz ∧ o'.es.cells = o.es.cells.map (·.map (LC.kill k)) := by
  obtain ⟨e, fz, es⟩ := o
  cases es with
  | gnd es =>
    simp only [killObj, Option.some.injEq] at h
    subst h
    refine ⟨rfl, rfl, ?_⟩
    simp only [Cont.cells, List.map_map]
    refine List.map_congr_left fun r _ => ?_
    simp [Function.comp, LC.kill]
  | loc es =>
    simp only [killObj, Option.some.injEq] at h
    subst h
    exact ⟨rfl, rfl, rfl⟩

/-- Content with other readings of its cells. -/
theorem ObjOk.re {F F' : FMap} {L L' : LMap} {w w' : World} {id : Nat} {o o' : Obj} (h : ObjOk P F L w id o) (hl : L' id = L id) (he : o'.e = o.e) (hfz : o.fz ≤ o'.fz) (f : LC → LC) (hcells : o'.es.cells = o.es.cells.map (·.map f))
    (hr : ∀ x v, RL F L x v → RL F' L' (f x) v) (hw : ∀ p b, L id = some p → p.blk = some b → w'.heap[b]? = w.heap[b]?) : ObjOk P F' L' w' id o' := by
  obtain ⟨p, h1, h2, h3, h4, h5, h6, h7⟩ := h
  refine ⟨p, by rw [hl]; exact h1, by omega, by rw [he]; exact h3, ?_, by rw [hcells]; simpa using h5, h6, ?_⟩
  · intro el hel
    rw [hcells] at hel
    obtain ⟨r, hr', rfl⟩ := List.mem_map.1 hel
    simpa using h4 r hr'
  · rcases h7 with ⟨h7, h8⟩ | ⟨b, cur, h7, h8, h9, h10⟩
    · exact .inl ⟨h7, by rw [hcells, h8]; rfl⟩
    · refine .inr ⟨b, cur, h7, by rw [hw p b h1 h7, he]; exact h8, h9, ?_⟩
      intro i j el x hel hx
      rw [hcells, List.getElem?_map, Option.map_eq_some_iff] at hel
      obtain ⟨r, hr', rfl⟩ := hel
      rw [List.getElem?_map, Option.map_eq_some_iff] at hx
      obtain ⟨y, hy, rfl⟩ := hx
      obtain ⟨v, hv, hv1, hv2⟩ := h10 i j r y hr' hy
      exact ⟨v, hv, hv1, hr y v hv2⟩
theorem map_map_id (es : List (List LC)) : es = es.map (·.map fun x => x) := by simp

/-- An id is set free: nothing leans on it any more. -/
theorem SimFL.free {s : St} {a : Act} {w : World} {F : FMap} {L : LMap} (h : SimFL P c s a w F L) (id : Nat) (hid : id < c.n) :
    SimFL P c ⟨.kill id :: s.regs, .free id :: s.objs⟩ a w F (updL L id none) where
  df := h.df
  sz := h.sz
  ag := h.ag
  fr := h.fr
  fx := h.fx
  rg := by
    intro t v ht
    simp only [look] at ht
    exact RP_noRef updL_ne (noRef_killO ht) (h.rg t v (killO_some ht))
  ob := by
    intro i o ho
    simp only [lookO] at ho
    cases hb : Nat.beq id i with
    | true => rw [hb] at ho; cases ho
    | false =>
      rw [hb] at ho
      simp only [cond_false] at ho
      cases hx : lookO s.objs i with
      | none => rw [hx] at ho; cases ho
      | some o0 =>
        rw [hx] at ho
        obtain ⟨e1, e2, e3⟩ := killObj_cells ho
        have hne : i ≠ id := fun e => ne_of_beq hb e.symm
        exact (h.ob i o0 hx).re (updL_ne i hne) e1 (by omega) (LC.kill id) e3 (fun x v hx => RL_kill updL_ne hx) (fun _ _ _ _ => rfl)
  lk := by
    have key : ∀ i p, updL L id none i = some p → L i = some p := by
      intro i p hp
      unfold updL at hp
      split at hp
      · cases hp
      · exact hp
    exact ⟨fun i p b hp hb => h.lk.own i p b (key _ _ hp) hb, fun i p b o hp hb ho => h.lk.free i p b o (key _ _ hp) hb ho, fun i i' p p' b hp hp' hb hb' => h.lk.inj i i' p p' b (key _ _ hp) (key _ _ hp') hb hb'⟩
  fe := by
    intro i hi
    simp only [freeO] at hi
    unfold updL
    split
    · rfl
    · rename_i hne
      cases hb : Nat.beq id i with
      | true => exact absurd (beq_of hb).symm hne
      | false => rw [hb] at hi; exact h.fe i hi
  pn := fun i hi => by rw [updL_ne i (by omega)]; exact h.pn i hi
  f0 := h.f0

/-- The world has more blocks than it had. -/
theorem SimFL.grow {s : St} {a : Act} {w w' : World} {F : FMap} {L : LMap} (h : SimFL P c s a w F L) (h1 : w'.os = w.os) (h2 : w'.tape = w.tape) (h3 : w'.output = w.output) (h4 : w.heap.size ≤ w'.heap.size)
    (h5 : ∀ k, k < w.heap.size → w'.heap[k]? = w.heap[k]?) : SimFL P c s a w' F L where
  df := h.df
  sz := h.sz
  ag := by
    intro b o v hv
    have hc := h.ag b o v hv
    have hlt := World.block_lt_of_cell? w _ hc
    rw [World.cell?_of_block (w := w) (h5 b hlt)]
    exact hc
  fr := ⟨h1.trans h.fr.os, h2.trans h.fr.tape, h3.trans h.fr.output, Nat.le_trans h.fr.size h4, fun k hk hm => by rw [h5 k (Nat.lt_of_lt_of_le hk h.fr.size)]; exact h.fr.block k hk hm⟩
  fx := h.fx
  rg := h.rg
  ob := fun id o ho => (h.ob id o ho).re rfl rfl (Nat.le_refl _) (fun x => x) (map_map_id _) (fun _ _ h => h) (fun p b hp hb => h5 b (h.lk.own id p b hp hb).2)
  lk := ⟨fun id p b hp hb => ⟨(h.lk.own id p b hp hb).1, Nat.lt_of_lt_of_le (h.lk.own id p b hp hb).2 h4⟩, h.lk.free, h.lk.inj⟩
  fe := h.fe
  pn := h.pn
  f0 := h.f0

theorem cell_setRow {w : World} {g : Nat} {cur cur' : Array Value} {t : TypeId} {fr : Nat × Nat} (hg : w.heap[g]? = some (.cells cur t fr)) (b o : Nat) :
    (w.setRow g cur').cell? ⟨b, o, none⟩ = if b = g then cur'[o]? else w.cell? ⟨b, o, none⟩ := by
  split
  · rename_i h; subst h
    exact cell_of_row _ _ _ cur' t fr (by
      simp only [World.setRow, Array.getElem?_modify, if_true, hg, Option.map_some])
  · rename_i h
    exact World.cell?_of_block (w := w) (by
      simp only [World.setRow, Array.getElem?_modify]
      rw [if_neg (fun e => h e.symm)])
theorem heap_setRow_ne (w : World) (g : Nat) (cur' : Array Value) {b : Nat} (h : b ≠ g) : (w.setRow g cur').heap[b]? = w.heap[b]? := by
  simp only [World.setRow, Array.getElem?_modify]
  rw [if_neg (fun e => h e.symm)]
theorem heap_setRow_same {w : World} {g : Nat} {cur cur' : Array Value} {t : TypeId} {fr : Nat × Nat} (hg : w.heap[g]? = some (.cells cur t fr)) : (w.setRow g cur').heap[g]? = some (.cells cur' t fr) := by
  simp only [World.setRow, Array.getElem?_modify, if_true, hg, Option.map_some]

/-- A block that no id owns any more is written, outside of the cells that never change. -/
theorem SimFL.poke {s : St} {a : Act} {w : World} {F : FMap} {L : LMap} (h : SimFL P c s a w F L) {b : Nat} {cur cur' : Array Value} {t : TypeId} (hb : w.heap[b]? = some (.cells cur t (0, 0))) (hown : c.w0.heap.size ≤ b ∨ c.M b)
    (hno : ∀ id p, L id = some p → p.blk ≠ some b) (hF : ∀ o v, F b o = some v → cur'[o]? = cur[o]?) : SimFL P c s a (w.setRow b cur') F L where
  df := h.df
  sz := h.sz
  ag := by
    intro b' o v hv
    have hc := h.ag b' o v hv
    rw [cell_setRow hb]
    split
    · rename_i e
      subst e
      rw [hF o v hv, ← cell_of_row w b' o cur t _ hb]
      exact hc
    · exact hc
  fr := ⟨h.fr.os, h.fr.tape, h.fr.output, by simpa using h.fr.size, fun k hk hm => by
    rw [heap_setRow_ne]
    · exact h.fr.block k hk hm
    · rintro rfl
      rcases hown with h | h
      · omega
      · exact hm h⟩
  fx := h.fx
  rg := h.rg
  ob := fun id o ho => (h.ob id o ho).re rfl rfl (Nat.le_refl _) (fun x => x) (map_map_id _) (fun _ _ h => h) (fun p b' hp hb' => heap_setRow_ne _ _ _ (fun e => hno id p hp (e ▸ hb')))
  lk := ⟨fun id p b hp hb => ⟨(h.lk.own id p b hp hb).1, by simpa using (h.lk.own id p b hp hb).2⟩, h.lk.free, h.lk.inj⟩
  fe := h.fe
  pn := h.pn
  f0 := h.f0

/-- A free id takes a block over. -/
theorem SimFL.adopt {s : St} {a : Act} {w : World} {F : FMap} {L : LMap} (h : SimFL P c s a w F L) {id : Nat} (hid : id < c.n) (hfree : freeO s.objs id = true) (ob : Obj) (p : Plc) (hfz : p.fz ≤ ob.fz) (hi : ∃ i, P.info? ob.e = some i ∧ i.size = p.sz)
    (h4 : ∀ el ∈ ob.es.cells, el.length = p.sz) (h5 : ob.es.cells.length ≤ p.cap) (h6 : p.cap ≤ maxLen)
    (h7 : (p.blk = none ∧ ob.es.cells = []) ∨ ∃ b cur, p.blk = some b ∧ w.heap[b]? = some (.cells cur ob.e (0, 0)) ∧ p.o + p.cap * p.sz ≤ cur.size ∧ (c.w0.heap.size ≤ b ∨ c.M b) ∧ (∀ o, p.o + p.fz * p.sz ≤ o → F b o = none) ∧ (∀ i q, L i = some q → q.blk ≠ some b) ∧
      ∀ i j el x, ob.es.cells[i]? = some el → el[j]? = some x → ∃ v, cur[p.o + i * p.sz + j]? = some v ∧ v.oneCell' = true ∧ RL F L x v) :
    SimFL P c ⟨s.regs, .set id ob :: s.objs⟩ a w F (updL L id (some p)) := by
  have hL0 : L id = none := h.fe id hfree
  have hadd : ∀ i q, L i = some q → updL L id (some p) i = some q := by
    intro i q hq
    have : i ≠ id := by rintro rfl; rw [hL0] at hq; cases hq
    rw [updL_ne i this]; exact hq
  have hinv : ∀ i q, updL L id (some p) i = some q → (i = id ∧ q = p) ∨ (i ≠ id ∧ L i = some q) := by
    intro i q hq
    by_cases e : i = id
    · subst e; rw [updL_same] at hq; cases hq; exact .inl ⟨rfl, rfl⟩
    · rw [updL_ne i e] at hq; exact .inr ⟨e, hq⟩
  exact {
    df := h.df
    sz := h.sz
    ag := h.ag
    fr := h.fr
    fx := h.fx
    rg := fun t v ht => RP_add hadd (h.rg t v ht)
    ob := by
      intro i o ho
      simp only [lookO] at ho
      cases hb : Nat.beq id i with
      | true =>
        rw [hb] at ho
        simp only [cond_true, Option.some.injEq] at ho
        subst ho
        have := beq_of hb
        subst this
        refine ⟨p, updL_same _ _ _, hfz, hi, h4, h5, h6, ?_⟩
        rcases h7 with h7 | ⟨b, cur, e1, e2, e3, _, _, _, e4⟩
        · exact .inl h7
        · exact .inr ⟨b, cur, e1, e2, e3, fun i j el x hel hx => by
            obtain ⟨v, hv, hv1, hv2⟩ := e4 i j el x hel hx
            exact ⟨v, hv, hv1, RL_add hadd hv2⟩⟩
      | false =>
        rw [hb] at ho
        have hne : i ≠ id := fun e => ne_of_beq hb e.symm
        exact (h.ob i o ho).re (updL_ne i hne) rfl (Nat.le_refl _) (fun x => x) (map_map_id _) (fun x v hx => RL_add hadd hx) (fun _ _ _ _ => rfl)
    lk := by
      refine ⟨?_, ?_, ?_⟩
      · intro i q b hq hb
        rcases hinv i q hq with ⟨rfl, rfl⟩ | ⟨_, hq⟩
        · rcases h7 with h7 | ⟨b', cur, e1, e2, _, e3, _⟩
          · rw [h7.1] at hb; cases hb
          · rw [e1] at hb; cases hb
            exact ⟨e3, (Array.getElem?_eq_some_iff.1 e2).1⟩
        · exact h.lk.own i q b hq hb
      · intro i q b o hq hb ho
        rcases hinv i q hq with ⟨rfl, rfl⟩ | ⟨_, hq⟩
        · rcases h7 with h7 | ⟨b', cur, e1, _, _, _, e3, _⟩
          · rw [h7.1] at hb; cases hb
          · rw [e1] at hb; cases hb
            exact e3 o ho
        · exact h.lk.free i q b o hq hb ho
      · intro i i' q q' b hq hq' hb hb'
        rcases hinv i q hq with ⟨rfl, rfl⟩ | ⟨hne, hq⟩
        · rcases hinv i' q' hq' with ⟨rfl, rfl⟩ | ⟨hne', hq'⟩
          · rfl
          · rcases h7 with h7 | ⟨b', cur, e1, _, _, _, _, e3, _⟩
            · rw [h7.1] at hb; cases hb
            · rw [e1] at hb; cases hb
              exact absurd hb' (e3 i' q' hq')
        · have hq1 : L i = some q := by assumption
          rcases hinv i' q' hq' with ⟨e0, e9⟩ | ⟨hne', hq'⟩
          · rcases h7 with h7 | ⟨b', cur, e1, _, _, _, _, e3, _⟩
            · rw [e9, h7.1] at hb'; cases hb'
            · rw [e9, e1] at hb'; cases hb'
              exact absurd hb (e3 i q hq1)
          · exact h.lk.inj i i' q q' b hq1 hq' hb hb'
    fe := by
      intro i hi
      simp only [freeO] at hi
      cases hb : Nat.beq id i with
      | true => rw [hb] at hi; cases hi
      | false =>
        rw [hb] at hi
        have hne : i ≠ id := fun e => ne_of_beq hb e.symm
        rw [updL_ne i hne]
        exact h.fe i hi
    pn := fun i hi => by rw [updL_ne i (by omega)]; exact h.pn i hi
    f0 := h.f0 }

theorem Ag.none_new {F : FMap} {w : World} (h : Ag F w) {b : Nat} (hb : w.heap.size ≤ b) (o : Nat) : F b o = none := by
  cases hx : F b o with
  | none => rfl
  | some v => have := World.block_lt_of_cell? w _ (h b o v hx); simp at this; omega

/-- A new block under an id. -/
theorem SimFL.alloc {s : St} {a : Act} {w : World} {F : FMap} {L : LMap} (h : SimFL P c s a w F L) (id : Nat) (hid : id < c.n) (ob : Obj) (cur : Array Value) (n sz : Nat) (hi : ∃ i, P.info? ob.e = some i ∧ i.size = sz)
    (h4 : ∀ el ∈ ob.es.cells, el.length = sz) (h5 : ob.es.cells.length ≤ n) (h6 : n ≤ maxLen) (hcur : n * sz ≤ cur.size)
    (h7 : ∀ i j el x, ob.es.cells[i]? = some el → el[j]? = some x → x.noRef id = true ∧ ∃ v, cur[i * sz + j]? = some v ∧ v.oneCell' = true ∧ RL F L x v) :
    SimFL P c ⟨.kill id :: s.regs, .set id ob :: .free id :: s.objs⟩ a (w.alloc (.cells cur ob.e)) F (updL (updL L id none) id (some ⟨some w.heap.size, 0, n, sz, 0⟩)) := by
  have hg : SimFL P c _ a (w.alloc (.cells cur ob.e)) F _ := (h.free id hid).grow rfl rfl rfl (by simp) (fun k hk => heap_alloc_old _ _ hk)
  refine hg.adopt hid (by simp [freeO]) ob ⟨some w.heap.size, 0, n, sz, 0⟩ (Nat.zero_le _) hi h4 h5 h6 (.inr ⟨w.heap.size, cur, rfl, heap_alloc_new w _, by simpa using hcur, .inl h.fr.size, fun o _ => h.ag.none_new (Nat.le_refl _) o, ?_, ?_⟩)
  · intro i q hq hb
    unfold updL at hq
    split at hq
    · cases hq
    · have := (h.lk.own i q _ hq hb).2
      omega
  · intro i j el x hel hx
    obtain ⟨hn, v, hv, hv1, hv2⟩ := h7 i j el x hel hx
    exact ⟨v, by simpa using hv, hv1, RL_noRef updL_ne hn hv2⟩
end
end Go.Pu
/- The pure layer, part 6: operations that make and write memory of the call's own. Any program. -/
namespace Go.Pu
open Go

/-- Of one cell. -/
def GV.one : GV → Bool
  | .agg _ => false
  | .tup _ => false
  | _ => true
def LC.one : LC → Bool
  | .g v => v.one
  | .junk => false
  | _ => true
def gcells : GV → List GV
  | .agg cs => cs
  | v => [v]
def pcells : PV → List LC
  | .c (.g (.agg cs)) => cs.map .g
  | .c x => [x]
  | .agg cs => cs
  | .tup _ => []

theorem RG_one {F : FMap} {g : GV} {v : Value} (h : RG F g v) (h1 : g.one = true) : v.oneCell' = true := by
  cases h <;> first | rfl | (simp [GV.one] at h1)
theorem RL_one {F : FMap} {L : LMap} {x : LC} {v : Value} (h : RL F L x v) (h1 : x.one = true) : v.oneCell' = true := by
  cases x with
  | g y => exact RG_one h h1
  | junk => simp [LC.one] at h1
  | osl i o l =>
    obtain ⟨p, _, _, ⟨_, hv, _⟩ | ⟨b, o', _, hv, _⟩⟩ := h <;> rw [hv] <;> rfl
  | optr i e o => obtain ⟨p, b, _, _, hv⟩ := h; rw [hv]; rfl
theorem cells_one {v : Value} (h : v.oneCell' = true) : v.cells = #[v] := by
  cases v <;> first | rfl | (simp [Value.oneCell'] at h)

/-- The cells of a value. -/
theorem RP_cells {F : FMap} {L : LMap} {pv : PV} {v : Value} (h : RP F L pv v) (h1 : (pcells pv).all LC.one = true) (hne : ∀ vs, pv ≠ .tup vs) :
    ∃ vs : List Value, v.cells = ⟨vs⟩ ∧ vs.length = (pcells pv).length ∧ ∀ (j : Nat) (x : LC), (pcells pv)[j]? = some x → ∃ u, vs[j]? = some u ∧ u.oneCell' = true ∧ RL F L x u := by
  have single : ∀ x : LC, x.one = true → RL F L x v → pcells pv = [x] → ∃ vs : List Value, v.cells = ⟨vs⟩ ∧ vs.length = (pcells pv).length ∧ ∀ (j : Nat) (x : LC), (pcells pv)[j]? = some x → ∃ u, vs[j]? = some u ∧ u.oneCell' = true ∧ RL F L x u := by
    intro x hx hr he
    have ho := RL_one hr hx
    refine ⟨[v], by rw [cells_one ho], by rw [he]; rfl, fun j y hy => ?_⟩
    rw [he] at hy
    cases j with
    | zero => simp at hy; subst hy; exact ⟨v, rfl, ho, hr⟩
    | succ j => simp at hy
  cases pv with
  | tup vs => exact absurd rfl (hne vs)
  | agg cs =>
    obtain ⟨vs, rfl, h2, h3⟩ := h
    refine ⟨vs, rfl, h2, fun j x hx => ?_⟩
    have hj : j < vs.length := by rw [h2]; exact (List.getElem?_eq_some_iff.1 hx).1
    have hr := h3 j x _ hx (List.getElem?_eq_getElem hj)
    exact ⟨_, List.getElem?_eq_getElem hj, RL_one hr (by simp only [pcells, List.all_eq_true] at h1; exact h1 x (List.mem_of_getElem? hx)), hr⟩
  | c x =>
    cases x with
    | g y =>
      cases y with
      | agg cs =>
        simp only [RP, RL] at h
        cases h with
        | agg _ vs hl h3 =>
          refine ⟨vs, rfl, by simp [pcells, hl], fun j x hx => ?_⟩
          simp only [pcells, List.getElem?_map, Option.map_eq_some_iff] at hx
          obtain ⟨y, hy, rfl⟩ := hx
          have hj : j < vs.length := by rw [← hl]; exact (List.getElem?_eq_some_iff.1 hy).1
          have hr := h3 j y _ hy (List.getElem?_eq_getElem hj)
          refine ⟨_, List.getElem?_eq_getElem hj, RG_one hr ?_, hr⟩
          simp only [pcells, List.all_map, List.all_eq_true] at h1
          exact h1 y (List.mem_of_getElem? hy)
      | _ => simp only [RP] at h; exact single _ (by simpa [pcells] using h1) h rfl
    | junk => simp [pcells, LC.one] at h1
    | _ => simp only [RP] at h; exact single _ rfl h rfl

class TZero (P : Program) (t : TypeId) (zs : outParam (List GV)) : Prop where
  h : ∃ i z vs, P.info? t = some i ∧ i.zero = some z ∧ z.cells = ⟨vs⟩ ∧ vs.length = zs.length ∧ i.size = zs.length ∧ ∀ (F : FMap) (j : Nat) (x : GV), zs[j]? = some x → ∃ u, vs[j]? = some u ∧ u.oneCell' = true ∧ RG F x u

section
variable {P : Program} {c : Ctx} {ops : Array Oper}

theorem Nat.blt_lt {a b : Nat} (h : Nat.blt a b = true) : a < b := by simpa [Nat.blt_eq] using h

/-- An operation that makes a variable. -/
theorem S_newP {r : List REv} {o : List OEv} {d : Nat} {op : Op} {ty : TypeId} {pos : String} {af : Array Edge} (xs : List (Operand × PV)) (ob : Obj) (cs : List LC) (hob : ob.es.cells = [cs]) (hd : Nat.blt d c.n = true)
    (hx : ∀ p ∈ xs, ev r p.1 = some p.2) (hn : cs.all (LC.noRef d) = true) (hi : ∃ i, P.info? ob.e = some i ∧ i.size = cs.length)
    (h : ∀ (ρ : Operand → Value) w F L, (∀ p ∈ xs, RP F L p.2 (ρ p.1)) →
      ∃ vs : List Value, (execOp ρ ⟨some d, op, ty, pos, af, none⟩).run P w = .ok (.value (.pointer (some ⟨w.heap.size, 0, none⟩))) (w.alloc (.cells ⟨vs⟩ ob.e)) ∧ vs.length = cs.length ∧
        ∀ (j : Nat) (x : LC), cs[j]? = some x → ∃ u, vs[j]? = some u ∧ u.oneCell' = true ∧ RL F L x u) :
    Op1 P c ops (some d) op ty pos af ⟨r, o⟩ ⟨xs.flatMap rdx, [], [.set d (.c (.optr d 0 0)), .kill d], [.set d ob, .free d]⟩ := by
  refine ⟨?_, holds_of hx (by simp)⟩
  rintro ⟨r', o'⟩ a w hh ⟨F, L, hs⟩
  rw [if_pos (by simp [Region.wanted])]
  have hx' := ev_of_holds hx hh
  obtain ⟨vs, hr, hlen, hv⟩ := h a.eval w F L (fun p hp => ev_ok hs.rg (hx' p hp))
  unfold Oper.wp
  rw [hr]
  have := hs.alloc d (Nat.blt_lt hd) ob ⟨vs⟩ 1 cs.length hi (by rw [hob]; simp) (by rw [hob]; simp) (by simp [maxLen]) (by simp [hlen]) (by
    intro i j el x hel hx
    rw [hob] at hel
    cases i with
    | succ i => simp at hel
    | zero =>
      simp at hel
      subst hel
      obtain ⟨u, hu, h1, hr⟩ := hv j x hx
      exact ⟨by simp only [List.all_eq_true] at hn; exact hn x (List.mem_of_getElem? hx), u, by simpa using hu, h1, hr⟩)
  exact ⟨F, _, this.set (Nat.blt_lt hd) ⟨_, w.heap.size, updL_same _ _ _, rfl, by simp⟩⟩

theorem S_boxA {r : List REv} {o : List OEv} {d : Nat} {x : Operand} {t ty : TypeId} {pos : String} {af : Array Edge} {cs : List GV} {n : Nat} [hz : TSz P t n]
    (hx : ev r x = some (.c (.g (.agg cs)))) (hn : cs.length = n) (h1 : cs.all GV.one = true) (hd : Nat.blt d c.n = true) :
    Op1 P c ops (some d) (.box t x) ty pos af ⟨r, o⟩ ⟨[(x, .c (.g (.agg cs)))].flatMap rdx, [], [.set d (.c (.optr d 0 0)), .kill d], [.set d ⟨t, 0, .gnd [cs]⟩, .free d]⟩ :=
  S_newP [(x, .c (.g (.agg cs)))] ⟨t, 0, .gnd [cs]⟩ (cs.map .g) rfl hd (by simpa using hx) (by simp [LC.noRef]) (by obtain ⟨i, e1, e2⟩ := hz.h; exact ⟨i, e1, by simp [e2, hn]⟩) (fun ρ w F L hr => by
    obtain ⟨vs, e1, e2, e3⟩ := RP_cells (hr (x, .c (.g (.agg cs))) (by simp)) (by simpa [pcells, LC.one, Function.comp_def] using h1) (by intro vs h; cases h)
    exact ⟨vs, by simp [execOp, Instr.box, newVar, newRow, e1], e2, e3⟩)
theorem S_box1 {r : List REv} {o : List OEv} {d : Nat} {x : Operand} {t ty : TypeId} {pos : String} {af : Array Edge} {y : GV} [hz : TSz P t 1]
    (hx : ev r x = some (.c (.g y))) (h1 : y.one = true) (hd : Nat.blt d c.n = true) :
    Op1 P c ops (some d) (.box t x) ty pos af ⟨r, o⟩ ⟨[(x, .c (.g y))].flatMap rdx, [], [.set d (.c (.optr d 0 0)), .kill d], [.set d ⟨t, 0, .gnd [[y]]⟩, .free d]⟩ :=
  S_newP [(x, .c (.g y))] ⟨t, 0, .gnd [[y]]⟩ [.g y] rfl hd (by simpa using hx) (by simp [LC.noRef]) (by obtain ⟨i, e1, e2⟩ := hz.h; exact ⟨i, e1, by simp [e2]⟩) (fun ρ w F L hr => by
    have hp : pcells (.c (.g y)) = [.g y] := by cases y <;> first | rfl | (simp [GV.one] at h1)
    obtain ⟨vs, e1, e2, e3⟩ := RP_cells (hr (x, .c (.g y)) (by simp)) (by rw [hp]; simpa [LC.one] using h1) (by intro vs h; cases h)
    rw [hp] at e2 e3
    exact ⟨vs, by simp [execOp, Instr.box, newVar, newRow, e1], e2, e3⟩)
theorem S_boxL {r : List REv} {o : List OEv} {d : Nat} {x : Operand} {t ty : TypeId} {pos : String} {af : Array Edge} {cs : List LC} {n : Nat} [hz : TSz P t n]
    (hx : ev r x = some (.agg cs)) (hn : cs.length = n) (h1 : cs.all LC.one = true) (hnr : cs.all (LC.noRef d) = true) (hd : Nat.blt d c.n = true) :
    Op1 P c ops (some d) (.box t x) ty pos af ⟨r, o⟩ ⟨[(x, .agg cs)].flatMap rdx, [], [.set d (.c (.optr d 0 0)), .kill d], [.set d ⟨t, 0, .loc [cs]⟩, .free d]⟩ :=
  S_newP [(x, .agg cs)] ⟨t, 0, .loc [cs]⟩ cs rfl hd (by simpa using hx) hnr (by obtain ⟨i, e1, e2⟩ := hz.h; exact ⟨i, e1, by simp [e2, hn]⟩) (fun ρ w F L hr => by
    obtain ⟨vs, e1, e2, e3⟩ := RP_cells (hr (x, .agg cs) (by simp)) (by simpa [pcells] using h1) (by intro vs h; cases h)
    exact ⟨vs, by simp [execOp, Instr.box, newVar, newRow, e1], e2, e3⟩)
theorem S_boxO {r : List REv} {o : List OEv} {d : Nat} {x : Operand} {t ty : TypeId} {pos : String} {af : Array Edge} {id off len : Nat} [hz : TSz P t 1]
    (hx : ev r x = some (.c (.osl id off len))) (hnr : Nat.beq id d = false) (hd : Nat.blt d c.n = true) :
    Op1 P c ops (some d) (.box t x) ty pos af ⟨r, o⟩ ⟨[(x, .c (.osl id off len))].flatMap rdx, [], [.set d (.c (.optr d 0 0)), .kill d], [.set d ⟨t, 0, .loc [[.osl id off len]]⟩, .free d]⟩ :=
  S_newP [(x, .c (.osl id off len))] ⟨t, 0, .loc [[.osl id off len]]⟩ [.osl id off len] rfl hd (by simpa using hx) (by simp [LC.noRef, hnr]) (by obtain ⟨i, e1, e2⟩ := hz.h; exact ⟨i, e1, by simp [e2]⟩) (fun ρ w F L hr => by
    obtain ⟨vs, e1, e2, e3⟩ := RP_cells (hr (x, .c (.osl id off len)) (by simp)) (by simp [pcells, LC.one]) (by intro vs h; cases h)
    exact ⟨vs, by simp [execOp, Instr.box, newVar, newRow, e1], e2, e3⟩)
theorem S_alloc {r : List REv} {o : List OEv} {d : Nat} {t ty : TypeId} {pos : String} {af : Array Edge} {zs : List GV} [hz : TZero P t zs] (hd : Nat.blt d c.n = true) :
    Op1 P c ops (some d) (.alloc t) ty pos af ⟨r, o⟩ ⟨[], [], [.set d (.c (.optr d 0 0)), .kill d], [.set d ⟨t, 0, .gnd [zs]⟩, .free d]⟩ :=
  S_newP [] ⟨t, 0, .gnd [zs]⟩ (zs.map .g) rfl hd (by simp) (by simp [LC.noRef]) (by obtain ⟨i, z, vs, e1, e2, e3, e4, e5, e6⟩ := hz.h; exact ⟨i, e1, by simp [e5]⟩) (fun ρ w F L _ => by
    obtain ⟨i, z, vs, e1, e2, e3, e4, e5, e6⟩ := hz.h
    refine ⟨vs, ?_, by simp [e4], ?_⟩
    · simp [execOp, Instr.alloc, zeroValue, typeInfo, e1, e2, newVar, newRow, e3]
    · intro j x hx
      rw [List.getElem?_map, Option.map_eq_some_iff] at hx
      obtain ⟨y, hy, rfl⟩ := hx
      exact e6 F j y hy)

/-! ### slices that the call makes -/
theorem S_newS {r : List REv} {o : List OEv} {d : Nat} {op : Op} {ty : TypeId} {pos : String} {af : Array Edge} (xs : List (Operand × PV)) (ob : Obj) (n sz : Nat) (hlen : ob.es.cells.length = n) (hsz : ∀ el ∈ ob.es.cells, el.length = sz) (hmax : n ≤ maxLen) (hd : Nat.blt d c.n = true)
    (hx : ∀ p ∈ xs, ev r p.1 = some p.2) (hn : ∀ el ∈ ob.es.cells, ∀ x ∈ el, x.noRef d = true) (hi : ∃ i, P.info? ob.e = some i ∧ i.size = sz)
    (h : ∀ (ρ : Operand → Value) w F L, (∀ p ∈ xs, RP F L p.2 (ρ p.1)) →
      ∃ vs : List Value, (execOp ρ ⟨some d, op, ty, pos, af, none⟩).run P w = .ok (.value (.slice (some ⟨w.heap.size, 0, none⟩) n n)) (w.alloc (.cells ⟨vs⟩ ob.e)) ∧ vs.length = n * sz ∧
        ∀ (i j : Nat) (el : List LC) (x : LC), ob.es.cells[i]? = some el → el[j]? = some x → ∃ u, vs[i * sz + j]? = some u ∧ u.oneCell' = true ∧ RL F L x u) :
    Op1 P c ops (some d) op ty pos af ⟨r, o⟩ ⟨xs.flatMap rdx, [], [.set d (.c (.osl d 0 n)), .kill d], [.set d ob, .free d]⟩ := by
  refine ⟨?_, holds_of hx (by simp)⟩
  rintro ⟨r', o'⟩ a w hh ⟨F, L, hs⟩
  rw [if_pos (by simp [Region.wanted])]
  have hx' := ev_of_holds hx hh
  obtain ⟨vs, hr, hl, hv⟩ := h a.eval w F L (fun p hp => ev_ok hs.rg (hx' p hp))
  unfold Oper.wp
  rw [hr]
  have := hs.alloc d (Nat.blt_lt hd) ob ⟨vs⟩ n sz hi hsz (by omega) hmax (by simp [hl]) (by
    intro i j el x hel hx
    obtain ⟨u, hu, h1, hr⟩ := hv i j el x hel hx
    exact ⟨hn el (List.mem_of_getElem? hel) x (List.mem_of_getElem? hx), u, by simpa using hu, h1, hr⟩)
  exact ⟨F, _, this.set (Nat.blt_lt hd) ⟨_, updL_same _ _ _, by simp, .inr ⟨w.heap.size, 0, rfl, by simp, fun _ => by simp⟩⟩⟩

theorem flat_at {α : Type} {sz : Nat} : ∀ {ls : List (List α)}, (∀ l ∈ ls, l.length = sz) → ∀ {i j : Nat} {l : List α} {x : α}, ls[i]? = some l → l[j]? = some x → ls.flatten[i * sz + j]? = some x := by
  intro ls
  induction ls with
  | nil => intro _ i j l x h; simp at h
  | cons a ls ih =>
    intro hs i j l x hi hj
    have ha := hs a (by simp)
    cases i with
    | zero =>
      simp at hi
      subst hi
      rw [List.flatten_cons, List.getElem?_append_left (by have := (List.getElem?_eq_some_iff.1 hj).1; omega)]
      simpa using hj
    | succ i =>
      simp at hi
      rw [List.flatten_cons, List.getElem?_append_right (by rw [ha, Nat.add_mul]; omega)]
      rw [show (i + 1) * sz + j - a.length = i * sz + j by rw [ha, Nat.add_mul]; omega]
      exact ih (fun l hl => hs l (by simp [hl])) hi hj
theorem flat_len {α : Type} {sz : Nat} : ∀ {ls : List (List α)}, (∀ l ∈ ls, l.length = sz) → ls.flatten.length = ls.length * sz := by
  intro ls
  induction ls with
  | nil => intro _; simp
  | cons a ls ih => intro hs; rw [List.flatten_cons, List.length_append, ih (fun l hl => hs l (by simp [hl])), hs a (by simp), List.length_cons, Nat.add_mul]; omega

/-- 'fill' over parts that cover all. -/
theorem fill_all (sz : Nat) : ∀ (vs : List Value) (k : Nat) (done : List Value) (rest : List Value), (∀ v ∈ vs, v.cells.size = sz) → done.length = k * sz → rest.length = vs.length * sz →
    Instr.fill (fun i => some (i * sz, sz)) ⟨done ++ rest⟩ (vs.zipIdx k |>.map fun p => (p.2, p.1)) = some ⟨done ++ vs.flatMap (fun v => v.cells.toList)⟩ := by
  intro vs
  induction vs with
  | nil => intro k done rest _ hd hr; simp at hr; simp [Instr.fill, hr]
  | cons v vs ih =>
    intro k done rest hv hd hr
    have h0 := hv v (by simp)
    simp only [List.zipIdx_cons, List.map_cons, Instr.fill]
    have hsz : rest.length = sz + vs.length * sz := by rw [hr, List.length_cons, Nat.add_mul]; omega
    have hc : ¬ (v.cells.size ≠ sz ∨ k * sz + v.cells.size > (⟨done ++ rest⟩ : Array Value).size) := by
      simp [h0]; omega
    rw [if_neg (by simpa using hc)]
    have key : ∀ (l : List Value) (n base : Nat) (pre post : List Value), pre.length = base + n → post.length ≥ l.length → (l.zipIdx n).foldl (fun (cs : Array Value) (q : Value × Nat) => cs.setIfInBounds (base + q.2) q.1) ⟨pre ++ post⟩ = ⟨pre ++ l ++ post.drop l.length⟩ := by
      intro l
      induction l with
      | nil => intro n base pre post _ _; simp
      | cons x l ihl =>
        intro n base pre post hb hp
        match post, hp with
        | y :: post, hp =>
          simp only [List.zipIdx_cons, List.foldl_cons]
          have e : (⟨pre ++ y :: post⟩ : Array Value).setIfInBounds (base + n) x = ⟨(pre ++ [x]) ++ post⟩ := by
            apply Array.ext'; simp [← hb]
          rw [e, ihl (n + 1) base (pre ++ [x]) post (by simp; omega) (by simp at hp; omega)]
          simp
    have h2 := key v.cells.toList 0 (k * sz) done rest (by omega) (by simp [h0]; omega)
    rw [show (v.cells.zipIdx.foldl (fun cs (x : Value × Nat) => match x with | (c, j) => cs.setIfInBounds (k * sz + j) c) (⟨done ++ rest⟩ : Array Value)) = ⟨done ++ v.cells.toList ++ rest.drop v.cells.toList.length⟩ by
      rw [← h2, ← Array.foldl_toList]; simp]
    have := ih (k + 1) (done ++ v.cells.toList) (rest.drop v.cells.toList.length) (fun u hu => hv u (by simp [hu])) (by simp [h0, hd, Nat.add_mul]) (by simp [h0]; omega)
    rw [this]
    simp
end
end Go.Pu
/- The pure layer, part 7: slices that the call makes: literals, make, append. Any program. -/
namespace Go.Pu
open Go

/-- The parts of a literal: places from n on, each with its cells. -/
inductive EvE (r : List REv) (sz : Nat) : List (Nat × Operand) → Nat → List (List GV) → List (Operand × PV) → Prop where
  | nil (n : Nat) : EvE r sz [] n [] []
  | agg {n : Nat} {x : Operand} {l : List (Nat × Operand)} {cs : List GV} {es : List (List GV)} {xs : List (Operand × PV)} (hx : ev r x = some (.c (.g (.agg cs)))) (hn : cs.length = sz) (h1 : cs.all GV.one = true)
      (k : EvE r sz l (n + 1) es xs) : EvE r sz ((n, x) :: l) n (cs :: es) ((x, .c (.g (.agg cs))) :: xs)
  | one {n : Nat} {x : Operand} {l : List (Nat × Operand)} {y : GV} {es : List (List GV)} {xs : List (Operand × PV)} (hx : ev r x = some (.c (.g y))) (h1 : y.one = true) (hs : 1 = sz)
      (k : EvE r sz l (n + 1) es xs) : EvE r sz ((n, x) :: l) n ([y] :: es) ((x, .c (.g y)) :: xs)

theorem EvE.spec {r : List REv} {sz : Nat} {l : List (Nat × Operand)} {n : Nat} {es : List (List GV)} {xs : List (Operand × PV)} (h : EvE r sz l n es xs) :
    l = ((l.map (fun p => p.2)).zipIdx n).map (fun p => (p.2, p.1)) := by
  induction h with
  | nil n => rfl
  | agg hx hn h1 k ih => simp only [List.map_cons, List.zipIdx_cons]; rw [← ih]
  | one hx h1 hs k ih => simp only [List.map_cons, List.zipIdx_cons]; rw [← ih]
theorem EvE.vals {r : List REv} {sz : Nat} {l : List (Nat × Operand)} {n : Nat} {es : List (List GV)} {xs : List (Operand × PV)} (h : EvE r sz l n es xs) :
    (∀ p ∈ xs, ev r p.1 = some p.2) ∧ es.length = l.length ∧ (∀ e ∈ es, e.length = sz) := by
  induction h with
  | nil n => simp
  | agg hx hn h1 k ih => exact ⟨List.forall_mem_cons.2 ⟨hx, ih.1⟩, by simp [ih.2.1], List.forall_mem_cons.2 ⟨hn, ih.2.2⟩⟩
  | one hx h1 hs k ih => exact ⟨List.forall_mem_cons.2 ⟨hx, ih.1⟩, by simp [ih.2.1], List.forall_mem_cons.2 ⟨hs, ih.2.2⟩⟩
theorem EvE.cells {r : List REv} {sz : Nat} {l : List (Nat × Operand)} {n : Nat} {es : List (List GV)} {xs : List (Operand × PV)} (h : EvE r sz l n es xs) {F : FMap} {L : LMap} {ρ : Operand → Value}
    (hr : ∀ p ∈ xs, RP F L p.2 (ρ p.1)) : (∀ v ∈ l.map (fun p => ρ p.2), v.cells.size = sz) ∧
      ∀ (i j : Nat) (e : List GV) (x : GV), es[i]? = some e → e[j]? = some x → ∃ v u, (l.map (fun p => ρ p.2))[i]? = some v ∧ v.cells.toList[j]? = some u ∧ u.oneCell' = true ∧ RG F x u := by
  induction h with
  | nil n => simp
  | @agg n x l cs es xs hx hn h1 k ih =>
    obtain ⟨i1, i2⟩ := ih (fun p hp => hr p (by simp [hp]))
    obtain ⟨vs, e1, e2, e3⟩ := RP_cells (hr (x, .c (.g (.agg cs))) (by simp)) (by simpa [pcells, LC.one, Function.comp_def] using h1) (by intro vs h; cases h)
    refine ⟨?_, ?_⟩
    · intro v hv
      simp only [List.map_cons, List.mem_cons] at hv
      rcases hv with rfl | hv
      · rw [e1]; simpa [pcells, hn] using e2
      · exact i1 v hv
    · intro i j e y he hy
      cases i with
      | zero =>
        simp at he
        subst he
        obtain ⟨u, hu, h2, h3⟩ := e3 j (.g y) (by simp [pcells, hy])
        exact ⟨ρ x, u, rfl, by rw [e1]; exact hu, h2, h3⟩
      | succ i =>
        simp at he
        obtain ⟨v, u, g1, g2⟩ := i2 i j e y he hy
        exact ⟨v, u, by simpa using g1, g2⟩
  | @one n x l z es xs hx h1 hs k ih =>
    obtain ⟨i1, i2⟩ := ih (fun p hp => hr p (by simp [hp]))
    have hp : pcells (.c (.g z)) = [.g z] := by cases z <;> first | rfl | (simp [GV.one] at h1)
    obtain ⟨vs, e1, e2, e3⟩ := RP_cells (hr (x, .c (.g z)) (by simp)) (by rw [hp]; simpa [LC.one] using h1) (by intro vs h; cases h)
    rw [hp] at e2 e3
    refine ⟨?_, ?_⟩
    · intro v hv
      simp only [List.map_cons, List.mem_cons] at hv
      rcases hv with rfl | hv
      · rw [e1]; simpa [← hs] using e2
      · exact i1 v hv
    · intro i j e y he hy
      cases i with
      | zero =>
        simp at he
        subst he
        obtain ⟨u, hu, h2, h3⟩ := e3 j (.g y) (by cases j <;> simp at hy ⊢; exact hy)
        exact ⟨ρ x, u, rfl, by rw [e1]; exact hu, h2, h3⟩
      | succ i =>
        simp at he
        obtain ⟨v, u, g1, g2⟩ := i2 i j e y he hy
        exact ⟨v, u, by simpa using g1, g2⟩

/-- What append, make and literals ask of an element's type. -/
class TApp (P : Program) (e : TypeId) (sz : outParam Nat) : Prop where
  h : ∃ i z vs, P.info? e = some i ∧ i.zero = some z ∧ z.cells = ⟨vs⟩ ∧ vs.length = sz ∧ i.size = sz ∧ 0 < sz ∧ i.bytes ≤ 65536

section
variable {P : Program} {c : Ctx} {ops : Array Oper}

theorem run_fill {w : World} {sz : Nat} {e : TypeId} {z : Value} {i : TypeInfo} (hi : P.info? e = some i) (hz : i.zero = some z) (hs : i.size = sz) (hzs : z.cells.size = sz) (h0 : 0 < sz) (t : TypeId) (ht : P.underlying t = some (.slice e)) (n : Nat) (hn : n * sz ≤ 16777216)
    (vs : List Value) (hv : ∀ v ∈ vs, v.cells.size = sz) (hl : vs.length = n) : (Instr.buildSlice t n ((vs.zipIdx 0).map fun p => (p.2, p.1)).toArray).run P w =
      .ok (.slice (some ⟨w.heap.size, 0, none⟩) n n) (w.alloc (.cells ⟨vs.flatMap fun v => v.cells.toList⟩ e)) := by
  have hle : ¬ (16777216 < n * sz) := by omega
  by_cases h00 : n * sz = 0
  · have : n = 0 := by rcases Nat.mul_eq_zero.1 h00 with h | h <;> omega
    subst this
    have : vs = [] := List.eq_nil_of_length_eq_zero hl
    subst this
    simp [Instr.buildSlice, run_underlying ht, sizeOf, typeInfo, hi, newRow, Instr.fill, Array.range_zero']
  · have hf := fill_all sz vs 0 [] (Array.toList ((Array.range (n * sz)).map (fun i => z.cells[i % z.cells.size]!))) hv (by simp) (by simp [hl])
    simp only [List.nil_append, Array.toArray_toList] at hf
    simp [Instr.buildSlice, run_underlying ht, sizeOf, typeInfo, zeroValue, hi, hz, hs, hle, h00, newRow]
    rw [hf]
    simp

/-- A slice literal. -/
theorem S_lit {r : List REv} {o : List OEv} {d n : Nat} {t ty e : TypeId} {pos : String} {af : Array Edge} {l : List (Nat × Operand)} {sz : Nat} {es : List (List GV)} {xs : List (Operand × PV)} [ht : TSlice P t e] [hz : TApp P e sz]
    (hl : EvE r sz l 0 es xs) (hn : Nat.beq l.length n = true) (hmax : Nat.ble (n * sz) 16777216 = true) (hd : Nat.blt d c.n = true) :
    Op1 P c ops (some d) (.buildSlice t n l.toArray) ty pos af ⟨r, o⟩ ⟨xs.flatMap rdx, [], [.set d (.c (.osl d 0 n)), .kill d], [.set d ⟨e, 0, .gnd es⟩, .free d]⟩ := by
  obtain ⟨i, z, zs, e1, e2, e3, e4, e5, e6, e7⟩ := hz.h
  have hmax' : n * sz ≤ 16777216 := by simpa [Nat.ble_eq] using hmax
  have hnn : n ≤ 16777216 := Nat.le_trans (Nat.le_mul_of_pos_right n e6) hmax'
  obtain ⟨v1, v2, v3⟩ := hl.vals
  have hlen : es.length = n := by rw [v2]; exact beq_of hn
  refine S_newS xs ⟨e, 0, .gnd es⟩ n sz (by simp [Cont.cells, hlen]) ?_ (by simp only [maxLen]; omega) hd v1 ?_ ⟨i, e1, e5⟩ ?_
  · intro el hel
    simp only [Cont.cells, List.mem_map] at hel
    obtain ⟨a, ha, rfl⟩ := hel
    simpa using v3 a ha
  · intro el hel x hx
    simp only [Cont.cells, List.mem_map] at hel
    obtain ⟨a, ha, rfl⟩ := hel
    obtain ⟨y, hy, rfl⟩ := List.mem_map.1 hx
    rfl
  · intro ρ w F L hr
    obtain ⟨c1, c2⟩ := hl.cells hr
    refine ⟨(l.map (fun p => ρ p.2)).flatMap fun v => v.cells.toList, ?_, ?_, ?_⟩
    · have hsp := hl.spec
      have hparts : (l.toArray.map fun (p : Nat × Operand) => (p.1, ρ p.2)) = (((l.map (fun p => ρ p.2)).zipIdx 0).map fun p => (p.2, p.1)).toArray := by
        simp only [List.map_toArray]
        congr 1
        have : l.map (fun p => ρ p.2) = (l.map (·.2)).map ρ := by simp
        rw [this, List.zipIdx_map]
        conv => lhs; rw [hsp]
        simp [Function.comp_def]
      have := run_fill (P := P) (w := w) e1 e2 e5 (by rw [e3]; simpa using e4) e6 t ht.h n hmax' (l.map fun p => ρ p.2) c1 (by simpa using beq_of hn)
      rw [show execOp ρ _ = (do pure (.value (← Instr.buildSlice t n (l.toArray.map fun (p : Nat × Operand) => (p.1, ρ p.2)))) : Sem Next) from rfl, hparts]
      simp [this]
    · rw [List.flatMap_def, flat_len (sz := sz) (by intro a ha; obtain ⟨v, hv, rfl⟩ := List.mem_map.1 ha; simpa using c1 v hv)]
      simp [beq_of hn]
    · intro i j el x hel hx
      simp only [Cont.cells, List.getElem?_map, Option.map_eq_some_iff] at hel
      obtain ⟨a, ha, rfl⟩ := hel
      rw [List.getElem?_map, Option.map_eq_some_iff] at hx
      obtain ⟨y, hy, rfl⟩ := hx
      obtain ⟨v, u, g1, g2, g3, g4⟩ := c2 i j a y ha hy
      refine ⟨u, ?_, g3, g4⟩
      rw [List.flatMap_def]
      exact flat_at (by intro a ha; obtain ⟨v, hv, rfl⟩ := List.mem_map.1 ha; simpa using c1 v hv) (i := i) (j := j) (l := v.cells.toList) (by rw [List.getElem?_map, g1]; rfl) g2

/-- make([]T, n). -/
theorem S_make {r : List REv} {o : List OEv} {d : Nat} {t ty e : TypeId} {pos : String} {af : Array Edge} {x y : Operand} {m : Int} {n : Nat} {zs : List GV} {sz : Nat} [ht : TSlice P t e] [hz : TApp P e sz] [hzz : TZero P e zs]
    (hx : ev r x = some (.c (.g (.int .i64 m)))) (hy : ev r y = some (.c (.g (.int .i64 m)))) (hm : m = (n : Int)) (hmax : n ≤ 16777216) (hd : Nat.blt d c.n = true) :
    Op1 P c ops (some d) (.makeSlice t x y) ty pos af ⟨r, o⟩ ⟨[(x, .c (.g (.int .i64 m))), (y, .c (.g (.int .i64 m)))].flatMap rdx, [], [.set d (.c (.osl d 0 n)), .kill d], [.set d ⟨e, 0, .gnd (List.replicate n zs)⟩, .free d]⟩ := by
  subst hm
  obtain ⟨i, z, vs, e1, e2, e3, e4, e5, e6, e7⟩ := hz.h
  obtain ⟨i', z', vs', f1, f2, f3, f4, f5, f6⟩ := hzz.h
  rw [e1] at f1; cases f1
  rw [e2] at f2; cases f2
  rw [e3] at f3
  cases f3
  have hzl : zs.length = sz := by omega
  refine S_newS _ ⟨e, 0, .gnd (List.replicate n zs)⟩ n sz (by simp [Cont.cells]) ?_ (by simp only [maxLen]; omega) hd (by simpa using ⟨hx, hy⟩) ?_ ⟨i, e1, e5⟩ ?_
  · intro el hel
    simp only [Cont.cells, List.map_replicate, List.mem_replicate] at hel
    rw [hel.2]; simpa using hzl
  · intro el hel x hx
    simp only [Cont.cells, List.map_replicate, List.mem_replicate] at hel
    rw [hel.2] at hx
    obtain ⟨y, hy, rfl⟩ := List.mem_map.1 hx
    rfl
  · intro ρ w F L hr
    have h2 := gint (hr (y, .c (.g (.int .i64 (n : Int)))) (by simp))
    have h1' := gint (hr (x, .c (.g (.int .i64 (n : Int)))) (by simp))
    have hrun := run_make (P := P) w t e i z ht.h e1 e2 .i64 .i64 (n : Int) (n : Int) (by omega) (Int.le_refl _) (by
      have hb : (i.bytes : Int) ≤ 65536 := by omega
      have : (i.bytes : Int) * n ≤ 65536 * 16777216 := Int.mul_le_mul hb (by omega) (by omega) (by omega)
      omega) (by omega)
    refine ⟨(madeCells z.cells (n * i.size)).toList, ?_, ?_, ?_⟩
    · simp [execOp, h1', h2, hrun]
    · simp [size_madeCells, e5]
    · intro a j el x hel hx
      simp only [Cont.cells, List.map_replicate, List.getElem?_replicate] at hel
      split at hel
      · rename_i ha
        cases hel
        rw [List.getElem?_map, Option.map_eq_some_iff] at hx
        obtain ⟨y, hy, rfl⟩ := hx
        obtain ⟨u, g1, g2, g3⟩ := f6 F j y hy
        refine ⟨u, ?_, g2, g3⟩
        have hj : j < sz := by rw [← hzl]; exact (List.getElem?_eq_some_iff.1 hy).1
        have hsz' : z.cells.size = sz := by rw [e3]; simpa using e4
        have hlt : a * sz + j < n * sz := by
          have := Nat.mul_le_mul_right sz (show a + 1 ≤ n by omega)
          rw [Nat.add_mul] at this
          omega
        have hmod : (a * sz + j) % sz = j := by rw [Nat.mul_comm, Nat.mul_add_mod]; exact Nat.mod_eq_of_lt hj
        simp only [Array.getElem?_toList, madeCells, e5]
        rw [Array.getElem?_map, Array.getElem?_range, if_pos hlt]
        simp only [Option.map_some, hsz', hmod]
        rw [e3]
        simp [g1]
      · cases hel
end
end Go.Pu
/- The pure layer, part 8: stores. Any program. -/
namespace Go.Pu
open Go
section
variable {P : Program} {c : Ctx} {ops : Array Oper}

/-- A list with some places overwritten. -/
def patch {α : Type} (cs : List α) (off : Nat) (ys : List α) : List α := cs.take off ++ ys ++ cs.drop (off + ys.length)
theorem patch_len {α : Type} {cs ys : List α} {off : Nat} (h : off + ys.length ≤ cs.length) : (patch cs off ys).length = cs.length := by
  simp [patch]; omega
theorem patch_at {α : Type} {cs ys : List α} {off : Nat} (h : off + ys.length ≤ cs.length) (j : Nat) :
    (patch cs off ys)[j]? = if off ≤ j ∧ j < off + ys.length then ys[j - off]? else cs[j]? := by
  unfold patch
  by_cases h1 : j < off
  · rw [if_neg (by omega), List.append_assoc, List.getElem?_append_left (by simp; omega), List.getElem?_take, if_pos h1]
  · by_cases h2 : j < off + ys.length
    · rw [if_pos ⟨by omega, h2⟩, List.append_assoc, List.getElem?_append_right (by simp; omega), List.getElem?_append_left (by simp; omega)]
      congr 1
      simp; omega
    · rw [if_neg (by omega), List.getElem?_append_right (by simp; omega), List.getElem?_drop]
      congr 1
      simp; omega
theorem set_patch {α : Type} {cs : List α} {off : Nat} {y : α} (h : off < cs.length) : cs.set off y = patch cs off [y] := by
  unfold patch
  rw [List.set_eq_take_append_cons_drop, if_pos h]
  simp

/-- An own object is written. -/
theorem SimFL.upd {s : St} {a : Act} {w : World} {F : FMap} {L : LMap} (h : SimFL P c s a w F L) {id el off : Nat} {ob ob' : Obj} {cs ys : List LC} (ho : lookO s.objs id = some ob) (hcs : ob.es.cells[el]? = some cs)
    (hb : off + ys.length ≤ cs.length) (he : ob'.e = ob.e) (hf : ob'.fz = ob.fz) (hcells : ob'.es.cells = ob.es.cells.set el (patch cs off ys)) (hfz : ob.fz ≤ el) {pv : Value} (hp : RP F L (.c (.optr id el off)) pv)
    {vs : List Value} (hl : vs.length = ys.length) (hv : ∀ (j : Nat) (x : LC), ys[j]? = some x → ∃ u, vs[j]? = some u ∧ u.oneCell' = true ∧ RL F L x u) (h1 : ∀ v ∈ vs, v.oneCell' = true) :
    ∃ b o w', pv = .pointer (some ⟨b, o, none⟩) ∧ (storeCells ⟨b, o, none⟩ vs).run P w = .ok () w' ∧ SimFL P c ⟨s.regs, .set id ob' :: s.objs⟩ a w' F L := by
  simp only [RP, RL] at hp
  obtain ⟨p, b, hpL, hpb, hpv⟩ := hp
  obtain ⟨p', q1, q2, q3, q4, q5, q6, q7⟩ := h.ob id ob ho
  rw [hpL] at q1
  cases q1
  rcases q7 with ⟨q7, _⟩ | ⟨b', cur, q7, q8, q9, q10⟩
  · rw [hpb] at q7; cases q7
  rw [hpb] at q7
  cases q7
  have hcl : cs.length = p.sz := q4 cs (List.mem_of_getElem? hcs)
  have hel : el < ob.es.cells.length := (List.getElem?_eq_some_iff.1 hcs).1
  have hmul : (el + 1) * p.sz ≤ p.cap * p.sz := Nat.mul_le_mul_right _ (by omega)
  rw [Nat.add_mul, Nat.one_mul] at hmul
  have hrun := run_storeCells_at P b (p.o + el * p.sz + off) ob.e vs 0 cur w q8 (by omega) h1
  generalize hcur' : (cur.toList.take (p.o + el * p.sz + off + 0) ++ vs ++ cur.toList.drop (p.o + el * p.sz + off + 0 + vs.length)).toArray = cur' at hrun
  have hcur'' : cur' = (patch cur.toList (p.o + el * p.sz + off) vs).toArray := by rw [← hcur', patch]; simp
  have hat : ∀ k, cur'[k]? = if p.o + el * p.sz + off ≤ k ∧ k < p.o + el * p.sz + off + vs.length then vs[k - (p.o + el * p.sz + off)]? else cur[k]? := by
    intro k
    rw [hcur'', List.getElem?_toArray, patch_at (by simp; omega)]
    simp
  have hsize : cur'.size = cur.size := by rw [hcur'', List.size_toArray, patch_len (by simp; omega)]; simp
  refine ⟨b, _, _, hpv, hrun, ?_⟩
  have hFok : ∀ o v, F b o = some v → cur'[o]? = cur[o]? := by
    intro o v hv'
    rw [hat, if_neg]
    rintro ⟨g1, g2⟩
    have := h.lk.free id p b o hpL hpb (by
      have : p.fz * p.sz ≤ el * p.sz := Nat.mul_le_mul_right _ (by omega)
      omega)
    rw [this] at hv'
    cases hv'
  have hne : ∀ i q b2, i ≠ id → L i = some q → q.blk = some b2 → b2 ≠ b := by
    intro i q b2 hi hq hb2 e
    subst e
    exact hi (h.lk.inj i id q p b2 hq hpL hb2 hpb)
  exact {
    df := h.df
    sz := h.sz
    ag := by
      intro b2 o v hv'
      have hc := h.ag b2 o v hv'
      rw [cell_setRow q8]
      split
      · rename_i e; subst e; rw [hFok o v hv', ← cell_of_row w b2 o cur _ _ q8]; exact hc
      · exact hc
    fr := ⟨h.fr.os, h.fr.tape, h.fr.output, by simpa using h.fr.size, fun k hk hm => by
      rw [heap_setRow_ne]
      · exact h.fr.block k hk hm
      · rintro rfl
        rcases (h.lk.own id p k hpL hpb).1 with h | h
        · omega
        · exact hm h⟩
    fx := h.fx
    rg := h.rg
    ob := by
      intro i o hoo
      simp only [lookO] at hoo
      cases hbq : Nat.beq id i with
      | true =>
        rw [hbq] at hoo
        simp only [cond_true, Option.some.injEq] at hoo
        subst hoo
        have := beq_of hbq
        subst this
        refine ⟨p, hpL, by omega, by rw [he]; exact q3, ?_, by rw [hcells, List.length_set]; exact q5, q6, .inr ⟨b, cur', hpb, by rw [he]; exact heap_setRow_same q8, by omega, ?_⟩⟩
        · intro e' he'
          rw [hcells] at he'
          rcases List.mem_or_eq_of_mem_set he' with h | h
          · exact q4 e' h
          · rw [h, patch_len hb]; exact hcl
        · intro i j e' x he' hx
          rw [hcells, List.getElem?_set] at he'
          simp only [hel, if_true] at he'
          split at he'
          · rename_i hi
            subst hi
            cases he'
            rw [patch_at hb] at hx
            split at hx
            · rename_i hj
              obtain ⟨u, hu, hu1, hu2⟩ := hv _ x hx
              refine ⟨u, ?_, hu1, hu2⟩
              rw [hat, if_pos (by omega), ← hu]
              congr 1
              omega
            · rename_i hj
              obtain ⟨u, hu, hu1, hu2⟩ := q10 el j cs x hcs hx
              refine ⟨u, ?_, hu1, hu2⟩
              have hjl : j < cs.length := (List.getElem?_eq_some_iff.1 hx).1
              rw [hat, if_neg (by omega), hu]
          · rename_i hi
            obtain ⟨u, hu, hu1, hu2⟩ := q10 i j e' x he' hx
            refine ⟨u, ?_, hu1, hu2⟩
            have hjl : j < e'.length := (List.getElem?_eq_some_iff.1 hx).1
            have hel' := q4 e' (List.mem_of_getElem? he')
            rw [hat, if_neg, hu]
            rintro ⟨g1, g2⟩
            rcases Nat.lt_or_ge i el with hlt | hge
            · have : (i + 1) * p.sz ≤ el * p.sz := Nat.mul_le_mul_right _ (by omega)
              rw [Nat.add_mul, Nat.one_mul] at this
              omega
            · have : (el + 1) * p.sz ≤ i * p.sz := Nat.mul_le_mul_right _ (by omega)
              rw [Nat.add_mul, Nat.one_mul] at this
              omega
      | false =>
        rw [hbq] at hoo
        have hi : i ≠ id := fun e => ne_of_beq hbq e.symm
        exact (h.ob i o hoo).re rfl rfl (Nat.le_refl _) (fun x => x) (map_map_id _) (fun _ _ h => h) (fun q b2 hq hb2 => heap_setRow_ne _ _ _ (hne i q b2 hi hq hb2))
    lk := ⟨fun i q b2 hq hb2 => ⟨(h.lk.own i q b2 hq hb2).1, by simpa using (h.lk.own i q b2 hq hb2).2⟩, h.lk.free, h.lk.inj⟩
    fe := by
      intro i hi
      simp only [freeO] at hi
      cases hbq : Nat.beq id i with
      | true => rw [hbq] at hi; cases hi
      | false => rw [hbq] at hi; exact h.fe i hi
    pn := h.pn
    f0 := h.f0 }

/-- A store. -/
theorem S_store {r : List REv} {o : List OEv} {t ty : TypeId} {pos : String} {af : Array Edge} {x y : Operand} {id el off n : Nat} {v : PV} (ob ob' : Obj) (cs ys : List LC) [hz : TSz P t n]
    (hx : ev r x = some (.c (.optr id el off))) (hy : ev r y = some v) (ho : lookO o id = some ob) (hcs : ob.es.cells[el]? = some cs) (hys : pcells v = ys) (hl : ys.length = n) (h1 : ys.all LC.one = true) (hb : off + ys.length ≤ cs.length)
    (he : ob'.e = ob.e) (hf : ob'.fz = ob.fz) (hcells : ob'.es.cells = ob.es.cells.set el (patch cs off ys)) (hfz : ob.fz ≤ el) (hnt : ∀ vs, v ≠ .tup vs) :
    Op1 P c ops none (.store t x y) ty pos af ⟨r, o⟩ ⟨[(x, .c (.optr id el off)), (y, v)].flatMap rdx, [(id, ob)], [], [.set id ob']⟩ := by
  have hxs : ∀ p ∈ [(x, PV.c (.optr id el off)), (y, v)], ev r p.1 = some p.2 := by simpa using ⟨hx, hy⟩
  refine ⟨?_, holds_of hxs (by simpa using ho)⟩
  rintro ⟨r', o'⟩ a w hh ⟨F, L, hs⟩
  rw [if_pos (by simp [Region.wanted])]
  have hx' := ev_of_holds hxs hh
  have e1 := ev_ok hs.rg (hx' (x, .c (.optr id el off)) (by simp))
  have e2 := ev_ok hs.rg (hx' (y, v) (by simp))
  obtain ⟨vs, c1, c2, c3⟩ := RP_cells e2 (by rw [hys]; exact h1) hnt
  rw [hys] at c2 c3
  obtain ⟨b, q, w', g1, g2, g3⟩ := hs.upd (hh.2 (id, ob) (by simp)) hcs hb he hf hcells hfz e1 c2 c3 (by
    intro u hu
    obtain ⟨j, hj⟩ := List.getElem?_of_mem hu
    have hjl : j < ys.length := by rw [← c2]; exact (List.getElem?_eq_some_iff.1 hj).1
    obtain ⟨u', k1, k2, _⟩ := c3 j _ (List.getElem?_eq_getElem hjl)
    rw [hj] at k1
    cases k1
    exact k2)
  have hrun : (execOp a.eval ⟨none, .store t x y, ty, pos, af, none⟩).run P w = .ok .skip w' := by
    have hsz := run_sizeOf (P := P) (t := t) (n := n) w
    have hc : ¬ ((a.eval y).cells.size ≠ n) := by rw [c1]; simp; omega
    have hc' : (a.eval y).cells.toList = vs := by rw [c1]
    have hcs' : (a.eval y).cells.size = n := by simpa using hc
    simp only at g1
    simp [execOp, Instr.storeAt, Instr.sureAddr, g1, storeVar, hsz, hcs', hc', g2]
  unfold Oper.wp
  rw [hrun]
  exact ⟨F, L, g3⟩

/-- Into one cell of a box. -/
theorem S_store1 {r : List REv} {o : List OEv} {t ty e : TypeId} {pos : String} {af : Array Edge} {x y : Operand} {id off : Nat} {cs : List GV} {z : GV} [hz : TSz P t 1]
    (hx : ev r x = some (.c (.optr id 0 off))) (hy : ev r y = some (.c (.g z))) (ho : lookO o id = some ⟨e, 0, .gnd [cs]⟩) (h1 : z.one = true) (hb : Nat.blt off cs.length = true) :
    Op1 P c ops none (.store t x y) ty pos af ⟨r, o⟩ ⟨[(x, .c (.optr id 0 off)), (y, .c (.g z))].flatMap rdx, [(id, ⟨e, 0, .gnd [cs]⟩)], [], [.set id ⟨e, 0, .gnd [cs.set off z]⟩]⟩ := by
  have hlt := Nat.blt_lt hb
  have hp : pcells (.c (.g z)) = [.g z] := by cases z <;> first | rfl | (simp [GV.one] at h1)
  refine S_store ⟨e, 0, .gnd [cs]⟩ ⟨e, 0, .gnd [cs.set off z]⟩ (cs.map .g) [.g z] hx hy ho rfl hp rfl (by simpa [LC.one] using h1) (by simp; omega) rfl rfl ?_ (Nat.le_refl _) (by intro vs h; cases h)
  rw [← set_patch (by simpa using hlt)]
  simp [Cont.cells, List.map_set]
/-- Into one cell of an element of an own slice. -/
theorem S_store1e {r : List REv} {o : List OEv} {t ty e : TypeId} {pos : String} {af : Array Edge} {x y : Operand} {id el off : Nat} {es : List (List GV)} {cs : List GV} {z : GV} [hz : TSz P t 1]
    (hx : ev r x = some (.c (.optr id el off))) (hy : ev r y = some (.c (.g z))) (ho : lookO o id = some ⟨e, 0, .gnd es⟩) (hcs : es[el]? = some cs) (h1 : z.one = true) (hb : off < cs.length) :
    Op1 P c ops none (.store t x y) ty pos af ⟨r, o⟩ ⟨[(x, .c (.optr id el off)), (y, .c (.g z))].flatMap rdx, [(id, ⟨e, 0, .gnd es⟩)], [], [.set id ⟨e, 0, .gnd (es.set el (cs.set off z))⟩]⟩ := by
  have hp : pcells (.c (.g z)) = [.g z] := by cases z <;> first | rfl | (simp [GV.one] at h1)
  refine S_store ⟨e, 0, .gnd es⟩ ⟨e, 0, .gnd (es.set el (cs.set off z))⟩ (cs.map .g) [.g z] hx hy ho (gnd_at hcs) hp rfl (by simpa [LC.one] using h1) (by simp; omega) rfl rfl ?_ (Nat.zero_le _) (by intro vs h; cases h)
  rw [← set_patch (by simpa using hb)]
  simp [Cont.cells, List.map_set]
/-- A whole box. -/
theorem S_storeW {r : List REv} {o : List OEv} {t ty e : TypeId} {pos : String} {af : Array Edge} {x y : Operand} {id n : Nat} {cs zs : List GV} [hz : TSz P t n]
    (hx : ev r x = some (.c (.optr id 0 0))) (hy : ev r y = some (.c (.g (.agg zs)))) (ho : lookO o id = some ⟨e, 0, .gnd [cs]⟩) (h1 : zs.all GV.one = true) (hl : zs.length = n) (hb : cs.length = n) :
    Op1 P c ops none (.store t x y) ty pos af ⟨r, o⟩ ⟨[(x, .c (.optr id 0 0)), (y, .c (.g (.agg zs)))].flatMap rdx, [(id, ⟨e, 0, .gnd [cs]⟩)], [], [.set id ⟨e, 0, .gnd [zs]⟩]⟩ := by
  refine S_store ⟨e, 0, .gnd [cs]⟩ ⟨e, 0, .gnd [zs]⟩ (cs.map .g) (zs.map .g) hx hy ho rfl rfl (by simpa using hl) (by simpa [LC.one, Function.comp_def] using h1) (by simp; omega) rfl rfl ?_ (Nat.le_refl _) (by intro vs h; cases h)
  have : patch (cs.map LC.g) 0 (zs.map LC.g) = zs.map LC.g := by
    unfold patch
    rw [List.drop_eq_nil_of_le (by simp; omega)]
    simp
  rw [this]; rfl
/-- A whole element of an own slice. -/
theorem S_storeWe {r : List REv} {o : List OEv} {t ty e : TypeId} {pos : String} {af : Array Edge} {x y : Operand} {id el n : Nat} {es : List (List GV)} {cs zs : List GV} [hz : TSz P t n]
    (hx : ev r x = some (.c (.optr id el 0))) (hy : ev r y = some (.c (.g (.agg zs)))) (ho : lookO o id = some ⟨e, 0, .gnd es⟩) (hcs : es[el]? = some cs) (h1 : zs.all GV.one = true) (hl : zs.length = n) (hb : cs.length = n) :
    Op1 P c ops none (.store t x y) ty pos af ⟨r, o⟩ ⟨[(x, .c (.optr id el 0)), (y, .c (.g (.agg zs)))].flatMap rdx, [(id, ⟨e, 0, .gnd es⟩)], [], [.set id ⟨e, 0, .gnd (es.set el zs)⟩]⟩ := by
  refine S_store ⟨e, 0, .gnd es⟩ ⟨e, 0, .gnd (es.set el zs)⟩ (cs.map .g) (zs.map .g) hx hy ho (gnd_at hcs) rfl (by simpa using hl) (by simpa [LC.one, Function.comp_def] using h1) (by simp; omega) rfl rfl ?_ (Nat.zero_le _) (by intro vs h; cases h)
  have : patch (cs.map LC.g) 0 (zs.map LC.g) = zs.map LC.g := by
    unfold patch
    rw [List.drop_eq_nil_of_le (by simp; omega)]
    simp
  rw [this]
  simp [Cont.cells, List.map_set]
/-- A part of a box. -/
theorem S_storeP {r : List REv} {o : List OEv} {t ty e : TypeId} {pos : String} {af : Array Edge} {x y : Operand} {id off n : Nat} {cs zs : List GV} [hz : TSz P t n]
    (hx : ev r x = some (.c (.optr id 0 off))) (hy : ev r y = some (.c (.g (.agg zs)))) (ho : lookO o id = some ⟨e, 0, .gnd [cs]⟩) (h1 : zs.all GV.one = true) (hl : zs.length = n) (hb : off + n ≤ cs.length) :
    Op1 P c ops none (.store t x y) ty pos af ⟨r, o⟩ ⟨[(x, .c (.optr id 0 off)), (y, .c (.g (.agg zs)))].flatMap rdx, [(id, ⟨e, 0, .gnd [cs]⟩)], [], [.set id ⟨e, 0, .gnd [patch cs off zs]⟩]⟩ := by
  refine S_store ⟨e, 0, .gnd [cs]⟩ ⟨e, 0, .gnd [patch cs off zs]⟩ (cs.map .g) (zs.map .g) hx hy ho rfl rfl (by simpa using hl) (by simpa [LC.one, Function.comp_def] using h1) (by simp; omega) rfl rfl ?_ (Nat.le_refl _) (by intro vs h; cases h)
  simp [Cont.cells, patch, List.map_take, List.map_drop]
/-- A header of the call's own into a box that held none. -/
theorem S_storeH {r : List REv} {o : List OEv} {t ty e : TypeId} {pos : String} {af : Array Edge} {x y : Operand} {id off i q l : Nat} {cs : List GV} [hz : TSz P t 1]
    (hx : ev r x = some (.c (.optr id 0 off))) (hy : ev r y = some (.c (.osl i q l))) (ho : lookO o id = some ⟨e, 0, .gnd [cs]⟩) (hb : Nat.blt off cs.length = true) :
    Op1 P c ops none (.store t x y) ty pos af ⟨r, o⟩ ⟨[(x, .c (.optr id 0 off)), (y, .c (.osl i q l))].flatMap rdx, [(id, ⟨e, 0, .gnd [cs]⟩)], [], [.set id ⟨e, 0, .loc [(cs.map .g).set off (.osl i q l)]⟩]⟩ := by
  have hlt := Nat.blt_lt hb
  refine S_store (P := P) (c := c) (ops := ops) (t := t) (n := 1) ⟨e, 0, .gnd [cs]⟩ ⟨e, 0, .loc [(cs.map .g).set off (.osl i q l)]⟩ (cs.map .g) [.osl i q l] hx hy ho rfl rfl rfl rfl (by simp; omega) rfl rfl ?_ (Nat.le_refl _) (by intro vs h; cases h)
  rw [← set_patch (by simpa using hlt)]
  simp [Cont.cells]
/-- One cell of a box that holds headers of the call's own. -/
theorem S_storeL {r : List REv} {o : List OEv} {t ty e : TypeId} {pos : String} {af : Array Edge} {x y : Operand} {id off : Nat} {cs : List LC} {z : LC} [hz : TSz P t 1]
    (hx : ev r x = some (.c (.optr id 0 off))) (hy : ev r y = some (.c z)) (ho : lookO o id = some ⟨e, 0, .loc [cs]⟩) (h1 : z.one = true) (hb : Nat.blt off cs.length = true) :
    Op1 P c ops none (.store t x y) ty pos af ⟨r, o⟩ ⟨[(x, .c (.optr id 0 off)), (y, .c z)].flatMap rdx, [(id, ⟨e, 0, .loc [cs]⟩)], [], [.set id ⟨e, 0, .loc [cs.set off z]⟩]⟩ := by
  have hlt := Nat.blt_lt hb
  have hp : pcells (.c z) = [z] := by
    cases z with
    | g y => cases y <;> first | rfl | (simp [LC.one, GV.one] at h1)
    | _ => rfl
  refine S_store ⟨e, 0, .loc [cs]⟩ ⟨e, 0, .loc [cs.set off z]⟩ cs [z] hx hy ho rfl hp rfl (by simpa using h1) (by simp; omega) rfl rfl ?_ (Nat.le_refl _) (by intro vs h; cases h)
  rw [← set_patch hlt]
  simp [Cont.cells]
/-- A whole box, with headers of the call's own. -/
theorem S_storeLW {r : List REv} {o : List OEv} {t ty e : TypeId} {pos : String} {af : Array Edge} {x y : Operand} {id n : Nat} {es : Cont} {cs zs : List LC} [hz : TSz P t n]
    (hx : ev r x = some (.c (.optr id 0 0))) (hy : ev r y = some (.agg zs)) (ho : lookO o id = some ⟨e, 0, es⟩) (hes : es.cells = [cs]) (h1 : zs.all LC.one = true) (hl : zs.length = n) (hb : cs.length = n) :
    Op1 P c ops none (.store t x y) ty pos af ⟨r, o⟩ ⟨[(x, .c (.optr id 0 0)), (y, .agg zs)].flatMap rdx, [(id, ⟨e, 0, es⟩)], [], [.set id ⟨e, 0, .loc [zs]⟩]⟩ := by
  refine S_store ⟨e, 0, es⟩ ⟨e, 0, .loc [zs]⟩ cs zs hx hy ho (by rw [hes]; rfl) rfl hl h1 (by omega) rfl rfl ?_ (Nat.le_refl _) (by intro vs h; cases h)
  rw [hes]
  have : patch cs 0 zs = zs := by
    unfold patch
    rw [List.drop_eq_nil_of_le (by omega)]
    simp
  rw [this]; rfl
end
end Go.Pu
/- The pure layer, part 9: append and slice expressions. Any program. -/
namespace Go.Pu
open Go
section
variable {P : Program} {c : Ctx} {ops : Array Oper}

/-- A value that is a slice of ground elements, as it can be read. -/
def Src (F : FMap) (w : World) (sz : Nat) (es : List (List GV)) (v : Value) : Prop :=
  (es = [] ∧ ∃ a cp, v = .slice a 0 cp) ∨ ∃ (b o cp : Nat) (vs : List Value), v = .slice (some ⟨b, o, none⟩) es.length cp ∧ vs.length = es.length * sz ∧ (∀ (j : Nat) (u : Value), vs[j]? = some u → w.cell? ⟨b, o + j, none⟩ = some u ∧ u.oneCell' = true) ∧
    ∀ (i j : Nat) (el : List GV) (x : GV), es[i]? = some el → el[j]? = some x → ∃ u, vs[i * sz + j]? = some u ∧ RG F x u

theorem two_at {sz n : Nat} {k : Nat} (h : k < n * sz) : k / sz < n ∧ k % sz < sz ∧ k / sz * sz + k % sz = k := by
  have h0 : 0 < sz := by rcases Nat.eq_zero_or_pos sz with h1 | h1; · subst h1; simp at h
                         · exact h1
  exact ⟨(Nat.div_lt_iff_lt_mul h0).2 h, Nat.mod_lt _ h0, by rw [Nat.mul_comm]; exact Nat.div_add_mod k sz⟩

/-- From cells by element and place to one row of values. -/
theorem row_of {α : Type} {sz n : Nat} {ls : List (List α)} (hn : ls.length = n) (hsz : ∀ l ∈ ls, l.length = sz) (R : α → Value → Prop) (get : Nat → Option Value)
    (h : ∀ (i j : Nat) (l : List α) (x : α), ls[i]? = some l → l[j]? = some x → ∃ u, get (i * sz + j) = some u ∧ R x u) :
    ∃ vs : List Value, vs.length = n * sz ∧ (∀ (j : Nat) (u : Value), vs[j]? = some u → get j = some u) ∧ ∀ (i j : Nat) (l : List α) (x : α), ls[i]? = some l → l[j]? = some x → ∃ u, vs[i * sz + j]? = some u ∧ R x u := by
  have hex : ∀ k, k < n * sz → ∃ u, get k = some u := by
    intro k hk
    obtain ⟨h1, h2, h3⟩ := two_at hk
    have hl : ls[k / sz]? = some ls[k / sz] := List.getElem?_eq_getElem (by omega)
    have hx : ls[k / sz][k % sz]? = some (ls[k / sz][k % sz]'(by rw [hsz _ (List.getElem_mem _)]; exact h2)) := List.getElem?_eq_getElem _
    obtain ⟨u, hu, _⟩ := h _ _ _ _ hl hx
    rw [h3] at hu
    exact ⟨u, hu⟩
  refine ⟨(List.range (n * sz)).map fun k => (get k).getD undef, by simp, ?_, ?_⟩
  · intro j u hj
    rw [List.getElem?_map, Option.map_eq_some_iff] at hj
    obtain ⟨k, hk, rfl⟩ := hj
    obtain ⟨hlt, rfl⟩ := List.getElem?_eq_some_iff.1 hk
    simp only [List.length_range] at hlt
    simp only [List.getElem_range]
    obtain ⟨u, hu⟩ := hex j hlt
    rw [hu]; rfl
  · intro i j l x hl hx
    obtain ⟨u, hu, hr⟩ := h i j l x hl hx
    refine ⟨u, ?_, hr⟩
    have hi : i < ls.length := (List.getElem?_eq_some_iff.1 hl).1
    have hj : j < l.length := (List.getElem?_eq_some_iff.1 hx).1
    have hll := hsz l (List.mem_of_getElem? hl)
    have : (i + 1) * sz ≤ n * sz := Nat.mul_le_mul_right _ (by omega)
    rw [Nat.add_mul, Nat.one_mul] at this
    rw [List.getElem?_map, List.getElem?_range (by omega)]
    simp [hu]

theorem src_nil {F : FMap} {L : LMap} {w : World} {sz : Nat} {v : Value} (h : RP F L (.c (.g .nil)) v) : Src F w sz [] v := by
  simp only [RP, RL] at h
  cases h
  exact Or.inl ⟨rfl, none, 0, rfl⟩
theorem src_sl {F : FMap} {L : LMap} {w : World} {sz : Nat} {es : List (List GV)} {v : Value} (ha : Ag F w) (hsz : ∀ el ∈ es, el.length = sz) (h1 : ∀ el ∈ es, ∀ x ∈ el, GV.one x = true) (h : RP F L (.c (.g (.sl es))) v) : Src F w sz es v := by
  simp only [RP, RL] at h
  cases h with
  | sl0 a cap => exact Or.inl ⟨rfl, a, cap, rfl⟩
  | sl _ b off cap sz' g hs h2 h3 hc =>
    by_cases he : es = []
    · subst he; exact Or.inl ⟨rfl, _, _, rfl⟩
    have hss : sz' = sz := by
      obtain ⟨e, l, rfl⟩ := List.exists_cons_of_ne_nil he
      rw [← hs e (by simp), hsz e (by simp)]
    subst hss
    obtain ⟨vs, g1, g2, g3⟩ := row_of rfl hsz (fun x u => RG F x u ∧ u.oneCell' = true) (fun k => w.cell? ⟨b, off + k, none⟩) (by
      intro i j l x hl hx
      have hi : i < es.length := (List.getElem?_eq_some_iff.1 hl).1
      have hj : j < sz' := by rw [← hs l (List.mem_of_getElem? hl)]; exact (List.getElem?_eq_some_iff.1 hx).1
      have hr := h3 i j l x hl hx
      exact ⟨g i j, by rw [← Nat.add_assoc]; exact ha _ _ _ (h2 i j hi hj), hr, RG_one hr (h1 l (List.mem_of_getElem? hl) x (List.mem_of_getElem? hx))⟩)
    refine Or.inr ⟨b, off, cap, vs, rfl, g1, ?_, fun i j el x he hx => by obtain ⟨u, hu, hr, _⟩ := g3 i j el x he hx; exact ⟨u, hu, hr⟩⟩
    intro j u hj
    refine ⟨g2 j u hj, ?_⟩
    have hlt : j < es.length * sz' := by rw [← g1]; exact (List.getElem?_eq_some_iff.1 hj).1
    obtain ⟨k1, k2, k3⟩ := two_at hlt
    have hl : es[j / sz']? = some es[j / sz'] := List.getElem?_eq_getElem k1
    have hx : es[j / sz'][j % sz']? = some (es[j / sz'][j % sz']'(by rw [hsz _ (List.getElem_mem _)]; exact k2)) := List.getElem?_eq_getElem _
    obtain ⟨u', hu', _, ho⟩ := g3 _ _ _ _ hl hx
    rw [k3, hj] at hu'
    cases hu'
    exact ho

/-- What the header of an own slice of ground elements reads. -/
theorem src_own {F : FMap} {L : LMap} {w : World} {id off len fz : Nat} {e : TypeId} {es : List (List GV)} {v : Value} {sz : Nat} (hi : ∃ i, P.info? e = some i ∧ i.size = sz) (h : RP F L (.c (.osl id off len)) v) (ho : ObjOk P F L w id ⟨e, fz, .gnd es⟩) (hle : off + len ≤ es.length) :
    Src F w sz ((es.drop off).take len) v := by
  simp only [RP, RL] at h
  obtain ⟨p, hp, hcap, hcase⟩ := h
  obtain ⟨p', hp', _, ⟨i1, hi1, hi2⟩, h4, h5, _, h7⟩ := ho
  rw [hp] at hp'
  cases hp'
  obtain ⟨i2, hi3, hi4⟩ := hi
  simp only at hi1
  rw [hi1] at hi3
  cases hi3
  have hsz : p.sz = sz := by omega
  by_cases hl : len = 0
  · subst hl
    rcases hcase with ⟨_, hv, _⟩ | ⟨b, o', _, hv, _⟩
    · exact Or.inl ⟨by simp, _, _, hv⟩
    · exact Or.inl ⟨by simp, _, _, hv⟩
  have hlen : ((es.drop off).take len).length = len := by simp; omega
  rcases hcase with ⟨_, _, _, hl0⟩ | ⟨b, o', hb, hv, ho'⟩
  · exact absurd hl0 hl
  rcases h7 with ⟨h7, _⟩ | ⟨b', cur, hb', hcur, hsize, hread⟩
  · rw [hb] at h7; cases h7
  rw [hb] at hb'
  cases hb'
  have hoo := ho' (by omega)
  have hszs : ∀ el ∈ (es.drop off).take len, el.length = p.sz := by
    intro el hel
    have := h4 (el.map .g) (by simp only [Cont.cells, List.mem_map]; exact ⟨el, List.mem_of_mem_drop (List.mem_of_mem_take hel), rfl⟩)
    simpa using this
  obtain ⟨vs, g1, g2, g3⟩ := row_of hlen hszs (fun x u => RG F x u ∧ u.oneCell' = true) (fun k => w.cell? ⟨b, o' + k, none⟩) (by
    intro i j l x hl hx
    rw [List.getElem?_take] at hl
    split at hl
    · rw [List.getElem?_drop] at hl
      obtain ⟨u, hu, hu1, hu2⟩ := hread (off + i) j (l.map .g) (.g x) (by simp [Cont.cells, hl]) (by simp [hx])
      refine ⟨u, ?_, hu2, hu1⟩
      rw [cell_of_row w b _ cur _ _ hcur, ← hu, hoo]
      congr 1
      rw [Nat.add_mul]
      omega
    · cases hl)
  subst hsz
  refine Or.inr ⟨b, o', p.cap - off, vs, by rw [hv, hlen], by rw [g1, hlen], ?_, fun i j el x he hx => by obtain ⟨u, hu, hr, _⟩ := g3 i j el x he hx; exact ⟨u, hu, hr⟩⟩
  intro j u hj
  refine ⟨g2 j u hj, ?_⟩
  have hlt : j < len * p.sz := by rw [← g1]; exact (List.getElem?_eq_some_iff.1 hj).1
  obtain ⟨k1, k2, k3⟩ := two_at hlt
  have hl : ((es.drop off).take len)[j / p.sz]? = some (((es.drop off).take len)[j / p.sz]'(by rw [hlen]; exact k1)) := List.getElem?_eq_getElem _
  have hx : (((es.drop off).take len)[j / p.sz]'(by rw [hlen]; exact k1))[j % p.sz]? = some ((((es.drop off).take len)[j / p.sz]'(by rw [hlen]; exact k1))[j % p.sz]'(by rw [hszs _ (List.getElem_mem _)]; exact k2)) := List.getElem?_eq_getElem _
  obtain ⟨u', hu', _, ho1⟩ := g3 _ _ _ _ hl hx
  rw [k3, hj] at hu'
  cases hu'
  exact ho1

/-! ### append -/
/-- What can be appended, and what it holds. -/
inductive SrcOf (o : List OEv) (e : TypeId) (sz : Nat) : PV → List (List GV) → List (Nat × Obj) → Prop where
  | nil : SrcOf o e sz (.c (.g .nil)) [] []
  | sl {es : List (List GV)} (hsz : ∀ el ∈ es, el.length = sz) (h1 : ∀ el ∈ es, ∀ x ∈ el, GV.one x = true) : SrcOf o e sz (.c (.g (.sl es))) es []
  | own {id off len fz : Nat} {e2 : TypeId} {es : List (List GV)} (ho : lookO o id = some ⟨e2, fz, .gnd es⟩) (he : Nat.beq e2 e = true) (hle : off + len ≤ es.length) : SrcOf o e sz (.c (.osl id off len)) ((es.drop off).take len) [(id, ⟨e2, fz, .gnd es⟩)]
  | ownW {id len fz : Nat} {e2 : TypeId} {es : List (List GV)} (ho : lookO o id = some ⟨e2, fz, .gnd es⟩) (he : Nat.beq e2 e = true) (hle : es.length = len) : SrcOf o e sz (.c (.osl id 0 len)) es [(id, ⟨e2, fz, .gnd es⟩)]

theorem SrcOf.src {o o' : List OEv} {e : TypeId} {sz : Nat} {v : PV} {ys : List (List GV)} {ro : List (Nat × Obj)} (h : SrcOf o e sz v ys ro) (hi : ∃ i, P.info? e = some i ∧ i.size = sz) {F : FMap} {L : LMap} {w : World} {u : Value} (ha : Ag F w)
    (ho : ∀ id ob, lookO o' id = some ob → ObjOk P F L w id ob) (hro : ∀ x ∈ ro, lookO o' x.1 = some x.2) (hr : RP F L v u) : Src F w sz ys u := by
  cases h with
  | nil => exact src_nil hr
  | sl hsz h1 => exact src_sl ha hsz h1 hr
  | own ho1 he hle => have := beq_of he; subst this; exact src_own hi hr (ho _ _ (hro _ (List.mem_singleton.2 rfl))) hle
  | ownW ho1 he hle =>
    have := beq_of he
    subst this
    have := src_own hi hr (ho _ _ (hro _ (List.mem_singleton.2 rfl))) (by omega)
    rwa [List.drop_zero, List.take_of_length_le (by omega)] at this
theorem SrcOf.reads {o : List OEv} {e : TypeId} {sz : Nat} {v : PV} {ys : List (List GV)} {ro : List (Nat × Obj)} (h : SrcOf o e sz v ys ro) : ∀ x ∈ ro, lookO o x.1 = some x.2 := by
  cases h with
  | nil => simp
  | sl => simp
  | own ho1 _ _ => simpa using ho1
  | ownW ho1 _ _ => simpa using ho1

theorem src_first {F : FMap} {w : World} {sz : Nat} {ys : List (List GV)} {v : Value} (h : Src F w sz ys v) : ∃ news : List Value, news.length = ys.length * sz ∧ (∃ a cp, v = .slice a ys.length cp) ∧
    (∀ w' : World, w'.heap = w.heap → (Builtin.firstCells sz ys.length v).run P w' = .ok ⟨news⟩ w') ∧ (∀ u ∈ news, u.oneCell' = true) ∧
    (∀ (i j : Nat) (el : List GV) (x : GV), ys[i]? = some el → el[j]? = some x → ∃ u, news[i * sz + j]? = some u ∧ RG F x u) := by
  rcases h with ⟨rfl, a, cp, rfl⟩ | ⟨b, o, cp, vs, rfl, h2, h3, h4⟩
  · refine ⟨[], by simp, ⟨a, cp, rfl⟩, ?_, by simp, by simp⟩
    intro w' _
    cases a <;> simp [Builtin.firstCells, loadCells, loadCellsFrom]
  · refine ⟨vs, h2, ⟨_, _, rfl⟩, ?_, ?_, h4⟩
    · intro w' hw
      exact run_firstCells_some (P := P) w' sz ys.length ⟨b, o, none⟩ ys.length cp vs h2 (fun j u hj => by
        rw [add_off]
        have := (h3 j u hj).1
        simp only [World.cell?] at this ⊢
        rw [hw]; exact this)
    · intro u hu
      obtain ⟨j, hj⟩ := List.getElem?_of_mem hu
      exact (h3 j u hj).2

theorem run_app_in {w : World} {t ty e : TypeId} {i : TypeInfo} (ht : P.underlying t = some (.slice e)) (hi : P.info? e = some i) {b o len cp m : Nat} {x : Value} {a : Option Addr} {c' : Nat} (hx : x = .slice a m c') {news : List Value} {cur : Array Value}
    (hf : (Builtin.firstCells i.size m x).run P w = .ok ⟨news⟩ w) (hb : w.heap[b]? = some (.cells cur e (0, 0))) (hroom : len + m ≤ cp) (hfit : o + len * i.size + news.length ≤ cur.size) (h1 : ∀ u ∈ news, u.oneCell' = true) :
    (Builtin.append_ #[t, t] ty #[.slice (some ⟨b, o, none⟩) len cp, x]).run P w = .ok (.slice (some ⟨b, o, none⟩) (len + m) cp) (w.setRow b (patch cur.toList (o + len * i.size) news).toArray) := by
  have hst := run_storeCells_at P b (o + len * i.size) e news 0 cur w hb (by omega) h1
  simp only [Nat.add_zero] at hst
  subst hx
  simp [Builtin.append_, run_underlying ht, sizeOf, typeInfo, hi, Builtin.lenOf, hroom, hf, add_off, hst, patch]

theorem run_app_new {w : World} {t ty e : TypeId} {i : TypeInfo} {z : Value} (ht : P.underlying t = some (.slice e)) (hi : P.info? e = some i) (hz : i.zero = some z) {a1 : Option Addr} {len cp m : Nat} {x : Value} {a : Option Addr} {c' : Nat} (hx : x = .slice a m c') {olds news : List Value}
    (hf0 : (Builtin.firstCells i.size len (.slice a1 len cp)).run P w.drew = .ok ⟨olds⟩ w.drew) (hf : (Builtin.firstCells i.size m x).run P w.drew = .ok ⟨news⟩ w.drew) (hroom : cp < len + m) (hsmall : len + m ≤ 2147483648) (hby : i.bytes ≤ 65536) :
    (Builtin.append_ #[t, t] ty #[.slice a1 len cp, x]).run P w = .ok (.slice (some ⟨w.heap.size, 0, none⟩) (len + m) (grownCap w (len + m) cp e))
      (w.drew.alloc (.cells ((olds ++ news).toArray ++ Builtin.zeroCells z.cells (grownCap w (len + m) cp e - (len + m))) e)) := by
  subst hx
  have hn : ¬ (len + m ≤ cp) := by omega
  have h63' : ¬ (9223372036854775807 < ((len : Int) + (m : Int))) := by omega
  have hb : (len + m) * i.bytes ≤ 140737488355328 := Nat.le_trans (Nat.mul_le_mul hsmall hby) (by omega)
  have h48' : ¬ (281474976710656 < Builtin.nextslicecap (len + m) cp * i.bytes) := by have := growslice_fits (old := cp) (by omega) hb; omega
  simp [Builtin.append_, run_underlying ht, sizeOf, typeInfo, zeroValue, hi, hz, Builtin.lenOf, hn, h63', h48', Question.forced, hf, hf0, newRow, grownCap]
  congr 2
  apply Array.ext'
  simp

theorem zipped {α : Type} {sz : Nat} {xs ys : List (List α)} {olds news : List Value} (ho : olds.length = xs.length * sz) (hxs : ∀ l ∈ xs, l.length = sz) (hys : ∀ l ∈ ys, l.length = sz) (R : α → Value → Prop)
    (h1 : ∀ (i j : Nat) (l : List α) (x : α), xs[i]? = some l → l[j]? = some x → ∃ u, olds[i * sz + j]? = some u ∧ R x u) (h2 : ∀ (i j : Nat) (l : List α) (x : α), ys[i]? = some l → l[j]? = some x → ∃ u, news[i * sz + j]? = some u ∧ R x u) :
    ∀ (i j : Nat) (l : List α) (x : α), (xs ++ ys)[i]? = some l → l[j]? = some x → ∃ u, (olds ++ news)[i * sz + j]? = some u ∧ R x u := by
  intro i j l x hl hx
  have hj : j < sz := by
    have : l ∈ xs ++ ys := List.mem_of_getElem? hl
    have hll : l.length = sz := by rcases List.mem_append.1 this with h | h; exact hxs l h; exact hys l h
    rw [← hll]; exact (List.getElem?_eq_some_iff.1 hx).1
  by_cases hi : i < xs.length
  · rw [List.getElem?_append_left hi] at hl
    obtain ⟨u, hu, hr⟩ := h1 i j l x hl hx
    exact ⟨u, by rw [List.getElem?_append_left (List.getElem?_eq_some_iff.1 hu).1]; exact hu, hr⟩
  · rw [List.getElem?_append_right (by omega)] at hl
    obtain ⟨u, hu, hr⟩ := h2 _ j l x hl hx
    refine ⟨u, ?_, hr⟩
    have : xs.length * sz ≤ i * sz := Nat.mul_le_mul_right _ (by omega)
    rw [List.getElem?_append_right (by omega), ho, ← hu]
    congr 1
    rw [Nat.sub_mul]
    omega

/-- The state after an append to an own slice. -/
theorem SimFL.app {s : St} {a : Act} {w : World} {F : FMap} {L : LMap} (h : SimFL P c s a w F L) {t ty e : TypeId} {sz id off len fz : Nat} {es ys : List (List GV)} [ht : TSlice P t e] [hz : TApp P e sz] (hid : id < c.n) (ho : lookO s.objs id = some ⟨e, fz, .gnd es⟩)
    {v x : Value} (hv : RP F L (.c (.osl id off len)) v) (hx : Src F w sz ys x) (hys : ∀ l ∈ ys, l.length = sz) (hle : off + len ≤ es.length) (hfz : fz ≤ off + len) (hz0 : off = 0 ∨ 0 < len + ys.length) (hsmall : len + ys.length ≤ 2147483648) :
    ∃ v' w' L', (Builtin.append_ #[t, t] ty #[v, x]).run P w = .ok v' w' ∧ SimFL P c ⟨.kill id :: s.regs, .set id ⟨e, fz - off, .gnd ((es.drop off).take len ++ ys)⟩ :: .free id :: s.objs⟩ a w' F L' ∧ RP F L' (.c (.osl id 0 (len + ys.length))) v' := by
  obtain ⟨i, z, zs, i1, i2, i3, i4, i5, i6, i7⟩ := hz.h
  have hsrc := src_own ⟨i, i1, i5⟩ hv (h.ob id _ ho) hle
  obtain ⟨news, n1, ⟨xa, xc, n2⟩, n3, n4, n5⟩ := src_first (P := P) hx
  have hv2 := hv
  simp only [RP, RL] at hv2
  obtain ⟨p, hp, hcap, hcase⟩ := hv2
  have hpsz : p.sz = sz := by
    obtain ⟨p', hp', _, ⟨i', hi', hs'⟩, _⟩ := h.ob id _ ho
    rw [hp] at hp'
    cases hp'
    simp only at hi'
    rw [i1] at hi'
    cases hi'
    omega
  have hess : ∀ l ∈ (es.drop off).take len, l.length = sz := by
    obtain ⟨p', hp', _, _, h4, _⟩ := h.ob id _ ho
    rw [hp] at hp'
    cases hp'
    intro l hl
    have := h4 (l.map .g) (by simp only [Cont.cells, List.mem_map]; exact ⟨l, List.mem_of_mem_drop (List.mem_of_mem_take hl), rfl⟩)
    simpa [hpsz] using this
  have heslen : ((es.drop off).take len).length = len := by simp; omega
  have hcellsz : ∀ el ∈ (Cont.gnd ((es.drop off).take len ++ ys)).cells, el.length = sz := by
    intro el hel
    simp only [Cont.cells, List.mem_map] at hel
    obtain ⟨l, hl, rfl⟩ := hel
    rcases List.mem_append.1 hl with h | h
    · simpa using hess l h
    · simpa using hys l h
  have hcelllen : (Cont.gnd ((es.drop off).take len ++ ys)).cells.length = len + ys.length := by simp [Cont.cells]; omega
  have hF := h.free id hid
  have hnone : updL L id none id = none := updL_same _ _ _
  -- the reading of the new content, from a row of values
  have content : ∀ {L' : LMap} {row : List Value} {q : Nat} {cur' : Array Value}, (∀ (i j : Nat) (l : List GV) (x : GV), ((es.drop off).take len ++ ys)[i]? = some l → l[j]? = some x → ∃ u, row[i * sz + j]? = some u ∧ RG F x u ∧ u.oneCell' = true) → (∀ k u, row[k]? = some u → cur'[q + k]? = some u) →
      ∀ (i j : Nat) (el : List LC) (x : LC), (Cont.gnd ((es.drop off).take len ++ ys)).cells[i]? = some el → el[j]? = some x → ∃ v, cur'[q + i * sz + j]? = some v ∧ v.oneCell' = true ∧ RL F L' x v := by
    intro L' row q cur' h1 h2 i j el x hel hx
    simp only [Cont.cells, List.getElem?_map, Option.map_eq_some_iff] at hel
    obtain ⟨l, hl, rfl⟩ := hel
    rw [List.getElem?_map, Option.map_eq_some_iff] at hx
    obtain ⟨y, hy, rfl⟩ := hx
    obtain ⟨u, hu, hr, h1'⟩ := h1 i j l y hl hy
    exact ⟨u, by rw [Nat.add_assoc]; exact h2 _ _ hu, h1', hr⟩
  obtain ⟨olds, o1, ⟨oa, oc, o2⟩, o3, o4, o5⟩ := src_first (P := P) hsrc
  have both := zipped (sz := sz) (R := fun x u => RG F x u ∧ u.oneCell' = true) (by rw [o1]) hess hys
    (fun i j l x hl hx => by obtain ⟨u, hu, hr⟩ := o5 i j l x hl hx; exact ⟨u, hu, hr, o4 u (List.mem_of_getElem? hu)⟩)
    (fun i j l x hl hx => by obtain ⟨u, hu, hr⟩ := n5 i j l x hl hx; exact ⟨u, hu, hr, n4 u (List.mem_of_getElem? hu)⟩)
  have rowlen : (olds ++ news).length = (len + ys.length) * sz := by rw [List.length_append, o1, n1, heslen, Nat.add_mul]
  -- a new block
  have grown : ∀ cp, cp < len + ys.length → ∀ k : Nat, SimFL P c ⟨.kill id :: s.regs, .set id ⟨e, fz - off, .gnd ((es.drop off).take len ++ ys)⟩ :: .free id :: s.objs⟩ a
      (w.drew.alloc (.cells ((olds ++ news).toArray ++ Builtin.zeroCells z.cells (grownCap w (len + ys.length) cp e - (len + ys.length))) e)) F (updL (updL L id none) id (some ⟨some w.heap.size, 0, grownCap w (len + ys.length) cp e, sz, 0⟩)) := by
    intro cp _ _
    have hge := grownCap_ge w (len + ys.length) cp e
    have hmx := grownCap_le_maxLen w (len + ys.length) cp e (by simp only [maxLen]; omega)
    have hg : SimFL P c _ a (w.drew.alloc (.cells ((olds ++ news).toArray ++ Builtin.zeroCells z.cells (grownCap w (len + ys.length) cp e - (len + ys.length))) e)) F _ := hF.grow rfl rfl rfl (by simp) (fun k hk => heap_alloc_old _ _ hk)
    refine hg.adopt hid (by simp [freeO]) _ ⟨some w.heap.size, 0, grownCap w (len + ys.length) cp e, sz, 0⟩ (Nat.zero_le _) ⟨i, i1, i5⟩ hcellsz (by rw [hcelllen]; exact hge) hmx (.inr ⟨w.heap.size, _, rfl, heap_alloc_new w.drew _, ?_, .inl h.fr.size, fun o _ => h.ag.none_new (Nat.le_refl _) o, ?_, content both ?_⟩)
    · simp only [Array.size_append, List.size_toArray, rowlen, Builtin.zeroCells, Array.size_map, Array.size_range, i3, i4]
      have : (len + ys.length) * sz + (grownCap w (len + ys.length) cp e - (len + ys.length)) * sz = grownCap w (len + ys.length) cp e * sz := by rw [← Nat.add_mul]; congr 1; omega
      omega
    · intro j q hq hb
      unfold updL at hq
      split at hq
      · cases hq
      · have := (h.lk.own j q _ hq hb).2
        omega
    · intro k u hu
      rw [Nat.zero_add, Array.getElem?_append_left (by simp only [List.size_toArray]; exact (List.getElem?_eq_some_iff.1 hu).1)]
      simpa using hu
  have header : ∀ cp, cp < len + ys.length → RP F (updL (updL L id none) id (some ⟨some w.heap.size, 0, grownCap w (len + ys.length) cp e, sz, 0⟩)) (.c (.osl id 0 (len + ys.length))) (.slice (some ⟨w.heap.size, 0, none⟩) (len + ys.length) (grownCap w (len + ys.length) cp e)) := by
    intro cp _
    exact ⟨_, updL_same _ _ _, by simpa using grownCap_ge w (len + ys.length) cp e, .inr ⟨w.heap.size, 0, rfl, by simp, fun _ => by simp⟩⟩
  rcases hcase with ⟨hbn, rfl, hoff, hlen⟩ | ⟨b, o', hb, rfl, ho'⟩
  · -- nil
    subst hoff
    subst hlen
    by_cases hm : 0 < ys.length
    · have hr := run_app_new (P := P) (w := w) (ty := ty) ht.h i1 i2 (a1 := none) (len := 0) (cp := 0) n2 (olds := olds) (news := news) (by
        have := o3 w.drew rfl
        rw [heslen, ← i5] at this
        simpa using this) (by rw [i5]; exact n3 w.drew rfl) (by omega) hsmall i7
      exact ⟨_, _, _, hr, grown 0 (by omega) 0, header 0 (by omega)⟩
    · have hys0 : ys = [] := List.eq_nil_of_length_eq_zero (by omega)
      subst hys0
      refine ⟨.slice none 0 0, w, updL (updL L id none) id (some ⟨none, 0, 0, sz, 0⟩), ?_, hF.adopt hid (by simp [freeO]) _ ⟨none, 0, 0, sz, 0⟩ (Nat.zero_le _) ⟨i, i1, i5⟩ hcellsz (by rw [hcelllen]; simp) (by simp) (.inl ⟨rfl, by simp [Cont.cells]⟩), ⟨_, updL_same _ _ _, by simp, .inl ⟨rfl, rfl, rfl, rfl⟩⟩⟩
      have hfn := n3 w rfl
      simp only [List.length_nil] at hfn n2
      subst n2
      cases xa <;> simp [Builtin.append_, run_underlying ht.h, sizeOf, typeInfo, i1, Builtin.lenOf, Builtin.firstCells, loadCells, loadCellsFrom]
  · by_cases hroom : len + ys.length ≤ p.cap - off
    · -- in place
      obtain ⟨p', q1, q2, q3, q4, q5, q6, q7⟩ := h.ob id _ ho
      rw [hp] at q1
      cases q1
      rcases q7 with ⟨q7, _⟩ | ⟨b', cur, q7, q8, q9, q10⟩
      · rw [hb] at q7; cases q7
      rw [hb] at q7
      cases q7
      have hoo : o' = p.o + off * p.sz := ho' (by omega)
      rw [hpsz] at hoo q9 q10
      have hsub : off * sz + (p.cap - off) * sz = p.cap * sz := by rw [← Nat.add_mul]; congr 1; omega
      have hneed : (len + ys.length) * sz ≤ (p.cap - off) * sz := Nat.mul_le_mul_right _ hroom
      rw [Nat.add_mul] at hneed
      have hr := run_app_in (P := P) (w := w) (ty := ty) ht.h i1 (b := b) (o := o') (len := len) (cp := p.cap - off) n2 (news := news) (by rw [i5]; exact n3 w rfl) q8 hroom (by rw [i5, n1]; omega) n4
      rw [i5] at hr
      generalize hcur' : (patch cur.toList (o' + len * sz) news).toArray = cur' at hr
      have hat : ∀ k, cur'[k]? = if o' + len * sz ≤ k ∧ k < o' + len * sz + news.length then news[k - (o' + len * sz)]? else cur[k]? := by
        intro k
        rw [← hcur', List.getElem?_toArray, patch_at (by simp only [Array.length_toList]; rw [n1]; omega)]
        simp
      have hsize : cur'.size = cur.size := by rw [← hcur', List.size_toArray, patch_len (by simp only [Array.length_toList]; rw [n1]; omega)]; simp
      simp only at q2
      have hfzmul : p.fz * sz ≤ (off + len) * sz := Nat.mul_le_mul_right _ (by omega)
      rw [Nat.add_mul] at hfzmul
      have hbno : ∀ j q, updL L id none j = some q → q.blk ≠ some b := by
        intro j q hq hbq
        unfold updL at hq
        split at hq
        · cases hq
        · rename_i hj
          exact hj (h.lk.inj j id q p b hq hp hbq hb)
      have hpk := hF.poke (cur' := cur') q8 (h.lk.own id p b hp hb).1 hbno (by
        intro k u hu
        rw [hat, if_neg]
        rintro ⟨g1, g2⟩
        rw [h.lk.free id p b k hp hb (by rw [hpsz]; omega)] at hu
        cases hu)
      refine ⟨_, _, updL (updL L id none) id (some ⟨some b, o', p.cap - off, sz, p.fz - off⟩), hr, hpk.adopt hid (by simp [freeO]) _ ⟨some b, o', p.cap - off, sz, p.fz - off⟩ (by simp only; omega) ⟨i, i1, i5⟩ hcellsz (by rw [hcelllen]; exact hroom) (by simp only; omega) (.inr ⟨b, cur', rfl, heap_setRow_same q8, by rw [hsize]; simp only; omega, (h.lk.own id p b hp hb).1, ?_, hbno, content both ?_⟩),
        ⟨_, updL_same _ _ _, by simpa using hroom, .inr ⟨b, o', rfl, by simp, fun _ => by simp⟩⟩⟩
      · intro k hk
        refine h.lk.free id p b k hp hb ?_
        rw [hpsz]
        simp only at hk
        rw [Nat.sub_mul] at hk
        omega
      · intro k u hu
        show cur'[o' + k]? = some u
        by_cases hk : k < olds.length
        · rw [List.getElem?_append_left hk] at hu
          rw [hat, if_neg (by rw [o1, heslen] at hk; omega)]
          rcases hsrc with ⟨hnil, _⟩ | ⟨b2, o2', cp2, vs2, hv2, e2, e3, e4⟩
          · rw [o1, hnil] at hk; simp at hk
          · have hcell := o3 w rfl
            rw [heslen] at hcell
            have hfc := run_firstCells_some (P := P) w sz len ⟨b, o', none⟩ len (p.cap - off) vs2 (by rw [e2, heslen]) (fun j u hj => by
              rw [add_off]
              simp only [Value.slice.injEq, Option.some.injEq, Addr.mk.injEq, and_true] at hv2
              rw [hv2.1.1, hv2.1.2]
              exact (e3 j u hj).1)
            rw [hfc] at hcell
            simp only [Result.ok.injEq, and_true] at hcell
            have hvo : vs2 = olds := by simpa using congrArg Array.toList hcell
            subst hvo
            have := (e3 k u hu).1
            simp only [Value.slice.injEq, Option.some.injEq, Addr.mk.injEq, and_true] at hv2
            rw [← hv2.1.1, ← hv2.1.2, cell_of_row w b _ cur _ _ q8] at this
            exact this
        · rw [List.getElem?_append_right (by omega)] at hu
          have hk2 := (List.getElem?_eq_some_iff.1 hu).1
          rw [hat, if_pos (by rw [o1, heslen] at hk hk2; omega), ← hu]
          congr 1
          rw [o1, heslen]
          omega
    · -- grows
      have hr := run_app_new (P := P) (w := w) (ty := ty) ht.h i1 i2 (a1 := some ⟨b, o', none⟩) (len := len) (cp := p.cap - off) n2 (olds := olds) (news := news) (by
        have := o3 w.drew rfl
        rw [heslen] at this
        rw [i5]
        exact this) (by rw [i5]; exact n3 w.drew rfl) (by omega) hsmall i7
      exact ⟨_, _, _, hr, grown _ (by omega) 0, header _ (by omega)⟩

theorem LC.kill_idem (k : Nat) (x : LC) : (x.kill k).kill k = x.kill k := by
  cases x with
  | g v => rfl
  | junk => rfl
  | osl i o n => simp only [LC.kill]; cases hb : Nat.beq i k <;> simp [hb]
  | optr i o n => simp only [LC.kill]; cases hb : Nat.beq i k <;> simp [hb]
theorem killObj_idem (k : Nat) (x : Option Obj) : killObj k (killObj k x) = killObj k x := by
  cases x with
  | none => rfl
  | some p =>
    obtain ⟨e, fz, es⟩ := p
    cases es with
    | gnd es => rfl
    | loc es =>
      simp only [killObj, Option.some.injEq, Obj.mk.injEq, Cont.loc.injEq, true_and, List.map_map]
      refine List.map_congr_left fun r _ => ?_
      simp only [Function.comp, List.map_map]
      exact List.map_congr_left fun x _ => LC.kill_idem k x
theorem weak_twice (d : Nat) (r : List REv) (o : List OEv) (ob ob' : Obj) : Weak ⟨.kill d :: .kill d :: r, .set d ob :: .free d :: .set d ob' :: .free d :: o⟩ ⟨.kill d :: r, .set d ob :: .free d :: o⟩ := by
  refine ⟨?_, ?_, ?_⟩
  · intro t v h
    simp only [look] at h ⊢
    rw [h]
    exact killO_noRef (noRef_killO h)
  · intro i q h
    simp only [lookO] at h ⊢
    cases hb : Nat.beq d i with
    | true => rw [hb] at h; exact h
    | false => rw [hb] at h; simp only [cond_false] at h ⊢; rw [killObj_idem]; exact h
  · intro i h
    simp only [freeO] at h ⊢
    cases hb : Nat.beq d i <;> rw [hb] at h <;> exact h

/-- 'append' to an own slice. -/
theorem S_app {r : List REv} {o : List OEv} {d : Nat} {x y : Operand} {t e ty : TypeId} {pos : String} {af : Array Edge} {id off len fz sz : Nat} {es ys : List (List GV)} {v : PV} {ro : List (Nat × Obj)} [ht : TSlice P t e] [hz : TApp P e sz]
    (hx : ev r x = some (.c (.osl id off len))) (hid : Nat.blt id c.n = true) (ho : lookO o id = some ⟨e, fz, .gnd es⟩) (hy : ev r y = some v) (hs : SrcOf o e sz v ys ro) (hys : ∀ l ∈ ys, l.length = sz) (hle : off + len ≤ es.length) (hfz : fz ≤ off + len) (hz0 : off = 0 ∨ 0 < len + ys.length) (hsmall : len + ys.length ≤ 2147483648) (hd : Nat.blt d c.n = true) :
    Op1 P c ops (some d) (.call { callee := .builtin .append, args := #[x, y], argTypes := #[t, t] }) ty pos af ⟨r, o⟩ ⟨[(x, .c (.osl id off len)), (y, v)].flatMap rdx, (id, ⟨e, fz, .gnd es⟩) :: ro, [.set d (.c (.osl id 0 (len + ys.length))), .kill id], [.set id ⟨e, fz - off, .gnd ((es.drop off).take len ++ ys)⟩, .free id]⟩ := by
  have hxs : ∀ p ∈ [(x, PV.c (.osl id off len)), (y, v)], ev r p.1 = some p.2 := by simpa using ⟨hx, hy⟩
  refine ⟨?_, holds_of hxs (List.forall_mem_cons.2 ⟨ho, hs.reads⟩)⟩
  rintro ⟨r', o'⟩ a w hh ⟨F, L, hsim⟩
  rw [if_pos (by simp [Region.wanted])]
  have hx' := ev_of_holds hxs hh
  have e1 := ev_ok hsim.rg (hx' (x, .c (.osl id off len)) (by simp))
  have e2 := ev_ok hsim.rg (hx' (y, v) (by simp))
  obtain ⟨i, z, zs, i1, i2, i3, i4, i5, i6, i7⟩ := hz.h
  have hsrc := hs.src (o' := o') ⟨i, i1, i5⟩ hsim.ag (fun id ob h => hsim.ob id ob h) (fun p hp => hh.2 p (by simp [hp])) e2
  obtain ⟨v', w', L', hr, hsim', hv'⟩ := hsim.app (t := t) (ty := ty) (Nat.blt_lt hid) (hh.2 (id, ⟨e, fz, .gnd es⟩) (by simp)) e1 hsrc hys hle hfz hz0 hsmall
  unfold Oper.wp
  simp only at hr
  simp only [execOp, resolve, invoke, builtin, Sem.run_bind, Sem.run_pure, Result.andThen_ok, List.map_toArray, List.map_cons, List.map_nil, hr]
  exact ⟨F, L', hsim'.set (Nat.blt_lt hd) hv'⟩

/-- 'append' to a nil slice: the call's own from now on. -/
theorem S_appN {r : List REv} {o : List OEv} {d : Nat} {x y : Operand} {t e ty : TypeId} {pos : String} {af : Array Edge} {sz : Nat} {ys : List (List GV)} {v : PV} {ro : List (Nat × Obj)} [ht : TSlice P t e] [hz : TApp P e sz]
    (hx : ev r x = some (.c (.g .nil))) (hy : ev r y = some v) (hs : SrcOf o e sz v ys ro) (hys : ∀ l ∈ ys, l.length = sz) (hsmall : ys.length ≤ 2147483648) (hd : Nat.blt d c.n = true) :
    Op1 P c ops (some d) (.call { callee := .builtin .append, args := #[x, y], argTypes := #[t, t] }) ty pos af ⟨r, o⟩ ⟨[(x, .c (.g .nil)), (y, v)].flatMap rdx, ro, [.set d (.c (.osl d 0 ys.length)), .kill d], [.set d ⟨e, 0, .gnd ys⟩, .free d]⟩ := by
  have hxs : ∀ p ∈ [(x, PV.c (.g .nil)), (y, v)], ev r p.1 = some p.2 := by simpa using ⟨hx, hy⟩
  refine ⟨?_, holds_of hxs hs.reads⟩
  rintro ⟨r', o'⟩ a w hh ⟨F, L, hsim⟩
  rw [if_pos (by simp [Region.wanted])]
  have hx' := ev_of_holds hxs hh
  have e1 := ev_ok hsim.rg (hx' (x, .c (.g .nil)) (by simp))
  have e2 := ev_ok hsim.rg (hx' (y, v) (by simp))
  obtain ⟨i, z, zs, i1, i2, i3, i4, i5, i6, i7⟩ := hz.h
  have hsrc := hs.src (o' := o') ⟨i, i1, i5⟩ hsim.ag (fun id ob h => hsim.ob id ob h) (fun p hp => hh.2 p (by simp [hp])) e2
  have hnil := (hsim.free d (Nat.blt_lt hd)).adopt (id := d) (Nat.blt_lt hd) (by simp [freeO]) ⟨e, 0, .gnd []⟩ ⟨none, 0, 0, sz, 0⟩ (Nat.le_refl _) ⟨i, i1, i5⟩ (by simp [Cont.cells]) (by simp [Cont.cells]) (by simp) (.inl ⟨rfl, rfl⟩)
  have hv1 : RP F (updL (updL L d none) d (some ⟨none, 0, 0, sz, 0⟩)) (.c (.osl d 0 0)) (a.eval x) := by
    simp only [RP, RL] at e1
    generalize a.eval x = u at e1
    cases e1
    exact ⟨_, updL_same _ _ _, by simp, .inl ⟨rfl, rfl, rfl, rfl⟩⟩
  obtain ⟨v', w', L', hr, hsim', hv'⟩ := hnil.app (t := t) (ty := ty) (id := d) (e := e) (fz := 0) (es := []) (Nat.blt_lt hd) (by simp [lookO]) hv1 hsrc hys (by simp) (by simp) (.inl rfl) (by omega)
  unfold Oper.wp
  simp only at hr
  simp only [execOp, resolve, invoke, builtin, Sem.run_bind, Sem.run_pure, Result.andThen_ok, List.map_toArray, List.map_cons, List.map_nil, hr]
  have h3 := hsim'.set (Nat.blt_lt hd) hv'
  simp only [Nat.zero_add, List.drop_nil, List.take_nil, List.nil_append, Nat.sub_zero] at h3
  have hwk : Weak ⟨.set d (.c (.osl d 0 ys.length)) :: .kill d :: .kill d :: r', .set d ⟨e, 0, .gnd ys⟩ :: .free d :: .set d ⟨e, 0, .gnd []⟩ :: .free d :: o'⟩ ⟨.set d (.c (.osl d 0 ys.length)) :: .kill d :: r', .set d ⟨e, 0, .gnd ys⟩ :: .free d :: o'⟩ := by
    have hw := weak_twice d r' o' ⟨e, 0, .gnd ys⟩ ⟨e, 0, .gnd []⟩
    refine ⟨?_, hw.2.1, hw.2.2⟩
    intro t' v'' h'
    simp only [look] at h'
    show look (REv.set d _ :: _) t' = some v''
    simp only [look] at hw ⊢
    cases hb : Nat.beq d t' with
    | true => rw [hb] at h'; exact h'
    | false => rw [hb] at h'; exact hw.1 t' v'' h'
  exact Sim.weak ⟨F, L', h3⟩ hwk


/-! ### slice expressions -/
/-- A bound of a slice expression. -/
inductive Bd (r : List REv) : Option Operand → Nat → Nat → List (Operand × PV) → Prop where
  | dfl (dflt : Nat) : Bd r none dflt dflt []
  | giv {x : Operand} {kd : IntKind} {i : Int} {k : Nat} (dflt : Nat) (hx : ev r x = some (.c (.g (.int kd i)))) (hi : i = (k : Int)) : Bd r (some x) dflt k [(x, .c (.g (.int kd i)))]

theorem Bd.reads {r : List REv} {x : Option Operand} {d k : Nat} {xs : List (Operand × PV)} (h : Bd r x d k xs) : ∀ p ∈ xs, ev r p.1 = some p.2 := by
  cases h with
  | dfl => simp
  | giv _ hx _ => simpa using hx
theorem Bd.val {r : List REv} {x : Option Operand} {d k : Nat} {xs : List (Operand × PV)} (h : Bd r x d k xs) {F : FMap} {L : LMap} {ρ : Operand → Value} (hr : ∀ p ∈ xs, RP F L p.2 (ρ p.1)) :
    (x = none ∧ k = d) ∨ ∃ y kd, x = some y ∧ ρ y = .int kd (k : Int) := by
  cases h with
  | dfl => exact .inl ⟨rfl, rfl⟩
  | giv _ hx hi => subst hi; exact .inr ⟨_, _, rfl, gint (hr _ (List.mem_singleton.2 rfl))⟩
theorem run_bd {w : World} {kd : IntKind} {k y : Nat} (h : k ≤ y) (code : BoundsCode) : (Instr.sliceBound (.int kd (k : Int)) y code).run P w = .ok k w := by
  have h1 : (0 : Int) ≤ (k : Int) := by omega
  have h2 : (k : Int) ≤ (y : Int) := by omega
  simp [Instr.sliceBound, asIntOf, h]

theorem run_slice_gen {w : World} {t e : TypeId} {sz : Nat} [ht : TSlice P t e] [hz : TSz P e sz] {a : Option Addr} {len cap lo hi : Nat} {lv hv : Option Value} (hl : (lv = none ∧ lo = 0) ∨ ∃ kd, lv = some (.int kd (lo : Int))) (hh : (hv = none ∧ hi = len) ∨ ∃ kd, hv = some (.int kd (hi : Int))) (h1 : lo ≤ hi) (h2 : hi ≤ cap) :
    (Instr.sliceAt t (.slice a len cap) lv hv none).run P w = .ok (.slice (if cap = lo then a else a.map (·.add (lo * sz))) (hi - lo) (cap - lo)) w := by
  have hs := run_sizeOf (P := P) (t := e) (n := sz) w
  rcases hl with ⟨rfl, rfl⟩ | ⟨kd, rfl⟩ <;> rcases hh with ⟨rfl, rfl⟩ | ⟨kd', rfl⟩ <;>
    simp [Instr.sliceAt, Instr.slice, Instr.sliceBounds, run_underlying ht.h, run_bd, h1, h2, hs]

/-- A part of a slice that never changes. -/
theorem S_sliceR {r : List REv} {o : List OEv} {d : Nat} {x : Operand} {lx hx' : Option Operand} {t e ty : TypeId} {pos : String} {af : Array Edge} {es : List (List GV)} {lo hi sz : Nat} {xl xh : List (Operand × PV)} [ht : TSlice P t e] [hz : TSz P e sz]
    (hx : ev r x = some (.c (.g (.sl es)))) (hl : Bd r lx 0 lo xl) (hh : Bd r hx' es.length hi xh) (h1 : lo ≤ hi) (h2 : hi ≤ es.length) (hsz : ∀ el ∈ es, el.length = sz) (hd : Nat.blt d c.n = true) :
    Op1 P c ops (some d) (.slice t x lx hx' none) ty pos af ⟨r, o⟩ ⟨((x, .c (.g (.sl es))) :: (xl ++ xh)).flatMap rdx, [], [.set d (.c (.g (.sl ((es.drop lo).take (hi - lo)))))], []⟩ :=
  S_quiet ((x, .c (.g (.sl es))) :: (xl ++ xh)) [] _ hd (List.forall_mem_cons.2 ⟨hx, fun p hp => by rcases List.mem_append.1 hp with h | h; exact hl.reads p h; exact hh.reads p h⟩) (by simp) (fun ρ w F L hr _ _ => by
    have e1 := hr (x, .c (.g (.sl es))) (by simp)
    have e2 := hl.val (ρ := ρ) (fun p hp => hr p (by simp [hp]))
    have e3 := hh.val (ρ := ρ) (fun p hp => hr p (by simp [hp]))
    simp only [RP, RL] at e1
    generalize hv : ρ x = v at e1
    have el : (lx.map ρ = none ∧ lo = 0) ∨ ∃ kd, lx.map ρ = some (.int kd (lo : Int)) := by
      rcases e2 with ⟨rfl, rfl⟩ | ⟨y, kd, rfl, hy⟩
      · exact .inl ⟨rfl, rfl⟩
      · exact .inr ⟨kd, by simp [hy]⟩
    have eh : (hx'.map ρ = none ∧ hi = es.length) ∨ ∃ kd, hx'.map ρ = some (.int kd (hi : Int)) := by
      rcases e3 with ⟨rfl, rfl⟩ | ⟨y, kd, rfl, hy⟩
      · exact .inl ⟨rfl, rfl⟩
      · exact .inr ⟨kd, by simp [hy]⟩
    have hlen : ((es.drop lo).take (hi - lo)).length = hi - lo := by simp; omega
    cases e1 with
    | sl0 a cap =>
      simp at h2
      subst h2
      have : lo = 0 := by omega
      subst this
      refine ⟨.slice (if cap = 0 then a else a.map (·.add (0 * sz))) (0 - 0) (cap - 0), ?_, ?_⟩
      · simp only [execOp, hv, Sem.run_bind, run_slice_gen (P := P) (t := t) (w := w) (len := 0) (cap := cap) el eh h1 (Nat.zero_le _), Option.map_none]; rfl
      · simp only [List.drop_nil, List.take_nil]; exact RG.sl0 _ _
    | sl _ b off cap sz' g hs' h3 h4 hc =>
      refine ⟨.slice (if cap = lo then some ⟨b, off, none⟩ else (some (⟨b, off, none⟩ : Addr)).map (·.add (lo * sz))) (hi - lo) (cap - lo), ?_, ?_⟩
      · simp only [execOp, hv, Sem.run_bind, run_slice_gen (P := P) (t := t) (w := w) (len := es.length) (cap := cap) el eh h1 (by omega), Option.map_none]; rfl
      · by_cases hz0 : hi - lo = 0
        · rw [hz0]
          simp only [List.take_zero]
          exact RG.sl0 _ _
        · have hne : ¬ cap = lo := by omega
          rw [if_neg hne]
          have hszz : sz' = sz := by
            have hm : es[0]? = some es[0] := List.getElem?_eq_getElem (by omega)
            rw [← hs' _ (List.mem_of_getElem? hm), hsz _ (List.mem_of_getElem? hm)]
          subst hszz
          simp only [Option.map_some, add_off]
          have := RG.sl (F := F) ((es.drop lo).take (hi - lo)) b (off + lo * sz') (cap - lo) sz' (fun i j => g (lo + i) j) (by
            intro el hel
            exact hs' el (List.mem_of_mem_drop (List.mem_of_mem_take hel))) (by
            intro i j hi' hj
            rw [hlen] at hi'
            have := h3 (lo + i) j (by omega) hj
            rw [Nat.add_mul, ← Nat.add_assoc] at this
            exact this) (by
            intro i j el y hel hy
            rw [List.getElem?_take] at hel
            split at hel
            · rw [List.getElem?_drop] at hel
              exact h4 _ _ _ _ hel hy
            · cases hel) (by rw [hlen]; omega)
          rw [hlen] at this
          exact this)
/-- A part of an own slice. -/
theorem S_sliceO {r : List REv} {o : List OEv} {d : Nat} {x : Operand} {lx hx' : Option Operand} {t e ty : TypeId} {pos : String} {af : Array Edge} {id off len fz : Nat} {et : TypeId} {es : Cont} {lo hi sz : Nat} {xl xh : List (Operand × PV)} [ht : TSlice P t e] [hz : TSz P e sz]
    (hx : ev r x = some (.c (.osl id off len))) (ho : lookO o id = some ⟨et, fz, es⟩) (het : Nat.beq et e = true) (hl : Bd r lx 0 lo xl) (hh : Bd r hx' len hi xh) (h1 : lo ≤ hi) (h2 : hi ≤ len) (hd : Nat.blt d c.n = true) :
    Op1 P c ops (some d) (.slice t x lx hx' none) ty pos af ⟨r, o⟩ ⟨((x, .c (.osl id off len)) :: (xl ++ xh)).flatMap rdx, [(id, ⟨et, fz, es⟩)], [.set d (.c (.osl id (off + lo) (hi - lo)))], []⟩ :=
  S_quiet ((x, .c (.osl id off len)) :: (xl ++ xh)) [(id, ⟨et, fz, es⟩)] _ hd (List.forall_mem_cons.2 ⟨hx, fun p hp => by rcases List.mem_append.1 hp with h | h; exact hl.reads p h; exact hh.reads p h⟩) (by simpa using ho) (fun ρ w F L hr hob _ => by
    have e1 := hr (x, .c (.osl id off len)) (by simp)
    have e2 := hl.val (ρ := ρ) (fun p hp => hr p (by simp [hp]))
    have e3 := hh.val (ρ := ρ) (fun p hp => hr p (by simp [hp]))
    have hob' := hob (id, ⟨et, fz, es⟩) (by simp)
    simp only [RP, RL] at e1
    obtain ⟨p, hp, hcap, hcase⟩ := e1
    have hszz : p.sz = sz := by
      obtain ⟨p', hp', _, ⟨i1, hi1, hi2⟩, _⟩ := hob'
      rw [hp] at hp'
      cases hp'
      obtain ⟨i2, hi3, hi4⟩ := hz.h
      rw [← beq_of het] at hi3
      simp only at hi1
      rw [hi1] at hi3
      cases hi3
      omega
    have el : (lx.map ρ = none ∧ lo = 0) ∨ ∃ kd, lx.map ρ = some (.int kd (lo : Int)) := by
      rcases e2 with ⟨rfl, rfl⟩ | ⟨y, kd, rfl, hy⟩
      · exact .inl ⟨rfl, rfl⟩
      · exact .inr ⟨kd, by simp [hy]⟩
    have eh : (hx'.map ρ = none ∧ hi = len) ∨ ∃ kd, hx'.map ρ = some (.int kd (hi : Int)) := by
      rcases e3 with ⟨rfl, rfl⟩ | ⟨y, kd, rfl, hy⟩
      · exact .inl ⟨rfl, rfl⟩
      · exact .inr ⟨kd, by simp [hy]⟩
    rcases hcase with ⟨hb, hv, rfl, rfl⟩ | ⟨b, o', hb, hv, ho'⟩
    · have hlo : lo = 0 := by omega
      have hhi : hi = 0 := by omega
      subst hlo
      subst hhi
      refine ⟨.slice (if 0 = 0 then none else (none : Option Addr).map (·.add (0 * sz))) (0 - 0) (0 - 0), ?_, ⟨p, hp, by omega, .inl ⟨hb, rfl, rfl, rfl⟩⟩⟩
      simp only [execOp, hv, Sem.run_bind, run_slice_gen (P := P) (t := t) (w := w) (len := 0) (cap := 0) el eh h1 (Nat.zero_le _), Option.map_none]; rfl
    · refine ⟨.slice (if p.cap - off = lo then some ⟨b, o', none⟩ else (some (⟨b, o', none⟩ : Addr)).map (·.add (lo * sz))) (hi - lo) (p.cap - off - lo), ?_, ⟨p, hp, by omega, .inr ⟨b, if p.cap - off = lo then o' else o' + lo * p.sz, hb, ?_, ?_⟩⟩⟩
      · simp only [execOp, hv, Sem.run_bind, run_slice_gen (P := P) (t := t) (w := w) (len := len) (cap := p.cap - off) el eh h1 (by omega), Option.map_none]; rfl
      · by_cases hc : p.cap - off = lo
        · rw [if_pos hc, if_pos hc, Nat.sub_sub]
        · rw [if_neg hc, if_neg hc, Nat.sub_sub]
          simp [add_off, hszz]
      · intro hor
        by_cases hc : p.cap - off = lo
        · rw [if_pos hc]
          have : off = 0 ∧ lo = 0 := by omega
          obtain ⟨rfl, rfl⟩ := this
          simpa using ho' (.inl rfl)
        · rw [if_neg hc, ho' (by omega), Nat.add_mul]
          omega)
theorem S_sliceS {r : List REv} {o : List OEv} {d : Nat} {x : Operand} {lx hx' : Option Operand} {t ty : TypeId} {pos : String} {af : Array Edge} {l : List UInt8} {lo hi : Nat} {xl xh : List (Operand × PV)} [ht : TStr P t]
    (hx : ev r x = some (.c (.g (.str l)))) (hl : Bd r lx 0 lo xl) (hh : Bd r hx' l.length hi xh) (h1 : lo ≤ hi) (h2 : hi ≤ l.length) (hd : Nat.blt d c.n = true) :
    Op1 P c ops (some d) (.slice t x lx hx' none) ty pos af ⟨r, o⟩ ⟨((x, .c (.g (.str l))) :: (xl ++ xh)).flatMap rdx, [], [.set d (.c (.g (.str ((l.drop lo).take (hi - lo)))))], []⟩ :=
  S_quiet ((x, .c (.g (.str l))) :: (xl ++ xh)) [] _ hd (List.forall_mem_cons.2 ⟨hx, fun p hp => by rcases List.mem_append.1 hp with h | h; exact hl.reads p h; exact hh.reads p h⟩) (by simp) (fun ρ w F L hr _ _ => by
    have e1 := gstr (hr (x, .c (.g (.str l))) (by simp))
    have e2 := hl.val (ρ := ρ) (fun p hp => hr p (by simp [hp]))
    have e3 := hh.val (ρ := ρ) (fun p hp => hr p (by simp [hp]))
    refine ⟨.string ⟨⟨(l.drop lo).take (hi - lo)⟩⟩, ?_, RG.str _⟩
    have hsz : (ByteArray.mk ⟨l⟩).size = l.length := rfl
    have hex : (ByteArray.mk ⟨l⟩).extract lo hi = ⟨⟨(l.drop lo).take (hi - lo)⟩⟩ := by
      apply ByteArray.ext
      apply Array.ext'
      simp [ByteArray.data_extract, List.extract]
    simp only at e1
    rcases e2 with ⟨rfl, rfl⟩ | ⟨y, kd, rfl, hy⟩ <;> rcases e3 with ⟨rfl, rfl⟩ | ⟨z, kd', rfl, hz⟩ <;>
      simp [execOp, Instr.sliceAt, Instr.slice, Instr.sliceBounds, run_underlying ht.h, run_bd, -ByteArray.size_data, *])
end
end Go.Pu
/- The pure layer, part 10: struct literals and small operations. Any program. -/
namespace Go.Pu
open Go

/-- The places of a struct's fields: offset and number of cells. -/
class TStruct (P : Program) (t : TypeId) (pls : outParam (List (Nat × Nat))) : Prop where
  h : ∃ fs, P.underlying t = some (.struct fs) ∧ ∀ w, (fs.mapM fun f => do pure (f.offset, ← sizeOf f.type) : Sem (Array (Nat × Nat))).run P w = .ok pls.toArray w

/-- The parts of a struct literal, one after the other. -/
inductive EvB (r : List REv) (pls : List (Nat × Nat)) : List (Nat × Operand) → List LC → List LC → List (Operand × PV) → Prop where
  | nil (cs : List LC) : EvB r pls [] cs cs []
  | put {i off sz : Nat} {x : Operand} {v : PV} {ys : List LC} {l : List (Nat × Operand)} {cs cs' : List LC} {xs : List (Operand × PV)} (hp : pls[i]? = some (off, sz)) (hx : ev r x = some v) (hy : pcells v = ys) (hl : ys.length = sz) (h1 : ys.all LC.one = true) (hnt : ∀ vs, v ≠ .tup vs) (hb : off + sz ≤ cs.length)
      (k : EvB r pls l (patch cs off ys) cs' xs) : EvB r pls ((i, x) :: l) cs cs' ((x, v) :: xs)

theorem EvB.agg {r : List REv} {pls : List (Nat × Nat)} {i off sz : Nat} {x : Operand} {vs : List GV} {l : List (Nat × Operand)} {cs cs' : List LC} {xs : List (Operand × PV)} (hp : pls[i]? = some (off, sz)) (hx : ev r x = some (.c (.g (.agg vs)))) (hl : vs.length = sz) (h1 : vs.all GV.one = true) (hb : Nat.ble (off + sz) cs.length = true)
    (k : EvB r pls l (patch cs off (vs.map .g)) cs' xs) : EvB r pls ((i, x) :: l) cs cs' ((x, .c (.g (.agg vs))) :: xs) :=
  .put hp hx rfl (by simpa [pcells] using hl) (by simpa [pcells, LC.one, Function.comp_def] using h1) (by intro vs h; cases h) (by simpa [Nat.ble_eq] using hb) k
theorem EvB.one {r : List REv} {pls : List (Nat × Nat)} {i off : Nat} {x : Operand} {y : GV} {l : List (Nat × Operand)} {cs cs' : List LC} {xs : List (Operand × PV)} (hp : pls[i]? = some (off, 1)) (hx : ev r x = some (.c (.g y))) (h1 : y.one = true) (hb : Nat.blt off cs.length = true)
    (k : EvB r pls l (cs.set off (.g y)) cs' xs) : EvB r pls ((i, x) :: l) cs cs' ((x, .c (.g y)) :: xs) :=
  .put (ys := [.g y]) hp hx (by cases y <;> first | rfl | (simp [GV.one] at h1)) rfl (by simpa [LC.one] using h1) (by intro vs h; cases h) (Nat.blt_lt hb) (by rw [← set_patch (Nat.blt_lt hb)]; exact k)
theorem EvB.own {r : List REv} {pls : List (Nat × Nat)} {i off id q n : Nat} {x : Operand} {l : List (Nat × Operand)} {cs cs' : List LC} {xs : List (Operand × PV)} (hp : pls[i]? = some (off, 1)) (hx : ev r x = some (.c (.osl id q n))) (hb : Nat.blt off cs.length = true)
    (k : EvB r pls l (cs.set off (.osl id q n)) cs' xs) : EvB r pls ((i, x) :: l) cs cs' ((x, .c (.osl id q n)) :: xs) :=
  .put (ys := [.osl id q n]) hp hx rfl rfl rfl (by intro vs h; cases h) (Nat.blt_lt hb) (by rw [← set_patch (Nat.blt_lt hb)]; exact k)
theorem EvB.aggL {r : List REv} {pls : List (Nat × Nat)} {i off sz : Nat} {x : Operand} {vs : List LC} {l : List (Nat × Operand)} {cs cs' : List LC} {xs : List (Operand × PV)} (hp : pls[i]? = some (off, sz)) (hx : ev r x = some (.agg vs)) (hl : vs.length = sz) (h1 : vs.all LC.one = true) (hb : Nat.ble (off + sz) cs.length = true)
    (k : EvB r pls l (patch cs off vs) cs' xs) : EvB r pls ((i, x) :: l) cs cs' ((x, .agg vs) :: xs) :=
  .put hp hx rfl hl h1 (by intro vs h; cases h) (by simpa [Nat.ble_eq] using hb) k

theorem EvB.reads {r : List REv} {pls : List (Nat × Nat)} {l : List (Nat × Operand)} {cs cs' : List LC} {xs : List (Operand × PV)} (h : EvB r pls l cs cs' xs) : ∀ p ∈ xs, ev r p.1 = some p.2 := by
  induction h with
  | nil => simp
  | put hp hx hy hl h1 hnt hb k ih => exact List.forall_mem_cons.2 ⟨hx, ih⟩

/-- Cells as they read. -/
def Cl (F : FMap) (L : LMap) (cs : List LC) (vs : Array Value) : Prop := vs.size = cs.length ∧ ∀ (j : Nat) (x : LC), cs[j]? = some x → ∃ u, vs[j]? = some u ∧ RL F L x u

theorem fill_one (n off : Nat) (vs : List Value) (arr : Array Value) (h : off + vs.length ≤ arr.size) :
    ((vs.zipIdx n).foldl (fun cs (x : Value × Nat) => match x with | (c, j) => cs.setIfInBounds (off - n + j) c) arr) = (patch arr.toList (off) vs).toArray ∨ off < n := by
  by_cases hn : off < n
  · exact .inr hn
  · left
    induction vs generalizing n off arr with
    | nil => simp [patch]
    | cons v vs ih =>
      simp only [List.zipIdx_cons, List.foldl_cons]
      rw [show off - n + n = off by omega]
      have := ih (n + 1) (off + 1) (arr.setIfInBounds off v) (by simp at h ⊢; omega) (by omega)
      rw [show off + 1 - (n + 1) = off - n by omega] at this
      rw [this]
      congr 1
      apply List.ext_getElem?
      intro j
      simp at h
      have g1 : (arr.setIfInBounds off v).toList.length = arr.size := by simp
      have g2 : arr.toList.length = arr.size := by simp
      have g3 : (v :: vs).length = vs.length + 1 := rfl
      rw [patch_at (by omega), patch_at (by omega)]
      simp only [Array.toList_setIfInBounds, List.getElem?_set, List.length_cons]
      by_cases h1 : off + 1 ≤ j ∧ j < off + 1 + vs.length
      · rw [if_pos h1, if_pos (by omega), show j - off = (j - (off + 1)) + 1 by omega, List.getElem?_cons_succ]
      · rw [if_neg h1]
        by_cases h2 : off = j
        · subst h2
          rw [if_pos rfl, if_pos (by omega)]
          simp
        · rw [if_neg h2, if_neg (by omega)]

theorem EvB.fill {r : List REv} {pls : List (Nat × Nat)} {l : List (Nat × Operand)} {cs cs' : List LC} {xs : List (Operand × PV)} (h : EvB r pls l cs cs' xs) {F : FMap} {L : LMap} {ρ : Operand → Value} (hr : ∀ p ∈ xs, RP F L p.2 (ρ p.1)) :
    ∀ (arr : Array Value), Cl F L cs arr → ∃ arr', Instr.fill (fun i => pls.toArray[i]?) arr (l.map fun p => (p.1, ρ p.2)) = some arr' ∧ Cl F L cs' arr' := by
  induction h with
  | nil cs => intro arr ha; exact ⟨arr, rfl, ha⟩
  | @put i off sz x v ys l cs cs' xs hp hx hy hl h1 hnt hb k ih =>
    intro arr ha
    obtain ⟨vs, c1, c2, c3⟩ := RP_cells (hr (x, v) (by simp)) (by rw [hy]; exact h1) hnt
    rw [hy] at c2 c3
    have hp' : pls.toArray[i]? = some (off, sz) := by simpa using hp
    have hsz : (ρ x).cells.size = sz := by rw [c1]; simp; omega
    have hfit : off + vs.length ≤ arr.size := by rw [ha.1]; omega
    obtain ⟨arr', e1, e2⟩ := ih (fun p hp => hr p (by simp [hp])) (patch arr.toList off vs).toArray ⟨by
      rw [List.size_toArray, patch_len (by simpa using hfit), patch_len (by omega)]; simpa using ha.1, by
      intro j y hy'
      rw [patch_at (by omega)] at hy'
      rw [List.getElem?_toArray, patch_at (by simpa using hfit)]
      split at hy'
      · rename_i hj
        rw [if_pos (by omega)]
        obtain ⟨u, hu, _, hru⟩ := c3 _ y hy'
        exact ⟨u, hu, hru⟩
      · rename_i hj
        rw [if_neg (by omega)]
        obtain ⟨u, hu, hru⟩ := ha.2 j y hy'
        exact ⟨u, by simpa using hu, hru⟩⟩
    refine ⟨arr', ?_, e2⟩
    simp only [List.map_cons, Instr.fill, hp']
    have hcond : ¬ ((ρ x).cells.size ≠ sz ∨ off + (ρ x).cells.size > arr.size) := by
      rw [hsz]
      have : vs.length = sz := by omega
      omega
    rw [if_neg (by simpa using hcond)]
    have hf := (fill_one 0 off vs arr hfit).resolve_right (by omega)
    simp only [Nat.sub_zero] at hf
    rw [c1]
    have hz : (⟨vs⟩ : Array Value).zipIdx.foldl (fun cs (x : Value × Nat) => match x with | (c, j) => cs.setIfInBounds (off + j) c) arr = (patch arr.toList off vs).toArray := by
      rw [← hf, ← Array.foldl_toList]; simp
    rw [hz]
    exact e1

section
variable {P : Program} {c : Ctx} {ops : Array Oper}

theorem zero_cl {t : TypeId} {zs : List GV} [hz : TZero P t zs] (F : FMap) (L : LMap) : ∃ i z, P.info? t = some i ∧ i.zero = some z ∧ Cl F L (zs.map .g) z.cells := by
  obtain ⟨i, z, vs, e1, e2, e3, e4, e5, e6⟩ := hz.h
  refine ⟨i, z, e1, e2, by rw [e3]; simpa using e4, fun j x hx => ?_⟩
  rw [List.getElem?_map, Option.map_eq_some_iff] at hx
  obtain ⟨y, hy, rfl⟩ := hx
  obtain ⟨u, hu, _, hr⟩ := e6 F j y hy
  exact ⟨u, by rw [e3]; simpa using hu, hr⟩

/-- A struct literal, its cells with headers of the call's own. -/
theorem S_buildL {r : List REv} {o : List OEv} {d : Nat} {t ty : TypeId} {pos : String} {af : Array Edge} {l : List (Nat × Operand)} {pls : List (Nat × Nat)} {zs : List GV} {cs : List LC} {xs : List (Operand × PV)} [ht : TStruct P t pls] [hz : TZero P t zs]
    (hl : EvB r pls l (zs.map .g) cs xs) (hd : Nat.blt d c.n = true) :
    Op1 P c ops (some d) (.build t l.toArray) ty pos af ⟨r, o⟩ ⟨xs.flatMap rdx, [], [.set d (.agg cs)], []⟩ :=
  S_quiet xs [] _ hd hl.reads (by simp) (fun ρ w F L hr _ _ => by
    obtain ⟨fs, e1, e2⟩ := ht.h
    obtain ⟨i, z, z1, z2, z3⟩ := zero_cl (P := P) (t := t) F L
    obtain ⟨arr, a1, a2, a3⟩ := hl.fill hr z.cells z3
    refine ⟨.agg arr, ?_, arr.toList, rfl, by simpa using a2, ?_⟩
    · simp [execOp, Instr.build, zeroValue, typeInfo, z1, z2, run_underlying e1]
      have := e2 w
      simp at this
      simp [this]
      rw [show (l.map fun (x : Nat × Operand) => (x.1, ρ x.2)) = l.map (fun p => (p.1, ρ p.2)) from rfl] at *
      simp at a1
      simp [a1]
    · intro j x u hx hu
      obtain ⟨u', hu', hr'⟩ := a3 j x hx
      rw [Array.getElem?_toList, hu'] at hu
      cases hu
      exact hr')
/-- A struct literal of ground parts. -/
theorem S_build {r : List REv} {o : List OEv} {d : Nat} {t ty : TypeId} {pos : String} {af : Array Edge} {l : List (Nat × Operand)} {pls : List (Nat × Nat)} {zs : List GV} {cs : List LC} {gs : List GV} {xs : List (Operand × PV)} [ht : TStruct P t pls] [hz : TZero P t zs]
    (hl : EvB r pls l (zs.map .g) cs xs) (hg : cs = gs.map .g) (hd : Nat.blt d c.n = true) :
    Op1 P c ops (some d) (.build t l.toArray) ty pos af ⟨r, o⟩ ⟨xs.flatMap rdx, [], [.set d (.c (.g (.agg gs)))], []⟩ :=
  S_quiet xs [] _ hd hl.reads (by simp) (fun ρ w F L hr _ _ => by
    obtain ⟨fs, e1, e2⟩ := ht.h
    obtain ⟨i, z, z1, z2, z3⟩ := zero_cl (P := P) (t := t) F L
    obtain ⟨arr, a1, a2, a3⟩ := hl.fill hr z.cells z3
    refine ⟨.agg arr, ?_, RG.agg gs arr.toList (by rw [hg] at a2; simpa using a2.symm) ?_⟩
    · simp [execOp, Instr.build, zeroValue, typeInfo, z1, z2, run_underlying e1]
      have := e2 w
      simp at this
      simp [this]
      rw [show (l.map fun (x : Nat × Operand) => (x.1, ρ x.2)) = l.map (fun p => (p.1, ρ p.2)) from rfl] at *
      simp at a1
      simp [a1]
    · intro j x u hx hu
      obtain ⟨u', hu', hr'⟩ := a3 j (.g x) (by rw [hg, List.getElem?_map, hx]; rfl)
      rw [Array.getElem?_toList, hu'] at hu
      cases hu
      exact hr')

theorem S_max2 {r : List REv} {o : List OEv} {d : Nat} {x y : Operand} {ts : Array TypeId} {ty : TypeId} {pos : String} {af : Array Edge} {m n : Int}
    (hx : ev r x = some (.c (.g (.int .i64 m)))) (hy : ev r y = some (.c (.g (.int .i64 n)))) (hd : Nat.blt d c.n = true) :
    Op1 P c ops (some d) (.call { callee := .builtin .max, args := #[x, y], argTypes := ts }) ty pos af ⟨r, o⟩ ⟨[(x, .c (.g (.int .i64 m))), (y, .c (.g (.int .i64 n)))].flatMap rdx, [], [.set d (.c (.g (.int .i64 (max m n))))], []⟩ :=
  S_quiet2 _ hx hy hd (fun ρ w F L h1 h2 _ => by
    refine ⟨.int .i64 (max m n), ?_, RG.int _ _⟩
    simp [execOp, resolve, invoke, builtin, gint h1, gint h2, run_max_int2]
    split <;> omega)
theorem S_min2 {r : List REv} {o : List OEv} {d : Nat} {x y : Operand} {ts : Array TypeId} {ty : TypeId} {pos : String} {af : Array Edge} {m n : Int}
    (hx : ev r x = some (.c (.g (.int .i64 m)))) (hy : ev r y = some (.c (.g (.int .i64 n)))) (hd : Nat.blt d c.n = true) :
    Op1 P c ops (some d) (.call { callee := .builtin .min, args := #[x, y], argTypes := ts }) ty pos af ⟨r, o⟩ ⟨[(x, .c (.g (.int .i64 m))), (y, .c (.g (.int .i64 n)))].flatMap rdx, [], [.set d (.c (.g (.int .i64 (min m n))))], []⟩ :=
  S_quiet2 _ hx hy hd (fun ρ w F L h1 h2 _ => by
    refine ⟨.int .i64 (min m n), ?_, RG.int _ _⟩
    simp [execOp, resolve, invoke, builtin, gint h1, gint h2, run_min_int2]
    split <;> omega)
theorem S_conv {r : List REv} {o : List OEv} {d : Nat} {x : Operand} {t1 t2 ty : TypeId} {pos : String} {af : Array Edge} {k1 : IntKind} {n : Int} {k0 : IntKind} [h1 : TInt P t1 k0] [h2 : TInt P t2 .i64]
    (hx : ev r x = some (.c (.g (.int k1 n)))) (hn : In64 n) (hd : Nat.blt d c.n = true) :
    Op1 P c ops (some d) (.convert t1 t2 x) ty pos af ⟨r, o⟩ ⟨[(x, .c (.g (.int k1 n)))].flatMap rdx, [], [.set d (.c (.g (.int .i64 n)))], []⟩ :=
  S_quiet1 _ hx hd (fun ρ w F L e1 _ => ⟨.int .i64 n, by simp [execOp, convert, gint e1, run_underlying h1.h, run_underlying h2.h, Conv.intToInt, wrap_in hn], RG.int _ _⟩)
theorem S_nilO {r : List REv} {o : List OEv} {d : Nat} {x : Operand} {ty : TypeId} {pos : String} {af : Array Edge} {id el off : Nat}
    (hx : ev r x = some (.c (.optr id el off))) (hd : Nat.blt d c.n = true) :
    Op1 P c ops (some d) (.nilCheck x) ty pos af ⟨r, o⟩ ⟨[(x, .c (.optr id el off))].flatMap rdx, [], [.set d (.c (.optr id el off))], []⟩ :=
  S_quiet1 _ hx hd (fun ρ w F L e1 _ => by
    have e2 := e1
    simp only [RP, RL] at e2
    obtain ⟨p, b, _, _, hv⟩ := e2
    exact ⟨ρ x, by simp [execOp, hv], e1⟩)
theorem S_nilR {r : List REv} {o : List OEv} {d : Nat} {x : Operand} {ty : TypeId} {pos : String} {af : Array Edge} {cs : List GV}
    (hx : ev r x = some (.c (.g (.ref cs)))) (hd : Nat.blt d c.n = true) :
    Op1 P c ops (some d) (.nilCheck x) ty pos af ⟨r, o⟩ ⟨[(x, .c (.g (.ref cs)))].flatMap rdx, [], [.set d (.c (.g (.ref cs)))], []⟩ :=
  S_quiet1 _ hx hd (fun ρ w F L e1 _ => by
    obtain ⟨b, off, g, hv, _⟩ := gref e1
    exact ⟨ρ x, by simp [execOp, hv], e1⟩)
theorem S_eqb {r : List REv} {o : List OEv} {d : Nat} {x y : Operand} {ty t1 t2 : TypeId} {pos : String} {af : Array Edge} {a b : Bool} [h1 : TBool P t1]
    (hx : ev r x = some (.c (.g (.bool a)))) (hy : ev r y = some (.c (.g (.bool b)))) (hd : Nat.blt d c.n = true) :
    Op1 P c ops (some d) (.binOp .eql t1 x y t2) ty pos af ⟨r, o⟩ ⟨[(x, .c (.g (.bool a))), (y, .c (.g (.bool b)))].flatMap rdx, [], [.set d (.c (.g (.bool (a == b))))], []⟩ :=
  S_bin hx hy hd (fun F u v w ha hb => by
    cases ha; cases hb
    exact ⟨.bool (a == b), by simp [eqGuard], run_eql_bool w t1 a b h1.h, RG.bool _⟩)
theorem S_neb {r : List REv} {o : List OEv} {d : Nat} {x y : Operand} {ty t1 t2 : TypeId} {pos : String} {af : Array Edge} {a b : Bool} [h1 : TBool P t1]
    (hx : ev r x = some (.c (.g (.bool a)))) (hy : ev r y = some (.c (.g (.bool b)))) (hd : Nat.blt d c.n = true) :
    Op1 P c ops (some d) (.binOp .neq t1 x y t2) ty pos af ⟨r, o⟩ ⟨[(x, .c (.g (.bool a))), (y, .c (.g (.bool b)))].flatMap rdx, [], [.set d (.c (.g (.bool (!(a == b)))))], []⟩ :=
  S_bin hx hy hd (fun F u v w ha hb => by
    cases ha; cases hb
    exact ⟨.bool (!(a == b)), by simp [eqGuard], run_neq_bool w t1 a b h1.h, RG.bool _⟩)
end
end Go.Pu
