/- The pure layer and the contracts of the functions, part 5: what the functions of the program leave, as values. -/
import Derived.Test.YtdmlfhmnlddooaaB3
set_option linter.unusedSimpArgs false
set_option linter.unusedVariables false
namespace Go.Proofs.Ytdmlfhmnlddooaa
open Go Go.Pu

theorem enc_flat (l : List Int) : ∀ el ∈ l.map encI, ∀ x ∈ el, GV.Flat x := by
  intro el hel x hx
  obtain ⟨b, _, rfl⟩ := List.mem_map.1 hel
  simp only [encI, List.mem_singleton] at hx
  subst hx; exact flat_int _ _
def oneV (bs : List Nat) (p : Nat) (l : List Int) : Int := l.getD (pickV bs p l.length).toNat 0
theorem oneV_at (bs : List Nat) (p : Nat) {l : List Int} (hl : 0 < l.length) : ∃ (j : Nat) (x : Int), pickV bs p (l.length : Int) = j ∧ oneV bs p l = x ∧ l[j]? = some x := by
  obtain ⟨v1, v2, _⟩ := pickV_in bs p (l.length : Int)
  have v2 := v2 (by omega)
  refine ⟨(pickV bs p l.length).toNat, l[(pickV bs p l.length).toNat]'(by omega), by omega, ?_, List.getElem?_eq_getElem _⟩
  unfold oneV
  rw [List.getD_eq_getElem?_getD, List.getElem?_eq_getElem]; rfl
theorem oneV_mem (bs : List Nat) (p : Nat) {l : List Int} (hl : 0 < l.length) : oneV bs p l ∈ l := by
  obtain ⟨j, x, _, h2, h3⟩ := oneV_at bs p hl
  rw [h2]; exact List.mem_of_getElem? h3
def T.ncuts : T → Nat
  | .cut _ _ p q => 1 + p.ncuts + q.ncuts
  | _ => 0
theorem T.ncuts_le (t : T) : t.ncuts ≤ t.size := by
  induction t with
  | waste => simp [T.ncuts, T.size]
  | pane => simp [T.ncuts, T.size]
  | cut d a p q ihp ihq => simp only [T.ncuts, T.size]; omega

/- (*spec.reader).one: 85, 26 -> [3] -/
set_option maxRecDepth 100000 in
theorem ctr_one (bs : List Nat) (hb : ∀ b ∈ bs, b < 256) (p : Nat) (hp : p ≤ 1000000) (l : List Int) (hl : 0 < l.length ∧ l.length ≤ 1000) : CtrG P 67 12 [.c (.optr 12 0 0), .c (.g (.sl (l.map encI)))] [(12, ⟨150, 0, .gnd [Rd bs p]⟩)] (.c (.g (.int .i64 (oneV bs p l)))) [(12, ⟨150, 0, .gnd [Rd bs (p + 1)]⟩)] := by
  have hpk := ctr_pick bs hb p hp ((l.map encI).length : Int)
  obtain ⟨j, x, h1, h2, hx⟩ := oneV_at bs p hl.1
  have hlen : (l.map encI).length = l.length := List.length_map _
  have h1' : pickV bs p ((l.map encI).length : Int) = j := by rw [hlen]; exact h1
  rw [h1'] at hpk
  rw [h2]
  refine ctr_ofG (fn := Go.Proofs.Try.f67) (by kernel_rfl) rfl rfl rfl ?_
  rintro ⟨n, w0, F0, M, pin⟩ hn
  cases hn
  refine PW_seq ?_
  -- region 0
  refine PW_region ?_
  refine P10 .none (S_assign rfl rfl) ?_
  refine Pend ?_
  refine PW_seq ?_
  -- region 1
  refine PW_region ?_
  refine P10 .none (S_move rfl rfl) ?_
  refine P10 .none (S_move rfl rfl) ?_
  refine P10 .none (S_move rfl rfl) ?_
  refine P10 .none (by first | exact S_lenR rfl rfl | exact S_lenO rfl rfl | exact S_lenN rfl rfl | exact S_lenS rfl rfl) ?_
  refine P00 .none (S_callG [(99, 12)] [(99, 12)] false hpk (.ptr rfl rfl rfl (.g rfl .nil)) ⟨rfl, trivial⟩ rfl (.inl rfl) rfl) ?_
  refine P10 .none (by first | exact S_indexR rfl rfl rfl (map_at hx) rfl rfl | exact S_indexO rfl rfl rfl rfl rfl (map_at hx) rfl) ?_
  refine P10 .none (by first | exact S_loadO1 rfl rfl rfl rfl rfl | exact S_loadR1 rfl rfl rfl | exact S_loadL1 rfl rfl rfl rfl rfl) ?_
  refine P10 .none (S_assign rfl rfl) ?_
  refine Pend ?_
  refine PW_ret ⟨.inr rfl, ?_⟩
  exact ret_G (.cons (by first | exact .frz (.tmp rfl) .nil | exact .raw (.tmp rfl) rfl | exact .frz (.tmp rfl) (ExZ.whole rfl rfl rfl) | exact .raw (.gnd rfl rfl rfl) rfl | exact .raw (.gnd rfl rfl (Plan.cells_len _)) rfl) .nil) (by rfl) (by unfold Rd; exact ⟨rfl, trivial⟩) rfl rfl
/- spec.cutsOf: 34 -> [3] -/
set_option maxRecDepth 100000 in
theorem ctr_s_cutsOf : ∀ (t : T), t.size ≤ 100000 → Ctr P 135 [.g (.agg t.plan.cells)] (.g (.int .i64 t.ncuts)) := by
  intro t
  induction t using T.ind with
  | _ t ih =>
  intro hl
  have hcut := ctr_s_isCut t.plan
  rw [isCut_T] at hcut
  generalize ht : t.plan = pl at hcut
  obtain ⟨op, a, pane, turned, kids⟩ := pl
  refine ctr_of (fn := Go.Proofs.Try.f135) (by kernel_rfl) rfl rfl ?_
  rintro ⟨n, w0, F0, M, pin⟩ hn
  cases hn
  refine PW_seq ?_
  -- region 0
  refine PW_region ?_
  refine P22 .none (by first | exact S_boxA rfl rfl rfl rfl | exact S_boxL rfl rfl rfl rfl rfl | exact S_boxA rfl (Plan.cells_len _) (Plan.cells_one _) rfl) ?_
  refine P10 .none (S_assign rfl rfl) ?_
  refine Pend ?_
  refine PW_seq ?_
  refine PW_seq ?_
  -- region 1
  refine PW_region ?_
  refine P10 .none (by first | exact S_loadOW rfl rfl rfl rfl rfl | exact S_loadRW rfl rfl rfl | exact S_loadLA rfl rfl rfl (Nat.le_of_ble_eq_true rfl) rfl | exact S_loadOA rfl rfl rfl (Nat.le_of_ble_eq_true rfl) rfl | exact S_loadRA rfl (Nat.le_of_ble_eq_true rfl) rfl | exact S_loadRW rfl (Plan.cells_len _) rfl | exact S_loadOW rfl rfl rfl (Plan.cells_len _) rfl) ?_
  refine P00 .none (S_call (.one rfl .nil) rfl hcut (.inl rfl) rfl) ?_
  refine P10 .none (S_not rfl rfl) ?_
  refine Pend ?_
  refine PW_cond rfl (fun h1 => ?_) (fun h1 => ?_)
  · -- t5
    refine PW_seq ?_
    -- region 2
    refine PW_region ?_
    refine P10 .none (S_assign rfl rfl) ?_
    refine Pend ?_
    refine PW_ret ⟨.inr rfl, ?_⟩
    exact ret_g (.cons (.tmp rfl) (.c (by first | exact .nil | exact .g _ | exact Ex.whole rfl rfl rfl)) .nil) (by match t, h1 with
      | .waste, _ => rfl
      | .pane n tu, _ => rfl) trivial
  · -- not t5
    refine PW_skip ?_
    refine PW_seq ?_
    obtain ⟨d, a', p, q, rfl⟩ : ∃ d a' p q, t = .cut d a' p q := by
      match t, h1 with
      | .cut d a' p q, _ => exact ⟨d, a', p, q, rfl⟩
    obtain ⟨ihp, ihq⟩ := ih d a' p q rfl
    have hkids : kids = [p.plan, q.plan] := by simp [T.plan] at ht; simp [ht]
    subst hkids
    simp only [T.size] at hl
    have htp := p.ncuts_le
    have htq := q.ncuts_le
    --region 3
    refine PW_draw (by kernel_rfl) ?_
    refine P10 .none (by first | exact S_fieldO rfl rfl rfl | exact S_fieldR rfl rfl rfl) ?_
    refine P10 .none (by first | exact S_loadO1 rfl rfl rfl rfl rfl | exact S_loadR1 rfl rfl rfl | exact S_loadL1 rfl rfl rfl rfl rfl) ?_
    refine P10 .none (by first | exact S_indexR rfl rfl (k := 0) rfl rfl rfl rfl | exact S_indexO rfl rfl rfl rfl (k := 0) rfl rfl rfl | exact S_indexR rfl rfl (k := 0) rfl rfl (Plan.cells_len _) rfl) ?_
    refine P10 .none (by first | exact S_loadOW rfl rfl rfl rfl rfl | exact S_loadRW rfl rfl rfl | exact S_loadLA rfl rfl rfl (Nat.le_of_ble_eq_true rfl) rfl | exact S_loadOA rfl rfl rfl (Nat.le_of_ble_eq_true rfl) rfl | exact S_loadRA rfl (Nat.le_of_ble_eq_true rfl) rfl | exact S_loadRW rfl (Plan.cells_len _) rfl | exact S_loadOW rfl rfl rfl (Plan.cells_len _) rfl) ?_
    refine P00 .none (S_call (.one rfl .nil) rfl (ihp (by omega)) (.inl rfl) rfl) ?_
    refine P10 .none (S_add rfl rfl rfl (And.intro (by omega) (by omega))) ?_
    refine P10 .none (by first | exact S_fieldO rfl rfl rfl | exact S_fieldR rfl rfl rfl) ?_
    refine P10 .none (by first | exact S_loadO1 rfl rfl rfl rfl rfl | exact S_loadR1 rfl rfl rfl | exact S_loadL1 rfl rfl rfl rfl rfl) ?_
    refine P10 .none (by first | exact S_indexR rfl rfl (k := 1) rfl rfl rfl rfl | exact S_indexO rfl rfl rfl rfl (k := 1) rfl rfl rfl | exact S_indexR rfl rfl (k := 1) rfl rfl (Plan.cells_len _) rfl) ?_
    refine P10 .none (by first | exact S_loadOW rfl rfl rfl rfl rfl | exact S_loadRW rfl rfl rfl | exact S_loadLA rfl rfl rfl (Nat.le_of_ble_eq_true rfl) rfl | exact S_loadOA rfl rfl rfl (Nat.le_of_ble_eq_true rfl) rfl | exact S_loadRA rfl (Nat.le_of_ble_eq_true rfl) rfl | exact S_loadRW rfl (Plan.cells_len _) rfl | exact S_loadOW rfl rfl rfl (Plan.cells_len _) rfl) ?_
    refine P00 .none (S_call (.one rfl .nil) rfl (ihq (by omega)) (.inl rfl) rfl) ?_
    refine P10 .none (S_add rfl rfl rfl (And.intro (by omega) (by omega))) ?_
    refine P10 .none (S_assign rfl rfl) ?_
    refine Pend ⟨by kernel_rfl, ?_⟩
    refine PW_ret ⟨.inr rfl, ?_⟩
    exact ret_g (.cons (.tmp rfl) (.c (by first | exact .nil | exact .g _ | exact Ex.whole rfl rfl rfl)) .nil) (by simp only [gres, T.ncuts]; simp) trivial
theorem pane_up (i : Int) (tu : Bool) : GUp (.agg [.int .i64 1, .int .i64 0, .int .i64 i, .bool tu, .nil]) (.agg (T.pane i tu).plan.cells) :=
  .agg (.cons (.refl _) (.cons (.refl _) (.cons (.refl _) (.cons (.refl _) (.cons .nil .nil)))))
theorem waste_up : GUp (.agg [.int .i64 0, .int .i64 0, .int .i64 0, .bool false, .nil]) (.agg T.waste.plan.cells) :=
  .agg (.cons (.refl _) (.cons (.refl _) (.cons (.refl _) (.cons (.refl _) (.cons .nil .nil)))))
end Go.Proofs.Ytdmlfhmnlddooaa
namespace Go.Proofs.Ytdmlfhmnlddooaa
open Go Go.Pu

def validBox (b : Box) : Bool := decide (1 ≤ b.w ∧ b.w ≤ 200 ∧ 1 ≤ b.h ∧ b.h ≤ 200 ∧ 0 ≤ b.x ∧ b.x ≤ 200 - b.w ∧ 0 ≤ b.y ∧ b.y ≤ 200 - b.h)
theorem validBox_iff {b : Box} : validBox b = true ↔ 1 ≤ b.w ∧ b.w ≤ 200 ∧ 1 ≤ b.h ∧ b.h ≤ 200 ∧ 0 ≤ b.x ∧ b.x ≤ 200 - b.w ∧ 0 ≤ b.y ∧ b.y ≤ 200 - b.h := by unfold validBox; exact decide_eq_true_iff
/-- What two boxes have in common. -/
def meet (a b : Box) : Option Box :=
  if validBox a = true ∧ validBox b = true ∧ max a.x b.x < min (a.x + a.w) (b.x + b.w) ∧ max a.y b.y < min (a.y + a.h) (b.y + b.h) then
    some ⟨max a.x b.x, max a.y b.y, min (a.x + a.w) (b.x + b.w) - max a.x b.x, min (a.y + a.h) (b.y + b.h) - max a.y b.y⟩ else none
def box0 : Box := ⟨0, 0, 0, 0⟩
def insideB (a b : Box) : Bool := decide (meet a b = some a)

/- impl.ValidBox: 102 -> [4] -/
set_option maxRecDepth 100000 in
theorem ctr_i_ValidBox (b : Box) : Ctr P 155 [.g (.agg b.cells)] (.g (.bool (validBox b))) := by
  refine ctr_of (fn := Go.Proofs.Try.f155) (by kernel_rfl) rfl rfl ?_
  rintro ⟨n, w0, F0, M, pin⟩ hn
  cases hn
  refine PW_seq ?_
  -- region 0
  refine PW_region ?_
  refine qBx .none ?_
  refine qMv .none ?_
  refine Pend ?_
  refine PW_seq ?_
  refine PW_seq ?_
  -- region 1
  refine PW_region ?_
  refine qFd .none ?_
  refine qLd .none ?_
  refine qCm .none ?_
  refine qMv .none ?_
  refine Psplit 6 rfl (fun h1 => ?_) (fun h1 => ?_)
  · -- t6 = true
    refine Pskip rfl rfl h1 rfl ?_
    refine Pskip rfl rfl h1 rfl ?_
    refine Pskip rfl rfl h1 rfl ?_
    refine P10 .none (S_pickT rfl h1 rfl rfl) ?_
    refine qMv .none ?_
    refine Pskip rfl rfl rfl rfl ?_
    refine Pskip rfl rfl rfl rfl ?_
    refine Pskip rfl rfl rfl rfl ?_
    refine P10 .none (S_pickT rfl rfl rfl rfl) ?_
    refine qMv .none ?_
    refine Pskip rfl rfl rfl rfl ?_
    refine Pskip rfl rfl rfl rfl ?_
    refine Pskip rfl rfl rfl rfl ?_
    refine P10 .none (S_pickT rfl rfl rfl rfl) ?_
    refine Pend ?_
    refine PW_condT rfl rfl ?_
    refine PW_seq ?_
    -- region 2
    refine PW_region ?_
    refine qMv .none ?_
    refine Pend ?_
    refine PW_ret ⟨.inr rfl, ?_⟩
    exact ret_g (.cons (.tmp rfl) (.c (by first | exact .nil | exact .g _ | exact Ex.whole rfl rfl rfl)) .nil) (by show GV.bool _ = GV.bool _; congr 1; unfold validBox; simp only [Bool.not_eq_true', Bool.not_eq_false', decide_eq_true_eq, decide_eq_false_iff_not] at h1; rw [Bool.eq_iff_iff]; simp only [Bool.not_eq_true', Bool.not_eq_false', decide_eq_true_eq, decide_eq_false_iff_not, true_iff, Bool.false_eq_true, false_iff, eq_self]; omega) trivial
  · -- t6 = false
    refine qFd (.yes rfl rfl h1) ?_
    refine qLd (.yes rfl rfl h1) ?_
    refine qCm (.yes rfl rfl h1) ?_
    refine P10 .none (S_pickF rfl h1 rfl rfl) ?_
    refine qMv .none ?_
    refine Psplit 11 rfl (fun h2 => ?_) (fun h2 => ?_)
    · -- t11 = true
      refine Pskip rfl rfl h2 rfl ?_
      refine Pskip rfl rfl h2 rfl ?_
      refine Pskip rfl rfl h2 rfl ?_
      refine P10 .none (S_pickT rfl h2 rfl rfl) ?_
      refine qMv .none ?_
      refine Pskip rfl rfl rfl rfl ?_
      refine Pskip rfl rfl rfl rfl ?_
      refine Pskip rfl rfl rfl rfl ?_
      refine P10 .none (S_pickT rfl rfl rfl rfl) ?_
      refine Pend ?_
      refine PW_condT rfl rfl ?_
      refine PW_seq ?_
      -- region 2
      refine PW_region ?_
      refine qMv .none ?_
      refine Pend ?_
      refine PW_ret ⟨.inr rfl, ?_⟩
      exact ret_g (.cons (.tmp rfl) (.c (by first | exact .nil | exact .g _ | exact Ex.whole rfl rfl rfl)) .nil) (by show GV.bool _ = GV.bool _; congr 1; unfold validBox; simp only [Bool.not_eq_true', Bool.not_eq_false', decide_eq_true_eq, decide_eq_false_iff_not] at h1 h2; rw [Bool.eq_iff_iff]; simp only [Bool.not_eq_true', Bool.not_eq_false', decide_eq_true_eq, decide_eq_false_iff_not, true_iff, Bool.false_eq_true, false_iff, eq_self]; omega) trivial
    · -- t11 = false
      refine qFd (.yes rfl rfl h2) ?_
      refine qLd (.yes rfl rfl h2) ?_
      refine qCm (.yes rfl rfl h2) ?_
      refine P10 .none (S_pickF rfl h2 rfl rfl) ?_
      refine qMv .none ?_
      refine Psplit 16 rfl (fun h3 => ?_) (fun h3 => ?_)
      · -- t16 = true
        refine Pskip rfl rfl h3 rfl ?_
        refine Pskip rfl rfl h3 rfl ?_
        refine Pskip rfl rfl h3 rfl ?_
        refine P10 .none (S_pickT rfl h3 rfl rfl) ?_
        refine Pend ?_
        refine PW_condT rfl rfl ?_
        refine PW_seq ?_
        -- region 2
        refine PW_region ?_
        refine qMv .none ?_
        refine Pend ?_
        refine PW_ret ⟨.inr rfl, ?_⟩
        exact ret_g (.cons (.tmp rfl) (.c (by first | exact .nil | exact .g _ | exact Ex.whole rfl rfl rfl)) .nil) (by show GV.bool _ = GV.bool _; congr 1; unfold validBox; simp only [Bool.not_eq_true', Bool.not_eq_false', decide_eq_true_eq, decide_eq_false_iff_not] at h1 h2 h3; rw [Bool.eq_iff_iff]; simp only [Bool.not_eq_true', Bool.not_eq_false', decide_eq_true_eq, decide_eq_false_iff_not, true_iff, Bool.false_eq_true, false_iff, eq_self]; omega) trivial
      · -- t16 = false
        refine qFd (.yes rfl rfl h3) ?_
        refine qLd (.yes rfl rfl h3) ?_
        refine qCm (.yes rfl rfl h3) ?_
        refine P10 .none (S_pickF rfl h3 rfl rfl) ?_
        refine Pend ?_
        refine PW_cond rfl (fun h4 => ?_) (fun h4 => ?_)
        · -- t20
          refine PW_seq ?_
          -- region 2
          refine PW_region ?_
          refine qMv .none ?_
          refine Pend ?_
          refine PW_ret ⟨.inr rfl, ?_⟩
          exact ret_g (.cons (.tmp rfl) (.c (by first | exact .nil | exact .g _ | exact Ex.whole rfl rfl rfl)) .nil) (by show GV.bool _ = GV.bool _; congr 1; unfold validBox; simp only [Bool.not_eq_true', Bool.not_eq_false', decide_eq_true_eq, decide_eq_false_iff_not] at h1 h2 h3 h4; rw [Bool.eq_iff_iff]; simp only [Bool.not_eq_true', Bool.not_eq_false', decide_eq_true_eq, decide_eq_false_iff_not, true_iff, Bool.false_eq_true, false_iff, eq_self]; omega) trivial
        · -- not t20
          refine PW_skip ?_
          refine PW_seq ?_
          have g1 := of_decide_eq_false h1
          have g2 := of_decide_eq_false h2
          have g3 := of_decide_eq_false h3
          have g4 := of_decide_eq_false h4
          --region 3
          refine PW_region ?_
          refine qFd .none ?_
          refine qLd .none ?_
          refine qCm .none ?_
          refine qMv .none ?_
          refine Psplit 24 rfl (fun h5 => ?_) (fun h5 => ?_)
          · -- t24 = true
            refine qFd (.yes rfl rfl h5) ?_
            refine qLd (.yes rfl rfl h5) ?_
            refine qFd (.yes rfl rfl h5) ?_
            refine qLd (.yes rfl rfl h5) ?_
            refine qSb (.yes rfl rfl h5) ?_
            refine qCm (.yes rfl rfl h5) ?_
            refine P10 .none (S_pickT rfl h5 rfl rfl) ?_
            refine qMv .none ?_
            refine Psplit 32 rfl (fun h6 => ?_) (fun h6 => ?_)
            · -- t32 = true
              refine qFd (.yes rfl rfl h6) ?_
              refine qLd (.yes rfl rfl h6) ?_
              refine qCm (.yes rfl rfl h6) ?_
              refine P10 .none (S_pickT rfl h6 rfl rfl) ?_
              refine qMv .none ?_
              refine Psplit 37 rfl (fun h7 => ?_) (fun h7 => ?_)
              · -- t37 = true
                refine qFd (.yes rfl rfl h7) ?_
                refine qLd (.yes rfl rfl h7) ?_
                refine qFd (.yes rfl rfl h7) ?_
                refine qLd (.yes rfl rfl h7) ?_
                refine qSb (.yes rfl rfl h7) ?_
                refine qCm (.yes rfl rfl h7) ?_
                refine P10 .none (S_pickT rfl h7 rfl rfl) ?_
                refine qMv .none ?_
                refine Pend ?_
                refine PW_ret ⟨.inr rfl, ?_⟩
                exact ret_g (.cons (.tmp rfl) (.c (by first | exact .nil | exact .g _ | exact Ex.whole rfl rfl rfl)) .nil) (by show GV.bool _ = GV.bool _; congr 1; unfold validBox; simp only [Bool.not_eq_true', Bool.not_eq_false', decide_eq_true_eq, decide_eq_false_iff_not] at h1 h2 h3 h4 h5 h6 h7; rw [Bool.eq_iff_iff]; simp only [Bool.not_eq_true', Bool.not_eq_false', decide_eq_true_eq, decide_eq_false_iff_not, true_iff, Bool.false_eq_true, false_iff, eq_self]; omega) trivial
              · -- t37 = false
                refine Pskip rfl rfl h7 rfl ?_
                refine Pskip rfl rfl h7 rfl ?_
                refine Pskip rfl rfl h7 rfl ?_
                refine Pskip rfl rfl h7 rfl ?_
                refine Pskip rfl rfl h7 rfl ?_
                refine Pskip rfl rfl h7 rfl ?_
                refine P10 .none (S_pickF rfl h7 rfl rfl) ?_
                refine qMv .none ?_
                refine Pend ?_
                refine PW_ret ⟨.inr rfl, ?_⟩
                exact ret_g (.cons (.tmp rfl) (.c (by first | exact .nil | exact .g _ | exact Ex.whole rfl rfl rfl)) .nil) (by show GV.bool _ = GV.bool _; congr 1; unfold validBox; simp only [Bool.not_eq_true', Bool.not_eq_false', decide_eq_true_eq, decide_eq_false_iff_not] at h1 h2 h3 h4 h5 h6 h7; rw [Bool.eq_iff_iff]; simp only [Bool.not_eq_true', Bool.not_eq_false', decide_eq_true_eq, decide_eq_false_iff_not, true_iff, Bool.false_eq_true, false_iff, eq_self]; omega) trivial
            · -- t32 = false
              refine Pskip rfl rfl h6 rfl ?_
              refine Pskip rfl rfl h6 rfl ?_
              refine Pskip rfl rfl h6 rfl ?_
              refine P10 .none (S_pickF rfl h6 rfl rfl) ?_
              refine qMv .none ?_
              refine Pskip rfl rfl rfl rfl ?_
              refine Pskip rfl rfl rfl rfl ?_
              refine Pskip rfl rfl rfl rfl ?_
              refine Pskip rfl rfl rfl rfl ?_
              refine Pskip rfl rfl rfl rfl ?_
              refine Pskip rfl rfl rfl rfl ?_
              refine P10 .none (S_pickF rfl rfl rfl rfl) ?_
              refine qMv .none ?_
              refine Pend ?_
              refine PW_ret ⟨.inr rfl, ?_⟩
              exact ret_g (.cons (.tmp rfl) (.c (by first | exact .nil | exact .g _ | exact Ex.whole rfl rfl rfl)) .nil) (by show GV.bool _ = GV.bool _; congr 1; unfold validBox; simp only [Bool.not_eq_true', Bool.not_eq_false', decide_eq_true_eq, decide_eq_false_iff_not] at h1 h2 h3 h4 h5 h6; rw [Bool.eq_iff_iff]; simp only [Bool.not_eq_true', Bool.not_eq_false', decide_eq_true_eq, decide_eq_false_iff_not, true_iff, Bool.false_eq_true, false_iff, eq_self]; omega) trivial
          · -- t24 = false
            refine Pskip rfl rfl h5 rfl ?_
            refine Pskip rfl rfl h5 rfl ?_
            refine Pskip rfl rfl h5 rfl ?_
            refine Pskip rfl rfl h5 rfl ?_
            refine Pskip rfl rfl h5 rfl ?_
            refine Pskip rfl rfl h5 rfl ?_
            refine P10 .none (S_pickF rfl h5 rfl rfl) ?_
            refine qMv .none ?_
            refine Pskip rfl rfl rfl rfl ?_
            refine Pskip rfl rfl rfl rfl ?_
            refine Pskip rfl rfl rfl rfl ?_
            refine P10 .none (S_pickF rfl rfl rfl rfl) ?_
            refine qMv .none ?_
            refine Pskip rfl rfl rfl rfl ?_
            refine Pskip rfl rfl rfl rfl ?_
            refine Pskip rfl rfl rfl rfl ?_
            refine Pskip rfl rfl rfl rfl ?_
            refine Pskip rfl rfl rfl rfl ?_
            refine Pskip rfl rfl rfl rfl ?_
            refine P10 .none (S_pickF rfl rfl rfl rfl) ?_
            refine qMv .none ?_
            refine Pend ?_
            refine PW_ret ⟨.inr rfl, ?_⟩
            exact ret_g (.cons (.tmp rfl) (.c (by first | exact .nil | exact .g _ | exact Ex.whole rfl rfl rfl)) .nil) (by show GV.bool _ = GV.bool _; congr 1; unfold validBox; simp only [Bool.not_eq_true', Bool.not_eq_false', decide_eq_true_eq, decide_eq_false_iff_not] at h1 h2 h3 h4 h5; rw [Bool.eq_iff_iff]; simp only [Bool.not_eq_true', Bool.not_eq_false', decide_eq_true_eq, decide_eq_false_iff_not, true_iff, Bool.false_eq_true, false_iff, eq_self]; omega) trivial
/- impl.MeetOf: 102, 102 -> [102, 4] -/
set_option maxRecDepth 100000 in
theorem ctr_i_MeetOf (a b : Box) : Ctr P 179 [.g (.agg a.cells), .g (.agg b.cells)] (.g (.tup [.agg ((meet a b).getD box0).cells, .bool (meet a b).isSome])) := by
  refine ctr_of (fn := Go.Proofs.Try.f179) (by kernel_rfl) rfl rfl ?_
  rintro ⟨n, w0, F0, M, pin⟩ hn
  cases hn
  refine PW_seq ?_
  -- region 0
  refine PW_region ?_
  refine qBx .none ?_
  refine qBx .none ?_
  refine qBx .none ?_
  refine qMv .none ?_
  refine Pend ?_
  refine PW_seq ?_
  refine PW_join (ι := Bool) (fun u1 => [(2, .c (.optr 2 0 0)), (3, .c (.optr 3 0 0)), (4, .c (.optr 4 0 0)), (17, .c (.g (.bool u1)))]) (fun u1 => [(2, ⟨102, 0, .gnd [a.cells]⟩), (3, ⟨102, 0, .gnd [b.cells]⟩), (4, ⟨102, 0, .gnd [[.int .i64 0, .int .i64 0, .int .i64 0, .int .i64 0]]⟩)]) (fun u1 => u1 = !(validBox a && validBox b)) ?_ (fun u1 hu1 => ?_)
  · skip
    -- region 1
    refine PW_region ?_
    refine qLd .none ?_
    refine P00 .none (S_call (.one rfl .nil) rfl (ctr_i_ValidBox a) (.inl rfl) rfl) ?_
    refine qCm .none ?_
    refine qMv .none ?_
    refine Psplit 13 rfl (fun h1 => ?_) (fun h1 => ?_)
    · -- t13 = true
      refine Pskip rfl rfl h1 rfl ?_
      refine Pskip rfl rfl h1 rfl ?_
      refine Pskip rfl rfl h1 rfl ?_
      refine P10 .none (S_pickT rfl h1 rfl rfl) ?_
      refine Pend ?_
      exact ⟨true, (by simp only [Bool.not_eq_true', Bool.not_eq_false'] at h1; simp [h1]), by repeat (first | exact trivial | refine And.intro rfl ?_ | refine And.intro (by show some (PV.c (LC.g _)) = some (PV.c (LC.g _)); simp only [*, decide_true, decide_false, eq_self, if_true, if_false, reduceIte, Bool.false_eq_true, Bool.and_false, Bool.false_and, Bool.true_and, Bool.and_true, Bool.or_true, Bool.true_or, Bool.false_or, Bool.or_false, Bool.not_true, Bool.not_false]) ?_), by repeat (first | exact trivial | refine And.intro rfl ?_ | refine And.intro (by show some (PV.c (LC.g _)) = some (PV.c (LC.g _)); simp only [*, decide_true, decide_false, eq_self, if_true, if_false, reduceIte, Bool.false_eq_true, Bool.and_false, Bool.false_and, Bool.true_and, Bool.and_true, Bool.or_true, Bool.true_or, Bool.false_or, Bool.or_false, Bool.not_true, Bool.not_false]) ?_)⟩
    · -- t13 = false
      refine qLd (.yes rfl rfl h1) ?_
      refine P00 (.yes rfl rfl h1) (S_call (.one rfl .nil) rfl (ctr_i_ValidBox b) (.inl rfl) rfl) ?_
      refine qCm (.yes rfl rfl h1) ?_
      refine P10 .none (S_pickF rfl h1 rfl rfl) ?_
      refine Pend ?_
      exact ⟨!validBox b, (by simp only [Bool.not_eq_true', Bool.not_eq_false'] at h1; simp [h1]), by repeat (first | exact trivial | refine And.intro rfl ?_ | refine And.intro (by show some (PV.c (LC.g _)) = some (PV.c (LC.g _)); simp only [*, decide_true, decide_false, eq_self, if_true, if_false, reduceIte, Bool.false_eq_true, Bool.and_false, Bool.false_and, Bool.true_and, Bool.and_true, Bool.or_true, Bool.true_or, Bool.false_or, Bool.or_false, Bool.not_true, Bool.not_false]) ?_), by repeat (first | exact trivial | refine And.intro rfl ?_ | refine And.intro (by show some (PV.c (LC.g _)) = some (PV.c (LC.g _)); simp only [*, decide_true, decide_false, eq_self, if_true, if_false, reduceIte, Bool.false_eq_true, Bool.and_false, Bool.false_and, Bool.true_and, Bool.and_true, Bool.or_true, Bool.true_or, Bool.false_or, Bool.or_false, Bool.not_true, Bool.not_false]) ?_)⟩
  · skip
    refine PW_cond rfl (fun h2 => ?_) (fun h2 => ?_)
    · -- t17
      refine PW_seq ?_
      -- region 2
      refine PW_region ?_
      refine P10 .none (S_build (gs := [_, _, _, _]) (.nil _) rfl rfl) ?_
      refine qSr .none ?_
      refine qMv .none ?_
      refine Pend ?_
      refine PW_ret ⟨.inr rfl, ?_⟩
      exact ret_g (.cons (by first | exact .gnd rfl rfl rfl | exact .gnd rfl rfl (Plan.cells_len _)) (.c (.g _)) (.cons (.tmp rfl) (.c (by first | exact .nil | exact .g _ | exact Ex.whole rfl rfl rfl)) .nil)) (by rw [show meet a b = none from if_neg (by rw [hu1] at h2; simp at h2; rintro ⟨g1, g2, _⟩; rcases h2 with h2 | h2 <;> simp [h2] at g1 g2)]; rfl) trivial
    · -- not t17
      refine PW_skip ?_
      refine PW_seq ?_
      have ha : validBox a = true ∧ validBox b = true := by rw [hu1] at h2; simpa using h2
      have ha1 := validBox_iff.1 ha.1
      have hb1 := validBox_iff.1 ha.2
      --region 3
      refine PW_draw (by kernel_rfl) ?_
      refine qFd .none ?_
      refine qLd .none ?_
      refine qFd .none ?_
      refine qLd .none ?_
      refine qCm .none ?_
      refine qFd .none ?_
      refine qLd .none ?_
      refine qFd .none ?_
      refine qLd .none ?_
      refine qAd .none ?_
      refine qFd .none ?_
      refine qLd .none ?_
      refine qFd .none ?_
      refine qLd .none ?_
      refine qAd .none ?_
      refine qCm .none ?_
      refine qMv .none ?_
      refine qMv .none ?_
      refine Pend ⟨by kernel_rfl, ?_⟩
      refine PW_seq ?_
      -- region 4
      refine PW_draw (by kernel_rfl) ?_
      refine qFd .none ?_
      refine qLd .none ?_
      refine qFd .none ?_
      refine qLd .none ?_
      refine qCm .none ?_
      refine qFd .none ?_
      refine qLd .none ?_
      refine qFd .none ?_
      refine qLd .none ?_
      refine qAd .none ?_
      refine qFd .none ?_
      refine qLd .none ?_
      refine qFd .none ?_
      refine qLd .none ?_
      refine qAd .none ?_
      refine qCm .none ?_
      refine qMv .none ?_
      refine qMv .none ?_
      refine Pend ⟨by kernel_rfl, ?_⟩
      refine PW_seq ?_
      refine PW_join (ι := Bool) (fun u5 => [(2, .c (.optr 2 0 0)), (3, .c (.optr 3 0 0)), (4, .c (.optr 4 0 0)), (6, .c (.g (.int .i64 (max a.x b.x)))), (7, .c (.g (.int .i64 (min (a.x + a.w) (b.x + b.w))))), (8, .c (.g (.int .i64 (max a.y b.y)))), (9, .c (.g (.int .i64 (min (a.y + a.h) (b.y + b.h))))), (58, .c (.g (.bool u5)))]) (fun u5 => [(2, ⟨102, 0, .gnd [a.cells]⟩), (3, ⟨102, 0, .gnd [b.cells]⟩), (4, ⟨102, 0, .gnd [[.int .i64 0, .int .i64 0, .int .i64 0, .int .i64 0]]⟩)]) (fun u5 => u5 = !decide (max a.x b.x < min (a.x + a.w) (b.x + b.w) ∧ max a.y b.y < min (a.y + a.h) (b.y + b.h))) ?_ (fun u5 hu5 => ?_)
      · skip
        -- region 5
        refine PW_region ?_
        refine qMv .none ?_
        refine qMv .none ?_
        refine qCm .none ?_
        refine qMv .none ?_
        refine Psplit 54 rfl (fun h3 => ?_) (fun h3 => ?_)
        · -- t54 = true
          refine Pskip rfl rfl h3 rfl ?_
          refine Pskip rfl rfl h3 rfl ?_
          refine Pskip rfl rfl h3 rfl ?_
          refine P10 .none (S_pickT rfl h3 rfl rfl) ?_
          refine Pend ?_
          exact ⟨true, (by simp only [Bool.not_eq_true', Bool.not_eq_false', decide_eq_true_eq, decide_eq_false_iff_not] at h2 h3; rw [Bool.eq_iff_iff]; simp only [Bool.not_eq_true', decide_eq_true_eq, decide_eq_false_iff_not, true_iff, Bool.false_eq_true, false_iff, eq_self]; omega), by repeat (first | exact trivial | refine And.intro rfl ?_ | refine And.intro (by show some (PV.c (LC.g _)) = some (PV.c (LC.g _)); simp only [*, decide_true, decide_false, eq_self, if_true, if_false, reduceIte, Bool.false_eq_true, Bool.and_false, Bool.false_and, Bool.true_and, Bool.and_true, Bool.or_true, Bool.true_or, Bool.false_or, Bool.or_false, Bool.not_true, Bool.not_false]) ?_), by repeat (first | exact trivial | refine And.intro rfl ?_ | refine And.intro (by show some (PV.c (LC.g _)) = some (PV.c (LC.g _)); simp only [*, decide_true, decide_false, eq_self, if_true, if_false, reduceIte, Bool.false_eq_true, Bool.and_false, Bool.false_and, Bool.true_and, Bool.and_true, Bool.or_true, Bool.true_or, Bool.false_or, Bool.or_false, Bool.not_true, Bool.not_false]) ?_)⟩
        · -- t54 = false
          refine qMv (.yes rfl rfl h3) ?_
          refine qMv (.yes rfl rfl h3) ?_
          refine qCm (.yes rfl rfl h3) ?_
          refine P10 .none (S_pickF rfl h3 rfl rfl) ?_
          refine Pend ?_
          exact ⟨decide (min (a.y + a.h) (b.y + b.h) ≤ max a.y b.y), (by simp only [Bool.not_eq_true', Bool.not_eq_false', decide_eq_true_eq, decide_eq_false_iff_not] at h2 h3; rw [Bool.eq_iff_iff]; simp only [Bool.not_eq_true', decide_eq_true_eq, decide_eq_false_iff_not, true_iff, Bool.false_eq_true, false_iff, eq_self]; omega), by repeat (first | exact trivial | refine And.intro rfl ?_ | refine And.intro (by show some (PV.c (LC.g _)) = some (PV.c (LC.g _)); simp only [*, decide_true, decide_false, eq_self, if_true, if_false, reduceIte, Bool.false_eq_true, Bool.and_false, Bool.false_and, Bool.true_and, Bool.and_true, Bool.or_true, Bool.true_or, Bool.false_or, Bool.or_false, Bool.not_true, Bool.not_false]) ?_), by repeat (first | exact trivial | refine And.intro rfl ?_ | refine And.intro (by show some (PV.c (LC.g _)) = some (PV.c (LC.g _)); simp only [*, decide_true, decide_false, eq_self, if_true, if_false, reduceIte, Bool.false_eq_true, Bool.and_false, Bool.false_and, Bool.true_and, Bool.and_true, Bool.or_true, Bool.true_or, Bool.false_or, Bool.or_false, Bool.not_true, Bool.not_false]) ?_)⟩
      · skip
        refine PW_cond rfl (fun h4 => ?_) (fun h4 => ?_)
        · -- t58
          refine PW_seq ?_
          -- region 6
          refine PW_region ?_
          refine P10 .none (S_build (gs := [_, _, _, _]) (.nil _) rfl rfl) ?_
          refine qSr .none ?_
          refine qMv .none ?_
          refine Pend ?_
          refine PW_ret ⟨.inr rfl, ?_⟩
          exact ret_g (.cons (by first | exact .gnd rfl rfl rfl | exact .gnd rfl rfl (Plan.cells_len _)) (.c (.g _)) (.cons (.tmp rfl) (.c (by first | exact .nil | exact .g _ | exact Ex.whole rfl rfl rfl)) .nil)) (by rw [show meet a b = none from if_neg (by rw [hu5] at h4; simp only [Bool.not_eq_true', decide_eq_false_iff_not] at h4; rintro ⟨_, _, g3⟩; exact h4 g3)]; rfl) trivial
        · -- not t58
          refine PW_skip ?_
          refine PW_seq ?_
          -- region 7
          refine PW_region ?_
          refine qMv .none ?_
          refine qMv .none ?_
          refine qMv .none ?_
          refine qMv .none ?_
          refine qSb .none ?_
          refine qMv .none ?_
          refine qMv .none ?_
          refine qSb .none ?_
          refine P10 .none (S_build (gs := [_, _, _, _]) (.one rfl rfl rfl rfl (.one rfl rfl rfl rfl (.one rfl rfl rfl rfl (.one rfl rfl rfl rfl (.nil _))))) rfl rfl) ?_
          refine qSr .none ?_
          refine qMv .none ?_
          refine Pend ?_
          refine PW_ret ⟨.inr rfl, ?_⟩
          exact ret_g (.cons (by first | exact .gnd rfl rfl rfl | exact .gnd rfl rfl (Plan.cells_len _)) (.c (.g _)) (.cons (.tmp rfl) (.c (by first | exact .nil | exact .g _ | exact Ex.whole rfl rfl rfl)) .nil)) (by rw [show meet a b = some _ from if_pos (by rw [hu5] at h4; simp only [Bool.not_eq_false', decide_eq_true_eq] at h4; exact ⟨ha.1, ha.2, h4⟩)]; rfl) trivial
/- impl.InsideOf: 102, 102 -> [4] -/
set_option maxRecDepth 100000 in
theorem ctr_i_InsideOf (a b : Box) : Ctr P 156 [.g (.agg a.cells), .g (.agg b.cells)] (.g (.bool (insideB a b))) := by
  have hm := ctr_i_MeetOf a b
  refine ctr_of (fn := Go.Proofs.Try.f156) (by kernel_rfl) rfl rfl ?_
  rintro ⟨n, w0, F0, M, pin⟩ hn
  cases hn
  refine PW_seq ?_
  -- region 0
  refine PW_region ?_
  refine qBx .none ?_
  refine qBx .none ?_
  refine qMv .none ?_
  refine Pend ?_
  refine PW_seq ?_
  -- region 1
  refine PW_region ?_
  refine qLd .none ?_
  refine qLd .none ?_
  refine P00 .none (S_call (.one rfl (.one rfl .nil)) rfl hm (.inl rfl) rfl) ?_
  refine qMv .none ?_
  refine qEx1 .none ?_
  refine qEx1 .none ?_
  refine qBx .none ?_
  refine qSr .none ?_
  refine qMv .none ?_
  refine Pend ?_
  refine PW_seq ?_
  -- region 2
  refine PW_region ?_
  refine qMv .none ?_
  refine qMv .none ?_
  refine Psplit 14 rfl (fun h1 => ?_) (fun h1 => ?_)
  · -- t14 = true
    refine qLd (.yes rfl rfl h1) ?_
    refine qLd (.yes rfl rfl h1) ?_
    refine P10 (.yes rfl rfl h1) (S_eqF (xs := Box.ints _) (ys := Box.ints _) rfl rfl rfl rfl rfl rfl rfl) ?_
    refine P10 .none (S_pickT rfl h1 rfl rfl) ?_
    refine qMv .none ?_
    refine Pend ?_
    refine PW_ret ⟨.inr rfl, ?_⟩
    exact ret_g (.cons (.tmp rfl) (.c (by first | exact .nil | exact .g _ | exact Ex.whole rfl rfl rfl)) .nil) (by show GV.bool _ = GV.bool _; rw [ints_dec]; unfold insideB; cases hx : meet a b with | none => rw [hx] at h1; cases h1 | some c => simp) trivial
  · -- t14 = false
    refine Pskip rfl rfl h1 rfl ?_
    refine Pskip rfl rfl h1 rfl ?_
    refine Pskip rfl rfl h1 rfl ?_
    refine P10 .none (S_pickF rfl h1 rfl rfl) ?_
    refine qMv .none ?_
    refine Pend ?_
    refine PW_ret ⟨.inr rfl, ?_⟩
    exact ret_g (.cons (.tmp rfl) (.c (by first | exact .nil | exact .g _ | exact Ex.whole rfl rfl rfl)) .nil) (by show GV.bool _ = GV.bool _; unfold insideB; cases hx : meet a b with | none => simp | some c => rw [hx] at h1; cases h1) trivial
end Go.Proofs.Ytdmlfhmnlddooaa
namespace Go.Proofs.Ytdmlfhmnlddooaa
open Go Go.Pu

def validBoxes (l : List Box) : Bool := decide (l.length ≤ 24) && l.all validBox
/-- No two boxes have a point in common. -/
def Apart (l : List Box) : Prop := l.Pairwise fun b a => meet a b = none
instance (l : List Box) : Decidable (Apart l) := by unfold Apart; infer_instance
def apartBoxes (l : List Box) : Bool := validBoxes l && decide (Apart l)
theorem apart_next {l : List Box} {i : Nat} {a : Box} (hx : l[i]? = some a) : Apart (l.take (i + 1)) ↔ Apart (l.take i) ∧ ∀ b ∈ l.take i, meet a b = none := by
  unfold Apart
  rw [List.take_add_one, hx, List.pairwise_append]
  simp
theorem apart_take {l : List Box} (h : Apart l) (i : Nat) : Apart (l.take i) := List.Pairwise.sublist (List.take_sublist i l) h
theorem box_at {l : List Box} {i : Nat} {n : Int} (h : decide ((i : Int) < (((l.map Box.cells).length : Nat) : Int)) = true) : ∃ x, l[i]? = some x := at_lt h

/- impl.validBoxes: 38 -> [4] -/
set_option maxRecDepth 100000 in
theorem ctr_i_validBoxes (l : List Box) (hl : l.length ≤ 100000000) : Ctr P 180 [.g (.sl (l.map Box.cells))] (.g (.bool (validBoxes l))) := by
  have hlen : (l.map Box.cells).length = l.length := List.length_map _
  refine ctr_of (fn := Go.Proofs.Try.f180) (by kernel_rfl) rfl rfl ?_
  rintro ⟨n, w0, F0, M, pin⟩ hn
  cases hn
  refine PW_seq ?_
  -- region 0
  refine PW_region ?_
  refine qMv .none ?_
  refine Pend ?_
  refine PW_seq ?_
  refine PW_seq ?_
  -- region 1
  refine PW_region ?_
  refine qMv .none ?_
  refine qLn .none ?_
  refine qCm .none ?_
  refine Pend ?_
  refine PW_cond rfl (fun h1 => ?_) (fun h1 => ?_)
  · -- t7
    refine PW_seq ?_
    -- region 2
    refine PW_region ?_
    refine qMv .none ?_
    refine Pend ?_
    refine PW_ret ⟨.inr rfl, ?_⟩
    exact ret_g (.cons (.tmp rfl) (.c (by first | exact .nil | exact .g _ | exact Ex.whole rfl rfl rfl)) .nil) (by show GV.bool _ = GV.bool _; have := of_decide_eq_true h1; unfold validBoxes; rw [decide_eq_false (by omega)]; rfl) trivial
  · -- not t7
    refine PW_skip ?_
    refine PW_seq ?_
    refine PW_seq ?_
    -- region 3
    refine PW_region ?_
    refine qMv .none ?_
    refine qLn .none ?_
    refine qMv .none ?_
    refine Pend ?_
    refine PW_block ?_
    refine PW_iter (ι := Nat) (fun i => [(8, .c (.g (.sl (l.map Box.cells)))), (9, .c (.g (.int .i64 (l.map Box.cells).length))), (10, .c (.g (.int .i64 (i : Nat))))]) (fun i => []) (fun i => i ≤ l.length ∧ (l.take i).all validBox = true) (fun i => l.length - i) 0 ⟨Nat.zero_le _, rfl⟩ (by repeat (first | exact trivial | refine And.intro rfl ?_)) (by repeat (first | exact trivial | refine And.intro rfl ?_)) (fun i hi => ?_)
    refine PW_seq ?_
    -- region 4
    refine PW_region ?_
    refine qCm .none ?_
    refine Pend ?_
    refine PW_seq ?_
    refine PW_cond rfl (fun h2 => ?_) (fun h2 => ?_)
    · -- t11
      refine PW_skip ?_
      refine PW_seq ?_
      refine PW_block ?_
      refine PW_seq ?_
      obtain ⟨x, hx⟩ := at_lt h2
      have hlt := (List.getElem?_eq_some_iff.1 hx).1
      --region 5
      refine PW_region ?_
      refine P10 .none (by first | exact S_indexR rfl rfl rfl (map_at hx) rfl rfl | exact S_indexO rfl rfl rfl rfl rfl (map_at hx) rfl) ?_
      refine qLd .none ?_
      refine qBx .none ?_
      refine qSr .none ?_
      refine Pend ?_
      refine PW_seq ?_
      -- region 6
      refine PW_region ?_
      refine qLd .none ?_
      refine P00 .none (S_call (.one rfl .nil) rfl (ctr_i_ValidBox x) (.inl rfl) rfl) ?_
      refine qCm .none ?_
      refine Pend ?_
      refine PW_cond rfl (fun h3 => ?_) (fun h3 => ?_)
      · -- t16
        refine PW_seq ?_
        -- region 7
        refine PW_region ?_
        refine qMv .none ?_
        refine Pend ?_
        refine PW_ret ⟨.inr rfl, ?_⟩
        exact ret_g (.cons (.tmp rfl) (.c (by first | exact .nil | exact .g _ | exact Ex.whole rfl rfl rfl)) .nil) (by show GV.bool _ = GV.bool _; unfold validBoxes; rw [all_not hx (by simpa using h3), Bool.and_false]) trivial
      · -- not t16
        refine PW_skip ?_
        -- region 8
        refine PW_region ?_
        refine qAd .none ?_
        refine qMv .none ?_
        refine Pend ?_
        exact ⟨i + 1, by omega, ⟨by show i + 1 ≤ l.length; omega, all_next hx hi.2 (by simpa using h3)⟩, (by repeat (first | exact trivial | refine And.intro rfl ?_)), trivial⟩
    · -- not t11
      refine PW_exit ?_
      refine PW_seq ?_
      -- region 9
      refine PW_region ?_
      refine qMv .none ?_
      refine Pend ?_
      refine PW_ret ⟨.inr rfl, ?_⟩
      exact ret_g (.cons (.tmp rfl) (.c (by first | exact .nil | exact .g _ | exact Ex.whole rfl rfl rfl)) .nil) (by show GV.bool _ = GV.bool _; have g1 := of_decide_eq_false h1; unfold validBoxes; rw [all_end (by simp at h2; omega) hi.2, decide_eq_true (by omega)]; rfl) trivial
/- impl.ApartBoxes: 38 -> [4] -/
set_option maxRecDepth 100000 in
theorem ctr_i_ApartBoxes (l : List Box) (hl : l.length ≤ 100000000) : Ctr P 158 [.g (.sl (l.map Box.cells))] (.g (.bool (apartBoxes l))) := by
  have hlen : (l.map Box.cells).length = l.length := List.length_map _
  refine ctr_of (fn := Go.Proofs.Try.f158) (by kernel_rfl) rfl rfl ?_
  rintro ⟨n, w0, F0, M, pin⟩ hn
  cases hn
  refine PW_seq ?_
  -- region 0
  refine PW_region ?_
  refine qMv .none ?_
  refine Pend ?_
  refine PW_seq ?_
  refine PW_seq ?_
  -- region 1
  refine PW_region ?_
  refine qMv .none ?_
  refine P00 .none (S_call (.one rfl .nil) rfl (ctr_i_validBoxes l hl) (.inl rfl) rfl) ?_
  refine qCm .none ?_
  refine Pend ?_
  refine PW_cond rfl (fun h1 => ?_) (fun h1 => ?_)
  · -- t11
    refine PW_seq ?_
    -- region 2
    refine PW_region ?_
    refine qMv .none ?_
    refine Pend ?_
    refine PW_ret ⟨.inr rfl, ?_⟩
    exact ret_g (.cons (.tmp rfl) (.c (by first | exact .nil | exact .g _ | exact Ex.whole rfl rfl rfl)) .nil) (by show GV.bool _ = GV.bool _; unfold apartBoxes; rw [show validBoxes l = false by simpa using h1]; rfl) trivial
  · -- not t11
    refine PW_skip ?_
    refine PW_seq ?_
    refine PW_seq ?_
    -- region 3
    refine PW_region ?_
    refine qMv .none ?_
    refine qLn .none ?_
    refine qMv .none ?_
    refine Pend ?_
    refine PW_block ?_
    refine PW_iter (ι := Nat) (fun i => [(0, .c (.g (.sl (l.map Box.cells)))), (12, .c (.g (.sl (l.map Box.cells)))), (13, .c (.g (.int .i64 (l.map Box.cells).length))), (14, .c (.g (.int .i64 (i : Nat))))]) (fun i => []) (fun i => i ≤ l.length ∧ Apart (l.take i)) (fun i => l.length - i) 0 ⟨Nat.zero_le _, List.Pairwise.nil⟩ (by repeat (first | exact trivial | refine And.intro rfl ?_)) (by repeat (first | exact trivial | refine And.intro rfl ?_)) (fun i hi => ?_)
    refine PW_seq ?_
    -- region 4
    refine PW_region ?_
    refine qCm .none ?_
    refine Pend ?_
    refine PW_seq ?_
    refine PW_cond rfl (fun h2 => ?_) (fun h2 => ?_)
    · -- t15
      refine PW_skip ?_
      refine PW_seq ?_
      refine PW_block ?_
      refine PW_seq ?_
      obtain ⟨x, hx⟩ := at_lt h2
      have hlt := (List.getElem?_eq_some_iff.1 hx).1
      have htl : (l.take i).length = i := by rw [List.length_take]; omega
      have htk : ((l.map Box.cells).drop 0).take (i - 0) = (l.take i).map Box.cells := by simp
      --region 5
      refine PW_region ?_
      refine qMv .none ?_
      refine P10 .none (by first | exact S_indexR rfl rfl rfl (map_at hx) rfl rfl | exact S_indexO rfl rfl rfl rfl rfl (map_at hx) rfl) ?_
      refine qLd .none ?_
      refine qBx .none ?_
      refine qMv .none ?_
      refine qSr .none ?_
      refine Pend ?_
      refine PW_seq ?_
      -- region 6
      refine PW_region ?_
      refine qMv .none ?_
      refine qMv .none ?_
      refine P10 .none (S_sliceR rfl (.dfl 0) (.giv (k := i) _ rfl rfl) (by omega) (by omega) (by simp [Box.cells]) rfl) ?_
      refine qLn .none ?_
      refine qMv .none ?_
      refine Pend ?_
      refine PW_block ?_
      refine PW_iter (ι := Nat) (fun j => [(0, .c (.g (.sl (l.map Box.cells)))), (12, .c (.g (.sl (l.map Box.cells)))), (13, .c (.g (.int .i64 (l.map Box.cells).length))), (14, .c (.g (.int .i64 (i : Nat)))), (4, .c (.optr 4 0 0)), (21, .c (.g (.sl ((l.take i).map Box.cells)))), (22, .c (.g (.int .i64 ((l.take i).map Box.cells).length))), (23, .c (.g (.int .i64 (j : Nat))))]) (fun j => [(4, ⟨102, 0, .gnd [x.cells]⟩)]) (fun j => j ≤ (l.take i).length ∧ ∀ b ∈ (l.take i).take j, meet x b = none) (fun j => (l.take i).length - j) 0 ⟨Nat.zero_le _, by simp⟩ (by rw [← htk]; repeat (first | exact trivial | refine And.intro rfl ?_)) (by repeat (first | exact trivial | refine And.intro rfl ?_)) (fun j hj => ?_)
      refine PW_seq ?_
      -- region 7
      refine PW_region ?_
      refine qCm .none ?_
      refine Pend ?_
      refine PW_seq ?_
      refine PW_cond rfl (fun h3 => ?_) (fun h3 => ?_)
      · -- t24
        refine PW_skip ?_
        refine PW_seq ?_
        refine PW_block ?_
        refine PW_seq ?_
        obtain ⟨y, hy⟩ := at_lt h3
        have hlt2 := (List.getElem?_eq_some_iff.1 hy).1
        have hmt := ctr_i_MeetOf x y
        --region 8
        refine PW_region ?_
        refine P10 .none (by first | exact S_indexR rfl rfl rfl (map_at hy) rfl rfl | exact S_indexO rfl rfl rfl rfl rfl (map_at hy) rfl) ?_
        refine qLd .none ?_
        refine qBx .none ?_
        refine qSr .none ?_
        refine Pend ?_
        refine PW_seq ?_
        -- region 9
        refine PW_region ?_
        refine qLd .none ?_
        refine qLd .none ?_
        refine P00 .none (S_call (.one rfl (.one rfl .nil)) rfl hmt (.inl rfl) rfl) ?_
        refine qMv .none ?_
        refine qEx1 .none ?_
        refine qEx1 .none ?_
        refine qBx .none ?_
        refine qSr .none ?_
        refine qMv .none ?_
        refine Pend ?_
        refine PW_seq ?_
        -- region 10
        refine PW_region ?_
        refine qMv .none ?_
        refine Pend ?_
        refine PW_cond rfl (fun h4 => ?_) (fun h4 => ?_)
        · -- t33
          refine PW_seq ?_
          -- region 11
          refine PW_region ?_
          refine qMv .none ?_
          refine Pend ?_
          refine PW_ret ⟨.inr rfl, ?_⟩
          exact ret_g (.cons (.tmp rfl) (.c (by first | exact .nil | exact .g _ | exact Ex.whole rfl rfl rfl)) .nil) (by show GV.bool _ = GV.bool _; unfold apartBoxes; rw [decide_eq_false (p := Apart l), Bool.and_false]; intro ha; have := ((apart_next hx).1 (apart_take ha (i + 1))).2 y (List.mem_of_getElem? hy); rw [this] at h4; cases h4) trivial
        · -- not t33
          refine PW_skip ?_
          -- region 12
          refine PW_region ?_
          refine qAd .none ?_
          refine qMv .none ?_
          refine Pend ?_
          exact ⟨j + 1, by omega, ⟨by show j + 1 ≤ _; omega, by intro b hb; rw [List.take_add_one, hy] at hb; rcases List.mem_append.1 hb with hb | hb; exact hj.2 b hb; simp at hb; subst hb; cases hm : meet x b with | none => rfl | some c => rw [hm] at h4; cases h4⟩, (by repeat (first | exact trivial | refine And.intro rfl ?_)), (by repeat (first | exact trivial | refine And.intro rfl ?_))⟩
      · -- not t24
        refine PW_exit ?_
        -- region 13
        refine PW_region ?_
        refine qAd .none ?_
        refine qMv .none ?_
        refine Pend ?_
        have hall : (l.take i).take j = l.take i := List.take_of_length_le (by have := of_decide_eq_false h3; rw [List.length_map] at this; have := hj.1; omega)
        have hj2 := hj.2
        rw [hall] at hj2
        exact ⟨i + 1, by omega, ⟨by show i + 1 ≤ l.length; omega, (apart_next hx).2 ⟨hi.2, hj2⟩⟩, (by repeat (first | exact trivial | refine And.intro rfl ?_)), trivial⟩
    · -- not t15
      refine PW_exit ?_
      refine PW_seq ?_
      -- region 14
      refine PW_region ?_
      refine qMv .none ?_
      refine Pend ?_
      refine PW_ret ⟨.inr rfl, ?_⟩
      exact ret_g (.cons (.tmp rfl) (.c (by first | exact .nil | exact .g _ | exact Ex.whole rfl rfl rfl)) .nil) (by show GV.bool _ = GV.bool _; have h9 := hi.2; rw [List.take_of_length_le (by simp at h2; omega)] at h9; unfold apartBoxes; rw [decide_eq_true h9, show validBoxes l = true by simpa using h1]; rfl) trivial
end Go.Proofs.Ytdmlfhmnlddooaa
namespace Go.Proofs.Ytdmlfhmnlddooaa
open Go Go.Pu

def spanV (b : Box) (d : Bool) : Int × Int := if d then (b.x, b.x + b.w) else (b.y, b.y + b.h)
def encS (s : Int × Int) : List GV := [.int .i64 s.1, .int .i64 s.2]
def touches (l : List (Int × Int)) (a : Int) : Bool := l.any fun s => decide (s.1 = a) || decide (s.2 = a)
def crosses (l : List (Int × Int)) (a : Int) : Bool := l.any fun s => decide (s.1 < a) && decide (a < s.2)
/-- The least number from a on, below 'to', at which a span begins or ends and that is inside of none. -/
def leastC (l : List (Int × Int)) (to : Int) : Nat → Int → Option Int
  | 0, _ => none
  | n + 1, a => if a < to then (if touches l a && !crosses l a then some a else leastC l to n (a + 1)) else none
def leastO (l : List (Int × Int)) (g : Int × Int) : Option Int := leastC l g.2 (g.2 - g.1).toNat (g.1 + 1)
def firstC (ps : List Box) (b : Box) : Option (Bool × Int) :=
  match leastO (ps.map (spanV · true)) (spanV b true) with
  | some a => some (true, a - b.x)
  | none => match leastO (ps.map (spanV · false)) (spanV b false) with
    | some a => some (false, a - b.y)
    | none => none
theorem leastC_in {l : List (Int × Int)} {to : Int} : ∀ {n : Nat} {a x : Int}, leastC l to n a = some x → a ≤ x ∧ x < to ∧ touches l x = true ∧ crosses l x = false := by
  intro n
  induction n with
  | zero => intro a x h; cases h
  | succ n ih =>
    intro a x h
    simp only [leastC] at h
    split at h
    · split at h
      · rename_i h1 h2
        cases h
        simp only [Bool.and_eq_true, Bool.not_eq_true'] at h2
        exact ⟨Int.le_refl _, h1, h2.1, h2.2⟩
      · obtain ⟨h1, h2, h3⟩ := ih h; exact ⟨by omega, h2, h3⟩
    · cases h
theorem any_end {α : Type} {l : List α} {f : α → Bool} {i : Nat} (hi : l.length ≤ i) : (l.take i).any f = l.any f := by rw [List.take_of_length_le hi]
def SpOk (s : Int × Int) : Prop := -1000000 ≤ s.1 ∧ s.1 ≤ 1000000 ∧ -1000000 ≤ s.2 ∧ s.2 ≤ 1000000

/- impl.spanOf: 102, 4 -> [208] -/
set_option maxRecDepth 100000 in
theorem ctr_i_spanOf (b : Box) (d : Bool) (hb : -1000000 ≤ b.x ∧ b.x ≤ 1000000 ∧ -1000000 ≤ b.y ∧ b.y ≤ 1000000 ∧ -1000000 ≤ b.w ∧ b.w ≤ 1000000 ∧ -1000000 ≤ b.h ∧ b.h ≤ 1000000) : Ctr P 189 [.g (.agg b.cells), .g (.bool d)] (.g (.agg (encS (spanV b d)))) := by
  refine ctr_of (fn := Go.Proofs.Try.f189) (by kernel_rfl) rfl rfl ?_
  rintro ⟨n, w0, F0, M, pin⟩ hn
  cases hn
  refine PW_seq ?_
  -- region 0
  refine PW_region ?_
  refine qBx .none ?_
  refine qBx .none ?_
  refine Pend ?_
  refine PW_seq ?_
  refine PW_seq ?_
  -- region 1
  refine PW_region ?_
  refine qMv .none ?_
  refine Pend ?_
  refine PW_cond rfl (fun h1 => ?_) (fun h1 => ?_)
  · -- t5
    refine PW_seq ?_
    -- region 2
    refine PW_region ?_
    refine qFd .none ?_
    refine qLd .none ?_
    refine qFd .none ?_
    refine qLd .none ?_
    refine qFd .none ?_
    refine qLd .none ?_
    refine qAd .none ?_
    refine P10 .none (S_build (gs := [_, _]) (.one rfl rfl rfl rfl (.one rfl rfl rfl rfl (.nil _))) rfl rfl) ?_
    refine qSr .none ?_
    refine Pend ?_
    refine PW_ret ⟨.inr rfl, ?_⟩
    exact ret_g (.cons (by first | exact .gnd rfl rfl rfl | exact .gnd rfl rfl (Plan.cells_len _)) (.c (.g _)) .nil) (by subst h1; rfl) trivial
  · -- not t5
    refine PW_skip ?_
    refine PW_seq ?_
    -- region 3
    refine PW_region ?_
    refine qFd .none ?_
    refine qLd .none ?_
    refine qFd .none ?_
    refine qLd .none ?_
    refine qFd .none ?_
    refine qLd .none ?_
    refine qAd .none ?_
    refine P10 .none (S_build (gs := [_, _]) (.one rfl rfl rfl rfl (.one rfl rfl rfl rfl (.nil _))) rfl rfl) ?_
    refine qSr .none ?_
    refine Pend ?_
    refine PW_ret ⟨.inr rfl, ?_⟩
    exact ret_g (.cons (by first | exact .gnd rfl rfl rfl | exact .gnd rfl rfl (Plan.cells_len _)) (.c (.g _)) .nil) (by subst h1; rfl) trivial
/- impl.leastCut: 206, 208 -> [3, 4] -/
set_option maxRecDepth 100000 in
theorem ctr_i_leastCut (l : List (Int × Int)) (g : Int × Int) (hl : l.length ≤ 100000) (hg : SpOk g) : Ctr P 190 [.g (.sl (l.map encS)), .g (.agg (encS g))] (.g (.tup [.int .i64 ((leastO l g).getD 0), .bool (leastO l g).isSome])) := by
  have hg' := hg
  unfold SpOk at hg'
  have hlen : (l.map encS).length = l.length := List.length_map _
  generalize hA : leastO l g = A
  refine ctr_of (fn := Go.Proofs.Try.f190) (by kernel_rfl) rfl rfl ?_
  rintro ⟨n, w0, F0, M, pin⟩ hn
  cases hn
  refine PW_seq ?_
  -- region 0
  refine PW_region ?_
  refine qBx .none ?_
  refine qMv .none ?_
  refine qMv .none ?_
  refine Pend ?_
  refine PW_seq ?_
  refine PW_seq ?_
  -- region 1
  refine PW_region ?_
  refine qFd .none ?_
  refine qLd .none ?_
  refine qAd .none ?_
  refine qMv .none ?_
  refine Pend ?_
  refine PW_block ?_
  refine PW_iter (ι := Int) (fun u => [(3, .c (.optr 3 0 0)), (0, .c (.g (.sl (l.map encS)))), (6, .c (.g (.int .i64 u)))]) (fun u => [(3, ⟨208, 0, .gnd [encS g]⟩)]) (fun u => g.1 + 1 ≤ u ∧ ∃ n : Nat, g.2 - u ≤ n ∧ leastC l g.2 n u = A) (fun u => (g.2 - u).toNat) (g.1 + 1) ⟨Int.le_refl _, _, by omega, hA⟩ (by repeat (first | exact trivial | refine And.intro rfl ?_)) (by repeat (first | exact trivial | refine And.intro rfl ?_)) (fun u hu => ?_)
  refine PW_seq ?_
  refine PW_seq ?_
  -- region 2
  refine PW_region ?_
  refine qMv .none ?_
  refine qFd .none ?_
  refine qLd .none ?_
  refine qCm .none ?_
  refine Pend ?_
  refine PW_cond rfl (fun h1 => ?_) (fun h1 => ?_)
  · -- t17
    refine PW_skip ?_
    refine PW_seq ?_
    refine PW_block ?_
    refine PW_seq ?_
    obtain ⟨hu1, n, hu2, hu3⟩ := hu
    have hlt := of_decide_eq_true h1
    obtain ⟨n, rfl⟩ : ∃ m, n = m + 1 := ⟨n - 1, by omega⟩
    simp only [leastC] at hu3
    rw [if_pos hlt] at hu3
    --region 4
    refine PW_region ?_
    refine qMv .none ?_
    refine qMv .none ?_
    refine Pend ?_
    refine PW_seq ?_
    refine PW_seq ?_
    -- region 5
    refine PW_region ?_
    refine qMv .none ?_
    refine qLn .none ?_
    refine qMv .none ?_
    refine Pend ?_
    refine PW_block ?_
    refine PW_iter (ι := Nat) (fun i => [(3, .c (.optr 3 0 0)), (0, .c (.g (.sl (l.map encS)))), (6, .c (.g (.int .i64 u))), (7, .c (.g (.bool (touches (l.take i) u)))), (8, .c (.g (.bool (crosses (l.take i) u)))), (20, .c (.g (.sl (l.map encS)))), (21, .c (.g (.int .i64 (l.map encS).length))), (22, .c (.g (.int .i64 (i : Nat))))]) (fun i => [(3, ⟨208, 0, .gnd [encS g]⟩)]) (fun i => i ≤ l.length) (fun i => l.length - i) 0 (Nat.zero_le _) (by repeat (first | exact trivial | refine And.intro rfl ?_)) (by repeat (first | exact trivial | refine And.intro rfl ?_)) (fun i hi => ?_)
    refine PW_seq ?_
    -- region 6
    refine PW_region ?_
    refine qCm .none ?_
    refine Pend ?_
    refine PW_seq ?_
    refine PW_cond rfl (fun h2 => ?_) (fun h2 => ?_)
    · -- t23
      refine PW_skip ?_
      obtain ⟨x, hx⟩ := at_lt h2
      have hlt2 := (List.getElem?_eq_some_iff.1 hx).1
      have htn : touches (l.take (i + 1)) u = (touches (l.take i) u || (decide (x.1 = u) || decide (x.2 = u))) := any_next hx
      have hcn : crosses (l.take (i + 1)) u = (crosses (l.take i) u || (decide (x.1 < u) && decide (u < x.2))) := any_next hx
      refine PW_join (ι := Unit) (fun _ => [(3, .c (.optr 3 0 0)), (0, .c (.g (.sl (l.map encS)))), (6, .c (.g (.int .i64 u))), (7, .c (.g (.bool (touches (l.take (i + 1)) u)))), (8, .c (.g (.bool (crosses (l.take (i + 1)) u)))), (20, .c (.g (.sl (l.map encS)))), (21, .c (.g (.int .i64 (l.map encS).length))), (22, .c (.g (.int .i64 (i : Nat))))]) (fun _ => [(3, ⟨208, 0, .gnd [encS g]⟩)]) (fun _ => True) ?_ (fun _ _ => ?_)
      ·
        refine PW_block ?_
        refine PW_seq ?_
        -- region 7
        refine PW_region ?_
        refine P10 .none (by first | exact S_indexR rfl rfl rfl (map_at hx) rfl rfl | exact S_indexO rfl rfl rfl rfl rfl (map_at hx) rfl) ?_
        refine qLd .none ?_
        refine qBx .none ?_
        refine qSr .none ?_
        refine Pend ?_
        refine PW_join (ι := Unit) (fun _ => [(3, .c (.optr 3 0 0)), (0, .c (.g (.sl (l.map encS)))), (6, .c (.g (.int .i64 u))), (7, .c (.g (.bool (touches (l.take (i + 1)) u)))), (8, .c (.g (.bool (crosses (l.take i) u)))), (20, .c (.g (.sl (l.map encS)))), (21, .c (.g (.int .i64 (l.map encS).length))), (22, .c (.g (.int .i64 (i : Nat)))), (10, .c (.optr 10 0 0))]) (fun _ => [(3, ⟨208, 0, .gnd [encS g]⟩), (10, ⟨208, 0, .gnd [encS x]⟩)]) (fun _ => True) ?_ (fun _ _ => ?_)
        ·
          refine PW_join (ι := Bool) (fun u8 => [(3, .c (.optr 3 0 0)), (0, .c (.g (.sl (l.map encS)))), (6, .c (.g (.int .i64 u))), (7, .c (.g (.bool (touches (l.take i) u)))), (8, .c (.g (.bool (crosses (l.take i) u)))), (20, .c (.g (.sl (l.map encS)))), (21, .c (.g (.int .i64 (l.map encS).length))), (22, .c (.g (.int .i64 (i : Nat)))), (10, .c (.optr 10 0 0)), (35, .c (.g (.bool u8)))]) (fun u8 => [(3, ⟨208, 0, .gnd [encS g]⟩), (10, ⟨208, 0, .gnd [encS x]⟩)]) (fun u8 => u8 = (decide (x.1 = u) || decide (x.2 = u))) ?_ (fun u8 hu8 => ?_)
          · skip
            -- region 8
            refine PW_region ?_
            refine qFd .none ?_
            refine qLd .none ?_
            refine qMv .none ?_
            refine qCm .none ?_
            refine qMv .none ?_
            refine Psplit 30 rfl (fun h3 => ?_) (fun h3 => ?_)
            · -- t30 = true
              refine Pskip rfl rfl h3 rfl ?_
              refine Pskip rfl rfl h3 rfl ?_
              refine Pskip rfl rfl h3 rfl ?_
              refine Pskip rfl rfl h3 rfl ?_
              refine P10 .none (S_pickT rfl h3 rfl rfl) ?_
              refine Pend ?_
              exact ⟨true, (by simp only [h2, h3, Bool.true_or, Bool.false_or, Bool.true_and, Bool.false_and]), by repeat (first | exact trivial | refine And.intro rfl ?_ | refine And.intro (by show some (PV.c (LC.g _)) = some (PV.c (LC.g _)); simp only [*, decide_true, decide_false, eq_self, if_true, if_false, reduceIte, Bool.false_eq_true, Bool.and_false, Bool.false_and, Bool.true_and, Bool.and_true, Bool.or_true, Bool.true_or, Bool.false_or, Bool.or_false, Bool.not_true, Bool.not_false]) ?_), by repeat (first | exact trivial | refine And.intro rfl ?_ | refine And.intro (by show some (PV.c (LC.g _)) = some (PV.c (LC.g _)); simp only [*, decide_true, decide_false, eq_self, if_true, if_false, reduceIte, Bool.false_eq_true, Bool.and_false, Bool.false_and, Bool.true_and, Bool.and_true, Bool.or_true, Bool.true_or, Bool.false_or, Bool.or_false, Bool.not_true, Bool.not_false]) ?_)⟩
            · -- t30 = false
              refine qFd (.yes rfl rfl h3) ?_
              refine qLd (.yes rfl rfl h3) ?_
              refine qMv (.yes rfl rfl h3) ?_
              refine qCm (.yes rfl rfl h3) ?_
              refine P10 .none (S_pickF rfl h3 rfl rfl) ?_
              refine Pend ?_
              exact ⟨decide (x.2 = u), (by simp only [h2, h3, Bool.true_or, Bool.false_or, Bool.true_and, Bool.false_and]), by repeat (first | exact trivial | refine And.intro rfl ?_ | refine And.intro (by show some (PV.c (LC.g _)) = some (PV.c (LC.g _)); simp only [*, decide_true, decide_false, eq_self, if_true, if_false, reduceIte, Bool.false_eq_true, Bool.and_false, Bool.false_and, Bool.true_and, Bool.and_true, Bool.or_true, Bool.true_or, Bool.false_or, Bool.or_false, Bool.not_true, Bool.not_false]) ?_), by repeat (first | exact trivial | refine And.intro rfl ?_ | refine And.intro (by show some (PV.c (LC.g _)) = some (PV.c (LC.g _)); simp only [*, decide_true, decide_false, eq_self, if_true, if_false, reduceIte, Bool.false_eq_true, Bool.and_false, Bool.false_and, Bool.true_and, Bool.and_true, Bool.or_true, Bool.true_or, Bool.false_or, Bool.or_false, Bool.not_true, Bool.not_false]) ?_)⟩
          · skip
            refine PW_cond rfl (fun h4 => ?_) (fun h4 => ?_)
            · -- t35
              -- region 9
              refine PW_region ?_
              refine qMv .none ?_
              refine Pend ?_
              rw [← hu8, h4, Bool.or_true] at htn
              exact ⟨(), trivial, (by rw [htn]; repeat (first | exact trivial | refine And.intro rfl ?_)), (by repeat (first | exact trivial | refine And.intro rfl ?_))⟩
            · -- not t35
              refine PW_skip ?_
              rw [← hu8, h4, Bool.or_false] at htn
              exact ⟨(), trivial, (by rw [htn]; repeat (first | exact trivial | refine And.intro rfl ?_)), (by repeat (first | exact trivial | refine And.intro rfl ?_))⟩
        ·
          refine PW_join (ι := Bool) (fun u10 => [(3, .c (.optr 3 0 0)), (0, .c (.g (.sl (l.map encS)))), (6, .c (.g (.int .i64 u))), (7, .c (.g (.bool (touches (l.take (i + 1)) u)))), (8, .c (.g (.bool (crosses (l.take i) u)))), (20, .c (.g (.sl (l.map encS)))), (21, .c (.g (.int .i64 (l.map encS).length))), (22, .c (.g (.int .i64 (i : Nat)))), (10, .c (.optr 10 0 0)), (45, .c (.g (.bool u10)))]) (fun u10 => [(3, ⟨208, 0, .gnd [encS g]⟩), (10, ⟨208, 0, .gnd [encS x]⟩)]) (fun u10 => u10 = (decide (x.1 < u) && decide (u < x.2))) ?_ (fun u10 hu10 => ?_)
          · skip
            -- region 10
            refine PW_region ?_
            refine qFd .none ?_
            refine qLd .none ?_
            refine qMv .none ?_
            refine qCm .none ?_
            refine qMv .none ?_
            refine Psplit 40 rfl (fun h5 => ?_) (fun h5 => ?_)
            · -- t40 = true
              refine qMv (.yes rfl rfl h5) ?_
              refine qFd (.yes rfl rfl h5) ?_
              refine qLd (.yes rfl rfl h5) ?_
              refine qCm (.yes rfl rfl h5) ?_
              refine P10 .none (S_pickT rfl h5 rfl rfl) ?_
              refine Pend ?_
              exact ⟨decide (u < x.2), (by simp only [h5, Bool.true_or, Bool.false_or, Bool.true_and, Bool.false_and]), by repeat (first | exact trivial | refine And.intro rfl ?_ | refine And.intro (by show some (PV.c (LC.g _)) = some (PV.c (LC.g _)); simp only [*, decide_true, decide_false, eq_self, if_true, if_false, reduceIte, Bool.false_eq_true, Bool.and_false, Bool.false_and, Bool.true_and, Bool.and_true, Bool.or_true, Bool.true_or, Bool.false_or, Bool.or_false, Bool.not_true, Bool.not_false]) ?_), by repeat (first | exact trivial | refine And.intro rfl ?_ | refine And.intro (by show some (PV.c (LC.g _)) = some (PV.c (LC.g _)); simp only [*, decide_true, decide_false, eq_self, if_true, if_false, reduceIte, Bool.false_eq_true, Bool.and_false, Bool.false_and, Bool.true_and, Bool.and_true, Bool.or_true, Bool.true_or, Bool.false_or, Bool.or_false, Bool.not_true, Bool.not_false]) ?_)⟩
            · -- t40 = false
              refine Pskip rfl rfl h5 rfl ?_
              refine Pskip rfl rfl h5 rfl ?_
              refine Pskip rfl rfl h5 rfl ?_
              refine Pskip rfl rfl h5 rfl ?_
              refine P10 .none (S_pickF rfl h5 rfl rfl) ?_
              refine Pend ?_
              exact ⟨false, (by simp only [h5, Bool.true_or, Bool.false_or, Bool.true_and, Bool.false_and]), by repeat (first | exact trivial | refine And.intro rfl ?_ | refine And.intro (by show some (PV.c (LC.g _)) = some (PV.c (LC.g _)); simp only [*, decide_true, decide_false, eq_self, if_true, if_false, reduceIte, Bool.false_eq_true, Bool.and_false, Bool.false_and, Bool.true_and, Bool.and_true, Bool.or_true, Bool.true_or, Bool.false_or, Bool.or_false, Bool.not_true, Bool.not_false]) ?_), by repeat (first | exact trivial | refine And.intro rfl ?_ | refine And.intro (by show some (PV.c (LC.g _)) = some (PV.c (LC.g _)); simp only [*, decide_true, decide_false, eq_self, if_true, if_false, reduceIte, Bool.false_eq_true, Bool.and_false, Bool.false_and, Bool.true_and, Bool.and_true, Bool.or_true, Bool.true_or, Bool.false_or, Bool.or_false, Bool.not_true, Bool.not_false]) ?_)⟩
          · skip
            refine PW_cond rfl (fun h6 => ?_) (fun h6 => ?_)
            · -- t45
              -- region 11
              refine PW_region ?_
              refine qMv .none ?_
              refine Pend ?_
              rw [← hu10, h6, Bool.or_true] at hcn
              exact ⟨(), trivial, (by rw [hcn]; repeat (first | exact trivial | refine And.intro rfl ?_)), (by repeat (first | exact trivial | refine And.intro rfl ?_))⟩
            · -- not t45
              refine PW_skip ?_
              rw [← hu10, h6, Bool.or_false] at hcn
              exact ⟨(), trivial, (by rw [hcn]; repeat (first | exact trivial | refine And.intro rfl ?_)), (by repeat (first | exact trivial | refine And.intro rfl ?_))⟩
      ·
        -- region 12
        refine PW_region ?_
        refine qAd .none ?_
        refine qMv .none ?_
        refine Pend ?_
        exact ⟨i + 1, by omega, (by show i + 1 ≤ l.length; omega), (by repeat (first | exact trivial | refine And.intro rfl ?_)), (by repeat (first | exact trivial | refine And.intro rfl ?_))⟩
    · -- not t23
      refine PW_exit ?_
      have hge : l.length ≤ i := by have := of_decide_eq_false h2; omega
      rw [show touches (l.take i) u = touches l u from any_end hge, show crosses (l.take i) u = crosses l u from any_end hge]
      refine PW_join (ι := Bool) (fun u13 => [(3, .c (.optr 3 0 0)), (0, .c (.g (.sl (l.map encS)))), (6, .c (.g (.int .i64 u))), (51, .c (.g (.bool u13)))]) (fun u13 => [(3, ⟨208, 0, .gnd [encS g]⟩)]) (fun u13 => u13 = (touches l u && !crosses l u)) ?_ (fun u13 hu13 => ?_)
      · skip
        -- region 13
        refine PW_region ?_
        refine qMv .none ?_
        refine qMv .none ?_
        refine Psplit 48 rfl (fun h7 => ?_) (fun h7 => ?_)
        · -- t48 = true
          refine qMv (.yes rfl rfl h7) ?_
          refine qCm (.yes rfl rfl h7) ?_
          refine P10 .none (S_pickT rfl h7 rfl rfl) ?_
          refine Pend ?_
          exact ⟨!crosses l u, (by simp only [h2, h7, Bool.true_or, Bool.false_or, Bool.true_and, Bool.false_and]), by repeat (first | exact trivial | refine And.intro rfl ?_ | refine And.intro (by show some (PV.c (LC.g _)) = some (PV.c (LC.g _)); simp only [*, decide_true, decide_false, eq_self, if_true, if_false, reduceIte, Bool.false_eq_true, Bool.and_false, Bool.false_and, Bool.true_and, Bool.and_true, Bool.or_true, Bool.true_or, Bool.false_or, Bool.or_false, Bool.not_true, Bool.not_false]) ?_), by repeat (first | exact trivial | refine And.intro rfl ?_ | refine And.intro (by show some (PV.c (LC.g _)) = some (PV.c (LC.g _)); simp only [*, decide_true, decide_false, eq_self, if_true, if_false, reduceIte, Bool.false_eq_true, Bool.and_false, Bool.false_and, Bool.true_and, Bool.and_true, Bool.or_true, Bool.true_or, Bool.false_or, Bool.or_false, Bool.not_true, Bool.not_false]) ?_)⟩
        · -- t48 = false
          refine Pskip rfl rfl h7 rfl ?_
          refine Pskip rfl rfl h7 rfl ?_
          refine P10 .none (S_pickF rfl h7 rfl rfl) ?_
          refine Pend ?_
          exact ⟨false, (by simp only [h2, h7, Bool.true_or, Bool.false_or, Bool.true_and, Bool.false_and]), by repeat (first | exact trivial | refine And.intro rfl ?_ | refine And.intro (by show some (PV.c (LC.g _)) = some (PV.c (LC.g _)); simp only [*, decide_true, decide_false, eq_self, if_true, if_false, reduceIte, Bool.false_eq_true, Bool.and_false, Bool.false_and, Bool.true_and, Bool.and_true, Bool.or_true, Bool.true_or, Bool.false_or, Bool.or_false, Bool.not_true, Bool.not_false]) ?_), by repeat (first | exact trivial | refine And.intro rfl ?_ | refine And.intro (by show some (PV.c (LC.g _)) = some (PV.c (LC.g _)); simp only [*, decide_true, decide_false, eq_self, if_true, if_false, reduceIte, Bool.false_eq_true, Bool.and_false, Bool.false_and, Bool.true_and, Bool.and_true, Bool.or_true, Bool.true_or, Bool.false_or, Bool.or_false, Bool.not_true, Bool.not_false]) ?_)⟩
      · skip
        refine PW_cond rfl (fun h8 => ?_) (fun h8 => ?_)
        · -- t51
          refine PW_seq ?_
          -- region 14
          refine PW_region ?_
          refine qMv .none ?_
          refine qMv .none ?_
          refine qMv .none ?_
          refine Pend ?_
          refine PW_ret ⟨.inr rfl, ?_⟩
          exact ret_g (.cons (.tmp rfl) (.c (by first | exact .nil | exact .g _ | exact Ex.whole rfl rfl rfl)) (.cons (.tmp rfl) (.c (by first | exact .nil | exact .g _ | exact Ex.whole rfl rfl rfl)) .nil)) (by rw [if_pos (hu13.symm.trans h8)] at hu3; rw [← hu3]; rfl) trivial
        · -- not t51
          refine PW_skip ?_
          -- region 3
          refine PW_region ?_
          refine qMv .none ?_
          refine qAd .none ?_
          refine qMv .none ?_
          refine Pend ?_
          rw [if_neg (by rw [hu13.symm.trans h8]; simp)] at hu3
          exact ⟨u + 1, by omega, ⟨by omega, n, by omega, hu3⟩, (by repeat (first | exact trivial | refine And.intro rfl ?_)), (by repeat (first | exact trivial | refine And.intro rfl ?_))⟩
  · -- not t17
    refine PW_exit ?_
    refine PW_seq ?_
    -- region 15
    refine PW_region ?_
    refine qMv .none ?_
    refine qMv .none ?_
    refine Pend ?_
    refine PW_ret ⟨.inr rfl, ?_⟩
    exact ret_g (.cons (.tmp rfl) (.c (by first | exact .nil | exact .g _ | exact Ex.whole rfl rfl rfl)) (.cons (.tmp rfl) (.c (by first | exact .nil | exact .g _ | exact Ex.whole rfl rfl rfl)) .nil)) (by obtain ⟨hu1, n, hu2, hu3⟩ := hu; have hge := of_decide_eq_false h1; have : A = none := (by rw [← hu3]; cases n with | zero => rfl | succ n => simp only [leastC]; rw [if_neg hge]); rw [this]; rfl) trivial
end Go.Proofs.Ytdmlfhmnlddooaa
namespace Go.Proofs.Ytdmlfhmnlddooaa
open Go Go.Pu

def cutG : Option (Bool × Int) → GV
  | some (d, a) => .tup [.agg [.int .i64 (if d then 2 else 3), .int .i64 a, .int .i64 0, .bool false, .nil], .bool true]
  | none => .tup [.agg [.int .i64 0, .int .i64 0, .int .i64 0, .bool false, .nil], .bool false]
def opV (i : Nat) : Int := if i = 0 then 2 else 3
theorem ib_flat {n : Int} {b : Bool} : (GV.tup [.int .i64 n, .bool b]).Flat := flat_tup (by intro x hx; simp only [List.mem_cons, List.not_mem_nil, or_false] at hx; rcases hx with rfl | rfl; exact flat_int _ _; exact flat_bool _)
theorem spanV_ok {b : Box} {d : Bool} (h : BoxOk b) : SpOk (spanV b d) := by
  unfold BoxOk at h; unfold SpOk spanV
  cases d
  · simp only [Bool.false_eq_true, if_false]; omega
  · simp only [if_true]; omega
theorem leastO_in {l : List (Int × Int)} {g : Int × Int} {x : Int} (h : leastO l g = some x) : g.1 + 1 ≤ x ∧ x < g.2 ∧ touches l x = true ∧ crosses l x = false := leastC_in h

/- impl.firstCut: 45, 102 -> [34, 4] -/
set_option maxRecDepth 100000 in
theorem ctr_i_firstCut (ps : List Place) (b : Box) (hl : ps.length ≤ 100000) (hps : ∀ p ∈ ps, BoxOk p.box) (hb : BoxOk b) : Ctr P 181 [.g (.sl (ps.map Place.cells)), .g (.agg b.cells)] (.g (cutG (firstC (ps.map (·.box)) b))) := by
  have hbb := hb
  unfold BoxOk at hbb
  have hlen : (ps.map Place.cells).length = ps.length := List.length_map _
  have hfc : ∀ d, leastO ((ps.map (·.box)).map (spanV · d)) (spanV b d) = leastO (ps.map fun p => spanV p.box d) (spanV b d) := fun d => by rw [List.map_map]; rfl
  unfold firstC
  rw [hfc, hfc]
  refine ctr_of (fn := Go.Proofs.Try.f181) (by kernel_rfl) rfl rfl ?_
  rintro ⟨n, w0, F0, M, pin⟩ hn
  cases hn
  refine PW_seq ?_
  -- region 0
  refine PW_region ?_
  refine qBx .none ?_
  refine qBx .none ?_
  refine qMv .none ?_
  refine Pend ?_
  refine PW_seq ?_
  refine PW_seq ?_
  -- region 1
  refine PW_region ?_
  refine P22 .none (S_lit (.one rfl rfl rfl (.one rfl rfl rfl (.nil _))) rfl rfl rfl) ?_
  refine qLn .none ?_
  refine qMv .none ?_
  refine Pend ?_
  refine PW_block ?_
  refine PW_iter (ι := Nat) (fun i => [(0, .c (.g (.sl (ps.map Place.cells)))), (3, .c (.optr 3 0 0)), (4, .c (.optr 4 0 0)), (14, .c (.osl 14 0 2)), (15, .c (.g (.int .i64 2))), (16, .c (.g (.int .i64 (i : Nat))))]) (fun i => [(3, ⟨102, 0, .gnd [b.cells]⟩), (4, ⟨34, 0, .gnd [[.int .i64 0, .int .i64 0, .int .i64 0, .bool false, .nil]]⟩), (14, ⟨3, 0, .gnd [[.int .i64 2], [.int .i64 3]]⟩)]) (fun i => i ≤ 2 ∧ (1 ≤ i → leastO (ps.map fun p => spanV p.box true) (spanV b true) = none) ∧ (2 ≤ i → leastO (ps.map fun p => spanV p.box false) (spanV b false) = none)) (fun i => 2 - i) 0 ⟨by omega, by omega, by omega⟩ (by repeat (first | exact trivial | refine And.intro rfl ?_)) (by repeat (first | exact trivial | refine And.intro rfl ?_)) (fun i hi => ?_)
  refine PW_seq ?_
  -- region 2
  refine PW_region ?_
  refine qCm .none ?_
  refine Pend ?_
  refine PW_seq ?_
  refine PW_cond rfl (fun h1 => ?_) (fun h1 => ?_)
  · -- t17
    refine PW_skip ?_
    refine PW_seq ?_
    refine PW_block ?_
    refine PW_seq ?_
    obtain ⟨hi0, hi1, hi2⟩ := hi
    have hlt : i < 2 := by have := of_decide_eq_true h1; omega
    have hop : ([[.int .i64 2], [.int .i64 3]] : List (List GV))[0 + i]? = some [.int .i64 (opV i)] := by
      rcases (by omega : i = 0 ∨ i = 1) with rfl | rfl <;> rfl
    --region 3
    refine PW_region ?_
    refine P10 .none (S_indexO rfl rfl rfl rfl (k := i) rfl hlt rfl) ?_
    refine P10 .none (S_loadO1 rfl rfl hop rfl rfl) ?_
    refine qMv .none ?_
    refine Pend ?_
    refine PW_seq ?_
    -- region 4
    refine PW_region ?_
    refine qMv .none ?_
    refine Pend ?_
    refine PW_seq ?_
    refine PW_seq ?_
    refine PW_nil 8 8 208 rfl rfl ?_
    --region 5
    refine PW_region ?_
    refine qMv .none ?_
    refine qLn .none ?_
    refine qMv .none ?_
    refine Pend ?_
    refine PW_block ?_
    refine PW_iter (ι := Nat) (fun j => [(0, .c (.g (.sl (ps.map Place.cells)))), (3, .c (.optr 3 0 0)), (4, .c (.optr 4 0 0)), (14, .c (.osl 14 0 2)), (15, .c (.g (.int .i64 2))), (16, .c (.g (.int .i64 (i : Nat)))), (7, .c (.g (.int .i64 (opV i)))), (8, .c (.osl 8 0 (((ps.take j).map fun p => spanV p.box (decide (opV i = 2))).map encS).length)), (20, .c (.g (.sl (ps.map Place.cells)))), (21, .c (.g (.int .i64 (ps.map Place.cells).length))), (22, .c (.g (.int .i64 (j : Nat))))]) (fun j => [(3, ⟨102, 0, .gnd [b.cells]⟩), (4, ⟨34, 0, .gnd [[.int .i64 0, .int .i64 0, .int .i64 0, .bool false, .nil]]⟩), (14, ⟨3, 0, .gnd [[.int .i64 2], [.int .i64 3]]⟩), (8, ⟨208, 0, .gnd (((ps.take j).map fun p => spanV p.box (decide (opV i = 2))).map encS)⟩)]) (fun j => j ≤ ps.length) (fun j => ps.length - j) 0 (Nat.zero_le _) (by repeat (first | exact trivial | refine And.intro rfl ?_)) (by repeat (first | exact trivial | refine And.intro rfl ?_)) (fun j hj => ?_)
    refine PW_seq ?_
    -- region 6
    refine PW_region ?_
    refine qCm .none ?_
    refine Pend ?_
    refine PW_seq ?_
    refine PW_cond rfl (fun h2 => ?_) (fun h2 => ?_)
    · -- t23
      refine PW_skip ?_
      refine PW_seq ?_
      refine PW_block ?_
      refine PW_seq ?_
      obtain ⟨x, hx⟩ := at_lt h2
      have hlt2 := (List.getElem?_eq_some_iff.1 hx).1
      have hxo := hps x (List.mem_of_getElem? hx)
      have hxo2 := hxo
      unfold BoxOk at hxo2
      have hsp := ctr_i_spanOf x.box (decide (opV i = 2)) (by omega)
      have hnx := map_next (f := fun p : Place => spanV p.box (decide (opV i = 2))) hx
      have htl : (ps.take j).length = j := by rw [List.length_take]; omega
      --region 7
      refine PW_region ?_
      refine P10 .none (by first | exact S_indexR rfl rfl rfl (map_at hx) rfl rfl | exact S_indexO rfl rfl rfl rfl rfl (map_at hx) rfl) ?_
      refine qLd .none ?_
      refine qBx .none ?_
      refine qSr .none ?_
      refine Pend ?_
      -- region 8
      refine PW_region ?_
      refine qMv .none ?_
      refine qFd .none ?_
      refine qLd .none ?_
      refine qMv .none ?_
      refine qCm .none ?_
      refine P00 .none (S_call (.one rfl (.one rfl .nil)) rfl hsp (.inl rfl) rfl) ?_
      refine P22 .none (S_lit (.agg rfl rfl rfl (.nil _)) rfl rfl rfl) ?_
      refine P22 .none (S_appW rfl rfl rfl rfl (.ownW rfl rfl rfl) (fun l hl => by simp only [List.mem_singleton] at hl; subst hl; rfl) rfl (by omega) (by simp; omega) rfl) ?_
      refine qMv .none ?_
      refine Pend ?_
      -- region 9
      refine PW_region ?_
      refine qAd .none ?_
      refine qMv .none ?_
      refine Pend ?_
      exact ⟨j + 1, by omega, (by show j + 1 ≤ ps.length; omega), (by rw [hnx, List.map_append, List.length_append]; repeat (first | exact trivial | refine And.intro rfl ?_)), (by rw [hnx, List.map_append]; repeat (first | exact trivial | refine And.intro rfl ?_))⟩
    · -- not t23
      refine PW_exit ?_
      refine PW_seq ?_
      have hge : ps.length ≤ j := by have := of_decide_eq_false h2; omega
      rw [List.take_of_length_le hge]
      have hsp := ctr_i_spanOf b (decide (opV i = 2)) (by omega)
      have hlc := ctr_i_leastCut (ps.map fun p => spanV p.box (decide (opV i = 2))) (spanV b (decide (opV i = 2))) (by simp; omega) (spanV_ok hb)
      --region 10
      refine PW_region ?_
      refine qLd .none ?_
      refine qMv .none ?_
      refine qCm .none ?_
      refine P00 .none (S_call (.one rfl (.one rfl .nil)) rfl hsp (.inl rfl) rfl) ?_
      refine qBx .none ?_
      refine qSr .none ?_
      refine Pend ?_
      refine PW_seq ?_
      -- region 11
      refine PW_region ?_
      refine qMv .none ?_
      refine qLd .none ?_
      refine P00 .none (S_call (.borw rfl rfl rfl (.one rfl .nil)) rfl hlc (.inr ⟨ib_flat, by simp [XA.Flat]⟩) rfl) ?_
      refine qMv .none ?_
      refine qEx1 .none ?_
      refine qEx1 .none ?_
      refine qMv .none ?_
      refine qMv .none ?_
      refine Pend ?_
      refine PW_seq ?_
      -- region 12
      refine PW_region ?_
      refine qMv .none ?_
      refine Pend ?_
      refine PW_cond rfl (fun h3 => ?_) (fun h3 => ?_)
      · -- t45
        refine PW_seq ?_
        obtain ⟨a, ha⟩ := Option.isSome_iff_exists.1 h3
        have hin := leastO_in ha
        rw [ha, Option.getD_some]
        have hso : SpOk (spanV b (decide (opV i = 2))) := spanV_ok hb
        unfold SpOk at hso
        --region 13
        refine PW_region ?_
        refine qMv .none ?_
        refine qMv .none ?_
        refine qFd .none ?_
        refine qLd .none ?_
        refine qSb .none ?_
        refine P10 .none (S_build (gs := [_, _, _, _, _]) (.one rfl rfl rfl rfl (.one rfl rfl rfl rfl (.nil _))) rfl rfl) ?_
        refine P01 .none (by first | exact S_storeW rfl rfl rfl rfl rfl rfl | exact S_storeWe rfl rfl rfl HK rfl rfl rfl | exact S_storeP rfl rfl rfl rfl rfl (Nat.le_of_ble_eq_true rfl) | exact S_storeLW rfl rfl rfl rfl rfl rfl rfl | exact S_storeW rfl rfl rfl (Plan.cells_one _) (Plan.cells_len _) rfl) ?_
        refine qMv .none ?_
        refine Pend ?_
        refine PW_ret ⟨.inr rfl, ?_⟩
        exact ret_g (.cons (by first | exact .gnd rfl rfl rfl | exact .gnd rfl rfl (Plan.cells_len _)) (.c (.g _)) (.cons (.tmp rfl) (.c (by first | exact .nil | exact .g _ | exact Ex.whole rfl rfl rfl)) .nil)) (by rcases (by omega : i = 0 ∨ i = 1) with rfl | rfl; rw [show leastO (ps.map fun p => spanV p.box true) (spanV b true) = some a from ha]; rfl; rw [hi1 (by omega), show leastO (ps.map fun p => spanV p.box false) (spanV b false) = some a from ha]; rfl) trivial
      · -- not t45
        refine PW_skip ?_
        -- region 14
        refine PW_region ?_
        refine qAd .none ?_
        refine qMv .none ?_
        refine Pend ?_
        have hno : leastO (ps.map fun p => spanV p.box (decide (opV i = 2))) (spanV b (decide (opV i = 2))) = none := by simpa using h3
        exact ⟨i + 1, by omega, (by rcases (by omega : i = 0 ∨ i = 1) with rfl | rfl; exact ⟨by omega, fun _ => hno, by omega⟩; exact ⟨by omega, fun _ => hi1 (by omega), fun _ => hno⟩), (by repeat (first | exact trivial | refine And.intro rfl ?_)), (by repeat (first | exact trivial | refine And.intro rfl ?_))⟩
  · -- not t17
    refine PW_exit ?_
    refine PW_seq ?_
    -- region 15
    refine PW_region ?_
    refine P10 .none (S_build (gs := [_, _, _, _, _]) (.nil _) rfl rfl) ?_
    refine P01 .none (by first | exact S_storeW rfl rfl rfl rfl rfl rfl | exact S_storeWe rfl rfl rfl HK rfl rfl rfl | exact S_storeP rfl rfl rfl rfl rfl (Nat.le_of_ble_eq_true rfl) | exact S_storeLW rfl rfl rfl rfl rfl rfl rfl | exact S_storeW rfl rfl rfl (Plan.cells_one _) (Plan.cells_len _) rfl) ?_
    refine qMv .none ?_
    refine Pend ?_
    refine PW_ret ⟨.inr rfl, ?_⟩
    exact ret_g (.cons (by first | exact .gnd rfl rfl rfl | exact .gnd rfl rfl (Plan.cells_len _)) (.c (.g _)) (.cons (.tmp rfl) (.c (by first | exact .nil | exact .g _ | exact Ex.whole rfl rfl rfl)) .nil)) (by obtain ⟨hi0, hi1, hi2⟩ := hi; have := of_decide_eq_false h1; rw [hi1 (by omega), hi2 (by omega)]; rfl) trivial
end Go.Proofs.Ytdmlfhmnlddooaa
namespace Go.Proofs.Ytdmlfhmnlddooaa
open Go Go.Pu
theorem filter_le2 {α : Type} {l : List α} {f : α → Bool} (i : Nat) : ((l.take i).filter f).length ≤ l.length := Nat.le_trans (List.length_filter_le _ _) (by simp; omega)

def baseP (ps : List Place) (b : Box) (r : Option T) : Option T :=
  match ps with
  | [] => some .waste
  | p :: _ => if p.box = b then some (.pane p.pane p.turned) else r
def cutR (r : List Place → Box → Option T) (ps : List Place) (b : Box) : Option T :=
  match firstC (ps.map (·.box)) b with
  | none => none
  | some (d, a) =>
    match r (ps.filter fun p => insideB p.box (splitB d a b).1) (splitB d a b).1 with
    | none => none
    | some p => match r (ps.filter fun p => !insideB p.box (splitB d a b).1) (splitB d a b).2 with
      | none => none
      | some q => some (.cut d a p q)
/-- A plan for places on glass, if the search finds one. -/
def planP : Nat → List Place → Box → Option T
  | 0, ps, b => baseP ps b none
  | n + 1, ps, b => baseP ps b (cutR (planP n) ps b)
def planPV (o : Option T) : PV := .tup [(false, [.g (.agg (o.getD .waste).plan.cells)]), (false, [.g (.bool o.isSome)])]
theorem firstC_in {l : List Box} {b : Box} {d : Bool} {a : Int} (h : firstC l b = some (d, a)) : 1 ≤ a ∧ a < if d then b.w else b.h := by
  unfold firstC at h
  split at h
  · rename_i x hx
    have := leastO_in hx
    cases h
    simp only [spanV, if_true] at this ⊢
    omega
  · split at h
    · rename_i x hx
      have := leastO_in hx
      cases h
      simp only [spanV, Bool.false_eq_true, if_false] at this ⊢
      omega
    · cases h
theorem cut_up (op a : Int) : GUp (.agg [.int .i64 op, .int .i64 a, .int .i64 0, .bool false, .nil]) (.agg (Plan.mk op a 0 false []).cells) :=
  .agg (.cons (.refl _) (.cons (.refl _) (.cons (.refl _) (.cons (.refl _) (.cons .nil .nil)))))
theorem splitBox_d (d : Bool) (a : Int) (b : Box) : splitBox (.mk (if d then 2 else 3) a 0 false []) b = splitB d a b := by cases d <;> simp [splitBox, splitB, Plan.op, Plan.a]
theorem place_one (p : Place) : p.cells.all GV.one = true := rfl

/- impl.cutPlaces: 45, 102 -> [34, 4] -/
set_option maxRecDepth 100000 in
theorem ctr_cut_none (ps : List Place) (b : Box) (hl : ps.length ≤ 100000) (hps : ∀ p ∈ ps, BoxOk p.box) (hb : BoxOk b) (r : List Place → Box → Option T) (hf : firstC (ps.map (·.box)) b = none) : CtrG P 159 73 [.c (.g (.sl (ps.map Place.cells))), .c (.g (.agg b.cells))] [] (planPV (cutR r ps b)) [] := by
  have hfc := ctr_i_firstCut ps b hl hps hb
  rw [hf] at hfc
  have hR : cutR r ps b = none := by unfold cutR; rw [hf]
  rw [hR]
  refine ctr_ofG (fn := Go.Proofs.Try.f159) (by kernel_rfl) rfl rfl rfl ?_
  rintro ⟨n, w0, F0, M, pin⟩ hn
  cases hn
  refine PW_seq ?_
  -- region 0
  refine PW_region ?_
  refine qBx .none ?_
  refine qBx .none ?_
  refine qMv .none ?_
  refine Pend ?_
  refine PW_seq ?_
  -- region 1
  refine PW_region ?_
  refine qMv .none ?_
  refine qLd .none ?_
  refine P00 .none (S_call (.one rfl (.one rfl .nil)) rfl hfc (.inl rfl) rfl) ?_
  refine qMv .none ?_
  refine qEx1 .none ?_
  refine qEx1 .none ?_
  refine qBx .none ?_
  refine P01 .none (by first | exact S_storeW rfl rfl rfl rfl rfl rfl | exact S_storeWe rfl rfl rfl HK rfl rfl rfl | exact S_storeP rfl rfl rfl rfl rfl (Nat.le_of_ble_eq_true rfl) | exact S_storeLW rfl rfl rfl rfl rfl rfl rfl | exact S_storeW rfl rfl rfl (Plan.cells_one _) (Plan.cells_len _) rfl) ?_
  refine qMv .none ?_
  refine Pend ?_
  refine PW_seq ?_
  refine PW_seq ?_
  -- region 2
  refine PW_region ?_
  refine qMv .none ?_
  refine qCm .none ?_
  refine Pend ?_
  refine PW_cond rfl (fun h1 => ?_) (fun h1 => ?_)
  · -- t23
    refine PW_seq ?_
    -- region 3
    refine PW_region ?_
    refine P10 .none (S_build (gs := [_, _, _, _, _]) (.nil _) rfl rfl) ?_
    refine P01 .none (by first | exact S_storeW rfl rfl rfl rfl rfl rfl | exact S_storeWe rfl rfl rfl HK rfl rfl rfl | exact S_storeP rfl rfl rfl rfl rfl (Nat.le_of_ble_eq_true rfl) | exact S_storeLW rfl rfl rfl rfl rfl rfl rfl | exact S_storeW rfl rfl rfl (Plan.cells_one _) (Plan.cells_len _) rfl) ?_
    refine qMv .none ?_
    refine Pend ?_
    refine PW_ret ⟨.inr rfl, ?_⟩
    exact ret_G (.cons (.frz (.gnd rfl rfl rfl) (.up waste_up)) (.cons (.raw (.tmp rfl) rfl) .nil)) rfl trivial rfl rfl
  · cases h1

/- impl.cutPlaces: 45, 102 -> [34, 4] -/
set_option maxRecDepth 100000 in
theorem ctr_cut_some (ps : List Place) (b : Box) (hl : ps.length ≤ 100000) (hps : ∀ p ∈ ps, BoxOk p.box) (hb : BoxOk b) (r : List Place → Box → Option T) {d : Bool} {a : Int} (hf : firstC (ps.map (·.box)) b = some (d, a))
    (h1r : CtrG P 118 30 [.c (.g (.sl ((ps.filter fun p => insideB p.box (splitB d a b).1).map Place.cells))), .c (.g (.agg (splitB d a b).1.cells))] [] (planPV (r (ps.filter fun p => insideB p.box (splitB d a b).1) (splitB d a b).1)) [])
    (h2r : CtrG P 118 30 [.c (.g (.sl ((ps.filter fun p => !insideB p.box (splitB d a b).1).map Place.cells))), .c (.g (.agg (splitB d a b).2.cells))] [] (planPV (r (ps.filter fun p => !insideB p.box (splitB d a b).1) (splitB d a b).2)) []) :
    CtrG P 159 73 [.c (.g (.sl (ps.map Place.cells))), .c (.g (.agg b.cells))] [] (planPV (cutR r ps b)) [] := by
  have hlen : (ps.map Place.cells).length = ps.length := List.length_map _
  have hfc := ctr_i_firstCut ps b hl hps hb
  rw [hf] at hfc
  obtain ⟨fa1, fa2⟩ := firstC_in hf
  have hbb := hb
  unfold BoxOk at hbb
  have hsb : CtrG P 84 1 [.c (.g (.agg (Plan.mk (if d then 2 else 3) a 0 false []).cells)), .c (.g (.agg b.cells))] [] _ [] := Ctr.toG (gs := [_, _]) (ctr_i_splitBox (.mk (if d then 2 else 3) a 0 false []) b (by show -1000 ≤ a ∧ a ≤ 1000; split at fa2 <;> omega) (by omega) (by omega) (by omega) (by omega))
  rw [splitBox_d] at hsb
  have hR : cutR r ps b = (match r (ps.filter fun p => insideB p.box (splitB d a b).1) (splitB d a b).1 with
    | none => none
    | some p => match r (ps.filter fun p => !insideB p.box (splitB d a b).1) (splitB d a b).2 with
      | none => none
      | some q => some (.cut d a p q)) := by unfold cutR; rw [hf]
  rw [hR]
  generalize r (ps.filter fun p => insideB p.box (splitB d a b).1) (splitB d a b).1 = o1 at h1r ⊢
  generalize r (ps.filter fun p => !insideB p.box (splitB d a b).1) (splitB d a b).2 = o2 at h2r ⊢
  refine ctr_ofG (fn := Go.Proofs.Try.f159) (by kernel_rfl) rfl rfl rfl ?_
  rintro ⟨n, w0, F0, M, pin⟩ hn
  cases hn
  refine PW_seq ?_
  -- region 0
  refine PW_region ?_
  refine qBx .none ?_
  refine qBx .none ?_
  refine qMv .none ?_
  refine Pend ?_
  refine PW_seq ?_
  -- region 1
  refine PW_region ?_
  refine qMv .none ?_
  refine qLd .none ?_
  refine P00 .none (S_call (.one rfl (.one rfl .nil)) rfl hfc (.inl rfl) rfl) ?_
  refine qMv .none ?_
  refine qEx1 .none ?_
  refine qEx1 .none ?_
  refine qBx .none ?_
  refine P01 .none (by first | exact S_storeW rfl rfl rfl rfl rfl rfl | exact S_storeWe rfl rfl rfl HK rfl rfl rfl | exact S_storeP rfl rfl rfl rfl rfl (Nat.le_of_ble_eq_true rfl) | exact S_storeLW rfl rfl rfl rfl rfl rfl rfl | exact S_storeW rfl rfl rfl (Plan.cells_one _) (Plan.cells_len _) rfl) ?_
  refine qMv .none ?_
  refine Pend ?_
  refine PW_seq ?_
  refine PW_seq ?_
  -- region 2
  refine PW_region ?_
  refine qMv .none ?_
  refine qCm .none ?_
  refine Pend ?_
  refine PW_cond rfl (fun h1 => ?_) (fun h1 => ?_)
  · -- t23
    refine PW_seq ?_
    -- region 3
    refine PW_region ?_
    refine P10 .none (S_build (gs := [_, _, _, _, _]) (.nil _) rfl rfl) ?_
    refine P01 .none (by first | exact S_storeW rfl rfl rfl rfl rfl rfl | exact S_storeWe rfl rfl rfl HK rfl rfl rfl | exact S_storeP rfl rfl rfl rfl rfl (Nat.le_of_ble_eq_true rfl) | exact S_storeLW rfl rfl rfl rfl rfl rfl rfl | exact S_storeW rfl rfl rfl (Plan.cells_one _) (Plan.cells_len _) rfl) ?_
    refine qMv .none ?_
    refine Pend ?_
    refine PW_ret ⟨.inr rfl, ?_⟩
    cases h1
  · -- not t23
    refine PW_skip ?_
    refine PW_seq ?_
    -- region 4
    refine PW_region ?_
    refine P10 .none (by first | exact S_loadOW rfl rfl rfl rfl rfl | exact S_loadRW rfl rfl rfl | exact S_loadLA rfl rfl rfl (Nat.le_of_ble_eq_true rfl) rfl | exact S_loadOA rfl rfl rfl (Nat.le_of_ble_eq_true rfl) rfl | exact S_loadRA rfl (Nat.le_of_ble_eq_true rfl) rfl | exact S_loadRW rfl (Plan.cells_len _) rfl | exact S_loadOW rfl rfl rfl (Plan.cells_len _) rfl) ?_
    refine qLd .none ?_
    refine P00 .none (S_callG [] [] false hsb (.up rfl (cut_up _ _) (.g rfl .nil)) trivial rfl (.inl rfl) rfl) ?_
    refine qMv .none ?_
    refine qEx1 .none ?_
    refine qEx1 .none ?_
    refine qBx .none ?_
    refine qBx .none ?_
    refine qSr .none ?_
    refine qSr .none ?_
    refine Pend ?_
    refine PW_seq ?_
    -- region 5
    refine PW_region ?_
    refine qMv .none ?_
    refine qMv .none ?_
    refine Pend ?_
    refine PW_seq ?_
    refine PW_seq ?_
    refine PW_nil 10 10 104 rfl rfl ?_
    refine PW_nil 11 11 104 rfl rfl ?_
    --region 6
    refine PW_region ?_
    refine qMv .none ?_
    refine qLn .none ?_
    refine qMv .none ?_
    refine Pend ?_
    refine PW_block ?_
    refine PW_iter (ι := Nat) (fun i => [(3, .c (.optr 3 0 0)), (4, .c (.optr 4 0 0)), (6, .c (.optr 6 0 0)), (8, .c (.optr 8 0 0)), (9, .c (.optr 9 0 0)), (10, .c (.osl 10 0 (((ps.take i).filter fun p => insideB p.box (splitB d a b).1).map Place.cells).length)), (11, .c (.osl 11 0 (((ps.take i).filter fun p => !insideB p.box (splitB d a b).1).map Place.cells).length)), (31, .c (.g (.sl (ps.map Place.cells)))), (32, .c (.g (.int .i64 (ps.map Place.cells).length))), (33, .c (.g (.int .i64 (i : Nat))))]) (fun i => [(4, ⟨34, 0, .gnd [[.int .i64 0, .int .i64 0, .int .i64 0, .bool false, .nil]]⟩), (6, ⟨34, 0, .gnd [[.int .i64 (if d then 2 else 3), .int .i64 a, .int .i64 0, .bool false, .nil]]⟩), (8, ⟨102, 0, .gnd [(splitB d a b).1.cells]⟩), (9, ⟨102, 0, .gnd [(splitB d a b).2.cells]⟩), (10, ⟨104, 0, .gnd (((ps.take i).filter fun p => insideB p.box (splitB d a b).1).map Place.cells)⟩), (11, ⟨104, 0, .gnd (((ps.take i).filter fun p => !insideB p.box (splitB d a b).1).map Place.cells)⟩)]) (fun i => i ≤ ps.length) (fun i => ps.length - i) 0 (Nat.zero_le _) (by repeat (first | exact trivial | refine And.intro rfl ?_)) (by repeat (first | exact trivial | refine And.intro rfl ?_)) (fun i hi => ?_)
    refine PW_seq ?_
    -- region 7
    refine PW_region ?_
    refine qCm .none ?_
    refine Pend ?_
    refine PW_seq ?_
    refine PW_cond rfl (fun h2 => ?_) (fun h2 => ?_)
    · -- t34
      refine PW_skip ?_
      refine PW_seq ?_
      refine PW_block ?_
      refine PW_seq ?_
      obtain ⟨x, hx⟩ := at_lt h2
      have hlt := (List.getElem?_eq_some_iff.1 hx).1
      have hn1 := filter_next (f := fun p : Place => insideB p.box (splitB d a b).1) hx
      have hn2 := filter_next (f := fun p : Place => !insideB p.box (splitB d a b).1) hx
      have hl1 := filter_le2 (l := ps) (f := fun p : Place => insideB p.box (splitB d a b).1) i
      have hl2 := filter_le2 (l := ps) (f := fun p : Place => !insideB p.box (splitB d a b).1) i
      --region 8
      refine PW_region ?_
      refine P10 .none (by first | exact S_indexR rfl rfl rfl (map_at hx) rfl rfl | exact S_indexO rfl rfl rfl rfl rfl (map_at hx) rfl) ?_
      refine qLd .none ?_
      refine qBx .none ?_
      refine qSr .none ?_
      refine Pend ?_
      refine PW_seq ?_
      -- region 9
      refine PW_region ?_
      refine qFd .none ?_
      refine qLd .none ?_
      refine qLd .none ?_
      refine P00 .none (S_call (.one rfl (.one rfl .nil)) rfl (ctr_i_InsideOf x.box (splitB d a b).1) (.inl rfl) rfl) ?_
      refine Pend ?_
      refine PW_cond rfl (fun h3 => ?_) (fun h3 => ?_)
      · -- t40
        -- region 10
        refine PW_region ?_
        refine qMv .none ?_
        refine qLd .none ?_
        refine P22 .none (S_lit (.agg rfl rfl rfl (.nil _)) rfl rfl rfl) ?_
        refine P22 .none (S_appW rfl rfl rfl rfl (.ownW rfl rfl rfl) (fun l hl => by simp only [List.mem_singleton] at hl; subst hl; rfl) rfl (by omega) (by simp; omega) rfl) ?_
        refine qMv .none ?_
        refine Pend ?_
        -- region 12
        refine PW_region ?_
        refine qAd .none ?_
        refine qMv .none ?_
        refine Pend ?_
        simp only [h3, Bool.not_true, Bool.not_false, if_true, if_false, Bool.false_eq_true, List.append_nil] at hn1 hn2
        exact ⟨i + 1, by omega, (by show i + 1 ≤ ps.length; omega), (by rw [hn1, hn2, List.map_append, List.length_append]; repeat (first | exact trivial | refine And.intro rfl ?_)), (by rw [hn1, hn2, List.map_append]; repeat (first | exact trivial | refine And.intro rfl ?_))⟩
      · -- not t40
        -- region 11
        refine PW_region ?_
        refine qMv .none ?_
        refine qLd .none ?_
        refine P22 .none (S_lit (.agg rfl rfl rfl (.nil _)) rfl rfl rfl) ?_
        refine P22 .none (S_appW rfl rfl rfl rfl (.ownW rfl rfl rfl) (fun l hl => by simp only [List.mem_singleton] at hl; subst hl; rfl) rfl (by omega) (by simp; omega) rfl) ?_
        refine qMv .none ?_
        refine Pend ?_
        -- region 12
        refine PW_region ?_
        refine qAd .none ?_
        refine qMv .none ?_
        refine Pend ?_
        simp only [h3, Bool.not_true, Bool.not_false, if_true, if_false, Bool.false_eq_true, List.append_nil] at hn1 hn2
        exact ⟨i + 1, by omega, (by show i + 1 ≤ ps.length; omega), (by rw [hn1, hn2, List.map_append, List.length_append]; repeat (first | exact trivial | refine And.intro rfl ?_)), (by rw [hn1, hn2, List.map_append]; repeat (first | exact trivial | refine And.intro rfl ?_))⟩
    · -- not t34
      refine PW_exit ?_
      refine PW_seq ?_
      have hall : ps.take i = ps := List.take_of_length_le (by have := of_decide_eq_false h2; omega)
      rw [hall]
      --region 13
      refine PW_region ?_
      refine qMv .none ?_
      refine qLd .none ?_
      refine P00 .none (S_callG [] [] false h1r (.borw rfl rfl rfl (.g rfl .nil)) trivial rfl (.inl rfl) rfl) ?_
      refine qMv .none ?_
      refine qEx1 .none ?_
      refine qEx1 .none ?_
      refine qBx .none ?_
      refine P01 .none (by first | exact S_storeW rfl rfl rfl rfl rfl rfl | exact S_storeWe rfl rfl rfl HK rfl rfl rfl | exact S_storeP rfl rfl rfl rfl rfl (Nat.le_of_ble_eq_true rfl) | exact S_storeLW rfl rfl rfl rfl rfl rfl rfl | exact S_storeW rfl rfl rfl (Plan.cells_one _) (Plan.cells_len _) rfl) ?_
      refine qMv .none ?_
      refine Pend ?_
      refine PW_seq ?_
      refine PW_seq ?_
      -- region 14
      refine PW_region ?_
      refine qMv .none ?_
      refine qCm .none ?_
      refine Pend ?_
      refine PW_cond rfl (fun h4 => ?_) (fun h4 => ?_)
      · -- t57
        refine PW_seq ?_
        -- region 15
        refine PW_region ?_
        refine P10 .none (S_build (gs := [_, _, _, _, _]) (.nil _) rfl rfl) ?_
        refine P01 .none (by first | exact S_storeW rfl rfl rfl rfl rfl rfl | exact S_storeWe rfl rfl rfl HK rfl rfl rfl | exact S_storeP rfl rfl rfl rfl rfl (Nat.le_of_ble_eq_true rfl) | exact S_storeLW rfl rfl rfl rfl rfl rfl rfl | exact S_storeW rfl rfl rfl (Plan.cells_one _) (Plan.cells_len _) rfl) ?_
        refine qMv .none ?_
        refine Pend ?_
        refine PW_ret ⟨.inr rfl, ?_⟩
        have : o1 = none := by cases o1 with | none => rfl | some t => cases h4
        subst this
        exact ret_G (.cons (.frz (.gnd rfl rfl rfl) (.up waste_up)) (.cons (.raw (.tmp rfl) rfl) .nil)) rfl trivial rfl rfl
      · -- not t57
        refine PW_skip ?_
        refine PW_seq ?_
        obtain ⟨p, rfl⟩ : ∃ p, o1 = some p := by cases o1 with | none => cases h4 | some t => exact ⟨t, rfl⟩
        --region 16
        refine PW_region ?_
        refine qMv .none ?_
        refine qLd .none ?_
        refine P00 .none (S_callG [] [] false h2r (.borw rfl rfl rfl (.g rfl .nil)) trivial rfl (.inl rfl) rfl) ?_
        refine qMv .none ?_
        refine qEx1 .none ?_
        refine qEx1 .none ?_
        refine qBx .none ?_
        refine P01 .none (by first | exact S_storeW rfl rfl rfl rfl rfl rfl | exact S_storeWe rfl rfl rfl HK rfl rfl rfl | exact S_storeP rfl rfl rfl rfl rfl (Nat.le_of_ble_eq_true rfl) | exact S_storeLW rfl rfl rfl rfl rfl rfl rfl | exact S_storeW rfl rfl rfl (Plan.cells_one _) (Plan.cells_len _) rfl) ?_
        refine qMv .none ?_
        refine Pend ?_
        refine PW_seq ?_
        refine PW_seq ?_
        -- region 17
        refine PW_region ?_
        refine qMv .none ?_
        refine qCm .none ?_
        refine Pend ?_
        refine PW_cond rfl (fun h5 => ?_) (fun h5 => ?_)
        · -- t66
          refine PW_seq ?_
          -- region 18
          refine PW_region ?_
          refine P10 .none (S_build (gs := [_, _, _, _, _]) (.nil _) rfl rfl) ?_
          refine P01 .none (by first | exact S_storeW rfl rfl rfl rfl rfl rfl | exact S_storeWe rfl rfl rfl HK rfl rfl rfl | exact S_storeP rfl rfl rfl rfl rfl (Nat.le_of_ble_eq_true rfl) | exact S_storeLW rfl rfl rfl rfl rfl rfl rfl | exact S_storeW rfl rfl rfl (Plan.cells_one _) (Plan.cells_len _) rfl) ?_
          refine qMv .none ?_
          refine Pend ?_
          refine PW_ret ⟨.inr rfl, ?_⟩
          have : o2 = none := by cases o2 with | none => rfl | some t => cases h5
          subst this
          exact ret_G (.cons (.frz (.gnd rfl rfl rfl) (.up waste_up)) (.cons (.raw (.tmp rfl) rfl) .nil)) rfl trivial rfl rfl
        · -- not t66
          refine PW_skip ?_
          refine PW_seq ?_
          obtain ⟨q, rfl⟩ : ∃ q, o2 = some q := by cases o2 with | none => cases h5 | some t => exact ⟨t, rfl⟩
          --region 19
          refine PW_region ?_
          refine P10 .none (by first | exact S_loadOW rfl rfl rfl rfl rfl | exact S_loadRW rfl rfl rfl | exact S_loadLA rfl rfl rfl (Nat.le_of_ble_eq_true rfl) rfl | exact S_loadOA rfl rfl rfl (Nat.le_of_ble_eq_true rfl) rfl | exact S_loadRA rfl (Nat.le_of_ble_eq_true rfl) rfl | exact S_loadRW rfl (Plan.cells_len _) rfl | exact S_loadOW rfl rfl rfl (Plan.cells_len _) rfl) ?_
          refine P10 .none (by first | exact S_loadOW rfl rfl rfl rfl rfl | exact S_loadRW rfl rfl rfl | exact S_loadLA rfl rfl rfl (Nat.le_of_ble_eq_true rfl) rfl | exact S_loadOA rfl rfl rfl (Nat.le_of_ble_eq_true rfl) rfl | exact S_loadRA rfl (Nat.le_of_ble_eq_true rfl) rfl | exact S_loadRW rfl (Plan.cells_len _) rfl | exact S_loadOW rfl rfl rfl (Plan.cells_len _) rfl) ?_
          refine P22 .none (S_lit (.agg rfl (Plan.cells_len _) (Plan.cells_one _) (.agg rfl (Plan.cells_len _) (Plan.cells_one _) (.nil _))) rfl rfl rfl) ?_
          refine qFd .none ?_
          refine qSr .none ?_
          refine Pend ?_
          refine PW_seq ?_
          -- region 20
          refine PW_region ?_
          refine P10 .none (by first | exact S_loadOW rfl rfl rfl rfl rfl | exact S_loadRW rfl rfl rfl | exact S_loadLA rfl rfl rfl (Nat.le_of_ble_eq_true rfl) rfl | exact S_loadOA rfl rfl rfl (Nat.le_of_ble_eq_true rfl) rfl | exact S_loadRA rfl (Nat.le_of_ble_eq_true rfl) rfl | exact S_loadRW rfl (Plan.cells_len _) rfl | exact S_loadOW rfl rfl rfl (Plan.cells_len _) rfl) ?_
          refine P01 .none (by first | exact S_storeW rfl rfl rfl rfl rfl rfl | exact S_storeWe rfl rfl rfl HK rfl rfl rfl | exact S_storeP rfl rfl rfl rfl rfl (Nat.le_of_ble_eq_true rfl) | exact S_storeLW rfl rfl rfl rfl rfl rfl rfl | exact S_storeW rfl rfl rfl (Plan.cells_one _) (Plan.cells_len _) rfl) ?_
          refine qMv .none ?_
          refine Pend ?_
          refine PW_ret ⟨.inr rfl, ?_⟩
          exact ret_G (.cons (.aggL (.loc rfl rfl rfl) (.cons (.g _) (.cons (.g _) (.cons (.g _) (.cons (.g _) (.cons (ExZ.whole rfl rfl rfl) .nil)))))) (.cons (.raw (.tmp rfl) rfl) .nil)) rfl trivial rfl rfl
/- impl.planPlaces: 45, 102 -> [34, 4] -/
set_option maxRecDepth 100000 in
theorem ctr_plan_of (ps : List Place) (b : Box) (hl : ps.length ≤ 100000) (hps : ∀ p ∈ ps, BoxOk p.box) (hb : BoxOk b) (o : Option T) (hcut : CtrG P 159 73 [.c (.g (.sl (ps.map Place.cells))), .c (.g (.agg b.cells))] [] (planPV o) []) : CtrG P 118 30 [.c (.g (.sl (ps.map Place.cells))), .c (.g (.agg b.cells))] [] (planPV (baseP ps b o)) [] := by
  refine ctr_ofG (fn := Go.Proofs.Try.f118) (by kernel_rfl) rfl rfl rfl ?_
  rintro ⟨n, w0, F0, M, pin⟩ hn
  cases hn
  refine PW_seq ?_
  -- region 0
  refine PW_region ?_
  refine qBx .none ?_
  refine qBx .none ?_
  refine qMv .none ?_
  refine Pend ?_
  refine PW_seq ?_
  refine PW_seq ?_
  -- region 1
  refine PW_region ?_
  refine qMv .none ?_
  refine qLn .none ?_
  refine qCm .none ?_
  refine Pend ?_
  refine PW_cond rfl (fun h1 => ?_) (fun h1 => ?_)
  · -- t8
    refine PW_seq ?_
    -- region 2
    refine PW_region ?_
    refine P10 .none (S_build (gs := [_, _, _, _, _]) (.one rfl rfl rfl rfl (.nil _)) rfl rfl) ?_
    refine P01 .none (by first | exact S_storeW rfl rfl rfl rfl rfl rfl | exact S_storeWe rfl rfl rfl HK rfl rfl rfl | exact S_storeP rfl rfl rfl rfl rfl (Nat.le_of_ble_eq_true rfl) | exact S_storeLW rfl rfl rfl rfl rfl rfl rfl | exact S_storeW rfl rfl rfl (Plan.cells_one _) (Plan.cells_len _) rfl) ?_
    refine qMv .none ?_
    refine Pend ?_
    refine PW_ret ⟨.inr rfl, ?_⟩
    have : ps = [] := by
      have := of_decide_eq_true h1
      rw [List.length_map] at this
      exact List.eq_nil_of_length_eq_zero (by omega)
    subst this
    exact ret_G (.cons (.frz (.gnd rfl rfl rfl) (.up waste_up)) (.cons (.raw (.tmp rfl) rfl) .nil)) rfl trivial rfl rfl
  · -- not t8
    refine PW_skip ?_
    refine PW_seq ?_
    refine PW_seq ?_
    obtain ⟨x, hx⟩ : ∃ x, ps[0]? = some x := ⟨ps[0]'(by have := of_decide_eq_false h1; rw [List.length_map] at this; omega), List.getElem?_eq_getElem _⟩
    have hbase : baseP ps b o = if x.box = b then some (.pane x.pane x.turned) else o := by
      cases ps with
      | nil => simp at hx
      | cons y l => simp at hx; subst hx; rfl
    rw [hbase]
    --region 3
    refine PW_draw (by kernel_rfl) ?_
    refine qMv .none ?_
    refine P10 .none (by first | exact S_indexR rfl rfl (k := 0) rfl (map_at hx) rfl rfl | exact S_indexO rfl rfl rfl rfl (k := 0) rfl (map_at hx) rfl) ?_
    refine qFd .none ?_
    refine qLd .none ?_
    refine qLd .none ?_
    refine P10 .none (S_eqF (xs := Box.ints _) (ys := Box.ints _) rfl rfl rfl rfl rfl rfl rfl) ?_
    refine Pend ⟨by kernel_rfl, ?_⟩
    refine PW_cond rfl (fun h2 => ?_) (fun h2 => ?_)
    · -- t15
      refine PW_seq ?_
      -- region 4
      refine PW_draw (by kernel_rfl) ?_
      refine qMv .none ?_
      refine P10 .none (by first | exact S_indexR rfl rfl (k := 0) rfl (map_at hx) rfl rfl | exact S_indexO rfl rfl rfl rfl (k := 0) rfl (map_at hx) rfl) ?_
      refine qFd .none ?_
      refine qLd .none ?_
      refine qMv .none ?_
      refine P10 .none (by first | exact S_indexR rfl rfl (k := 0) rfl (map_at hx) rfl rfl | exact S_indexO rfl rfl rfl rfl (k := 0) rfl (map_at hx) rfl) ?_
      refine qFd .none ?_
      refine qLd .none ?_
      refine P10 .none (S_build (gs := [_, _, _, _, _]) (.one rfl rfl rfl rfl (.one rfl rfl rfl rfl (.one rfl rfl rfl rfl (.nil _)))) rfl rfl) ?_
      refine P01 .none (by first | exact S_storeW rfl rfl rfl rfl rfl rfl | exact S_storeWe rfl rfl rfl HK rfl rfl rfl | exact S_storeP rfl rfl rfl rfl rfl (Nat.le_of_ble_eq_true rfl) | exact S_storeLW rfl rfl rfl rfl rfl rfl rfl | exact S_storeW rfl rfl rfl (Plan.cells_one _) (Plan.cells_len _) rfl) ?_
      refine qMv .none ?_
      refine Pend ⟨by kernel_rfl, ?_⟩
      refine PW_ret ⟨.inr rfl, ?_⟩
      rw [if_pos (by rw [ints_dec] at h2; exact of_decide_eq_true h2)]
      exact ret_G (.cons (.frz (.gnd rfl rfl rfl) (.up (pane_up _ _))) (.cons (.raw (.tmp rfl) rfl) .nil)) rfl trivial rfl rfl
    · -- not t15
      refine PW_skip ?_
      refine PW_seq ?_
      -- region 5
      refine PW_region ?_
      refine qMv .none ?_
      refine qLd .none ?_
      refine P00 .none (S_callG [] [] false hcut (.g rfl (.g rfl .nil)) trivial rfl (.inl rfl) rfl) ?_
      refine qEx1 .none ?_
      refine qEx1 .none ?_
      refine P01 .none (by first | exact S_storeW rfl rfl rfl rfl rfl rfl | exact S_storeWe rfl rfl rfl HK rfl rfl rfl | exact S_storeP rfl rfl rfl rfl rfl (Nat.le_of_ble_eq_true rfl) | exact S_storeLW rfl rfl rfl rfl rfl rfl rfl | exact S_storeW rfl rfl rfl (Plan.cells_one _) (Plan.cells_len _) rfl) ?_
      refine qMv .none ?_
      refine Pend ?_
      refine PW_ret ⟨.inr rfl, ?_⟩
      rw [if_neg (by rw [ints_dec] at h2; exact of_decide_eq_false h2)]
      exact ret_G (.cons (.frz (.gnd rfl rfl (Plan.cells_len _)) (.g _)) (.cons (.raw (.tmp rfl) rfl) .nil)) rfl trivial rfl rfl
/-- planPlaces finds what the search finds. -/
theorem ctr_i_planPlaces : ∀ (n : Nat) (ps : List Place) (b : Box), ps.length ≤ 100000 → (∀ p ∈ ps, BoxOk p.box) → BoxOk b → b.w + b.h ≤ n → CtrG P 118 30 [.c (.g (.sl (ps.map Place.cells))), .c (.g (.agg b.cells))] [] (planPV (planP n ps b)) [] := by
  intro n
  induction n with
  | zero =>
    intro ps b hl hps hb hn
    refine ctr_plan_of ps b hl hps hb none ?_
    have hf : firstC (ps.map (·.box)) b = none := by
      cases hx : firstC (ps.map (·.box)) b with
      | none => rfl
      | some x =>
        obtain ⟨d, a⟩ := x
        obtain ⟨h1, h2⟩ := firstC_in hx
        unfold BoxOk at hb
        split at h2 <;> omega
    have := ctr_cut_none ps b hl hps hb (fun _ _ => none) hf
    rwa [show cutR (fun _ _ => none) ps b = none by unfold cutR; rw [hf]] at this
  | succ n ih =>
    intro ps b hl hps hb hn
    refine ctr_plan_of ps b hl hps hb _ ?_
    cases hf : firstC (ps.map (·.box)) b with
    | none => exact ctr_cut_none ps b hl hps hb _ hf
    | some x =>
      obtain ⟨d, a⟩ := x
      obtain ⟨h1, h2⟩ := firstC_in hf
      obtain ⟨b1, b2⟩ := splitB_ok hb h1 h2
      have hbb := hb
      unfold BoxOk at hbb
      refine ctr_cut_some ps b hl hps hb _ hf (ih _ _ (Nat.le_trans (List.length_filter_le _ _) hl) (fun p hp => hps p (List.mem_filter.1 hp).1) b1 ?_) (ih _ _ (Nat.le_trans (List.length_filter_le _ _) hl) (fun p hp => hps p (List.mem_filter.1 hp).1) b2 ?_)
      · cases d <;> simp only [splitB, if_true, if_false, Bool.false_eq_true] at h2 ⊢ <;> omega
      · cases d <;> simp only [splitB, if_true, if_false, Bool.false_eq_true] at h2 ⊢ <;> omega

end Go.Proofs.Ytdmlfhmnlddooaa
namespace Go.Proofs.Ytdmlfhmnlddooaa
open Go Go.Pu

def placeOk (k : Work) (p : Place) : Bool := validBox p.box && insideB p.box (sheet k) && paneFills k p.pane p.turned p.box.w p.box.h
def validPlaces (k : Work) (ps : List Place) : Bool := validWork k && decide (ps.length ≤ 12) && ps.all (placeOk k) && decide (Apart (ps.map (·.box)))
def planOf (k : Work) (ps : List Place) : Option T := if validPlaces k ps = true then planP 400 ps (sheet k) else none

/- impl.ValidPlaces: 25, 45 -> [4] -/
set_option maxRecDepth 100000 in
theorem ctr_i_ValidPlaces (k : Work) (ps : List Place) (hl : ps.length ≤ 100000) : Ctr P 117 [.g (.agg k.cells), .g (.sl (ps.map Place.cells))] (.g (.bool (validPlaces k ps))) := by
  have hlen : (ps.map Place.cells).length = ps.length := List.length_map _
  refine ctr_of (fn := Go.Proofs.Try.f117) (by kernel_rfl) rfl rfl ?_
  rintro ⟨n, w0, F0, M, pin⟩ hn
  cases hn
  refine PW_seq ?_
  -- region 0
  refine PW_region ?_
  refine qBx .none ?_
  refine qMv .none ?_
  refine Pend ?_
  refine PW_seq ?_
  refine PW_join (ι := Bool) (fun u1 => [(1, .c (.g (.sl (ps.map Place.cells)))), (2, .c (.optr 2 0 0)), (16, .c (.g (.bool u1)))]) (fun u1 => [(2, ⟨25, 0, .gnd [k.cells]⟩)]) (fun u1 => u1 = !(validWork k && decide (ps.length ≤ 12))) ?_ (fun u1 hu1 => ?_)
  · skip
    -- region 1
    refine PW_region ?_
    refine qLd .none ?_
    refine P00 .none (S_call (.one rfl .nil) rfl (ctr_i_ValidWork k) (.inl rfl) rfl) ?_
    refine qCm .none ?_
    refine qMv .none ?_
    refine Psplit 12 rfl (fun h1 => ?_) (fun h1 => ?_)
    · -- t12 = true
      refine Pskip rfl rfl h1 rfl ?_
      refine Pskip rfl rfl h1 rfl ?_
      refine Pskip rfl rfl h1 rfl ?_
      refine P10 .none (S_pickT rfl h1 rfl rfl) ?_
      refine Pend ?_
      exact ⟨true, (by simp only [Bool.not_eq_true', Bool.not_eq_false'] at h1; simp only [h1, Bool.true_and, Bool.false_and, Bool.not_false, Bool.not_true]; try (rw [Bool.eq_iff_iff]; simp; omega)), by repeat (first | exact trivial | refine And.intro rfl ?_ | refine And.intro (by show some (PV.c (LC.g _)) = some (PV.c (LC.g _)); simp only [*, decide_true, decide_false, eq_self, if_true, if_false, reduceIte, Bool.false_eq_true, Bool.and_false, Bool.false_and, Bool.true_and, Bool.and_true, Bool.or_true, Bool.true_or, Bool.false_or, Bool.or_false, Bool.not_true, Bool.not_false]) ?_), by repeat (first | exact trivial | refine And.intro rfl ?_ | refine And.intro (by show some (PV.c (LC.g _)) = some (PV.c (LC.g _)); simp only [*, decide_true, decide_false, eq_self, if_true, if_false, reduceIte, Bool.false_eq_true, Bool.and_false, Bool.false_and, Bool.true_and, Bool.and_true, Bool.or_true, Bool.true_or, Bool.false_or, Bool.or_false, Bool.not_true, Bool.not_false]) ?_)⟩
    · -- t12 = false
      refine qMv (.yes rfl rfl h1) ?_
      refine qLn (.yes rfl rfl h1) ?_
      refine qCm (.yes rfl rfl h1) ?_
      refine P10 .none (S_pickF rfl h1 rfl rfl) ?_
      refine Pend ?_
      exact ⟨decide ((12 : Int) < (ps.map Place.cells).length), (by simp only [Bool.not_eq_true', Bool.not_eq_false'] at h1; simp only [h1, Bool.true_and, Bool.false_and, Bool.not_false, Bool.not_true]; try (rw [Bool.eq_iff_iff]; simp; omega)), by repeat (first | exact trivial | refine And.intro rfl ?_ | refine And.intro (by show some (PV.c (LC.g _)) = some (PV.c (LC.g _)); simp only [*, decide_true, decide_false, eq_self, if_true, if_false, reduceIte, Bool.false_eq_true, Bool.and_false, Bool.false_and, Bool.true_and, Bool.and_true, Bool.or_true, Bool.true_or, Bool.false_or, Bool.or_false, Bool.not_true, Bool.not_false]) ?_), by repeat (first | exact trivial | refine And.intro rfl ?_ | refine And.intro (by show some (PV.c (LC.g _)) = some (PV.c (LC.g _)); simp only [*, decide_true, decide_false, eq_self, if_true, if_false, reduceIte, Bool.false_eq_true, Bool.and_false, Bool.false_and, Bool.true_and, Bool.and_true, Bool.or_true, Bool.true_or, Bool.false_or, Bool.or_false, Bool.not_true, Bool.not_false]) ?_)⟩
  · skip
    refine PW_cond rfl (fun h2 => ?_) (fun h2 => ?_)
    · -- t16
      refine PW_seq ?_
      -- region 2
      refine PW_region ?_
      refine qMv .none ?_
      refine Pend ?_
      refine PW_ret ⟨.inr rfl, ?_⟩
      exact ret_g (.cons (.tmp rfl) (.c (by first | exact .nil | exact .g _ | exact Ex.whole rfl rfl rfl)) .nil) (by show GV.bool _ = GV.bool _; unfold validPlaces; rw [hu1] at h2; cases hh : (validWork k && decide (ps.length ≤ 12)) with | false => rfl | true => (rw [hh] at h2; cases h2)) trivial
    · -- not t16
      refine PW_skip ?_
      refine PW_seq ?_
      have g12 : (validWork k && decide (ps.length ≤ 12)) = true := by rw [hu1] at h2; simpa using h2
      --region 3
      refine PW_region ?_
      refine qMv .none ?_
      refine Pend ?_
      refine PW_seq ?_
      refine PW_seq ?_
      refine PW_nil 5 5 102 rfl rfl ?_
      --region 4
      refine PW_region ?_
      refine qMv .none ?_
      refine qLn .none ?_
      refine qMv .none ?_
      refine Pend ?_
      refine PW_block ?_
      refine PW_iter (ι := Nat) (fun i => [(2, .c (.optr 2 0 0)), (5, .c (.osl 5 0 (((ps.take i).map (·.box)).map Box.cells).length)), (17, .c (.g (.sl (ps.map Place.cells)))), (18, .c (.g (.int .i64 (ps.map Place.cells).length))), (19, .c (.g (.int .i64 (i : Nat))))]) (fun i => [(2, ⟨25, 0, .gnd [k.cells]⟩), (5, ⟨102, 0, .gnd (((ps.take i).map (·.box)).map Box.cells)⟩)]) (fun i => i ≤ ps.length ∧ (ps.take i).all (placeOk k) = true) (fun i => ps.length - i) 0 ⟨Nat.zero_le _, rfl⟩ (by repeat (first | exact trivial | refine And.intro rfl ?_)) (by repeat (first | exact trivial | refine And.intro rfl ?_)) (fun i hi => ?_)
      refine PW_seq ?_
      -- region 5
      refine PW_region ?_
      refine qCm .none ?_
      refine Pend ?_
      refine PW_seq ?_
      refine PW_cond rfl (fun h3 => ?_) (fun h3 => ?_)
      · -- t20
        refine PW_skip ?_
        refine PW_seq ?_
        refine PW_block ?_
        refine PW_seq ?_
        obtain ⟨x, hx⟩ := at_lt h3
        have hlt := (List.getElem?_eq_some_iff.1 hx).1
        have hnx := map_next (f := fun p : Place => p.box) hx
        have htl : (ps.take i).length = i := by rw [List.length_take]; omega
        have hsh : Ctr P 119 [.g (.agg k.cells)] (.g (.agg (sheet k).cells)) := ctr_i_sheetOf k
        --region 6
        refine PW_region ?_
        refine P10 .none (by first | exact S_indexR rfl rfl rfl (map_at hx) rfl rfl | exact S_indexO rfl rfl rfl rfl rfl (map_at hx) rfl) ?_
        refine qLd .none ?_
        refine qBx .none ?_
        refine qSr .none ?_
        refine Pend ?_
        refine PW_seq ?_
        -- region 7
        refine PW_region ?_
        refine qFd .none ?_
        refine qLd .none ?_
        refine qBx .none ?_
        refine qSr .none ?_
        refine Pend ?_
        refine PW_seq ?_
        refine PW_join (ι := Bool) (fun u8 => [(2, .c (.optr 2 0 0)), (5, .c (.osl 5 0 (((ps.take i).map (·.box)).map Box.cells).length)), (17, .c (.g (.sl (ps.map Place.cells)))), (18, .c (.g (.int .i64 (ps.map Place.cells).length))), (19, .c (.g (.int .i64 (i : Nat)))), (7, .c (.optr 7 0 0)), (8, .c (.optr 8 0 0)), (47, .c (.g (.bool u8)))]) (fun u8 => [(2, ⟨25, 0, .gnd [k.cells]⟩), (5, ⟨102, 0, .gnd (((ps.take i).map (·.box)).map Box.cells)⟩), (7, ⟨104, 0, .gnd [x.cells]⟩), (8, ⟨102, 0, .gnd [x.box.cells]⟩)]) (fun u8 => u8 = !placeOk k x) ?_ (fun u8 hu8 => ?_)
        · skip
          -- region 8
          refine PW_draw (by kernel_rfl) ?_
          refine qLd .none ?_
          refine P00 .none (S_call (.one rfl .nil) rfl (ctr_i_ValidBox x.box) (.inl rfl) rfl) ?_
          refine qCm .none ?_
          refine qMv .none ?_
          refine Psplit 28 rfl (fun h4 => ?_) (fun h4 => ?_)
          · -- t28 = true
            refine Pskip rfl rfl h4 rfl ?_
            refine Pskip rfl rfl h4 rfl ?_
            refine Pskip rfl rfl h4 rfl ?_
            refine Pskip rfl rfl h4 rfl ?_
            refine Pskip rfl rfl h4 rfl ?_
            refine P10 .none (S_pickT rfl h4 rfl rfl) ?_
            refine qMv .none ?_
            refine Pskip rfl rfl rfl rfl ?_
            refine Pskip rfl rfl rfl rfl ?_
            refine Pskip rfl rfl rfl rfl ?_
            refine Pskip rfl rfl rfl rfl ?_
            refine Pskip rfl rfl rfl rfl ?_
            refine Pskip rfl rfl rfl rfl ?_
            refine Pskip rfl rfl rfl rfl ?_
            refine Pskip rfl rfl rfl rfl ?_
            refine Pskip rfl rfl rfl rfl ?_
            refine Pskip rfl rfl rfl rfl ?_
            refine Pskip rfl rfl rfl rfl ?_
            refine P10 .none (S_pickT rfl rfl rfl rfl) ?_
            refine Pend ⟨by kernel_rfl, ?_⟩
            exact ⟨true, (by simp only [Bool.not_eq_true', Bool.not_eq_false'] at h3 h4; simp [placeOk, h3, h4]), by repeat (first | exact trivial | refine And.intro rfl ?_ | refine And.intro (by show some (PV.c (LC.g _)) = some (PV.c (LC.g _)); simp only [*, decide_true, decide_false, eq_self, if_true, if_false, reduceIte, Bool.false_eq_true, Bool.and_false, Bool.false_and, Bool.true_and, Bool.and_true, Bool.or_true, Bool.true_or, Bool.false_or, Bool.or_false, Bool.not_true, Bool.not_false]) ?_), by repeat (first | exact trivial | refine And.intro rfl ?_ | refine And.intro (by show some (PV.c (LC.g _)) = some (PV.c (LC.g _)); simp only [*, decide_true, decide_false, eq_self, if_true, if_false, reduceIte, Bool.false_eq_true, Bool.and_false, Bool.false_and, Bool.true_and, Bool.and_true, Bool.or_true, Bool.true_or, Bool.false_or, Bool.or_false, Bool.not_true, Bool.not_false]) ?_)⟩
          · -- t28 = false
            refine qLd (.yes rfl rfl h4) ?_
            refine qLd (.yes rfl rfl h4) ?_
            refine P00 (.yes rfl rfl h4) (S_call (.one rfl .nil) rfl hsh (.inl rfl) rfl) ?_
            refine P00 (.yes rfl rfl h4) (S_call (.one rfl (.one rfl .nil)) rfl (ctr_i_InsideOf x.box (sheet k)) (.inl rfl) rfl) ?_
            refine qCm (.yes rfl rfl h4) ?_
            refine P10 .none (S_pickF rfl h4 rfl rfl) ?_
            refine qMv .none ?_
            refine Psplit 35 rfl (fun h5 => ?_) (fun h5 => ?_)
            · -- t35 = true
              refine Pskip rfl rfl h5 rfl ?_
              refine Pskip rfl rfl h5 rfl ?_
              refine Pskip rfl rfl h5 rfl ?_
              refine Pskip rfl rfl h5 rfl ?_
              refine Pskip rfl rfl h5 rfl ?_
              refine Pskip rfl rfl h5 rfl ?_
              refine Pskip rfl rfl h5 rfl ?_
              refine Pskip rfl rfl h5 rfl ?_
              refine Pskip rfl rfl h5 rfl ?_
              refine Pskip rfl rfl h5 rfl ?_
              refine Pskip rfl rfl h5 rfl ?_
              refine P10 .none (S_pickT rfl h5 rfl rfl) ?_
              refine Pend ⟨by kernel_rfl, ?_⟩
              exact ⟨true, (by simp only [Bool.not_eq_true', Bool.not_eq_false'] at h3 h4 h5; simp [placeOk, h3, h4, h5]), by repeat (first | exact trivial | refine And.intro rfl ?_ | refine And.intro (by show some (PV.c (LC.g _)) = some (PV.c (LC.g _)); simp only [*, decide_true, decide_false, eq_self, if_true, if_false, reduceIte, Bool.false_eq_true, Bool.and_false, Bool.false_and, Bool.true_and, Bool.and_true, Bool.or_true, Bool.true_or, Bool.false_or, Bool.or_false, Bool.not_true, Bool.not_false]) ?_), by repeat (first | exact trivial | refine And.intro rfl ?_ | refine And.intro (by show some (PV.c (LC.g _)) = some (PV.c (LC.g _)); simp only [*, decide_true, decide_false, eq_self, if_true, if_false, reduceIte, Bool.false_eq_true, Bool.and_false, Bool.false_and, Bool.true_and, Bool.and_true, Bool.or_true, Bool.true_or, Bool.false_or, Bool.or_false, Bool.not_true, Bool.not_false]) ?_)⟩
            · -- t35 = false
              refine qLd (.yes rfl rfl h5) ?_
              refine qFd (.yes rfl rfl h5) ?_
              refine qLd (.yes rfl rfl h5) ?_
              refine qFd (.yes rfl rfl h5) ?_
              refine qLd (.yes rfl rfl h5) ?_
              refine qFd (.yes rfl rfl h5) ?_
              refine qLd (.yes rfl rfl h5) ?_
              refine qFd (.yes rfl rfl h5) ?_
              refine qLd (.yes rfl rfl h5) ?_
              refine P00 (.yes rfl rfl h5) (S_call (.one rfl (.one rfl (.one rfl (.one rfl (.one rfl .nil))))) rfl (ctr_i_paneFills k x.pane x.turned x.box.w x.box.h) (.inl rfl) rfl) ?_
              refine qCm (.yes rfl rfl h5) ?_
              refine P10 .none (S_pickF rfl h5 rfl rfl) ?_
              refine Pend ⟨by kernel_rfl, ?_⟩
              exact ⟨!paneFills k x.pane x.turned x.box.w x.box.h, (by simp only [Bool.not_eq_true', Bool.not_eq_false'] at h3 h4 h5; simp [placeOk, h3, h4, h5]), by repeat (first | exact trivial | refine And.intro rfl ?_ | refine And.intro (by show some (PV.c (LC.g _)) = some (PV.c (LC.g _)); simp only [*, decide_true, decide_false, eq_self, if_true, if_false, reduceIte, Bool.false_eq_true, Bool.and_false, Bool.false_and, Bool.true_and, Bool.and_true, Bool.or_true, Bool.true_or, Bool.false_or, Bool.or_false, Bool.not_true, Bool.not_false]) ?_), by repeat (first | exact trivial | refine And.intro rfl ?_ | refine And.intro (by show some (PV.c (LC.g _)) = some (PV.c (LC.g _)); simp only [*, decide_true, decide_false, eq_self, if_true, if_false, reduceIte, Bool.false_eq_true, Bool.and_false, Bool.false_and, Bool.true_and, Bool.and_true, Bool.or_true, Bool.true_or, Bool.false_or, Bool.or_false, Bool.not_true, Bool.not_false]) ?_)⟩
        · skip
          refine PW_cond rfl (fun h6 => ?_) (fun h6 => ?_)
          · -- t47
            refine PW_seq ?_
            -- region 9
            refine PW_region ?_
            refine qMv .none ?_
            refine Pend ?_
            refine PW_ret ⟨.inr rfl, ?_⟩
            exact ret_g (.cons (.tmp rfl) (.c (by first | exact .nil | exact .g _ | exact Ex.whole rfl rfl rfl)) .nil) (by show GV.bool _ = GV.bool _; have g : placeOk k x = false := (by rw [hu8] at h6; simpa using h6); unfold validPlaces; rw [all_not hx g, Bool.and_false, Bool.false_and]) trivial
          · -- not t47
            refine PW_skip ?_
            -- region 10
            refine PW_region ?_
            refine qMv .none ?_
            refine qLd .none ?_
            refine P22 .none (S_lit (.agg rfl rfl rfl (.nil _)) rfl rfl rfl) ?_
            refine P22 .none (S_appW rfl rfl rfl rfl (.ownW rfl rfl rfl) (fun l hl => by simp only [List.mem_singleton] at hl; subst hl; rfl) rfl (by omega) (by simp; omega) rfl) ?_
            refine qMv .none ?_
            refine Pend ?_
            -- region 11
            refine PW_region ?_
            refine qAd .none ?_
            refine qMv .none ?_
            refine Pend ?_
            exact ⟨i + 1, by omega, ⟨by show i + 1 ≤ ps.length; omega, all_next hx hi.2 (by rw [hu8] at h6; simpa using h6)⟩, (by rw [hnx, List.map_append, List.length_append]; repeat (first | exact trivial | refine And.intro rfl ?_)), (by rw [hnx, List.map_append]; repeat (first | exact trivial | refine And.intro rfl ?_))⟩
      · -- not t20
        refine PW_exit ?_
        refine PW_seq ?_
        have hall : ps.take i = ps := List.take_of_length_le (by have := of_decide_eq_false h3; omega)
        rw [hall] at hi ⊢
        have hap := ctr_i_ApartBoxes (ps.map (·.box)) (by simp; omega)
        --region 12
        refine PW_region ?_
        refine qMv .none ?_
        refine P00 .none (S_call (.borw rfl rfl rfl .nil) rfl hap (.inr ⟨flat_bool _, by simp [XA.Flat]⟩) rfl) ?_
        refine qMv .none ?_
        refine Pend ?_
        refine PW_ret ⟨.inr rfl, ?_⟩
        exact ret_g (.cons (.tmp rfl) (.c (by first | exact .nil | exact .g _ | exact Ex.whole rfl rfl rfl)) .nil) (by show GV.bool _ = GV.bool _; unfold validPlaces apartBoxes validBoxes; rw [g12, hi.2, Bool.true_and]; congr 1; have g : (ps.map (·.box)).all validBox = true := (by rw [List.all_eq_true]; intro y hy; obtain ⟨p, hp, rfl⟩ := List.mem_map.1 hy; have := List.all_eq_true.1 hi.2 p hp; simp only [placeOk, Bool.and_eq_true] at this; exact this.1.1); rw [g, decide_eq_true (by simp only [Bool.and_eq_true, decide_eq_true_eq] at g12; rw [List.length_map]; omega)]; rfl) trivial
/- impl.PlanOfPlaces: 25, 45 -> [34, 4] -/
set_option maxRecDepth 100000 in
theorem ctr_i_PlanOfPlaces (k : Work) (ps : List Place) (hl : ps.length ≤ 100000) : CtrG P 55 17 [.c (.g (.agg k.cells)), .c (.g (.sl (ps.map Place.cells)))] [] (planPV (planOf k ps)) [] := by
  have hvp := ctr_i_ValidPlaces k ps hl
  have hsh : Ctr P 119 [.g (.agg k.cells)] (.g (.agg (sheet k).cells)) := ctr_i_sheetOf k
  refine ctr_ofG (fn := Go.Proofs.Try.f55) (by kernel_rfl) rfl rfl rfl ?_
  rintro ⟨n, w0, F0, M, pin⟩ hn
  cases hn
  refine PW_seq ?_
  -- region 0
  refine PW_region ?_
  refine qBx .none ?_
  refine qBx .none ?_
  refine qMv .none ?_
  refine Pend ?_
  refine PW_seq ?_
  refine PW_seq ?_
  -- region 1
  refine PW_region ?_
  refine qLd .none ?_
  refine qMv .none ?_
  refine P00 .none (S_call (.one rfl (.one rfl .nil)) rfl hvp (.inl rfl) rfl) ?_
  refine qCm .none ?_
  refine Pend ?_
  refine PW_cond rfl (fun h1 => ?_) (fun h1 => ?_)
  · -- t9
    refine PW_seq ?_
    -- region 2
    refine PW_region ?_
    refine P10 .none (S_build (gs := [_, _, _, _, _]) (.nil _) rfl rfl) ?_
    refine P01 .none (by first | exact S_storeW rfl rfl rfl rfl rfl rfl | exact S_storeWe rfl rfl rfl HK rfl rfl rfl | exact S_storeP rfl rfl rfl rfl rfl (Nat.le_of_ble_eq_true rfl) | exact S_storeLW rfl rfl rfl rfl rfl rfl rfl | exact S_storeW rfl rfl rfl (Plan.cells_one _) (Plan.cells_len _) rfl) ?_
    refine qMv .none ?_
    refine Pend ?_
    refine PW_ret ⟨.inr rfl, ?_⟩
    rw [show planOf k ps = none from if_neg (by simpa using h1)]
    exact ret_G (.cons (.frz (.gnd rfl rfl rfl) (.up waste_up)) (.cons (.raw (.tmp rfl) rfl) .nil)) rfl trivial rfl rfl
  · -- not t9
    refine PW_skip ?_
    refine PW_seq ?_
    have hv : validPlaces k ps = true := by simpa using h1
    have hv2 := hv
    simp only [validPlaces, Bool.and_eq_true, decide_eq_true_eq, List.all_eq_true, placeOk] at hv2
    have hwk := hv2.1.1.1
    have hsk := sheet_ok hwk
    have hpp := ctr_i_planPlaces 400 ps (sheet k) hl (fun p hp => by have := validBox_iff.1 (hv2.1.2 p hp).1.1; unfold BoxOk; omega) hsk (by simp only [validWork, Bool.and_eq_true, decide_eq_true_eq] at hwk; show k.w + k.h ≤ _; omega)
    rw [show planOf k ps = planP 400 ps (sheet k) from if_pos hv]
    --region 3
    refine PW_region ?_
    refine qMv .none ?_
    refine qLd .none ?_
    refine P00 .none (S_call (.one rfl .nil) rfl hsh (.inl rfl) rfl) ?_
    refine P00 .none (S_callG [] [] false hpp (.g rfl (.g rfl .nil)) trivial rfl (.inl rfl) rfl) ?_
    refine qEx1 .none ?_
    refine qEx1 .none ?_
    refine P01 .none (by first | exact S_storeW rfl rfl rfl rfl rfl rfl | exact S_storeWe rfl rfl rfl HK rfl rfl rfl | exact S_storeP rfl rfl rfl rfl rfl (Nat.le_of_ble_eq_true rfl) | exact S_storeLW rfl rfl rfl rfl rfl rfl rfl | exact S_storeW rfl rfl rfl (Plan.cells_one _) (Plan.cells_len _) rfl) ?_
    refine qMv .none ?_
    refine Pend ?_
    refine PW_ret ⟨.inr rfl, ?_⟩
    exact ret_G (.cons (by first | exact .frz (.tmp rfl) .nil | exact .raw (.tmp rfl) rfl | exact .frz (.tmp rfl) (ExZ.whole rfl rfl rfl) | exact .raw (.gnd rfl rfl rfl) rfl | exact .raw (.gnd rfl rfl (Plan.cells_len _)) rfl) (.cons (by first | exact .frz (.tmp rfl) .nil | exact .raw (.tmp rfl) rfl | exact .frz (.tmp rfl) (ExZ.whole rfl rfl rfl) | exact .raw (.gnd rfl rfl rfl) rfl | exact .raw (.gnd rfl rfl (Plan.cells_len _)) rfl) .nil)) rfl trivial rfl rfl
end Go.Proofs.Ytdmlfhmnlddooaa
namespace Go.Proofs.Ytdmlfhmnlddooaa
open Go Go.Pu

/-- One more pane of the sheet. -/
def addP (bs : List Nat) (t : Bool) (W H : Int) (p : Nat) : Pane × Nat :=
  if t = true then (⟨1 + pickV bs p W, 1 + pickV bs (p + 1) H, decide (pickV bs (p + 2) 2 = 0), pickV bs (p + 3) 2⟩, p + 4)
  else (⟨1 + pickV bs p W, 1 + pickV bs (p + 1) H, false, pickV bs (p + 2) 2⟩, p + 3)
def moreP (bs : List Nat) (t : Bool) (W H : Int) : Nat → Nat → List Pane → List Pane × Nat
  | 0, p, ps => (ps, p)
  | m + 1, p, ps => moreP bs t W H m (addP bs t W H p).2 (ps ++ [(addP bs t W H p).1])
/-- A sheet and its panes, drawn from what the reader holds. -/
def sheetF (bs : List Nat) (t : Bool) (p : Nat) : Work × Nat :=
  let W := oneV bs p [10, 8, 12, 16, 6]
  let H := oneV bs (p + 1) [8, 10, 6, 16, 12]
  let R := moreP bs t W H (oneV bs (p + 2) [3, 4, 2, 5, 1, 0, 7]).toNat (p + 3) []
  (⟨W, H, R.1⟩, R.2)
theorem sheet_in1 (bs : List Nat) (p : Nat) : 1 ≤ oneV bs p [10, 8, 12, 16, 6] ∧ oneV bs p [10, 8, 12, 16, 6] ≤ 16 := by
  have := oneV_mem bs p (l := [10, 8, 12, 16, 6]) (by simp)
  generalize oneV bs p _ = x at this ⊢
  simp only [List.mem_cons, List.not_mem_nil, or_false] at this
  omega
theorem sheet_in2 (bs : List Nat) (p : Nat) : 1 ≤ oneV bs p [8, 10, 6, 16, 12] ∧ oneV bs p [8, 10, 6, 16, 12] ≤ 16 := by
  have := oneV_mem bs p (l := [8, 10, 6, 16, 12]) (by simp)
  generalize oneV bs p _ = x at this ⊢
  simp only [List.mem_cons, List.not_mem_nil, or_false] at this
  omega
theorem sheet_in3 (bs : List Nat) (p : Nat) : 0 ≤ oneV bs p [3, 4, 2, 5, 1, 0, 7] ∧ oneV bs p [3, 4, 2, 5, 1, 0, 7] ≤ 7 := by
  have := oneV_mem bs p (l := [3, 4, 2, 5, 1, 0, 7]) (by simp)
  generalize oneV bs p _ = x at this ⊢
  simp only [List.mem_cons, List.not_mem_nil, or_false] at this
  omega
/-- What every pane that is drawn holds to. -/
def PaneIn (W H : Int) (q : Pane) : Prop := 1 ≤ q.w ∧ q.w ≤ W ∧ 1 ≤ q.h ∧ q.h ≤ H
theorem addP_in (bs : List Nat) (t : Bool) {W H : Int} (hW : 1 ≤ W) (hH : 1 ≤ H) (p : Nat) : PaneIn W H (addP bs t W H p).1 ∧ p ≤ (addP bs t W H p).2 ∧ (addP bs t W H p).2 ≤ p + 4 := by
  have h1 := pickV_in bs p W
  have h2 := pickV_in bs (p + 1) H
  have h3 := h1.2.1 hW
  have h4 := h2.2.1 hH
  unfold addP PaneIn
  split <;> (refine ⟨⟨?_, ?_, ?_, ?_⟩, ?_, ?_⟩ <;> dsimp only <;> omega)
theorem moreP_in (bs : List Nat) (t : Bool) {W H : Int} (hW : 1 ≤ W) (hH : 1 ≤ H) : ∀ (m p : Nat) (ps : List Pane), (∀ q ∈ ps, PaneIn W H q) →
    (moreP bs t W H m p ps).1.length = ps.length + m ∧ (∀ q ∈ (moreP bs t W H m p ps).1, PaneIn W H q) ∧ p ≤ (moreP bs t W H m p ps).2 ∧ (moreP bs t W H m p ps).2 ≤ p + 4 * m := by
  intro m
  induction m with
  | zero => intro p ps h; exact ⟨rfl, h, Nat.le_refl _, by simp [moreP]⟩
  | succ m ih =>
    intro p ps h
    obtain ⟨a1, a2, a3⟩ := addP_in bs t hW hH p
    obtain ⟨b1, b2, b3, b4⟩ := ih (addP bs t W H p).2 (ps ++ [(addP bs t W H p).1]) (fun q hq => by
      rcases List.mem_append.1 hq with hq | hq
      · exact h q hq
      · rw [List.mem_singleton.1 hq]; exact a1)
    rw [List.length_append, List.length_singleton] at b1
    simp only [moreP]
    exact ⟨by omega, b2, by omega, by omega⟩
theorem sheetF_in (bs : List Nat) (t : Bool) (p : Nat) : 1 ≤ (sheetF bs t p).1.w ∧ (sheetF bs t p).1.w ≤ 16 ∧ 1 ≤ (sheetF bs t p).1.h ∧ (sheetF bs t p).1.h ≤ 16 ∧ (sheetF bs t p).1.panes.length ≤ 7 ∧ (∀ q ∈ (sheetF bs t p).1.panes, PaneIn 16 16 q) ∧ p ≤ (sheetF bs t p).2 ∧ (sheetF bs t p).2 ≤ p + 31 := by
  have h1 := sheet_in1 bs p
  have h2 := sheet_in2 bs (p + 1)
  have h3 := sheet_in3 bs (p + 2)
  unfold sheetF
  simp only
  generalize oneV bs p [10, 8, 12, 16, 6] = W at *
  generalize oneV bs (p + 1) [8, 10, 6, 16, 12] = H at *
  generalize oneV bs (p + 2) [3, 4, 2, 5, 1, 0, 7] = D at *
  obtain ⟨d, rfl⟩ : ∃ d : Nat, D = d := ⟨D.toNat, by omega⟩
  rw [Int.toNat_natCast]
  obtain ⟨m1, m2, m3, m4⟩ := moreP_in bs t h1.1 h2.1 d (p + 3) [] (by simp)
  refine ⟨h1.1, h1.2, h2.1, h2.2, by rw [m1]; simp; omega, fun q hq => ?_, by omega, by omega⟩
  obtain ⟨q1, q2, q3, q4⟩ := m2 q hq
  exact ⟨q1, by omega, q3, by omega⟩

/- spec.sheetWork: 85, 4 -> [25] -/
set_option maxRecDepth 100000 in
theorem ctr_sheetWork (bs : List Nat) (hb : ∀ b ∈ bs, b < 256) (t : Bool) (p : Nat) (hp : p ≤ 900000) : CtrG P 125 46 [.c (.optr 46 0 0), .c (.g (.bool t))] [(46, ⟨150, 0, .gnd [Rd bs p]⟩)] (.agg [.g (.int .i64 (sheetF bs t p).1.w), .g (.int .i64 (sheetF bs t p).1.h), .osl 2 0 ((sheetF bs t p).1.panes.map Pane.cells).length]) [(46, ⟨150, 0, .gnd [Rd bs (sheetF bs t p).2]⟩), (2, ⟨82, 0, .gnd ((sheetF bs t p).1.panes.map Pane.cells)⟩)] := by
  have hW := sheet_in1 bs p
  have hH := sheet_in2 bs (p + 1)
  have hD := sheet_in3 bs (p + 2)
  have ho1 := ctr_one bs hb p (by omega) [10, 8, 12, 16, 6] (by simp)
  have ho2 := ctr_one bs hb (p + 1) (by omega) [8, 10, 6, 16, 12] (by simp)
  have ho3 := ctr_one bs hb (p + 2) (by omega) [3, 4, 2, 5, 1, 0, 7] (by simp)
  unfold sheetF
  simp only
  generalize oneV bs p [10, 8, 12, 16, 6] = W at *
  generalize oneV bs (p + 1) [8, 10, 6, 16, 12] = H at *
  generalize oneV bs (p + 2) [3, 4, 2, 5, 1, 0, 7] = D at *
  obtain ⟨d, rfl⟩ : ∃ d : Nat, D = d := ⟨D.toNat, by omega⟩
  rw [Int.toNat_natCast]
  generalize hR : moreP bs t W H d (p + 3) [] = R
  refine ctr_ofG (fn := Go.Proofs.Try.f125) (by kernel_rfl) rfl rfl rfl ?_
  rintro ⟨n, w0, F0, M, pin⟩ hn
  cases hn
  refine PW_seq ?_
  -- region 0
  refine PW_region ?_
  refine qBx .none ?_
  refine Pend ?_
  refine PW_seq ?_
  -- region 1
  refine PW_region ?_
  refine qMv .none ?_
  refine P22 .none (S_lit (.one rfl rfl rfl (.one rfl rfl rfl (.one rfl rfl rfl (.one rfl rfl rfl (.one rfl rfl rfl (.nil _)))))) rfl rfl rfl) ?_
  refine P00 .none (S_callG [(12, 46)] [(12, 46)] false ho1 (.ptr rfl rfl rfl (.borw rfl rfl rfl .nil)) ⟨rfl, trivial⟩ rfl (.inl rfl) rfl) ?_
  refine qMv .none ?_
  refine P22 .none (S_lit (.one rfl rfl rfl (.one rfl rfl rfl (.one rfl rfl rfl (.one rfl rfl rfl (.one rfl rfl rfl (.nil _)))))) rfl rfl rfl) ?_
  refine P00 .none (S_callG [(12, 46)] [(12, 46)] false ho2 (.ptr rfl rfl rfl (.borw rfl rfl rfl .nil)) ⟨rfl, trivial⟩ rfl (.inl rfl) rfl) ?_
  refine P10 .none (S_build (gs := [_, _, _]) (.one rfl rfl rfl rfl (.one rfl rfl rfl rfl (.nil _))) rfl rfl) ?_
  refine qBx .none ?_
  refine qSr .none ?_
  refine Pend ?_
  refine PW_seq ?_
  refine PW_seq ?_
  refine PW_nilC 5 2 2 82 rfl rfl rfl rfl ?_
  --region 2
  refine PW_region ?_
  refine qMv .none ?_
  refine P22 .none (S_lit (.one rfl rfl rfl (.one rfl rfl rfl (.one rfl rfl rfl (.one rfl rfl rfl (.one rfl rfl rfl (.one rfl rfl rfl (.one rfl rfl rfl (.nil _)))))))) rfl rfl rfl) ?_
  refine P00 .none (S_callG [(12, 46)] [(12, 46)] false ho3 (.ptr rfl rfl rfl (.borw rfl rfl rfl .nil)) ⟨rfl, trivial⟩ rfl (.inl rfl) rfl) ?_
  refine qMv .none ?_
  refine Pend ?_
  refine PW_block ?_
  refine PW_iter (ι := Nat × Nat × List Pane) (fun u => [(0, .c (.optr 46 0 0)), (1, .c (.g (.bool t))), (4, .c (.optr 4 0 0)), (5, .c (.optr 5 0 0)), (6, .c (.g (.int .i64 (u.1 : Nat))))]) (fun u => [(46, ⟨150, 0, .gnd [Rd bs u.2.1]⟩), (4, ⟨25, 0, .gnd [[.int .i64 0, .int .i64 0, .nil]]⟩), (5, ⟨25, 0, .loc [[.g (.int .i64 W), .g (.int .i64 H), .osl 2 0 (u.2.2.map Pane.cells).length]]⟩), (2, ⟨82, 0, .gnd (u.2.2.map Pane.cells)⟩)]) (fun u => moreP bs t W H u.1 u.2.1 u.2.2 = R ∧ u.2.2.length + u.1 ≤ 7 ∧ u.2.1 + 4 * u.1 ≤ 900100) (fun u => u.1) (d, p + 3, []) ⟨hR, by simp; omega, by dsimp only; omega⟩ (by repeat (first | exact trivial | refine And.intro rfl ?_)) (by repeat (first | exact trivial | refine And.intro rfl ?_)) (fun u hu => ?_)
  refine PW_seq ?_
  refine PW_seq ?_
  -- region 3
  refine PW_region ?_
  refine qMv .none ?_
  refine qCm .none ?_
  refine Pend ?_
  refine PW_cond rfl (fun h1 => ?_) (fun h1 => ?_)
  · -- t18
    refine PW_skip ?_
    refine PW_seq ?_
    refine PW_block ?_
    obtain ⟨m, hm⟩ : ∃ m, u.1 = m + 1 := ⟨u.1 - 1, by have := of_decide_eq_true h1; omega⟩
    obtain ⟨u1, q, ps⟩ := u
    dsimp only at hm hu ⊢
    subst hm
    have hlm : (ps.map Pane.cells).length = ps.length := List.length_map _
    have hpa := ctr_pick bs hb q (by omega) W
    have hpb := ctr_pick bs hb (q + 1) (by omega) H
    have hpc := ctr_pick bs hb (q + 2) (by omega) 2
    have hpd := ctr_pick bs hb (q + 3) (by omega) 2
    have hva := pickV_in bs q W
    have hvb := pickV_in bs (q + 1) H
    have hva1 := hva.2.1 hW.1
    have hvb1 := hvb.2.1 hH.1
    obtain ⟨hu1, hu2, hu3⟩ := hu
    simp only [moreP] at hu1
    --region 5
    refine PW_draw (by kernel_rfl) ?_
    refine qFd .none ?_
    refine qLd .none ?_
    refine qMv .none ?_
    refine qFd .none ?_
    refine qLd .none ?_
    refine P00 .none (S_callG [(99, 46)] [(99, 46)] false hpa (.ptr rfl rfl rfl (.g rfl .nil)) ⟨rfl, trivial⟩ rfl (.inl rfl) rfl) ?_
    refine qAd .none ?_
    refine qMv .none ?_
    refine qFd .none ?_
    refine qLd .none ?_
    refine P00 .none (S_callG [(99, 46)] [(99, 46)] false hpb (.ptr rfl rfl rfl (.g rfl .nil)) ⟨rfl, trivial⟩ rfl (.inl rfl) rfl) ?_
    refine qAd .none ?_
    refine qMv .none ?_
    refine qMv .none ?_
    refine Psplit 34 rfl (fun h2 => ?_) (fun h2 => ?_)
    · -- t34 = true
      refine qMv (.yes rfl rfl h2) ?_
      refine P00 (.yes rfl rfl h2) (S_callG [(99, 46)] [(99, 46)] false hpc (.ptr rfl rfl rfl (.g rfl .nil)) ⟨rfl, trivial⟩ rfl (.inl rfl) rfl) ?_
      refine qCm (.yes rfl rfl h2) ?_
      refine P10 .none (S_pickT rfl h2 rfl rfl) ?_
      refine qMv .none ?_
      refine P00 .none (S_callG [(99, 46)] [(99, 46)] false hpd (.ptr rfl rfl rfl (.g rfl .nil)) ⟨rfl, trivial⟩ rfl (.inl rfl) rfl) ?_
      refine P10 .none (S_build (gs := [_, _, _, _]) (.one rfl rfl rfl rfl (.one rfl rfl rfl rfl (.one rfl rfl rfl rfl (.one rfl rfl rfl rfl (.nil _))))) rfl rfl) ?_
      refine P22 .none (S_lit (.agg rfl rfl rfl (.nil _)) rfl rfl rfl) ?_
      refine P22 .none (S_appW rfl rfl rfl rfl (.ownW rfl rfl rfl) (fun l hl => by simp only [List.mem_singleton] at hl; subst hl; rfl) rfl (by omega) (by simp; omega) rfl) ?_
      refine qFd .none ?_
      refine qSr .none ?_
      refine Pend ⟨by kernel_rfl, ?_⟩
      -- region 4
      refine PW_region ?_
      refine qMv .none ?_
      refine qSb .none ?_
      refine qMv .none ?_
      refine Pend ?_
      refine ⟨(m, q + 4, ps ++ [⟨1 + pickV bs q W, 1 + pickV bs (q + 1) H, decide (pickV bs (q + 2) 2 = 0), pickV bs (q + 3) 2⟩]), by dsimp only; omega, ⟨?_, by dsimp only; rw [List.length_append, List.length_singleton]; omega, by dsimp only; omega⟩, (by rw [show (((m + 1 : Nat) : Int) - 1) = (m : Int) by omega]; repeat (first | exact trivial | refine And.intro rfl ?_)), (by rw [List.map_append, List.length_append]; repeat (first | exact trivial | refine And.intro rfl ?_))⟩
      rw [← hu1]; simp [addP, h2]
    · -- t34 = false
      refine Pskip rfl rfl h2 rfl ?_
      refine Pskip rfl rfl h2 rfl ?_
      refine Pskip rfl rfl h2 rfl ?_
      refine P10 .none (S_pickF rfl h2 rfl rfl) ?_
      refine qMv .none ?_
      refine P00 .none (S_callG [(99, 46)] [(99, 46)] false hpc (.ptr rfl rfl rfl (.g rfl .nil)) ⟨rfl, trivial⟩ rfl (.inl rfl) rfl) ?_
      refine P10 .none (S_build (gs := [_, _, _, _]) (.one rfl rfl rfl rfl (.one rfl rfl rfl rfl (.one rfl rfl rfl rfl (.one rfl rfl rfl rfl (.nil _))))) rfl rfl) ?_
      refine P22 .none (S_lit (.agg rfl rfl rfl (.nil _)) rfl rfl rfl) ?_
      refine P22 .none (S_appW rfl rfl rfl rfl (.ownW rfl rfl rfl) (fun l hl => by simp only [List.mem_singleton] at hl; subst hl; rfl) rfl (by omega) (by simp; omega) rfl) ?_
      refine qFd .none ?_
      refine qSr .none ?_
      refine Pend ⟨by kernel_rfl, ?_⟩
      -- region 4
      refine PW_region ?_
      refine qMv .none ?_
      refine qSb .none ?_
      refine qMv .none ?_
      refine Pend ?_
      refine ⟨(m, q + 3, ps ++ [⟨1 + pickV bs q W, 1 + pickV bs (q + 1) H, false, pickV bs (q + 2) 2⟩]), by dsimp only; omega, ⟨?_, by dsimp only; rw [List.length_append, List.length_singleton]; omega, by dsimp only; omega⟩, (by rw [show (((m + 1 : Nat) : Int) - 1) = (m : Int) by omega]; repeat (first | exact trivial | refine And.intro rfl ?_)), (by rw [List.map_append, List.length_append]; repeat (first | exact trivial | refine And.intro rfl ?_))⟩
      rw [← hu1]; simp [addP, h2]
  · -- not t18
    refine PW_exit ?_
    refine PW_seq ?_
    have hm0 : u.1 = 0 := by have := of_decide_eq_false h1; omega
    obtain ⟨u1, q, ps⟩ := u
    dsimp only at hm0 hu ⊢
    subst hm0
    obtain ⟨hu1, hu2, hu3⟩ := hu
    simp only [moreP] at hu1
    subst hu1
    --region 6
    refine PW_region ?_
    refine qLd .none ?_
    refine qSr .none ?_
    refine Pend ?_
    refine PW_ret ⟨.inr rfl, ?_⟩
    exact ret_G (.cons (.aggR (.loc rfl rfl rfl) rfl) .nil) rfl ⟨rfl, rfl, trivial⟩ rfl rfl

/-- The same, perhaps not valid. -/
def anyS (bs : List Nat) (t : Bool) (p : Nat) : Work × Nat :=
  let k := (sheetF bs t p).1
  let q := (sheetF bs t p).2
  let c := pickV bs q 16
  if c = 0 then (⟨oneV bs (q + 1) [0, 17, 201], k.h, k.panes⟩, q + 2)
  else if c = 1 then (match k.panes with
    | [] => (k, q + 1)
    | x :: r => (⟨k.w, k.h, ⟨k.w + 1, x.h, x.turns, x.kind⟩ :: r⟩, q + 1))
  else (k, q + 1)
/-- What the panes hold to, though the work be not valid. -/
def PaneAny (q : Pane) : Prop := 1 ≤ q.w ∧ q.w ≤ 17 ∧ 1 ≤ q.h ∧ q.h ≤ 16
theorem anyS_in (bs : List Nat) (t : Bool) (p : Nat) : 0 ≤ (anyS bs t p).1.w ∧ (anyS bs t p).1.w ≤ 201 ∧ 1 ≤ (anyS bs t p).1.h ∧ (anyS bs t p).1.h ≤ 16 ∧ (anyS bs t p).1.panes.length ≤ 7 ∧ (∀ q ∈ (anyS bs t p).1.panes, PaneAny q) ∧ p ≤ (anyS bs t p).2 ∧ (anyS bs t p).2 ≤ p + 33 := by
  obtain ⟨h1, h2, h3, h4, h5, h6, h7, h8⟩ := sheetF_in bs t p
  have ho := oneV_mem bs ((sheetF bs t p).2 + 1) (l := [0, 17, 201]) (by simp)
  unfold anyS
  simp only
  generalize oneV bs _ _ = x at ho ⊢
  simp only [List.mem_cons, List.not_mem_nil, or_false] at ho
  have hg : ∀ q ∈ (sheetF bs t p).1.panes, PaneAny q := fun q hq => by
    obtain ⟨a, b, c, d⟩ := h6 q hq
    exact ⟨a, by omega, c, d⟩
  generalize sheetF bs t p = S at *
  obtain ⟨⟨w, h, ps⟩, q⟩ := S
  dsimp only at *
  split
  · exact ⟨by dsimp only; omega, by dsimp only; omega, h3, h4, h5, hg, by dsimp only; omega, by dsimp only; omega⟩
  · split
    · cases ps with
      | nil => exact ⟨by dsimp only; omega, by dsimp only; omega, h3, h4, h5, hg, by dsimp only; omega, by dsimp only; omega⟩
      | cons x r =>
        refine ⟨by dsimp only; omega, by dsimp only; omega, h3, h4, h5, fun y hy => ?_, by dsimp only; omega, by dsimp only; omega⟩
        rcases List.mem_cons.1 hy with rfl | hy
        · obtain ⟨a, b, c, d⟩ := hg x (by simp)
          exact ⟨by dsimp only; omega, by dsimp only; omega, c, d⟩
        · exact hg y (by simp [hy])
    · exact ⟨by dsimp only; omega, by dsimp only; omega, h3, h4, h5, hg, by dsimp only; omega, by dsimp only; omega⟩

/- spec.anySheetWork: 85, 4 -> [25] -/
set_option maxRecDepth 100000 in
theorem ctr_anySheetWork (bs : List Nat) (hb : ∀ b ∈ bs, b < 256) (t : Bool) (p : Nat) (hp : p ≤ 800000) : CtrG P 66 31 [.c (.optr 31 0 0), .c (.g (.bool t))] [(31, ⟨150, 0, .gnd [Rd bs p]⟩)] (.c (.g (.agg (anyS bs t p).1.cells))) [(31, ⟨150, 0, .gnd [Rd bs (anyS bs t p).2]⟩)] := by
  have hsw := ctr_sheetWork bs hb t p (by omega)
  obtain ⟨w1, w2, w3, w4, w5, w6, w7, w8⟩ := sheetF_in bs t p
  generalize hA : anyS bs t p = A
  unfold anyS at hA
  simp only at hA
  generalize (sheetF bs t p).1 = k at *
  generalize (sheetF bs t p).2 = q at *
  obtain ⟨W, H, panes⟩ := k
  have hpk := ctr_pick bs hb q (by omega) 16
  have ho := ctr_one bs hb (q + 1) (by omega) [0, 17, 201] (by simp)
  have hlm : (panes.map Pane.cells).length = panes.length := List.length_map _
  dsimp only at *
  refine ctr_ofG (fn := Go.Proofs.Try.f66) (by kernel_rfl) rfl rfl rfl ?_
  rintro ⟨n, w0, F0, M, pin⟩ hn
  cases hn
  refine PW_seq ?_
  -- region 0
  refine PW_region ?_
  refine qBx .none ?_
  refine Pend ?_
  refine PW_seq ?_
  -- region 1
  refine PW_region ?_
  refine qMv .none ?_
  refine qMv .none ?_
  refine P00 .none (S_callG [(46, 31)] [(46, 31), (2, 2)] false hsw (.ptr rfl rfl rfl (.g rfl .nil)) ⟨rfl, trivial⟩ rfl (.inl rfl) rfl) ?_
  refine qBx .none ?_
  refine qSr .none ?_
  refine Pend ?_
  refine PW_seq ?_
  refine PW_seq ?_
  -- region 2
  refine PW_region ?_
  refine qMv .none ?_
  refine P00 .none (S_callG [(99, 31)] [(99, 31)] false hpk (.ptr rfl rfl rfl (.g rfl .nil)) ⟨rfl, trivial⟩ rfl (.inl rfl) rfl) ?_
  refine Pend ?_
  refine PW_block ?_
  refine PW_seq ?_
  -- region 3
  refine PW_region ?_
  refine qCm .none ?_
  refine qMv .none ?_
  refine Pend ?_
  refine PW_cond rfl (fun h1 => ?_) (fun h1 => ?_)
  · -- t11
    -- region 4
    refine PW_region ?_
    refine qMv .none ?_
    refine P22 .none (S_lit (.one rfl rfl rfl (.one rfl rfl rfl (.one rfl rfl rfl (.nil _)))) rfl rfl rfl) ?_
    refine P00 .none (S_callG [(12, 31)] [(12, 31)] false ho (.ptr rfl rfl rfl (.borw rfl rfl rfl .nil)) ⟨rfl, trivial⟩ rfl (.inl rfl) rfl) ?_
    refine qFd .none ?_
    refine qSr .none ?_
    refine Pend ?_
    refine PW_seq ?_
    -- region 8
    refine PW_region ?_
    refine qLd .none ?_
    refine qSr .none ?_
    refine Pend ?_
    refine PW_ret ⟨.inr rfl, ?_⟩
    rw [if_pos (of_decide_eq_true h1)] at hA
    subst hA
    exact ret_G (.cons (.aggL (.loc rfl rfl rfl) (.cons (.g _) (.cons (.g _) (.cons (ExZ.whole rfl rfl (by simp)) .nil)))) .nil) rfl ⟨rfl, trivial⟩ rfl rfl
  · -- not t11
    refine PW_seq ?_
    -- region 5
    refine PW_region ?_
    refine qCm .none ?_
    refine qMv .none ?_
    refine Pend ?_
    refine PW_cond rfl (fun h2 => ?_) (fun h2 => ?_)
    · -- t17
      refine PW_seq ?_
      -- region 6
      refine PW_region ?_
      refine qFd .none ?_
      refine qLd .none ?_
      refine qLn .none ?_
      refine qCm .none ?_
      refine Pend ?_
      refine PW_cond rfl (fun h3 => ?_) (fun h3 => ?_)
      · -- t22
        obtain ⟨x, r, rfl⟩ : ∃ x r, panes = x :: r := by
          cases panes with
          | nil => have := of_decide_eq_true h3; simp at this
          | cons x r => exact ⟨x, r, rfl⟩
        obtain ⟨xw, xh, xt, xk⟩ := x
        --region 7
        refine PW_region ?_
        refine qFd .none ?_
        refine qLd .none ?_
        refine qFd .none ?_
        refine qLd .none ?_
        refine qAd .none ?_
        refine P10 .none (by first | exact S_indexR rfl rfl (k := 0) rfl rfl rfl rfl | exact S_indexO rfl rfl rfl rfl (k := 0) rfl (by simp) rfl) ?_
        refine qFd .none ?_
        refine P01 .none (S_store1e rfl rfl rfl rfl rfl (by simp [Pane.cells])) ?_
        refine Pend ?_
        refine PW_seq ?_
        -- region 8
        refine PW_region ?_
        refine qLd .none ?_
        refine qSr .none ?_
        refine Pend ?_
        refine PW_ret ⟨.inr rfl, ?_⟩
        rw [if_neg (of_decide_eq_false h1), if_pos (of_decide_eq_true h2)] at hA
        subst hA
        exact ret_G (.cons (.aggL (.loc rfl rfl rfl) (.cons (.g _) (.cons (.g _) (.cons (ExZ.whole rfl rfl (by simp)) .nil)))) .nil) rfl ⟨rfl, trivial⟩ rfl rfl
      · -- not t22
        refine PW_skip ?_
        refine PW_seq ?_
        -- region 8
        refine PW_region ?_
        refine qLd .none ?_
        refine qSr .none ?_
        refine Pend ?_
        refine PW_ret ⟨.inr rfl, ?_⟩
        rw [if_neg (of_decide_eq_false h1), if_pos (of_decide_eq_true h2)] at hA
        obtain rfl : panes = [] := List.length_eq_zero_iff.1 (by have := of_decide_eq_false h3; omega)
        subst hA
        exact ret_G (.cons (.aggL (.loc rfl rfl rfl) (.cons (.g _) (.cons (.g _) (.cons (ExZ.whole rfl rfl (by simp)) .nil)))) .nil) rfl ⟨rfl, trivial⟩ rfl rfl
    · -- not t17
      refine PW_skip ?_
      refine PW_seq ?_
      -- region 8
      refine PW_region ?_
      refine qLd .none ?_
      refine qSr .none ?_
      refine Pend ?_
      refine PW_ret ⟨.inr rfl, ?_⟩
      rw [if_neg (of_decide_eq_false h1), if_neg (of_decide_eq_false h2)] at hA
      subst hA
      exact ret_G (.cons (.aggL (.loc rfl rfl rfl) (.cons (.g _) (.cons (.g _) (.cons (ExZ.whole rfl rfl (by simp)) .nil)))) .nil) rfl ⟨rfl, trivial⟩ rfl rfl
end Go.Proofs.Ytdmlfhmnlddooaa
namespace Go.Proofs.Ytdmlfhmnlddooaa
open Go Go.Pu

/-- The list from which the value of a pane is drawn. -/
def valL (bs : List Nat) (x : Pane) (q : Nat) : List Int := [x.w * x.h + pickV bs q 9, 1 + pickV bs (q + 1) 50, 1 + pickV bs (q + 2) 50]
def valsF (bs : List Nat) : List Pane → Nat → List Int → List Int × Nat
  | [], q, out => (out, q)
  | x :: r, q, out => valsF bs r (q + 4) (out ++ [oneV bs (q + 3) (valL bs x q)])
/-- The first value, perhaps spoiled. -/
def spoilV (bs : List Nat) (q : Nat) : List Int → List Int
  | [] => []
  | x :: r => if pickV bs q 12 = 0 then oneV bs (q + 1) [0, 1001] :: r else x :: r
/-- The work and the values that are drawn. -/
def drawV (bs : List Nat) : Work × List Int :=
  let S := anyS bs true 0
  let V := valsF bs S.1.panes S.2 []
  (S.1, spoilV bs V.2 V.1)
theorem valsF_in (bs : List Nat) : ∀ (ps : List Pane) (q : Nat) (out : List Int), (valsF bs ps q out).1.length = out.length + ps.length ∧ (valsF bs ps q out).2 = q + 4 * ps.length := by
  intro ps
  induction ps with
  | nil => intro q out; exact ⟨rfl, rfl⟩
  | cons x r ih =>
    intro q out
    obtain ⟨h1, h2⟩ := ih (q + 4) (out ++ [oneV bs (q + 3) (valL bs x q)])
    simp only [valsF, List.length_cons]
    rw [h1, h2, List.length_append, List.length_singleton]
    omega
theorem spoilV_len (bs : List Nat) (q : Nat) (l : List Int) : (spoilV bs q l).length = l.length := by
  cases l with
  | nil => rfl
  | cons x r => simp only [spoilV]; split <;> rfl
theorem drawV_in (bs : List Nat) : 0 ≤ (drawV bs).1.w ∧ (drawV bs).1.w ≤ 201 ∧ 1 ≤ (drawV bs).1.h ∧ (drawV bs).1.h ≤ 16 ∧ (drawV bs).1.panes.length ≤ 7 ∧ (drawV bs).2.length = (drawV bs).1.panes.length := by
  obtain ⟨h1, h2, h3, h4, h5, h6, h7, h8⟩ := anyS_in bs true 0
  have := valsF_in bs (anyS bs true 0).1.panes (anyS bs true 0).2 []
  unfold drawV
  simp only
  rw [spoilV_len, this.1]
  exact ⟨h1, h2, h3, h4, h5, by simp⟩
theorem valL_in {bs : List Nat} {x : Pane} (hx : PaneAny x) (q : Nat) : ∃ m : Int, 1 ≤ m ∧ m ≤ 272 ∧ x.w * x.h = m := by
  obtain ⟨a, b, c, d⟩ := hx
  refine ⟨x.w * x.h, ?_, ?_, rfl⟩
  · have := Int.mul_le_mul a c (by omega) (by omega); omega
  · have := Int.mul_le_mul b d (by omega) (by omega); omega

/- spec.DrawBestValue: 22 -> [25, 26] -/
set_option maxRecDepth 100000 in
theorem ctr_drawV (bs : List Nat) (hb : ∀ b ∈ bs, b < 256) (hl : bs.length ≤ 10000000) : CtrG P 9 63 [.c (.g (.sl (rows bs)))] [] (.tup [(false, [.g (.agg (drawV (bs.take 2000)).1.cells)]), (false, [.g (.sl ((drawV (bs.take 2000)).2.map encI))])]) [] := by
  have hnr := ctr_s_newReader bs hb hl
  have hbt : ∀ b ∈ bs.take 2000, b < 256 := fun b h => hb b (List.mem_of_mem_take h)
  generalize bs.take 2000 = cs at *
  have hsw := ctr_anySheetWork cs hbt true 0 (by omega)
  obtain ⟨w1, w2, w3, w4, w5, w6, w7, w8⟩ := anyS_in cs true 0
  unfold drawV
  simp only
  generalize (anyS cs true 0).1 = k at *
  generalize (anyS cs true 0).2 = q0 at *
  have hvl := valsF_in cs k.panes q0 []
  generalize hV : valsF cs k.panes q0 [] = V at *
  have hpm : (k.panes.map Pane.cells).length = k.panes.length := List.length_map _
  have hpk := ctr_pick cs hbt V.2 (by omega) 12
  have ho2 := ctr_one cs hbt (V.2 + 1) (by omega) [0, 1001] (by simp)
  refine ctr_ofG (fn := Go.Proofs.Try.f9) (by kernel_rfl) rfl rfl rfl ?_
  rintro ⟨n, w0, F0, M, pin⟩ hn
  cases hn
  refine PW_seq ?_
  -- region 0
  refine PW_region ?_
  refine qBx .none ?_
  refine qMv .none ?_
  refine Pend ?_
  refine PW_seq ?_
  -- region 1
  refine PW_region ?_
  refine qMv .none ?_
  refine P00 .none (S_callG [] [(10, 1)] false hnr (.g rfl .nil) trivial rfl (.inl rfl) rfl) ?_
  refine qMv .none ?_
  refine Pend ?_
  refine PW_seq ?_
  -- region 2
  refine PW_region ?_
  refine qMv .none ?_
  refine P00 .none (S_callG [(31, 1)] [(31, 1)] false hsw (.ptr rfl rfl rfl (.g rfl .nil)) ⟨rfl, trivial⟩ rfl (.inl rfl) rfl) ?_
  refine qBx .none ?_
  refine qSr .none ?_
  refine Pend ?_
  refine PW_seq ?_
  -- region 3
  refine PW_region ?_
  refine P22 .none (S_lit (.nil _) rfl rfl rfl) ?_
  refine qMv .none ?_
  refine Pend ?_
  refine PW_seq ?_
  refine PW_seq ?_
  -- region 4
  refine PW_region ?_
  refine qMv .none ?_
  refine Pend ?_
  refine PW_block ?_
  refine PW_iter (ι := Nat × Nat × List Int) (fun u => [(2, .c (.optr 2 0 0)), (4, .c (.optr 1 0 0)), (5, .c (.optr 5 0 0)), (6, .c (.osl 12 0 (u.2.2.map encI).length)), (7, .c (.g (.int .i64 (u.1 : Nat))))]) (fun u => [(1, ⟨150, 0, .gnd [Rd cs u.2.1]⟩), (2, ⟨25, 0, .gnd [[.int .i64 0, .int .i64 0, .nil]]⟩), (5, ⟨25, 0, .gnd [[.int .i64 k.w, .int .i64 k.h, .sl (k.panes.map Pane.cells)]]⟩), (12, ⟨3, 0, .gnd (u.2.2.map encI)⟩)]) (fun u => valsF cs (k.panes.drop u.1) u.2.1 u.2.2 = V ∧ u.1 ≤ k.panes.length ∧ u.2.1 + 4 * (k.panes.length - u.1) ≤ 5000 ∧ u.2.2.length = u.1) (fun u => k.panes.length - u.1) (0, q0, []) ⟨hV, Nat.zero_le _, by dsimp only; omega, rfl⟩ (by repeat (first | exact trivial | refine And.intro rfl ?_)) (by repeat (first | exact trivial | refine And.intro rfl ?_)) (fun u hu => ?_)
  refine PW_seq ?_
  refine PW_seq ?_
  -- region 5
  refine PW_region ?_
  refine qMv .none ?_
  refine qFd .none ?_
  refine qLd .none ?_
  refine qLn .none ?_
  refine qCm .none ?_
  refine Pend ?_
  refine PW_cond rfl (fun h1 => ?_) (fun h1 => ?_)
  · -- t17
    refine PW_skip ?_
    refine PW_seq ?_
    refine PW_block ?_
    obtain ⟨i, q, out⟩ := u
    obtain ⟨hu1, hu2, hu3, hu4⟩ := hu
    obtain ⟨x, hx⟩ := at_lt h1
    dsimp only at hx hu1 hu2 hu3 hu4 ⊢
    have hlt := (List.getElem?_eq_some_iff.1 hx).1
    have hxp := w6 x (List.mem_of_getElem? hx)
    obtain ⟨m, hm1, hm2, hm⟩ := valL_in (bs := cs) hxp q
    have hp1 := ctr_pick cs hbt q (by omega) 9
    have hp2 := ctr_pick cs hbt (q + 1) (by omega) 50
    have hp3 := ctr_pick cs hbt (q + 2) (by omega) 50
    have hv1 := pickV_in cs q 9
    have hv2 := pickV_in cs (q + 1) 50
    have hv3 := pickV_in cs (q + 2) 50
    have hv11 := hv1.2.1 (by omega)
    have hv21 := hv2.2.1 (by omega)
    have hv31 := hv3.2.1 (by omega)
    have ho1 := ctr_one cs hbt (q + 3) (by omega) (valL cs x q) (by simp [valL])
    have hml : (out.map encI).length = out.length := List.length_map _
    rw [List.drop_eq_getElem_cons hlt, (List.getElem?_eq_some_iff.1 hx).2] at hu1
    simp only [valsF] at hu1
    --region 7
    refine PW_draw (by kernel_rfl) ?_
    refine qMv .none ?_
    refine qMv .none ?_
    refine qFd .none ?_
    refine qLd .none ?_
    refine qMv .none ?_
    refine P10 .none (by first | exact S_indexR rfl rfl rfl (map_at hx) rfl rfl | exact S_indexO rfl rfl rfl rfl rfl (map_at hx) rfl) ?_
    refine qFd .none ?_
    refine qLd .none ?_
    refine qFd .none ?_
    refine qLd .none ?_
    refine qMv .none ?_
    refine P10 .none (by first | exact S_indexR rfl rfl rfl (map_at hx) rfl rfl | exact S_indexO rfl rfl rfl rfl rfl (map_at hx) rfl) ?_
    refine qFd .none ?_
    refine qLd .none ?_
    refine qMl .none ?_
    refine qMv .none ?_
    refine P00 .none (S_callG [(99, 1)] [(99, 1)] false hp1 (.ptr rfl rfl rfl (.g rfl .nil)) ⟨rfl, trivial⟩ rfl (.inl rfl) rfl) ?_
    refine qAd .none ?_
    refine qMv .none ?_
    refine P00 .none (S_callG [(99, 1)] [(99, 1)] false hp2 (.ptr rfl rfl rfl (.g rfl .nil)) ⟨rfl, trivial⟩ rfl (.inl rfl) rfl) ?_
    refine qAd .none ?_
    refine qMv .none ?_
    refine P00 .none (S_callG [(99, 1)] [(99, 1)] false hp3 (.ptr rfl rfl rfl (.g rfl .nil)) ⟨rfl, trivial⟩ rfl (.inl rfl) rfl) ?_
    refine qAd .none ?_
    refine P22 .none (S_lit (.one rfl rfl rfl (.one rfl rfl rfl (.one rfl rfl rfl (.nil _)))) rfl rfl rfl) ?_
    refine P00 .none (S_callG [(12, 1)] [(12, 1)] false ho1 (.ptr rfl rfl rfl (.borw rfl rfl rfl .nil)) ⟨rfl, trivial⟩ rfl (.inl rfl) rfl) ?_
    refine P22 .none (S_lit (.one rfl rfl rfl (.nil _)) rfl rfl rfl) ?_
    refine P22 .none (S_appW rfl rfl rfl rfl (.ownW rfl rfl rfl) (fun l hl => by simp only [List.mem_singleton] at hl; subst hl; rfl) rfl (by omega) (by simp; omega) rfl) ?_
    refine qMv .none ?_
    refine Pend ⟨by kernel_rfl, ?_⟩
    -- region 6
    refine PW_region ?_
    refine qMv .none ?_
    refine qAd .none ?_
    refine qMv .none ?_
    refine Pend ?_
    exact ⟨(i + 1, q + 4, out ++ [oneV cs (q + 3) (valL cs x q)]), by dsimp only; omega, ⟨hu1, by dsimp only; omega, by dsimp only; omega, by dsimp only; rw [List.length_append, List.length_singleton]; omega⟩, (by rw [List.map_append, List.length_append]; repeat (first | exact trivial | refine And.intro rfl ?_)), (by rw [List.map_append]; repeat (first | exact trivial | refine And.intro rfl ?_))⟩
  · -- not t17
    refine PW_exit ?_
    have hui : u.1 = k.panes.length := by have := of_decide_eq_false h1; have := hu.2.1; omega
    obtain ⟨i, q, out⟩ := u
    obtain ⟨hu1, hu2, hu3, hu4⟩ := hu
    dsimp only at hui hu1 hu2 hu3 hu4 ⊢
    subst hui
    rw [List.drop_length] at hu1
    simp only [valsF] at hu1
    subst hu1
    dsimp only at hpk ho2
    have hml : (out.map encI).length = out.length := List.length_map _
    refine PW_join (ι := List Int) (fun u => [(2, .c (.optr 2 0 0)), (5, .c (.optr 5 0 0)), (6, .c (.osl 12 0 (u.map encI).length))]) (fun u => [(2, ⟨25, 0, .gnd [[.int .i64 0, .int .i64 0, .nil]]⟩), (5, ⟨25, 0, .gnd [[.int .i64 k.w, .int .i64 k.h, .sl (k.panes.map Pane.cells)]]⟩), (12, ⟨3, 0, .gnd (u.map encI)⟩)]) (fun u => u = spoilV cs q out) ?_ (fun u hu => ?_)
    ·
      refine PW_seq ?_
      -- region 8
      refine PW_region ?_
      refine qMv .none ?_
      refine qLn .none ?_
      refine qCm .none ?_
      refine qMv .none ?_
      refine Psplit 51 rfl (fun h2 => ?_) (fun h2 => ?_)
      · -- t51 = true
        refine qMv (.yes rfl rfl h2) ?_
        refine P00 (.yes rfl rfl h2) (S_callG [(99, 1)] [(99, 1)] false hpk (.ptr rfl rfl rfl (.g rfl .nil)) ⟨rfl, trivial⟩ rfl (.inl rfl) rfl) ?_
        refine qCm (.yes rfl rfl h2) ?_
        refine P10 .none (S_pickT rfl h2 rfl rfl) ?_
        refine Pend ?_
        refine PW_cond rfl (fun h3 => ?_) (fun h3 => ?_)
        · -- t55
          obtain ⟨x, r, rfl⟩ : ∃ x r, out = x :: r := by
            cases out with
            | nil => have := of_decide_eq_true h2; simp at this
            | cons x r => exact ⟨x, r, rfl⟩
          --region 9
          refine PW_region ?_
          refine qMv .none ?_
          refine qMv .none ?_
          refine P22 .none (S_lit (.one rfl rfl rfl (.one rfl rfl rfl (.nil _))) rfl rfl rfl) ?_
          refine P00 .none (S_callG [(12, 1)] [(12, 1)] false ho2 (.ptr rfl rfl rfl (.borw rfl rfl rfl .nil)) ⟨rfl, trivial⟩ rfl (.inl rfl) rfl) ?_
          refine P10 .none (by first | exact S_indexR rfl rfl (k := 0) rfl rfl rfl rfl | exact S_indexO rfl rfl rfl rfl (k := 0) rfl (by simp) rfl) ?_
          refine P01 .none (S_store1e rfl rfl rfl rfl rfl (by simp [encI])) ?_
          refine Pend ?_
          exact ⟨oneV cs (q + 1) [0, 1001] :: r, (by simp only [spoilV]; rw [if_pos (of_decide_eq_true h3)]), by repeat (first | exact trivial | refine And.intro rfl ?_ | refine And.intro (by show some (PV.c (LC.g _)) = some (PV.c (LC.g _)); simp only [*, decide_true, decide_false, eq_self, if_true, if_false, reduceIte, Bool.false_eq_true, Bool.and_false, Bool.false_and, Bool.true_and, Bool.and_true, Bool.or_true, Bool.true_or, Bool.false_or, Bool.or_false, Bool.not_true, Bool.not_false]) ?_), by repeat (first | exact trivial | refine And.intro rfl ?_ | refine And.intro (by show some (PV.c (LC.g _)) = some (PV.c (LC.g _)); simp only [*, decide_true, decide_false, eq_self, if_true, if_false, reduceIte, Bool.false_eq_true, Bool.and_false, Bool.false_and, Bool.true_and, Bool.and_true, Bool.or_true, Bool.true_or, Bool.false_or, Bool.or_false, Bool.not_true, Bool.not_false]) ?_)⟩
        · -- not t55
          refine PW_skip ?_
          exact ⟨out, (by cases out with
              | nil => rfl
              | cons x r => simp only [spoilV]; rw [if_neg (of_decide_eq_false h3)]), by repeat (first | exact trivial | refine And.intro rfl ?_ | refine And.intro (by show some (PV.c (LC.g _)) = some (PV.c (LC.g _)); simp only [*, decide_true, decide_false, eq_self, if_true, if_false, reduceIte, Bool.false_eq_true, Bool.and_false, Bool.false_and, Bool.true_and, Bool.and_true, Bool.or_true, Bool.true_or, Bool.false_or, Bool.or_false, Bool.not_true, Bool.not_false]) ?_), by repeat (first | exact trivial | refine And.intro rfl ?_ | refine And.intro (by show some (PV.c (LC.g _)) = some (PV.c (LC.g _)); simp only [*, decide_true, decide_false, eq_self, if_true, if_false, reduceIte, Bool.false_eq_true, Bool.and_false, Bool.false_and, Bool.true_and, Bool.and_true, Bool.or_true, Bool.true_or, Bool.false_or, Bool.or_false, Bool.not_true, Bool.not_false]) ?_)⟩
      · -- t51 = false
        refine Pskip rfl rfl h2 rfl ?_
        refine Pskip rfl rfl h2 rfl ?_
        refine Pskip rfl rfl h2 rfl ?_
        refine P10 .none (S_pickF rfl h2 rfl rfl) ?_
        refine Pend ?_
        refine PW_condF rfl rfl ?_
        refine PW_skip ?_
        exact ⟨out, (by cases out with
            | nil => rfl
            | cons x r => have := of_decide_eq_false h2; simp at this), by repeat (first | exact trivial | refine And.intro rfl ?_ | refine And.intro (by show some (PV.c (LC.g _)) = some (PV.c (LC.g _)); simp only [*, decide_true, decide_false, eq_self, if_true, if_false, reduceIte, Bool.false_eq_true, Bool.and_false, Bool.false_and, Bool.true_and, Bool.and_true, Bool.or_true, Bool.true_or, Bool.false_or, Bool.or_false, Bool.not_true, Bool.not_false]) ?_), by repeat (first | exact trivial | refine And.intro rfl ?_ | refine And.intro (by show some (PV.c (LC.g _)) = some (PV.c (LC.g _)); simp only [*, decide_true, decide_false, eq_self, if_true, if_false, reduceIte, Bool.false_eq_true, Bool.and_false, Bool.false_and, Bool.true_and, Bool.and_true, Bool.or_true, Bool.true_or, Bool.false_or, Bool.or_false, Bool.not_true, Bool.not_false]) ?_)⟩
    ·
      refine PW_seq ?_
      -- region 10
      refine PW_region ?_
      refine qLd .none ?_
      refine qMv .none ?_
      refine qSr .none ?_
      refine qMv .none ?_
      refine Pend ?_
      refine PW_ret ⟨.inr rfl, ?_⟩
      subst hu
      exact ret_G (.cons (.frz (.gnd rfl rfl rfl) (.g _)) (.cons (.frz (.tmp rfl) (ExZ.whole rfl rfl rfl)) .nil)) rfl trivial rfl rfl
/- spec.DrawBestPlan: 22 -> [25, 26] -/
set_option maxRecDepth 100000 in
theorem ctr_drawP (bs : List Nat) (hb : ∀ b ∈ bs, b < 256) (hl : bs.length ≤ 10000000) : CtrG P 57 8 [.c (.g (.sl (rows bs)))] [] (.tup [(false, [.g (.agg (drawV (bs.take 2000)).1.cells)]), (false, [.g (.sl ((drawV (bs.take 2000)).2.map encI))])]) [] := by
  have hd := ctr_drawV bs hb hl
  refine ctr_ofG (fn := Go.Proofs.Try.f57) (by kernel_rfl) rfl rfl rfl ?_
  rintro ⟨n, w0, F0, M, pin⟩ hn
  cases hn
  refine PW_seq ?_
  -- region 0
  refine PW_region ?_
  refine qBx .none ?_
  refine qMv .none ?_
  refine Pend ?_
  refine PW_seq ?_
  -- region 1
  refine PW_region ?_
  refine qMv .none ?_
  refine P00 .none (S_callG [] [] false hd (.g rfl .nil) trivial rfl (.inl rfl) rfl) ?_
  refine qEx1 .none ?_
  refine qEx1 .none ?_
  refine qSr .none ?_
  refine qMv .none ?_
  refine Pend ?_
  refine PW_ret ⟨.inr rfl, ?_⟩
  exact ret_G (.cons (.frz (.gnd rfl rfl rfl) (.g _)) (.cons (.frz (.tmp rfl) (.g _)) .nil)) rfl trivial rfl rfl
end Go.Proofs.Ytdmlfhmnlddooaa
namespace Go.Proofs.Ytdmlfhmnlddooaa
open Go Go.Pu

def okV (v : Int) : Bool := decide (1 ≤ v) && decide (v ≤ 1000)
/-- What the best value asks of the work and of the values. -/
def told (k : Work) (vs : List Int) : Bool := validWork k && decide (k.w ≤ 16) && decide (k.h ≤ 16) && decide (k.panes.length ≤ 7) && decide (vs.length = k.panes.length) && vs.all okV
abbrev LS := Option (Nat × Bool) × Int
def leafRaw : Option (Nat × Bool) → List GV
  | none => [.int .i64 0, .int .i64 0, .int .i64 0, .bool false, .nil]
  | some (i, tu) => [.int .i64 1, .int .i64 0, .int .i64 i, .bool tu, .nil]
def leafT : Option (Nat × Bool) → T
  | none => .waste
  | some (i, tu) => .pane i tu
theorem leaf_up (o : Option (Nat × Bool)) : GUp (.agg (leafRaw o)) (.agg (leafT o).plan.cells) := by
  cases o with
  | none => exact waste_up
  | some x => exact pane_up _ _
theorem leafRaw_one (o : Option (Nat × Bool)) : (leafRaw o).all GV.one = true ∧ (leafRaw o).length = 5 := by
  cases o with
  | none => exact ⟨rfl, rfl⟩
  | some x => exact ⟨rfl, rfl⟩
def leafOne (k : Work) (w h v : Int) (i : Nat) (tu : Bool) (s : LS) : LS := if (decide (s.2 < v) && paneFills k i tu w h) = true then (some (i, tu), v) else s
def leafRest (k : Work) (w h v : Int) (i : Nat) : Nat → LS → LS
  | 0, s => leafOne k w h v i true (leafOne k w h v i false s)
  | 1, s => leafOne k w h v i true s
  | _, s => s
theorem leafRest_next {k : Work} {w h v : Int} {i j : Nat} {s : LS} (hj : j < 2) : leafRest k w h v i j s = leafRest k w h v i (j + 1) (leafOne k w h v i (decide (j = 1)) s) := by
  match j, hj with
  | 0, _ => rfl
  | 1, _ => rfl
def leafGo (k : Work) (w h : Int) : List Int → Nat → LS → LS
  | [], _, s => s
  | v :: r, i, s => leafGo k w h r (i + 1) (leafRest k w h v i 0 s)
/-- The best pane for a sheet of this size, and its value. -/
def leafV (k : Work) (vs : List Int) (w h : Int) : LS := leafGo k w h vs 0 (none, 0)
theorem two_at {j : Nat} (h : j < 2) : ([[GV.bool false], [GV.bool true]] : List (List GV))[j]? = some [.bool (decide (j = 1))] := by
  match j, h with
  | 0, _ => rfl
  | 1, _ => rfl
def leafPV (s : LS) : PV := .tup [(false, [.g (.agg (leafT s.1).plan.cells)]), (false, [.g (.int .i64 s.2)])]

/- impl.bestTold: 25, 26 -> [4] -/
set_option maxRecDepth 100000 in
theorem ctr_i_bestTold (k : Work) (vs : List Int) : Ctr P 69 [.g (.agg k.cells), .g (.sl (vs.map encI))] (.g (.bool (told k vs))) := by
  have hvl : (vs.map encI).length = vs.length := List.length_map _
  have hpl : (k.panes.map Pane.cells).length = k.panes.length := List.length_map _
  refine ctr_of (fn := Go.Proofs.Try.f69) (by kernel_rfl) rfl rfl ?_
  rintro ⟨n, w0, F0, M, pin⟩ hn
  cases hn
  refine PW_seq ?_
  -- region 0
  refine PW_region ?_
  refine qBx .none ?_
  refine qMv .none ?_
  refine Pend ?_
  refine PW_seq ?_
  refine PW_join (ι := Bool) (fun u1 => [(1, .c (.g (.sl (vs.map encI)))), (2, .c (.optr 2 0 0)), (4, .c (.g (.bool false))), (19, .c (.g (.bool u1)))]) (fun u1 => [(2, ⟨25, 0, .gnd [k.cells]⟩)]) (fun u1 => u1 = !(validWork k && decide (k.w ≤ 16) && decide (k.h ≤ 16))) ?_ (fun u1 hu1 => ?_)
  · skip
    -- region 1
    refine PW_region ?_
    refine qLd .none ?_
    refine P00 .none (S_call (.one rfl .nil) rfl (ctr_i_ValidWork k) (.inl rfl) rfl) ?_
    refine qCm .none ?_
    refine qMv .none ?_
    refine Psplit 10 rfl (fun h1 => ?_) (fun h1 => ?_)
    · -- t10 = true
      refine Pskip rfl rfl h1 rfl ?_
      refine Pskip rfl rfl h1 rfl ?_
      refine Pskip rfl rfl h1 rfl ?_
      refine P10 .none (S_pickT rfl h1 rfl rfl) ?_
      refine qMv .none ?_
      refine Pskip rfl rfl rfl rfl ?_
      refine Pskip rfl rfl rfl rfl ?_
      refine Pskip rfl rfl rfl rfl ?_
      refine P10 .none (S_pickT rfl rfl rfl rfl) ?_
      refine Pend ?_
      exact ⟨true, (by first | (simp [h1]; done) | (simp only [Bool.not_eq_true', Bool.not_eq_false', decide_eq_true_eq, decide_eq_false_iff_not] at h1; rw [Bool.eq_iff_iff]; simp only [true_iff, Bool.not_eq_true', Bool.and_eq_false_iff, Bool.and_eq_true, decide_eq_true_eq, decide_eq_false_iff_not, Bool.not_eq_false']; omega) | (simp only [Bool.not_eq_true', Bool.not_eq_false', decide_eq_true_eq, decide_eq_false_iff_not] at h1; rw [Bool.eq_iff_iff]; simp only [h1, true_iff, Bool.not_eq_true', Bool.and_eq_false_iff, Bool.and_eq_true, decide_eq_true_eq, decide_eq_false_iff_not, Bool.not_eq_false']; omega) | (simp only [Bool.not_eq_true', Bool.not_eq_false', decide_eq_true_eq, decide_eq_false_iff_not] at h1; rw [Bool.eq_iff_iff]; simp [h1] <;> omega)), by repeat (first | exact trivial | refine And.intro rfl ?_ | refine And.intro (by show some (PV.c (LC.g _)) = some (PV.c (LC.g _)); simp only [*, decide_true, decide_false, eq_self, if_true, if_false, reduceIte, Bool.false_eq_true, Bool.and_false, Bool.false_and, Bool.true_and, Bool.and_true, Bool.or_true, Bool.true_or, Bool.false_or, Bool.or_false, Bool.not_true, Bool.not_false]) ?_), by repeat (first | exact trivial | refine And.intro rfl ?_ | refine And.intro (by show some (PV.c (LC.g _)) = some (PV.c (LC.g _)); simp only [*, decide_true, decide_false, eq_self, if_true, if_false, reduceIte, Bool.false_eq_true, Bool.and_false, Bool.false_and, Bool.true_and, Bool.and_true, Bool.or_true, Bool.true_or, Bool.false_or, Bool.or_false, Bool.not_true, Bool.not_false]) ?_)⟩
    · -- t10 = false
      refine qFd (.yes rfl rfl h1) ?_
      refine qLd (.yes rfl rfl h1) ?_
      refine qCm (.yes rfl rfl h1) ?_
      refine P10 .none (S_pickF rfl h1 rfl rfl) ?_
      refine qMv .none ?_
      refine Psplit 15 rfl (fun h2 => ?_) (fun h2 => ?_)
      · -- t15 = true
        refine Pskip rfl rfl h2 rfl ?_
        refine Pskip rfl rfl h2 rfl ?_
        refine Pskip rfl rfl h2 rfl ?_
        refine P10 .none (S_pickT rfl h2 rfl rfl) ?_
        refine Pend ?_
        exact ⟨true, (by first | (simp [h1, h2]; done) | (simp only [Bool.not_eq_true', Bool.not_eq_false', decide_eq_true_eq, decide_eq_false_iff_not] at h1 h2; rw [Bool.eq_iff_iff]; simp only [true_iff, Bool.not_eq_true', Bool.and_eq_false_iff, Bool.and_eq_true, decide_eq_true_eq, decide_eq_false_iff_not, Bool.not_eq_false']; omega) | (simp only [Bool.not_eq_true', Bool.not_eq_false', decide_eq_true_eq, decide_eq_false_iff_not] at h1 h2; rw [Bool.eq_iff_iff]; simp only [h1, h2, true_iff, Bool.not_eq_true', Bool.and_eq_false_iff, Bool.and_eq_true, decide_eq_true_eq, decide_eq_false_iff_not, Bool.not_eq_false']; omega) | (simp only [Bool.not_eq_true', Bool.not_eq_false', decide_eq_true_eq, decide_eq_false_iff_not] at h1 h2; rw [Bool.eq_iff_iff]; simp [h1, h2] <;> omega)), by repeat (first | exact trivial | refine And.intro rfl ?_ | refine And.intro (by show some (PV.c (LC.g _)) = some (PV.c (LC.g _)); simp only [*, decide_true, decide_false, eq_self, if_true, if_false, reduceIte, Bool.false_eq_true, Bool.and_false, Bool.false_and, Bool.true_and, Bool.and_true, Bool.or_true, Bool.true_or, Bool.false_or, Bool.or_false, Bool.not_true, Bool.not_false]) ?_), by repeat (first | exact trivial | refine And.intro rfl ?_ | refine And.intro (by show some (PV.c (LC.g _)) = some (PV.c (LC.g _)); simp only [*, decide_true, decide_false, eq_self, if_true, if_false, reduceIte, Bool.false_eq_true, Bool.and_false, Bool.false_and, Bool.true_and, Bool.and_true, Bool.or_true, Bool.true_or, Bool.false_or, Bool.or_false, Bool.not_true, Bool.not_false]) ?_)⟩
      · -- t15 = false
        refine qFd (.yes rfl rfl h2) ?_
        refine qLd (.yes rfl rfl h2) ?_
        refine qCm (.yes rfl rfl h2) ?_
        refine P10 .none (S_pickF rfl h2 rfl rfl) ?_
        refine Pend ?_
        exact ⟨decide (16 < k.h), (by first | (simp [h1, h2]; done) | (simp only [Bool.not_eq_true', Bool.not_eq_false', decide_eq_true_eq, decide_eq_false_iff_not] at h1 h2; rw [Bool.eq_iff_iff]; simp only [true_iff, Bool.not_eq_true', Bool.and_eq_false_iff, Bool.and_eq_true, decide_eq_true_eq, decide_eq_false_iff_not, Bool.not_eq_false']; omega) | (simp only [Bool.not_eq_true', Bool.not_eq_false', decide_eq_true_eq, decide_eq_false_iff_not] at h1 h2; rw [Bool.eq_iff_iff]; simp only [h1, h2, true_iff, Bool.not_eq_true', Bool.and_eq_false_iff, Bool.and_eq_true, decide_eq_true_eq, decide_eq_false_iff_not, Bool.not_eq_false']; omega) | (simp only [Bool.not_eq_true', Bool.not_eq_false', decide_eq_true_eq, decide_eq_false_iff_not] at h1 h2; rw [Bool.eq_iff_iff]; simp [h1, h2] <;> omega)), by repeat (first | exact trivial | refine And.intro rfl ?_ | refine And.intro (by show some (PV.c (LC.g _)) = some (PV.c (LC.g _)); simp only [*, decide_true, decide_false, eq_self, if_true, if_false, reduceIte, Bool.false_eq_true, Bool.and_false, Bool.false_and, Bool.true_and, Bool.and_true, Bool.or_true, Bool.true_or, Bool.false_or, Bool.or_false, Bool.not_true, Bool.not_false]) ?_), by repeat (first | exact trivial | refine And.intro rfl ?_ | refine And.intro (by show some (PV.c (LC.g _)) = some (PV.c (LC.g _)); simp only [*, decide_true, decide_false, eq_self, if_true, if_false, reduceIte, Bool.false_eq_true, Bool.and_false, Bool.false_and, Bool.true_and, Bool.and_true, Bool.or_true, Bool.true_or, Bool.false_or, Bool.or_false, Bool.not_true, Bool.not_false]) ?_)⟩
  · skip
    refine PW_cond rfl (fun h3 => ?_) (fun h3 => ?_)
    · -- t19
      refine PW_seq ?_
      -- region 2
      refine PW_region ?_
      refine qMv .none ?_
      refine Pend ?_
      refine PW_ret ⟨.inr rfl, ?_⟩
      exact ret_g (.cons (.tmp rfl) (.c (by first | exact .nil | exact .g _ | exact Ex.whole rfl rfl rfl)) .nil) (by show GV.bool _ = GV.bool _; congr 1; have g : (validWork k && decide (k.w ≤ 16) && decide (k.h ≤ 16)) = false := (by rw [hu1] at h3; simpa only [Bool.not_eq_true'] using h3); unfold told; rw [g]; simp) trivial
    · -- not t19
      refine PW_skip ?_
      refine PW_seq ?_
      refine PW_join (ι := Bool) (fun u3 => [(1, .c (.g (.sl (vs.map encI)))), (2, .c (.optr 2 0 0)), (4, .c (.g (.bool false))), (31, .c (.g (.bool u3)))]) (fun u3 => [(2, ⟨25, 0, .gnd [k.cells]⟩)]) (fun u3 => u3 = !(decide (k.panes.length ≤ 7) && decide (vs.length = k.panes.length))) ?_ (fun u3 hu3 => ?_)
      · skip
        -- region 3
        refine PW_region ?_
        refine qFd .none ?_
        refine qLd .none ?_
        refine qLn .none ?_
        refine qCm .none ?_
        refine qMv .none ?_
        refine Psplit 24 rfl (fun h4 => ?_) (fun h4 => ?_)
        · -- t24 = true
          refine Pskip rfl rfl h4 rfl ?_
          refine Pskip rfl rfl h4 rfl ?_
          refine Pskip rfl rfl h4 rfl ?_
          refine Pskip rfl rfl h4 rfl ?_
          refine Pskip rfl rfl h4 rfl ?_
          refine Pskip rfl rfl h4 rfl ?_
          refine P10 .none (S_pickT rfl h4 rfl rfl) ?_
          refine Pend ?_
          exact ⟨true, (by first | (simp [h3, h4]; done) | (simp only [Bool.not_eq_true', Bool.not_eq_false', decide_eq_true_eq, decide_eq_false_iff_not] at h3 h4; rw [Bool.eq_iff_iff]; simp only [true_iff, Bool.not_eq_true', Bool.and_eq_false_iff, Bool.and_eq_true, decide_eq_true_eq, decide_eq_false_iff_not, Bool.not_eq_false']; omega) | (simp only [Bool.not_eq_true', Bool.not_eq_false', decide_eq_true_eq, decide_eq_false_iff_not] at h3 h4; rw [Bool.eq_iff_iff]; simp only [h3, h4, true_iff, Bool.not_eq_true', Bool.and_eq_false_iff, Bool.and_eq_true, decide_eq_true_eq, decide_eq_false_iff_not, Bool.not_eq_false']; omega) | (simp only [Bool.not_eq_true', Bool.not_eq_false', decide_eq_true_eq, decide_eq_false_iff_not] at h3 h4; rw [Bool.eq_iff_iff]; simp [h3, h4] <;> omega)), by repeat (first | exact trivial | refine And.intro rfl ?_ | refine And.intro (by show some (PV.c (LC.g _)) = some (PV.c (LC.g _)); simp only [*, decide_true, decide_false, eq_self, if_true, if_false, reduceIte, Bool.false_eq_true, Bool.and_false, Bool.false_and, Bool.true_and, Bool.and_true, Bool.or_true, Bool.true_or, Bool.false_or, Bool.or_false, Bool.not_true, Bool.not_false]) ?_), by repeat (first | exact trivial | refine And.intro rfl ?_ | refine And.intro (by show some (PV.c (LC.g _)) = some (PV.c (LC.g _)); simp only [*, decide_true, decide_false, eq_self, if_true, if_false, reduceIte, Bool.false_eq_true, Bool.and_false, Bool.false_and, Bool.true_and, Bool.and_true, Bool.or_true, Bool.true_or, Bool.false_or, Bool.or_false, Bool.not_true, Bool.not_false]) ?_)⟩
        · -- t24 = false
          refine qMv (.yes rfl rfl h4) ?_
          refine qLn (.yes rfl rfl h4) ?_
          refine qFd (.yes rfl rfl h4) ?_
          refine qLd (.yes rfl rfl h4) ?_
          refine qLn (.yes rfl rfl h4) ?_
          refine qCm (.yes rfl rfl h4) ?_
          refine P10 .none (S_pickF rfl h4 rfl rfl) ?_
          refine Pend ?_
          exact ⟨!decide (((vs.map encI).length : Int) = ((k.panes.map Pane.cells).length : Int)), (by first | (simp [h3, h4]; done) | (simp only [Bool.not_eq_true', Bool.not_eq_false', decide_eq_true_eq, decide_eq_false_iff_not] at h3 h4; rw [Bool.eq_iff_iff]; simp only [true_iff, Bool.not_eq_true', Bool.and_eq_false_iff, Bool.and_eq_true, decide_eq_true_eq, decide_eq_false_iff_not, Bool.not_eq_false']; omega) | (simp only [Bool.not_eq_true', Bool.not_eq_false', decide_eq_true_eq, decide_eq_false_iff_not] at h3 h4; rw [Bool.eq_iff_iff]; simp only [h3, h4, true_iff, Bool.not_eq_true', Bool.and_eq_false_iff, Bool.and_eq_true, decide_eq_true_eq, decide_eq_false_iff_not, Bool.not_eq_false']; omega) | (simp only [Bool.not_eq_true', Bool.not_eq_false', decide_eq_true_eq, decide_eq_false_iff_not] at h3 h4; rw [Bool.eq_iff_iff]; simp [h3, h4] <;> omega)), by repeat (first | exact trivial | refine And.intro rfl ?_ | refine And.intro (by show some (PV.c (LC.g _)) = some (PV.c (LC.g _)); simp only [*, decide_true, decide_false, eq_self, if_true, if_false, reduceIte, Bool.false_eq_true, Bool.and_false, Bool.false_and, Bool.true_and, Bool.and_true, Bool.or_true, Bool.true_or, Bool.false_or, Bool.or_false, Bool.not_true, Bool.not_false]) ?_), by repeat (first | exact trivial | refine And.intro rfl ?_ | refine And.intro (by show some (PV.c (LC.g _)) = some (PV.c (LC.g _)); simp only [*, decide_true, decide_false, eq_self, if_true, if_false, reduceIte, Bool.false_eq_true, Bool.and_false, Bool.false_and, Bool.true_and, Bool.and_true, Bool.or_true, Bool.true_or, Bool.false_or, Bool.or_false, Bool.not_true, Bool.not_false]) ?_)⟩
      · skip
        refine PW_cond rfl (fun h5 => ?_) (fun h5 => ?_)
        · -- t31
          refine PW_seq ?_
          -- region 4
          refine PW_region ?_
          refine qMv .none ?_
          refine Pend ?_
          refine PW_ret ⟨.inr rfl, ?_⟩
          exact ret_g (.cons (.tmp rfl) (.c (by first | exact .nil | exact .g _ | exact Ex.whole rfl rfl rfl)) .nil) (by show GV.bool _ = GV.bool _; congr 1; have g : (decide (k.panes.length ≤ 7) && decide (vs.length = k.panes.length)) = false := (by rw [hu3] at h5; simpa only [Bool.not_eq_true'] using h5); unfold told; rw [Bool.and_assoc (validWork k && decide (k.w ≤ 16) && decide (k.h ≤ 16)), g]; simp) trivial
        · -- not t31
          refine PW_skip ?_
          refine PW_seq ?_
          refine PW_seq ?_
          have g1 : (validWork k && decide (k.w ≤ 16) && decide (k.h ≤ 16)) = true := by rw [hu1] at h3; simpa using h3
          have g2 : (decide (k.panes.length ≤ 7) && decide (vs.length = k.panes.length)) = true := by rw [hu3] at h5; simpa using h5
          have g3 : told k vs = vs.all okV := by unfold told; rw [Bool.and_assoc (validWork k && decide (k.w ≤ 16) && decide (k.h ≤ 16)), g1, g2]; rfl
          have g4 : vs.length ≤ 7 := by simp only [Bool.and_eq_true, decide_eq_true_eq] at g2; omega
          --region 5
          refine PW_region ?_
          refine qMv .none ?_
          refine qLn .none ?_
          refine qMv .none ?_
          refine Pend ?_
          refine PW_block ?_
          refine PW_iter (ι := Nat) (fun i => [(1, .c (.g (.sl (vs.map encI)))), (2, .c (.optr 2 0 0)), (4, .c (.g (.bool false))), (32, .c (.g (.sl (vs.map encI)))), (33, .c (.g (.int .i64 (vs.map encI).length))), (34, .c (.g (.int .i64 (i : Nat))))]) (fun i => [(2, ⟨25, 0, .gnd [k.cells]⟩)]) (fun i => i ≤ vs.length ∧ (vs.take i).all okV = true) (fun i => vs.length - i) 0 ⟨Nat.zero_le _, rfl⟩ (by repeat (first | exact trivial | refine And.intro rfl ?_)) (by repeat (first | exact trivial | refine And.intro rfl ?_)) (fun i hi => ?_)
          refine PW_seq ?_
          -- region 6
          refine PW_region ?_
          refine qCm .none ?_
          refine Pend ?_
          refine PW_seq ?_
          refine PW_cond rfl (fun h6 => ?_) (fun h6 => ?_)
          · -- t35
            refine PW_skip ?_
            refine PW_seq ?_
            refine PW_block ?_
            refine PW_seq ?_
            obtain ⟨x, hx⟩ := at_lt h6
            have hlt := (List.getElem?_eq_some_iff.1 hx).1
            --region 7
            refine PW_region ?_
            refine P10 .none (by first | exact S_indexR rfl rfl rfl (map_at hx) rfl rfl | exact S_indexO rfl rfl rfl rfl rfl (map_at hx) rfl) ?_
            refine qLd .none ?_
            refine qMv .none ?_
            refine Pend ?_
            refine PW_join (ι := Bool) (fun u8 => [(1, .c (.g (.sl (vs.map encI)))), (2, .c (.optr 2 0 0)), (4, .c (.g (.bool false))), (6, .c (.g (.int .i64 x))), (32, .c (.g (.sl (vs.map encI)))), (33, .c (.g (.int .i64 (vs.map encI).length))), (34, .c (.g (.int .i64 (i : Nat)))), (43, .c (.g (.bool u8)))]) (fun u8 => [(2, ⟨25, 0, .gnd [k.cells]⟩)]) (fun u8 => u8 = !okV x) ?_ (fun u8 hu8 => ?_)
            · skip
              -- region 8
              refine PW_region ?_
              refine qMv .none ?_
              refine qCm .none ?_
              refine qMv .none ?_
              refine Psplit 40 rfl (fun h7 => ?_) (fun h7 => ?_)
              · -- t40 = true
                refine Pskip rfl rfl h7 rfl ?_
                refine Pskip rfl rfl h7 rfl ?_
                refine P10 .none (S_pickT rfl h7 rfl rfl) ?_
                refine Pend ?_
                exact ⟨true, (by unfold okV; first | (simp [h6, h7]; done) | (simp only [Bool.not_eq_true', Bool.not_eq_false', decide_eq_true_eq, decide_eq_false_iff_not] at h6 h7; rw [Bool.eq_iff_iff]; simp only [true_iff, Bool.not_eq_true', Bool.and_eq_false_iff, Bool.and_eq_true, decide_eq_true_eq, decide_eq_false_iff_not, Bool.not_eq_false']; omega) | (simp only [Bool.not_eq_true', Bool.not_eq_false', decide_eq_true_eq, decide_eq_false_iff_not] at h6 h7; rw [Bool.eq_iff_iff]; simp only [h6, h7, true_iff, Bool.not_eq_true', Bool.and_eq_false_iff, Bool.and_eq_true, decide_eq_true_eq, decide_eq_false_iff_not, Bool.not_eq_false']; omega) | (simp only [Bool.not_eq_true', Bool.not_eq_false', decide_eq_true_eq, decide_eq_false_iff_not] at h6 h7; rw [Bool.eq_iff_iff]; simp [h6, h7] <;> omega)), by repeat (first | exact trivial | refine And.intro rfl ?_ | refine And.intro (by show some (PV.c (LC.g _)) = some (PV.c (LC.g _)); simp only [*, decide_true, decide_false, eq_self, if_true, if_false, reduceIte, Bool.false_eq_true, Bool.and_false, Bool.false_and, Bool.true_and, Bool.and_true, Bool.or_true, Bool.true_or, Bool.false_or, Bool.or_false, Bool.not_true, Bool.not_false]) ?_), by repeat (first | exact trivial | refine And.intro rfl ?_ | refine And.intro (by show some (PV.c (LC.g _)) = some (PV.c (LC.g _)); simp only [*, decide_true, decide_false, eq_self, if_true, if_false, reduceIte, Bool.false_eq_true, Bool.and_false, Bool.false_and, Bool.true_and, Bool.and_true, Bool.or_true, Bool.true_or, Bool.false_or, Bool.or_false, Bool.not_true, Bool.not_false]) ?_)⟩
              · -- t40 = false
                refine qMv (.yes rfl rfl h7) ?_
                refine qCm (.yes rfl rfl h7) ?_
                refine P10 .none (S_pickF rfl h7 rfl rfl) ?_
                refine Pend ?_
                exact ⟨decide (1000 < x), (by unfold okV; first | (simp [h6, h7]; done) | (simp only [Bool.not_eq_true', Bool.not_eq_false', decide_eq_true_eq, decide_eq_false_iff_not] at h6 h7; rw [Bool.eq_iff_iff]; simp only [true_iff, Bool.not_eq_true', Bool.and_eq_false_iff, Bool.and_eq_true, decide_eq_true_eq, decide_eq_false_iff_not, Bool.not_eq_false']; omega) | (simp only [Bool.not_eq_true', Bool.not_eq_false', decide_eq_true_eq, decide_eq_false_iff_not] at h6 h7; rw [Bool.eq_iff_iff]; simp only [h6, h7, true_iff, Bool.not_eq_true', Bool.and_eq_false_iff, Bool.and_eq_true, decide_eq_true_eq, decide_eq_false_iff_not, Bool.not_eq_false']; omega) | (simp only [Bool.not_eq_true', Bool.not_eq_false', decide_eq_true_eq, decide_eq_false_iff_not] at h6 h7; rw [Bool.eq_iff_iff]; simp [h6, h7] <;> omega)), by repeat (first | exact trivial | refine And.intro rfl ?_ | refine And.intro (by show some (PV.c (LC.g _)) = some (PV.c (LC.g _)); simp only [*, decide_true, decide_false, eq_self, if_true, if_false, reduceIte, Bool.false_eq_true, Bool.and_false, Bool.false_and, Bool.true_and, Bool.and_true, Bool.or_true, Bool.true_or, Bool.false_or, Bool.or_false, Bool.not_true, Bool.not_false]) ?_), by repeat (first | exact trivial | refine And.intro rfl ?_ | refine And.intro (by show some (PV.c (LC.g _)) = some (PV.c (LC.g _)); simp only [*, decide_true, decide_false, eq_self, if_true, if_false, reduceIte, Bool.false_eq_true, Bool.and_false, Bool.false_and, Bool.true_and, Bool.and_true, Bool.or_true, Bool.true_or, Bool.false_or, Bool.or_false, Bool.not_true, Bool.not_false]) ?_)⟩
            · skip
              refine PW_cond rfl (fun h8 => ?_) (fun h8 => ?_)
              · -- t43
                refine PW_seq ?_
                -- region 9
                refine PW_region ?_
                refine qMv .none ?_
                refine Pend ?_
                refine PW_ret ⟨.inr rfl, ?_⟩
                exact ret_g (.cons (.tmp rfl) (.c (by first | exact .nil | exact .g _ | exact Ex.whole rfl rfl rfl)) .nil) (by show GV.bool _ = GV.bool _; congr 1; rw [g3, all_not hx (by rw [hu8] at h8; simpa using h8)]) trivial
              · -- not t43
                refine PW_skip ?_
                -- region 10
                refine PW_region ?_
                refine qAd .none ?_
                refine qMv .none ?_
                refine Pend ?_
                exact ⟨i + 1, by omega, ⟨by omega, all_next hx hi.2 (by rw [hu8] at h8; simpa using h8)⟩, (by repeat (first | exact trivial | refine And.intro rfl ?_)), (by repeat (first | exact trivial | refine And.intro rfl ?_))⟩
          · -- not t35
            refine PW_exit ?_
            refine PW_seq ?_
            -- region 11
            refine PW_region ?_
            refine qMv .none ?_
            refine Pend ?_
            refine PW_ret ⟨.inr rfl, ?_⟩
            exact ret_g (.cons (.tmp rfl) (.c (by first | exact .nil | exact .g _ | exact Ex.whole rfl rfl rfl)) .nil) (by show GV.bool _ = GV.bool _; congr 1; rw [g3]; have e : vs.take i = vs := List.take_of_length_le (by have := of_decide_eq_false h6; omega); rw [e] at hi; exact hi.2.symm) trivial
/- impl.bestPane: 25, 26, 3, 3 -> [34, 3] -/
set_option maxRecDepth 100000 in
theorem ctr_bestPane (k : Work) (vs : List Int) (hl : vs.length ≤ 100000) (w h : Int) : CtrG P 127 49 [.c (.g (.agg k.cells)), .c (.g (.sl (vs.map encI))), .c (.g (.int .i64 w)), .c (.g (.int .i64 h))] [] (leafPV (leafV k vs w h)) [] := by
  have hvl : (vs.map encI).length = vs.length := List.length_map _
  generalize hV : leafV k vs w h = V
  unfold leafV at hV
  refine ctr_ofG (fn := Go.Proofs.Try.f127) (by kernel_rfl) rfl rfl rfl ?_
  rintro ⟨n, w0, F0, M, pin⟩ hn
  cases hn
  refine PW_seq ?_
  -- region 0
  refine PW_region ?_
  refine qBx .none ?_
  refine qBx .none ?_
  refine qMv .none ?_
  refine Pend ?_
  refine PW_seq ?_
  -- region 1
  refine PW_region ?_
  refine P10 .none (S_build (gs := [_, _, _, _, _]) (.one rfl rfl rfl rfl (.nil _)) rfl rfl) ?_
  refine qBx .none ?_
  refine P01 .none (by first | exact S_storeW rfl rfl rfl rfl rfl rfl | exact S_storeWe rfl rfl rfl HK rfl rfl rfl | exact S_storeP rfl rfl rfl rfl rfl (Nat.le_of_ble_eq_true rfl) | exact S_storeLW rfl rfl rfl rfl rfl rfl rfl | exact S_storeW rfl rfl rfl (Plan.cells_one _) (Plan.cells_len _) rfl) ?_
  refine qMv .none ?_
  refine Pend ?_
  refine PW_seq ?_
  refine PW_seq ?_
  -- region 2
  refine PW_region ?_
  refine qMv .none ?_
  refine qLn .none ?_
  refine qMv .none ?_
  refine Pend ?_
  refine PW_block ?_
  refine PW_iter (ι := Nat × LS) (fun u => [(2, .c (.g (.int .i64 w))), (3, .c (.g (.int .i64 h))), (4, .c (.optr 4 0 0)), (8, .c (.optr 8 0 0)), (17, .c (.g (.sl (vs.map encI)))), (18, .c (.g (.int .i64 (vs.map encI).length))), (10, .c (.optr 10 0 0)), (11, .c (.g (.int .i64 u.2.2))), (19, .c (.g (.int .i64 (u.1 : Nat))))]) (fun u => [(4, ⟨25, 0, .gnd [k.cells]⟩), (8, ⟨34, 0, .gnd [[.int .i64 0, .int .i64 0, .int .i64 0, .bool false, .nil]]⟩), (10, ⟨34, 0, .gnd [leafRaw u.2.1]⟩)]) (fun u => u.1 ≤ vs.length ∧ leafGo k w h (vs.drop u.1) u.1 u.2 = V) (fun u => vs.length - u.1) (0, (none, 0)) ⟨Nat.zero_le _, hV⟩ (by repeat (first | exact trivial | refine And.intro rfl ?_)) (by repeat (first | exact trivial | refine And.intro rfl ?_)) (fun u hu => ?_)
  refine PW_seq ?_
  -- region 3
  refine PW_region ?_
  refine qCm .none ?_
  refine Pend ?_
  refine PW_seq ?_
  refine PW_cond rfl (fun h1 => ?_) (fun h1 => ?_)
  · -- t20
    refine PW_skip ?_
    refine PW_seq ?_
    refine PW_block ?_
    refine PW_seq ?_
    obtain ⟨i, o, b⟩ := u
    obtain ⟨v, hx⟩ := at_lt h1
    have hlt := (List.getElem?_eq_some_iff.1 hx).1
    dsimp only at hu hlt hx ⊢
    obtain ⟨hu1, hu2⟩ := hu
    rw [List.drop_eq_getElem_cons hlt, (List.getElem?_eq_some_iff.1 hx).2] at hu2
    simp only [leafGo] at hu2
    generalize hS : leafRest k w h v i 0 (o, b) = S at hu2
    --region 4
    refine PW_region ?_
    refine qMv .none ?_
    refine P10 .none (by first | exact S_indexR rfl rfl rfl (map_at hx) rfl rfl | exact S_indexO rfl rfl rfl rfl rfl (map_at hx) rfl) ?_
    refine qLd .none ?_
    refine qMv .none ?_
    refine qMv .none ?_
    refine Pend ?_
    refine PW_seq ?_
    -- region 5
    refine PW_region ?_
    refine P22 .none (S_lit (.one rfl rfl rfl (.one rfl rfl rfl (.nil _))) rfl rfl rfl) ?_
    refine qLn .none ?_
    refine qMv .none ?_
    refine Pend ?_
    refine PW_block ?_
    refine PW_iter (ι := Nat × LS) (fun z => [(2, .c (.g (.int .i64 w))), (3, .c (.g (.int .i64 h))), (4, .c (.optr 4 0 0)), (8, .c (.optr 8 0 0)), (17, .c (.g (.sl (vs.map encI)))), (18, .c (.g (.int .i64 (vs.map encI).length))), (10, .c (.optr 10 0 0)), (11, .c (.g (.int .i64 z.2.2))), (12, .c (.g (.int .i64 (i : Nat)))), (13, .c (.g (.int .i64 v))), (19, .c (.g (.int .i64 (i : Nat)))), (24, .c (.osl 24 0 2)), (25, .c (.g (.int .i64 2))), (26, .c (.g (.int .i64 (z.1 : Nat))))]) (fun z => [(4, ⟨25, 0, .gnd [k.cells]⟩), (8, ⟨34, 0, .gnd [[.int .i64 0, .int .i64 0, .int .i64 0, .bool false, .nil]]⟩), (10, ⟨34, 0, .gnd [leafRaw z.2.1]⟩), (24, ⟨4, 0, .gnd [[.bool false], [.bool true]]⟩)]) (fun z => z.1 ≤ 2 ∧ leafRest k w h v i z.1 z.2 = S) (fun z => 2 - z.1) (0, (o, b)) ⟨Nat.zero_le _, hS⟩ (by repeat (first | exact trivial | refine And.intro rfl ?_)) (by repeat (first | exact trivial | refine And.intro rfl ?_)) (fun z hz => ?_)
    refine PW_seq ?_
    -- region 6
    refine PW_region ?_
    refine qCm .none ?_
    refine Pend ?_
    refine PW_seq ?_
    refine PW_cond rfl (fun h2 => ?_) (fun h2 => ?_)
    · -- t27
      refine PW_skip ?_
      refine PW_seq ?_
      refine PW_block ?_
      refine PW_seq ?_
      obtain ⟨j, o', b'⟩ := z
      dsimp only at hz ⊢
      obtain ⟨hz1, hz2⟩ := hz
      have hj2 : j < 2 := by have := of_decide_eq_true h2; omega
      rw [leafRest_next hj2] at hz2
      --region 7
      refine PW_region ?_
      refine P10 .none (by first | exact S_indexR rfl rfl rfl hj2 rfl rfl | exact S_indexO rfl rfl rfl rfl rfl hj2 rfl) ?_
      refine P10 .none (S_loadO1 rfl rfl (show _ = some [GV.bool (decide (j = 1))] from by rw [Nat.zero_add]; exact two_at hj2) rfl rfl) ?_
      refine qMv .none ?_
      refine Pend ?_
      refine PW_seq ?_
      -- region 8
      refine PW_region ?_
      refine qMv .none ?_
      refine qMv .none ?_
      refine qCm .none ?_
      refine qMv .none ?_
      refine Psplit 33 rfl (fun h3 => ?_) (fun h3 => ?_)
      · -- t33 = true
        refine qLd (.yes rfl rfl h3) ?_
        refine qMv (.yes rfl rfl h3) ?_
        refine qMv (.yes rfl rfl h3) ?_
        refine qMv (.yes rfl rfl h3) ?_
        refine qMv (.yes rfl rfl h3) ?_
        refine P00 (.yes rfl rfl h3) (S_call (.one rfl (.one rfl (.one rfl (.one rfl (.one rfl .nil))))) rfl (ctr_i_paneFills k i (decide (j = 1)) w h) (.inl rfl) rfl) ?_
        refine P10 .none (S_pickT rfl h3 rfl rfl) ?_
        refine Pend ?_
        refine PW_cond rfl (fun h4 => ?_) (fun h4 => ?_)
        · -- t40
          -- region 9
          refine PW_region ?_
          refine qMv .none ?_
          refine qMv .none ?_
          refine P10 .none (S_build (gs := [_, _, _, _, _]) (.one rfl rfl rfl rfl (.one rfl rfl rfl rfl (.one rfl rfl rfl rfl (.nil _)))) rfl rfl) ?_
          refine qMv .none ?_
          refine P01 .none (S_storeW (n := 5) rfl rfl rfl rfl rfl (leafRaw_one _).2) ?_
          refine qMv .none ?_
          refine Pend ?_
          -- region 10
          refine PW_region ?_
          refine qAd .none ?_
          refine qMv .none ?_
          refine Pend ?_
          have e : leafOne k w h v i (decide (j = 1)) (o', b') = (some (i, decide (j = 1)), v) := by unfold leafOne; rw [if_pos (by rw [Bool.and_eq_true]; exact ⟨h3, h4⟩)]
          rw [e] at hz2
          exact ⟨(j + 1, some (i, decide (j = 1)), v), by dsimp only; omega, ⟨by dsimp only; omega, hz2⟩, (by repeat (first | exact trivial | refine And.intro rfl ?_)), (by repeat (first | exact trivial | refine And.intro rfl ?_))⟩
        · -- not t40
          refine PW_skip ?_
          -- region 10
          refine PW_region ?_
          refine qAd .none ?_
          refine qMv .none ?_
          refine Pend ?_
          have e : leafOne k w h v i (decide (j = 1)) (o', b') = (o', b') := by unfold leafOne; rw [if_neg (by rw [h4, Bool.and_false]; simp)]
          rw [e] at hz2
          exact ⟨(j + 1, o', b'), by dsimp only; omega, ⟨by dsimp only; omega, hz2⟩, (by repeat (first | exact trivial | refine And.intro rfl ?_)), (by repeat (first | exact trivial | refine And.intro rfl ?_))⟩
      · -- t33 = false
        refine Pskip rfl rfl h3 rfl ?_
        refine Pskip rfl rfl h3 rfl ?_
        refine Pskip rfl rfl h3 rfl ?_
        refine Pskip rfl rfl h3 rfl ?_
        refine Pskip rfl rfl h3 rfl ?_
        refine Pskip rfl rfl h3 rfl ?_
        refine P10 .none (S_pickF rfl h3 rfl rfl) ?_
        refine Pend ?_
        refine PW_condF rfl rfl ?_
        refine PW_skip ?_
        -- region 10
        refine PW_region ?_
        refine qAd .none ?_
        refine qMv .none ?_
        refine Pend ?_
        have e : leafOne k w h v i (decide (j = 1)) (o', b') = (o', b') := by unfold leafOne; rw [if_neg (by rw [show decide (b' < v) = false from h3]; simp)]
        rw [e] at hz2
        exact ⟨(j + 1, o', b'), by dsimp only; omega, ⟨by dsimp only; omega, hz2⟩, (by repeat (first | exact trivial | refine And.intro rfl ?_)), (by repeat (first | exact trivial | refine And.intro rfl ?_))⟩
    · -- not t27
      refine PW_exit ?_
      obtain ⟨j, o', b'⟩ := z
      dsimp only at hz ⊢
      obtain ⟨hz1, hz2⟩ := hz
      obtain rfl : j = 2 := by have := of_decide_eq_false h2; omega
      simp only [leafRest] at hz2
      rw [← hz2] at hu2
      --region 11
      refine PW_region ?_
      refine qAd .none ?_
      refine qMv .none ?_
      refine Pend ?_
      exact ⟨(i + 1, o', b'), by dsimp only; omega, ⟨by dsimp only; omega, hu2⟩, (by repeat (first | exact trivial | refine And.intro rfl ?_)), (by repeat (first | exact trivial | refine And.intro rfl ?_))⟩
  · -- not t20
    refine PW_exit ?_
    refine PW_seq ?_
    obtain ⟨i, o, b⟩ := u
    dsimp only at hu ⊢
    obtain ⟨hu1, hu2⟩ := hu
    obtain rfl : i = vs.length := by have := of_decide_eq_false h1; omega
    rw [List.drop_length] at hu2
    simp only [leafGo] at hu2
    subst hu2
    --region 12
    refine PW_region ?_
    refine P10 .none (S_loadOW (n := 5) rfl rfl rfl (leafRaw_one _).2 rfl) ?_
    refine qMv .none ?_
    refine P01 .none (S_storeW (n := 5) rfl rfl rfl (leafRaw_one _).1 (leafRaw_one _).2 rfl) ?_
    refine qMv .none ?_
    refine Pend ?_
    refine PW_ret ⟨.inr rfl, ?_⟩
    exact ret_G (.cons (.frz (.gnd rfl rfl (leafRaw_one _).2) (.up (leaf_up _))) (.cons (.raw (.tmp rfl) rfl) .nil)) rfl trivial rfl rfl
end Go.Proofs.Ytdmlfhmnlddooaa
namespace Go.Proofs.Ytdmlfhmnlddooaa
open Go Go.Pu

/- spec.validValues: 25, 26 -> [4] -/
set_option maxRecDepth 100000 in
theorem ctr_s_validValues (k : Work) (hk : k.panes.length ≤ 100000) (vs : List Int) (hv : vs.length ≤ 100000) : Ctr P 71 [.g (.agg k.cells), .g (.sl (vs.map encI))] (.g (.bool (told k vs))) := by
  have hvl : (vs.map encI).length = vs.length := List.length_map _
  have hpl : (k.panes.map Pane.cells).length = k.panes.length := List.length_map _
  refine ctr_of (fn := Go.Proofs.Try.f71) (by kernel_rfl) rfl rfl ?_
  rintro ⟨n, w0, F0, M, pin⟩ hn
  cases hn
  refine PW_seq ?_
  -- region 0
  refine PW_region ?_
  refine qBx .none ?_
  refine qMv .none ?_
  refine Pend ?_
  refine PW_seq ?_
  refine PW_seq ?_
  -- region 1
  refine PW_region ?_
  refine qMv .none ?_
  refine Pend ?_
  refine PW_block ?_
  refine PW_iter (ι := Nat) (fun i => [(1, .c (.g (.sl (vs.map encI)))), (2, .c (.optr 2 0 0)), (4, .c (.g (.bool false))), (5, .c (.g (.int .i64 (i : Nat))))]) (fun i => [(2, ⟨25, 0, .gnd [k.cells]⟩)]) (fun i => i ≤ vs.length ∧ (vs.take i).all okV = true) (fun i => vs.length - i) 0 ⟨Nat.zero_le _, rfl⟩ (by repeat (first | exact trivial | refine And.intro rfl ?_)) (by repeat (first | exact trivial | refine And.intro rfl ?_)) (fun i hi => ?_)
  refine PW_seq ?_
  refine PW_seq ?_
  -- region 2
  refine PW_region ?_
  refine qMv .none ?_
  refine qMv .none ?_
  refine qLn .none ?_
  refine qCm .none ?_
  refine Pend ?_
  refine PW_cond rfl (fun h1 => ?_) (fun h1 => ?_)
  · -- t9
    refine PW_skip ?_
    refine PW_seq ?_
    refine PW_block ?_
    refine PW_seq ?_
    obtain ⟨x, hx⟩ := at_lt h1
    have hlt := (List.getElem?_eq_some_iff.1 hx).1
    --region 4
    refine PW_region ?_
    refine qMv .none ?_
    refine qMv .none ?_
    refine P10 .none (by first | exact S_indexR rfl rfl rfl (map_at hx) rfl rfl | exact S_indexO rfl rfl rfl rfl rfl (map_at hx) rfl) ?_
    refine qLd .none ?_
    refine P00 .none (S_call (.one rfl (.one rfl (.one rfl .nil))) rfl (ctr_s_inRange x 1 1000) (.inl rfl) rfl) ?_
    refine qCm .none ?_
    refine Pend ?_
    refine PW_cond rfl (fun h2 => ?_) (fun h2 => ?_)
    · -- t17
      refine PW_seq ?_
      -- region 5
      refine PW_region ?_
      refine qMv .none ?_
      refine Pend ?_
      refine PW_ret ⟨.inr rfl, ?_⟩
      exact ret_g (.cons (.tmp rfl) (.c (by first | exact .nil | exact .g _ | exact Ex.whole rfl rfl rfl)) .nil) (by show GV.bool _ = GV.bool _; congr 1; unfold told; rw [all_not hx (show okV x = false from by have g := h2; rw [Bool.not_eq_true'] at g; exact g), Bool.and_false]) trivial
    · -- not t17
      refine PW_skip ?_
      -- region 3
      refine PW_region ?_
      refine qMv .none ?_
      refine qAd .none ?_
      refine qMv .none ?_
      refine Pend ?_
      exact ⟨i + 1, by omega, ⟨by omega, all_next hx hi.2 (show okV x = true by simpa [inRange, okV] using h2)⟩, (by repeat (first | exact trivial | refine And.intro rfl ?_)), (by repeat (first | exact trivial | refine And.intro rfl ?_))⟩
  · -- not t9
    refine PW_exit ?_
    refine PW_seq ?_
    have hall : vs.all okV = true := by
      have e : vs.take i = vs := List.take_of_length_le (by have := of_decide_eq_false h1; omega)
      rw [e] at hi; exact hi.2
    --region 6
    refine PW_region ?_
    refine qLd .none ?_
    refine P00 .none (S_call (.one rfl .nil) rfl (ctr_s_validWork k (by omega)) (.inl rfl) rfl) ?_
    refine qMv .none ?_
    refine Psplit 20 rfl (fun h3 => ?_) (fun h3 => ?_)
    · -- t20 = true
      refine qMv (.yes rfl rfl h3) ?_
      refine qLn (.yes rfl rfl h3) ?_
      refine qFd (.yes rfl rfl h3) ?_
      refine qLd (.yes rfl rfl h3) ?_
      refine qLn (.yes rfl rfl h3) ?_
      refine qCm (.yes rfl rfl h3) ?_
      refine P10 .none (S_pickT rfl h3 rfl rfl) ?_
      refine qMv .none ?_
      refine Psplit 28 rfl (fun h4 => ?_) (fun h4 => ?_)
      · -- t28 = true
        refine qMv (.yes rfl rfl h4) ?_
        refine qLn (.yes rfl rfl h4) ?_
        refine qCm (.yes rfl rfl h4) ?_
        refine P10 .none (S_pickT rfl h4 rfl rfl) ?_
        refine qMv .none ?_
        refine Psplit 33 rfl (fun h5 => ?_) (fun h5 => ?_)
        · -- t33 = true
          refine qFd (.yes rfl rfl h5) ?_
          refine qLd (.yes rfl rfl h5) ?_
          refine qCm (.yes rfl rfl h5) ?_
          refine P10 .none (S_pickT rfl h5 rfl rfl) ?_
          refine qMv .none ?_
          refine Psplit 38 rfl (fun h6 => ?_) (fun h6 => ?_)
          · -- t38 = true
            refine qFd (.yes rfl rfl h6) ?_
            refine qLd (.yes rfl rfl h6) ?_
            refine qCm (.yes rfl rfl h6) ?_
            refine P10 .none (S_pickT rfl h6 rfl rfl) ?_
            refine qMv .none ?_
            refine Pend ?_
            refine PW_ret ⟨.inr rfl, ?_⟩
            exact ret_g (.cons (.tmp rfl) (.c (by first | exact .nil | exact .g _ | exact Ex.whole rfl rfl rfl)) .nil) (by show GV.bool _ = GV.bool _; congr 1; unfold told; rw [hall, Bool.and_true]; first | (simp [h3, h4, h5, h6]; done) | (rw [Bool.eq_iff_iff]; simp only [Bool.and_eq_true, decide_eq_true_eq, true_and, hall] at *; omega) | (rw [Bool.eq_iff_iff]; simp only [Bool.and_eq_true, decide_eq_true_eq, decide_eq_false_iff_not, Bool.false_eq_true, iff_false, false_iff, iff_true, true_iff] at *; simp only [*, true_and]; omega)) trivial
          · -- t38 = false
            refine Pskip rfl rfl h6 rfl ?_
            refine Pskip rfl rfl h6 rfl ?_
            refine Pskip rfl rfl h6 rfl ?_
            refine P10 .none (S_pickF rfl h6 rfl rfl) ?_
            refine qMv .none ?_
            refine Pend ?_
            refine PW_ret ⟨.inr rfl, ?_⟩
            exact ret_g (.cons (.tmp rfl) (.c (by first | exact .nil | exact .g _ | exact Ex.whole rfl rfl rfl)) .nil) (by show GV.bool _ = GV.bool _; congr 1; unfold told; rw [hall, Bool.and_true]; first | (simp [h3, h4, h5, h6]; done) | (rw [Bool.eq_iff_iff]; simp only [Bool.and_eq_true, decide_eq_true_eq, true_and, hall] at *; omega) | (rw [Bool.eq_iff_iff]; simp only [Bool.and_eq_true, decide_eq_true_eq, decide_eq_false_iff_not, Bool.false_eq_true, iff_false, false_iff, iff_true, true_iff] at *; simp only [*, true_and]; omega)) trivial
        · -- t33 = false
          refine Pskip rfl rfl h5 rfl ?_
          refine Pskip rfl rfl h5 rfl ?_
          refine Pskip rfl rfl h5 rfl ?_
          refine P10 .none (S_pickF rfl h5 rfl rfl) ?_
          refine qMv .none ?_
          refine Pskip rfl rfl rfl rfl ?_
          refine Pskip rfl rfl rfl rfl ?_
          refine Pskip rfl rfl rfl rfl ?_
          refine P10 .none (S_pickF rfl rfl rfl rfl) ?_
          refine qMv .none ?_
          refine Pend ?_
          refine PW_ret ⟨.inr rfl, ?_⟩
          exact ret_g (.cons (.tmp rfl) (.c (by first | exact .nil | exact .g _ | exact Ex.whole rfl rfl rfl)) .nil) (by show GV.bool _ = GV.bool _; congr 1; unfold told; rw [hall, Bool.and_true]; first | (simp [h3, h4, h5]; done) | (rw [Bool.eq_iff_iff]; simp only [Bool.and_eq_true, decide_eq_true_eq, true_and, hall] at *; omega) | (rw [Bool.eq_iff_iff]; simp only [Bool.and_eq_true, decide_eq_true_eq, decide_eq_false_iff_not, Bool.false_eq_true, iff_false, false_iff, iff_true, true_iff] at *; simp only [*, true_and]; omega)) trivial
      · -- t28 = false
        refine Pskip rfl rfl h4 rfl ?_
        refine Pskip rfl rfl h4 rfl ?_
        refine Pskip rfl rfl h4 rfl ?_
        refine P10 .none (S_pickF rfl h4 rfl rfl) ?_
        refine qMv .none ?_
        refine Pskip rfl rfl rfl rfl ?_
        refine Pskip rfl rfl rfl rfl ?_
        refine Pskip rfl rfl rfl rfl ?_
        refine P10 .none (S_pickF rfl rfl rfl rfl) ?_
        refine qMv .none ?_
        refine Pskip rfl rfl rfl rfl ?_
        refine Pskip rfl rfl rfl rfl ?_
        refine Pskip rfl rfl rfl rfl ?_
        refine P10 .none (S_pickF rfl rfl rfl rfl) ?_
        refine qMv .none ?_
        refine Pend ?_
        refine PW_ret ⟨.inr rfl, ?_⟩
        exact ret_g (.cons (.tmp rfl) (.c (by first | exact .nil | exact .g _ | exact Ex.whole rfl rfl rfl)) .nil) (by show GV.bool _ = GV.bool _; congr 1; unfold told; rw [hall, Bool.and_true]; first | (simp [h3, h4]; done) | (rw [Bool.eq_iff_iff]; simp only [Bool.and_eq_true, decide_eq_true_eq, true_and, hall] at *; omega) | (rw [Bool.eq_iff_iff]; simp only [Bool.and_eq_true, decide_eq_true_eq, decide_eq_false_iff_not, Bool.false_eq_true, iff_false, false_iff, iff_true, true_iff] at *; simp only [*, true_and]; omega)) trivial
    · -- t20 = false
      refine Pskip rfl rfl h3 rfl ?_
      refine Pskip rfl rfl h3 rfl ?_
      refine Pskip rfl rfl h3 rfl ?_
      refine Pskip rfl rfl h3 rfl ?_
      refine Pskip rfl rfl h3 rfl ?_
      refine Pskip rfl rfl h3 rfl ?_
      refine P10 .none (S_pickF rfl h3 rfl rfl) ?_
      refine qMv .none ?_
      refine Pskip rfl rfl rfl rfl ?_
      refine Pskip rfl rfl rfl rfl ?_
      refine Pskip rfl rfl rfl rfl ?_
      refine P10 .none (S_pickF rfl rfl rfl rfl) ?_
      refine qMv .none ?_
      refine Pskip rfl rfl rfl rfl ?_
      refine Pskip rfl rfl rfl rfl ?_
      refine Pskip rfl rfl rfl rfl ?_
      refine P10 .none (S_pickF rfl rfl rfl rfl) ?_
      refine qMv .none ?_
      refine Pskip rfl rfl rfl rfl ?_
      refine Pskip rfl rfl rfl rfl ?_
      refine Pskip rfl rfl rfl rfl ?_
      refine P10 .none (S_pickF rfl rfl rfl rfl) ?_
      refine qMv .none ?_
      refine Pend ?_
      refine PW_ret ⟨.inr rfl, ?_⟩
      exact ret_g (.cons (.tmp rfl) (.c (by first | exact .nil | exact .g _ | exact Ex.whole rfl rfl rfl)) .nil) (by show GV.bool _ = GV.bool _; congr 1; unfold told; rw [hall, Bool.and_true]; first | (simp [h3]; done) | (rw [Bool.eq_iff_iff]; simp only [Bool.and_eq_true, decide_eq_true_eq, true_and, hall] at *; omega) | (rw [Bool.eq_iff_iff]; simp only [Bool.and_eq_true, decide_eq_true_eq, decide_eq_false_iff_not, Bool.false_eq_true, iff_false, false_iff, iff_true, true_iff] at *; simp only [*, true_and]; omega)) trivial
/- spec.leafValue: 25, 26, 3, 3 -> [34, 3] -/
set_option maxRecDepth 100000 in
theorem ctr_leafValue (k : Work) (hk : k.panes.length ≤ 100000) (vs : List Int) (hl : vs.length ≤ 100000) (w h : Int) (hw : 0 ≤ w ∧ w ≤ 1000) (hh : 0 ≤ h ∧ h ≤ 1000) : CtrG P 129 50 [.c (.g (.agg k.cells)), .c (.g (.sl (vs.map encI))), .c (.g (.int .i64 w)), .c (.g (.int .i64 h))] [] (leafPV (leafV k vs w h)) [] := by
  have hvl : (vs.map encI).length = vs.length := List.length_map _
  generalize hV : leafV k vs w h = V
  unfold leafV at hV
  refine ctr_ofG (fn := Go.Proofs.Try.f129) (by kernel_rfl) rfl rfl rfl ?_
  rintro ⟨n, w0, F0, M, pin⟩ hn
  cases hn
  refine PW_seq ?_
  -- region 0
  refine PW_region ?_
  refine qBx .none ?_
  refine qBx .none ?_
  refine qMv .none ?_
  refine Pend ?_
  refine PW_seq ?_
  -- region 1
  refine PW_region ?_
  refine P10 .none (S_build (gs := [_, _, _, _, _]) (.nil _) rfl rfl) ?_
  refine qBx .none ?_
  refine P01 .none (by first | exact S_storeW rfl rfl rfl rfl rfl rfl | exact S_storeWe rfl rfl rfl HK rfl rfl rfl | exact S_storeP rfl rfl rfl rfl rfl (Nat.le_of_ble_eq_true rfl) | exact S_storeLW rfl rfl rfl rfl rfl rfl rfl | exact S_storeW rfl rfl rfl (Plan.cells_one _) (Plan.cells_len _) rfl) ?_
  refine Pend ?_
  refine PW_seq ?_
  -- region 2
  refine PW_region ?_
  refine qMv .none ?_
  refine Pend ?_
  refine PW_seq ?_
  refine PW_seq ?_
  -- region 3
  refine PW_region ?_
  refine qMv .none ?_
  refine Pend ?_
  refine PW_block ?_
  refine PW_iter (ι := Nat × LS) (fun u => [(1, .c (.g (.sl (vs.map encI)))), (2, .c (.g (.int .i64 w))), (3, .c (.g (.int .i64 h))), (4, .c (.optr 4 0 0)), (8, .c (.optr 8 0 0)), (10, .c (.optr 10 0 0)), (11, .c (.g (.int .i64 u.2.2))), (12, .c (.g (.int .i64 (u.1 : Nat))))]) (fun u => [(4, ⟨25, 0, .gnd [k.cells]⟩), (8, ⟨34, 0, .gnd [[.int .i64 0, .int .i64 0, .int .i64 0, .bool false, .nil]]⟩), (10, ⟨34, 0, .gnd [leafRaw u.2.1]⟩)]) (fun u => u.1 ≤ vs.length ∧ leafGo k w h (vs.drop u.1) u.1 u.2 = V) (fun u => vs.length - u.1) (0, (none, 0)) ⟨Nat.zero_le _, hV⟩ (by repeat (first | exact trivial | refine And.intro rfl ?_)) (by repeat (first | exact trivial | refine And.intro rfl ?_)) (fun u hu => ?_)
  refine PW_seq ?_
  refine PW_seq ?_
  -- region 4
  refine PW_region ?_
  refine qMv .none ?_
  refine qMv .none ?_
  refine qLn .none ?_
  refine qCm .none ?_
  refine Pend ?_
  refine PW_cond rfl (fun h1 => ?_) (fun h1 => ?_)
  · -- t19
    refine PW_skip ?_
    refine PW_seq ?_
    refine PW_block ?_
    refine PW_seq ?_
    obtain ⟨i, o, b⟩ := u
    obtain ⟨v, hx⟩ := at_lt h1
    have hlt := (List.getElem?_eq_some_iff.1 hx).1
    dsimp only at hu hlt hx ⊢
    obtain ⟨hu1, hu2⟩ := hu
    rw [List.drop_eq_getElem_cons hlt, (List.getElem?_eq_some_iff.1 hx).2] at hu2
    simp only [leafGo] at hu2
    generalize hS : leafRest k w h v i 0 (o, b) = S at hu2
    --region 6
    refine PW_region ?_
    refine qMv .none ?_
    refine Pend ?_
    refine PW_block ?_
    refine PW_iter (ι := Nat × LS) (fun z => [(1, .c (.g (.sl (vs.map encI)))), (2, .c (.g (.int .i64 w))), (3, .c (.g (.int .i64 h))), (4, .c (.optr 4 0 0)), (8, .c (.optr 8 0 0)), (10, .c (.optr 10 0 0)), (11, .c (.g (.int .i64 z.2.2))), (12, .c (.g (.int .i64 (i : Nat)))), (13, .c (.g (.int .i64 (z.1 : Nat))))]) (fun z => [(4, ⟨25, 0, .gnd [k.cells]⟩), (8, ⟨34, 0, .gnd [[.int .i64 0, .int .i64 0, .int .i64 0, .bool false, .nil]]⟩), (10, ⟨34, 0, .gnd [leafRaw z.2.1]⟩)]) (fun z => z.1 ≤ 2 ∧ leafRest k w h v i z.1 z.2 = S) (fun z => 2 - z.1) (0, (o, b)) ⟨Nat.zero_le _, hS⟩ (by repeat (first | exact trivial | refine And.intro rfl ?_)) (by repeat (first | exact trivial | refine And.intro rfl ?_)) (fun z hz => ?_)
    refine PW_seq ?_
    refine PW_seq ?_
    -- region 7
    refine PW_region ?_
    refine qMv .none ?_
    refine qCm .none ?_
    refine Pend ?_
    refine PW_cond rfl (fun h2 => ?_) (fun h2 => ?_)
    · -- t23
      refine PW_skip ?_
      refine PW_seq ?_
      refine PW_block ?_
      refine PW_seq ?_
      obtain ⟨j, o', b'⟩ := z
      dsimp only at hz ⊢
      obtain ⟨hz1, hz2⟩ := hz
      have hj2 : j < 2 := by have := of_decide_eq_true h2; omega
      rw [leafRest_next hj2] at hz2
      have hd : decide (((j : Nat) : Int) = 1) = decide (j = 1) := by rw [Bool.eq_iff_iff]; simp; omega
      have hfit : CtrG P 141 1 [.c (.g (.agg k.cells)), .c (.g (.agg (T.pane i (decide (j = 1))).plan.cells)), .c (.g (.int .i64 w)), .c (.g (.int .i64 h))] [] _ [] := Ctr.toG (gs := [_, _, _, _]) (ctr_s_fitsPlan k hk (.pane i (decide (j = 1))) w h hw hh)
      rw [← hd] at hfit hz2
      --region 9
      refine PW_region ?_
      refine qMv .none ?_
      refine qMv .none ?_
      refine qCm .none ?_
      refine P10 .none (S_build (gs := [_, _, _, _, _]) (.one rfl rfl rfl rfl (.one rfl rfl rfl rfl (.one rfl rfl rfl rfl (.nil _)))) rfl rfl) ?_
      refine qBx .none ?_
      refine P01 .none (by first | exact S_storeW rfl rfl rfl rfl rfl rfl | exact S_storeWe rfl rfl rfl HK rfl rfl rfl | exact S_storeP rfl rfl rfl rfl rfl (Nat.le_of_ble_eq_true rfl) | exact S_storeLW rfl rfl rfl rfl rfl rfl rfl | exact S_storeW rfl rfl rfl (Plan.cells_one _) (Plan.cells_len _) rfl) ?_
      refine Pend ?_
      refine PW_seq ?_
      -- region 10
      refine PW_region ?_
      refine qMv .none ?_
      refine qMv .none ?_
      refine P10 .none (by first | exact S_indexR rfl rfl rfl (map_at hx) rfl rfl | exact S_indexO rfl rfl rfl rfl rfl (map_at hx) rfl) ?_
      refine qLd .none ?_
      refine qMv .none ?_
      refine qCm .none ?_
      refine qMv .none ?_
      refine Psplit 36 rfl (fun h3 => ?_) (fun h3 => ?_)
      · -- t36 = true
        refine qLd (.yes rfl rfl h3) ?_
        refine P10 (.yes rfl rfl h3) (by first | exact S_loadOW rfl rfl rfl rfl rfl | exact S_loadRW rfl rfl rfl | exact S_loadLA rfl rfl rfl (Nat.le_of_ble_eq_true rfl) rfl | exact S_loadOA rfl rfl rfl (Nat.le_of_ble_eq_true rfl) rfl | exact S_loadRA rfl (Nat.le_of_ble_eq_true rfl) rfl | exact S_loadRW rfl (Plan.cells_len _) rfl | exact S_loadOW rfl rfl rfl (Plan.cells_len _) rfl) ?_
        refine qMv (.yes rfl rfl h3) ?_
        refine qMv (.yes rfl rfl h3) ?_
        refine P00 (.yes rfl rfl h3) (S_callG [] [] true hfit (.g rfl (.up rfl (pane_up _ _) (.g rfl (.g rfl .nil)))) trivial rfl (.inr ⟨flat_bool _, by simp⟩) rfl) ?_
        refine P10 .none (S_pickT rfl h3 rfl rfl) ?_
        refine Pend ?_
        refine PW_cond rfl (fun h4 => ?_) (fun h4 => ?_)
        · -- t42
          refine PW_seq ?_
          -- region 11
          refine PW_region ?_
          refine P10 .none (by first | exact S_loadOW rfl rfl rfl rfl rfl | exact S_loadRW rfl rfl rfl | exact S_loadLA rfl rfl rfl (Nat.le_of_ble_eq_true rfl) rfl | exact S_loadOA rfl rfl rfl (Nat.le_of_ble_eq_true rfl) rfl | exact S_loadRA rfl (Nat.le_of_ble_eq_true rfl) rfl | exact S_loadRW rfl (Plan.cells_len _) rfl | exact S_loadOW rfl rfl rfl (Plan.cells_len _) rfl) ?_
          refine P01 .none (S_storeW (n := 5) rfl rfl rfl rfl rfl (leafRaw_one _).2) ?_
          refine Pend ?_
          -- region 12
          refine PW_region ?_
          refine qMv .none ?_
          refine qMv .none ?_
          refine P10 .none (by first | exact S_indexR rfl rfl rfl (map_at hx) rfl rfl | exact S_indexO rfl rfl rfl rfl rfl (map_at hx) rfl) ?_
          refine qLd .none ?_
          refine qMv .none ?_
          refine Pend ?_
          -- region 8
          refine PW_region ?_
          refine qMv .none ?_
          refine qAd .none ?_
          refine qMv .none ?_
          refine Pend ?_
          have e : leafOne k w h v i (decide (((j : Nat) : Int) = 1)) (o', b') = (some (i, decide (((j : Nat) : Int) = 1)), v) := by unfold leafOne; rw [if_pos (by rw [Bool.and_eq_true]; exact ⟨h3, h4⟩)]
          rw [e] at hz2
          exact ⟨(j + 1, some (i, decide (((j : Nat) : Int) = 1)), v), by dsimp only; omega, ⟨by dsimp only; omega, hz2⟩, (by repeat (first | exact trivial | refine And.intro rfl ?_)), (by repeat (first | exact trivial | refine And.intro rfl ?_))⟩
        · -- not t42
          refine PW_skip ?_
          -- region 8
          refine PW_region ?_
          refine qMv .none ?_
          refine qAd .none ?_
          refine qMv .none ?_
          refine Pend ?_
          have e : leafOne k w h v i (decide (((j : Nat) : Int) = 1)) (o', b') = (o', b') := by unfold leafOne; rw [if_neg (by rw [show paneFills k i (decide (((j : Nat) : Int) = 1)) w h = false from h4, Bool.and_false]; simp)]
          rw [e] at hz2
          exact ⟨(j + 1, o', b'), by dsimp only; omega, ⟨by dsimp only; omega, hz2⟩, (by repeat (first | exact trivial | refine And.intro rfl ?_)), (by repeat (first | exact trivial | refine And.intro rfl ?_))⟩
      · -- t36 = false
        refine Pskip rfl rfl h3 rfl ?_
        refine Pskip rfl rfl h3 rfl ?_
        refine Pskip rfl rfl h3 rfl ?_
        refine Pskip rfl rfl h3 rfl ?_
        refine Pskip rfl rfl h3 rfl ?_
        refine P10 .none (S_pickF rfl h3 rfl rfl) ?_
        refine Pend ?_
        refine PW_condF rfl rfl ?_
        refine PW_skip ?_
        -- region 8
        refine PW_region ?_
        refine qMv .none ?_
        refine qAd .none ?_
        refine qMv .none ?_
        refine Pend ?_
        have e : leafOne k w h v i (decide (((j : Nat) : Int) = 1)) (o', b') = (o', b') := by unfold leafOne; rw [if_neg (by rw [show decide (b' < v) = false from h3]; simp)]
        rw [e] at hz2
        exact ⟨(j + 1, o', b'), by dsimp only; omega, ⟨by dsimp only; omega, hz2⟩, (by repeat (first | exact trivial | refine And.intro rfl ?_)), (by repeat (first | exact trivial | refine And.intro rfl ?_))⟩
    · -- not t23
      refine PW_exit ?_
      obtain ⟨j, o', b'⟩ := z
      dsimp only at hz ⊢
      obtain ⟨hz1, hz2⟩ := hz
      obtain rfl : j = 2 := by have := of_decide_eq_false h2; omega
      simp only [leafRest] at hz2
      rw [← hz2] at hu2
      --region 5
      refine PW_region ?_
      refine qMv .none ?_
      refine qAd .none ?_
      refine qMv .none ?_
      refine Pend ?_
      exact ⟨(i + 1, o', b'), by dsimp only; omega, ⟨by dsimp only; omega, hu2⟩, (by repeat (first | exact trivial | refine And.intro rfl ?_)), (by repeat (first | exact trivial | refine And.intro rfl ?_))⟩
  · -- not t19
    refine PW_exit ?_
    refine PW_seq ?_
    obtain ⟨i, o, b⟩ := u
    dsimp only at hu ⊢
    obtain ⟨hu1, hu2⟩ := hu
    obtain rfl : i = vs.length := by have := of_decide_eq_false h1; omega
    rw [List.drop_length] at hu2
    simp only [leafGo] at hu2
    subst hu2
    --region 13
    refine PW_region ?_
    refine P10 .none (S_loadOW (n := 5) rfl rfl rfl (leafRaw_one _).2 rfl) ?_
    refine qMv .none ?_
    refine P01 .none (S_storeW (n := 5) rfl rfl rfl (leafRaw_one _).1 (leafRaw_one _).2 rfl) ?_
    refine qMv .none ?_
    refine Pend ?_
    refine PW_ret ⟨.inr rfl, ?_⟩
    exact ret_G (.cons (.frz (.gnd rfl rfl (leafRaw_one _).2) (.up (leaf_up _))) (.cons (.raw (.tmp rfl) rfl) .nil)) rfl trivial rfl rfl
end Go.Proofs.Ytdmlfhmnlddooaa
/- The best value of every size of sheet, and a best plan: plain law. -/
namespace Go.Proofs.Ytdmlfhmnlddooaa
open Go Go.Pu

/-- The most of v and of all the ways to cut, from c on, r of them. -/
def maxFrom (f : Nat → Int) (w : Nat) : Nat → Nat → Int → Int
  | 0, _, v => v
  | r + 1, c, v => maxFrom f w r (c + 1) (max v (f c + f (w - c)))
def valF (k : Work) (vs : List Int) : Nat → Nat → Nat → Int
  | 0, _, _ => 0
  | n + 1, w, h => maxFrom (fun y => valF k vs n w y) h (h / 2) 1 (maxFrom (fun x => valF k vs n x h) w (w / 2) 1 (leafV k vs w h).2)
/-- The best value of a sheet of this size. -/
def val (k : Work) (vs : List Int) (w h : Nat) : Int := valF k vs (w + h) w h
theorem maxFrom_congr {f g : Nat → Int} {w : Nat} : ∀ (r c : Nat) (v : Int), (∀ x, c ≤ x → x < c + r → f x = g x ∧ f (w - x) = g (w - x)) → maxFrom f w r c v = maxFrom g w r c v := by
  intro r
  induction r with
  | zero => intros; rfl
  | succ r ih =>
    intro c v h
    simp only [maxFrom]
    rw [(h c (by omega) (by omega)).1, (h c (by omega) (by omega)).2]
    exact ih _ _ (fun x h1 h2 => h x (by omega) (by omega))
theorem valF_any (k : Work) (vs : List Int) : ∀ (n m w h : Nat), 1 ≤ w → 1 ≤ h → w + h ≤ n → w + h ≤ m → valF k vs n w h = valF k vs m w h := by
  intro n
  induction n with
  | zero => intros; omega
  | succ n ih =>
    intro m w h h1 h2 h3 h4
    obtain ⟨m, rfl⟩ : ∃ m', m = m' + 1 := ⟨m - 1, by omega⟩
    simp only [valF]
    rw [maxFrom_congr (g := fun x => valF k vs m x h) (w / 2) 1 _ (fun x h5 h6 => ⟨ih _ _ _ (by omega) (by omega) (by omega) (by omega), ih _ _ _ (by omega) (by omega) (by omega) (by omega)⟩)]
    exact maxFrom_congr _ _ _ (fun x h5 h6 => ⟨ih _ _ _ (by omega) (by omega) (by omega) (by omega), ih _ _ _ (by omega) (by omega) (by omega) (by omega)⟩)
theorem val_eq (k : Work) (vs : List Int) {w h : Nat} (h1 : 1 ≤ w) (h2 : 1 ≤ h) : val k vs w h = maxFrom (fun y => val k vs w y) h (h / 2) 1 (maxFrom (fun x => val k vs x h) w (w / 2) 1 (leafV k vs w h).2) := by
  unfold val
  obtain ⟨n, hn⟩ : ∃ n, w + h = n + 1 := ⟨w + h - 1, by omega⟩
  rw [hn]
  simp only [valF]
  rw [maxFrom_congr (g := fun x => valF k vs (x + h) x h) (w / 2) 1 _ (fun x h5 h6 => ⟨valF_any _ _ _ _ _ _ (by omega) (by omega) (by omega) (by omega), valF_any _ _ _ _ _ _ (by omega) (by omega) (by omega) (by omega)⟩)]
  exact maxFrom_congr _ _ _ (fun x h5 h6 => ⟨valF_any _ _ _ _ _ _ (by omega) (by omega) (by omega) (by omega), valF_any _ _ _ _ _ _ (by omega) (by omega) (by omega) (by omega)⟩)

/-! ### bounds -/
theorem leafOne_in {k : Work} {w h v : Int} {i : Nat} {tu : Bool} {s : LS} (hs : 0 ≤ s.2 ∧ s.2 ≤ 1000) (hv : v ≤ 1000) : 0 ≤ (leafOne k w h v i tu s).2 ∧ (leafOne k w h v i tu s).2 ≤ 1000 := by
  unfold leafOne
  split
  · rename_i h
    simp only [Bool.and_eq_true, decide_eq_true_eq] at h
    exact ⟨by dsimp only; omega, hv⟩
  · exact hs
theorem leafRest_in {k : Work} {w h v : Int} {i j : Nat} {s : LS} (hs : 0 ≤ s.2 ∧ s.2 ≤ 1000) (hv : v ≤ 1000) : 0 ≤ (leafRest k w h v i j s).2 ∧ (leafRest k w h v i j s).2 ≤ 1000 := by
  match j with
  | 0 => exact leafOne_in (leafOne_in hs hv) hv
  | 1 => exact leafOne_in hs hv
  | _ + 2 => exact hs
theorem leafGo_in {k : Work} {w h : Int} : ∀ (vs : List Int) (i : Nat) (s : LS), (∀ v ∈ vs, v ≤ 1000) → 0 ≤ s.2 ∧ s.2 ≤ 1000 → 0 ≤ (leafGo k w h vs i s).2 ∧ (leafGo k w h vs i s).2 ≤ 1000 := by
  intro vs
  induction vs with
  | nil => intro i s _ hs; exact hs
  | cons v r ih =>
    intro i s hv hs
    exact ih _ _ (fun x hx => hv x (by simp [hx])) (leafRest_in hs (hv v (by simp)))
theorem leafV_in {k : Work} {vs : List Int} (hv : ∀ v ∈ vs, v ≤ 1000) (w h : Int) : 0 ≤ (leafV k vs w h).2 ∧ (leafV k vs w h).2 ≤ 1000 := leafGo_in vs 0 _ hv ⟨Int.le_refl _, by decide⟩
theorem maxFrom_in {f : Nat → Int} {w : Nat} {B : Int} : ∀ (r c : Nat) (v : Int), 0 ≤ v ∧ v ≤ B → (∀ x, c ≤ x → x < c + r → f x + f (w - x) ≤ B) → v ≤ maxFrom f w r c v ∧ maxFrom f w r c v ≤ B := by
  intro r
  induction r with
  | zero => intro c v h _; exact ⟨Int.le_refl _, h.2⟩
  | succ r ih =>
    intro c v h hf
    have h1 := hf c (by omega) (by omega)
    obtain ⟨a, b⟩ := ih (c + 1) (max v (f c + f (w - c))) ⟨by omega, by omega⟩ (fun x h1 h2 => hf x (by omega) (by omega))
    simp only [maxFrom]
    exact ⟨by omega, b⟩
theorem val_in {k : Work} {vs : List Int} (hv : ∀ v ∈ vs, v ≤ 1000) : ∀ (n w h : Nat), w + h ≤ n → 1 ≤ w → 1 ≤ h → (leafV k vs w h).2 ≤ val k vs w h ∧ val k vs w h ≤ 1000 * ((w * h : Nat) : Int) := by
  intro n
  induction n with
  | zero => intros; omega
  | succ n ih =>
    intro w h hn hw hh
    obtain ⟨l1, l2⟩ := leafV_in (k := k) hv w h
    have hp : 1 ≤ w * h := Nat.mul_pos hw hh
    rw [val_eq k vs hw hh]
    have m1 := maxFrom_in (f := fun x => val k vs x h) (w := w) (B := 1000 * ((w * h : Nat) : Int)) (w / 2) 1 (leafV k vs w h).2 ⟨l1, by omega⟩ (fun x a b => by
      have e1 := ih x h (by omega) (by omega) hh
      have e2 := ih (w - x) h (by omega) (by omega) hh
      have e3 : x * h + (w - x) * h = w * h := by rw [← Nat.add_mul]; congr 1; omega
      omega)
    have m2 := maxFrom_in (f := fun y => val k vs w y) (w := h) (B := 1000 * ((w * h : Nat) : Int)) (h / 2) 1 _ ⟨by omega, m1.2⟩ (fun x a b => by
      have e1 := ih w x (by omega) hw (by omega)
      have e2 := ih w (h - x) (by omega) hw (by omega)
      have e3 : w * x + w * (h - x) = w * h := by rw [← Nat.mul_add]; congr 1; omega
      omega)
    exact ⟨by omega, m2.2⟩
theorem val_bd {k : Work} {vs : List Int} (hv : ∀ v ∈ vs, v ≤ 1000) {w h : Nat} (h1 : 1 ≤ w) (h2 : 1 ≤ h) (h3 : w ≤ 16) (h4 : h ≤ 16) : 0 ≤ val k vs w h ∧ val k vs w h ≤ 256000 := by
  obtain ⟨a, b⟩ := val_in (k := k) hv (w + h) w h (Nat.le_refl _) h1 h2
  have := leafV_in (k := k) hv w h
  have := Nat.mul_le_mul h3 h4
  omega

/-! ### the table -/
def tabF (f : Nat → Nat → Int) : List Int := (List.range 289).map fun o => f (o / 17) (o % 17)
theorem tabF_len (f : Nat → Nat → Int) : (tabF f).length = 289 := by simp [tabF]
theorem tabF_at {f : Nat → Nat → Int} {a b : Nat} (ha : a < 17) (hb : b < 17) : (tabF f)[a * 17 + b]? = some (f a b) := by
  unfold tabF
  rw [List.getElem?_map, List.getElem?_range (by omega)]
  have e1 : (a * 17 + b) / 17 = a := by omega
  have e2 : (a * 17 + b) % 17 = b := by omega
  simp only [Option.map_some, e1, e2]
theorem tabF_congr {f g : Nat → Nat → Int} (h : ∀ a b, a < 17 → b < 17 → f a b = g a b) : tabF f = tabF g := by
  unfold tabF
  refine List.map_congr_left fun o ho => h _ _ ?_ ?_
  · have := List.mem_range.1 ho; omega
  · exact Nat.mod_lt _ (by omega)
theorem tabF_set {f : Nat → Nat → Int} {a b : Nat} {v : Int} (ha : a < 17) (hb : b < 17) : (tabF f).set (a * 17 + b) v = tabF (fun x y => if x = a ∧ y = b then v else f x y) := by
  refine List.ext_getElem (by simp [tabF]) fun o h1 h2 => ?_
  rw [List.getElem_set]
  simp only [tabF, List.getElem_map, List.getElem_range]
  by_cases h : a * 17 + b = o
  · rw [if_pos h, if_pos (by subst h; exact ⟨by omega, by omega⟩)]
  · rw [if_neg h, if_neg (by rintro ⟨e1, e2⟩; exact h (by omega))]
/-- What is known when the sizes before w, h are done. -/
def doneF (v : Nat → Nat → Int) (H w h : Nat) (a b : Nat) : Int := if 1 ≤ a ∧ 1 ≤ b ∧ b ≤ H ∧ (a < w ∨ a = w ∧ b < h) then v a b else 0
theorem done_start (v : Nat → Nat → Int) (H : Nat) : tabF (doneF v H 1 1) = List.replicate 289 0 := by
  have : tabF (doneF v H 1 1) = tabF (fun _ _ => 0) := tabF_congr fun a b _ _ => by
    unfold doneF
    rw [if_neg (by omega)]
  rw [this]
  show (List.range 289).map (fun _ => (0 : Int)) = _
  rw [List.map_const', List.length_range]
theorem done_step {v : Nat → Nat → Int} {H w h : Nat} (hw : 1 ≤ w) (hw2 : w ≤ 16) (hh : 1 ≤ h) (hH : h ≤ H) (h16 : H ≤ 16) : (tabF (doneF v H w h)).set (w * 17 + h) (v w h) = tabF (doneF v H w (h + 1)) := by
  rw [tabF_set (by omega) (by omega)]
  refine tabF_congr fun a b _ _ => ?_
  unfold doneF
  by_cases e : a = w ∧ b = h
  · rw [if_pos e, if_pos (by omega), e.1, e.2]
  · rw [if_neg e]
    by_cases g : 1 ≤ a ∧ 1 ≤ b ∧ b ≤ H ∧ (a < w ∨ a = w ∧ b < h)
    · rw [if_pos g, if_pos (by omega)]
    · rw [if_neg g, if_neg (by omega)]
theorem done_row {v : Nat → Nat → Int} {H w : Nat} : tabF (doneF v H w (H + 1)) = tabF (doneF v H (w + 1) 1) := tabF_congr fun a b _ _ => by
  unfold doneF
  by_cases g : 1 ≤ a ∧ 1 ≤ b ∧ b ≤ H ∧ (a < w ∨ a = w ∧ b < H + 1)
  · rw [if_pos g, if_pos (by omega)]
  · rw [if_neg g, if_neg (by omega)]
def encG (v : Int) : GV := .int .i64 v
theorem tab_at {v : Nat → Nat → Int} {H w h a b : Nat} (ha : 1 ≤ a) (hb : 1 ≤ b) (hbH : b ≤ H) (hd : a < w ∨ a = w ∧ b < h) (ha2 : a < 17) (hH : H ≤ 16) : ((tabF (doneF v H w h)).map encG)[a * 17 + b]? = some (.int .i64 (v a b)) := by
  rw [List.getElem?_map, tabF_at ha2 (by omega)]
  unfold doneF
  rw [if_pos ⟨ha, hb, hbH, hd⟩]
  rfl
end Go.Proofs.Ytdmlfhmnlddooaa
namespace Go.Proofs.Ytdmlfhmnlddooaa
open Go Go.Pu
theorem leafT_one (o : Option (Nat × Bool)) : (leafT o).plan.cells.all GV.one = true := by
  cases o with
  | none => rfl
  | some x => rfl
/- impl.valuesOf: 25, 26 -> [92] -/
set_option maxRecDepth 100000 in
theorem ctr_valuesOf (W H : Nat) (ps : List Pane) (vs : List Int) (hl : vs.length ≤ 100000) (hv : ∀ v ∈ vs, v ≤ 1000) (hW : W ≤ 16) (hH : H ≤ 16) : CtrG P 70 80 [.c (.g (.agg (Work.cells ⟨(W : Int), (H : Int), ps⟩))), .c (.g (.sl (vs.map encI)))] [] (.c (.g (.agg ((tabF (doneF (val ⟨(W : Int), (H : Int), ps⟩ vs) H (W + 1) 1)).map encG)))) [] := by
  have hvl : (vs.map encI).length = vs.length := List.length_map _
  generalize hV : val ⟨(W : Int), (H : Int), ps⟩ vs = V
  have hst : (tabF (doneF V H 1 1)).map encG = List.replicate 289 (.int .i64 0) := by rw [done_start, List.map_replicate]; rfl
  have hbd : ∀ {a b : Nat}, 1 ≤ a → 1 ≤ b → a ≤ 16 → b ≤ 16 → 0 ≤ V a b ∧ V a b ≤ 256000 := fun h1 h2 h3 h4 => by rw [← hV]; exact val_bd hv h1 h2 h3 h4
  refine ctr_ofG (fn := Go.Proofs.Try.f70) (by kernel_rfl) rfl rfl rfl ?_
  rintro ⟨n, w0, F0, M, pin⟩ hn
  cases hn
  refine PW_seq ?_
  -- region 0
  refine PW_region ?_
  refine qBx .none ?_
  refine qBx .none ?_
  refine Pend ?_
  refine PW_seq ?_
  -- region 1
  refine PW_region ?_
  refine qBx .none ?_
  refine Pend ?_
  refine PW_seq ?_
  refine PW_seq ?_
  -- region 2
  refine PW_region ?_
  refine qMv .none ?_
  refine Pend ?_
  refine PW_block ?_
  refine PW_iter (ι := Nat) (fun i => [(1, .c (.g (.sl (vs.map encI)))), (2, .c (.optr 2 0 0)), (4, .c (.optr 4 0 0)), (5, .c (.optr 5 0 0)), (6, .c (.g (.int .i64 (i : Nat))))]) (fun i => [(2, ⟨25, 0, .gnd [[.int .i64 (W : Int), .int .i64 (H : Int), .sl (ps.map Pane.cells)]]⟩), (4, ⟨92, 0, .gnd [List.replicate 289 (.int .i64 0)]⟩), (5, ⟨92, 0, .gnd [(tabF (doneF V H i 1)).map encG]⟩)]) (fun i => 1 ≤ i ∧ i ≤ W + 1) (fun i => W + 1 - i) 1 ⟨by omega, by omega⟩ (by repeat (first | exact trivial | refine And.intro rfl ?_)) (by rw [hst]; repeat (first | exact trivial | refine And.intro rfl ?_)) (fun i hi => ?_)
  refine PW_seq ?_
  refine PW_seq ?_
  -- region 3
  refine PW_region ?_
  refine qMv .none ?_
  refine qFd .none ?_
  refine qLd .none ?_
  refine qCm .none ?_
  refine Pend ?_
  refine PW_cond rfl (fun h1 => ?_) (fun h1 => ?_)
  · -- t15
    refine PW_skip ?_
    refine PW_seq ?_
    refine PW_block ?_
    refine PW_seq ?_
    have hi2 : i ≤ W := by have := of_decide_eq_true h1; omega
    --region 5
    refine PW_region ?_
    refine qMv .none ?_
    refine Pend ?_
    refine PW_block ?_
    refine PW_iter (ι := Nat) (fun j => [(1, .c (.g (.sl (vs.map encI)))), (2, .c (.optr 2 0 0)), (4, .c (.optr 4 0 0)), (5, .c (.optr 5 0 0)), (6, .c (.g (.int .i64 (i : Nat)))), (7, .c (.g (.int .i64 (j : Nat))))]) (fun j => [(2, ⟨25, 0, .gnd [[.int .i64 (W : Int), .int .i64 (H : Int), .sl (ps.map Pane.cells)]]⟩), (4, ⟨92, 0, .gnd [List.replicate 289 (.int .i64 0)]⟩), (5, ⟨92, 0, .gnd [(tabF (doneF V H i j)).map encG]⟩)]) (fun j => 1 ≤ j ∧ j ≤ H + 1) (fun j => H + 1 - j) 1 ⟨by omega, by omega⟩ (by repeat (first | exact trivial | refine And.intro rfl ?_)) (by repeat (first | exact trivial | refine And.intro rfl ?_)) (fun j hj => ?_)
    refine PW_seq ?_
    refine PW_seq ?_
    -- region 6
    refine PW_region ?_
    refine qMv .none ?_
    refine qFd .none ?_
    refine qLd .none ?_
    refine qCm .none ?_
    refine Pend ?_
    refine PW_cond rfl (fun h2 => ?_) (fun h2 => ?_)
    · -- t21
      refine PW_skip ?_
      refine PW_seq ?_
      refine PW_block ?_
      refine PW_seq ?_
      have hj2 : j ≤ H := by have := of_decide_eq_true h2; omega
      have hve := val_eq ⟨(W : Int), (H : Int), ps⟩ vs (w := i) (h := j) hi.1 hj.1
      rw [hV] at hve
      generalize hM : maxFrom (fun x => V x j) i (i / 2) 1 (leafV ⟨(W : Int), (H : Int), ps⟩ vs i j).2 = M at hve
      --region 8
      refine PW_region ?_
      refine qLd .none ?_
      refine qMv .none ?_
      refine qMv .none ?_
      refine qMv .none ?_
      refine P00 .none (S_callG [] [] false (ctr_bestPane ⟨(W : Int), (H : Int), ps⟩ vs hl i j) (.g rfl (.g rfl (.g rfl (.g rfl .nil)))) trivial rfl (.inl rfl) rfl) ?_
      refine qMv .none ?_
      refine qEx1 .none ?_
      refine qEx1 .none ?_
      refine qBx .none ?_
      refine P01 .none (S_storeW rfl rfl rfl (leafT_one _) (Plan.cells_len _) rfl) ?_
      refine qMv .none ?_
      refine Pend ?_
      refine PW_seq ?_
      refine PW_seq ?_
      -- region 9
      refine PW_region ?_
      refine qMv .none ?_
      refine Pend ?_
      refine PW_block ?_
      refine PW_iter (ι := Nat × Int) (fun u => [(1, .c (.g (.sl (vs.map encI)))), (2, .c (.optr 2 0 0)), (4, .c (.optr 4 0 0)), (5, .c (.optr 5 0 0)), (6, .c (.g (.int .i64 (i : Nat)))), (7, .c (.g (.int .i64 (j : Nat)))), (8, .c (.optr 8 0 0)), (9, .c (.g (.int .i64 u.2))), (10, .c (.g (.int .i64 (u.1 : Nat))))]) (fun u => [(2, ⟨25, 0, .gnd [[.int .i64 (W : Int), .int .i64 (H : Int), .sl (ps.map Pane.cells)]]⟩), (4, ⟨92, 0, .gnd [List.replicate 289 (.int .i64 0)]⟩), (5, ⟨92, 0, .gnd [(tabF (doneF V H i j)).map encG]⟩), (8, ⟨34, 0, .gnd [(leafT (leafV ⟨(W : Int), (H : Int), ps⟩ vs i j).1).plan.cells]⟩)]) (fun u => 1 ≤ u.1 ∧ u.1 ≤ i / 2 + 1 ∧ maxFrom (fun x => V x j) i (i / 2 + 1 - u.1) u.1 u.2 = M) (fun u => i / 2 + 1 - u.1) (1, (leafV ⟨(W : Int), (H : Int), ps⟩ vs i j).2) ⟨by omega, by omega, hM⟩ (by repeat (first | exact trivial | refine And.intro rfl ?_)) (by repeat (first | exact trivial | refine And.intro rfl ?_)) (fun u hu => ?_)
      refine PW_seq ?_
      refine PW_seq ?_
      -- region 10
      refine PW_region ?_
      refine qMv .none ?_
      refine qMv .none ?_
      refine P10 .none (S_quo rfl rfl rfl (by omega) (And.intro (by omega) (by omega))) ?_
      refine qCm .none ?_
      refine Pend ?_
      refine PW_cond rfl (fun h3 => ?_) (fun h3 => ?_)
      · -- t35
        refine PW_skip ?_
        refine PW_seq ?_
        refine PW_block ?_
        obtain ⟨c, v⟩ := u
        dsimp only at hu h3 ⊢
        obtain ⟨hu1, hu2, hu3⟩ := hu
        have hc : c ≤ i / 2 := by have := of_decide_eq_true h3; omega
        rw [show i / 2 + 1 - c = (i / 2 + 1 - (c + 1)) + 1 by omega] at hu3
        simp only [maxFrom] at hu3
        have b1 := hbd (a := c) (b := j) (by omega) (by omega) (by omega) (by omega)
        have b2 := hbd (a := i - c) (b := j) (by omega) (by omega) (by omega) (by omega)
        --region 12
        refine PW_draw (by kernel_rfl) ?_
        refine qMv .none ?_
        refine qMv .none ?_
        refine qMv .none ?_
        refine  P10 .none (S_indexA (k := c) rfl rfl rfl (by omega) rfl) ?_
        refine  P10 .none (S_indexA (k := j) rfl rfl rfl (by omega) rfl) ?_
        refine P10 .none (S_loadO1 (y := .int .i64 (V (c) (j))) rfl rfl rfl (by rw [Nat.zero_add, Nat.mul_one]; exact tab_at (by omega) (by omega) (by omega) (.inl (by omega)) (by omega) (by omega)) rfl) ?_
        refine qMv .none ?_
        refine qMv .none ?_
        refine qSb .none ?_
        refine qMv .none ?_
        refine  P10 .none (S_indexA (k := i - c) rfl rfl (show ((i : Nat) : Int) - (c : Nat) = ((i - c : Nat) : Int) by omega) (by omega) rfl) ?_
        refine  P10 .none (S_indexA (k := j) rfl rfl rfl (by omega) rfl) ?_
        refine P10 .none (S_loadO1 (y := .int .i64 (V (i - c) (j))) rfl rfl rfl (by rw [Nat.zero_add, Nat.mul_one]; exact tab_at (by omega) (by omega) (by omega) (.inl (by omega)) (by omega) (by omega)) rfl) ?_
        refine qAd .none ?_
        refine qCm .none ?_
        refine qMv .none ?_
        refine Pend ⟨by kernel_rfl, ?_⟩
        -- region 11
        refine PW_region ?_
        refine qMv .none ?_
        refine qAd .none ?_
        refine qMv .none ?_
        refine Pend ?_
        exact ⟨(c + 1, max v (V c j + V (i - c) j)), by dsimp only; omega, ⟨by dsimp only; omega, by dsimp only; omega, hu3⟩, (by repeat (first | exact trivial | refine And.intro rfl ?_)), (by repeat (first | exact trivial | refine And.intro rfl ?_))⟩
      · -- not t35
        refine PW_exit ?_
        refine PW_seq ?_
        refine PW_seq ?_
        obtain ⟨c, v⟩ := u
        dsimp only at hu h3 ⊢
        obtain ⟨hu1, hu2, hu3⟩ := hu
        obtain rfl : c = i / 2 + 1 := by have := of_decide_eq_false h3; omega
        rw [Nat.sub_self] at hu3
        simp only [maxFrom] at hu3
        subst hu3
        --region 13
        refine PW_region ?_
        refine qMv .none ?_
        refine Pend ?_
        refine PW_block ?_
        refine PW_iter (ι := Nat × Int) (fun u => [(1, .c (.g (.sl (vs.map encI)))), (2, .c (.optr 2 0 0)), (4, .c (.optr 4 0 0)), (5, .c (.optr 5 0 0)), (6, .c (.g (.int .i64 (i : Nat)))), (7, .c (.g (.int .i64 (j : Nat)))), (8, .c (.optr 8 0 0)), (9, .c (.g (.int .i64 u.2))), (11, .c (.g (.int .i64 (u.1 : Nat))))]) (fun u => [(2, ⟨25, 0, .gnd [[.int .i64 (W : Int), .int .i64 (H : Int), .sl (ps.map Pane.cells)]]⟩), (4, ⟨92, 0, .gnd [List.replicate 289 (.int .i64 0)]⟩), (5, ⟨92, 0, .gnd [(tabF (doneF V H i j)).map encG]⟩), (8, ⟨34, 0, .gnd [(leafT (leafV ⟨(W : Int), (H : Int), ps⟩ vs i j).1).plan.cells]⟩)]) (fun u => 1 ≤ u.1 ∧ u.1 ≤ j / 2 + 1 ∧ maxFrom (fun y => V i y) j (j / 2 + 1 - u.1) u.1 u.2 = V i j) (fun u => j / 2 + 1 - u.1) (1, v) ⟨by omega, by omega, hve.symm⟩ (by repeat (first | exact trivial | refine And.intro rfl ?_)) (by repeat (first | exact trivial | refine And.intro rfl ?_)) (fun u hu => ?_)
        refine PW_seq ?_
        refine PW_seq ?_
        -- region 14
        refine PW_region ?_
        refine qMv .none ?_
        refine qMv .none ?_
        refine P10 .none (S_quo rfl rfl rfl (by omega) (And.intro (by omega) (by omega))) ?_
        refine qCm .none ?_
        refine Pend ?_
        refine PW_cond rfl (fun h4 => ?_) (fun h4 => ?_)
        · -- t56
          refine PW_skip ?_
          refine PW_seq ?_
          refine PW_block ?_
          obtain ⟨c, v⟩ := u
          dsimp only at hu h4 ⊢
          obtain ⟨hu1, hu2, hu3⟩ := hu
          have hc : c ≤ j / 2 := by have := of_decide_eq_true h4; omega
          rw [show j / 2 + 1 - c = (j / 2 + 1 - (c + 1)) + 1 by omega] at hu3
          simp only [maxFrom] at hu3
          have b1 := hbd (a := i) (b := c) (by omega) (by omega) (by omega) (by omega)
          have b2 := hbd (a := i) (b := j - c) (by omega) (by omega) (by omega) (by omega)
          --region 16
          refine PW_draw (by kernel_rfl) ?_
          refine qMv .none ?_
          refine qMv .none ?_
          refine qMv .none ?_
          refine  P10 .none (S_indexA (k := i) rfl rfl rfl (by omega) rfl) ?_
          refine  P10 .none (S_indexA (k := c) rfl rfl rfl (by omega) rfl) ?_
          refine P10 .none (S_loadO1 (y := .int .i64 (V (i) (c))) rfl rfl rfl (by rw [Nat.zero_add, Nat.mul_one]; exact tab_at (by omega) (by omega) (by omega) (.inr ⟨rfl, by omega⟩) (by omega) (by omega)) rfl) ?_
          refine qMv .none ?_
          refine qMv .none ?_
          refine qMv .none ?_
          refine qSb .none ?_
          refine  P10 .none (S_indexA (k := i) rfl rfl rfl (by omega) rfl) ?_
          refine  P10 .none (S_indexA (k := j - c) rfl rfl (show ((j : Nat) : Int) - (c : Nat) = ((j - c : Nat) : Int) by omega) (by omega) rfl) ?_
          refine P10 .none (S_loadO1 (y := .int .i64 (V (i) (j - c))) rfl rfl rfl (by rw [Nat.zero_add, Nat.mul_one]; exact tab_at (by omega) (by omega) (by omega) (.inr ⟨rfl, by omega⟩) (by omega) (by omega)) rfl) ?_
          refine qAd .none ?_
          refine qCm .none ?_
          refine qMv .none ?_
          refine Pend ⟨by kernel_rfl, ?_⟩
          -- region 15
          refine PW_region ?_
          refine qMv .none ?_
          refine qAd .none ?_
          refine qMv .none ?_
          refine Pend ?_
          exact ⟨(c + 1, max v (V i c + V i (j - c))), by dsimp only; omega, ⟨by dsimp only; omega, by dsimp only; omega, hu3⟩, (by repeat (first | exact trivial | refine And.intro rfl ?_)), (by repeat (first | exact trivial | refine And.intro rfl ?_))⟩
        · -- not t56
          refine PW_exit ?_
          obtain ⟨c, v⟩ := u
          dsimp only at hu h4 ⊢
          obtain ⟨hu1, hu2, hu3⟩ := hu
          obtain rfl : c = j / 2 + 1 := by have := of_decide_eq_false h4; omega
          rw [Nat.sub_self] at hu3
          simp only [maxFrom] at hu3
          subst hu3
          have hset : (((tabF (doneF V H i j)).map encG).set (0 + i * 17 + j * 1) (.int .i64 (V i j))) = (tabF (doneF V H i (j + 1))).map encG := by
            rw [Nat.zero_add, Nat.mul_one, ← done_step hi.1 (by omega) hj.1 hj2 hH, List.map_set]; rfl
          --region 17
          refine PW_region ?_
          refine qMv .none ?_
          refine qMv .none ?_
          refine qMv .none ?_
          refine P10 .none (S_indexA (k := i) rfl rfl rfl (by omega) rfl) ?_
          refine P10 .none (S_indexA (k := j) rfl rfl rfl (by omega) rfl) ?_
          refine P01 .none (S_store1e rfl rfl rfl rfl rfl (by simp [tabF_len]; omega)) ?_
          refine Pend ?_
          -- region 7
          refine PW_region ?_
          refine qMv .none ?_
          refine qAd .none ?_
          refine qMv .none ?_
          refine Pend ?_
          exact ⟨j + 1, by omega, ⟨by omega, by omega⟩, (by repeat (first | exact trivial | refine And.intro rfl ?_)), (by rw [← hset]; repeat (first | exact trivial | refine And.intro rfl ?_))⟩
    · -- not t21
      refine PW_exit ?_
      obtain rfl : j = H + 1 := by have := of_decide_eq_false h2; omega
      rw [done_row]
      --region 4
      refine PW_region ?_
      refine qMv .none ?_
      refine qAd .none ?_
      refine qMv .none ?_
      refine Pend ?_
      exact ⟨i + 1, by omega, ⟨by omega, by omega⟩, (by repeat (first | exact trivial | refine And.intro rfl ?_)), (by repeat (first | exact trivial | refine And.intro rfl ?_))⟩
  · -- not t15
    refine PW_exit ?_
    refine PW_seq ?_
    obtain rfl : i = W + 1 := by have := of_decide_eq_false h1; omega
    --region 18
    refine PW_region ?_
    refine P10 .none (S_loadOW (n := 289) rfl rfl rfl (by simp [tabF_len]) rfl) ?_
    refine P01 .none (S_storeW (n := 289) rfl rfl rfl (by simp [encG, GV.one]) (by simp [tabF_len]) rfl) ?_
    refine Pend ?_
    refine PW_ret ⟨.inr rfl, ?_⟩
    exact ret_G (.cons (.frz (.gnd rfl rfl (by simp [tabF_len])) (.g _)) .nil) rfl trivial rfl rfl
end Go.Proofs.Ytdmlfhmnlddooaa
