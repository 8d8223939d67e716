/- The pure layer and the contracts of the functions, part 6: what the functions of the program leave, as values. -/
import Derived.Test.YtdmlfhmnlddooaaB4
set_option linter.unusedSimpArgs false
set_option linter.unusedVariables false
namespace Go.Proofs.Ytdmlfhmnlddooaa
open Go Go.Pu

def findC (f : Nat → Int) (w : Nat) (v : Int) : Nat → Nat → Option Nat
  | 0, _ => none
  | r + 1, c => if f c + f (w - c) = v then some c else findC f w v r (c + 1)
/-- A best plan for a sheet of this size. -/
def bestT (k : Work) (vs : List Int) : Nat → Nat → Nat → T
  | 0, _, _ => .waste
  | n + 1, w, h => if val k vs w h = 0 then .waste else if (leafV k vs w h).2 = val k vs w h then leafT (leafV k vs w h).1 else
    match findC (fun x => val k vs x h) w (val k vs w h) (w / 2) 1 with
    | some c => .cut true c (bestT k vs n c h) (bestT k vs n (w - c) h)
    | none => match findC (fun y => val k vs w y) h (val k vs w h) (h / 2) 1 with
      | some c => .cut false c (bestT k vs n w c) (bestT k vs n w (h - c))
      | none => .waste
theorem bestT_zero {k : Work} {vs : List Int} {n w h : Nat} (h1 : val k vs w h = 0) : bestT k vs (n + 1) w h = .waste := by simp only [bestT]; rw [if_pos h1]
theorem bestT_leaf {k : Work} {vs : List Int} {n w h : Nat} (h1 : val k vs w h ≠ 0) (h2 : (leafV k vs w h).2 = val k vs w h) : bestT k vs (n + 1) w h = leafT (leafV k vs w h).1 := by simp only [bestT]; rw [if_neg h1, if_pos h2]
theorem bestT_cut1 {k : Work} {vs : List Int} {n w h c : Nat} (h1 : val k vs w h ≠ 0) (h2 : (leafV k vs w h).2 ≠ val k vs w h) (h3 : findC (fun x => val k vs x h) w (val k vs w h) (w / 2) 1 = some c) :
    bestT k vs (n + 1) w h = .cut true c (bestT k vs n c h) (bestT k vs n (w - c) h) := by simp only [bestT]; rw [if_neg h1, if_neg h2, h3]
theorem bestT_cut2 {k : Work} {vs : List Int} {n w h c : Nat} (h1 : val k vs w h ≠ 0) (h2 : (leafV k vs w h).2 ≠ val k vs w h) (h3 : findC (fun x => val k vs x h) w (val k vs w h) (w / 2) 1 = none)
    (h4 : findC (fun y => val k vs w y) h (val k vs w h) (h / 2) 1 = some c) : bestT k vs (n + 1) w h = .cut false c (bestT k vs n w c) (bestT k vs n w (h - c)) := by simp only [bestT]; rw [if_neg h1, if_neg h2, h3]; simp only [h4]
theorem bestT_none {k : Work} {vs : List Int} {n w h : Nat} (h1 : val k vs w h ≠ 0) (h2 : (leafV k vs w h).2 ≠ val k vs w h) (h3 : findC (fun x => val k vs x h) w (val k vs w h) (w / 2) 1 = none)
    (h4 : findC (fun y => val k vs w y) h (val k vs w h) (h / 2) 1 = none) : bestT k vs (n + 1) w h = .waste := by simp only [bestT]; rw [if_neg h1, if_neg h2, h3]; simp only [h4]
theorem drop_at {cs : List GV} {a b : Nat} {y : GV} (h : cs[a * 17 + b]? = some y) : ((cs.drop (a * 17)).drop (b * 1))[0]? = some y := by
  rw [List.getElem?_drop, List.getElem?_drop, ← h]; congr 1; omega
/-- The table of the reference. -/
def rowF (f : Nat → Nat → Int) (H a : Nat) : List (List GV) := (List.range (H + 1)).map fun b => encI (f a b)
def rowsF (f : Nat → Nat → Int) (W H : Nat) : List (List GV) := (List.range (W + 1)).map fun a => [.sl (rowF f H a)]
theorem rowF_at {f : Nat → Nat → Int} {H a b : Nat} (hb : b ≤ H) : (rowF f H a)[b]? = some (encI (f a b)) := by
  unfold rowF; rw [List.getElem?_map, List.getElem?_range (by omega)]; rfl
theorem rowsF_at {f : Nat → Nat → Int} {W H a : Nat} (ha : a ≤ W) : (rowsF f W H)[a]? = some [.sl (rowF f H a)] := by
  unfold rowsF; rw [List.getElem?_map, List.getElem?_range (by omega)]; rfl
theorem done_at {v : Nat → Nat → Int} {H W a b : Nat} (ha : 1 ≤ a) (hb : 1 ≤ b) (hbH : b ≤ H) (hd : a ≤ W) : doneF v H (W + 1) 1 a b = v a b := by
  unfold doneF; rw [if_pos ⟨ha, hb, hbH, .inl (by omega)⟩]

/- impl.bestPlanFor: 25, 26, 145, 3, 3 -> [34] -/
set_option maxRecDepth 100000 in
theorem ctr_bestPlanFor (W H : Nat) (ps : List Pane) (vs : List Int) (hl : vs.length ≤ 100000) (hv : ∀ v ∈ vs, v ≤ 1000) (hW : W ≤ 16) (hH : H ≤ 16) : ∀ (N w h : Nat), w + h ≤ N → 1 ≤ w → w ≤ W → 1 ≤ h → h ≤ H →
    CtrG P 121 131 [.c (.g (.agg (Work.cells ⟨(W : Int), (H : Int), ps⟩))), .c (.g (.sl (vs.map encI))), .c (.g (.ref ((tabF (doneF (val ⟨(W : Int), (H : Int), ps⟩ vs) H (W + 1) 1)).map encG))), .c (.g (.int .i64 (w : Int))), .c (.g (.int .i64 (h : Int)))] [] (.c (.g (.agg (bestT ⟨(W : Int), (H : Int), ps⟩ vs N w h).plan.cells))) [] := by
  intro N
  induction N with
  | zero => intros; omega
  | succ N ih =>
  intro w h hN h1w hwW h1h hhH
  generalize hV : val ⟨(W : Int), (H : Int), ps⟩ vs = V at *
  have bz := fun e => bestT_zero (k := ⟨(W : Int), (H : Int), ps⟩) (vs := vs) (n := N) (w := w) (h := h) e
  have bl := fun e1 e2 => bestT_leaf (k := ⟨(W : Int), (H : Int), ps⟩) (vs := vs) (n := N) (w := w) (h := h) e1 e2
  have bc1 := fun c e1 e2 e3 => bestT_cut1 (k := ⟨(W : Int), (H : Int), ps⟩) (vs := vs) (n := N) (w := w) (h := h) (c := c) e1 e2 e3
  have bc2 := fun c e1 e2 e3 e4 => bestT_cut2 (k := ⟨(W : Int), (H : Int), ps⟩) (vs := vs) (n := N) (w := w) (h := h) (c := c) e1 e2 e3 e4
  have bn := fun e1 e2 e3 e4 => bestT_none (k := ⟨(W : Int), (H : Int), ps⟩) (vs := vs) (n := N) (w := w) (h := h) e1 e2 e3 e4
  simp only [hV] at bz bl bc1 bc2 bn
  generalize hB : bestT ⟨(W : Int), (H : Int), ps⟩ vs (N + 1) w h = B at *
  have hbd : ∀ {a b : Nat}, 1 ≤ a → 1 ≤ b → a ≤ 16 → b ≤ 16 → 0 ≤ V a b ∧ V a b ≤ 256000 := fun h1 h2 h3 h4 => by rw [← hV]; exact val_bd hv h1 h2 h3 h4
  refine ctr_ofG (fn := Go.Proofs.Try.f121) (by kernel_rfl) rfl rfl rfl ?_
  rintro ⟨n, w0, F0, M, pin⟩ hn
  cases hn
  refine PW_seq ?_
  -- region 0
  refine PW_region ?_
  refine qBx .none ?_
  refine qBx .none ?_
  refine Pend ?_
  refine PW_seq ?_
  -- region 1
  refine PW_region ?_
  refine qMv .none ?_
  refine qMv .none ?_
  refine qMv .none ?_
  refine qFd .none ?_
  refine P10 .none (S_indexAR (k := w) rfl rfl rfl (by omega) rfl) ?_
  refine P10 .none (S_indexAR (k := h) rfl rfl rfl (by omega) rfl) ?_
  refine P10 .none (S_loadR1 (y := .int .i64 (V (w) (h))) rfl (drop_at (tab_at (by omega) (by omega) (by omega) (.inl (by omega)) (by omega) hH)) rfl) ?_
  refine qMv .none ?_
  refine Pend ?_
  refine PW_seq ?_
  refine PW_seq ?_
  -- region 2
  refine PW_region ?_
  refine qMv .none ?_
  refine qCm .none ?_
  refine Pend ?_
  refine PW_cond rfl (fun h1 => ?_) (fun h1 => ?_)
  · -- t28
    refine PW_seq ?_
    -- region 3
    refine PW_region ?_
    refine P10 .none (S_build (gs := [_, _, _, _, _]) (.one rfl rfl rfl rfl (.nil _)) rfl rfl) ?_
    refine P01 .none (by first | exact S_storeW rfl rfl rfl rfl rfl rfl | exact S_storeWe rfl rfl rfl HK rfl rfl rfl | exact S_storeP rfl rfl rfl rfl rfl (Nat.le_of_ble_eq_true rfl) | exact S_storeLW rfl rfl rfl rfl rfl rfl rfl | exact S_storeW rfl rfl rfl (Plan.cells_one _) (Plan.cells_len _) rfl) ?_
    refine Pend ?_
    refine PW_ret ⟨.inr rfl, ?_⟩
    rw [bz (of_decide_eq_true h1)]
    exact ret_G (.cons (.frz (.gnd rfl rfl rfl) (.up waste_up)) .nil) rfl trivial rfl rfl
  · -- not t28
    refine PW_skip ?_
    refine PW_seq ?_
    refine PW_seq ?_
    have hz : V w h ≠ 0 := of_decide_eq_false h1
    --region 4
    refine PW_region ?_
    refine qLd .none ?_
    refine qMv .none ?_
    refine qMv .none ?_
    refine qMv .none ?_
    refine P00 .none (S_callG [] [] false (ctr_bestPane ⟨(W : Int), (H : Int), ps⟩ vs hl w h) (.g rfl (.g rfl (.g rfl (.g rfl .nil)))) trivial rfl (.inl rfl) rfl) ?_
    refine qMv .none ?_
    refine qEx1 .none ?_
    refine qEx1 .none ?_
    refine qBx .none ?_
    refine P01 .none (by first | exact S_storeW rfl rfl rfl rfl rfl rfl | exact S_storeWe rfl rfl rfl HK rfl rfl rfl | exact S_storeP rfl rfl rfl rfl rfl (Nat.le_of_ble_eq_true rfl) | exact S_storeLW rfl rfl rfl rfl rfl rfl rfl | exact S_storeW rfl rfl rfl (Plan.cells_one _) (Plan.cells_len _) rfl) ?_
    refine qMv .none ?_
    refine Pend ?_
    refine PW_seq ?_
    -- region 5
    refine PW_region ?_
    refine qMv .none ?_
    refine qMv .none ?_
    refine qCm .none ?_
    refine Pend ?_
    refine PW_cond rfl (fun h2 => ?_) (fun h2 => ?_)
    · -- t40
      refine PW_seq ?_
      -- region 6
      refine PW_region ?_
      refine P10 .none (by first | exact S_loadOW rfl rfl rfl rfl rfl | exact S_loadRW rfl rfl rfl | exact S_loadLA rfl rfl rfl (Nat.le_of_ble_eq_true rfl) rfl | exact S_loadOA rfl rfl rfl (Nat.le_of_ble_eq_true rfl) rfl | exact S_loadRA rfl (Nat.le_of_ble_eq_true rfl) rfl | exact S_loadRW rfl (Plan.cells_len _) rfl | exact S_loadOW rfl rfl rfl (Plan.cells_len _) rfl) ?_
      refine P01 .none (by first | exact S_storeW rfl rfl rfl rfl rfl rfl | exact S_storeWe rfl rfl rfl HK rfl rfl rfl | exact S_storeP rfl rfl rfl rfl rfl (Nat.le_of_ble_eq_true rfl) | exact S_storeLW rfl rfl rfl rfl rfl rfl rfl | exact S_storeW rfl rfl rfl (Plan.cells_one _) (Plan.cells_len _) rfl) ?_
      refine Pend ?_
      refine PW_ret ⟨.inr rfl, ?_⟩
      rw [bl hz (of_decide_eq_true h2)]
      exact ret_G (.cons (.frz (.gnd rfl rfl (Plan.cells_len _)) (.g _)) .nil) rfl trivial rfl rfl
    · -- not t40
      refine PW_skip ?_
      refine PW_seq ?_
      refine PW_seq ?_
      have hz2 := of_decide_eq_false h2
      generalize hO1 : findC (fun x => V x h) w (V w h) (w / 2) 1 = O1 at *
      --region 7
      refine PW_region ?_
      refine qMv .none ?_
      refine Pend ?_
      refine PW_block ?_
      refine PW_iter (ι := Nat) (fun c => [(1, .c (.g (.sl (vs.map encI)))), (2, .c (.g (.ref ((tabF (doneF V H (W + 1) 1)).map encG)))), (3, .c (.g (.int .i64 (w : Nat)))), (4, .c (.g (.int .i64 (h : Nat)))), (5, .c (.optr 5 0 0)), (10, .c (.optr 10 0 0)), (11, .c (.g (.int .i64 (V w h)))), (14, .c (.g (.int .i64 (c : Nat))))]) (fun c => [(5, ⟨25, 0, .gnd [[.int .i64 (W : Int), .int .i64 (H : Int), .sl (ps.map Pane.cells)]]⟩), (10, ⟨34, 0, .gnd [[.int .i64 0, .int .i64 0, .int .i64 0, .bool false, .nil]]⟩)]) (fun c => 1 ≤ c ∧ c ≤ w / 2 + 1 ∧ findC (fun x => V x h) w (V w h) (w / 2 + 1 - c) c = O1) (fun c => w / 2 + 1 - c) 1 ⟨by omega, by omega, hO1⟩ (by repeat (first | exact trivial | refine And.intro rfl ?_)) (by repeat (first | exact trivial | refine And.intro rfl ?_)) (fun c hu => ?_)
      refine PW_seq ?_
      refine PW_seq ?_
      -- region 8
      refine PW_region ?_
      refine qMv .none ?_
      refine qMv .none ?_
      refine P10 .none (S_quo rfl rfl rfl (by omega) (And.intro (by omega) (by omega))) ?_
      refine qCm .none ?_
      refine Pend ?_
      refine PW_cond rfl (fun h3 => ?_) (fun h3 => ?_)
      · -- t45
        refine PW_skip ?_
        refine PW_seq ?_
        refine PW_block ?_
        refine PW_seq ?_
        obtain ⟨hu1, hu2, hu3⟩ := hu
        have hc : c ≤ w / 2 := by have := of_decide_eq_true h3; omega
        rw [show w / 2 + 1 - c = (w / 2 + 1 - (c + 1)) + 1 by omega] at hu3
        simp only [findC] at hu3
        have b1 := hbd (a := c) (b := h) (by omega) (by omega) (by omega) (by omega)
        have b2 := hbd (a := w - c) (b := h) (by omega) (by omega) (by omega) (by omega)
        have hr1 := ih c h (by omega) (by omega) (by omega) (by omega) (by omega)
        have hr2 := ih (w - c) h (by omega) (by omega) (by omega) (by omega) (by omega)
        rw [show (((w - c : Nat)) : Int) = ((w : Nat) : Int) - ((c : Nat) : Int) by omega] at hr2
        have bc := bc1 c hz hz2
        generalize bestT ⟨(W : Int), (H : Int), ps⟩ vs N c h = p at *
        generalize bestT ⟨(W : Int), (H : Int), ps⟩ vs N (w - c) h = q at *
        --region 10
        refine PW_draw (by kernel_rfl) ?_
        refine qMv .none ?_
        refine qMv .none ?_
        refine qMv .none ?_
        refine qFd .none ?_
        refine P10 .none (S_indexAR (k := c) rfl rfl rfl (by omega) rfl) ?_
        refine P10 .none (S_indexAR (k := h) rfl rfl rfl (by omega) rfl) ?_
        refine P10 .none (S_loadR1 (y := .int .i64 (V (c) (h))) rfl (drop_at (tab_at (by omega) (by omega) (by omega) (.inl (by omega)) (by omega) hH)) rfl) ?_
        refine qMv .none ?_
        refine qMv .none ?_
        refine qMv .none ?_
        refine qSb .none ?_
        refine qMv .none ?_
        refine qFd .none ?_
        refine P10 .none (S_indexAR (k := w - c) rfl rfl (show ((w : Nat) : Int) - (c : Nat) = ((w - c : Nat) : Int) by omega) (by omega) rfl) ?_
        refine P10 .none (S_indexAR (k := h) rfl rfl rfl (by omega) rfl) ?_
        refine P10 .none (S_loadR1 (y := .int .i64 (V (w - c) (h))) rfl (drop_at (tab_at (by omega) (by omega) (by omega) (.inl (by omega)) (by omega) hH)) rfl) ?_
        refine qAd .none ?_
        refine qMv .none ?_
        refine qCm .none ?_
        refine Pend ⟨by kernel_rfl, ?_⟩
        refine PW_cond rfl (fun h4 => ?_) (fun h4 => ?_)
        · -- t66
          refine PW_seq ?_
          -- region 11
          refine PW_region ?_
          refine qLd .none ?_
          refine qMv .none ?_
          refine qMv .none ?_
          refine qMv .none ?_
          refine qMv .none ?_
          refine P00 .none (S_callG [] [] false hr1 (.g rfl (.g rfl (.g rfl (.g rfl (.g rfl .nil))))) trivial rfl (.inl rfl) rfl) ?_
          refine qBx .none ?_
          refine P01 .none (by first | exact S_storeW rfl rfl rfl rfl rfl rfl | exact S_storeWe rfl rfl rfl HK rfl rfl rfl | exact S_storeP rfl rfl rfl rfl rfl (Nat.le_of_ble_eq_true rfl) | exact S_storeLW rfl rfl rfl rfl rfl rfl rfl | exact S_storeW rfl rfl rfl (Plan.cells_one _) (Plan.cells_len _) rfl) ?_
          refine Pend ?_
          refine PW_seq ?_
          -- region 12
          refine PW_region ?_
          refine qLd .none ?_
          refine qMv .none ?_
          refine qMv .none ?_
          refine qMv .none ?_
          refine qMv .none ?_
          refine qSb .none ?_
          refine qMv .none ?_
          refine P00 .none (S_callG [] [] false hr2 (.g rfl (.g rfl (.g rfl (.g rfl (.g rfl .nil))))) trivial rfl (.inl rfl) rfl) ?_
          refine qBx .none ?_
          refine P01 .none (by first | exact S_storeW rfl rfl rfl rfl rfl rfl | exact S_storeWe rfl rfl rfl HK rfl rfl rfl | exact S_storeP rfl rfl rfl rfl rfl (Nat.le_of_ble_eq_true rfl) | exact S_storeLW rfl rfl rfl rfl rfl rfl rfl | exact S_storeW rfl rfl rfl (Plan.cells_one _) (Plan.cells_len _) rfl) ?_
          refine Pend ?_
          refine PW_seq ?_
          -- region 13
          refine PW_region ?_
          refine qMv .none ?_
          refine P10 .none (by first | exact S_loadOW rfl rfl rfl rfl rfl | exact S_loadRW rfl rfl rfl | exact S_loadLA rfl rfl rfl (Nat.le_of_ble_eq_true rfl) rfl | exact S_loadOA rfl rfl rfl (Nat.le_of_ble_eq_true rfl) rfl | exact S_loadRA rfl (Nat.le_of_ble_eq_true rfl) rfl | exact S_loadRW rfl (Plan.cells_len _) rfl | exact S_loadOW rfl rfl rfl (Plan.cells_len _) rfl) ?_
          refine P10 .none (by first | exact S_loadOW rfl rfl rfl rfl rfl | exact S_loadRW rfl rfl rfl | exact S_loadLA rfl rfl rfl (Nat.le_of_ble_eq_true rfl) rfl | exact S_loadOA rfl rfl rfl (Nat.le_of_ble_eq_true rfl) rfl | exact S_loadRA rfl (Nat.le_of_ble_eq_true rfl) rfl | exact S_loadRW rfl (Plan.cells_len _) rfl | exact S_loadOW rfl rfl rfl (Plan.cells_len _) rfl) ?_
          refine P22 .none (S_lit (.agg rfl (Plan.cells_len _) (Plan.cells_one _) (.agg rfl (Plan.cells_len _) (Plan.cells_one _) (.nil _))) rfl rfl rfl) ?_
          refine P10 .none (S_buildL (.one rfl rfl rfl rfl (.one rfl rfl rfl rfl (.own rfl rfl rfl (.nil _)))) rfl) ?_
          refine P01 .none (by first | exact S_storeW rfl rfl rfl rfl rfl rfl | exact S_storeWe rfl rfl rfl HK rfl rfl rfl | exact S_storeP rfl rfl rfl rfl rfl (Nat.le_of_ble_eq_true rfl) | exact S_storeLW rfl rfl rfl rfl rfl rfl rfl | exact S_storeW rfl rfl rfl (Plan.cells_one _) (Plan.cells_len _) rfl) ?_
          refine Pend ?_
          refine PW_ret ⟨.inr rfl, ?_⟩
          rw [if_pos (of_decide_eq_true h4)] at hu3
          rw [bc hu3.symm]
          exact ret_G (.cons (.aggL (.loc rfl rfl rfl) (.cons (.g _) (.cons (.g _) (.cons (.g _) (.cons (.g _) (.cons (ExZ.whole rfl rfl rfl) .nil)))))) .nil) rfl trivial rfl rfl
        · -- not t66
          refine PW_skip ?_
          -- region 9
          refine PW_region ?_
          refine qMv .none ?_
          refine qAd .none ?_
          refine qMv .none ?_
          refine Pend ?_
          rw [if_neg (of_decide_eq_false h4)] at hu3
          exact ⟨c + 1, by omega, ⟨by omega, by omega, hu3⟩, (by repeat (first | exact trivial | refine And.intro rfl ?_)), (by repeat (first | exact trivial | refine And.intro rfl ?_))⟩
      · -- not t45
        refine PW_exit ?_
        refine PW_seq ?_
        refine PW_seq ?_
        obtain ⟨hu1, hu2, hu3⟩ := hu
        obtain rfl : c = w / 2 + 1 := by have := of_decide_eq_false h3; omega
        rw [Nat.sub_self] at hu3
        simp only [findC] at hu3
        subst hu3
        generalize hO2 : findC (fun y => V w y) h (V w h) (h / 2) 1 = O2 at *
        --region 14
        refine PW_region ?_
        refine qMv .none ?_
        refine Pend ?_
        refine PW_block ?_
        refine PW_iter (ι := Nat) (fun c => [(1, .c (.g (.sl (vs.map encI)))), (2, .c (.g (.ref ((tabF (doneF V H (W + 1) 1)).map encG)))), (3, .c (.g (.int .i64 (w : Nat)))), (4, .c (.g (.int .i64 (h : Nat)))), (5, .c (.optr 5 0 0)), (10, .c (.optr 10 0 0)), (11, .c (.g (.int .i64 (V w h)))), (17, .c (.g (.int .i64 (c : Nat))))]) (fun c => [(5, ⟨25, 0, .gnd [[.int .i64 (W : Int), .int .i64 (H : Int), .sl (ps.map Pane.cells)]]⟩), (10, ⟨34, 0, .gnd [[.int .i64 0, .int .i64 0, .int .i64 0, .bool false, .nil]]⟩)]) (fun c => 1 ≤ c ∧ c ≤ h / 2 + 1 ∧ findC (fun y => V w y) h (V w h) (h / 2 + 1 - c) c = O2) (fun c => h / 2 + 1 - c) 1 ⟨by omega, by omega, hO2⟩ (by repeat (first | exact trivial | refine And.intro rfl ?_)) (by repeat (first | exact trivial | refine And.intro rfl ?_)) (fun c hu => ?_)
        refine PW_seq ?_
        refine PW_seq ?_
        -- region 15
        refine PW_region ?_
        refine qMv .none ?_
        refine qMv .none ?_
        refine P10 .none (S_quo rfl rfl rfl (by omega) (And.intro (by omega) (by omega))) ?_
        refine qCm .none ?_
        refine Pend ?_
        refine PW_cond rfl (fun h5 => ?_) (fun h5 => ?_)
        · -- t89
          refine PW_skip ?_
          refine PW_seq ?_
          refine PW_block ?_
          refine PW_seq ?_
          obtain ⟨hu1, hu2, hu3⟩ := hu
          have hc : c ≤ h / 2 := by have := of_decide_eq_true h5; omega
          rw [show h / 2 + 1 - c = (h / 2 + 1 - (c + 1)) + 1 by omega] at hu3
          simp only [findC] at hu3
          have b1 := hbd (a := w) (b := c) (by omega) (by omega) (by omega) (by omega)
          have b2 := hbd (a := w) (b := h - c) (by omega) (by omega) (by omega) (by omega)
          have hr1 := ih w c (by omega) (by omega) (by omega) (by omega) (by omega)
          have hr2 := ih w (h - c) (by omega) (by omega) (by omega) (by omega) (by omega)
          rw [show (((h - c : Nat)) : Int) = ((h : Nat) : Int) - ((c : Nat) : Int) by omega] at hr2
          have bc := bc2 c hz hz2 rfl
          generalize bestT ⟨(W : Int), (H : Int), ps⟩ vs N w c = p at *
          generalize bestT ⟨(W : Int), (H : Int), ps⟩ vs N w (h - c) = q at *
          --region 17
          refine PW_draw (by kernel_rfl) ?_
          refine qMv .none ?_
          refine qMv .none ?_
          refine qMv .none ?_
          refine qFd .none ?_
          refine P10 .none (S_indexAR (k := w) rfl rfl rfl (by omega) rfl) ?_
          refine P10 .none (S_indexAR (k := c) rfl rfl rfl (by omega) rfl) ?_
          refine P10 .none (S_loadR1 (y := .int .i64 (V (w) (c))) rfl (drop_at (tab_at (by omega) (by omega) (by omega) (.inl (by omega)) (by omega) hH)) rfl) ?_
          refine qMv .none ?_
          refine qMv .none ?_
          refine qMv .none ?_
          refine qMv .none ?_
          refine qSb .none ?_
          refine qFd .none ?_
          refine P10 .none (S_indexAR (k := w) rfl rfl rfl (by omega) rfl) ?_
          refine P10 .none (S_indexAR (k := h - c) rfl rfl (show ((h : Nat) : Int) - (c : Nat) = ((h - c : Nat) : Int) by omega) (by omega) rfl) ?_
          refine P10 .none (S_loadR1 (y := .int .i64 (V (w) (h - c))) rfl (drop_at (tab_at (by omega) (by omega) (by omega) (.inl (by omega)) (by omega) hH)) rfl) ?_
          refine qAd .none ?_
          refine qMv .none ?_
          refine qCm .none ?_
          refine Pend ⟨by kernel_rfl, ?_⟩
          refine PW_cond rfl (fun h6 => ?_) (fun h6 => ?_)
          · -- t110
            refine PW_seq ?_
            -- region 18
            refine PW_region ?_
            refine qLd .none ?_
            refine qMv .none ?_
            refine qMv .none ?_
            refine qMv .none ?_
            refine qMv .none ?_
            refine P00 .none (S_callG [] [] false hr1 (.g rfl (.g rfl (.g rfl (.g rfl (.g rfl .nil))))) trivial rfl (.inl rfl) rfl) ?_
            refine qBx .none ?_
            refine P01 .none (by first | exact S_storeW rfl rfl rfl rfl rfl rfl | exact S_storeWe rfl rfl rfl HK rfl rfl rfl | exact S_storeP rfl rfl rfl rfl rfl (Nat.le_of_ble_eq_true rfl) | exact S_storeLW rfl rfl rfl rfl rfl rfl rfl | exact S_storeW rfl rfl rfl (Plan.cells_one _) (Plan.cells_len _) rfl) ?_
            refine Pend ?_
            refine PW_seq ?_
            -- region 19
            refine PW_region ?_
            refine qLd .none ?_
            refine qMv .none ?_
            refine qMv .none ?_
            refine qMv .none ?_
            refine qMv .none ?_
            refine qMv .none ?_
            refine qSb .none ?_
            refine P00 .none (S_callG [] [] false hr2 (.g rfl (.g rfl (.g rfl (.g rfl (.g rfl .nil))))) trivial rfl (.inl rfl) rfl) ?_
            refine qBx .none ?_
            refine P01 .none (by first | exact S_storeW rfl rfl rfl rfl rfl rfl | exact S_storeWe rfl rfl rfl HK rfl rfl rfl | exact S_storeP rfl rfl rfl rfl rfl (Nat.le_of_ble_eq_true rfl) | exact S_storeLW rfl rfl rfl rfl rfl rfl rfl | exact S_storeW rfl rfl rfl (Plan.cells_one _) (Plan.cells_len _) rfl) ?_
            refine Pend ?_
            refine PW_seq ?_
            -- region 20
            refine PW_region ?_
            refine qMv .none ?_
            refine P10 .none (by first | exact S_loadOW rfl rfl rfl rfl rfl | exact S_loadRW rfl rfl rfl | exact S_loadLA rfl rfl rfl (Nat.le_of_ble_eq_true rfl) rfl | exact S_loadOA rfl rfl rfl (Nat.le_of_ble_eq_true rfl) rfl | exact S_loadRA rfl (Nat.le_of_ble_eq_true rfl) rfl | exact S_loadRW rfl (Plan.cells_len _) rfl | exact S_loadOW rfl rfl rfl (Plan.cells_len _) rfl) ?_
            refine P10 .none (by first | exact S_loadOW rfl rfl rfl rfl rfl | exact S_loadRW rfl rfl rfl | exact S_loadLA rfl rfl rfl (Nat.le_of_ble_eq_true rfl) rfl | exact S_loadOA rfl rfl rfl (Nat.le_of_ble_eq_true rfl) rfl | exact S_loadRA rfl (Nat.le_of_ble_eq_true rfl) rfl | exact S_loadRW rfl (Plan.cells_len _) rfl | exact S_loadOW rfl rfl rfl (Plan.cells_len _) rfl) ?_
            refine P22 .none (S_lit (.agg rfl (Plan.cells_len _) (Plan.cells_one _) (.agg rfl (Plan.cells_len _) (Plan.cells_one _) (.nil _))) rfl rfl rfl) ?_
            refine P10 .none (S_buildL (.one rfl rfl rfl rfl (.one rfl rfl rfl rfl (.own rfl rfl rfl (.nil _)))) rfl) ?_
            refine P01 .none (by first | exact S_storeW rfl rfl rfl rfl rfl rfl | exact S_storeWe rfl rfl rfl HK rfl rfl rfl | exact S_storeP rfl rfl rfl rfl rfl (Nat.le_of_ble_eq_true rfl) | exact S_storeLW rfl rfl rfl rfl rfl rfl rfl | exact S_storeW rfl rfl rfl (Plan.cells_one _) (Plan.cells_len _) rfl) ?_
            refine Pend ?_
            refine PW_ret ⟨.inr rfl, ?_⟩
            rw [if_pos (of_decide_eq_true h6)] at hu3
            rw [bc hu3.symm]
            exact ret_G (.cons (.aggL (.loc rfl rfl rfl) (.cons (.g _) (.cons (.g _) (.cons (.g _) (.cons (.g _) (.cons (ExZ.whole rfl rfl rfl) .nil)))))) .nil) rfl trivial rfl rfl
          · -- not t110
            refine PW_skip ?_
            -- region 16
            refine PW_region ?_
            refine qMv .none ?_
            refine qAd .none ?_
            refine qMv .none ?_
            refine Pend ?_
            rw [if_neg (of_decide_eq_false h6)] at hu3
            exact ⟨c + 1, by omega, ⟨by omega, by omega, hu3⟩, (by repeat (first | exact trivial | refine And.intro rfl ?_)), (by repeat (first | exact trivial | refine And.intro rfl ?_))⟩
        · -- not t89
          refine PW_exit ?_
          refine PW_seq ?_
          obtain ⟨hu1, hu2, hu3⟩ := hu
          obtain rfl : c = h / 2 + 1 := by have := of_decide_eq_false h5; omega
          rw [Nat.sub_self] at hu3
          simp only [findC] at hu3
          subst hu3
          rw [bn hz hz2 rfl rfl]
          --region 21
          refine PW_region ?_
          refine P10 .none (S_build (gs := [_, _, _, _, _]) (.one rfl rfl rfl rfl (.nil _)) rfl rfl) ?_
          refine P01 .none (by first | exact S_storeW rfl rfl rfl rfl rfl rfl | exact S_storeWe rfl rfl rfl HK rfl rfl rfl | exact S_storeP rfl rfl rfl rfl rfl (Nat.le_of_ble_eq_true rfl) | exact S_storeLW rfl rfl rfl rfl rfl rfl rfl | exact S_storeW rfl rfl rfl (Plan.cells_one _) (Plan.cells_len _) rfl) ?_
          refine Pend ?_
          refine PW_ret ⟨.inr rfl, ?_⟩
          exact ret_G (.cons (.frz (.gnd rfl rfl rfl) (.up waste_up)) .nil) rfl trivial rfl rfl
end Go.Proofs.Ytdmlfhmnlddooaa
namespace Go.Proofs.Ytdmlfhmnlddooaa
open Go Go.Pu

theorem rowV_at {v : Nat → Nat → Int} {H W a b : Nat} (ha : 1 ≤ a) (hb : 1 ≤ b) (hbH : b ≤ H) (hd : a ≤ W) : (rowF (doneF v H (W + 1) 1) H a)[b]? = some (encI (v a b)) := by
  rw [rowF_at hbH, done_at ha hb hbH hd]

/- spec.bestPlan: 25, 26, 94, 3, 3 -> [34] -/
set_option maxRecDepth 100000 in
theorem ctr_s_bestPlan (W H : Nat) (ps : List Pane) (hps : ps.length ≤ 100000) (vs : List Int) (hl : vs.length ≤ 100000) (hv : ∀ v ∈ vs, v ≤ 1000) (hW : W ≤ 16) (hH : H ≤ 16) : ∀ (N w h : Nat), w + h ≤ N → 1 ≤ w → w ≤ W → 1 ≤ h → h ≤ H →
    CtrG P 122 139 [.c (.g (.agg (Work.cells ⟨(W : Int), (H : Int), ps⟩))), .c (.g (.sl (vs.map encI))), .c (.g (.sl (rowsF (doneF (val ⟨(W : Int), (H : Int), ps⟩ vs) H (W + 1) 1) W H))), .c (.g (.int .i64 (w : Int))), .c (.g (.int .i64 (h : Int)))] [] (.c (.g (.agg (bestT ⟨(W : Int), (H : Int), ps⟩ vs N w h).plan.cells))) [] := by
  intro N
  induction N with
  | zero => intros; omega
  | succ N ih =>
  intro w h hN h1w hwW h1h hhH
  generalize hV : val ⟨(W : Int), (H : Int), ps⟩ vs = V at *
  have bz := fun e => bestT_zero (k := ⟨(W : Int), (H : Int), ps⟩) (vs := vs) (n := N) (w := w) (h := h) e
  have bl := fun e1 e2 => bestT_leaf (k := ⟨(W : Int), (H : Int), ps⟩) (vs := vs) (n := N) (w := w) (h := h) e1 e2
  have bc1 := fun c e1 e2 e3 => bestT_cut1 (k := ⟨(W : Int), (H : Int), ps⟩) (vs := vs) (n := N) (w := w) (h := h) (c := c) e1 e2 e3
  have bc2 := fun c e1 e2 e3 e4 => bestT_cut2 (k := ⟨(W : Int), (H : Int), ps⟩) (vs := vs) (n := N) (w := w) (h := h) (c := c) e1 e2 e3 e4
  have bn := fun e1 e2 e3 e4 => bestT_none (k := ⟨(W : Int), (H : Int), ps⟩) (vs := vs) (n := N) (w := w) (h := h) e1 e2 e3 e4
  simp only [hV] at bz bl bc1 bc2 bn
  generalize hB : bestT ⟨(W : Int), (H : Int), ps⟩ vs (N + 1) w h = B at *
  have hbd : ∀ {a b : Nat}, 1 ≤ a → 1 ≤ b → a ≤ 16 → b ≤ 16 → 0 ≤ V a b ∧ V a b ≤ 256000 := fun h1 h2 h3 h4 => by rw [← hV]; exact val_bd hv h1 h2 h3 h4
  refine ctr_ofG (fn := Go.Proofs.Try.f122) (by kernel_rfl) rfl rfl rfl ?_
  rintro ⟨n, w0, F0, M, pin⟩ hn
  cases hn
  refine PW_seq ?_
  -- region 0
  refine PW_region ?_
  refine qBx .none ?_
  refine qBx .none ?_
  refine Pend ?_
  refine PW_seq ?_
  refine PW_seq ?_
  -- region 1
  refine PW_region ?_
  refine qMv .none ?_
  refine qMv .none ?_
  refine P10 .none (by first | exact S_indexR rfl rfl rfl (rowsF_at (a := w) (by omega)) rfl rfl | exact S_indexO rfl rfl rfl rfl rfl (rowsF_at (a := w) (by omega)) rfl) ?_
  refine qLd .none ?_
  refine qMv .none ?_
  refine P10 .none (by first | exact S_indexR rfl rfl rfl (rowV_at (a := w) (b := h) (by omega) (by omega) (by omega) (by omega)) rfl rfl | exact S_indexO rfl rfl rfl rfl rfl (rowV_at (a := w) (b := h) (by omega) (by omega) (by omega) (by omega)) rfl) ?_
  refine qLd .none ?_
  refine qCm .none ?_
  refine Pend ?_
  refine PW_cond rfl (fun h1 => ?_) (fun h1 => ?_)
  · -- t22
    refine PW_seq ?_
    -- region 2
    refine PW_region ?_
    refine P10 .none (S_build (gs := [_, _, _, _, _]) (.nil _) rfl rfl) ?_
    refine P01 .none (by first | exact S_storeW rfl rfl rfl rfl rfl rfl | exact S_storeWe rfl rfl rfl HK rfl rfl rfl | exact S_storeP rfl rfl rfl rfl rfl (Nat.le_of_ble_eq_true rfl) | exact S_storeLW rfl rfl rfl rfl rfl rfl rfl | exact S_storeW rfl rfl rfl (Plan.cells_one _) (Plan.cells_len _) rfl) ?_
    refine Pend ?_
    refine PW_ret ⟨.inr rfl, ?_⟩
    rw [bz (of_decide_eq_true h1)]
    exact ret_G (.cons (.frz (.gnd rfl rfl rfl) (.up waste_up)) .nil) rfl trivial rfl rfl
  · -- not t22
    refine PW_skip ?_
    refine PW_seq ?_
    have hz : V w h ≠ 0 := of_decide_eq_false h1
    --region 3
    refine PW_region ?_
    refine qLd .none ?_
    refine qMv .none ?_
    refine qMv .none ?_
    refine qMv .none ?_
    refine P00 .none (S_callG [] [] false (ctr_leafValue ⟨(W : Int), (H : Int), ps⟩ hps vs hl w h ⟨by omega, by omega⟩ ⟨by omega, by omega⟩) (.g rfl (.g rfl (.g rfl (.g rfl .nil)))) trivial rfl (.inl rfl) rfl) ?_
    refine qMv .none ?_
    refine qEx1 .none ?_
    refine qEx1 .none ?_
    refine qBx .none ?_
    refine P01 .none (by first | exact S_storeW rfl rfl rfl rfl rfl rfl | exact S_storeWe rfl rfl rfl HK rfl rfl rfl | exact S_storeP rfl rfl rfl rfl rfl (Nat.le_of_ble_eq_true rfl) | exact S_storeLW rfl rfl rfl rfl rfl rfl rfl | exact S_storeW rfl rfl rfl (Plan.cells_one _) (Plan.cells_len _) rfl) ?_
    refine qMv .none ?_
    refine Pend ?_
    refine PW_seq ?_
    refine PW_seq ?_
    -- region 4
    refine PW_region ?_
    refine qMv .none ?_
    refine qMv .none ?_
    refine qMv .none ?_
    refine P10 .none (by first | exact S_indexR rfl rfl rfl (rowsF_at (a := w) (by omega)) rfl rfl | exact S_indexO rfl rfl rfl rfl rfl (rowsF_at (a := w) (by omega)) rfl) ?_
    refine qLd .none ?_
    refine qMv .none ?_
    refine P10 .none (by first | exact S_indexR rfl rfl rfl (rowV_at (a := w) (b := h) (by omega) (by omega) (by omega) (by omega)) rfl rfl | exact S_indexO rfl rfl rfl rfl rfl (rowV_at (a := w) (b := h) (by omega) (by omega) (by omega) (by omega)) rfl) ?_
    refine qLd .none ?_
    refine qCm .none ?_
    refine Pend ?_
    refine PW_cond rfl (fun h2 => ?_) (fun h2 => ?_)
    · -- t40
      refine PW_seq ?_
      -- region 5
      refine PW_region ?_
      refine P10 .none (by first | exact S_loadOW rfl rfl rfl rfl rfl | exact S_loadRW rfl rfl rfl | exact S_loadLA rfl rfl rfl (Nat.le_of_ble_eq_true rfl) rfl | exact S_loadOA rfl rfl rfl (Nat.le_of_ble_eq_true rfl) rfl | exact S_loadRA rfl (Nat.le_of_ble_eq_true rfl) rfl | exact S_loadRW rfl (Plan.cells_len _) rfl | exact S_loadOW rfl rfl rfl (Plan.cells_len _) rfl) ?_
      refine P01 .none (by first | exact S_storeW rfl rfl rfl rfl rfl rfl | exact S_storeWe rfl rfl rfl HK rfl rfl rfl | exact S_storeP rfl rfl rfl rfl rfl (Nat.le_of_ble_eq_true rfl) | exact S_storeLW rfl rfl rfl rfl rfl rfl rfl | exact S_storeW rfl rfl rfl (Plan.cells_one _) (Plan.cells_len _) rfl) ?_
      refine Pend ?_
      refine PW_ret ⟨.inr rfl, ?_⟩
      rw [bl hz (of_decide_eq_true h2)]
      exact ret_G (.cons (.frz (.gnd rfl rfl (Plan.cells_len _)) (.g _)) .nil) rfl trivial rfl rfl
    · -- not t40
      refine PW_skip ?_
      refine PW_seq ?_
      refine PW_seq ?_
      have hz2 := of_decide_eq_false h2
      generalize hO1 : findC (fun x => V x h) w (V w h) (w / 2) 1 = O1 at *
      --region 6
      refine PW_region ?_
      refine qMv .none ?_
      refine Pend ?_
      refine PW_block ?_
      refine PW_iter (ι := Nat) (fun c => [(1, .c (.g (.sl (vs.map encI)))), (2, .c (.g (.sl (rowsF (doneF V H (W + 1) 1) W H)))), (3, .c (.g (.int .i64 (w : Nat)))), (4, .c (.g (.int .i64 (h : Nat)))), (5, .c (.optr 5 0 0)), (10, .c (.optr 10 0 0)), (13, .c (.g (.int .i64 (c : Nat))))]) (fun c => [(5, ⟨25, 0, .gnd [[.int .i64 (W : Int), .int .i64 (H : Int), .sl (ps.map Pane.cells)]]⟩), (10, ⟨34, 0, .gnd [[.int .i64 0, .int .i64 0, .int .i64 0, .bool false, .nil]]⟩)]) (fun c => 1 ≤ c ∧ c ≤ w / 2 + 1 ∧ findC (fun x => V x h) w (V w h) (w / 2 + 1 - c) c = O1) (fun c => w / 2 + 1 - c) 1 ⟨by omega, by omega, hO1⟩ (by repeat (first | exact trivial | refine And.intro rfl ?_)) (by repeat (first | exact trivial | refine And.intro rfl ?_)) (fun c hu => ?_)
      refine PW_seq ?_
      refine PW_seq ?_
      -- region 7
      refine PW_region ?_
      refine qMv .none ?_
      refine qMv .none ?_
      refine P10 .none (S_quo rfl rfl rfl (by omega) (And.intro (by omega) (by omega))) ?_
      refine qCm .none ?_
      refine Pend ?_
      refine PW_cond rfl (fun h3 => ?_) (fun h3 => ?_)
      · -- t45
        refine PW_skip ?_
        refine PW_seq ?_
        refine PW_block ?_
        refine PW_seq ?_
        obtain ⟨hu1, hu2, hu3⟩ := hu
        have hc : c ≤ w / 2 := by have := of_decide_eq_true h3; omega
        rw [show w / 2 + 1 - c = (w / 2 + 1 - (c + 1)) + 1 by omega] at hu3
        simp only [findC] at hu3
        have b1 := hbd (a := c) (b := h) (by omega) (by omega) (by omega) (by omega)
        have b2 := hbd (a := w - c) (b := h) (by omega) (by omega) (by omega) (by omega)
        have hr1 := ih c h (by omega) (by omega) (by omega) (by omega) (by omega)
        have hr2 := ih (w - c) h (by omega) (by omega) (by omega) (by omega) (by omega)
        rw [show (((w - c : Nat)) : Int) = ((w : Nat) : Int) - ((c : Nat) : Int) by omega] at hr2
        have bc := bc1 c hz hz2
        generalize bestT ⟨(W : Int), (H : Int), ps⟩ vs N c h = p at *
        generalize bestT ⟨(W : Int), (H : Int), ps⟩ vs N (w - c) h = q at *
        --region 9
        refine PW_draw (by kernel_rfl) ?_
        refine qMv .none ?_
        refine qMv .none ?_
        refine P10 .none (by first | exact S_indexR rfl rfl rfl (rowsF_at (a := c) (by omega)) rfl rfl | exact S_indexO rfl rfl rfl rfl rfl (rowsF_at (a := c) (by omega)) rfl) ?_
        refine qLd .none ?_
        refine qMv .none ?_
        refine P10 .none (by first | exact S_indexR rfl rfl rfl (rowV_at (a := c) (b := h) (by omega) (by omega) (by omega) (by omega)) rfl rfl | exact S_indexO rfl rfl rfl rfl rfl (rowV_at (a := c) (b := h) (by omega) (by omega) (by omega) (by omega)) rfl) ?_
        refine qLd .none ?_
        refine qMv .none ?_
        refine qMv .none ?_
        refine qMv .none ?_
        refine qSb .none ?_
        refine P10 .none (by first | exact S_indexR rfl rfl (show ((w : Nat) : Int) - (c : Nat) = ((w - c : Nat) : Int) by omega) (rowsF_at (a := w - c) (by omega)) rfl rfl | exact S_indexO rfl rfl rfl rfl (show ((w : Nat) : Int) - (c : Nat) = ((w - c : Nat) : Int) by omega) (rowsF_at (a := w - c) (by omega)) rfl) ?_
        refine qLd .none ?_
        refine qMv .none ?_
        refine P10 .none (by first | exact S_indexR rfl rfl rfl (rowV_at (a := w - c) (b := h) (by omega) (by omega) (by omega) (by omega)) rfl rfl | exact S_indexO rfl rfl rfl rfl rfl (rowV_at (a := w - c) (b := h) (by omega) (by omega) (by omega) (by omega)) rfl) ?_
        refine qLd .none ?_
        refine qAd .none ?_
        refine qMv .none ?_
        refine qMv .none ?_
        refine P10 .none (by first | exact S_indexR rfl rfl rfl (rowsF_at (a := w) (by omega)) rfl rfl | exact S_indexO rfl rfl rfl rfl rfl (rowsF_at (a := w) (by omega)) rfl) ?_
        refine qLd .none ?_
        refine qMv .none ?_
        refine P10 .none (by first | exact S_indexR rfl rfl rfl (rowV_at (a := w) (b := h) (by omega) (by omega) (by omega) (by omega)) rfl rfl | exact S_indexO rfl rfl rfl rfl rfl (rowV_at (a := w) (b := h) (by omega) (by omega) (by omega) (by omega)) rfl) ?_
        refine qLd .none ?_
        refine qCm .none ?_
        refine Pend ⟨by kernel_rfl, ?_⟩
        refine PW_cond rfl (fun h4 => ?_) (fun h4 => ?_)
        · -- t72
          refine PW_seq ?_
          -- region 10
          refine PW_draw (by kernel_rfl) ?_
          refine qMv .none ?_
          refine qLd .none ?_
          refine qMv .none ?_
          refine qMv .none ?_
          refine qMv .none ?_
          refine qMv .none ?_
          refine P00 .none (S_callG [] [] false hr1 (.g rfl (.g rfl (.g rfl (.g rfl (.g rfl .nil))))) trivial rfl (.inl rfl) rfl) ?_
          refine qLd .none ?_
          refine qMv .none ?_
          refine qMv .none ?_
          refine qMv .none ?_
          refine qMv .none ?_
          refine qSb .none ?_
          refine qMv .none ?_
          refine P00 .none (S_callG [] [] false hr2 (.g rfl (.g rfl (.g rfl (.g rfl (.g rfl .nil))))) trivial rfl (.inl rfl) rfl) ?_
          refine P22 .none (S_lit (.agg rfl (Plan.cells_len _) (Plan.cells_one _) (.agg rfl (Plan.cells_len _) (Plan.cells_one _) (.nil _))) rfl rfl rfl) ?_
          refine P10 .none (S_buildL (.one rfl rfl rfl rfl (.one rfl rfl rfl rfl (.own rfl rfl rfl (.nil _)))) rfl) ?_
          refine P01 .none (by first | exact S_storeW rfl rfl rfl rfl rfl rfl | exact S_storeWe rfl rfl rfl HK rfl rfl rfl | exact S_storeP rfl rfl rfl rfl rfl (Nat.le_of_ble_eq_true rfl) | exact S_storeLW rfl rfl rfl rfl rfl rfl rfl | exact S_storeW rfl rfl rfl (Plan.cells_one _) (Plan.cells_len _) rfl) ?_
          refine Pend ⟨by kernel_rfl, ?_⟩
          refine PW_ret ⟨.inr rfl, ?_⟩
          rw [if_pos (of_decide_eq_true h4)] at hu3
          rw [bc hu3.symm]
          exact ret_G (.cons (.aggL (.loc rfl rfl rfl) (.cons (.g _) (.cons (.g _) (.cons (.g _) (.cons (.g _) (.cons (ExZ.whole rfl rfl rfl) .nil)))))) .nil) rfl trivial rfl rfl
        · -- not t72
          refine PW_skip ?_
          -- region 8
          refine PW_region ?_
          refine qMv .none ?_
          refine qAd .none ?_
          refine qMv .none ?_
          refine Pend ?_
          rw [if_neg (of_decide_eq_false h4)] at hu3
          exact ⟨c + 1, by omega, ⟨by omega, by omega, hu3⟩, (by repeat (first | exact trivial | refine And.intro rfl ?_)), (by repeat (first | exact trivial | refine And.intro rfl ?_))⟩
      · -- not t45
        refine PW_exit ?_
        refine PW_seq ?_
        refine PW_seq ?_
        obtain ⟨hu1, hu2, hu3⟩ := hu
        obtain rfl : c = w / 2 + 1 := by have := of_decide_eq_false h3; omega
        rw [Nat.sub_self] at hu3
        simp only [findC] at hu3
        subst hu3
        generalize hO2 : findC (fun y => V w y) h (V w h) (h / 2) 1 = O2 at *
        --region 11
        refine PW_region ?_
        refine qMv .none ?_
        refine Pend ?_
        refine PW_block ?_
        refine PW_iter (ι := Nat) (fun c => [(1, .c (.g (.sl (vs.map encI)))), (2, .c (.g (.sl (rowsF (doneF V H (W + 1) 1) W H)))), (3, .c (.g (.int .i64 (w : Nat)))), (4, .c (.g (.int .i64 (h : Nat)))), (5, .c (.optr 5 0 0)), (10, .c (.optr 10 0 0)), (14, .c (.g (.int .i64 (c : Nat))))]) (fun c => [(5, ⟨25, 0, .gnd [[.int .i64 (W : Int), .int .i64 (H : Int), .sl (ps.map Pane.cells)]]⟩), (10, ⟨34, 0, .gnd [[.int .i64 0, .int .i64 0, .int .i64 0, .bool false, .nil]]⟩)]) (fun c => 1 ≤ c ∧ c ≤ h / 2 + 1 ∧ findC (fun y => V w y) h (V w h) (h / 2 + 1 - c) c = O2) (fun c => h / 2 + 1 - c) 1 ⟨by omega, by omega, hO2⟩ (by repeat (first | exact trivial | refine And.intro rfl ?_)) (by repeat (first | exact trivial | refine And.intro rfl ?_)) (fun c hu => ?_)
        refine PW_seq ?_
        refine PW_seq ?_
        -- region 12
        refine PW_region ?_
        refine qMv .none ?_
        refine qMv .none ?_
        refine P10 .none (S_quo rfl rfl rfl (by omega) (And.intro (by omega) (by omega))) ?_
        refine qCm .none ?_
        refine Pend ?_
        refine PW_cond rfl (fun h5 => ?_) (fun h5 => ?_)
        · -- t93
          refine PW_skip ?_
          refine PW_seq ?_
          refine PW_block ?_
          refine PW_seq ?_
          obtain ⟨hu1, hu2, hu3⟩ := hu
          have hc : c ≤ h / 2 := by have := of_decide_eq_true h5; omega
          rw [show h / 2 + 1 - c = (h / 2 + 1 - (c + 1)) + 1 by omega] at hu3
          simp only [findC] at hu3
          have b1 := hbd (a := w) (b := c) (by omega) (by omega) (by omega) (by omega)
          have b2 := hbd (a := w) (b := h - c) (by omega) (by omega) (by omega) (by omega)
          have hr1 := ih w c (by omega) (by omega) (by omega) (by omega) (by omega)
          have hr2 := ih w (h - c) (by omega) (by omega) (by omega) (by omega) (by omega)
          rw [show (((h - c : Nat)) : Int) = ((h : Nat) : Int) - ((c : Nat) : Int) by omega] at hr2
          have bc := bc2 c hz hz2 rfl
          generalize bestT ⟨(W : Int), (H : Int), ps⟩ vs N w c = p at *
          generalize bestT ⟨(W : Int), (H : Int), ps⟩ vs N w (h - c) = q at *
          --region 14
          refine PW_draw (by kernel_rfl) ?_
          refine qMv .none ?_
          refine qMv .none ?_
          refine P10 .none (by first | exact S_indexR rfl rfl rfl (rowsF_at (a := w) (by omega)) rfl rfl | exact S_indexO rfl rfl rfl rfl rfl (rowsF_at (a := w) (by omega)) rfl) ?_
          refine qLd .none ?_
          refine qMv .none ?_
          refine P10 .none (by first | exact S_indexR rfl rfl rfl (rowV_at (a := w) (b := c) (by omega) (by omega) (by omega) (by omega)) rfl rfl | exact S_indexO rfl rfl rfl rfl rfl (rowV_at (a := w) (b := c) (by omega) (by omega) (by omega) (by omega)) rfl) ?_
          refine qLd .none ?_
          refine qMv .none ?_
          refine qMv .none ?_
          refine P10 .none (by first | exact S_indexR rfl rfl rfl (rowsF_at (a := w) (by omega)) rfl rfl | exact S_indexO rfl rfl rfl rfl rfl (rowsF_at (a := w) (by omega)) rfl) ?_
          refine qLd .none ?_
          refine qMv .none ?_
          refine qMv .none ?_
          refine qSb .none ?_
          refine P10 .none (by first | exact S_indexR rfl rfl (show ((h : Nat) : Int) - (c : Nat) = ((h - c : Nat) : Int) by omega) (rowV_at (a := w) (b := h - c) (by omega) (by omega) (by omega) (by omega)) rfl rfl | exact S_indexO rfl rfl rfl rfl (show ((h : Nat) : Int) - (c : Nat) = ((h - c : Nat) : Int) by omega) (rowV_at (a := w) (b := h - c) (by omega) (by omega) (by omega) (by omega)) rfl) ?_
          refine qLd .none ?_
          refine qAd .none ?_
          refine qMv .none ?_
          refine qMv .none ?_
          refine P10 .none (by first | exact S_indexR rfl rfl rfl (rowsF_at (a := w) (by omega)) rfl rfl | exact S_indexO rfl rfl rfl rfl rfl (rowsF_at (a := w) (by omega)) rfl) ?_
          refine qLd .none ?_
          refine qMv .none ?_
          refine P10 .none (by first | exact S_indexR rfl rfl rfl (rowV_at (a := w) (b := h) (by omega) (by omega) (by omega) (by omega)) rfl rfl | exact S_indexO rfl rfl rfl rfl rfl (rowV_at (a := w) (b := h) (by omega) (by omega) (by omega) (by omega)) rfl) ?_
          refine qLd .none ?_
          refine qCm .none ?_
          refine Pend ⟨by kernel_rfl, ?_⟩
          refine PW_cond rfl (fun h6 => ?_) (fun h6 => ?_)
          · -- t120
            refine PW_seq ?_
            -- region 15
            refine PW_draw (by kernel_rfl) ?_
            refine qMv .none ?_
            refine qLd .none ?_
            refine qMv .none ?_
            refine qMv .none ?_
            refine qMv .none ?_
            refine qMv .none ?_
            refine P00 .none (S_callG [] [] false hr1 (.g rfl (.g rfl (.g rfl (.g rfl (.g rfl .nil))))) trivial rfl (.inl rfl) rfl) ?_
            refine qLd .none ?_
            refine qMv .none ?_
            refine qMv .none ?_
            refine qMv .none ?_
            refine qMv .none ?_
            refine qMv .none ?_
            refine qSb .none ?_
            refine P00 .none (S_callG [] [] false hr2 (.g rfl (.g rfl (.g rfl (.g rfl (.g rfl .nil))))) trivial rfl (.inl rfl) rfl) ?_
            refine P22 .none (S_lit (.agg rfl (Plan.cells_len _) (Plan.cells_one _) (.agg rfl (Plan.cells_len _) (Plan.cells_one _) (.nil _))) rfl rfl rfl) ?_
            refine P10 .none (S_buildL (.one rfl rfl rfl rfl (.one rfl rfl rfl rfl (.own rfl rfl rfl (.nil _)))) rfl) ?_
            refine P01 .none (by first | exact S_storeW rfl rfl rfl rfl rfl rfl | exact S_storeWe rfl rfl rfl HK rfl rfl rfl | exact S_storeP rfl rfl rfl rfl rfl (Nat.le_of_ble_eq_true rfl) | exact S_storeLW rfl rfl rfl rfl rfl rfl rfl | exact S_storeW rfl rfl rfl (Plan.cells_one _) (Plan.cells_len _) rfl) ?_
            refine Pend ⟨by kernel_rfl, ?_⟩
            refine PW_ret ⟨.inr rfl, ?_⟩
            rw [if_pos (of_decide_eq_true h6)] at hu3
            rw [bc hu3.symm]
            exact ret_G (.cons (.aggL (.loc rfl rfl rfl) (.cons (.g _) (.cons (.g _) (.cons (.g _) (.cons (.g _) (.cons (ExZ.whole rfl rfl rfl) .nil)))))) .nil) rfl trivial rfl rfl
          · -- not t120
            refine PW_skip ?_
            -- region 13
            refine PW_region ?_
            refine qMv .none ?_
            refine qAd .none ?_
            refine qMv .none ?_
            refine Pend ?_
            rw [if_neg (of_decide_eq_false h6)] at hu3
            exact ⟨c + 1, by omega, ⟨by omega, by omega, hu3⟩, (by repeat (first | exact trivial | refine And.intro rfl ?_)), (by repeat (first | exact trivial | refine And.intro rfl ?_))⟩
        · -- not t93
          refine PW_exit ?_
          refine PW_seq ?_
          obtain ⟨hu1, hu2, hu3⟩ := hu
          obtain rfl : c = h / 2 + 1 := by have := of_decide_eq_false h5; omega
          rw [Nat.sub_self] at hu3
          simp only [findC] at hu3
          subst hu3
          rw [bn hz hz2 rfl rfl]
          --region 16
          refine PW_region ?_
          refine P10 .none (S_build (gs := [_, _, _, _, _]) (.nil _) rfl rfl) ?_
          refine P01 .none (by first | exact S_storeW rfl rfl rfl rfl rfl rfl | exact S_storeWe rfl rfl rfl HK rfl rfl rfl | exact S_storeP rfl rfl rfl rfl rfl (Nat.le_of_ble_eq_true rfl) | exact S_storeLW rfl rfl rfl rfl rfl rfl rfl | exact S_storeW rfl rfl rfl (Plan.cells_one _) (Plan.cells_len _) rfl) ?_
          refine Pend ?_
          refine PW_ret ⟨.inr rfl, ?_⟩
          exact ret_G (.cons (.frz (.gnd rfl rfl rfl) (.up waste_up)) .nil) rfl trivial rfl rfl
end Go.Proofs.Ytdmlfhmnlddooaa
namespace Go.Proofs.Ytdmlfhmnlddooaa
open Go Go.Pu

def rowsP (f : Nat → Nat → Int) (H i : Nat) : List (List GV) := (List.range i).map fun a => [.sl (rowF f H a)]
theorem rowsP_len (f : Nat → Nat → Int) (H i : Nat) : (rowsP f H i).length = i := by simp [rowsP]
theorem rowF_len (f : Nat → Nat → Int) (H a : Nat) : (rowF f H a).length = H + 1 := by simp [rowF]
def rowsL (f : Nat → Nat → Int) (H i id n : Nat) : List (List LC) := (rowsP f H i).map (·.map LC.g) ++ [[LC.osl id 0 n]]
theorem rowsL_lt {f : Nat → Nat → Int} {H i id n c : Nat} (h : c < i) : (rowsL f H i id n)[c]? = some [.g (.sl (rowF f H c))] := by
  unfold rowsL rowsP
  rw [List.getElem?_append_left (by simp; omega), List.getElem?_map, List.getElem?_map, List.getElem?_range h]
  rfl
theorem rowsL_at {f : Nat → Nat → Int} {H i id n : Nat} : (rowsL f H i id n)[i]? = some [.osl id 0 n] := by
  unfold rowsL
  rw [List.getElem?_append_right (by simp [rowsP_len]), List.length_map, rowsP_len, Nat.sub_self]
  rfl
theorem rowsL_set {f : Nat → Nat → Int} {H i id n : Nat} {es : List (List GV)} (h : es = rowF f H i) : (rowsP f H (i + 1)).map (·.map LC.g) = (rowsL f H i id n).set i [.g (.sl es)] := by
  subst h
  unfold rowsL
  rw [List.set_append, if_neg (by simp [rowsP_len]), List.length_map, rowsP_len, Nat.sub_self]
  unfold rowsP
  rw [List.range_succ, List.map_append, List.map_append]
  rfl
theorem rowsL_noRef {f : Nat → Nat → Int} {H i id n k : Nat} (a b : Nat) (r : List LC) (y : LC) (h1 : (rowsL f H i id n)[a]? = some r) (h2 : r[b]? = some y) : (a = i ∧ b = 0) ∨ y.noRef k = true := by
  have hlen : (rowsL f H i id n).length = i + 1 := by unfold rowsL; simp [rowsP_len]
  have ha : a < i + 1 := by rw [← hlen]; exact (List.getElem?_eq_some_iff.1 h1).1
  by_cases hai : a = i
  · subst hai
    rw [rowsL_at] at h1
    cases h1
    cases b with
    | zero => exact .inl ⟨rfl, rfl⟩
    | succ b => simp at h2
  · rw [rowsL_lt (by omega)] at h1
    cases h1
    cases b with
    | zero => simp at h2; subst h2; exact .inr rfl
    | succ b => simp at h2
theorem rowF_start (v : Nat → Nat → Int) (H i : Nat) : rowF (doneF v H i 1) H i = List.replicate (H + 1) [.int .i64 0] := by
  have : rowF (doneF v H i 1) H i = (List.range (H + 1)).map (fun _ => [GV.int .i64 0]) := by
    unfold rowF
    refine List.map_congr_left fun b _ => ?_
    unfold doneF
    rw [if_neg (by omega)]
    rfl
  rw [this, List.map_const', List.length_range]
theorem rowF_end {v : Nat → Nat → Int} {H W i j : Nat} (hi : i ≤ W) (hj : i = 0 ∨ j = H + 1) : rowF (doneF v H i j) H i = rowF (doneF v H (W + 1) 1) H i := by
  unfold rowF
  refine List.map_congr_left fun b hb => ?_
  have hb := List.mem_range.1 hb
  congr 1
  unfold doneF
  by_cases g : 1 ≤ i ∧ 1 ≤ b ∧ b ≤ H ∧ (i < i ∨ i = i ∧ b < j)
  · rw [if_pos g, if_pos (by omega)]
  · rw [if_neg g, if_neg (by omega)]
theorem rowF_step {v : Nat → Nat → Int} {H i j : Nat} (hi : 1 ≤ i) (hj : 1 ≤ j) (hH : j ≤ H) : (rowF (doneF v H i j) H i).set j [.int .i64 (v i j)] = rowF (doneF v H i (j + 1)) H i := by
  refine List.ext_getElem (by simp [rowF]) fun o h1 h2 => ?_
  rw [List.getElem_set]
  have ho : o < H + 1 := by rw [rowF_len] at h2; exact h2
  simp only [rowF, List.getElem_map, List.getElem_range]
  by_cases e : j = o
  · subst e
    rw [if_pos rfl]
    unfold doneF
    rw [if_pos (by omega)]
    rfl
  · rw [if_neg e]
    congr 1
    unfold doneF
    by_cases g : 1 ≤ i ∧ 1 ≤ o ∧ o ≤ H ∧ (i < i ∨ i = i ∧ o < j)
    · rw [if_pos g, if_pos (by omega)]
    · rw [if_neg g, if_neg (by omega)]
theorem rowsL_kill {f : Nat → Nat → Int} {H i n : Nat} : (rowsL f H i 23 n).map (fun r => r.map (LC.kill 8)) = rowsL f H i 23 n := by
  unfold rowsL
  rw [List.map_append, List.map_map]
  refine congr (congrArg _ ?_) rfl
  refine List.map_congr_left fun r _ => ?_
  show (r.map LC.g).map (LC.kill 8) = r.map LC.g
  rw [List.map_map]
  rfl
theorem rowW_at {v : Nat → Nat → Int} {H i j b : Nat} (hi : 1 ≤ i) (hb : 1 ≤ b) (hbj : b < j) (hbH : b ≤ H) : (rowF (doneF v H i j) H i)[b]? = some (encI (v i b)) := by
  rw [rowF_at hbH]
  unfold doneF
  rw [if_pos (by omega)]

/- spec.valueTable: 25, 26 -> [94] -/
set_option maxRecDepth 100000 in
theorem ctr_s_valueTable (W H : Nat) (ps : List Pane) (hps : ps.length ≤ 100000) (vs : List Int) (hl : vs.length ≤ 100000) (hv : ∀ v ∈ vs, v ≤ 1000) (hW : W ≤ 16) (hH : H ≤ 16) : CtrG P 72 102 [.c (.g (.agg (Work.cells ⟨(W : Int), (H : Int), ps⟩))), .c (.g (.sl (vs.map encI)))] [] (.c (.g (.sl (rowsF (doneF (val ⟨(W : Int), (H : Int), ps⟩ vs) H (W + 1) 1) W H)))) [] := by
  have hvl : (vs.map encI).length = vs.length := List.length_map _
  generalize hV : val ⟨(W : Int), (H : Int), ps⟩ vs = V
  have hbd : ∀ {a b : Nat}, 1 ≤ a → 1 ≤ b → a ≤ 16 → b ≤ 16 → 0 ≤ V a b ∧ V a b ≤ 256000 := fun h1 h2 h3 h4 => by rw [← hV]; exact val_bd hv h1 h2 h3 h4
  refine ctr_ofG (fn := Go.Proofs.Try.f72) (by kernel_rfl) rfl rfl rfl ?_
  rintro ⟨n, w0, F0, M, pin⟩ hn
  cases hn
  refine PW_seq ?_
  -- region 0
  refine PW_region ?_
  refine qBx .none ?_
  refine qMv .none ?_
  refine Pend ?_
  refine PW_seq ?_
  -- region 1
  refine PW_region ?_
  refine P22 .none (S_lit (.nil _) rfl rfl rfl) ?_
  refine qMv .none ?_
  refine Pend ?_
  refine PW_seq ?_
  refine PW_seq ?_
  -- region 2
  refine PW_region ?_
  refine qMv .none ?_
  refine Pend ?_
  refine PW_block ?_
  refine PW_iter (ι := Nat) (fun i => [(1, .c (.g (.sl (vs.map encI)))), (2, .c (.optr 2 0 0)), (4, .c (.g .nil)), (6, .c (.g (.int .i64 (i : Nat)))), (5, .c (.osl 12 0 i))]) (fun i => [(2, ⟨25, 0, .gnd [[.int .i64 (W : Int), .int .i64 (H : Int), .sl (ps.map Pane.cells)]]⟩), (12, ⟨26, 0, .gnd (rowsP (doneF V H (W + 1) 1) H i)⟩)]) (fun i => i ≤ W + 1) (fun i => W + 1 - i) 0 (by omega) (by repeat (first | exact trivial | refine And.intro rfl ?_)) (by repeat (first | exact trivial | refine And.intro rfl ?_)) (fun i hi => ?_)
  refine PW_seq ?_
  refine PW_seq ?_
  -- region 3
  refine PW_region ?_
  refine qMv .none ?_
  refine qFd .none ?_
  refine qLd .none ?_
  refine qCm .none ?_
  refine Pend ?_
  refine PW_cond rfl (fun h1 => ?_) (fun h1 => ?_)
  · -- t16
    refine PW_skip ?_
    refine PW_seq ?_
    refine PW_block ?_
    refine PW_seq ?_
    have hi2 : i ≤ W := by have := of_decide_eq_true h1; omega
    --region 5
    refine PW_region ?_
    refine qMv .none ?_
    refine qFd .none ?_
    refine qLd .none ?_
    refine qAd .none ?_
    refine P22 .none (S_make rfl rfl (show ((H : Nat) : Int) + 1 = ((H + 1 : Nat) : Int) by omega) (by omega) rfl) ?_
    refine P22 .none (S_litL (.own rfl rfl (.nil _)) rfl rfl rfl rfl) ?_
    refine P22 .none (S_appL (B := .gnd (rowsP (doneF V H (W + 1) 1) H i)) (D := .loc [[.osl 23 0 (H + 1)]]) rfl rfl rfl rfl rfl (by show ((rowsP _ H i).map _).length = i; rw [List.length_map, rowsP_len]) rfl (by omega) (by omega) (by omega) (fun el hel x hx => by obtain ⟨a, ha, rfl⟩ := List.mem_map.1 hel; obtain ⟨y, hy, rfl⟩ := List.mem_map.1 hx; rfl) (fun el hel x hx => by obtain rfl := List.mem_singleton.1 hel; obtain rfl := List.mem_singleton.1 hx; rfl) rfl) ?_
    refine qMv .none ?_
    refine Pend ?_
    refine PW_seq ?_
    -- region 6
    refine PW_region ?_
    refine qMv .none ?_
    refine Pend ?_
    refine PW_block ?_
    refine PW_iter (ι := Nat) (fun j => [(1, .c (.g (.sl (vs.map encI)))), (2, .c (.optr 2 0 0)), (4, .c (.g .nil)), (6, .c (.g (.int .i64 (i : Nat)))), (5, .c (.osl 12 0 (i + 1))), (7, .c (.g (.int .i64 (j : Nat))))]) (fun j => [(2, ⟨25, 0, .gnd [[.int .i64 (W : Int), .int .i64 (H : Int), .sl (ps.map Pane.cells)]]⟩), (12, ⟨26, 0, .loc (rowsL (doneF V H (W + 1) 1) H i 23 (H + 1))⟩), (23, ⟨3, 0, .gnd (rowF (doneF V H i j) H i)⟩)]) (fun j => 1 ≤ j ∧ j ≤ H + 1 ∧ (i = 0 → j = 1)) (fun j => H + 1 - j) 1 ⟨by omega, by omega, fun _ => rfl⟩ (by repeat (first | exact trivial | refine And.intro rfl ?_)) (by rw [rowF_start]; repeat (first | exact trivial | refine And.intro rfl ?_)) (fun j hj => ?_)
    refine PW_seq ?_
    refine PW_join (ι := Bool) (fun u7 => [(1, .c (.g (.sl (vs.map encI)))), (2, .c (.optr 2 0 0)), (4, .c (.g .nil)), (6, .c (.g (.int .i64 (i : Nat)))), (5, .c (.osl 12 0 (i + 1))), (7, .c (.g (.int .i64 (j : Nat)))), (33, .c (.g (.bool u7)))]) (fun u7 => [(2, ⟨25, 0, .gnd [[.int .i64 (W : Int), .int .i64 (H : Int), .sl (ps.map Pane.cells)]]⟩), (12, ⟨26, 0, .loc (rowsL (doneF V H (W + 1) 1) H i 23 (H + 1))⟩), (23, ⟨3, 0, .gnd (rowF (doneF V H i j) H i)⟩)]) (fun u7 => u7 = (decide (j ≤ H) && decide (0 < i))) ?_ (fun u7 hu7 => ?_)
    · skip
      -- region 7
      refine PW_region ?_
      refine qMv .none ?_
      refine qFd .none ?_
      refine qLd .none ?_
      refine qCm .none ?_
      refine qMv .none ?_
      refine Psplit 30 rfl (fun h2 => ?_) (fun h2 => ?_)
      · -- t30 = true
        refine qMv (.yes rfl rfl h2) ?_
        refine qCm (.yes rfl rfl h2) ?_
        refine P10 .none (S_pickT rfl h2 rfl rfl) ?_
        refine Pend ?_
        exact ⟨decide ((0 : Int) < (i : Nat)), (by have g := h2; rw [Bool.eq_iff_iff]; simp at g ⊢; omega), by repeat (first | exact trivial | refine And.intro rfl ?_ | refine And.intro (by show some (PV.c (LC.g _)) = some (PV.c (LC.g _)); simp only [*, decide_true, decide_false, eq_self, if_true, if_false, reduceIte, Bool.false_eq_true, Bool.and_false, Bool.false_and, Bool.true_and, Bool.and_true, Bool.or_true, Bool.true_or, Bool.false_or, Bool.or_false, Bool.not_true, Bool.not_false]) ?_), by repeat (first | exact trivial | refine And.intro rfl ?_ | refine And.intro (by show some (PV.c (LC.g _)) = some (PV.c (LC.g _)); simp only [*, decide_true, decide_false, eq_self, if_true, if_false, reduceIte, Bool.false_eq_true, Bool.and_false, Bool.false_and, Bool.true_and, Bool.and_true, Bool.or_true, Bool.true_or, Bool.false_or, Bool.or_false, Bool.not_true, Bool.not_false]) ?_)⟩
      · -- t30 = false
        refine Pskip rfl rfl h2 rfl ?_
        refine Pskip rfl rfl h2 rfl ?_
        refine P10 .none (S_pickF rfl h2 rfl rfl) ?_
        refine Pend ?_
        exact ⟨false, (by have g := h2; rw [Bool.eq_iff_iff]; simp at g ⊢; omega), by repeat (first | exact trivial | refine And.intro rfl ?_ | refine And.intro (by show some (PV.c (LC.g _)) = some (PV.c (LC.g _)); simp only [*, decide_true, decide_false, eq_self, if_true, if_false, reduceIte, Bool.false_eq_true, Bool.and_false, Bool.false_and, Bool.true_and, Bool.and_true, Bool.or_true, Bool.true_or, Bool.false_or, Bool.or_false, Bool.not_true, Bool.not_false]) ?_), by repeat (first | exact trivial | refine And.intro rfl ?_ | refine And.intro (by show some (PV.c (LC.g _)) = some (PV.c (LC.g _)); simp only [*, decide_true, decide_false, eq_self, if_true, if_false, reduceIte, Bool.false_eq_true, Bool.and_false, Bool.false_and, Bool.true_and, Bool.and_true, Bool.or_true, Bool.true_or, Bool.false_or, Bool.or_false, Bool.not_true, Bool.not_false]) ?_)⟩
    · skip
      refine PW_cond rfl (fun h3 => ?_) (fun h3 => ?_)
      · -- t33
        refine PW_skip ?_
        refine PW_seq ?_
        refine PW_block ?_
        refine PW_seq ?_
        have hj2 : j ≤ H := by rw [hu7] at h3; simp at h3; exact h3.1
        have hi1 : 1 ≤ i := by rw [hu7] at h3; simp at h3; omega
        have hve := val_eq ⟨(W : Int), (H : Int), ps⟩ vs (w := i) (h := j) hi1 hj.1
        rw [hV] at hve
        generalize hM : maxFrom (fun x => V x j) i (i / 2) 1 (leafV ⟨(W : Int), (H : Int), ps⟩ vs i j).2 = M at hve
        --region 9
        refine PW_region ?_
        refine qLd .none ?_
        refine qMv .none ?_
        refine qMv .none ?_
        refine qMv .none ?_
        refine P00 .none (S_callG [] [] false (ctr_leafValue ⟨(W : Int), (H : Int), ps⟩ hps vs hl i j ⟨by omega, by omega⟩ ⟨by omega, by omega⟩) (.g rfl (.g rfl (.g rfl (.g rfl .nil)))) trivial rfl (.inl rfl) rfl) ?_
        refine qMv .none ?_
        refine qEx1 .none ?_
        refine qEx1 .none ?_
        refine qBx .none ?_
        refine P01 .none (by first | exact S_storeW rfl rfl rfl rfl rfl rfl | exact S_storeWe rfl rfl rfl HK rfl rfl rfl | exact S_storeP rfl rfl rfl rfl rfl (Nat.le_of_ble_eq_true rfl) | exact S_storeLW rfl rfl rfl rfl rfl rfl rfl | exact S_storeW rfl rfl rfl (Plan.cells_one _) (Plan.cells_len _) rfl) ?_
        refine qMv .none ?_
        refine Pend ?_
        refine PW_seq ?_
        refine PW_seq ?_
        -- region 10
        refine PW_region ?_
        refine qMv .none ?_
        refine Pend ?_
        refine PW_block ?_
        refine PW_iter (ι := Nat × Int) (fun u => [(1, .c (.g (.sl (vs.map encI)))), (2, .c (.optr 2 0 0)), (4, .c (.g .nil)), (6, .c (.g (.int .i64 (i : Nat)))), (5, .c (.osl 12 0 (i + 1))), (7, .c (.g (.int .i64 (j : Nat)))), (8, .c (.optr 8 0 0)), (9, .c (.g (.int .i64 u.2))), (10, .c (.g (.int .i64 (u.1 : Nat))))]) (fun u => [(2, ⟨25, 0, .gnd [[.int .i64 (W : Int), .int .i64 (H : Int), .sl (ps.map Pane.cells)]]⟩), (12, ⟨26, 0, .loc (rowsL (doneF V H (W + 1) 1) H i 23 (H + 1))⟩), (23, ⟨3, 0, .gnd (rowF (doneF V H i j) H i)⟩), (8, ⟨34, 0, .gnd [(leafT (leafV ⟨(W : Int), (H : Int), ps⟩ vs i j).1).plan.cells]⟩)]) (fun u => 1 ≤ u.1 ∧ u.1 ≤ i / 2 + 1 ∧ maxFrom (fun x => V x j) i (i / 2 + 1 - u.1) u.1 u.2 = M) (fun u => i / 2 + 1 - u.1) (1, (leafV ⟨(W : Int), (H : Int), ps⟩ vs i j).2) ⟨by omega, by omega, hM⟩ (by repeat (first | exact trivial | refine And.intro rfl ?_)) ⟨rfl, congrArg (fun z => some (Pu.Obj.mk 26 0 (Cont.loc z))) rowsL_kill, rfl, rfl, trivial⟩ (fun u hu => ?_)
        refine PW_seq ?_
        refine PW_seq ?_
        -- region 11
        refine PW_region ?_
        refine qMv .none ?_
        refine qMv .none ?_
        refine P10 .none (S_quo rfl rfl rfl (by omega) (And.intro (by omega) (by omega))) ?_
        refine qCm .none ?_
        refine Pend ?_
        refine PW_cond rfl (fun h4 => ?_) (fun h4 => ?_)
        · -- t47
          refine PW_skip ?_
          refine PW_seq ?_
          refine PW_block ?_
          obtain ⟨c, v⟩ := u
          dsimp only at hu h4 ⊢
          obtain ⟨hu1, hu2, hu3⟩ := hu
          have hc : c ≤ i / 2 := by have := of_decide_eq_true h4; omega
          rw [show i / 2 + 1 - c = (i / 2 + 1 - (c + 1)) + 1 by omega] at hu3
          simp only [maxFrom] at hu3
          have b1 := hbd (a := c) (b := j) (by omega) (by omega) (by omega) (by omega)
          have b2 := hbd (a := i - c) (b := j) (by omega) (by omega) (by omega) (by omega)
          --region 13
          refine PW_draw (by kernel_rfl) ?_
          refine qMv .none ?_
          refine qMv .none ?_
          refine qMv .none ?_
          refine P10 .none (S_indexO (k := c) rfl rfl rfl rfl rfl (by omega) rfl) ?_
          refine P10 .none (S_loadL1 (y := .g (.sl (rowF (doneF V H (W + 1) 1) H (c)))) rfl rfl (by rw [Nat.zero_add]; exact rowsL_lt (by omega)) rfl rfl) ?_
          refine qMv .none ?_
          refine P10 .none (S_indexR (k := j) rfl rfl rfl (rowV_at (a := c) (b := j) (by omega) (by omega) (by omega) (by omega)) rfl rfl) ?_
          refine qLd .none ?_
          refine qMv .none ?_
          refine qMv .none ?_
          refine qMv .none ?_
          refine qSb .none ?_
          refine P10 .none (S_indexO (k := i - c) rfl rfl rfl rfl (show ((i : Nat) : Int) - (c : Nat) = ((i - c : Nat) : Int) by omega) (by omega) rfl) ?_
          refine P10 .none (S_loadL1 (y := .g (.sl (rowF (doneF V H (W + 1) 1) H (i - c)))) rfl rfl (by rw [Nat.zero_add]; exact rowsL_lt (by omega)) rfl rfl) ?_
          refine qMv .none ?_
          refine P10 .none (S_indexR (k := j) rfl rfl rfl (rowV_at (a := i - c) (b := j) (by omega) (by omega) (by omega) (by omega)) rfl rfl) ?_
          refine qLd .none ?_
          refine qAd .none ?_
          refine qCm .none ?_
          refine qMv .none ?_
          refine Pend ⟨by kernel_rfl, ?_⟩
          -- region 12
          refine PW_region ?_
          refine qMv .none ?_
          refine qAd .none ?_
          refine qMv .none ?_
          refine Pend ?_
          exact ⟨(c + 1, max v (V c j + V (i - c) j)), by dsimp only; omega, ⟨by dsimp only; omega, by dsimp only; omega, hu3⟩, (by repeat (first | exact trivial | refine And.intro rfl ?_)), (by repeat (first | exact trivial | refine And.intro rfl ?_))⟩
        · -- not t47
          refine PW_exit ?_
          refine PW_seq ?_
          refine PW_seq ?_
          obtain ⟨c, v⟩ := u
          dsimp only at hu h4 ⊢
          obtain ⟨hu1, hu2, hu3⟩ := hu
          obtain rfl : c = i / 2 + 1 := by have := of_decide_eq_false h4; omega
          rw [Nat.sub_self] at hu3
          simp only [maxFrom] at hu3
          subst hu3
          --region 14
          refine PW_region ?_
          refine qMv .none ?_
          refine Pend ?_
          refine PW_block ?_
          refine PW_iter (ι := Nat × Int) (fun u => [(1, .c (.g (.sl (vs.map encI)))), (2, .c (.optr 2 0 0)), (4, .c (.g .nil)), (6, .c (.g (.int .i64 (i : Nat)))), (5, .c (.osl 12 0 (i + 1))), (7, .c (.g (.int .i64 (j : Nat)))), (8, .c (.optr 8 0 0)), (9, .c (.g (.int .i64 u.2))), (11, .c (.g (.int .i64 (u.1 : Nat))))]) (fun u => [(2, ⟨25, 0, .gnd [[.int .i64 (W : Int), .int .i64 (H : Int), .sl (ps.map Pane.cells)]]⟩), (12, ⟨26, 0, .loc (rowsL (doneF V H (W + 1) 1) H i 23 (H + 1))⟩), (23, ⟨3, 0, .gnd (rowF (doneF V H i j) H i)⟩), (8, ⟨34, 0, .gnd [(leafT (leafV ⟨(W : Int), (H : Int), ps⟩ vs i j).1).plan.cells]⟩)]) (fun u => 1 ≤ u.1 ∧ u.1 ≤ j / 2 + 1 ∧ maxFrom (fun y => V i y) j (j / 2 + 1 - u.1) u.1 u.2 = V i j) (fun u => j / 2 + 1 - u.1) (1, v) ⟨by omega, by omega, hve.symm⟩ (by repeat (first | exact trivial | refine And.intro rfl ?_)) (by repeat (first | exact trivial | refine And.intro rfl ?_)) (fun u hu => ?_)
          refine PW_seq ?_
          refine PW_seq ?_
          -- region 15
          refine PW_region ?_
          refine qMv .none ?_
          refine qMv .none ?_
          refine P10 .none (S_quo rfl rfl rfl (by omega) (And.intro (by omega) (by omega))) ?_
          refine qCm .none ?_
          refine Pend ?_
          refine PW_cond rfl (fun h5 => ?_) (fun h5 => ?_)
          · -- t72
            refine PW_skip ?_
            refine PW_seq ?_
            refine PW_block ?_
            obtain ⟨c, v⟩ := u
            dsimp only at hu h5 ⊢
            obtain ⟨hu1, hu2, hu3⟩ := hu
            have hc : c ≤ j / 2 := by have := of_decide_eq_true h5; omega
            rw [show j / 2 + 1 - c = (j / 2 + 1 - (c + 1)) + 1 by omega] at hu3
            simp only [maxFrom] at hu3
            have b1 := hbd (a := i) (b := c) (by omega) (by omega) (by omega) (by omega)
            have b2 := hbd (a := i) (b := j - c) (by omega) (by omega) (by omega) (by omega)
            --region 17
            refine PW_draw (by kernel_rfl) ?_
            refine qMv .none ?_
            refine qMv .none ?_
            refine qMv .none ?_
            refine P10 .none (S_indexO (k := i) rfl rfl rfl rfl rfl (by omega) rfl) ?_
            refine P10 .none (S_loadL1 (y := .osl 23 0 (H + 1)) rfl rfl (by rw [Nat.zero_add]; exact rowsL_at) rfl rfl) ?_
            refine qMv .none ?_
            refine P10 .none (S_indexO (k := c) rfl rfl rfl rfl rfl (by omega) rfl) ?_
            refine P10 .none (S_loadO1 (y := .int .i64 (V i (c))) rfl rfl (by rw [Nat.zero_add]; exact rowW_at hi1 (by omega) (by omega) (by omega)) rfl rfl) ?_
            refine qMv .none ?_
            refine qMv .none ?_
            refine P10 .none (S_indexO (k := i) rfl rfl rfl rfl rfl (by omega) rfl) ?_
            refine P10 .none (S_loadL1 (y := .osl 23 0 (H + 1)) rfl rfl (by rw [Nat.zero_add]; exact rowsL_at) rfl rfl) ?_
            refine qMv .none ?_
            refine qMv .none ?_
            refine qSb .none ?_
            refine P10 .none (S_indexO (k := j - c) rfl rfl rfl rfl (show ((j : Nat) : Int) - (c : Nat) = ((j - c : Nat) : Int) by omega) (by omega) rfl) ?_
            refine P10 .none (S_loadO1 (y := .int .i64 (V i (j - c))) rfl rfl (by rw [Nat.zero_add]; exact rowW_at hi1 (by omega) (by omega) (by omega)) rfl rfl) ?_
            refine qAd .none ?_
            refine qCm .none ?_
            refine qMv .none ?_
            refine Pend ⟨by kernel_rfl, ?_⟩
            -- region 16
            refine PW_region ?_
            refine qMv .none ?_
            refine qAd .none ?_
            refine qMv .none ?_
            refine Pend ?_
            exact ⟨(c + 1, max v (V i c + V i (j - c))), by dsimp only; omega, ⟨by dsimp only; omega, by dsimp only; omega, hu3⟩, (by repeat (first | exact trivial | refine And.intro rfl ?_)), (by repeat (first | exact trivial | refine And.intro rfl ?_))⟩
          · -- not t72
            refine PW_exit ?_
            obtain ⟨c, v⟩ := u
            dsimp only at hu h5 ⊢
            obtain ⟨hu1, hu2, hu3⟩ := hu
            obtain rfl : c = j / 2 + 1 := by have := of_decide_eq_false h5; omega
            rw [Nat.sub_self] at hu3
            simp only [maxFrom] at hu3
            subst hu3
            have hset : (rowF (doneF V H i j) H i).set (0 + j) ((encI (doneF V H i j i j)).set 0 (.int .i64 (V i j))) = rowF (doneF V H i (j + 1)) H i := by
              rw [Nat.zero_add, ← rowF_step hi1 hj.1 hj2]; rfl
            --region 18
            refine PW_region ?_
            refine qMv .none ?_
            refine qMv .none ?_
            refine P10 .none (S_indexO (k := i) rfl rfl rfl rfl rfl (by omega) rfl) ?_
            refine P10 .none (S_loadL1 (y := .osl 23 0 (H + 1)) rfl rfl (by rw [Nat.zero_add]; exact rowsL_at) rfl rfl) ?_
            refine qMv .none ?_
            refine qMv .none ?_
            refine P10 .none (S_indexO (k := j) rfl rfl rfl rfl rfl (by omega) rfl) ?_
            refine P01 .none (S_store1e rfl rfl rfl (by rw [Nat.zero_add]; exact rowF_at hj2) rfl (by simp [encI])) ?_
            refine Pend ?_
            -- region 8
            refine PW_region ?_
            refine qMv .none ?_
            refine qAd .none ?_
            refine qMv .none ?_
            refine Pend ?_
            exact ⟨j + 1, by omega, ⟨by omega, by omega, by omega⟩, (by repeat (first | exact trivial | refine And.intro rfl ?_)), (by rw [← hset]; repeat (first | exact trivial | refine And.intro rfl ?_))⟩
      · -- not t33
        refine PW_exit ?_
        have hend : rowF (doneF V H i j) H i = rowF (doneF V H (W + 1) 1) H i := rowF_end hi2 (by
          rw [hu7] at h3
          by_cases h0 : i = 0
          · exact .inl h0
          · refine .inr ?_
            simp at h3
            have := hj.2.1
            by_cases hjj : j ≤ H
            · have := h3 hjj; omega
            · omega)
        rw [hend]
        refine PW_frzC 12 23 (el := i) (j := 0) (.gnd (rowsP (doneF V H (W + 1) 1) H (i + 1))) rfl rowsL_at rfl rfl rfl (by rw [rowF_len]; omega) rfl (rowsL_set (by rw [List.drop_zero, List.take_of_length_le (by rw [rowF_len]; omega)])) rowsL_noRef ?_
        --region 4
        refine PW_region ?_
        refine qMv .none ?_
        refine qAd .none ?_
        refine qMv .none ?_
        refine Pend ?_
        exact ⟨i + 1, by omega, (by show i + 1 ≤ W + 1; omega), (by repeat (first | exact trivial | refine And.intro rfl ?_)), (by repeat (first | exact trivial | refine And.intro rfl ?_))⟩
  · -- not t16
    refine PW_exit ?_
    refine PW_seq ?_
    obtain rfl : i = W + 1 := by have := of_decide_eq_false h1; omega
    --region 19
    refine PW_region ?_
    refine qMv .none ?_
    refine qMv .none ?_
    refine Pend ?_
    refine PW_ret ⟨.inr rfl, ?_⟩
    exact ret_G (.cons (.frz (.tmp rfl) (ExZ.whole rfl rfl (by rw [rowsP_len]))) .nil) rfl trivial rfl rfl
end Go.Proofs.Ytdmlfhmnlddooaa
namespace Go.Proofs.Ytdmlfhmnlddooaa
open Go Go.Pu

/-- The best value of the work, -1 if it can't be told. -/
def bestV (k : Work) (vs : List Int) : Int := if told k vs = true then val k vs k.w.toNat k.h.toNat else -1
/-- The best plan of the work, if it can be told and is not too large. -/
def bestO (k : Work) (vs : List Int) : Option T :=
  if told k vs = true then (if planSize (bestT k vs (k.w.toNat + k.h.toNat) k.w.toNat k.h.toNat).plan < 0 then none else some (bestT k vs (k.w.toNat + k.h.toNat) k.w.toNat k.h.toNat)) else none
theorem told_in {k : Work} {vs : List Int} (h : told k vs = true) : validWork k = true ∧ 1 ≤ k.w ∧ k.w ≤ 16 ∧ 1 ≤ k.h ∧ k.h ≤ 16 ∧ k.panes.length ≤ 7 ∧ vs.length = k.panes.length ∧ (∀ v ∈ vs, 1 ≤ v ∧ v ≤ 1000) := by
  unfold told at h
  simp only [Bool.and_eq_true, decide_eq_true_eq, List.all_eq_true, okV] at h
  obtain ⟨⟨⟨⟨⟨h1, h2⟩, h3⟩, h4⟩, h5⟩, h6⟩ := h
  have hk := h1
  simp only [validWork, Bool.and_eq_true, decide_eq_true_eq] at hk
  exact ⟨h1, by omega, h2, by omega, h3, h4, h5, h6⟩

/- impl.BestValue: 25, 26 -> [3] -/
set_option maxRecDepth 100000 in
theorem ctr_bestV (k : Work) (vs : List Int) (hl : vs.length ≤ 100000) : CtrG P 10 20 [.c (.g (.agg k.cells)), .c (.g (.sl (vs.map encI)))] [] (.c (.g (.int .i64 (bestV k vs)))) [] := by
  obtain ⟨w, h, ps⟩ := k
  refine ctr_ofG (fn := Go.Proofs.Try.f10) (by kernel_rfl) rfl rfl rfl ?_
  rintro ⟨n, w0, F0, M, pin⟩ hn
  cases hn
  refine PW_seq ?_
  -- region 0
  refine PW_region ?_
  refine qBx .none ?_
  refine qMv .none ?_
  refine Pend ?_
  refine PW_seq ?_
  refine PW_seq ?_
  -- region 1
  refine PW_region ?_
  refine qLd .none ?_
  refine qMv .none ?_
  refine P00 .none (S_call (.one rfl (.one rfl .nil)) rfl (ctr_i_bestTold ⟨w, h, ps⟩ vs) (.inl rfl) rfl) ?_
  refine qCm .none ?_
  refine Pend ?_
  refine PW_cond rfl (fun h1 => ?_) (fun h1 => ?_)
  · -- t9
    refine PW_seq ?_
    -- region 2
    refine PW_region ?_
    refine qMv .none ?_
    refine Pend ?_
    refine PW_ret ⟨.inr rfl, ?_⟩
    rw [show bestV ⟨w, h, ps⟩ vs = -1 by unfold bestV; rw [if_neg (by simpa using h1)]]
    exact ret_G (.cons (.raw (.tmp rfl) rfl) .nil) rfl trivial rfl rfl
  · -- not t9
    refine PW_skip ?_
    refine PW_seq ?_
    have ht : told ⟨w, h, ps⟩ vs = true := by simpa using h1
    obtain ⟨hk, a1, a2, a3, a4, a5, a6, a7⟩ := told_in ht
    dsimp only at a1 a2 a3 a4 a5 a6
    obtain ⟨W, rfl⟩ : ∃ W : Nat, w = W := ⟨w.toNat, by omega⟩
    obtain ⟨H, rfl⟩ : ∃ H : Nat, h = H := ⟨h.toNat, by omega⟩
    have hv : ∀ v ∈ vs, v ≤ 1000 := fun v hv => (a7 v hv).2
    have hvo := ctr_valuesOf W H ps vs hl hv (by omega) (by omega)
    have hb : bestV ⟨(W : Int), (H : Int), ps⟩ vs = val ⟨(W : Int), (H : Int), ps⟩ vs W H := by unfold bestV; rw [if_pos ht]; simp only [Int.toNat_natCast]
    rw [hb]
    generalize val ⟨(W : Int), (H : Int), ps⟩ vs = V at *
    --region 3
    refine PW_region ?_
    refine qLd .none ?_
    refine qMv .none ?_
    refine P00 .none (S_callG [] [] false hvo (.g rfl (.g rfl .nil)) trivial rfl (.inl rfl) rfl) ?_
    refine qBx .none ?_
    refine P01 .none (S_storeW (n := 289) rfl rfl rfl (by simp [encG, GV.one]) (by simp [tabF_len]) rfl) ?_
    refine Pend ?_
    refine PW_seq ?_
    -- region 4
    refine PW_draw (by kernel_rfl) ?_
    refine qFd .none ?_
    refine qLd .none ?_
    refine qFd .none ?_
    refine qLd .none ?_
    refine P10 .none (S_indexA (k := W) rfl rfl rfl (by omega) rfl) ?_
    refine P10 .none (S_indexA (k := H) rfl rfl rfl (by omega) rfl) ?_
    refine P10 .none (S_loadO1 (y := .int .i64 (V W H)) rfl rfl rfl (by rw [Nat.zero_add, Nat.mul_one]; exact tab_at (by omega) (by omega) (by omega) (.inl (by omega)) (by omega) (by omega)) rfl) ?_
    refine qMv .none ?_
    refine Pend ⟨by kernel_rfl, ?_⟩
    refine PW_ret ⟨.inr rfl, ?_⟩
    exact ret_G (.cons (.raw (.tmp rfl) rfl) .nil) rfl trivial rfl rfl
/- impl.BestPlan: 25, 26 -> [34, 4] -/
set_option maxRecDepth 100000 in
theorem ctr_i_bestO (k : Work) (vs : List Int) (hl : vs.length ≤ 100000) : CtrG P 58 28 [.c (.g (.agg k.cells)), .c (.g (.sl (vs.map encI)))] [] (planPV (bestO k vs)) [] := by
  obtain ⟨w, h, ps⟩ := k
  refine ctr_ofG (fn := Go.Proofs.Try.f58) (by kernel_rfl) rfl rfl rfl ?_
  rintro ⟨n, w0, F0, M, pin⟩ hn
  cases hn
  refine PW_seq ?_
  -- region 0
  refine PW_region ?_
  refine qBx .none ?_
  refine qBx .none ?_
  refine qMv .none ?_
  refine Pend ?_
  refine PW_seq ?_
  refine PW_seq ?_
  -- region 1
  refine PW_region ?_
  refine qLd .none ?_
  refine qMv .none ?_
  refine P00 .none (S_call (.one rfl (.one rfl .nil)) rfl (ctr_i_bestTold ⟨w, h, ps⟩ vs) (.inl rfl) rfl) ?_
  refine qCm .none ?_
  refine Pend ?_
  refine PW_cond rfl (fun h1 => ?_) (fun h1 => ?_)
  · -- t11
    refine PW_seq ?_
    -- region 2
    refine PW_region ?_
    refine P10 .none (S_build (gs := [_, _, _, _, _]) (.nil _) rfl rfl) ?_
    refine P01 .none (by first | exact S_storeW rfl rfl rfl rfl rfl rfl | exact S_storeWe rfl rfl rfl HK rfl rfl rfl | exact S_storeP rfl rfl rfl rfl rfl (Nat.le_of_ble_eq_true rfl) | exact S_storeLW rfl rfl rfl rfl rfl rfl rfl | exact S_storeW rfl rfl rfl (Plan.cells_one _) (Plan.cells_len _) rfl) ?_
    refine qMv .none ?_
    refine Pend ?_
    refine PW_ret ⟨.inr rfl, ?_⟩
    rw [show bestO ⟨w, h, ps⟩ vs = none by unfold bestO; rw [if_neg (by simpa using h1)]]
    exact ret_G (.cons (.frz (.gnd rfl rfl rfl) (.up waste_up)) (.cons (.raw (.tmp rfl) rfl) .nil)) rfl trivial rfl rfl
  · -- not t11
    refine PW_skip ?_
    refine PW_seq ?_
    have ht : told ⟨w, h, ps⟩ vs = true := by simpa using h1
    obtain ⟨hk, a1, a2, a3, a4, a5, a6, a7⟩ := told_in ht
    dsimp only at a1 a2 a3 a4 a5 a6
    obtain ⟨W, rfl⟩ : ∃ W : Nat, w = W := ⟨w.toNat, by omega⟩
    obtain ⟨H, rfl⟩ : ∃ H : Nat, h = H := ⟨h.toNat, by omega⟩
    have hv : ∀ v ∈ vs, v ≤ 1000 := fun v hv => (a7 v hv).2
    have hvo := ctr_valuesOf W H ps vs hl hv (by omega) (by omega)
    have hpf := ctr_bestPlanFor W H ps vs hl hv (by omega) (by omega) (W + H) W H (by omega) (by omega) (by omega) (by omega) (by omega)
    have hb : bestO ⟨(W : Int), (H : Int), ps⟩ vs = if planSize (bestT ⟨(W : Int), (H : Int), ps⟩ vs (W + H) W H).plan < 0 then none else some (bestT ⟨(W : Int), (H : Int), ps⟩ vs (W + H) W H) := by unfold bestO; rw [if_pos ht]; simp only [Int.toNat_natCast]
    rw [hb]
    generalize bestT ⟨(W : Int), (H : Int), ps⟩ vs (W + H) W H = B at *
    generalize val ⟨(W : Int), (H : Int), ps⟩ vs = V at *
    --region 3
    refine PW_region ?_
    refine qLd .none ?_
    refine qMv .none ?_
    refine P00 .none (S_callG [] [] false hvo (.g rfl (.g rfl .nil)) trivial rfl (.inl rfl) rfl) ?_
    refine qBx .none ?_
    refine P01 .none (S_storeW (n := 289) rfl rfl rfl (by simp [encG, GV.one]) (by simp [tabF_len]) rfl) ?_
    refine Pend ?_
    refine PW_seq ?_
    -- region 4
    refine PW_region ?_
    refine qLd .none ?_
    refine qMv .none ?_
    refine qFd .none ?_
    refine qLd .none ?_
    refine qFd .none ?_
    refine qLd .none ?_
    refine P00 .none (S_callG [] [] false hpf (.g rfl (.g rfl (.ref rfl rfl (.g rfl (.g rfl .nil))))) trivial rfl (.inl rfl) rfl) ?_
    refine qBx .none ?_
    refine P01 .none (by first | exact S_storeW rfl rfl rfl rfl rfl rfl | exact S_storeWe rfl rfl rfl HK rfl rfl rfl | exact S_storeP rfl rfl rfl rfl rfl (Nat.le_of_ble_eq_true rfl) | exact S_storeLW rfl rfl rfl rfl rfl rfl rfl | exact S_storeW rfl rfl rfl (Plan.cells_one _) (Plan.cells_len _) rfl) ?_
    refine Pend ?_
    refine PW_seq ?_
    refine PW_seq ?_
    -- region 5
    refine PW_region ?_
    refine P10 .none (by first | exact S_loadOW rfl rfl rfl rfl rfl | exact S_loadRW rfl rfl rfl | exact S_loadLA rfl rfl rfl (Nat.le_of_ble_eq_true rfl) rfl | exact S_loadOA rfl rfl rfl (Nat.le_of_ble_eq_true rfl) rfl | exact S_loadRA rfl (Nat.le_of_ble_eq_true rfl) rfl | exact S_loadRW rfl (Plan.cells_len _) rfl | exact S_loadOW rfl rfl rfl (Plan.cells_len _) rfl) ?_
    refine P00 .none (S_call (.one rfl .nil) rfl (ctr_i_PlanSize B.plan) (.inl rfl) rfl) ?_
    refine qCm .none ?_
    refine Pend ?_
    refine PW_cond rfl (fun h2 => ?_) (fun h2 => ?_)
    · -- t25
      refine PW_seq ?_
      -- region 6
      refine PW_region ?_
      refine P10 .none (S_build (gs := [_, _, _, _, _]) (.nil _) rfl rfl) ?_
      refine P01 .none (by first | exact S_storeW rfl rfl rfl rfl rfl rfl | exact S_storeWe rfl rfl rfl HK rfl rfl rfl | exact S_storeP rfl rfl rfl rfl rfl (Nat.le_of_ble_eq_true rfl) | exact S_storeLW rfl rfl rfl rfl rfl rfl rfl | exact S_storeW rfl rfl rfl (Plan.cells_one _) (Plan.cells_len _) rfl) ?_
      refine qMv .none ?_
      refine Pend ?_
      refine PW_ret ⟨.inr rfl, ?_⟩
      rw [if_pos (of_decide_eq_true h2)]
      exact ret_G (.cons (.frz (.gnd rfl rfl rfl) (.up waste_up)) (.cons (.raw (.tmp rfl) rfl) .nil)) rfl trivial rfl rfl
    · -- not t25
      refine PW_skip ?_
      refine PW_seq ?_
      -- region 7
      refine PW_region ?_
      refine P10 .none (by first | exact S_loadOW rfl rfl rfl rfl rfl | exact S_loadRW rfl rfl rfl | exact S_loadLA rfl rfl rfl (Nat.le_of_ble_eq_true rfl) rfl | exact S_loadOA rfl rfl rfl (Nat.le_of_ble_eq_true rfl) rfl | exact S_loadRA rfl (Nat.le_of_ble_eq_true rfl) rfl | exact S_loadRW rfl (Plan.cells_len _) rfl | exact S_loadOW rfl rfl rfl (Plan.cells_len _) rfl) ?_
      refine P01 .none (by first | exact S_storeW rfl rfl rfl rfl rfl rfl | exact S_storeWe rfl rfl rfl HK rfl rfl rfl | exact S_storeP rfl rfl rfl rfl rfl (Nat.le_of_ble_eq_true rfl) | exact S_storeLW rfl rfl rfl rfl rfl rfl rfl | exact S_storeW rfl rfl rfl (Plan.cells_one _) (Plan.cells_len _) rfl) ?_
      refine qMv .none ?_
      refine Pend ?_
      refine PW_ret ⟨.inr rfl, ?_⟩
      rw [if_neg (of_decide_eq_false h2)]
      exact ret_G (.cons (.frz (.gnd rfl rfl (Plan.cells_len _)) (.g _)) (.cons (.raw (.tmp rfl) rfl) .nil)) rfl trivial rfl rfl
/- spec.BestPlan: 25, 26 -> [34, 4] -/
set_option maxRecDepth 100000 in
theorem ctr_s_bestO (k : Work) (hk : k.panes.length ≤ 100000) (vs : List Int) (hl : vs.length ≤ 100000) : CtrG P 59 27 [.c (.g (.agg k.cells)), .c (.g (.sl (vs.map encI)))] [] (planPV (bestO k vs)) [] := by
  obtain ⟨w, h, ps⟩ := k
  refine ctr_ofG (fn := Go.Proofs.Try.f59) (by kernel_rfl) rfl rfl rfl ?_
  rintro ⟨n, w0, F0, M, pin⟩ hn
  cases hn
  refine PW_seq ?_
  -- region 0
  refine PW_region ?_
  refine qBx .none ?_
  refine qBx .none ?_
  refine qMv .none ?_
  refine Pend ?_
  refine PW_seq ?_
  refine PW_seq ?_
  -- region 1
  refine PW_region ?_
  refine qLd .none ?_
  refine qMv .none ?_
  refine P00 .none (S_call (.one rfl (.one rfl .nil)) rfl (ctr_s_validValues ⟨w, h, ps⟩ hk vs hl) (.inl rfl) rfl) ?_
  refine qCm .none ?_
  refine Pend ?_
  refine PW_cond rfl (fun h1 => ?_) (fun h1 => ?_)
  · -- t10
    refine PW_seq ?_
    -- region 2
    refine PW_region ?_
    refine P10 .none (S_build (gs := [_, _, _, _, _]) (.nil _) rfl rfl) ?_
    refine P01 .none (by first | exact S_storeW rfl rfl rfl rfl rfl rfl | exact S_storeWe rfl rfl rfl HK rfl rfl rfl | exact S_storeP rfl rfl rfl rfl rfl (Nat.le_of_ble_eq_true rfl) | exact S_storeLW rfl rfl rfl rfl rfl rfl rfl | exact S_storeW rfl rfl rfl (Plan.cells_one _) (Plan.cells_len _) rfl) ?_
    refine qMv .none ?_
    refine Pend ?_
    refine PW_ret ⟨.inr rfl, ?_⟩
    rw [show bestO ⟨w, h, ps⟩ vs = none by unfold bestO; rw [if_neg (by simpa using h1)]]
    exact ret_G (.cons (.frz (.gnd rfl rfl rfl) (.up waste_up)) (.cons (.raw (.tmp rfl) rfl) .nil)) rfl trivial rfl rfl
  · -- not t10
    refine PW_skip ?_
    refine PW_seq ?_
    have ht : told ⟨w, h, ps⟩ vs = true := by simpa using h1
    obtain ⟨hkv, a1, a2, a3, a4, a5, a6, a7⟩ := told_in ht
    dsimp only at a1 a2 a3 a4 a5 a6
    obtain ⟨W, rfl⟩ : ∃ W : Nat, w = W := ⟨w.toNat, by omega⟩
    obtain ⟨H, rfl⟩ : ∃ H : Nat, h = H := ⟨h.toNat, by omega⟩
    have hv : ∀ v ∈ vs, v ≤ 1000 := fun v hv => (a7 v hv).2
    have hvt := ctr_s_valueTable W H ps hk vs hl hv (by omega) (by omega)
    have hbp := ctr_s_bestPlan W H ps hk vs hl hv (by omega) (by omega) (W + H) W H (by omega) (by omega) (by omega) (by omega) (by omega)
    have hb : bestO ⟨(W : Int), (H : Int), ps⟩ vs = if planSize (bestT ⟨(W : Int), (H : Int), ps⟩ vs (W + H) W H).plan < 0 then none else some (bestT ⟨(W : Int), (H : Int), ps⟩ vs (W + H) W H) := by unfold bestO; rw [if_pos ht]; simp only [Int.toNat_natCast]
    rw [hb]
    generalize bestT ⟨(W : Int), (H : Int), ps⟩ vs (W + H) W H = B at *
    generalize val ⟨(W : Int), (H : Int), ps⟩ vs = V at *
    --region 3
    refine PW_draw (by kernel_rfl) ?_
    refine qLd .none ?_
    refine qMv .none ?_
    refine qLd .none ?_
    refine qMv .none ?_
    refine P00 .none (S_callG [] [] false hvt (.g rfl (.g rfl .nil)) trivial rfl (.inl rfl) rfl) ?_
    refine qFd .none ?_
    refine qLd .none ?_
    refine qFd .none ?_
    refine qLd .none ?_
    refine P00 .none (S_callG [] [] false hbp (.g rfl (.g rfl (.g rfl (.g rfl (.g rfl .nil))))) trivial rfl (.inl rfl) rfl) ?_
    refine qBx .none ?_
    refine P01 .none (by first | exact S_storeW rfl rfl rfl rfl rfl rfl | exact S_storeWe rfl rfl rfl HK rfl rfl rfl | exact S_storeP rfl rfl rfl rfl rfl (Nat.le_of_ble_eq_true rfl) | exact S_storeLW rfl rfl rfl rfl rfl rfl rfl | exact S_storeW rfl rfl rfl (Plan.cells_one _) (Plan.cells_len _) rfl) ?_
    refine Pend ⟨by kernel_rfl, ?_⟩
    refine PW_seq ?_
    refine PW_seq ?_
    -- region 4
    refine PW_region ?_
    refine P10 .none (by first | exact S_loadOW rfl rfl rfl rfl rfl | exact S_loadRW rfl rfl rfl | exact S_loadLA rfl rfl rfl (Nat.le_of_ble_eq_true rfl) rfl | exact S_loadOA rfl rfl rfl (Nat.le_of_ble_eq_true rfl) rfl | exact S_loadRA rfl (Nat.le_of_ble_eq_true rfl) rfl | exact S_loadRW rfl (Plan.cells_len _) rfl | exact S_loadOW rfl rfl rfl (Plan.cells_len _) rfl) ?_
    refine P00 .none (S_call (.one rfl .nil) rfl (ctr_s_planSize B.plan) (.inl rfl) rfl) ?_
    refine qCm .none ?_
    refine Pend ?_
    refine PW_cond rfl (fun h2 => ?_) (fun h2 => ?_)
    · -- t24
      refine PW_seq ?_
      -- region 5
      refine PW_region ?_
      refine P10 .none (S_build (gs := [_, _, _, _, _]) (.nil _) rfl rfl) ?_
      refine P01 .none (by first | exact S_storeW rfl rfl rfl rfl rfl rfl | exact S_storeWe rfl rfl rfl HK rfl rfl rfl | exact S_storeP rfl rfl rfl rfl rfl (Nat.le_of_ble_eq_true rfl) | exact S_storeLW rfl rfl rfl rfl rfl rfl rfl | exact S_storeW rfl rfl rfl (Plan.cells_one _) (Plan.cells_len _) rfl) ?_
      refine qMv .none ?_
      refine Pend ?_
      refine PW_ret ⟨.inr rfl, ?_⟩
      rw [if_pos (of_decide_eq_true h2)]
      exact ret_G (.cons (.frz (.gnd rfl rfl rfl) (.up waste_up)) (.cons (.raw (.tmp rfl) rfl) .nil)) rfl trivial rfl rfl
    · -- not t24
      refine PW_skip ?_
      refine PW_seq ?_
      -- region 6
      refine PW_region ?_
      refine P10 .none (by first | exact S_loadOW rfl rfl rfl rfl rfl | exact S_loadRW rfl rfl rfl | exact S_loadLA rfl rfl rfl (Nat.le_of_ble_eq_true rfl) rfl | exact S_loadOA rfl rfl rfl (Nat.le_of_ble_eq_true rfl) rfl | exact S_loadRA rfl (Nat.le_of_ble_eq_true rfl) rfl | exact S_loadRW rfl (Plan.cells_len _) rfl | exact S_loadOW rfl rfl rfl (Plan.cells_len _) rfl) ?_
      refine P01 .none (by first | exact S_storeW rfl rfl rfl rfl rfl rfl | exact S_storeWe rfl rfl rfl HK rfl rfl rfl | exact S_storeP rfl rfl rfl rfl rfl (Nat.le_of_ble_eq_true rfl) | exact S_storeLW rfl rfl rfl rfl rfl rfl rfl | exact S_storeW rfl rfl rfl (Plan.cells_one _) (Plan.cells_len _) rfl) ?_
      refine qMv .none ?_
      refine Pend ?_
      refine PW_ret ⟨.inr rfl, ?_⟩
      rw [if_neg (of_decide_eq_false h2)]
      exact ret_G (.cons (.frz (.gnd rfl rfl (Plan.cells_len _)) (.g _)) (.cons (.raw (.tmp rfl) rfl) .nil)) rfl trivial rfl rfl
end Go.Proofs.Ytdmlfhmnlddooaa
namespace Go.Proofs.Ytdmlfhmnlddooaa
open Go Go.Pu

def numsOf (t : T) : List Int := t.cuts.map (·.1)
def highV : List Int → Int → Int
  | [], m => m
  | x :: r, m => highV r (max m x)
def aboveN (ks : List (Int × Int)) (s : Int) : Int := ((ks.countP fun k => decide (k.2 = s) : Nat) : Int)
/-- How many pieces wait before every step. -/
def waitF (ks : List (Int × Int)) : List Int → Int → List Int → List Int
  | [], _, out => out
  | s :: r, w, out => waitF ks r (w - 1 + aboveN ks s) (out ++ [w])
theorem aboveN_next {ks : List (Int × Int)} {s : Int} {j : Nat} {x : Int × Int} (hx : ks[j]? = some x) : (((ks.take (j + 1)).countP fun k => decide (k.2 = s) : Nat) : Int) = ((ks.take j).countP (fun k => decide (k.2 = s)) : Nat) + (if decide (x.2 = s) = true then 1 else 0) := by
  rw [List.take_add_one, hx, List.countP_append]
  cases h : decide (x.2 = s) <;> simp [h]

/- impl.NumbersOf: 34 -> [26] -/
set_option maxRecDepth 100000 in
theorem ctr_i_NumbersOf (t : T) (h : t.size ≤ 255) : Ctr P 61 [.g (.agg t.plan.cells)] (.g (.sl ((numsOf t).map encI))) := by
  have hcl := (T.cuts_ok h).1
  have hkl : (t.cuts.map encK).length = t.cuts.length := List.length_map _
  refine ctr_of (fn := Go.Proofs.Try.f61) (by kernel_rfl) rfl rfl ?_
  rintro ⟨n, w0, F0, M, pin⟩ hn
  cases hn
  refine PW_seq ?_
  -- region 0
  refine PW_region ?_
  refine P22 .none (by first | exact S_boxA rfl rfl rfl rfl | exact S_boxL rfl rfl rfl rfl rfl | exact S_boxA rfl (Plan.cells_len _) (Plan.cells_one _) rfl) ?_
  refine qMv .none ?_
  refine Pend ?_
  refine PW_seq ?_
  -- region 1
  refine PW_region ?_
  refine P10 .none (by first | exact S_loadOW rfl rfl rfl rfl rfl | exact S_loadRW rfl rfl rfl | exact S_loadLA rfl rfl rfl (Nat.le_of_ble_eq_true rfl) rfl | exact S_loadOA rfl rfl rfl (Nat.le_of_ble_eq_true rfl) rfl | exact S_loadRA rfl (Nat.le_of_ble_eq_true rfl) rfl | exact S_loadRW rfl (Plan.cells_len _) rfl | exact S_loadOW rfl rfl rfl (Plan.cells_len _) rfl) ?_
  refine P00 .none (S_call (.one rfl .nil) rfl (ctr_i_knotsOf t h) (.inl rfl) rfl) ?_
  refine qMv .none ?_
  refine qEx1 .none ?_
  refine qEx1 .none ?_
  refine qMv .none ?_
  refine qMv .none ?_
  refine Pend ?_
  refine PW_seq ?_
  -- region 2
  refine PW_region ?_
  refine qMv .none ?_
  refine Pend ?_
  refine PW_seq ?_
  refine PW_seq ?_
  refine PW_nil 5 5 3 rfl rfl ?_
  --region 3
  refine PW_region ?_
  refine qMv .none ?_
  refine qLn .none ?_
  refine qMv .none ?_
  refine Pend ?_
  refine PW_block ?_
  refine PW_iter (ι := Nat) (fun i => [(3, .c (.g (.sl (t.cuts.map encK)))), (5, .c (.osl 5 0 ((t.cuts.take i).map fun k => encI k.1).length)), (13, .c (.g (.sl (t.cuts.map encK)))), (14, .c (.g (.int .i64 (t.cuts.map encK).length))), (15, .c (.g (.int .i64 (i : Nat))))]) (fun i => [(5, ⟨3, 0, .gnd ((t.cuts.take i).map fun k => encI k.1)⟩)]) (fun i => i ≤ t.cuts.length) (fun i => t.cuts.length - i) 0 (Nat.zero_le _) (by repeat (first | exact trivial | refine And.intro rfl ?_)) (by repeat (first | exact trivial | refine And.intro rfl ?_)) (fun i hi => ?_)
  refine PW_seq ?_
  -- region 4
  refine PW_region ?_
  refine qCm .none ?_
  refine Pend ?_
  refine PW_seq ?_
  refine PW_cond rfl (fun h1 => ?_) (fun h1 => ?_)
  · -- t16
    refine PW_skip ?_
    refine PW_seq ?_
    refine PW_block ?_
    refine PW_seq ?_
    obtain ⟨x, hx⟩ := at_lt h1
    have hlt := (List.getElem?_eq_some_iff.1 hx).1
    have hnx := map_next (f := fun k : Int × Int => encI k.1) hx
    have htl : (t.cuts.take i).length = i := by rw [List.length_take]; omega
    --region 5
    refine PW_region ?_
    refine P10 .none (by first | exact S_indexR rfl rfl rfl (map_at hx) rfl rfl | exact S_indexO rfl rfl rfl rfl rfl (map_at hx) rfl) ?_
    refine qLd .none ?_
    refine qBx .none ?_
    refine qSr .none ?_
    refine Pend ?_
    -- region 6
    refine PW_region ?_
    refine qMv .none ?_
    refine qFd .none ?_
    refine qLd .none ?_
    refine P22 .none (S_lit (.one rfl rfl rfl (.nil _)) rfl rfl rfl) ?_
    refine P22 .none (S_appW rfl rfl rfl rfl (.ownW rfl rfl rfl) (fun l hl => by simp only [List.mem_singleton] at hl; subst hl; rfl) rfl (by omega) (by simp; omega) rfl) ?_
    refine qMv .none ?_
    refine Pend ?_
    -- region 7
    refine PW_region ?_
    refine qAd .none ?_
    refine qMv .none ?_
    refine Pend ?_
    exact ⟨i + 1, by omega, (by show i + 1 ≤ _; omega), (by rw [hnx, List.length_append]; repeat (first | exact trivial | refine And.intro rfl ?_)), (by rw [hnx]; repeat (first | exact trivial | refine And.intro rfl ?_))⟩
  · -- not t16
    refine PW_exit ?_
    refine PW_seq ?_
    have hall : t.cuts.take i = t.cuts := List.take_of_length_le (by have := of_decide_eq_false h1; omega)
    rw [hall]
    --region 8
    refine PW_region ?_
    refine qMv .none ?_
    refine qMv .none ?_
    refine Pend ?_
    refine PW_ret ⟨.inr rfl, ?_⟩
    exact ret_g (.cons (.tmp rfl) (.c (by first | exact .nil | exact .g _ | exact Ex.whole rfl rfl rfl)) .nil) (by show GV.sl _ = GV.sl _; unfold numsOf; rw [List.map_map]; rfl) trivial
/- laws.highest: 26 -> [3] -/
set_option maxRecDepth 100000 in
theorem ctr_l_highest (l : List Int) (hl : l.length ≤ 100000000) : Ctr P 62 [.g (.sl (l.map encI))] (.g (.int .i64 (highV l 0))) := by
  have hll : (l.map encI).length = l.length := List.length_map _
  generalize hV : highV l 0 = V
  refine ctr_of (fn := Go.Proofs.Try.f62) (by kernel_rfl) rfl rfl ?_
  rintro ⟨n, w0, F0, M, pin⟩ hn
  cases hn
  refine PW_seq ?_
  -- region 0
  refine PW_region ?_
  refine qMv .none ?_
  refine Pend ?_
  refine PW_seq ?_
  -- region 1
  refine PW_region ?_
  refine qMv .none ?_
  refine Pend ?_
  refine PW_seq ?_
  refine PW_seq ?_
  -- region 2
  refine PW_region ?_
  refine qMv .none ?_
  refine Pend ?_
  refine PW_block ?_
  refine PW_iter (ι := Nat × Int) (fun u => [(0, .c (.g (.sl (l.map encI)))), (3, .c (.g (.int .i64 u.2))), (4, .c (.g (.int .i64 (u.1 : Nat))))]) (fun u => []) (fun u => u.1 ≤ l.length ∧ highV (l.drop u.1) u.2 = V) (fun u => l.length - u.1) (0, 0) ⟨Nat.zero_le _, hV⟩ (by repeat (first | exact trivial | refine And.intro rfl ?_)) (by repeat (first | exact trivial | refine And.intro rfl ?_)) (fun u hu => ?_)
  refine PW_seq ?_
  refine PW_seq ?_
  -- region 3
  refine PW_region ?_
  refine qMv .none ?_
  refine qMv .none ?_
  refine qLn .none ?_
  refine qCm .none ?_
  refine Pend ?_
  refine PW_cond rfl (fun h1 => ?_) (fun h1 => ?_)
  · -- t8
    refine PW_skip ?_
    refine PW_seq ?_
    refine PW_block ?_
    obtain ⟨i, m⟩ := u
    obtain ⟨x, hx⟩ := at_lt h1
    have hlt := (List.getElem?_eq_some_iff.1 hx).1
    dsimp only at hu hlt hx ⊢
    obtain ⟨hu1, hu2⟩ := hu
    rw [List.drop_eq_getElem_cons hlt, (List.getElem?_eq_some_iff.1 hx).2] at hu2
    simp only [highV] at hu2
    --region 5
    refine PW_region ?_
    refine qMv .none ?_
    refine qMv .none ?_
    refine qMv .none ?_
    refine P10 .none (by first | exact S_indexR rfl rfl rfl (map_at hx) rfl rfl | exact S_indexO rfl rfl rfl rfl rfl (map_at hx) rfl) ?_
    refine qLd .none ?_
    refine qCm .none ?_
    refine qMv .none ?_
    refine Pend ?_
    -- region 4
    refine PW_region ?_
    refine qMv .none ?_
    refine qAd .none ?_
    refine qMv .none ?_
    refine Pend ?_
    exact ⟨(i + 1, max m x), by dsimp only; omega, ⟨by dsimp only; omega, hu2⟩, (by repeat (first | exact trivial | refine And.intro rfl ?_)), (by repeat (first | exact trivial | refine And.intro rfl ?_))⟩
  · -- not t8
    refine PW_exit ?_
    refine PW_seq ?_
    obtain ⟨i, m⟩ := u
    dsimp only at hu ⊢
    obtain ⟨hu1, hu2⟩ := hu
    obtain rfl : i = l.length := by have := of_decide_eq_false h1; omega
    rw [List.drop_length] at hu2
    simp only [highV] at hu2
    subst hu2
    --region 6
    refine PW_region ?_
    refine qMv .none ?_
    refine qMv .none ?_
    refine Pend ?_
    refine PW_ret ⟨.inr rfl, ?_⟩
    exact ret_g (.cons (.tmp rfl) (.c (by first | exact .nil | exact .g _ | exact Ex.whole rfl rfl rfl)) .nil) rfl trivial
/- impl.LeastTable: 34 -> [3] -/
set_option maxRecDepth 100000 in
theorem ctr_i_LeastTable (t : T) (h : t.size ≤ 255) : Ctr P 64 [.g (.agg t.plan.cells)] (.g (.int .i64 t.table)) := by
  have hps := ctr_i_PlanSize t.plan
  rw [planSize_T h] at hps
  refine ctr_of (fn := Go.Proofs.Try.f64) (by kernel_rfl) rfl rfl ?_
  rintro ⟨n, w0, F0, M, pin⟩ hn
  cases hn
  refine PW_seq ?_
  -- region 0
  refine PW_region ?_
  refine P22 .none (by first | exact S_boxA rfl rfl rfl rfl | exact S_boxL rfl rfl rfl rfl rfl | exact S_boxA rfl (Plan.cells_len _) (Plan.cells_one _) rfl) ?_
  refine qMv .none ?_
  refine Pend ?_
  refine PW_seq ?_
  refine PW_seq ?_
  -- region 1
  refine PW_region ?_
  refine P10 .none (by first | exact S_loadOW rfl rfl rfl rfl rfl | exact S_loadRW rfl rfl rfl | exact S_loadLA rfl rfl rfl (Nat.le_of_ble_eq_true rfl) rfl | exact S_loadOA rfl rfl rfl (Nat.le_of_ble_eq_true rfl) rfl | exact S_loadRA rfl (Nat.le_of_ble_eq_true rfl) rfl | exact S_loadRW rfl (Plan.cells_len _) rfl | exact S_loadOW rfl rfl rfl (Plan.cells_len _) rfl) ?_
  refine P00 .none (S_call (.one rfl .nil) rfl hps (.inl rfl) rfl) ?_
  refine qCm .none ?_
  refine Pend ?_
  refine PW_cond rfl (fun h1 => ?_) (fun h1 => ?_)
  · -- t5
    have := of_decide_eq_true h1; omega
  · -- not t5
    refine PW_skip ?_
    refine PW_seq ?_
    -- region 3
    refine PW_region ?_
    refine P10 .none (by first | exact S_loadOW rfl rfl rfl rfl rfl | exact S_loadRW rfl rfl rfl | exact S_loadLA rfl rfl rfl (Nat.le_of_ble_eq_true rfl) rfl | exact S_loadOA rfl rfl rfl (Nat.le_of_ble_eq_true rfl) rfl | exact S_loadRA rfl (Nat.le_of_ble_eq_true rfl) rfl | exact S_loadRW rfl (Plan.cells_len _) rfl | exact S_loadOW rfl rfl rfl (Plan.cells_len _) rfl) ?_
    refine P00 .none (S_call (.one rfl .nil) rfl (ctr_i_tableFor t (by omega)) (.inl rfl) rfl) ?_
    refine qMv .none ?_
    refine Pend ?_
    refine PW_ret ⟨.inr rfl, ?_⟩
    exact ret_g (.cons (.tmp rfl) (.c (by first | exact .nil | exact .g _ | exact Ex.whole rfl rfl rfl)) .nil) rfl trivial
/- impl.WaitingOf: 34, 26 -> [26] -/
set_option maxRecDepth 100000 in
theorem ctr_i_WaitingOf (t : T) (h : t.size ≤ 255) (st : List Int) (hl : st.length ≤ 1000) (hok : (decide (st.length = t.cuts.length) && begins t.cuts st) = true) : Ctr P 63 [.g (.agg t.plan.cells), .g (.sl (st.map encI))] (.g (.sl ((waitF t.cuts st 1 []).map encI))) := by
  have hcl := (T.cuts_ok h).1
  have hkl : (t.cuts.map encK).length = t.cuts.length := List.length_map _
  have hsl : (st.map encI).length = st.length := List.length_map _
  have hvs := ctr_i_ValidSteps t h st (by omega)
  rw [hok] at hvs
  generalize hV : waitF t.cuts st 1 [] = V
  refine ctr_of (fn := Go.Proofs.Try.f63) (by kernel_rfl) rfl rfl ?_
  rintro ⟨n, w0, F0, M, pin⟩ hn
  cases hn
  refine PW_seq ?_
  -- region 0
  refine PW_region ?_
  refine P22 .none (by first | exact S_boxA rfl rfl rfl rfl | exact S_boxL rfl rfl rfl rfl rfl | exact S_boxA rfl (Plan.cells_len _) (Plan.cells_one _) rfl) ?_
  refine qMv .none ?_
  refine Pend ?_
  refine PW_seq ?_
  refine PW_seq ?_
  -- region 1
  refine PW_region ?_
  refine P10 .none (by first | exact S_loadOW rfl rfl rfl rfl rfl | exact S_loadRW rfl rfl rfl | exact S_loadLA rfl rfl rfl (Nat.le_of_ble_eq_true rfl) rfl | exact S_loadOA rfl rfl rfl (Nat.le_of_ble_eq_true rfl) rfl | exact S_loadRA rfl (Nat.le_of_ble_eq_true rfl) rfl | exact S_loadRW rfl (Plan.cells_len _) rfl | exact S_loadOW rfl rfl rfl (Plan.cells_len _) rfl) ?_
  refine qMv .none ?_
  refine P00 .none (S_call (.one rfl (.one rfl .nil)) rfl hvs (.inl rfl) rfl) ?_
  refine qCm .none ?_
  refine Pend ?_
  refine PW_cond rfl (fun h1 => ?_) (fun h1 => ?_)
  · -- t16
    cases h1
  · -- not t16
    refine PW_skip ?_
    refine PW_seq ?_
    -- region 3
    refine PW_region ?_
    refine P10 .none (by first | exact S_loadOW rfl rfl rfl rfl rfl | exact S_loadRW rfl rfl rfl | exact S_loadLA rfl rfl rfl (Nat.le_of_ble_eq_true rfl) rfl | exact S_loadOA rfl rfl rfl (Nat.le_of_ble_eq_true rfl) rfl | exact S_loadRA rfl (Nat.le_of_ble_eq_true rfl) rfl | exact S_loadRW rfl (Plan.cells_len _) rfl | exact S_loadOW rfl rfl rfl (Plan.cells_len _) rfl) ?_
    refine P00 .none (S_call (.one rfl .nil) rfl (ctr_i_knotsOf t h) (.inl rfl) rfl) ?_
    refine qMv .none ?_
    refine qEx1 .none ?_
    refine qEx1 .none ?_
    refine qMv .none ?_
    refine qMv .none ?_
    refine Pend ?_
    refine PW_seq ?_
    -- region 4
    refine PW_region ?_
    refine qMv .none ?_
    refine Pend ?_
    refine PW_seq ?_
    refine PW_nil 7 7 3 rfl rfl ?_
    --region 5
    refine PW_region ?_
    refine qMv .none ?_
    refine Pend ?_
    refine PW_seq ?_
    refine PW_seq ?_
    -- region 6
    refine PW_region ?_
    refine qMv .none ?_
    refine qLn .none ?_
    refine qMv .none ?_
    refine Pend ?_
    refine PW_block ?_
    refine PW_iter (ι := Nat × Int × List Int) (fun u => [(1, .c (.g (.sl (st.map encI)))), (2, .c (.optr 2 0 0)), (4, .c (.g .nil)), (5, .c (.g (.sl (t.cuts.map encK)))), (22, .c (.g (.sl (st.map encI)))), (23, .c (.g (.int .i64 (st.map encI).length))), (7, .c (.osl 7 0 (u.2.2.map encI).length)), (8, .c (.g (.int .i64 u.2.1))), (24, .c (.g (.int .i64 (u.1 : Nat))))]) (fun u => [(2, ⟨34, 0, .gnd [t.plan.cells]⟩), (7, ⟨3, 0, .gnd (u.2.2.map encI)⟩)]) (fun u => u.1 ≤ st.length ∧ waitF t.cuts (st.drop u.1) u.2.1 u.2.2 = V ∧ u.2.2.length = u.1 ∧ -(u.1 : Int) ≤ u.2.1 ∧ u.2.1 ≤ 1 + 255 * (u.1 : Int)) (fun u => st.length - u.1) (0, 1, []) ⟨Nat.zero_le _, hV, rfl, by decide, by decide⟩ (by repeat (first | exact trivial | refine And.intro rfl ?_)) (by repeat (first | exact trivial | refine And.intro rfl ?_)) (fun u hu => ?_)
    refine PW_seq ?_
    -- region 7
    refine PW_region ?_
    refine qCm .none ?_
    refine Pend ?_
    refine PW_seq ?_
    refine PW_cond rfl (fun h2 => ?_) (fun h2 => ?_)
    · -- t25
      refine PW_skip ?_
      refine PW_seq ?_
      refine PW_block ?_
      refine PW_seq ?_
      obtain ⟨i, w, out⟩ := u
      obtain ⟨x, hx⟩ := at_lt h2
      have hlt := (List.getElem?_eq_some_iff.1 hx).1
      dsimp only at hu hlt hx ⊢
      obtain ⟨hu1, hu2, hu3, hu4, hu5⟩ := hu
      rw [List.drop_eq_getElem_cons hlt, (List.getElem?_eq_some_iff.1 hx).2] at hu2
      simp only [waitF] at hu2
      have hol : (out.map encI).length = out.length := List.length_map _
      --region 8
      refine PW_region ?_
      refine P10 .none (by first | exact S_indexR rfl rfl rfl (map_at hx) rfl rfl | exact S_indexO rfl rfl rfl rfl rfl (map_at hx) rfl) ?_
      refine qLd .none ?_
      refine qMv .none ?_
      refine Pend ?_
      refine PW_seq ?_
      -- region 9
      refine PW_region ?_
      refine qMv .none ?_
      refine qMv .none ?_
      refine P22 .none (S_lit (.one rfl rfl rfl (.nil _)) rfl rfl rfl) ?_
      refine P22 .none (S_appW rfl rfl rfl rfl (.ownW rfl rfl rfl) (fun l hl => by simp only [List.mem_singleton] at hl; subst hl; rfl) rfl (by omega) (by simp; omega) rfl) ?_
      refine qMv .none ?_
      refine Pend ?_
      refine PW_seq ?_
      -- region 10
      refine PW_region ?_
      refine qMv .none ?_
      refine qSb .none ?_
      refine qMv .none ?_
      refine Pend ?_
      refine PW_seq ?_
      -- region 11
      refine PW_region ?_
      refine qMv .none ?_
      refine qLn .none ?_
      refine qMv .none ?_
      refine Pend ?_
      refine PW_block ?_
      refine PW_iter (ι := Nat) (fun j => [(1, .c (.g (.sl (st.map encI)))), (2, .c (.optr 2 0 0)), (4, .c (.g .nil)), (5, .c (.g (.sl (t.cuts.map encK)))), (22, .c (.g (.sl (st.map encI)))), (23, .c (.g (.int .i64 (st.map encI).length))), (7, .c (.osl 7 0 ((out ++ [w]).map encI).length)), (8, .c (.g (.int .i64 (w - 1 + ((t.cuts.take j).countP (fun k => decide (k.2 = x)) : Nat))))), (10, .c (.g (.int .i64 x))), (24, .c (.g (.int .i64 (i : Nat)))), (34, .c (.g (.sl (t.cuts.map encK)))), (35, .c (.g (.int .i64 (t.cuts.map encK).length))), (36, .c (.g (.int .i64 (j : Nat))))]) (fun j => [(2, ⟨34, 0, .gnd [t.plan.cells]⟩), (7, ⟨3, 0, .gnd ((out ++ [w]).map encI)⟩)]) (fun j => j ≤ t.cuts.length) (fun j => t.cuts.length - j) 0 (Nat.zero_le _) (by rw [show w - 1 + (((t.cuts.take 0).countP (fun k => decide (k.2 = x)) : Nat) : Int) = w - 1 by simp, List.map_append, List.length_append]; repeat (first | exact trivial | refine And.intro rfl ?_)) (by rw [List.map_append]; repeat (first | exact trivial | refine And.intro rfl ?_)) (fun j hj => ?_)
      refine PW_seq ?_
      -- region 12
      refine PW_region ?_
      refine qCm .none ?_
      refine Pend ?_
      refine PW_seq ?_
      refine PW_cond rfl (fun h3 => ?_) (fun h3 => ?_)
      · -- t37
        refine PW_skip ?_
        refine PW_seq ?_
        refine PW_block ?_
        refine PW_seq ?_
        obtain ⟨y, hy⟩ := at_lt h3
        have hylt := (List.getElem?_eq_some_iff.1 hy).1
        have hnx := aboveN_next (s := x) hy
        have hcb : (t.cuts.take j).countP (fun k => decide (k.2 = x)) ≤ j := Nat.le_trans List.countP_le_length (by rw [List.length_take]; omega)
        --region 13
        refine PW_region ?_
        refine P10 .none (by first | exact S_indexR rfl rfl rfl (map_at hy) rfl rfl | exact S_indexO rfl rfl rfl rfl rfl (map_at hy) rfl) ?_
        refine qLd .none ?_
        refine qBx .none ?_
        refine qSr .none ?_
        refine Pend ?_
        refine PW_seq ?_
        -- region 14
        refine PW_region ?_
        refine qFd .none ?_
        refine qLd .none ?_
        refine qMv .none ?_
        refine qCm .none ?_
        refine Pend ?_
        refine PW_cond rfl (fun h4 => ?_) (fun h4 => ?_)
        · -- t43
          -- region 15
          refine PW_region ?_
          refine qMv .none ?_
          refine qAd .none ?_
          refine qMv .none ?_
          refine Pend ?_
          -- region 16
          refine PW_region ?_
          refine qAd .none ?_
          refine qMv .none ?_
          refine Pend ?_
          rw [if_pos h4] at hnx
          exact ⟨j + 1, by omega, (by show j + 1 ≤ _; omega), (by rw [hnx, ← Int.add_assoc]; repeat (first | exact trivial | refine And.intro rfl ?_)), (by repeat (first | exact trivial | refine And.intro rfl ?_))⟩
        · -- not t43
          refine PW_skip ?_
          -- region 16
          refine PW_region ?_
          refine qAd .none ?_
          refine qMv .none ?_
          refine Pend ?_
          rw [if_neg (by rw [show decide (y.2 = x) = false from h4]; simp), Int.add_zero] at hnx
          exact ⟨j + 1, by omega, (by show j + 1 ≤ _; omega), (by rw [hnx]; repeat (first | exact trivial | refine And.intro rfl ?_)), (by repeat (first | exact trivial | refine And.intro rfl ?_))⟩
      · -- not t37
        refine PW_exit ?_
        have hall : t.cuts.take j = t.cuts := List.take_of_length_le (by have := of_decide_eq_false h3; omega)
        have hcb : t.cuts.countP (fun k => decide (k.2 = x)) ≤ 255 := Nat.le_trans List.countP_le_length hcl
        rw [hall]
        --region 17
        refine PW_region ?_
        refine qAd .none ?_
        refine qMv .none ?_
        refine Pend ?_
        exact ⟨(i + 1, w - 1 + aboveN t.cuts x, out ++ [w]), by dsimp only; omega, ⟨by dsimp only; omega, hu2, by simp [hu3], by dsimp only; unfold aboveN; omega, by dsimp only; unfold aboveN; omega⟩, (by repeat (first | exact trivial | refine And.intro rfl ?_)), (by repeat (first | exact trivial | refine And.intro rfl ?_))⟩
    · -- not t25
      refine PW_exit ?_
      refine PW_seq ?_
      obtain ⟨i, w, out⟩ := u
      dsimp only at hu ⊢
      obtain ⟨hu1, hu2, hu3, hu4, hu5⟩ := hu
      obtain rfl : i = st.length := by have := of_decide_eq_false h2; omega
      rw [List.drop_length] at hu2
      simp only [waitF] at hu2
      subst hu2
      --region 18
      refine PW_region ?_
      refine qMv .none ?_
      refine qMv .none ?_
      refine Pend ?_
      refine PW_ret ⟨.inr rfl, ?_⟩
      exact ret_g (.cons (.tmp rfl) (.c (by first | exact .nil | exact .g _ | exact Ex.whole rfl rfl rfl)) .nil) rfl trivial
end Go.Proofs.Ytdmlfhmnlddooaa
namespace Go.Proofs.Ytdmlfhmnlddooaa
open Go Go.Pu

def placesT (k : Work) (t : T) : List Place := (t.parts (sheet k)).filterMap placeOf
def sumP (vs : List Int) : List Place → Int → Int
  | [], s => s
  | p :: r, s => sumP vs r (s + vs.getD p.pane.toNat 0)
theorem places_fill {k : Work} : ∀ (t : T) (b : Box), t.fits k b = true → ∀ p ∈ (t.parts b).filterMap placeOf, paneFills k p.pane p.turned p.box.w p.box.h = true := by
  intro t
  induction t with
  | waste => intro b _ p hp; simp [T.parts, placeOf] at hp
  | pane n tu =>
    intro b h p hp
    simp [T.parts, placeOf] at hp
    subst hp
    exact h
  | cut d a p q ihp ihq =>
    intro b h x hx
    simp only [T.fits, Bool.and_eq_true] at h
    simp only [T.parts, List.filterMap_cons, placeOf, List.filterMap_append, List.mem_append] at hx
    rcases hx with hx | hx
    · exact ihp _ h.1.2 x hx
    · exact ihq _ h.2 x hx
theorem paneFills_in {k : Work} {i : Int} {tu : Bool} {w h : Int} (hf : paneFills k i tu w h = true) : 0 ≤ i ∧ i.toNat < k.panes.length := by
  unfold paneFills at hf
  split at hf
  · cases hf
  · rename_i h0
    cases hx : k.panes[i.toNat]? with
    | none => rw [hx] at hf; cases hf
    | some p => exact ⟨by omega, (List.getElem?_eq_some_iff.1 hx).1⟩
theorem placesT_len {k : Work} {t : T} (hv : VP k t) : (placesT k t).length ≤ 255 := by
  have h1 := List.length_filterMap_le placeOf (t.parts (sheet k))
  have h2 := T.parts_len t (sheet k)
  have h3 := hv.2.1
  unfold placesT
  omega
theorem okV_iff {v : Int} : okV v = true ↔ 1 ≤ v ∧ v ≤ 1000 := by simp [okV]

/- impl.PlanValue: 25, 34, 26 -> [3] -/
set_option maxRecDepth 100000 in
theorem ctr_i_PlanValue (k : Work) (t : T) (hv : VP k t) (vs : List Int) (hvl : vs.length = k.panes.length) (hvs : ∀ v ∈ vs, 1 ≤ v ∧ v ≤ 1000) : Ctr P 13 [.g (.agg k.cells), .g (.agg t.plan.cells), .g (.sl (vs.map encI))] (.g (.int .i64 (sumP vs (placesT k t) 0))) := by
  have hml : (vs.map encI).length = vs.length := List.length_map _
  have hpl : (k.panes.map Pane.cells).length = k.panes.length := List.length_map _
  have hp24 : k.panes.length ≤ 24 := by have := hv.1; simp only [validWork, Bool.and_eq_true, decide_eq_true_eq] at this; omega
  have hvp := ctr_i_ValidPlan k t.plan
  rw [validPlan_VP hv] at hvp
  have hpo := ctr_i_PlacesOf k t hv
  have hfl := places_fill t (sheet k) hv.2.2
  have hpn := placesT_len hv
  change ∀ p ∈ placesT k t, _ at hfl
  change Ctr P 22 _ (.g (.sl ((placesT k t).map Place.cells))) at hpo
  generalize placesT k t = ps at *
  have hqm : (ps.map Place.cells).length = ps.length := List.length_map _
  generalize hV : sumP vs ps 0 = V
  refine ctr_of (fn := Go.Proofs.Try.f13) (by kernel_rfl) rfl rfl ?_
  rintro ⟨n, w0, F0, M, pin⟩ hn
  cases hn
  refine PW_seq ?_
  -- region 0
  refine PW_region ?_
  refine qBx .none ?_
  refine P22 .none (by first | exact S_boxA rfl rfl rfl rfl | exact S_boxL rfl rfl rfl rfl rfl | exact S_boxA rfl (Plan.cells_len _) (Plan.cells_one _) rfl) ?_
  refine qMv .none ?_
  refine Pend ?_
  refine PW_seq ?_
  refine PW_seq ?_
  -- region 1
  refine PW_region ?_
  refine qLd .none ?_
  refine P10 .none (by first | exact S_loadOW rfl rfl rfl rfl rfl | exact S_loadRW rfl rfl rfl | exact S_loadLA rfl rfl rfl (Nat.le_of_ble_eq_true rfl) rfl | exact S_loadOA rfl rfl rfl (Nat.le_of_ble_eq_true rfl) rfl | exact S_loadRA rfl (Nat.le_of_ble_eq_true rfl) rfl | exact S_loadRW rfl (Plan.cells_len _) rfl | exact S_loadOW rfl rfl rfl (Plan.cells_len _) rfl) ?_
  refine P00 .none (S_call (.one rfl (.one rfl .nil)) rfl hvp (.inl rfl) rfl) ?_
  refine qCm .none ?_
  refine qMv .none ?_
  refine Psplit 16 rfl (fun h1 => ?_) (fun h1 => ?_)
  · -- t16 = true
    cases h1
  · -- t16 = false
    refine qMv (.yes rfl rfl h1) ?_
    refine qLn (.yes rfl rfl h1) ?_
    refine qFd (.yes rfl rfl h1) ?_
    refine qLd (.yes rfl rfl h1) ?_
    refine qLn (.yes rfl rfl h1) ?_
    refine qCm (.yes rfl rfl h1) ?_
    refine P10 .none (S_pickF rfl h1 rfl rfl) ?_
    refine Pend ?_
    refine PW_cond rfl (fun h2 => ?_) (fun h2 => ?_)
    · -- t23
      simp [hvl] at h2
    · -- not t23
      refine PW_skip ?_
      refine PW_seq ?_
      refine PW_seq ?_
      -- region 3
      refine PW_region ?_
      refine qMv .none ?_
      refine qLn .none ?_
      refine qMv .none ?_
      refine Pend ?_
      refine PW_block ?_
      refine PW_iter (ι := Nat) (fun i => [(2, .c (.g (.sl (vs.map encI)))), (3, .c (.optr 3 0 0)), (4, .c (.optr 4 0 0)), (24, .c (.g (.sl (vs.map encI)))), (25, .c (.g (.int .i64 (vs.map encI).length))), (26, .c (.g (.int .i64 (i : Nat))))]) (fun i => [(3, ⟨25, 0, .gnd [k.cells]⟩), (4, ⟨34, 0, .gnd [t.plan.cells]⟩)]) (fun i => i ≤ vs.length) (fun i => vs.length - i) 0 (Nat.zero_le _) (by repeat (first | exact trivial | refine And.intro rfl ?_)) (by repeat (first | exact trivial | refine And.intro rfl ?_)) (fun i hi => ?_)
      refine PW_seq ?_
      -- region 4
      refine PW_region ?_
      refine qCm .none ?_
      refine Pend ?_
      refine PW_seq ?_
      refine PW_cond rfl (fun h3 => ?_) (fun h3 => ?_)
      · -- t27
        refine PW_skip ?_
        refine PW_seq ?_
        refine PW_block ?_
        refine PW_seq ?_
        obtain ⟨x, hx⟩ := at_lt h3
        have hlt := (List.getElem?_eq_some_iff.1 hx).1
        have hxv := hvs x (List.mem_of_getElem? hx)
        --region 5
        refine PW_region ?_
        refine P10 .none (by first | exact S_indexR rfl rfl rfl (map_at hx) rfl rfl | exact S_indexO rfl rfl rfl rfl rfl (map_at hx) rfl) ?_
        refine qLd .none ?_
        refine qMv .none ?_
        refine Pend ?_
        refine PW_seq ?_
        -- region 6
        refine PW_region ?_
        refine qMv .none ?_
        refine qCm .none ?_
        refine qMv .none ?_
        refine Psplit 32 rfl (fun h4 => ?_) (fun h4 => ?_)
        · -- t32 = true
          have := of_decide_eq_true h4; omega
        · -- t32 = false
          refine qMv (.yes rfl rfl h4) ?_
          refine qCm (.yes rfl rfl h4) ?_
          refine P10 .none (S_pickF rfl h4 rfl rfl) ?_
          refine Pend ?_
          refine PW_cond rfl (fun h5 => ?_) (fun h5 => ?_)
          · -- t35
            have := of_decide_eq_true h5; omega
          · -- not t35
            refine PW_skip ?_
            -- region 8
            refine PW_region ?_
            refine qAd .none ?_
            refine qMv .none ?_
            refine Pend ?_
            exact ⟨i + 1, by omega, (by show i + 1 ≤ _; omega), (by repeat (first | exact trivial | refine And.intro rfl ?_)), (by repeat (first | exact trivial | refine And.intro rfl ?_))⟩
      · -- not t27
        refine PW_exit ?_
        refine PW_seq ?_
        -- region 9
        refine PW_region ?_
        refine qMv .none ?_
        refine Pend ?_
        refine PW_seq ?_
        refine PW_seq ?_
        -- region 10
        refine PW_region ?_
        refine qLd .none ?_
        refine P10 .none (by first | exact S_loadOW rfl rfl rfl rfl rfl | exact S_loadRW rfl rfl rfl | exact S_loadLA rfl rfl rfl (Nat.le_of_ble_eq_true rfl) rfl | exact S_loadOA rfl rfl rfl (Nat.le_of_ble_eq_true rfl) rfl | exact S_loadRA rfl (Nat.le_of_ble_eq_true rfl) rfl | exact S_loadRW rfl (Plan.cells_len _) rfl | exact S_loadOW rfl rfl rfl (Plan.cells_len _) rfl) ?_
        refine P00 .none (S_call (.one rfl (.one rfl .nil)) rfl hpo (.inl rfl) rfl) ?_
        refine qLn .none ?_
        refine qMv .none ?_
        refine Pend ?_
        refine PW_block ?_
        refine PW_iter (ι := Nat × Int) (fun u => [(2, .c (.g (.sl (vs.map encI)))), (3, .c (.optr 3 0 0)), (4, .c (.optr 4 0 0)), (9, .c (.g (.int .i64 u.2))), (39, .c (.g (.sl (ps.map Place.cells)))), (40, .c (.g (.int .i64 (ps.map Place.cells).length))), (41, .c (.g (.int .i64 (u.1 : Nat))))]) (fun u => [(3, ⟨25, 0, .gnd [k.cells]⟩), (4, ⟨34, 0, .gnd [t.plan.cells]⟩)]) (fun u => u.1 ≤ ps.length ∧ sumP vs (ps.drop u.1) u.2 = V ∧ 0 ≤ u.2 ∧ u.2 ≤ 1000 * (u.1 : Int)) (fun u => ps.length - u.1) (0, 0) ⟨Nat.zero_le _, hV, Int.le_refl _, by decide⟩ (by repeat (first | exact trivial | refine And.intro rfl ?_)) (by repeat (first | exact trivial | refine And.intro rfl ?_)) (fun u hu => ?_)
        refine PW_seq ?_
        -- region 11
        refine PW_region ?_
        refine qCm .none ?_
        refine Pend ?_
        refine PW_seq ?_
        refine PW_cond rfl (fun h6 => ?_) (fun h6 => ?_)
        · -- t42
          refine PW_skip ?_
          refine PW_seq ?_
          refine PW_block ?_
          refine PW_seq ?_
          obtain ⟨i, m⟩ := u
          obtain ⟨p, hp⟩ := at_lt h6
          have hlt := (List.getElem?_eq_some_iff.1 hp).1
          dsimp only at hu hlt hp ⊢
          obtain ⟨hu1, hu2, hu3, hu4⟩ := hu
          rw [List.drop_eq_getElem_cons hlt, (List.getElem?_eq_some_iff.1 hp).2] at hu2
          simp only [sumP] at hu2
          obtain ⟨hp0, hp1⟩ := paneFills_in (hfl p (List.mem_of_getElem? hp))
          obtain ⟨y, hy⟩ : ∃ y, vs[p.pane.toNat]? = some y := ⟨_, List.getElem?_eq_getElem (by omega)⟩
          have hyv := hvs y (List.mem_of_getElem? hy)
          rw [List.getD_eq_getElem?_getD, hy, Option.getD_some] at hu2
          --region 12
          refine PW_region ?_
          refine P10 .none (by first | exact S_indexR rfl rfl rfl (map_at hp) rfl rfl | exact S_indexO rfl rfl rfl rfl rfl (map_at hp) rfl) ?_
          refine qLd .none ?_
          refine qBx .none ?_
          refine qSr .none ?_
          refine Pend ?_
          -- region 13
          refine PW_region ?_
          refine qMv .none ?_
          refine qMv .none ?_
          refine qFd .none ?_
          refine qLd .none ?_
          refine P10 .none (by first | exact S_indexR rfl rfl (Int.toNat_of_nonneg hp0).symm (map_at hy) rfl rfl | exact S_indexO rfl rfl rfl rfl (Int.toNat_of_nonneg hp0).symm (map_at hy) rfl) ?_
          refine qLd .none ?_
          refine qAd .none ?_
          refine qMv .none ?_
          refine Pend ?_
          -- region 14
          refine PW_region ?_
          refine qAd .none ?_
          refine qMv .none ?_
          refine Pend ?_
          exact ⟨(i + 1, m + y), by dsimp only; omega, ⟨by dsimp only; omega, hu2, by dsimp only; omega, by dsimp only; omega⟩, (by repeat (first | exact trivial | refine And.intro rfl ?_)), (by repeat (first | exact trivial | refine And.intro rfl ?_))⟩
        · -- not t42
          refine PW_exit ?_
          refine PW_seq ?_
          obtain ⟨i, m⟩ := u
          dsimp only at hu ⊢
          obtain ⟨hu1, hu2, hu3, hu4⟩ := hu
          obtain rfl : i = ps.length := by have := of_decide_eq_false h6; omega
          rw [List.drop_length] at hu2
          simp only [sumP] at hu2
          subst hu2
          --region 15
          refine PW_region ?_
          refine qMv .none ?_
          refine qMv .none ?_
          refine Pend ?_
          refine PW_ret ⟨.inr rfl, ?_⟩
          exact ret_g (.cons (.tmp rfl) (.c (by first | exact .nil | exact .g _ | exact Ex.whole rfl rfl rfl)) .nil) rfl trivial
/- laws.equalPlan: 34, 34 -> [4] -/
set_option maxRecDepth 100000 in
theorem ctr_l_equalPlan : ∀ t : T, Ctr P 60 [.g (.agg t.plan.cells), .g (.agg t.plan.cells)] (.g (.bool true)) := by
  refine T.ind fun t ih => ?_
  have hk : t.plan.kids.length ≤ 2 ∧ ∀ x ∈ t.plan.kids, Ctr P 60 [.g (.agg x.cells), .g (.agg x.cells)] (.g (.bool true)) := by
    cases t with
    | waste => exact ⟨Nat.zero_le _, fun x hx => by simp [T.plan, Plan.kids] at hx⟩
    | pane n tu => exact ⟨Nat.zero_le _, fun x hx => by simp [T.plan, Plan.kids] at hx⟩
    | cut d a p q =>
      obtain ⟨h1, h2⟩ := ih d a p q rfl
      refine ⟨Nat.le_refl _, fun x hx => ?_⟩
      simp only [T.plan, Plan.kids, List.mem_cons, List.not_mem_nil, or_false] at hx
      rcases hx with rfl | rfl
      · exact h1
      · exact h2
  generalize t.plan = pl at *
  obtain ⟨op, a, pane, turned, kids⟩ := pl
  dsimp only [Plan.kids] at hk
  have hkl : (Plan.cellsL kids).length = kids.length := by rw [Plan.cellsL_map, List.length_map]
  refine ctr_of (fn := Go.Proofs.Try.f60) (by kernel_rfl) rfl rfl ?_
  rintro ⟨n, w0, F0, M, pin⟩ hn
  cases hn
  refine PW_seq ?_
  -- region 0
  refine PW_region ?_
  refine P22 .none (by first | exact S_boxA rfl rfl rfl rfl | exact S_boxL rfl rfl rfl rfl rfl | exact S_boxA rfl (Plan.cells_len _) (Plan.cells_one _) rfl) ?_
  refine P22 .none (by first | exact S_boxA rfl rfl rfl rfl | exact S_boxL rfl rfl rfl rfl rfl | exact S_boxA rfl (Plan.cells_len _) (Plan.cells_one _) rfl) ?_
  refine qMv .none ?_
  refine Pend ?_
  refine PW_seq ?_
  refine PW_seq ?_
  -- region 1
  refine PW_region ?_
  refine qFd .none ?_
  refine qLd .none ?_
  refine qFd .none ?_
  refine qLd .none ?_
  refine qCm .none ?_
  refine qMv .none ?_
  refine Psplit 11 rfl (fun h1 => ?_) (fun h1 => ?_)
  · -- t11 = true
    simp at h1
  · -- t11 = false
    refine qFd (.yes rfl rfl h1) ?_
    refine qLd (.yes rfl rfl h1) ?_
    refine qFd (.yes rfl rfl h1) ?_
    refine qLd (.yes rfl rfl h1) ?_
    refine qCm (.yes rfl rfl h1) ?_
    refine P10 .none (S_pickF rfl h1 rfl rfl) ?_
    refine qMv .none ?_
    refine Psplit 18 rfl (fun h2 => ?_) (fun h2 => ?_)
    · -- t18 = true
      simp at h2
    · -- t18 = false
      refine qFd (.yes rfl rfl h2) ?_
      refine qLd (.yes rfl rfl h2) ?_
      refine qFd (.yes rfl rfl h2) ?_
      refine qLd (.yes rfl rfl h2) ?_
      refine qCm (.yes rfl rfl h2) ?_
      refine P10 .none (S_pickF rfl h2 rfl rfl) ?_
      refine qMv .none ?_
      refine Psplit 25 rfl (fun h3 => ?_) (fun h3 => ?_)
      · -- t25 = true
        simp at h3
      · -- t25 = false
        refine qFd (.yes rfl rfl h3) ?_
        refine qLd (.yes rfl rfl h3) ?_
        refine qFd (.yes rfl rfl h3) ?_
        refine qLd (.yes rfl rfl h3) ?_
        refine qCm (.yes rfl rfl h3) ?_
        refine P10 .none (S_pickF rfl h3 rfl rfl) ?_
        refine qMv .none ?_
        refine Psplit 32 rfl (fun h4 => ?_) (fun h4 => ?_)
        · -- t32 = true
          simp at h4
        · -- t32 = false
          refine qFd (.yes rfl rfl h4) ?_
          refine qLd (.yes rfl rfl h4) ?_
          refine qLn (.yes rfl rfl h4) ?_
          refine qFd (.yes rfl rfl h4) ?_
          refine qLd (.yes rfl rfl h4) ?_
          refine qLn (.yes rfl rfl h4) ?_
          refine qCm (.yes rfl rfl h4) ?_
          refine P10 .none (S_pickF rfl h4 rfl rfl) ?_
          refine Pend ?_
          refine PW_cond rfl (fun h5 => ?_) (fun h5 => ?_)
          · -- t40
            simp at h5
          · -- not t40
            refine PW_skip ?_
            refine PW_seq ?_
            refine PW_seq ?_
            -- region 3
            refine PW_region ?_
            refine qMv .none ?_
            refine Pend ?_
            refine PW_block ?_
            refine PW_iter (ι := Nat) (fun i => [(2, .c (.optr 2 0 0)), (3, .c (.optr 3 0 0)), (4, .c (.g (.bool false))), (5, .c (.g (.int .i64 (i : Nat))))]) (fun i => [(2, ⟨34, 0, .gnd [[.int .i64 op, .int .i64 a, .int .i64 pane, .bool turned, .sl (Plan.cellsL kids)]]⟩), (3, ⟨34, 0, .gnd [[.int .i64 op, .int .i64 a, .int .i64 pane, .bool turned, .sl (Plan.cellsL kids)]]⟩)]) (fun i => i ≤ kids.length) (fun i => kids.length - i) 0 (Nat.zero_le _) (by repeat (first | exact trivial | refine And.intro rfl ?_)) (by repeat (first | exact trivial | refine And.intro rfl ?_)) (fun i hi => ?_)
            refine PW_seq ?_
            refine PW_seq ?_
            -- region 4
            refine PW_region ?_
            refine qMv .none ?_
            refine qFd .none ?_
            refine qLd .none ?_
            refine qLn .none ?_
            refine qCm .none ?_
            refine Pend ?_
            refine PW_cond rfl (fun h6 => ?_) (fun h6 => ?_)
            · -- t45
              refine PW_skip ?_
              refine PW_seq ?_
              refine PW_block ?_
              refine PW_seq ?_
              obtain ⟨x, hx⟩ := at_ltP h6
              have hlt := (List.getElem?_eq_some_iff.1 hx).1
              have hxe := hk.2 x (List.mem_of_getElem? hx)
              --region 6
              refine PW_draw (by kernel_rfl) ?_
              refine qFd .none ?_
              refine qLd .none ?_
              refine qMv .none ?_
              refine P10 .none (by first | exact S_indexR rfl rfl rfl (cellsL_at hx) rfl rfl | exact S_indexO rfl rfl rfl rfl rfl (cellsL_at hx) rfl | exact S_indexR rfl rfl rfl (cellsL_at hx) (Plan.cells_len _) rfl) ?_
              refine P10 .none (by first | exact S_loadOW rfl rfl rfl rfl rfl | exact S_loadRW rfl rfl rfl | exact S_loadLA rfl rfl rfl (Nat.le_of_ble_eq_true rfl) rfl | exact S_loadOA rfl rfl rfl (Nat.le_of_ble_eq_true rfl) rfl | exact S_loadRA rfl (Nat.le_of_ble_eq_true rfl) rfl | exact S_loadRW rfl (Plan.cells_len _) rfl | exact S_loadOW rfl rfl rfl (Plan.cells_len _) rfl) ?_
              refine qFd .none ?_
              refine qLd .none ?_
              refine qMv .none ?_
              refine P10 .none (by first | exact S_indexR rfl rfl rfl (cellsL_at hx) rfl rfl | exact S_indexO rfl rfl rfl rfl rfl (cellsL_at hx) rfl | exact S_indexR rfl rfl rfl (cellsL_at hx) (Plan.cells_len _) rfl) ?_
              refine P10 .none (by first | exact S_loadOW rfl rfl rfl rfl rfl | exact S_loadRW rfl rfl rfl | exact S_loadLA rfl rfl rfl (Nat.le_of_ble_eq_true rfl) rfl | exact S_loadOA rfl rfl rfl (Nat.le_of_ble_eq_true rfl) rfl | exact S_loadRA rfl (Nat.le_of_ble_eq_true rfl) rfl | exact S_loadRW rfl (Plan.cells_len _) rfl | exact S_loadOW rfl rfl rfl (Plan.cells_len _) rfl) ?_
              refine P00 .none (S_call (.one rfl (.one rfl .nil)) rfl hxe (.inl rfl) rfl) ?_
              refine qCm .none ?_
              refine Pend ⟨by kernel_rfl, ?_⟩
              refine PW_cond rfl (fun h7 => ?_) (fun h7 => ?_)
              · -- t59
                cases h7
              · -- not t59
                refine PW_skip ?_
                -- region 5
                refine PW_region ?_
                refine qMv .none ?_
                refine qAd .none ?_
                refine qMv .none ?_
                refine Pend ?_
                exact ⟨i + 1, by omega, (by show i + 1 ≤ _; omega), (by repeat (first | exact trivial | refine And.intro rfl ?_)), (by repeat (first | exact trivial | refine And.intro rfl ?_))⟩
            · -- not t45
              refine PW_exit ?_
              refine PW_seq ?_
              -- region 8
              refine PW_region ?_
              refine qMv .none ?_
              refine Pend ?_
              refine PW_ret ⟨.inr rfl, ?_⟩
              exact ret_g (.cons (.tmp rfl) (.c (by first | exact .nil | exact .g _ | exact Ex.whole rfl rfl rfl)) .nil) rfl trivial
end Go.Proofs.Ytdmlfhmnlddooaa
/- Places of a plan, and the plan that the search finds for them: plain law. -/
namespace Go.Proofs.Ytdmlfhmnlddooaa
open Go Go.Pu

/-- The cuts of a tree lie inside of the glass. -/
def T.okc : T → Box → Prop
  | .cut d a p q, b => 1 ≤ a ∧ (a < if d then b.w else b.h) ∧ p.okc (splitB d a b).1 ∧ q.okc (splitB d a b).2
  | _, _ => True
def placesB (t : T) (b : Box) : List Place := (t.parts b).filterMap placeOf
theorem placesB_waste (b : Box) : placesB .waste b = [] := rfl
theorem placesB_pane (n : Int) (tu : Bool) (b : Box) : placesB (.pane n tu) b = [⟨n, tu, b⟩] := rfl
theorem placesB_cut (d : Bool) (a : Int) (p q : T) (b : Box) : placesB (.cut d a p q) b = placesB p (splitB d a b).1 ++ placesB q (splitB d a b).2 := by
  unfold placesB
  rw [show (T.cut d a p q).parts b = (T.cut d a p q, b) :: (p.parts (splitB d a b).1 ++ q.parts (splitB d a b).2) from rfl, List.filterMap_cons, show placeOf (T.cut d a p q, b) = none from rfl, List.filterMap_append]
/-- A box of glass inside of another. -/
def InB (y b : Box) : Prop := 1 ≤ y.w ∧ 1 ≤ y.h ∧ b.x ≤ y.x ∧ y.x + y.w ≤ b.x + b.w ∧ b.y ≤ y.y ∧ y.y + y.h ≤ b.y + b.h
theorem InB.of_split {y b : Box} {d : Bool} {a : Int} (h1 : 1 ≤ a) (h2 : a < if d then b.w else b.h) : (InB y (splitB d a b).1 → InB y b ∧ (spanV y d).2 ≤ (spanV b d).1 + a) ∧ (InB y (splitB d a b).2 → InB y b ∧ (spanV b d).1 + a ≤ (spanV y d).1) := by
  cases d
  · simp only [Bool.false_eq_true, if_false] at h2
    simp only [InB, splitB, spanV, Bool.false_eq_true, if_false]
    constructor <;> (intro h; omega)
  · simp only [if_true] at h2
    simp only [InB, splitB, spanV, if_true]
    constructor <;> (intro h; omega)
theorem places_in : ∀ (t : T) (b : Box), 1 ≤ b.w → 1 ≤ b.h → t.okc b → ∀ p ∈ placesB t b, InB p.box b := by
  intro t
  induction t with
  | waste => intro b _ _ _ p hp; rw [placesB_waste] at hp; cases hp
  | pane n tu =>
    intro b h1 h2 _ p hp
    rw [placesB_pane] at hp
    obtain rfl := List.mem_singleton.1 hp
    simp only [InB]
    omega
  | cut d a p q ihp ihq =>
    intro b h1 h2 ho x hx
    obtain ⟨o1, o2, o3, o4⟩ := ho
    have hs := InB.of_split (y := x.box) o1 o2
    rw [placesB_cut] at hx
    have hw : 1 ≤ (splitB d a b).1.w ∧ 1 ≤ (splitB d a b).1.h ∧ 1 ≤ (splitB d a b).2.w ∧ 1 ≤ (splitB d a b).2.h := by
      cases d
      · simp only [Bool.false_eq_true, if_false] at o2
        simp only [splitB, Bool.false_eq_true, if_false]; omega
      · simp only [if_true] at o2
        simp only [splitB, if_true]; omega
    rcases List.mem_append.1 hx with hx | hx
    · exact (hs.1 (ihp _ hw.1 hw.2.1 o3 x hx)).1
    · exact (hs.2 (ihq _ hw.2.2.1 hw.2.2.2 o4 x hx)).1
theorem split_pos {b : Box} {d : Bool} {a : Int} (h1 : 1 ≤ a) (h2 : a < if d then b.w else b.h) (hw : 1 ≤ b.w) (hh : 1 ≤ b.h) : (1 ≤ (splitB d a b).1.w ∧ 1 ≤ (splitB d a b).1.h) ∧ 1 ≤ (splitB d a b).2.w ∧ 1 ≤ (splitB d a b).2.h := by
  cases d
  · simp only [Bool.false_eq_true, if_false] at h2
    simp only [splitB, Bool.false_eq_true, if_false]; omega
  · simp only [if_true] at h2
    simp only [splitB, if_true]; omega
theorem places_sides {d : Bool} {a : Int} {p q : T} {b : Box} (hw : 1 ≤ b.w) (hh : 1 ≤ b.h) (ho : (T.cut d a p q).okc b) : (∀ x ∈ placesB p (splitB d a b).1, InB x.box b ∧ (spanV x.box d).2 ≤ (spanV b d).1 + a) ∧ (∀ x ∈ placesB q (splitB d a b).2, InB x.box b ∧ (spanV b d).1 + a ≤ (spanV x.box d).1) := by
  obtain ⟨o1, o2, o3, o4⟩ := ho
  obtain ⟨s1, s2⟩ := split_pos o1 o2 hw hh
  exact ⟨fun x hx => (InB.of_split o1 o2).1 (places_in p _ s1.1 s1.2 o3 x hx), fun x hx => (InB.of_split o1 o2).2 (places_in q _ s2.1 s2.2 o4 x hx)⟩

/-! ### the side of a cut -/
def sideB (d : Bool) (x : Int) (y : Box) : Bool := decide ((spanV y d).2 ≤ x)
theorem span_in {y b : Box} (d : Bool) (h : InB y b) : (spanV b d).1 ≤ (spanV y d).1 ∧ (spanV y d).1 < (spanV y d).2 ∧ (spanV y d).2 ≤ (spanV b d).2 := by
  unfold InB at h
  cases d <;> simp only [spanV, Bool.false_eq_true, if_false, if_true] <;> omega
theorem validBox_in {y b : Box} (hb : validBox b = true) (h : InB y b) : validBox y = true := by
  rw [validBox_iff] at hb ⊢
  unfold InB at h
  omega
theorem inside_of {y b : Box} (hy : validBox y = true) (hb : validBox b = true) : insideB y b = true ↔ InB y b := by
  have hy2 := validBox_iff.1 hy
  unfold insideB meet InB
  rw [decide_eq_true_iff]
  split
  · rename_i h
    constructor
    · intro e
      simp only [Option.some.injEq] at e
      obtain ⟨yx, yy, yw, yh⟩ := y
      simp only [Box.mk.injEq] at e
      dsimp only at *
      omega
    · intro e
      obtain ⟨yx, yy, yw, yh⟩ := y
      simp only [Option.some.injEq, Box.mk.injEq]
      dsimp only at *
      omega
  · rename_i h
    constructor
    · intro e; cases e
    · intro e
      exact absurd ⟨hy, hb, by omega, by omega⟩ h
theorem validBox_split {b : Box} {d : Bool} {a : Int} (hb : validBox b = true) (h1 : 1 ≤ a) (h2 : a < if d then b.w else b.h) : validBox (splitB d a b).1 = true ∧ validBox (splitB d a b).2 = true := by
  rw [validBox_iff] at hb
  rw [validBox_iff, validBox_iff]
  cases d
  · simp only [Bool.false_eq_true, if_false] at h2
    simp only [splitB, Bool.false_eq_true, if_false]; omega
  · simp only [if_true] at h2
    simp only [splitB, if_true]; omega
theorem inside_side {y b : Box} {d : Bool} {a : Int} (hb : validBox b = true) (h1 : 1 ≤ a) (h2 : a < if d then b.w else b.h) (hy : InB y b) : insideB y (splitB d a b).1 = sideB d ((spanV b d).1 + a) y := by
  rw [Bool.eq_iff_iff, inside_of (validBox_in hb hy) (validBox_split hb h1 h2).1]
  unfold sideB
  rw [decide_eq_true_iff]
  unfold InB at *
  cases d
  · simp only [Bool.false_eq_true, if_false] at h2
    simp only [splitB, spanV, Bool.false_eq_true, if_false]; omega
  · simp only [if_true] at h2
    simp only [splitB, spanV, if_true]; omega
/-- No place lies across. -/
def Unc (d : Bool) (x : Int) (ps : List Place) : Prop := ∀ p ∈ ps, ¬ ((spanV p.box d).1 < x ∧ x < (spanV p.box d).2)

theorem filter_all {α : Type} {f : α → Bool} {l : List α} (h : ∀ x ∈ l, f x = true) : l.filter f = l := List.filter_eq_self.2 h
theorem filter_none {α : Type} {f : α → Bool} {l : List α} (h : ∀ x ∈ l, f x = false) : l.filter f = [] := List.filter_eq_nil_iff.2 fun x hx => by rw [h x hx]; simp

/-- What a cut that crosses no place leaves on each side is a plan's, too. -/
theorem restrict : ∀ (t : T) (b : Box) (d : Bool) (c : Int), 1 ≤ b.w → 1 ≤ b.h → t.okc b → 1 ≤ c → (c < if d then b.w else b.h) → Unc d ((spanV b d).1 + c) (placesB t b) →
    ∃ t1 t2 : T, t1.okc (splitB d c b).1 ∧ t2.okc (splitB d c b).2 ∧ placesB t1 (splitB d c b).1 = (placesB t b).filter (fun p => sideB d ((spanV b d).1 + c) p.box) ∧ placesB t2 (splitB d c b).2 = (placesB t b).filter (fun p => !sideB d ((spanV b d).1 + c) p.box) := by
  intro t
  induction t with
  | waste => intro b d c _ _ _ _ _ _; exact ⟨.waste, .waste, trivial, trivial, rfl, rfl⟩
  | pane n tu =>
    intro b d c hw hh _ h1 h2 hu
    have := hu ⟨n, tu, b⟩ (by rw [placesB_pane]; simp)
    exfalso
    apply this
    cases d
    · simp only [Bool.false_eq_true, if_false] at h2
      simp only [spanV, Bool.false_eq_true, if_false]; omega
    · simp only [if_true] at h2
      simp only [spanV, if_true]; omega
  | cut e a p q ihp ihq =>
    intro b d c hw hh ho h1 h2 hu
    obtain ⟨sp, sq⟩ := places_sides hw hh ho
    obtain ⟨o1, o2, o3, o4⟩ := ho
    obtain ⟨⟨w1, w2⟩, w3, w4⟩ := split_pos o1 o2 hw hh
    rw [placesB_cut] at hu
    have hup : Unc d ((spanV b d).1 + c) (placesB p (splitB e a b).1) := fun x hx => hu x (List.mem_append_left _ hx)
    have huq : Unc d ((spanV b d).1 + c) (placesB q (splitB e a b).2) := fun x hx => hu x (List.mem_append_right _ hx)
    rw [placesB_cut, List.filter_append, List.filter_append]
    by_cases hed : e = d
    · subst hed
      by_cases hca : c = a
      · subst hca
        refine ⟨p, q, o3, o4, ?_, ?_⟩
        · rw [filter_all (fun x hx => by unfold sideB; exact decide_eq_true (sp x hx).2), filter_none (fun x hx => by
            unfold sideB
            have g1 := (sq x hx).2
            have g2 := (span_in e (sq x hx).1).2.1
            exact decide_eq_false (by omega)), List.append_nil]
        · rw [filter_none (fun x hx => by unfold sideB; rw [decide_eq_true (sp x hx).2]; rfl), filter_all (fun x hx => by
            unfold sideB
            have g1 := (sq x hx).2
            have g2 := (span_in e (sq x hx).1).2.1
            rw [decide_eq_false (by omega)]; rfl), List.nil_append]
      · by_cases hlt : c < a
        · -- the new cut lies in the first part
          have hsp1 : (spanV (splitB e a b).1 e).1 = (spanV b e).1 := by cases e <;> simp [spanV, splitB]
          have hc2 : c < if e then (splitB e a b).1.w else (splitB e a b).1.h := by cases e <;> simp [splitB] <;> omega
          obtain ⟨t1, t2, k1, k2, k3, k4⟩ := ihp (splitB e a b).1 e c w1 w2 o3 h1 hc2 (by rw [hsp1]; exact hup)
          have e1 : (splitB e c (splitB e a b).1).1 = (splitB e c b).1 := by cases e <;> simp [splitB]
          have e2 : (splitB e c (splitB e a b).1).2 = (splitB e (a - c) (splitB e c b).2).1 := by cases e <;> simp [splitB]
          have e3 : (splitB e a b).2 = (splitB e (a - c) (splitB e c b).2).2 := by cases e <;> simp [splitB] <;> omega
          rw [e1] at k1 k3
          rw [e2] at k2 k4
          rw [hsp1] at k3 k4
          refine ⟨t1, .cut e (a - c) t2 q, k1, ⟨by omega, ?_, k2, by rw [← e3]; exact o4⟩, ?_, ?_⟩
          · cases e <;> simp [splitB] at o2 ⊢ <;> omega
          · rw [k3, filter_none (l := placesB q (splitB e a b).2) (fun x hx => by
              unfold sideB
              have g1 := (sq x hx).2
              have g2 := (span_in e (sq x hx).1).2.1
              exact decide_eq_false (by omega)), List.append_nil]
          · rw [placesB_cut, k4, ← e3, filter_all (l := placesB q (splitB e a b).2) (fun x hx => by
              unfold sideB
              have g1 := (sq x hx).2
              have g2 := (span_in e (sq x hx).1).2.1
              rw [decide_eq_false (by omega)]; rfl)]
        · -- in the second
          have hsp1 : (spanV (splitB e a b).2 e).1 = (spanV b e).1 + a := by cases e <;> simp [spanV, splitB]
          have hc2 : (c - a) < if e then (splitB e a b).2.w else (splitB e a b).2.h := by cases e <;> simp [splitB] at h2 ⊢ <;> omega
          have hx : (spanV b e).1 + a + (c - a) = (spanV b e).1 + c := by omega
          obtain ⟨t1, t2, k1, k2, k3, k4⟩ := ihq (splitB e a b).2 e (c - a) w3 w4 o4 (by omega) hc2 (by rw [hsp1, hx]; exact huq)
          have e1 : (splitB e (c - a) (splitB e a b).2).2 = (splitB e c b).2 := by cases e <;> simp [splitB] <;> omega
          have e2 : (splitB e (c - a) (splitB e a b).2).1 = (splitB e a (splitB e c b).1).2 := by cases e <;> simp [splitB]
          have e3 : (splitB e a b).1 = (splitB e a (splitB e c b).1).1 := by cases e <;> simp [splitB]
          rw [e1] at k2 k4
          rw [e2] at k1 k3
          rw [hsp1, hx] at k3 k4
          refine ⟨.cut e a p t1, t2, ⟨o1, ?_, by rw [← e3]; exact o3, k1⟩, k2, ?_, ?_⟩
          · cases e <;> simp [splitB] <;> omega
          · rw [placesB_cut, k3, ← e3, filter_all (l := placesB p (splitB e a b).1) (fun x hx => by unfold sideB; exact decide_eq_true (by have := (sp x hx).2; omega))]
          · rw [k4, filter_none (l := placesB p (splitB e a b).1) (fun x hx => by unfold sideB; rw [decide_eq_true (by have := (sp x hx).2; omega)]; rfl), List.nil_append]
    · -- across
      have hsp1 : (spanV (splitB e a b).1 d).1 = (spanV b d).1 := by cases e <;> cases d <;> simp [spanV, splitB] at hed ⊢
      have hsp2 : (spanV (splitB e a b).2 d).1 = (spanV b d).1 := by cases e <;> cases d <;> simp [spanV, splitB] at hed ⊢
      have hc1 : c < if d then (splitB e a b).1.w else (splitB e a b).1.h := by cases e <;> cases d <;> simp [splitB] at hed h2 ⊢ <;> omega
      have hc2 : c < if d then (splitB e a b).2.w else (splitB e a b).2.h := by cases e <;> cases d <;> simp [splitB] at hed h2 ⊢ <;> omega
      obtain ⟨p1, p2, k1, k2, k3, k4⟩ := ihp (splitB e a b).1 d c w1 w2 o3 h1 hc1 (by rw [hsp1]; exact hup)
      obtain ⟨q1, q2, j1, j2, j3, j4⟩ := ihq (splitB e a b).2 d c w3 w4 o4 h1 hc2 (by rw [hsp2]; exact huq)
      have e1 : (splitB d c (splitB e a b).1).1 = (splitB e a (splitB d c b).1).1 := by cases e <;> cases d <;> simp [splitB] at hed ⊢
      have e2 : (splitB d c (splitB e a b).1).2 = (splitB e a (splitB d c b).2).1 := by cases e <;> cases d <;> simp [splitB] at hed ⊢
      have e3 : (splitB d c (splitB e a b).2).1 = (splitB e a (splitB d c b).1).2 := by cases e <;> cases d <;> simp [splitB] at hed ⊢
      have e4 : (splitB d c (splitB e a b).2).2 = (splitB e a (splitB d c b).2).2 := by cases e <;> cases d <;> simp [splitB] at hed ⊢
      rw [e1] at k1 k3
      rw [e2] at k2 k4
      rw [e3] at j1 j3
      rw [e4] at j2 j4
      rw [hsp1] at k3 k4
      rw [hsp2] at j3 j4
      refine ⟨.cut e a p1 q1, .cut e a p2 q2, ⟨o1, ?_, k1, j1⟩, ⟨o1, ?_, k2, j2⟩, ?_, ?_⟩
      · cases e <;> cases d <;> simp [splitB] at hed o2 ⊢ <;> omega
      · cases e <;> cases d <;> simp [splitB] at hed o2 ⊢ <;> omega
      · rw [placesB_cut, k3, j3]
      · rw [placesB_cut, k4, j4]
end Go.Proofs.Ytdmlfhmnlddooaa
/- The search for a plan finds one, of few parts: plain law. -/
namespace Go.Proofs.Ytdmlfhmnlddooaa
open Go Go.Pu

theorem leastC_none {l : List (Int × Int)} {to : Int} : ∀ {n : Nat} {a : Int}, leastC l to n a = none → ∀ x, a ≤ x → x < a + n → x < to → (touches l x && !crosses l x) = false := by
  intro n
  induction n with
  | zero => intro a _ x h1 h2; omega
  | succ n ih =>
    intro a h x h1 h2 h3
    simp only [leastC] at h
    rw [if_pos (by omega)] at h
    split at h
    · cases h
    · rename_i hc
      by_cases hx : x = a
      · subst hx
        simpa using hc
      · exact ih h x (by omega) (by omega) h3
theorem leastO_none {l : List (Int × Int)} {g : Int × Int} (h : leastO l g = none) {x : Int} (h1 : g.1 < x) (h2 : x < g.2) : (touches l x && !crosses l x) = false :=
  leastC_none h x (by omega) (by omega) h2
theorem touches_iff {l : List Box} {d : Bool} {x : Int} : touches (l.map (spanV · d)) x = true ↔ ∃ y ∈ l, (spanV y d).1 = x ∨ (spanV y d).2 = x := by
  unfold touches
  simp [List.any_eq_true]
theorem crosses_iff {l : List Box} {d : Bool} {x : Int} : crosses (l.map (spanV · d)) x = false ↔ ∀ y ∈ l, ¬ ((spanV y d).1 < x ∧ x < (spanV y d).2) := by
  unfold crosses
  simp [List.any_eq_false]
theorem exists_max {α : Type} (f : α → Int) : ∀ (l : List α), l ≠ [] → ∃ m ∈ l, ∀ x ∈ l, f x ≤ f m := by
  intro l
  induction l with
  | nil => intro h; exact absurd rfl h
  | cons a r ih =>
    intro _
    by_cases hr : r = []
    · subst hr; exact ⟨a, by simp, fun x hx => by simp at hx; subst hx; exact Int.le_refl _⟩
    · obtain ⟨m, hm, hx⟩ := ih hr
      by_cases ha : f a ≤ f m
      · exact ⟨m, by simp [hm], fun x h => by rcases List.mem_cons.1 h with rfl | h; exact ha; exact hx x h⟩
      · exact ⟨a, by simp, fun x h => by rcases List.mem_cons.1 h with rfl | h; exact Int.le_refl _; have := hx x h; omega⟩
/-- There is a place to cut. -/
theorem cut_exists {d : Bool} {a : Int} {p q : T} {b : Box} (hw : 1 ≤ b.w) (hh : 1 ≤ b.h) (ho : (T.cut d a p q).okc b) (hne : placesB (.cut d a p q) b ≠ []) :
    ∃ x, (spanV b d).1 < x ∧ x < (spanV b d).2 ∧ (∃ y ∈ placesB (.cut d a p q) b, (spanV y.box d).1 = x ∨ (spanV y.box d).2 = x) ∧ Unc d x (placesB (.cut d a p q) b) := by
  obtain ⟨sp, sq⟩ := places_sides hw hh ho
  obtain ⟨o1, o2, o3, o4⟩ := ho
  have hA : (spanV b d).1 + a < (spanV b d).2 := by
    cases d
    · simp only [Bool.false_eq_true, if_false] at o2; simp only [spanV, Bool.false_eq_true, if_false]; omega
    · simp only [if_true] at o2; simp only [spanV, if_true]; omega
  rw [placesB_cut] at hne ⊢
  by_cases hp : placesB p (splitB d a b).1 = []
  · have hq : placesB q (splitB d a b).2 ≠ [] := fun h => hne (by rw [hp, h]; rfl)
    obtain ⟨m, hm, hmx⟩ := exists_max (fun y : Place => -(spanV y.box d).1) _ hq
    have g1 := (sq m hm).2
    have g2 := span_in d (sq m hm).1
    refine ⟨(spanV m.box d).1, by omega, by omega, ⟨m, List.mem_append_right _ hm, .inl rfl⟩, fun y hy => ?_⟩
    rw [hp, List.nil_append] at hy
    have := hmx y hy
    omega
  · obtain ⟨m, hm, hmx⟩ := exists_max (fun y : Place => (spanV y.box d).2) _ hp
    have g1 := (sp m hm).2
    have g2 := span_in d (sp m hm).1
    refine ⟨(spanV m.box d).2, by omega, by omega, ⟨m, List.mem_append_left _ hm, .inr rfl⟩, fun y hy => ?_⟩
    rcases List.mem_append.1 hy with hy | hy
    · have := hmx y hy; omega
    · have := (sq y hy).2; omega
theorem firstC_ok {l : List Box} {b : Box} {d : Bool} {a : Int} (h : firstC l b = some (d, a)) : 1 ≤ a ∧ (a < if d then b.w else b.h) ∧ (∃ y ∈ l, (spanV y d).1 = (spanV b d).1 + a ∨ (spanV y d).2 = (spanV b d).1 + a) ∧ ∀ y ∈ l, ¬ ((spanV y d).1 < (spanV b d).1 + a ∧ (spanV b d).1 + a < (spanV y d).2) := by
  obtain ⟨h1, h2⟩ := firstC_in h
  refine ⟨h1, h2, ?_⟩
  unfold firstC at h
  split at h
  · rename_i x hx
    obtain ⟨k1, k2, k3, k4⟩ := leastO_in hx
    cases h
    have e : (spanV b true).1 + (x - b.x) = x := by simp only [spanV, if_true]; omega
    rw [e]
    exact ⟨touches_iff.1 k3, crosses_iff.1 k4⟩
  · split at h
    · rename_i x hx
      obtain ⟨k1, k2, k3, k4⟩ := leastO_in hx
      cases h
      have e : (spanV b false).1 + (x - b.y) = x := by simp only [spanV, Bool.false_eq_true, if_false]; omega
      rw [e]
      exact ⟨touches_iff.1 k3, crosses_iff.1 k4⟩
    · cases h
theorem firstC_some {l : List Box} {b : Box} {d : Bool} {x : Int} (h1 : (spanV b d).1 < x) (h2 : x < (spanV b d).2) (ht : ∃ y ∈ l, (spanV y d).1 = x ∨ (spanV y d).2 = x) (hu : ∀ y ∈ l, ¬ ((spanV y d).1 < x ∧ x < (spanV y d).2)) : ∃ c, firstC l b = some c := by
  have key : ∀ e, leastO (l.map (spanV · e)) (spanV b e) = none → e = d → False := by
    intro e hn he
    subst he
    have := leastO_none hn h1 h2
    rw [touches_iff.2 ht, crosses_iff.2 hu] at this
    cases this
  unfold firstC
  split
  · exact ⟨_, rfl⟩
  · rename_i hn
    split
    · exact ⟨_, rfl⟩
    · rename_i hn2
      cases d
      · exact (key false hn2 rfl).elim
      · exact (key true hn rfl).elim

/-! ### how many parts the plan has -/
def slD (d : Bool) (ps : List Place) (b : Box) : Nat := (if ps.any (fun p => decide ((spanV p.box d).1 = (spanV b d).1)) = true then 0 else 1) + (if ps.any (fun p => decide ((spanV p.box d).2 = (spanV b d).2)) = true then 0 else 1)
def slack (ps : List Place) (b : Box) : Nat := slD true ps b + slD false ps b
theorem slD_le (d : Bool) (ps : List Place) (b : Box) : slD d ps b ≤ 2 := by unfold slD; split <;> split <;> omega
theorem slack_le (ps : List Place) (b : Box) : slack ps b ≤ 4 := by
  have := slD_le true ps b
  have := slD_le false ps b
  unfold slack
  omega
theorem slD_first {d : Bool} {a : Int} {ps : List Place} {b : Box} (h2 : a < if d then b.w else b.h) (hin : ∀ p ∈ ps, InB p.box b) (hs : ∀ p ∈ ps, (spanV p.box d).2 ≤ (spanV b d).1 + a)
    (ht : ∃ y ∈ ps, (spanV y.box d).1 = (spanV b d).1 + a ∨ (spanV y.box d).2 = (spanV b d).1 + a) : slack ps (splitB d a b).1 + 1 ≤ slack ps b := by
  have hlo : (spanV (splitB d a b).1 d).1 = (spanV b d).1 := by cases d <;> simp [spanV, splitB]
  have hhi : (spanV (splitB d a b).1 d).2 = (spanV b d).1 + a := by cases d <;> simp [spanV, splitB]
  have hlt : (spanV b d).1 + a < (spanV b d).2 := by cases d <;> simp [spanV] at h2 ⊢ <;> omega
  have hperp : ∀ e, e ≠ d → slD e ps (splitB d a b).1 = slD e ps b := by
    intro e he
    have : spanV (splitB d a b).1 e = spanV b e := by cases d <;> cases e <;> simp [spanV, splitB] at he ⊢
    unfold slD
    rw [this]
  have h1 : ps.any (fun p => decide ((spanV p.box d).2 = (spanV (splitB d a b).1 d).2)) = true := by
    rw [List.any_eq_true]
    obtain ⟨y, hy, he⟩ := ht
    have g := span_in d (hin y hy)
    have g2 := hs y hy
    exact ⟨y, hy, decide_eq_true (by rw [hhi]; omega)⟩
  have h3 : ps.any (fun p => decide ((spanV p.box d).2 = (spanV b d).2)) = false := by
    rw [List.any_eq_false]
    intro y hy
    have g2 := hs y hy
    simp
    omega
  have hd : slD d ps (splitB d a b).1 + 1 = slD d ps b := by
    unfold slD
    rw [if_pos h1, hlo, h3]
    simp
  unfold slack
  cases d
  · rw [hperp true (by simp)]; omega
  · rw [hperp false (by simp)]; omega
theorem slD_second {d : Bool} {a : Int} {ps : List Place} {b : Box} (h1' : 1 ≤ a) (hin : ∀ p ∈ ps, InB p.box b) (hs : ∀ p ∈ ps, (spanV b d).1 + a ≤ (spanV p.box d).1)
    (ht : ∃ y ∈ ps, (spanV y.box d).1 = (spanV b d).1 + a ∨ (spanV y.box d).2 = (spanV b d).1 + a) : slack ps (splitB d a b).2 + 1 ≤ slack ps b := by
  have hlo : (spanV (splitB d a b).2 d).1 = (spanV b d).1 + a := by cases d <;> simp [spanV, splitB]
  have hhi : (spanV (splitB d a b).2 d).2 = (spanV b d).2 := by cases d <;> simp [spanV, splitB] <;> omega
  have hperp : ∀ e, e ≠ d → slD e ps (splitB d a b).2 = slD e ps b := by
    intro e he
    have : spanV (splitB d a b).2 e = spanV b e := by cases d <;> cases e <;> simp [spanV, splitB] at he ⊢
    unfold slD
    rw [this]
  have h1 : ps.any (fun p => decide ((spanV p.box d).1 = (spanV (splitB d a b).2 d).1)) = true := by
    rw [List.any_eq_true]
    obtain ⟨y, hy, he⟩ := ht
    have g := span_in d (hin y hy)
    have g2 := hs y hy
    exact ⟨y, hy, decide_eq_true (by rw [hlo]; omega)⟩
  have h3 : ps.any (fun p => decide ((spanV p.box d).1 = (spanV b d).1)) = false := by
    rw [List.any_eq_false]
    intro y hy
    have g2 := hs y hy
    simp
    omega
  have hd : slD d ps (splitB d a b).2 + 1 = slD d ps b := by
    unfold slD
    rw [if_pos h1, hhi, h3]
    simp
    omega
  unfold slack
  cases d
  · rw [hperp true (by simp)]; omega
  · rw [hperp false (by simp)]; omega

theorem planP_nil (n : Nat) (b : Box) : planP n [] b = some .waste := by cases n <;> rfl
theorem filter_len {α : Type} (f : α → Bool) (l : List α) : (l.filter f).length + (l.filter fun x => !f x).length = l.length := by
  induction l with
  | nil => rfl
  | cons a r ih =>
    cases h : f a <;> simp [List.filter_cons, h] <;> omega
theorem filter_perm {α : Type} (f : α → Bool) (l : List α) : (l.filter f ++ l.filter fun x => !f x).Perm l := List.filter_append_perm f l

theorem planP_ok : ∀ (n : Nat) (ps : List Place) (b : Box) (t : T), validBox b = true → b.w + b.h ≤ n → t.okc b → ps.Perm (placesB t b) →
    ∃ u : T, planP n ps b = some u ∧ u.okc b ∧ (placesB u b).Perm ps ∧ (ps = [] → u.size = 1) ∧ (ps ≠ [] → u.size + 17 ≤ 18 * ps.length + 2 * slack ps b) := by
  intro n
  induction n with
  | zero => intro ps b t hb hn; have := validBox_iff.1 hb; omega
  | succ n ih =>
    intro ps b t hb hn ho hp
    have hv := validBox_iff.1 hb
    have hin : ∀ p ∈ ps, InB p.box b := fun p hx => places_in t b (by omega) (by omega) ho p (hp.mem_iff.1 hx)
    cases ps with
    | nil => exact ⟨.waste, planP_nil _ _, trivial, List.Perm.refl _, fun _ => rfl, fun h => absurd rfl h⟩
    | cons p r =>
      by_cases hpb : p.box = b
      · -- the place is all of the glass
        have hr : r = [] := by
          have hmem := hp.mem_iff.1 (List.mem_cons_self (a := p) (l := r))
          cases t with
          | waste => rw [placesB_waste] at hmem; cases hmem
          | pane m tu =>
            rw [placesB_pane] at hp
            have := hp.length_eq
            simp at this
            exact this
          | cut d a t1 t2 =>
            exfalso
            obtain ⟨sp, sq⟩ := places_sides (by omega) (by omega) ho
            obtain ⟨o1, o2, _, _⟩ := ho
            have hA : (spanV b d).1 + a < (spanV b d).2 := by cases d <;> simp [spanV] at o2 ⊢ <;> omega
            rw [placesB_cut] at hmem
            rcases List.mem_append.1 hmem with hm | hm
            · have := (sp p hm).2; rw [hpb] at this; omega
            · have := (sq p hm).2; rw [hpb] at this; omega
        subst hr
        refine ⟨.pane p.pane p.turned, by simp only [planP, baseP]; rw [if_pos hpb], trivial, ?_, (fun h => by cases h), fun _ => by simp [T.size]⟩
        rw [placesB_pane, ← hpb]
      · -- there is a cut
        have hf : ∃ c, firstC ((p :: r).map (·.box)) b = some c := by
          cases t with
          | waste => rw [placesB_waste] at hp; have := hp.length_eq; simp at this
          | pane m tu =>
            rw [placesB_pane] at hp
            have hmem := hp.mem_iff.1 (List.mem_cons_self (a := p) (l := r))
            obtain rfl := List.mem_singleton.1 hmem
            exact absurd rfl hpb
          | cut d a t1 t2 =>
            obtain ⟨x, x1, x2, ⟨y, y1, y2⟩, x4⟩ := cut_exists (by omega) (by omega) ho (fun h => by rw [h] at hp; have := hp.length_eq; simp at this)
            refine firstC_some x1 x2 ⟨y.box, List.mem_map.2 ⟨y, hp.mem_iff.2 y1, rfl⟩, y2⟩ (fun z hz => ?_)
            obtain ⟨w, hw, rfl⟩ := List.mem_map.1 hz
            exact x4 w (hp.mem_iff.1 hw)
        obtain ⟨⟨d, a⟩, hf⟩ := hf
        obtain ⟨c1, c2, ⟨y', hy', hty⟩, c4⟩ := firstC_ok hf
        obtain ⟨y, hy, rfl⟩ := List.mem_map.1 hy'
        obtain ⟨v1, v2⟩ := validBox_split hb c1 c2
        have hunc : Unc d ((spanV b d).1 + a) (placesB t b) := fun z hz => c4 z.box (List.mem_map.2 ⟨z, hp.mem_iff.2 hz, rfl⟩)
        obtain ⟨t1, t2, k1, k2, k3, k4⟩ := restrict t b d a (by omega) (by omega) ho c1 c2 hunc
        have hfi : ((p :: r).filter fun q => insideB q.box (splitB d a b).1) = (p :: r).filter fun q => sideB d ((spanV b d).1 + a) q.box :=
          List.filter_congr fun q hq => inside_side hb c1 c2 (hin q hq)
        have hfo : ((p :: r).filter fun q => !insideB q.box (splitB d a b).1) = (p :: r).filter fun q => !sideB d ((spanV b d).1 + a) q.box :=
          List.filter_congr fun q hq => by rw [inside_side hb c1 c2 (hin q hq)]
        have hb1 : (splitB d a b).1.w + (splitB d a b).1.h ≤ n ∧ (splitB d a b).2.w + (splitB d a b).2.h ≤ n := by
          cases d <;> simp [splitB] at c2 ⊢ <;> omega
        obtain ⟨u1, i1, i2, i3, i4, i5⟩ := ih ((p :: r).filter fun q => sideB d ((spanV b d).1 + a) q.box) _ t1 v1 hb1.1 k1 (by rw [k3]; exact hp.filter _)
        obtain ⟨u2, j1, j2, j3, j4, j5⟩ := ih ((p :: r).filter fun q => !sideB d ((spanV b d).1 + a) q.box) _ t2 v2 hb1.2 k2 (by rw [k4]; exact hp.filter _)
        refine ⟨.cut d a u1 u2, ?_, ⟨c1, c2, i2, j2⟩, ?_, (fun h => by cases h), fun _ => ?_⟩
        · simp only [planP, baseP]
          rw [if_neg hpb]
          unfold cutR
          rw [hf]
          simp only
          rw [hfi, hfo, i1, j1]
        · rw [placesB_cut]
          exact (i3.append j3).trans (filter_perm _ _)
        · have hlen := filter_len (fun q => sideB d ((spanV b d).1 + a) q.box) (p :: r)
          simp only [T.size]
          generalize hL1 : ((p :: r).filter fun q => sideB d ((spanV b d).1 + a) q.box) = L1 at *
          generalize hL2 : ((p :: r).filter fun q => !sideB d ((spanV b d).1 + a) q.box) = L2 at *
          have hpos : 1 ≤ (p :: r).length := by simp
          by_cases e1 : L1 = []
          · -- all in the second part
            have hall : (p :: r) = L2 := by
              rw [← hL2]
              refine (filter_all fun q hq => ?_).symm
              have := List.filter_eq_nil_iff.1 (hL1.trans e1) q hq
              simpa using this
            have hs : ∀ q ∈ (p :: r), (spanV b d).1 + a ≤ (spanV q.box d).1 := by
              intro q hq
              have g0 := List.filter_eq_nil_iff.1 (hL1.trans e1) q hq
              unfold sideB at g0
              have g1 := c4 q.box (List.mem_map.2 ⟨q, hq, rfl⟩)
              have g2 : ¬ (spanV q.box d).2 ≤ (spanV b d).1 + a := by simpa using g0
              omega
            have hsl := slD_second (d := d) (a := a) c1 hin hs ⟨y, hy, hty⟩
            have hne : L2 ≠ [] := by rw [← hall]; simp
            have g5 := j5 hne
            rw [← hall] at g5
            rw [i4 e1]
            omega
          · by_cases e2 : L2 = []
            · have hall : (p :: r) = L1 := by
                rw [← hL1]
                refine (filter_all fun q hq => ?_).symm
                have := List.filter_eq_nil_iff.1 (hL2.trans e2) q hq
                simpa using this
              have hs : ∀ q ∈ (p :: r), (spanV q.box d).2 ≤ (spanV b d).1 + a := by
                intro q hq
                have g0 := List.filter_eq_nil_iff.1 (hL2.trans e2) q hq
                unfold sideB at g0
                simpa using g0
              have hsl := slD_first (d := d) (a := a) c2 hin hs ⟨y, hy, hty⟩
              have g5 := i5 e1
              rw [← hall] at g5
              rw [j4 e2]
              omega
            · have g5 := i5 e1
              have g6 := j5 e2
              have s1 := slack_le L1 (splitB d a b).1
              have s2 := slack_le L2 (splitB d a b).2
              have l1 : 1 ≤ L1.length := List.length_pos_iff.2 e1
              have l2 : 1 ≤ L2.length := List.length_pos_iff.2 e2
              omega
end Go.Proofs.Ytdmlfhmnlddooaa
/- Best plans: valid, worth what the table says; the order of their numbers and how much waits: plain law. -/
namespace Go.Proofs.Ytdmlfhmnlddooaa
open Go Go.Pu

/-! ### the plan that is searched for is valid -/
theorem fits_okc {k : Work} : ∀ (t : T) (b : Box), t.fits k b = true → t.okc b := by
  intro t
  induction t with
  | waste => intro b _; trivial
  | pane => intro b _; trivial
  | cut d a p q ihp ihq =>
    intro b h
    simp only [T.fits, Bool.and_eq_true, decide_eq_true_eq] at h
    exact ⟨h.1.1.1, h.1.1.2, ihp _ h.1.2, ihq _ h.2⟩
theorem fits_of {k : Work} : ∀ (t : T) (b : Box), t.okc b → (∀ p ∈ placesB t b, paneFills k p.pane p.turned p.box.w p.box.h = true) → t.fits k b = true := by
  intro t
  induction t with
  | waste => intro b _ _; rfl
  | pane n tu => intro b _ h; exact h ⟨n, tu, b⟩ (by rw [placesB_pane]; simp)
  | cut d a p q ihp ihq =>
    intro b ⟨h1, h2, h3, h4⟩ h
    rw [placesB_cut] at h
    simp only [T.fits, Bool.and_eq_true, decide_eq_true_eq]
    exact ⟨⟨⟨h1, h2⟩, ihp _ h3 fun x hx => h x (List.mem_append_left _ hx)⟩, ihq _ h4 fun x hx => h x (List.mem_append_right _ hx)⟩
theorem meet_none {x y : Box} {d : Bool} (h : (spanV x d).2 ≤ (spanV y d).1) : meet x y = none ∧ meet y x = none := by
  unfold meet
  constructor
  · rw [if_neg]
    rintro ⟨_, _, h3, h4⟩
    cases d <;> simp [spanV] at h <;> omega
  · rw [if_neg]
    rintro ⟨_, _, h3, h4⟩
    cases d <;> simp [spanV] at h <;> omega
theorem places_apart : ∀ (t : T) (b : Box), 1 ≤ b.w → 1 ≤ b.h → t.okc b → Apart ((placesB t b).map (·.box)) := by
  intro t
  induction t with
  | waste => intro b _ _ _; exact List.Pairwise.nil
  | pane n tu => intro b _ _ _; rw [placesB_pane]; exact List.pairwise_singleton _ _
  | cut d a p q ihp ihq =>
    intro b hw hh ho
    obtain ⟨sp, sq⟩ := places_sides hw hh ho
    obtain ⟨o1, o2, o3, o4⟩ := ho
    obtain ⟨⟨w1, w2⟩, w3, w4⟩ := split_pos o1 o2 hw hh
    rw [placesB_cut, List.map_append]
    refine List.pairwise_append.2 ⟨ihp _ w1 w2 o3, ihq _ w3 w4 o4, fun x hx y hy => ?_⟩
    obtain ⟨x', hx', rfl⟩ := List.mem_map.1 hx
    obtain ⟨y', hy', rfl⟩ := List.mem_map.1 hy
    exact (meet_none (d := d) (by have := (sp x' hx').2; have := (sq y' hy').2; omega)).2
theorem sheet_valid {k : Work} (h : validWork k = true) : validBox (sheet k) = true := by
  simp only [validWork, Bool.and_eq_true, decide_eq_true_eq] at h
  rw [validBox_iff]
  simp only [sheet]
  omega
theorem valid_places {k : Work} {t : T} (hv : VP k t) (hl : (placesT k t).length ≤ 12) : validPlaces k (placesT k t) = true := by
  obtain ⟨h1, h2, h3⟩ := hv
  have hs := sheet_valid h1
  have hsp := sheet_pos h1
  have ho := fits_okc t _ h3
  unfold validPlaces
  rw [h1, decide_eq_true hl, decide_eq_true (show Apart ((placesT k t).map (·.box)) from places_apart t _ hsp.1 hsp.2 ho), Bool.true_and, Bool.and_true, Bool.true_and, List.all_eq_true]
  intro p hp
  have hin := places_in t _ hsp.1 hsp.2 ho p hp
  have hvb := validBox_in hs hin
  unfold placeOk
  rw [hvb, (inside_of hvb hs).2 hin, places_fill t _ h3 p hp]
  rfl
theorem planOf_ok {k : Work} {t : T} (hv : VP k t) (hl : (placesT k t).length ≤ 12) : ∃ u : T, planOf k (placesT k t) = some u ∧ VP k u ∧ (placesT k u).Perm (placesT k t) := by
  have hvp := valid_places hv hl
  obtain ⟨h1, h2, h3⟩ := hv
  have hw := h1
  simp only [validWork, Bool.and_eq_true, decide_eq_true_eq] at hw
  obtain ⟨u, e1, e2, e3, e4, e5⟩ := planP_ok 400 (placesT k t) (sheet k) t (sheet_valid h1) (by simp only [sheet]; omega) (fits_okc t _ h3) (List.Perm.refl _)
  refine ⟨u, by unfold planOf; rw [if_pos hvp]; exact e1, ⟨h1, ?_, ?_⟩, e3⟩
  · by_cases hn : placesT k t = []
    · rw [e4 hn]; omega
    · have := e5 hn
      have := slack_le (placesT k t) (sheet k)
      omega
  · refine fits_of u _ e2 fun p hp => ?_
    exact places_fill t _ h3 p (e3.mem_iff.1 hp)

/-! ### sums -/
theorem sumP_eq (vs : List Int) : ∀ (ps : List Place) (s : Int), sumP vs ps s = s + (ps.map fun p => vs.getD p.pane.toNat 0).sum := by
  intro ps
  induction ps with
  | nil => intro s; simp [sumP]
  | cons p r ih => intro s; simp only [sumP, ih, List.map_cons, List.sum_cons]; omega
theorem sum_perm {l m : List Int} (h : l.Perm m) : l.sum = m.sum := by
  induction h with
  | nil => rfl
  | cons x _ ih => simp [ih]
  | swap x y l => simp; omega
  | trans _ _ ih1 ih2 => exact ih1.trans ih2
theorem sumP_perm {vs : List Int} {ps qs : List Place} (h : ps.Perm qs) : sumP vs ps 0 = sumP vs qs 0 := by
  rw [sumP_eq, sumP_eq, sum_perm (h.map _)]

/-! ### the best plan -/
def LOk (k : Work) (vs : List Int) (w h : Int) (s : LS) : Prop := match s.1 with
  | none => s.2 = 0
  | some (i, tu) => paneFills k i tu w h = true ∧ vs.getD i 0 = s.2
theorem leafOne_ok {k : Work} {vs : List Int} {w h v : Int} {i : Nat} {tu : Bool} {s : LS} (hx : vs.getD i 0 = v) (hs : LOk k vs w h s) : LOk k vs w h (leafOne k w h v i tu s) := by
  unfold leafOne
  split
  · rename_i hc
    rw [Bool.and_eq_true] at hc
    exact ⟨hc.2, hx⟩
  · exact hs
theorem leafGo_ok {k : Work} {vs : List Int} {w h : Int} : ∀ (l : List Int) (i : Nat) (s : LS), (∀ j v, l[j]? = some v → vs.getD (i + j) 0 = v) → LOk k vs w h s → LOk k vs w h (leafGo k w h l i s) := by
  intro l
  induction l with
  | nil => intro i s _ hs; exact hs
  | cons v r ih =>
    intro i s hv hs
    have h0 : vs.getD i 0 = v := by have := hv 0 v rfl; simpa using this
    refine ih (i + 1) _ (fun j x hj => ?_) (leafOne_ok h0 (leafOne_ok h0 hs))
    have := hv (j + 1) x (by simpa using hj)
    rwa [show i + 1 + j = i + (j + 1) by omega]
theorem leafV_ok (k : Work) (vs : List Int) (w h : Int) : LOk k vs w h (leafV k vs w h) :=
  leafGo_ok vs 0 _ (fun j v hj => by rw [Nat.zero_add, List.getD_eq_getElem?_getD, hj]; rfl) rfl
theorem maxFrom_eq {f : Nat → Int} {w : Nat} : ∀ (r c : Nat) (v : Int), maxFrom f w r c v = v ∨ ∃ x, c ≤ x ∧ x < c + r ∧ f x + f (w - x) = maxFrom f w r c v := by
  intro r
  induction r with
  | zero => intro c v; exact .inl rfl
  | succ r ih =>
    intro c v
    simp only [maxFrom]
    rcases ih (c + 1) (max v (f c + f (w - c))) with h | ⟨x, h1, h2, h3⟩
    · by_cases hm : f c + f (w - c) ≤ v
      · left; rw [h]; omega
      · right; exact ⟨c, by omega, by omega, by rw [h]; omega⟩
    · exact .inr ⟨x, by omega, by omega, h3⟩
theorem findC_none {f : Nat → Int} {w : Nat} {v : Int} : ∀ {r c : Nat}, findC f w v r c = none → ∀ x, c ≤ x → x < c + r → f x + f (w - x) ≠ v := by
  intro r
  induction r with
  | zero => intro c _ x h1 h2; omega
  | succ r ih =>
    intro c h x h1 h2
    simp only [findC] at h
    split at h
    · cases h
    · rename_i hne
      by_cases hx : x = c
      · subst hx; exact hne
      · exact ih h x (by omega) (by omega)
theorem findC_some {f : Nat → Int} {w : Nat} {v : Int} : ∀ {r c x : Nat}, findC f w v r c = some x → c ≤ x ∧ x < c + r ∧ f x + f (w - x) = v := by
  intro r
  induction r with
  | zero => intro c x h; cases h
  | succ r ih =>
    intro c x h
    simp only [findC] at h
    split at h
    · rename_i he; cases h; exact ⟨Nat.le_refl _, by omega, he⟩
    · have := ih h; exact ⟨by omega, by omega, this.2.2⟩
theorem bestT_ok {k : Work} {vs : List Int} : ∀ (n w h : Nat) (x y : Int), w + h ≤ n → 1 ≤ w → 1 ≤ h →
    (bestT k vs n w h).fits k ⟨x, y, w, h⟩ = true ∧ sumP vs (placesB (bestT k vs n w h) ⟨x, y, w, h⟩) 0 = val k vs w h := by
  intro n
  induction n with
  | zero => intros; omega
  | succ n ih =>
    intro w h x y hn hw hh
    by_cases h1 : val k vs w h = 0
    · rw [bestT_zero h1, h1]; exact ⟨rfl, rfl⟩
    by_cases h2 : (leafV k vs w h).2 = val k vs w h
    · rw [bestT_leaf h1 h2]
      have hl := leafV_ok k vs w h
      unfold LOk at hl
      cases he : (leafV k vs w h).1 with
      | none => rw [he] at hl; simp only at hl; rw [hl] at h2; exact absurd h2.symm h1
      | some it =>
        obtain ⟨i, tu⟩ := it
        rw [he] at hl
        simp only at hl
        refine ⟨hl.1, ?_⟩
        simp only [leafT, placesB_pane, sumP, Int.toNat_natCast]
        rw [hl.2, h2]; omega
    cases h3 : findC (fun x => val k vs x h) w (val k vs w h) (w / 2) 1 with
    | some c =>
      rw [bestT_cut1 h1 h2 h3]
      obtain ⟨c1, c2, c3⟩ := findC_some h3
      have i1 := ih c h x y (by omega) (by omega) hh
      have i2 := ih (w - c) h (x + c) y (by omega) (by omega) hh
      have ec : ((w - c : Nat) : Int) = (w : Int) - (c : Int) := by omega
      rw [ec] at i2
      constructor
      · simp only [T.fits, splitB, if_true, Bool.and_eq_true, decide_eq_true_eq]
        exact ⟨⟨⟨by omega, by omega⟩, i1.1⟩, i2.1⟩
      · rw [placesB_cut, sumP_eq, List.map_append, List.sum_append]
        have s1 := i1.2
        have s2 := i2.2
        rw [sumP_eq] at s1 s2
        simp only [splitB, if_true]
        omega
    | none =>
      cases h4 : findC (fun y => val k vs w y) h (val k vs w h) (h / 2) 1 with
      | some c =>
        rw [bestT_cut2 h1 h2 h3 h4]
        obtain ⟨c1, c2, c3⟩ := findC_some h4
        have i1 := ih w c x y (by omega) hw (by omega)
        have i2 := ih w (h - c) x (y + c) (by omega) hw (by omega)
        have ec : ((h - c : Nat) : Int) = (h : Int) - (c : Int) := by omega
        rw [ec] at i2
        constructor
        · simp only [T.fits, splitB, Bool.false_eq_true, if_false, Bool.and_eq_true, decide_eq_true_eq]
          exact ⟨⟨⟨by omega, by omega⟩, i1.1⟩, i2.1⟩
        · rw [placesB_cut, sumP_eq, List.map_append, List.sum_append]
          have s1 := i1.2
          have s2 := i2.2
          rw [sumP_eq] at s1 s2
          simp only [splitB, Bool.false_eq_true, if_false]
          omega
      | none =>
        exfalso
        have hve := val_eq k vs hw hh
        rcases maxFrom_eq (f := fun y => val k vs w y) (w := h) (h / 2) 1 (maxFrom (fun x => val k vs x h) w (w / 2) 1 (leafV k vs w h).2) with e | ⟨c, c1, c2, c3⟩
        · rw [e] at hve
          rcases maxFrom_eq (f := fun x => val k vs x h) (w := w) (w / 2) 1 (leafV k vs w h).2 with e2 | ⟨c, c1, c2, c3⟩
          · rw [e2] at hve; exact h2 hve.symm
          · rw [← hve] at c3; exact findC_none h3 c c1 c2 c3
        · rw [← hve] at c3; exact findC_none h4 c c1 c2 c3
theorem size_of_planSize {t : T} (h : ¬ planSize t.plan < 0) : t.size ≤ 255 := by
  rw [planSize, countParts_T] at h
  split at h
  · omega
  · omega
theorem best_ok {k : Work} {vs : List Int} {t : T} (h : bestO k vs = some t) : told k vs = true ∧ VP k t ∧ sumP vs (placesT k t) 0 = bestV k vs := by
  unfold bestO at h
  split at h
  · rename_i ht
    obtain ⟨a1, a2, a3, a4, a5, a6, a7, a8⟩ := told_in ht
    split at h
    · cases h
    · rename_i hs
      cases h
      have hb := bestT_ok (k := k) (vs := vs) (k.w.toNat + k.h.toNat) k.w.toNat k.h.toNat 0 0 (Nat.le_refl _) (by omega) (by omega)
      rw [Int.toNat_of_nonneg (by omega), Int.toNat_of_nonneg (by omega)] at hb
      refine ⟨ht, ⟨a1, size_of_planSize hs, hb.1⟩, ?_⟩
      unfold bestV
      rw [if_pos ht]
      exact hb.2
  · cases h

/-! ### the numbers of the cuts, in order -/
theorem T.nums_good {ks : List (Int × Int)} : ∀ (t : T) (n ab : Int) (pre : List Int), (∀ k ∈ t.knots n ab, k ∈ ks) → (∀ m ∈ pre, m < n ∨ n + t.size ≤ m) → (ab < 0 ∨ ab ∈ pre) → Good ks pre ((t.knots n ab).map (·.1)) := by
  intro t
  induction t with
  | waste => intro n ab pre _ _ _ l1 m l2 h; simp [T.knots] at h
  | pane => intro n ab pre _ _ _ l1 m l2 h; simp [T.knots] at h
  | cut d a p q ihp ihq =>
    intro n ab pre hk hpre hab
    have hp := p.size_pos
    have hq := q.size_pos
    simp only [T.size] at hpre
    simp only [T.knots, List.mem_cons, List.mem_append] at hk
    have hbp : ∀ m ∈ (p.knots (n + 1) n).map (·.1), n + 1 ≤ m ∧ m < n + 1 + p.size := by
      intro m hm
      obtain ⟨k, hk, rfl⟩ := List.mem_map.1 hm
      have := T.knots_in _ _ _ _ hk; omega
    simp only [T.knots, List.map_cons, List.map_append]
    rw [← List.singleton_append]
    refine Good.app ?_ (Good.app (ihp _ n _ (fun k h => hk k (.inr (.inl h))) ?_ (.inr (by simp))) (ihq _ n _ (fun k h => hk k (.inr (.inr h))) ?_ (.inr (by simp))))
    · intro l1 m l2 he
      cases l1 with
      | nil =>
        simp at he
        obtain ⟨rfl, _⟩ := he
        refine ⟨ab, hk _ (.inl rfl), ?_, by simpa using hab⟩
        simp only [List.append_nil]
        intro hc
        have := hpre _ hc; omega
      | cons c l1 => simp at he
    · intro m hm
      rcases List.mem_append.1 hm with h | h
      · have := hpre _ h; omega
      · simp at h; omega
    · intro m hm
      rcases List.mem_append.1 hm with h | h
      · rcases List.mem_append.1 h with h | h
        · have := hpre _ h; omega
        · simp at h; omega
      · have := hbp _ h; omega
theorem nums_begins (t : T) : begins t.cuts (numsOf t) = true := by
  refine begins_yes ?_
  intro j n hj
  have hg := T.nums_good (ks := t.cuts) t 0 (-1) [] (fun _ h => h) (by simp) (.inl (by omega))
  obtain ⟨hlt, hx⟩ := List.getElem?_eq_some_iff.1 hj
  obtain ⟨pa, a1, a2, a3⟩ := hg ((numsOf t).take j) n ((numsOf t).drop (j + 1)) (by rw [← hx]; show numsOf t = _; simp)
  simp only [List.nil_append] at a2 a3
  exact stepOk_of (T.knots_nodup t 0 (-1)) a1 a2 a3
theorem nums_len (t : T) : (numsOf t).length = t.cuts.length := List.length_map _

/-! ### how much waits -/
def T.isCut : T → Nat
  | .cut _ _ _ _ => 1
  | _ => 0
def Cnt (ks : List (Int × Int)) : T → Int → Prop
  | .cut _ _ p q, n => aboveN ks n = ((p.isCut + q.isCut : Nat) : Int) ∧ Cnt ks p (n + 1) ∧ Cnt ks q (n + 1 + p.size)
  | _, _ => True
theorem countP_none {l : List (Int × Int)} {m : Int} (h : ∀ k ∈ l, k.2 ≠ m) : l.countP (fun k => decide (k.2 = m)) = 0 := by
  rw [List.countP_eq_zero]
  intro k hk
  simpa using h k hk
theorem knots_two (t : T) (n ab : Int) (k : Int × Int) (hk : k ∈ t.knots n ab) : k.2 = ab ∨ n ≤ k.2 := by
  have := T.knots_in _ _ _ _ hk
  by_cases e : k.1 = n
  · exact .inl (this.2.2.1 e)
  · exact .inr (this.2.2.2 e).1
theorem knots_above : ∀ (t : T) (n ab : Int), ab < n → (t.knots n ab).countP (fun k => decide (k.2 = ab)) = t.isCut := by
  intro t
  cases t with
  | waste => intros; rfl
  | pane => intros; rfl
  | cut d a p q =>
    intro n ab h
    have hp := p.size_pos
    simp only [T.knots, List.countP_cons, List.countP_append, T.isCut]
    rw [countP_none (l := p.knots (n + 1) n) (fun k hk => by have := knots_two _ _ _ _ hk; omega), countP_none (l := q.knots (n + 1 + p.size) n) (fun k hk => by have := knots_two _ _ _ _ hk; omega)]
    simp
theorem cnt_ok : ∀ (t : T) (n ab : Int) (pre post : List (Int × Int)), ab < n → (∀ k ∈ pre, k.2 < n ∨ n + t.size ≤ k.2) → (∀ k ∈ post, k.2 < n ∨ n + t.size ≤ k.2) → Cnt (pre ++ t.knots n ab ++ post) t n := by
  intro t
  induction t with
  | waste => intros; trivial
  | pane => intros; trivial
  | cut d a p q ihp ihq =>
    intro n ab pre post hab h1 h2
    have hp := p.size_pos
    have hq := q.size_pos
    simp only [T.size] at h1 h2
    have kp : ∀ k ∈ p.knots (n + 1) n, k.2 < n + 1 + p.size ∧ n ≤ k.2 := fun k hk => by
      have := T.knots_in _ _ _ _ hk
      by_cases e : k.1 = n + 1
      · have := this.2.2.1 e; omega
      · have := this.2.2.2 e; omega
    have kq : ∀ k ∈ q.knots (n + 1 + p.size) n, k.2 = n ∨ n + 1 + p.size ≤ k.2 := fun k hk => by
      have := T.knots_in _ _ _ _ hk
      by_cases e : k.1 = n + 1 + p.size
      · have := this.2.2.1 e; omega
      · have := this.2.2.2 e; omega
    refine ⟨?_, ?_, ?_⟩
    · unfold aboveN
      simp only [T.knots, List.countP_append, List.countP_cons]
      rw [countP_none (l := pre) (fun k hk => by have := h1 k hk; omega), countP_none (l := post) (fun k hk => by have := h2 k hk; omega), knots_above p (n + 1) n (by omega), knots_above q (n + 1 + p.size) n (by omega)]
      have hne : ¬ ab = n := by omega
      simp [hne]
    · have := ihp (n + 1) n (pre ++ [(n, ab)]) (q.knots (n + 1 + p.size) n ++ post) (by omega) (fun k hk => by
        rcases List.mem_append.1 hk with h | h
        · have := h1 k h; omega
        · simp at h; subst h; dsimp only; omega) (fun k hk => by
        rcases List.mem_append.1 hk with h | h
        · have := kq k h; omega
        · have := h2 k h; omega)
      simpa [T.knots, List.append_assoc] using this
    · have := ihq (n + 1 + p.size) n (pre ++ (n, ab) :: p.knots (n + 1) n) post (by omega) (fun k hk => by
        rcases List.mem_append.1 hk with h | h
        · have := h1 k h; omega
        · rcases List.mem_cons.1 h with rfl | h
          · dsimp only; omega
          · have := kp k h; omega) (fun k hk => by have := h2 k hk; omega)
      simpa [T.knots, List.append_assoc] using this
def waitL (ks : List (Int × Int)) : List Int → Int → List Int
  | [], _ => []
  | s :: r, w => w :: waitL ks r (w - 1 + aboveN ks s)
def endW (ks : List (Int × Int)) : List Int → Int → Int
  | [], w => w
  | s :: r, w => endW ks r (w - 1 + aboveN ks s)
theorem waitF_eq {ks : List (Int × Int)} : ∀ (l : List Int) (w : Int) (out : List Int), waitF ks l w out = out ++ waitL ks l w := by
  intro l
  induction l with
  | nil => intro w out; simp [waitF, waitL]
  | cons s r ih => intro w out; simp only [waitF, waitL, ih]; simp
theorem waitL_app {ks : List (Int × Int)} : ∀ (l m : List Int) (w : Int), waitL ks (l ++ m) w = waitL ks l w ++ waitL ks m (endW ks l w) := by
  intro l
  induction l with
  | nil => intros; rfl
  | cons s r ih => intro m w; simp only [List.cons_append, waitL, endW, ih]
theorem endW_app {ks : List (Int × Int)} : ∀ (l m : List Int) (w : Int), endW ks (l ++ m) w = endW ks m (endW ks l w) := by
  intro l
  induction l with
  | nil => intros; rfl
  | cons s r ih => intro m w; simp only [List.cons_append, endW, ih]
theorem endW_ok {ks : List (Int × Int)} : ∀ (t : T) (n ab w : Int), Cnt ks t n → endW ks ((t.knots n ab).map (·.1)) w = w - (t.isCut : Int) := by
  intro t
  induction t with
  | waste => intro n ab w _; simp [T.knots, endW, T.isCut]
  | pane => intro n ab w _; simp [T.knots, endW, T.isCut]
  | cut d a p q ihp ihq =>
    intro n ab w ⟨h1, h2, h3⟩
    simp only [T.knots, List.map_cons, List.map_append, endW, endW_app]
    rw [ihp _ _ _ h2, ihq _ _ _ h3, h1]
    simp only [T.isCut]
    omega
theorem isCut_table (t : T) : (t.isCut = 0 ∧ t.table = 0) ∨ (t.isCut = 1 ∧ 1 ≤ t.table) := by
  cases t with
  | waste => exact .inl ⟨rfl, rfl⟩
  | pane => exact .inl ⟨rfl, rfl⟩
  | cut d a p q =>
    refine .inr ⟨rfl, ?_⟩
    have := p.table_le
    have := q.table_le
    simp only [T.table]
    split <;> omega
theorem wait_ge {ks : List (Int × Int)} : ∀ (t : T) (n ab w : Int), Cnt ks t n → t.isCut = 1 → ∃ y ∈ waitL ks ((t.knots n ab).map (·.1)) w, w - 1 + t.table ≤ y := by
  intro t
  induction t with
  | waste => intro n ab w _ h; cases h
  | pane => intro n ab w _ h; cases h
  | cut d a p q ihp ihq =>
    intro n ab w ⟨h1, h2, h3⟩ _
    simp only [T.knots, List.map_cons, List.map_append, waitL, waitL_app]
    rw [endW_ok p _ _ _ h2, h1]
    have hp := isCut_table p
    have hq := isCut_table q
    have htab : (T.cut d a p q).table = if p.table = q.table then p.table + 1 else max p.table q.table := rfl
    rcases hp with ⟨p1, p2⟩ | ⟨p1, p2⟩
    · rcases hq with ⟨q1, q2⟩ | ⟨q1, q2⟩
      · refine ⟨w, by simp, ?_⟩
        rw [htab, p2, q2]
        simp
      · obtain ⟨y, hy, hle⟩ := ihq (n + 1 + p.size) n (w - 1 + ((p.isCut + q.isCut : Nat) : Int) - (p.isCut : Int)) h3 q1
        refine ⟨y, List.mem_cons_of_mem _ (List.mem_append_right _ hy), ?_⟩
        rw [htab, if_neg (by omega)]
        omega
    · obtain ⟨y, hy, hle⟩ := ihp (n + 1) n (w - 1 + ((p.isCut + q.isCut : Nat) : Int)) h2 p1
      rcases hq with ⟨q1, q2⟩ | ⟨q1, q2⟩
      · refine ⟨y, List.mem_cons_of_mem _ (List.mem_append_left _ hy), ?_⟩
        rw [htab, if_neg (by omega)]
        omega
      · obtain ⟨z, hz, hle2⟩ := ihq (n + 1 + p.size) n (w - 1 + ((p.isCut + q.isCut : Nat) : Int) - (p.isCut : Int)) h3 q1
        rw [htab]
        by_cases e : p.table = q.table
        · rw [if_pos e]
          exact ⟨y, List.mem_cons_of_mem _ (List.mem_append_left _ hy), by omega⟩
        · rw [if_neg e]
          by_cases g : p.table ≤ q.table
          · exact ⟨z, List.mem_cons_of_mem _ (List.mem_append_right _ hz), by omega⟩
          · exact ⟨y, List.mem_cons_of_mem _ (List.mem_append_left _ hy), by omega⟩
theorem highV_ge : ∀ (l : List Int) (m : Int), m ≤ highV l m ∧ ∀ x ∈ l, x ≤ highV l m := by
  intro l
  induction l with
  | nil => intro m; exact ⟨Int.le_refl _, fun x hx => by cases hx⟩
  | cons a r ih =>
    intro m
    obtain ⟨h1, h2⟩ := ih (max m a)
    simp only [highV]
    refine ⟨by omega, fun x hx => ?_⟩
    rcases List.mem_cons.1 hx with rfl | hx
    · omega
    · exact h2 x hx
theorem waits_enough (t : T) : t.table ≤ highV (waitF t.cuts (numsOf t) 1 []) 0 := by
  have hc : Cnt t.cuts t 0 := by
    have := cnt_ok t 0 (-1) [] [] (by omega) (by simp) (by simp)
    simpa [T.cuts] using this
  obtain ⟨g1, g2⟩ := highV_ge (waitF t.cuts (numsOf t) 1 []) 0
  rcases isCut_table t with ⟨_, h⟩ | ⟨h, _⟩
  · omega
  · obtain ⟨y, hy, hle⟩ := wait_ge t 0 (-1) 1 hc h
    have := g2 y (by rw [waitF_eq]; exact hy)
    omega
end Go.Proofs.Ytdmlfhmnlddooaa
namespace Go.Proofs.Ytdmlfhmnlddooaa
open Go Go.Pu

theorem waitF_len {ks : List (Int × Int)} : ∀ (l : List Int) (w : Int) (out : List Int), (waitF ks l w out).length = out.length + l.length := by
  intro l
  induction l with
  | nil => intro w out; simp [waitF]
  | cons s r ih => intro w out; simp only [waitF, ih, List.length_append, List.length_cons, List.length_nil]; omega
def drawPV (k : Work) (vs : List Int) : PV := .tup [(false, [.g (.agg k.cells)]), (false, [.g (.sl (vs.map encI))])]

/- laws.FnBestPlanSteps: 22 -> [4] -/
set_option maxRecDepth 100000 in
theorem law2_long (bs : List Nat) (hl : 1048576 < bs.length) : Ctr P 8 [.g (.sl (rows bs))] (.g (.bool true)) := by
  have hrl := rows_len bs
  refine ctr_of (fn := Go.Proofs.Try.f8) (by kernel_rfl) rfl rfl ?_
  rintro ⟨n, w0, F0, M, pin⟩ hn
  cases hn
  refine PW_seq ?_
  -- region 0
  refine PW_region ?_
  refine qMv .none ?_
  refine Pend ?_
  refine PW_seq ?_
  refine PW_seq ?_
  -- region 1
  refine PW_region ?_
  refine qMv .none ?_
  refine qLn .none ?_
  refine qCm .none ?_
  refine Pend ?_
  refine PW_cond rfl (fun h1 => ?_) (fun h1 => ?_)
  · -- t18
    refine PW_seq ?_
    -- region 2
    refine PW_region ?_
    refine qMv .none ?_
    refine Pend ?_
    refine PW_ret ⟨.inr rfl, ?_⟩
    exact ret_g (.cons (.tmp rfl) (.c (by first | exact .nil | exact .g _ | exact Ex.whole rfl rfl rfl)) .nil) rfl trivial
  · -- not t18
    have := of_decide_eq_false h1; omega
/- laws.FnBestPlanSteps: 22 -> [4] -/
set_option maxRecDepth 100000 in
theorem law2_bad (bs : List Nat) (hl : bs.length ≤ 1048576) {k : Work} {vs : List Int} (hdraw : CtrG P 57 8 [.c (.g (.sl (rows bs)))] [] (drawPV k vs) [])
    (hmine : CtrG P 58 28 [.c (.g (.agg k.cells)), .c (.g (.sl (vs.map encI)))] [] (planPV none) []) (htheirs : CtrG P 59 27 [.c (.g (.agg k.cells)), .c (.g (.sl (vs.map encI)))] [] (planPV none) []) : Ctr P 8 [.g (.sl (rows bs))] (.g (.bool true)) := by
  have hrl := rows_len bs
  have heq := ctr_l_equalPlan .waste
  refine ctr_of (fn := Go.Proofs.Try.f8) (by kernel_rfl) rfl rfl ?_
  rintro ⟨n, w0, F0, M, pin⟩ hn
  cases hn
  refine PW_seq ?_
  -- region 0
  refine PW_region ?_
  refine qMv .none ?_
  refine Pend ?_
  refine PW_seq ?_
  refine PW_seq ?_
  -- region 1
  refine PW_region ?_
  refine qMv .none ?_
  refine qLn .none ?_
  refine qCm .none ?_
  refine Pend ?_
  refine PW_cond rfl (fun h1 => ?_) (fun h1 => ?_)
  · -- t18
    have := of_decide_eq_true h1; omega
  · -- not t18
    refine PW_skip ?_
    refine PW_seq ?_
    -- region 3
    refine PW_region ?_
    refine qMv .none ?_
    refine P00 .none (S_callG [] [] false hdraw (.g rfl .nil) trivial rfl (.inl rfl) rfl) ?_
    refine qMv .none ?_
    refine qEx1 .none ?_
    refine qEx1 .none ?_
    refine qBx .none ?_
    refine qSr .none ?_
    refine qMv .none ?_
    refine Pend ?_
    refine PW_seq ?_
    -- region 4
    refine PW_region ?_
    refine qLd .none ?_
    refine qMv .none ?_
    refine P00 .none (S_callG [] [] false hmine (.g rfl (.g rfl .nil)) trivial rfl (.inl rfl) rfl) ?_
    refine qMv .none ?_
    refine qEx1 .none ?_
    refine qEx1 .none ?_
    refine qBx .none ?_
    refine P01 .none (by first | exact S_storeW rfl rfl rfl rfl rfl rfl | exact S_storeWe rfl rfl rfl HK rfl rfl rfl | exact S_storeP rfl rfl rfl rfl rfl (Nat.le_of_ble_eq_true rfl) | exact S_storeLW rfl rfl rfl rfl rfl rfl rfl | exact S_storeW rfl rfl rfl (Plan.cells_one _) (Plan.cells_len _) rfl) ?_
    refine qMv .none ?_
    refine Pend ?_
    refine PW_seq ?_
    -- region 5
    refine PW_region ?_
    refine qLd .none ?_
    refine qMv .none ?_
    refine P00 .none (S_callG [] [] false htheirs (.g rfl (.g rfl .nil)) trivial rfl (.inl rfl) rfl) ?_
    refine qMv .none ?_
    refine qEx1 .none ?_
    refine qEx1 .none ?_
    refine qBx .none ?_
    refine P01 .none (by first | exact S_storeW rfl rfl rfl rfl rfl rfl | exact S_storeWe rfl rfl rfl HK rfl rfl rfl | exact S_storeP rfl rfl rfl rfl rfl (Nat.le_of_ble_eq_true rfl) | exact S_storeLW rfl rfl rfl rfl rfl rfl rfl | exact S_storeW rfl rfl rfl (Plan.cells_one _) (Plan.cells_len _) rfl) ?_
    refine qMv .none ?_
    refine Pend ?_
    refine PW_seq ?_
    refine PW_seq ?_
    -- region 6
    refine PW_region ?_
    refine P10 .none (by first | exact S_loadOW rfl rfl rfl rfl rfl | exact S_loadRW rfl rfl rfl | exact S_loadLA rfl rfl rfl (Nat.le_of_ble_eq_true rfl) rfl | exact S_loadOA rfl rfl rfl (Nat.le_of_ble_eq_true rfl) rfl | exact S_loadRA rfl (Nat.le_of_ble_eq_true rfl) rfl | exact S_loadRW rfl (Plan.cells_len _) rfl | exact S_loadOW rfl rfl rfl (Plan.cells_len _) rfl) ?_
    refine P10 .none (by first | exact S_loadOW rfl rfl rfl rfl rfl | exact S_loadRW rfl rfl rfl | exact S_loadLA rfl rfl rfl (Nat.le_of_ble_eq_true rfl) rfl | exact S_loadOA rfl rfl rfl (Nat.le_of_ble_eq_true rfl) rfl | exact S_loadRA rfl (Nat.le_of_ble_eq_true rfl) rfl | exact S_loadRW rfl (Plan.cells_len _) rfl | exact S_loadOW rfl rfl rfl (Plan.cells_len _) rfl) ?_
    refine P00 .none (S_call (.one rfl (.one rfl .nil)) rfl heq (.inl rfl) rfl) ?_
    refine qCm .none ?_
    refine qMv .none ?_
    refine Psplit 40 rfl (fun h2 => ?_) (fun h2 => ?_)
    · -- t40 = true
      simp at h2
    · -- t40 = false
      refine qMv (.yes rfl rfl h2) ?_
      refine qMv (.yes rfl rfl h2) ?_
      refine qCm (.yes rfl rfl h2) ?_
      refine P10 .none (S_pickF rfl h2 rfl rfl) ?_
      refine qMv .none ?_
      refine Psplit 45 rfl (fun h4 => ?_) (fun h4 => ?_)
      · -- t45 = true
        simp at h4
      · -- t45 = false
        refine qMv (.yes rfl rfl h4) ?_
        refine qCm (.yes rfl rfl h4) ?_
        refine P10 .none (S_pickF rfl h4 rfl rfl) ?_
        refine Pend ?_
        refine PW_cond rfl (fun h6 => ?_) (fun h6 => ?_)
        · -- t48
          refine PW_seq ?_
          -- region 7
          refine PW_region ?_
          refine P10 .none (by first | exact S_loadOW rfl rfl rfl rfl rfl | exact S_loadRW rfl rfl rfl | exact S_loadLA rfl rfl rfl (Nat.le_of_ble_eq_true rfl) rfl | exact S_loadOA rfl rfl rfl (Nat.le_of_ble_eq_true rfl) rfl | exact S_loadRA rfl (Nat.le_of_ble_eq_true rfl) rfl | exact S_loadRW rfl (Plan.cells_len _) rfl | exact S_loadOW rfl rfl rfl (Plan.cells_len _) rfl) ?_
          refine P10 .none (by first | exact S_loadOW rfl rfl rfl rfl rfl | exact S_loadRW rfl rfl rfl | exact S_loadLA rfl rfl rfl (Nat.le_of_ble_eq_true rfl) rfl | exact S_loadOA rfl rfl rfl (Nat.le_of_ble_eq_true rfl) rfl | exact S_loadRA rfl (Nat.le_of_ble_eq_true rfl) rfl | exact S_loadRW rfl (Plan.cells_len _) rfl | exact S_loadOW rfl rfl rfl (Plan.cells_len _) rfl) ?_
          refine P00 .none (S_call (.one rfl (.one rfl .nil)) rfl heq (.inl rfl) rfl) ?_
          refine qMv .none ?_
          refine Psplit 52 rfl (fun h7 => ?_) (fun h7 => ?_)
          · -- t52 = true
            refine qMv (.yes rfl rfl h7) ?_
            refine qMv (.yes rfl rfl h7) ?_
            refine qCm (.yes rfl rfl h7) ?_
            refine P10 .none (S_pickT rfl h7 rfl rfl) ?_
            refine qMv .none ?_
            refine Pend ?_
            refine PW_ret ⟨.inr rfl, ?_⟩
            exact ret_g (.cons (.tmp rfl) (.c (by first | exact .nil | exact .g _ | exact Ex.whole rfl rfl rfl)) .nil) rfl trivial
          · -- t52 = false
            cases h7
        · -- not t48
          cases h6
/- laws.FnBestPlanSteps: 22 -> [4] -/
set_option maxRecDepth 100000 in
theorem law2_good (bs : List Nat) (hl : bs.length ≤ 1048576) {k : Work} {vs : List Int} {t : T} (hb : bestO k vs = some t) (hdraw : CtrG P 57 8 [.c (.g (.sl (rows bs)))] [] (drawPV k vs) [])
    (hmine : CtrG P 58 28 [.c (.g (.agg k.cells)), .c (.g (.sl (vs.map encI)))] [] (planPV (some t)) []) (htheirs : CtrG P 59 27 [.c (.g (.agg k.cells)), .c (.g (.sl (vs.map encI)))] [] (planPV (some t)) []) : Ctr P 8 [.g (.sl (rows bs))] (.g (.bool true)) := by
  have hrl := rows_len bs
  have heq := ctr_l_equalPlan t
  obtain ⟨ht, hv, hsum⟩ := best_ok hb
  obtain ⟨_, _, _, _, _, hp7, hvl, hvs⟩ := told_in ht
  have h255 := hv.2.1
  have hpo := ctr_i_PlacesOf k t hv
  change Ctr P 22 _ (.g (.sl ((placesT k t).map Place.cells))) at hpo
  have hpn := placesT_len hv
  have hfind := planOf_ok hv
  have hbest := ctr_bestV k vs (by omega)
  have hplan := ctr_i_PlanOfPlaces k (placesT k t) (by omega)
  have hval : ∀ u, VP k u → (placesT k u).Perm (placesT k t) → Ctr P 13 [.g (.agg k.cells), .g (.agg u.plan.cells), .g (.sl (vs.map encI))] (.g (.int .i64 (bestV k vs))) := fun u h1 h2 => by
    have := ctr_i_PlanValue k u h1 vs hvl hvs
    rwa [sumP_perm h2, hsum] at this
  have hqm : ((placesT k t).map Place.cells).length = (placesT k t).length := List.length_map _
  have hns := ctr_i_NumbersOf t h255
  have hnl := nums_len t
  have hcl := (T.cuts_ok h255).1
  have hbg := nums_begins t
  have hbb := best_begins t
  have hbl := T.best_length t 0 (-1)
  have hr1 := ctr_i_RunSteps k t hv (numsOf t) hbg
  have hbs := ctr_i_BestSteps t h255
  have hr2 := ctr_i_RunSteps k t hv (t.best 0) hbb
  have hl1 := runT_len (k := k) (t := t) (numsOf t)
  have hl2 := runT_len (k := k) (t := t) (t.best 0)
  have hsb := ctr_l_sameBoxes (runT k t (numsOf t)) (runT k t (t.best 0)) (by omega) (by unfold T.cuts at hcl; omega)
  rw [sameBoxes_perm ((run_end hv hbg hnl).trans (run_end hv hbb hbl).symm)] at hsb
  have hwt := ctr_i_WaitingOf t h255 (numsOf t) (by omega) (by rw [hbg, decide_eq_true hnl]; rfl)
  have hwl := waitF_len (ks := t.cuts) (numsOf t) 1 []
  have hhi := ctr_l_highest (waitF t.cuts (numsOf t) 1 []) (by rw [hwl]; simp; omega)
  have hlt := ctr_i_LeastTable t h255
  have hge := waits_enough t
  generalize placesT k t = ps at *
  refine ctr_of (fn := Go.Proofs.Try.f8) (by kernel_rfl) rfl rfl ?_
  rintro ⟨n, w0, F0, M, pin⟩ hn
  cases hn
  refine PW_seq ?_
  -- region 0
  refine PW_region ?_
  refine qMv .none ?_
  refine Pend ?_
  refine PW_seq ?_
  refine PW_seq ?_
  -- region 1
  refine PW_region ?_
  refine qMv .none ?_
  refine qLn .none ?_
  refine qCm .none ?_
  refine Pend ?_
  refine PW_cond rfl (fun h1 => ?_) (fun h1 => ?_)
  · -- t18
    have := of_decide_eq_true h1; omega
  · -- not t18
    refine PW_skip ?_
    refine PW_seq ?_
    -- region 3
    refine PW_region ?_
    refine qMv .none ?_
    refine P00 .none (S_callG [] [] false hdraw (.g rfl .nil) trivial rfl (.inl rfl) rfl) ?_
    refine qMv .none ?_
    refine qEx1 .none ?_
    refine qEx1 .none ?_
    refine qBx .none ?_
    refine qSr .none ?_
    refine qMv .none ?_
    refine Pend ?_
    refine PW_seq ?_
    -- region 4
    refine PW_region ?_
    refine qLd .none ?_
    refine qMv .none ?_
    refine P00 .none (S_callG [] [] false hmine (.g rfl (.g rfl .nil)) trivial rfl (.inl rfl) rfl) ?_
    refine qMv .none ?_
    refine qEx1 .none ?_
    refine qEx1 .none ?_
    refine qBx .none ?_
    refine P01 .none (by first | exact S_storeW rfl rfl rfl rfl rfl rfl | exact S_storeWe rfl rfl rfl HK rfl rfl rfl | exact S_storeP rfl rfl rfl rfl rfl (Nat.le_of_ble_eq_true rfl) | exact S_storeLW rfl rfl rfl rfl rfl rfl rfl | exact S_storeW rfl rfl rfl (Plan.cells_one _) (Plan.cells_len _) rfl) ?_
    refine qMv .none ?_
    refine Pend ?_
    refine PW_seq ?_
    -- region 5
    refine PW_region ?_
    refine qLd .none ?_
    refine qMv .none ?_
    refine P00 .none (S_callG [] [] false htheirs (.g rfl (.g rfl .nil)) trivial rfl (.inl rfl) rfl) ?_
    refine qMv .none ?_
    refine qEx1 .none ?_
    refine qEx1 .none ?_
    refine qBx .none ?_
    refine P01 .none (by first | exact S_storeW rfl rfl rfl rfl rfl rfl | exact S_storeWe rfl rfl rfl HK rfl rfl rfl | exact S_storeP rfl rfl rfl rfl rfl (Nat.le_of_ble_eq_true rfl) | exact S_storeLW rfl rfl rfl rfl rfl rfl rfl | exact S_storeW rfl rfl rfl (Plan.cells_one _) (Plan.cells_len _) rfl) ?_
    refine qMv .none ?_
    refine Pend ?_
    refine PW_seq ?_
    refine PW_seq ?_
    -- region 6
    refine PW_region ?_
    refine P10 .none (by first | exact S_loadOW rfl rfl rfl rfl rfl | exact S_loadRW rfl rfl rfl | exact S_loadLA rfl rfl rfl (Nat.le_of_ble_eq_true rfl) rfl | exact S_loadOA rfl rfl rfl (Nat.le_of_ble_eq_true rfl) rfl | exact S_loadRA rfl (Nat.le_of_ble_eq_true rfl) rfl | exact S_loadRW rfl (Plan.cells_len _) rfl | exact S_loadOW rfl rfl rfl (Plan.cells_len _) rfl) ?_
    refine P10 .none (by first | exact S_loadOW rfl rfl rfl rfl rfl | exact S_loadRW rfl rfl rfl | exact S_loadLA rfl rfl rfl (Nat.le_of_ble_eq_true rfl) rfl | exact S_loadOA rfl rfl rfl (Nat.le_of_ble_eq_true rfl) rfl | exact S_loadRA rfl (Nat.le_of_ble_eq_true rfl) rfl | exact S_loadRW rfl (Plan.cells_len _) rfl | exact S_loadOW rfl rfl rfl (Plan.cells_len _) rfl) ?_
    refine P00 .none (S_call (.one rfl (.one rfl .nil)) rfl heq (.inl rfl) rfl) ?_
    refine qCm .none ?_
    refine qMv .none ?_
    refine Psplit 40 rfl (fun h2 => ?_) (fun h2 => ?_)
    · -- t40 = true
      simp at h2
    · -- t40 = false
      refine qMv (.yes rfl rfl h2) ?_
      refine qMv (.yes rfl rfl h2) ?_
      refine qCm (.yes rfl rfl h2) ?_
      refine P10 .none (S_pickF rfl h2 rfl rfl) ?_
      refine qMv .none ?_
      refine Psplit 45 rfl (fun h4 => ?_) (fun h4 => ?_)
      · -- t45 = true
        simp at h4
      · -- t45 = false
        refine qMv (.yes rfl rfl h4) ?_
        refine qCm (.yes rfl rfl h4) ?_
        refine P10 .none (S_pickF rfl h4 rfl rfl) ?_
        refine Pend ?_
        refine PW_cond rfl (fun h6 => ?_) (fun h6 => ?_)
        · -- t48
          cases h6
        · -- not t48
          refine PW_skip ?_
          refine PW_seq ?_
          -- region 8
          refine PW_region ?_
          refine qLd .none ?_
          refine P10 .none (by first | exact S_loadOW rfl rfl rfl rfl rfl | exact S_loadRW rfl rfl rfl | exact S_loadLA rfl rfl rfl (Nat.le_of_ble_eq_true rfl) rfl | exact S_loadOA rfl rfl rfl (Nat.le_of_ble_eq_true rfl) rfl | exact S_loadRA rfl (Nat.le_of_ble_eq_true rfl) rfl | exact S_loadRW rfl (Plan.cells_len _) rfl | exact S_loadOW rfl rfl rfl (Plan.cells_len _) rfl) ?_
          refine P00 .none (S_call (.one rfl (.one rfl .nil)) rfl hpo (.inl rfl) rfl) ?_
          refine qMv .none ?_
          refine Pend ?_
          refine PW_join (ι := Unit) (fun _ => [(3, .c (.optr 3 0 0)), (4, .c (.g (.sl (vs.map encI)))), (5, .c (.optr 5 0 0)), (2, .c (.g (.bool false)))]) (fun _ => [(3, ⟨25, 0, .gnd [k.cells]⟩), (5, ⟨34, 0, .gnd [t.plan.cells]⟩)]) (fun _ => True) ?_ (fun _ _ => ?_)
          ·
            refine PW_seq ?_
            -- region 9
            refine PW_region ?_
            refine qMv .none ?_
            refine qLn .none ?_
            refine qCm .none ?_
            refine Pend ?_
            refine PW_cond rfl (fun h8 => ?_) (fun h8 => ?_)
            · -- t62
              refine PW_seq ?_
              obtain ⟨u, hu, hvu, hpu⟩ := hfind (by have := of_decide_eq_true h8; omega)
              rw [hu] at hplan
              --region 10
              refine PW_region ?_
              refine qLd .none ?_
              refine qMv .none ?_
              refine P00 .none (S_callG [] [] false hplan (.g rfl (.g rfl .nil)) trivial rfl (.inl rfl) rfl) ?_
              refine qMv .none ?_
              refine qEx1 .none ?_
              refine qEx1 .none ?_
              refine qBx .none ?_
              refine P01 .none (by first | exact S_storeW rfl rfl rfl rfl rfl rfl | exact S_storeWe rfl rfl rfl HK rfl rfl rfl | exact S_storeP rfl rfl rfl rfl rfl (Nat.le_of_ble_eq_true rfl) | exact S_storeLW rfl rfl rfl rfl rfl rfl rfl | exact S_storeW rfl rfl rfl (Plan.cells_one _) (Plan.cells_len _) rfl) ?_
              refine qMv .none ?_
              refine Pend ?_
              refine PW_seq ?_
              -- region 11
              refine PW_draw (by kernel_rfl) ?_
              refine qMv .none ?_
              refine qCm .none ?_
              refine qMv .none ?_
              refine Psplit 71 rfl (fun h9 => ?_) (fun h9 => ?_)
              · -- t71 = true
                cases h9
              · -- t71 = false
                refine qLd (.yes rfl rfl h9) ?_
                refine P10 (.yes rfl rfl h9) (by first | exact S_loadOW rfl rfl rfl rfl rfl | exact S_loadRW rfl rfl rfl | exact S_loadLA rfl rfl rfl (Nat.le_of_ble_eq_true rfl) rfl | exact S_loadOA rfl rfl rfl (Nat.le_of_ble_eq_true rfl) rfl | exact S_loadRA rfl (Nat.le_of_ble_eq_true rfl) rfl | exact S_loadRW rfl (Plan.cells_len _) rfl | exact S_loadOW rfl rfl rfl (Plan.cells_len _) rfl) ?_
                refine qMv (.yes rfl rfl h9) ?_
                refine P00 (.yes rfl rfl h9) (S_call (.one rfl (.one rfl (.one rfl .nil))) rfl (hval u hvu hpu) (.inl rfl) rfl) ?_
                refine qLd (.yes rfl rfl h9) ?_
                refine qMv (.yes rfl rfl h9) ?_
                refine P00 (.yes rfl rfl h9) (S_callG [] [] false hbest (.g rfl (.g rfl .nil)) trivial rfl (.inl rfl) rfl) ?_
                refine qCm (.yes rfl rfl h9) ?_
                refine P10 .none (S_pickF rfl h9 rfl rfl) ?_
                refine Pend ⟨by kernel_rfl, ?_⟩
                refine PW_cond rfl (fun h10 => ?_) (fun h10 => ?_)
                · -- t80
                  simp at h10
                · -- not t80
                  refine PW_skip ?_
                  exact ⟨(), trivial, by repeat (first | exact trivial | refine And.intro rfl ?_ | refine And.intro (by show some (PV.c (LC.g _)) = some (PV.c (LC.g _)); simp only [*, decide_true, decide_false, eq_self, if_true, if_false, reduceIte, Bool.false_eq_true, Bool.and_false, Bool.false_and, Bool.true_and, Bool.and_true, Bool.or_true, Bool.true_or, Bool.false_or, Bool.or_false, Bool.not_true, Bool.not_false]) ?_), by repeat (first | exact trivial | refine And.intro rfl ?_ | refine And.intro (by show some (PV.c (LC.g _)) = some (PV.c (LC.g _)); simp only [*, decide_true, decide_false, eq_self, if_true, if_false, reduceIte, Bool.false_eq_true, Bool.and_false, Bool.false_and, Bool.true_and, Bool.and_true, Bool.or_true, Bool.true_or, Bool.false_or, Bool.or_false, Bool.not_true, Bool.not_false]) ?_)⟩
            · -- not t62
              refine PW_skip ?_
              exact ⟨(), trivial, by repeat (first | exact trivial | refine And.intro rfl ?_ | refine And.intro (by show some (PV.c (LC.g _)) = some (PV.c (LC.g _)); simp only [*, decide_true, decide_false, eq_self, if_true, if_false, reduceIte, Bool.false_eq_true, Bool.and_false, Bool.false_and, Bool.true_and, Bool.and_true, Bool.or_true, Bool.true_or, Bool.false_or, Bool.or_false, Bool.not_true, Bool.not_false]) ?_), by repeat (first | exact trivial | refine And.intro rfl ?_ | refine And.intro (by show some (PV.c (LC.g _)) = some (PV.c (LC.g _)); simp only [*, decide_true, decide_false, eq_self, if_true, if_false, reduceIte, Bool.false_eq_true, Bool.and_false, Bool.false_and, Bool.true_and, Bool.and_true, Bool.or_true, Bool.true_or, Bool.false_or, Bool.or_false, Bool.not_true, Bool.not_false]) ?_)⟩
          ·
            refine PW_seq ?_
            -- region 13
            refine PW_draw (by kernel_rfl) ?_
            refine qLd .none ?_
            refine P10 .none (by first | exact S_loadOW rfl rfl rfl rfl rfl | exact S_loadRW rfl rfl rfl | exact S_loadLA rfl rfl rfl (Nat.le_of_ble_eq_true rfl) rfl | exact S_loadOA rfl rfl rfl (Nat.le_of_ble_eq_true rfl) rfl | exact S_loadRA rfl (Nat.le_of_ble_eq_true rfl) rfl | exact S_loadRW rfl (Plan.cells_len _) rfl | exact S_loadOW rfl rfl rfl (Plan.cells_len _) rfl) ?_
            refine P10 .none (by first | exact S_loadOW rfl rfl rfl rfl rfl | exact S_loadRW rfl rfl rfl | exact S_loadLA rfl rfl rfl (Nat.le_of_ble_eq_true rfl) rfl | exact S_loadOA rfl rfl rfl (Nat.le_of_ble_eq_true rfl) rfl | exact S_loadRA rfl (Nat.le_of_ble_eq_true rfl) rfl | exact S_loadRW rfl (Plan.cells_len _) rfl | exact S_loadOW rfl rfl rfl (Plan.cells_len _) rfl) ?_
            refine P00 .none (S_call (.one rfl .nil) rfl hns (.inl rfl) rfl) ?_
            refine P00 .none (S_call (.one rfl (.one rfl (.one rfl .nil))) rfl hr1 (.inl rfl) rfl) ?_
            refine qMv .none ?_
            refine qEx1 .none ?_
            refine qEx1 .none ?_
            refine qMv .none ?_
            refine qMv .none ?_
            refine Pend ⟨by kernel_rfl, ?_⟩
            refine PW_seq ?_
            -- region 14
            refine PW_draw (by kernel_rfl) ?_
            refine qLd .none ?_
            refine P10 .none (by first | exact S_loadOW rfl rfl rfl rfl rfl | exact S_loadRW rfl rfl rfl | exact S_loadLA rfl rfl rfl (Nat.le_of_ble_eq_true rfl) rfl | exact S_loadOA rfl rfl rfl (Nat.le_of_ble_eq_true rfl) rfl | exact S_loadRA rfl (Nat.le_of_ble_eq_true rfl) rfl | exact S_loadRW rfl (Plan.cells_len _) rfl | exact S_loadOW rfl rfl rfl (Plan.cells_len _) rfl) ?_
            refine P10 .none (by first | exact S_loadOW rfl rfl rfl rfl rfl | exact S_loadRW rfl rfl rfl | exact S_loadLA rfl rfl rfl (Nat.le_of_ble_eq_true rfl) rfl | exact S_loadOA rfl rfl rfl (Nat.le_of_ble_eq_true rfl) rfl | exact S_loadRA rfl (Nat.le_of_ble_eq_true rfl) rfl | exact S_loadRW rfl (Plan.cells_len _) rfl | exact S_loadOW rfl rfl rfl (Plan.cells_len _) rfl) ?_
            refine P00 .none (S_call (.one rfl .nil) rfl hbs (.inl rfl) rfl) ?_
            refine P00 .none (S_call (.one rfl (.one rfl (.one rfl .nil))) rfl hr2 (.inl rfl) rfl) ?_
            refine qMv .none ?_
            refine qEx1 .none ?_
            refine qEx1 .none ?_
            refine qMv .none ?_
            refine qMv .none ?_
            refine Pend ⟨by kernel_rfl, ?_⟩
            refine PW_seq ?_
            -- region 15
            refine PW_draw (by kernel_rfl) ?_
            refine qMv .none ?_
            refine qMv .none ?_
            refine Psplit 98 rfl (fun h11 => ?_) (fun h11 => ?_)
            · -- t98 = true
              refine qMv (.yes rfl rfl h11) ?_
              refine P10 .none (S_pickT rfl h11 rfl rfl) ?_
              refine qMv .none ?_
              refine Psplit 101 rfl (fun h12 => ?_) (fun h12 => ?_)
              · -- t101 = true
                refine qMv (.yes rfl rfl h12) ?_
                refine qMv (.yes rfl rfl h12) ?_
                refine P00 (.yes rfl rfl h12) (S_call (.one rfl (.one rfl .nil)) rfl hsb (.inl rfl) rfl) ?_
                refine P10 .none (S_pickT rfl h12 rfl rfl) ?_
                refine qMv .none ?_
                refine Psplit 106 rfl (fun h13 => ?_) (fun h13 => ?_)
                · -- t106 = true
                  refine P10 (.yes rfl rfl h13) (by first | exact S_loadOW rfl rfl rfl rfl rfl | exact S_loadRW rfl rfl rfl | exact S_loadLA rfl rfl rfl (Nat.le_of_ble_eq_true rfl) rfl | exact S_loadOA rfl rfl rfl (Nat.le_of_ble_eq_true rfl) rfl | exact S_loadRA rfl (Nat.le_of_ble_eq_true rfl) rfl | exact S_loadRW rfl (Plan.cells_len _) rfl | exact S_loadOW rfl rfl rfl (Plan.cells_len _) rfl) ?_
                  refine P10 (.yes rfl rfl h13) (by first | exact S_loadOW rfl rfl rfl rfl rfl | exact S_loadRW rfl rfl rfl | exact S_loadLA rfl rfl rfl (Nat.le_of_ble_eq_true rfl) rfl | exact S_loadOA rfl rfl rfl (Nat.le_of_ble_eq_true rfl) rfl | exact S_loadRA rfl (Nat.le_of_ble_eq_true rfl) rfl | exact S_loadRW rfl (Plan.cells_len _) rfl | exact S_loadOW rfl rfl rfl (Plan.cells_len _) rfl) ?_
                  refine P00 (.yes rfl rfl h13) (S_call (.one rfl .nil) rfl hns (.inl rfl) rfl) ?_
                  refine P00 (.yes rfl rfl h13) (S_call (.one rfl (.one rfl .nil)) rfl hwt (.inl rfl) rfl) ?_
                  refine P00 (.yes rfl rfl h13) (S_call (.one rfl .nil) rfl hhi (.inl rfl) rfl) ?_
                  refine P10 (.yes rfl rfl h13) (by first | exact S_loadOW rfl rfl rfl rfl rfl | exact S_loadRW rfl rfl rfl | exact S_loadLA rfl rfl rfl (Nat.le_of_ble_eq_true rfl) rfl | exact S_loadOA rfl rfl rfl (Nat.le_of_ble_eq_true rfl) rfl | exact S_loadRA rfl (Nat.le_of_ble_eq_true rfl) rfl | exact S_loadRW rfl (Plan.cells_len _) rfl | exact S_loadOW rfl rfl rfl (Plan.cells_len _) rfl) ?_
                  refine P00 (.yes rfl rfl h13) (S_call (.one rfl .nil) rfl hlt (.inl rfl) rfl) ?_
                  refine qCm (.yes rfl rfl h13) ?_
                  refine P10 .none (S_pickT rfl h13 rfl rfl) ?_
                  refine qMv .none ?_
                  refine Pend ⟨by kernel_rfl, ?_⟩
                  refine PW_ret ⟨.inr rfl, ?_⟩
                  exact ret_g (.cons (.tmp rfl) (.c (by first | exact .nil | exact .g _ | exact Ex.whole rfl rfl rfl)) .nil) (by show GV.bool _ = GV.bool _; rw [decide_eq_true hge]) trivial
                · -- t106 = false
                  cases h13
              · -- t101 = false
                cases h12
            · -- t98 = false
              cases h11
/-- The law holds of every code. -/
theorem law2_all (bs : List Nat) (hb : ∀ b ∈ bs, b < 256) : Ctr P 8 [.g (.sl (rows bs))] (.g (.bool true)) := by
  by_cases hl : bs.length ≤ 1048576
  · have hd := ctr_drawP bs hb (by omega)
    obtain ⟨d1, d2, d3, d4, d5, d6⟩ := drawV_in (bs.take 2000)
    generalize (drawV (bs.take 2000)).1 = k at *
    generalize (drawV (bs.take 2000)).2 = vs at *
    have hm := ctr_i_bestO k vs (by omega)
    have ht := ctr_s_bestO k (by omega) vs (by omega)
    cases hb : bestO k vs with
    | none => rw [hb] at hm ht; exact law2_bad bs hl hd hm ht
    | some t => rw [hb] at hm ht; exact law2_good bs hl hb hd hm ht
  · exact law2_long bs (by omega)

end Go.Proofs.Ytdmlfhmnlddooaa
