/- The pure layer and the contracts of the functions, part 4: what the functions of the program leave, as values. -/
import Derived.Test.YtdmlfhmnlddooaaB2
set_option linter.unusedSimpArgs false
set_option linter.unusedVariables false
namespace Go.Proofs.Ytdmlfhmnlddooaa
open Go Go.Pu

structure Place where
  pane : Int
  turned : Bool
  box : Box
def Place.cells (p : Place) : List GV := [.int .i64 p.pane, .bool p.turned, .int .i64 p.box.x, .int .i64 p.box.y, .int .i64 p.box.w, .int .i64 p.box.h]
def placeOf (x : T × Box) : Option Place := match x.1 with | .pane n tu => some ⟨n, tu, x.2⟩ | _ => none
def wasteOf (x : T × Box) : Option Box := match x.1 with | .waste => some x.2 | _ => none
theorem fm_next {α β : Type} {l : List α} {f : α → Option β} {i : Nat} {x : α} (hx : l[i]? = some x) : (l.take (i + 1)).filterMap f = (l.take i).filterMap f ++ (f x).toList := by
  rw [List.take_add_one, hx, List.filterMap_append]
  simp
  cases h : f x <;> simp [List.filterMap_cons, h]
theorem take_len {α β : Type} {l : List α} {f : α → Option β} (i : Nat) : ((l.take i).filterMap f).length ≤ l.length := Nat.le_trans (List.length_filterMap_le _ _) (by simp; omega)
theorem map_next {α β : Type} {l : List α} {f : α → β} {i : Nat} {x : α} (hx : l[i]? = some x) : (l.take (i + 1)).map f = (l.take i).map f ++ [f x] := by
  rw [List.take_add_one, hx]; simp
theorem parts_at {l : List (T × Box)} {i : Nat} {t : T} {b : Box} (hx : l[i]? = some (t, b)) {pl : Plan} (hp : t.plan = pl) : (l.map encPart)[i]? = some (pl.cells ++ b.cells) := by
  rw [map_at hx, ← hp]; rfl
theorem place_if {t : T} {b : Box} {op a pane : Int} {turned : Bool} {kids : List Plan} (h : t.plan = .mk op a pane turned kids) : placeOf (t, b) = if op = 1 then some ⟨pane, turned, b⟩ else none := by
  match t with
  | .waste => simp [T.plan] at h; simp [placeOf, ← h.1]
  | .pane n tu => simp [T.plan] at h; simp [placeOf, h]
  | .cut true a p q => simp [T.plan] at h; simp [placeOf, ← h.1]
  | .cut false a p q => simp [T.plan] at h; simp [placeOf, ← h.1]
theorem waste_if {t : T} {b : Box} {op a pane : Int} {turned : Bool} {kids : List Plan} (h : t.plan = .mk op a pane turned kids) : wasteOf (t, b) = if op = 0 then some b else none := by
  match t with
  | .waste => simp [T.plan] at h; simp [wasteOf, ← h.1]
  | .pane n tu => simp [T.plan] at h; simp [wasteOf, ← h.1]
  | .cut true a p q => simp [T.plan] at h; simp [wasteOf, ← h.1]
  | .cut false a p q => simp [T.plan] at h; simp [wasteOf, ← h.1]

/- impl.PlacesOf: 25, 34 -> [45] -/
set_option maxRecDepth 100000 in
theorem ctr_i_PlacesOf (k : Work) (t : T) (hv : VP k t) : Ctr P 22 [.g (.agg k.cells), .g (.agg t.plan.cells)] (.g (.sl (((t.parts (sheet k)).filterMap placeOf).map Place.cells))) := by
  have hpart := ctr_i_partsOf k t hv
  have hlen := T.parts_sheet hv
  generalize t.parts (sheet k) = parts at hpart hlen ⊢
  generalize ht : t.plan = pl at hpart
  obtain ⟨op, a, pane, turned, kids⟩ := pl
  refine ctr_of (fn := Go.Proofs.Try.f22) (by kernel_rfl) rfl rfl ?_
  rintro ⟨n, w0, F0, M, pin⟩ hn
  cases hn
  refine PW_seq ?_
  -- region 0
  refine PW_region ?_
  refine P22 .none (by first | exact S_boxA rfl rfl rfl rfl | exact S_boxL rfl rfl rfl rfl rfl) ?_
  refine P22 .none (by first | exact S_boxA rfl rfl rfl rfl | exact S_boxL rfl rfl rfl rfl rfl | exact S_boxA rfl (Plan.cells_len _) (Plan.cells_one _) rfl) ?_
  refine P10 .none (S_assign rfl rfl) ?_
  refine Pend ?_
  refine PW_seq ?_
  -- region 1
  refine PW_region ?_
  refine P10 .none (S_assign rfl rfl) ?_
  refine Pend ?_
  refine PW_seq ?_
  refine PW_seq ?_
  -- region 2
  refine PW_region ?_
  refine P10 .none (by first | exact S_loadOW rfl rfl rfl rfl rfl | exact S_loadRW rfl rfl rfl | exact S_loadLA rfl rfl rfl (Nat.le_of_ble_eq_true rfl) rfl | exact S_loadOA rfl rfl rfl (Nat.le_of_ble_eq_true rfl) rfl | exact S_loadRA rfl (Nat.le_of_ble_eq_true rfl) rfl) ?_
  refine P10 .none (by first | exact S_loadOW rfl rfl rfl rfl rfl | exact S_loadRW rfl rfl rfl | exact S_loadLA rfl rfl rfl (Nat.le_of_ble_eq_true rfl) rfl | exact S_loadOA rfl rfl rfl (Nat.le_of_ble_eq_true rfl) rfl | exact S_loadRA rfl (Nat.le_of_ble_eq_true rfl) rfl | exact S_loadRW rfl (Plan.cells_len _) rfl | exact S_loadOW rfl rfl rfl (Plan.cells_len _) rfl) ?_
  refine P00 .none (S_call (.one rfl (.one rfl .nil)) rfl hpart (.inl rfl) rfl) ?_
  refine P10 .none (by first | exact S_lenR rfl rfl | exact S_lenO rfl rfl | exact S_lenN rfl rfl | exact S_lenS rfl rfl) ?_
  refine P10 .none (S_move rfl rfl) ?_
  refine Pend ?_
  refine PW_block ?_
  refine PW_nil 5 5 104 rfl rfl ?_
  refine PW_iter (ι := Nat) (fun i => [(5, .c (.osl 5 0 (((parts.take i).filterMap placeOf).map Place.cells).length)), (10, .c (.g (.sl (parts.map encPart)))), (11, .c (.g (.int .i64 (parts.map encPart).length))), (12, .c (.g (.int .i64 (i : Nat))))]) (fun i => [(5, ⟨104, 0, .gnd (((parts.take i).filterMap placeOf).map Place.cells)⟩)]) (fun i => i ≤ parts.length) (fun i => parts.length - i) 0 (Nat.zero_le _) (by repeat (first | exact trivial | refine And.intro rfl ?_)) (by repeat (first | exact trivial | refine And.intro rfl ?_)) (fun i hi => ?_)
  refine PW_seq ?_
  -- region 3
  refine PW_region ?_
  refine P10 .none (S_lss rfl rfl rfl) ?_
  refine Pend ?_
  refine PW_seq ?_
  refine PW_cond rfl (fun h1 => ?_) (fun h1 => ?_)
  · -- t13
    obtain ⟨⟨t', b'⟩, hx⟩ := at_lt h1
    have hlt := (List.getElem?_eq_some_iff.1 hx).1
    generalize hp : t'.plan = pl'
    obtain ⟨op', a', pane', turned', kids'⟩ := pl'
    have hxp := parts_at hx hp
    have hnx := fm_next (f := placeOf) hx
    rw [place_if hp] at hnx
    have hacc := take_len (l := parts) (f := placeOf) i
    refine PW_skip ?_
    refine PW_seq ?_
    refine PW_block ?_
    refine PW_seq ?_
    -- region 4
    refine PW_region ?_
    refine P10 .none (by first | exact S_indexR rfl rfl rfl hxp rfl rfl | exact S_indexO rfl rfl rfl rfl rfl hxp rfl) ?_
    refine P10 .none (by first | exact S_loadOW rfl rfl rfl rfl rfl | exact S_loadRW rfl rfl rfl | exact S_loadLA rfl rfl rfl (Nat.le_of_ble_eq_true rfl) rfl | exact S_loadOA rfl rfl rfl (Nat.le_of_ble_eq_true rfl) rfl | exact S_loadRA rfl (Nat.le_of_ble_eq_true rfl) rfl) ?_
    refine P22 .none (S_alloc rfl) ?_
    refine P01 .none (by first | exact S_storeW rfl rfl rfl rfl rfl rfl | exact S_storeWe rfl rfl rfl HK rfl rfl rfl | exact S_storeP rfl rfl rfl rfl rfl (Nat.le_of_ble_eq_true rfl) | exact S_storeLW rfl rfl rfl rfl rfl rfl rfl) ?_
    refine Pend ?_
    refine PW_seq ?_
    -- region 5
    refine PW_region ?_
    refine P10 .none (by first | exact S_fieldO rfl rfl rfl | exact S_fieldR rfl rfl rfl) ?_
    refine P10 .none (by first | exact S_fieldO rfl rfl rfl | exact S_fieldR rfl rfl rfl) ?_
    refine P10 .none (by first | exact S_loadO1 rfl rfl rfl rfl rfl | exact S_loadR1 rfl rfl rfl | exact S_loadL1 rfl rfl rfl rfl rfl) ?_
    refine P10 .none (S_eql rfl rfl rfl) ?_
    refine Pend ?_
    refine PW_cond rfl (fun h2 => ?_) (fun h2 => ?_)
    · -- t19
      -- region 6
      refine PW_region ?_
      refine P10 .none (S_move rfl rfl) ?_
      refine P10 .none (by first | exact S_fieldO rfl rfl rfl | exact S_fieldR rfl rfl rfl) ?_
      refine P10 .none (by first | exact S_fieldO rfl rfl rfl | exact S_fieldR rfl rfl rfl) ?_
      refine P10 .none (by first | exact S_loadO1 rfl rfl rfl rfl rfl | exact S_loadR1 rfl rfl rfl | exact S_loadL1 rfl rfl rfl rfl rfl) ?_
      refine P10 .none (by first | exact S_fieldO rfl rfl rfl | exact S_fieldR rfl rfl rfl) ?_
      refine P10 .none (by first | exact S_fieldO rfl rfl rfl | exact S_fieldR rfl rfl rfl) ?_
      refine P10 .none (by first | exact S_loadO1 rfl rfl rfl rfl rfl | exact S_loadR1 rfl rfl rfl | exact S_loadL1 rfl rfl rfl rfl rfl) ?_
      refine P10 .none (by first | exact S_fieldO rfl rfl rfl | exact S_fieldR rfl rfl rfl) ?_
      refine P10 .none (by first | exact S_loadOW rfl rfl rfl rfl rfl | exact S_loadRW rfl rfl rfl | exact S_loadLA rfl rfl rfl (Nat.le_of_ble_eq_true rfl) rfl | exact S_loadOA rfl rfl rfl (Nat.le_of_ble_eq_true rfl) rfl | exact S_loadRA rfl (Nat.le_of_ble_eq_true rfl) rfl) ?_
      refine P10 .none (S_build (gs := [_, _, _, _, _, _]) (.one rfl rfl rfl rfl (.one rfl rfl rfl rfl (.agg rfl rfl rfl rfl rfl (.nil _)))) rfl rfl) ?_
      refine P22 .none (S_lit (.agg rfl rfl rfl (.nil _)) rfl rfl rfl) ?_
      refine P22 .none (S_appW rfl rfl rfl rfl (.ownW rfl rfl rfl) (fun l hl => by simp only [List.mem_singleton] at hl; subst hl; rfl) rfl (by omega) (by simp; omega) rfl) ?_
      refine P10 .none (S_assign rfl rfl) ?_
      refine Pend ?_
      -- region 7
      refine PW_region ?_
      refine P10 .none (S_add rfl rfl rfl (And.intro (by omega) (by omega))) ?_
      refine P10 .none (S_move rfl rfl) ?_
      refine Pend ?_
      exact ⟨i + 1, by omega, (by show i + 1 ≤ parts.length; omega), (by rw [hnx, if_pos (of_decide_eq_true h2)]; simp only [Option.toList, List.map_append, List.length_append]; repeat (first | exact trivial | refine And.intro rfl ?_)), (by rw [hnx, if_pos (of_decide_eq_true h2)]; simp only [Option.toList, List.map_append]; repeat (first | exact trivial | refine And.intro rfl ?_))⟩
    · -- not t19
      refine PW_skip ?_
      -- region 7
      refine PW_region ?_
      refine P10 .none (S_add rfl rfl rfl (And.intro (by omega) (by omega))) ?_
      refine P10 .none (S_move rfl rfl) ?_
      refine Pend ?_
      exact ⟨i + 1, by omega, (by show i + 1 ≤ parts.length; omega), (by rw [hnx, if_neg (of_decide_eq_false h2)]; simp only [Option.toList, List.append_nil]; repeat (first | exact trivial | refine And.intro rfl ?_)), (by rw [hnx, if_neg (of_decide_eq_false h2)]; simp only [Option.toList, List.append_nil]; repeat (first | exact trivial | refine And.intro rfl ?_))⟩
  · -- not t13
    refine PW_exit ?_
    refine PW_seq ?_
    -- region 8
    refine PW_region ?_
    refine P10 .none (S_move rfl rfl) ?_
    refine P10 .none (S_assign rfl rfl) ?_
    refine Pend ?_
    refine PW_ret ⟨.inr rfl, ?_⟩
    refine RetOk.g_eq (ret_g (.cons (.tmp rfl) (.c (Ex.whole rfl rfl rfl)) .nil) rfl trivial) ?_
    rw [List.take_of_length_le (by simp at h1; omega)]; rfl
/- impl.WastesOf: 25, 34 -> [38] -/
set_option maxRecDepth 100000 in
theorem ctr_i_WastesOf (k : Work) (t : T) (hv : VP k t) : Ctr P 23 [.g (.agg k.cells), .g (.agg t.plan.cells)] (.g (.sl (((t.parts (sheet k)).filterMap wasteOf).map Box.cells))) := by
  have hpart := ctr_i_partsOf k t hv
  have hlen := T.parts_sheet hv
  generalize t.parts (sheet k) = parts at hpart hlen ⊢
  generalize ht : t.plan = pl at hpart
  obtain ⟨op, a, pane, turned, kids⟩ := pl
  refine ctr_of (fn := Go.Proofs.Try.f23) (by kernel_rfl) rfl rfl ?_
  rintro ⟨n, w0, F0, M, pin⟩ hn
  cases hn
  refine PW_seq ?_
  -- region 0
  refine PW_region ?_
  refine P22 .none (by first | exact S_boxA rfl rfl rfl rfl | exact S_boxL rfl rfl rfl rfl rfl) ?_
  refine P22 .none (by first | exact S_boxA rfl rfl rfl rfl | exact S_boxL rfl rfl rfl rfl rfl | exact S_boxA rfl (Plan.cells_len _) (Plan.cells_one _) rfl) ?_
  refine P10 .none (S_assign rfl rfl) ?_
  refine Pend ?_
  refine PW_seq ?_
  -- region 1
  refine PW_region ?_
  refine P10 .none (S_assign rfl rfl) ?_
  refine Pend ?_
  refine PW_seq ?_
  refine PW_seq ?_
  -- region 2
  refine PW_region ?_
  refine P10 .none (by first | exact S_loadOW rfl rfl rfl rfl rfl | exact S_loadRW rfl rfl rfl | exact S_loadLA rfl rfl rfl (Nat.le_of_ble_eq_true rfl) rfl | exact S_loadOA rfl rfl rfl (Nat.le_of_ble_eq_true rfl) rfl | exact S_loadRA rfl (Nat.le_of_ble_eq_true rfl) rfl) ?_
  refine P10 .none (by first | exact S_loadOW rfl rfl rfl rfl rfl | exact S_loadRW rfl rfl rfl | exact S_loadLA rfl rfl rfl (Nat.le_of_ble_eq_true rfl) rfl | exact S_loadOA rfl rfl rfl (Nat.le_of_ble_eq_true rfl) rfl | exact S_loadRA rfl (Nat.le_of_ble_eq_true rfl) rfl | exact S_loadRW rfl (Plan.cells_len _) rfl | exact S_loadOW rfl rfl rfl (Plan.cells_len _) rfl) ?_
  refine P00 .none (S_call (.one rfl (.one rfl .nil)) rfl hpart (.inl rfl) rfl) ?_
  refine P10 .none (by first | exact S_lenR rfl rfl | exact S_lenO rfl rfl | exact S_lenN rfl rfl | exact S_lenS rfl rfl) ?_
  refine P10 .none (S_move rfl rfl) ?_
  refine Pend ?_
  refine PW_block ?_
  refine PW_nil 5 5 102 rfl rfl ?_
  refine PW_iter (ι := Nat) (fun i => [(5, .c (.osl 5 0 (((parts.take i).filterMap wasteOf).map Box.cells).length)), (10, .c (.g (.sl (parts.map encPart)))), (11, .c (.g (.int .i64 (parts.map encPart).length))), (12, .c (.g (.int .i64 (i : Nat))))]) (fun i => [(5, ⟨102, 0, .gnd (((parts.take i).filterMap wasteOf).map Box.cells)⟩)]) (fun i => i ≤ parts.length) (fun i => parts.length - i) 0 (Nat.zero_le _) (by repeat (first | exact trivial | refine And.intro rfl ?_)) (by repeat (first | exact trivial | refine And.intro rfl ?_)) (fun i hi => ?_)
  refine PW_seq ?_
  -- region 3
  refine PW_region ?_
  refine P10 .none (S_lss rfl rfl rfl) ?_
  refine Pend ?_
  refine PW_seq ?_
  refine PW_cond rfl (fun h1 => ?_) (fun h1 => ?_)
  · -- t13
    obtain ⟨⟨t', b'⟩, hx⟩ := at_lt h1
    have hlt := (List.getElem?_eq_some_iff.1 hx).1
    generalize hp : t'.plan = pl'
    obtain ⟨op', a', pane', turned', kids'⟩ := pl'
    have hxp := parts_at hx hp
    have hnx := fm_next (f := wasteOf) hx
    rw [waste_if hp] at hnx
    have hacc := take_len (l := parts) (f := wasteOf) i
    refine PW_skip ?_
    refine PW_seq ?_
    refine PW_block ?_
    refine PW_seq ?_
    -- region 4
    refine PW_region ?_
    refine P10 .none (by first | exact S_indexR rfl rfl rfl hxp rfl rfl | exact S_indexO rfl rfl rfl rfl rfl hxp rfl) ?_
    refine P10 .none (by first | exact S_loadOW rfl rfl rfl rfl rfl | exact S_loadRW rfl rfl rfl | exact S_loadLA rfl rfl rfl (Nat.le_of_ble_eq_true rfl) rfl | exact S_loadOA rfl rfl rfl (Nat.le_of_ble_eq_true rfl) rfl | exact S_loadRA rfl (Nat.le_of_ble_eq_true rfl) rfl) ?_
    refine P22 .none (S_alloc rfl) ?_
    refine P01 .none (by first | exact S_storeW rfl rfl rfl rfl rfl rfl | exact S_storeWe rfl rfl rfl HK rfl rfl rfl | exact S_storeP rfl rfl rfl rfl rfl (Nat.le_of_ble_eq_true rfl) | exact S_storeLW rfl rfl rfl rfl rfl rfl rfl) ?_
    refine Pend ?_
    refine PW_seq ?_
    -- region 5
    refine PW_region ?_
    refine P10 .none (by first | exact S_fieldO rfl rfl rfl | exact S_fieldR rfl rfl rfl) ?_
    refine P10 .none (by first | exact S_fieldO rfl rfl rfl | exact S_fieldR rfl rfl rfl) ?_
    refine P10 .none (by first | exact S_loadO1 rfl rfl rfl rfl rfl | exact S_loadR1 rfl rfl rfl | exact S_loadL1 rfl rfl rfl rfl rfl) ?_
    refine P10 .none (S_eql rfl rfl rfl) ?_
    refine Pend ?_
    refine PW_cond rfl (fun h2 => ?_) (fun h2 => ?_)
    · -- t19
      -- region 6
      refine PW_region ?_
      refine P10 .none (S_move rfl rfl) ?_
      refine P10 .none (by first | exact S_fieldO rfl rfl rfl | exact S_fieldR rfl rfl rfl) ?_
      refine P10 .none (by first | exact S_loadOW rfl rfl rfl rfl rfl | exact S_loadRW rfl rfl rfl | exact S_loadLA rfl rfl rfl (Nat.le_of_ble_eq_true rfl) rfl | exact S_loadOA rfl rfl rfl (Nat.le_of_ble_eq_true rfl) rfl | exact S_loadRA rfl (Nat.le_of_ble_eq_true rfl) rfl) ?_
      refine P22 .none (S_lit (.agg rfl rfl rfl (.nil _)) rfl rfl rfl) ?_
      refine P22 .none (S_appW rfl rfl rfl rfl (.ownW rfl rfl rfl) (fun l hl => by simp only [List.mem_singleton] at hl; subst hl; rfl) rfl (by omega) (by simp; omega) rfl) ?_
      refine P10 .none (S_assign rfl rfl) ?_
      refine Pend ?_
      -- region 7
      refine PW_region ?_
      refine P10 .none (S_add rfl rfl rfl (And.intro (by omega) (by omega))) ?_
      refine P10 .none (S_move rfl rfl) ?_
      refine Pend ?_
      exact ⟨i + 1, by omega, (by show i + 1 ≤ parts.length; omega), (by rw [hnx, if_pos (of_decide_eq_true h2)]; simp only [Option.toList, List.map_append, List.length_append]; repeat (first | exact trivial | refine And.intro rfl ?_)), (by rw [hnx, if_pos (of_decide_eq_true h2)]; simp only [Option.toList, List.map_append]; repeat (first | exact trivial | refine And.intro rfl ?_))⟩
    · -- not t19
      refine PW_skip ?_
      -- region 7
      refine PW_region ?_
      refine P10 .none (S_add rfl rfl rfl (And.intro (by omega) (by omega))) ?_
      refine P10 .none (S_move rfl rfl) ?_
      refine Pend ?_
      exact ⟨i + 1, by omega, (by show i + 1 ≤ parts.length; omega), (by rw [hnx, if_neg (of_decide_eq_false h2)]; simp only [Option.toList, List.append_nil]; repeat (first | exact trivial | refine And.intro rfl ?_)), (by rw [hnx, if_neg (of_decide_eq_false h2)]; simp only [Option.toList, List.append_nil]; repeat (first | exact trivial | refine And.intro rfl ?_))⟩
  · -- not t13
    refine PW_exit ?_
    refine PW_seq ?_
    -- region 8
    refine PW_region ?_
    refine P10 .none (S_move rfl rfl) ?_
    refine P10 .none (S_assign rfl rfl) ?_
    refine Pend ?_
    refine PW_ret ⟨.inr rfl, ?_⟩
    refine RetOk.g_eq (ret_g (.cons (.tmp rfl) (.c (Ex.whole rfl rfl rfl)) .nil) rfl trivial) ?_
    rw [List.take_of_length_le (by simp at h1; omega)]; rfl
end Go.Proofs.Ytdmlfhmnlddooaa
namespace Go.Proofs.Ytdmlfhmnlddooaa
open Go Go.Pu

def cutsOf (p : Plan) : Int := if planSize p < 0 then -1 else planSize p / 2
theorem planSize_le (p : Plan) : -1 ≤ planSize p ∧ planSize p ≤ 255 := by
  have := countParts_le p 255
  unfold planSize
  omega
/-- Each box of the one is one of the other, and they are as many. -/
def sameBoxes (a b : List Box) : Bool := a.all (fun x => b.any fun y => decide (x = y)) && decide (a.length = b.length)
theorem any_next {α : Type} {l : List α} {f : α → Bool} {i : Nat} {x : α} (hx : l[i]? = some x) : (l.take (i + 1)).any f = ((l.take i).any f || f x) := by
  rw [List.take_add_one, hx, List.any_append]; simp
theorem ints_dec (a b : Box) : decide (a.ints = b.ints) = decide (a = b) := by simp [Box.ints_inj]

/- impl.CutsOf: 34 -> [3] -/
set_option maxRecDepth 100000 in
theorem ctr_i_CutsOf (p : Plan) : Ctr P 20 [.g (.agg p.cells)] (.g (.int .i64 (cutsOf p))) := by
  have hps := ctr_i_PlanSize p
  have hle := planSize_le p
  have hdef : cutsOf p = if planSize p < 0 then -1 else planSize p / 2 := rfl
  generalize planSize p = n at hps hle hdef
  obtain ⟨op, a, pane, turned, kids⟩ := p
  refine ctr_of (fn := Go.Proofs.Try.f20) (by kernel_rfl) rfl rfl ?_
  rintro ⟨n, w0, F0, M, pin⟩ hn
  cases hn
  refine PW_seq ?_
  -- region 0
  refine PW_region ?_
  refine P22 .none (by first | exact S_boxA rfl rfl rfl rfl | exact S_boxL rfl rfl rfl rfl rfl | exact S_boxA rfl (Plan.cells_len _) (Plan.cells_one _) rfl) ?_
  refine P10 .none (S_assign rfl rfl) ?_
  refine Pend ?_
  refine PW_seq ?_
  -- region 1
  refine PW_region ?_
  refine P10 .none (by first | exact S_loadOW rfl rfl rfl rfl rfl | exact S_loadRW rfl rfl rfl | exact S_loadLA rfl rfl rfl (Nat.le_of_ble_eq_true rfl) rfl | exact S_loadOA rfl rfl rfl (Nat.le_of_ble_eq_true rfl) rfl | exact S_loadRA rfl (Nat.le_of_ble_eq_true rfl) rfl | exact S_loadRW rfl (Plan.cells_len _) rfl | exact S_loadOW rfl rfl rfl (Plan.cells_len _) rfl) ?_
  refine P00 .none (S_call (.one rfl .nil) rfl hps (.inl rfl) rfl) ?_
  refine P10 .none (S_assign rfl rfl) ?_
  refine Pend ?_
  refine PW_seq ?_
  refine PW_seq ?_
  -- region 2
  refine PW_region ?_
  refine P10 .none (S_move rfl rfl) ?_
  refine P10 .none (S_lss rfl rfl rfl) ?_
  refine Pend ?_
  refine PW_cond rfl (fun h1 => ?_) (fun h1 => ?_)
  · -- t7
    refine PW_seq ?_
    -- region 3
    refine PW_region ?_
    refine P10 .none (S_assign rfl rfl) ?_
    refine Pend ?_
    refine PW_ret ⟨.inr rfl, ?_⟩
    exact ret_g (.cons (.tmp rfl) (.c (.g _)) .nil) (by simp only [gres, hdef, if_pos (of_decide_eq_true h1)]) trivial
  · -- not t7
    refine PW_skip ?_
    have h2 : ¬ n < 0 := of_decide_eq_false h1
    refine PW_seq ?_
    -- region 4
    refine PW_region ?_
    refine P10 .none (S_move rfl rfl) ?_
    refine P10 .none (S_quo rfl rfl rfl (by omega) (And.intro (by omega) (by omega))) ?_
    refine P10 .none (S_assign rfl rfl) ?_
    refine Pend ?_
    refine PW_ret ⟨.inr rfl, ?_⟩
    exact ret_g (.cons (.tmp rfl) (.c (.g _)) .nil) (by simp only [gres, hdef, if_neg h2]) trivial
/- laws.boxesOf: 45 -> [38] -/
set_option maxRecDepth 100000 in
theorem ctr_l_boxesOf (ps : List Place) (hs : ps.length ≤ 100000) : Ctr P 21 [.g (.sl (ps.map Place.cells))] (.own 102 0 ((ps.map (·.box)).map Box.cells)) := by
  refine ctr_of (fn := Go.Proofs.Try.f21) (by kernel_rfl) rfl rfl ?_
  rintro ⟨n, w0, F0, M, pin⟩ hn
  cases hn
  refine PW_seq ?_
  -- region 0
  refine PW_region ?_
  refine P10 .none (S_assign rfl rfl) ?_
  refine Pend ?_
  refine PW_seq ?_
  -- region 1
  refine PW_region ?_
  refine P22 .none (S_lit (.nil _) rfl rfl rfl) ?_
  refine P10 .none (S_assign rfl rfl) ?_
  refine Pend ?_
  refine PW_seq ?_
  refine PW_seq ?_
  -- region 2
  refine PW_region ?_
  refine P10 .none (S_assign rfl rfl) ?_
  refine Pend ?_
  refine PW_block ?_
  refine PW_iter (ι := Nat) (fun i => [(0, .c (.g (.sl (ps.map Place.cells)))), (3, .c (.osl 5 0 (((ps.take i).map (·.box)).map Box.cells).length)), (4, .c (.g (.int .i64 (i : Nat))))]) (fun i => [(5, ⟨102, 0, .gnd (((ps.take i).map (·.box)).map Box.cells)⟩)]) (fun i => i ≤ ps.length) (fun i => ps.length - i) 0 (Nat.zero_le _) (by repeat (first | exact trivial | refine And.intro rfl ?_)) (by repeat (first | exact trivial | refine And.intro rfl ?_)) (fun i hi => ?_)
  refine PW_seq ?_
  refine PW_seq ?_
  -- region 3
  refine PW_region ?_
  refine P10 .none (S_move rfl rfl) ?_
  refine P10 .none (S_move rfl rfl) ?_
  refine P10 .none (by first | exact S_lenR rfl rfl | exact S_lenO rfl rfl | exact S_lenN rfl rfl | exact S_lenS rfl rfl) ?_
  refine P10 .none (S_lss rfl rfl rfl) ?_
  refine Pend ?_
  refine PW_cond rfl (fun h1 => ?_) (fun h1 => ?_)
  · -- t9
    refine PW_skip ?_
    refine PW_seq ?_
    refine PW_block ?_
    obtain ⟨x, hx⟩ := at_lt h1
    have hlt := (List.getElem?_eq_some_iff.1 hx).1
    have hnx := map_next (f := Place.box) hx
    -- region 5
    refine PW_region ?_
    refine P10 .none (S_move rfl rfl) ?_
    refine P10 .none (S_move rfl rfl) ?_
    refine P10 .none (S_move rfl rfl) ?_
    refine P10 .none (by first | exact S_indexR rfl rfl rfl (map_at hx) rfl rfl | exact S_indexO rfl rfl rfl rfl rfl (map_at hx) rfl) ?_
    refine P10 .none (by first | exact S_fieldO rfl rfl rfl | exact S_fieldR rfl rfl rfl) ?_
    refine P10 .none (by first | exact S_loadOW rfl rfl rfl rfl rfl | exact S_loadRW rfl rfl rfl | exact S_loadLA rfl rfl rfl (Nat.le_of_ble_eq_true rfl) rfl | exact S_loadOA rfl rfl rfl (Nat.le_of_ble_eq_true rfl) rfl | exact S_loadRA rfl (Nat.le_of_ble_eq_true rfl) rfl) ?_
    refine P22 .none (S_lit (.agg rfl rfl rfl (.nil _)) rfl rfl rfl) ?_
    refine P22 .none (S_appW rfl rfl rfl rfl (.ownW rfl rfl rfl) (fun l hl => by simp only [List.mem_singleton] at hl; subst hl; rfl) rfl (by omega) (by simp; omega) rfl) ?_
    refine P10 .none (S_assign rfl rfl) ?_
    refine Pend ?_
    -- region 4
    refine PW_region ?_
    refine P10 .none (S_move rfl rfl) ?_
    refine P10 .none (S_add rfl rfl rfl (And.intro (by omega) (by omega))) ?_
    refine P10 .none (S_assign rfl rfl) ?_
    refine Pend ?_
    exact ⟨i + 1, by omega, (by show i + 1 ≤ ps.length; omega), (by rw [hnx]; simp only [List.map_append, List.length_append]; repeat (first | exact trivial | refine And.intro rfl ?_)), (by rw [hnx]; simp only [List.map_append]; repeat (first | exact trivial | refine And.intro rfl ?_))⟩
  · -- not t9
    refine PW_exit ?_
    refine PW_seq ?_
    -- region 6
    refine PW_region ?_
    refine P10 .none (S_move rfl rfl) ?_
    refine P10 .none (S_assign rfl rfl) ?_
    refine Pend ?_
    refine PW_ret ⟨.inr rfl, ?_⟩
    refine RetOk.own_eq (ret_o rfl rfl rfl rfl rfl trivial) ?_
    rw [List.take_of_length_le (by simp at h1; omega)]
/- laws.equalBoxes: 38, 38 -> [4] -/
set_option maxRecDepth 100000 in
theorem ctr_l_equalBoxes (a b : List Box) (hs : a.length ≤ 100000) : Ctr P 18 [.g (.sl (a.map Box.cells)), .g (.sl (b.map Box.cells))] (.g (.bool (decide (a = b)))) := by
  refine ctr_of (fn := Go.Proofs.Try.f18) (by kernel_rfl) rfl rfl ?_
  rintro ⟨n, w0, F0, M, pin⟩ hn
  cases hn
  refine PW_seq ?_
  -- region 0
  refine PW_region ?_
  refine P10 .none (S_assign rfl rfl) ?_
  refine Pend ?_
  refine PW_seq ?_
  refine PW_seq ?_
  -- region 1
  refine PW_region ?_
  refine P10 .none (S_move rfl rfl) ?_
  refine P10 .none (by first | exact S_lenR rfl rfl | exact S_lenO rfl rfl | exact S_lenN rfl rfl | exact S_lenS rfl rfl) ?_
  refine P10 .none (S_move rfl rfl) ?_
  refine P10 .none (by first | exact S_lenR rfl rfl | exact S_lenO rfl rfl | exact S_lenN rfl rfl | exact S_lenS rfl rfl) ?_
  refine P10 .none (S_neq rfl rfl rfl) ?_
  refine Pend ?_
  refine PW_cond rfl (fun h1 => ?_) (fun h1 => ?_)
  · -- t10
    refine PW_seq ?_
    -- region 2
    refine PW_region ?_
    refine P10 .none (S_assign rfl rfl) ?_
    refine Pend ?_
    refine PW_ret ⟨.inr rfl, ?_⟩
    exact ret_g (.cons (.tmp rfl) (.c (.g _)) .nil) (by simp only [gres, GV.bool.injEq]; simp at h1; symm; rw [decide_eq_false_iff_not]; rintro rfl; exact h1 rfl) trivial
  · -- not t10
    refine PW_skip ?_
    refine PW_seq ?_
    refine PW_seq ?_
    -- region 3
    refine PW_region ?_
    refine P10 .none (S_assign rfl rfl) ?_
    refine Pend ?_
    refine PW_block ?_
    refine PW_iter (ι := Nat) (fun i => [(0, .c (.g (.sl (a.map Box.cells)))), (1, .c (.g (.sl (b.map Box.cells)))), (5, .c (.g (.int .i64 (i : Nat))))]) (fun i => []) (fun i => i ≤ a.length ∧ a.take i = b.take i) (fun i => a.length - i) 0 ⟨Nat.zero_le _, rfl⟩ (by repeat (first | exact trivial | refine And.intro rfl ?_)) (by repeat (first | exact trivial | refine And.intro rfl ?_)) (fun i hi => ?_)
    refine PW_seq ?_
    refine PW_seq ?_
    -- region 4
    refine PW_region ?_
    refine P10 .none (S_move rfl rfl) ?_
    refine P10 .none (S_move rfl rfl) ?_
    refine P10 .none (by first | exact S_lenR rfl rfl | exact S_lenO rfl rfl | exact S_lenN rfl rfl | exact S_lenS rfl rfl) ?_
    refine P10 .none (S_lss rfl rfl rfl) ?_
    refine Pend ?_
    refine PW_cond rfl (fun h2 => ?_) (fun h2 => ?_)
    · -- t14
      refine PW_skip ?_
      refine PW_seq ?_
      refine PW_block ?_
      refine PW_seq ?_
      obtain ⟨x, hx⟩ := at_lt h2
      have hlen : a.length = b.length := by simp at h1; omega
      have hlt := (List.getElem?_eq_some_iff.1 hx).1
      have hy : b[i]? = some (b[i]'(by omega)) := List.getElem?_eq_getElem _
      generalize b[i]'(by omega) = y at hy
      -- region 6
      refine PW_draw (by kernel_rfl) ?_
      refine P10 .none (S_move rfl rfl) ?_
      refine P10 .none (S_move rfl rfl) ?_
      refine P10 .none (by first | exact S_indexR rfl rfl rfl (map_at hx) rfl rfl | exact S_indexO rfl rfl rfl rfl rfl (map_at hx) rfl) ?_
      refine P10 .none (by first | exact S_loadOW rfl rfl rfl rfl rfl | exact S_loadRW rfl rfl rfl | exact S_loadLA rfl rfl rfl (Nat.le_of_ble_eq_true rfl) rfl | exact S_loadOA rfl rfl rfl (Nat.le_of_ble_eq_true rfl) rfl | exact S_loadRA rfl (Nat.le_of_ble_eq_true rfl) rfl) ?_
      refine P10 .none (S_move rfl rfl) ?_
      refine P10 .none (S_move rfl rfl) ?_
      refine P10 .none (by first | exact S_indexR rfl rfl rfl (map_at hy) rfl rfl | exact S_indexO rfl rfl rfl rfl rfl (map_at hy) rfl) ?_
      refine P10 .none (by first | exact S_loadOW rfl rfl rfl rfl rfl | exact S_loadRW rfl rfl rfl | exact S_loadLA rfl rfl rfl (Nat.le_of_ble_eq_true rfl) rfl | exact S_loadOA rfl rfl rfl (Nat.le_of_ble_eq_true rfl) rfl | exact S_loadRA rfl (Nat.le_of_ble_eq_true rfl) rfl) ?_
      refine P10 .none (S_neF (xs := Box.ints _) (ys := Box.ints _) rfl rfl rfl rfl rfl rfl rfl) ?_
      refine Pend ⟨by kernel_rfl, ?_⟩
      refine PW_cond rfl (fun h3 => ?_) (fun h3 => ?_)
      · -- t25
        refine PW_seq ?_
        -- region 7
        refine PW_region ?_
        refine P10 .none (S_assign rfl rfl) ?_
        refine Pend ?_
        refine PW_ret ⟨.inr rfl, ?_⟩
        exact ret_g (.cons (.tmp rfl) (.c (.g _)) .nil) (by simp only [gres, GV.bool.injEq]; simp [Box.ints_inj] at h3; symm; rw [decide_eq_false_iff_not]; rintro rfl; rw [hx] at hy; cases hy; exact h3 rfl) trivial
      · -- not t25
        refine PW_skip ?_
        -- region 5
        refine PW_region ?_
        refine P10 .none (S_move rfl rfl) ?_
        refine P10 .none (S_add rfl rfl rfl (And.intro (by omega) (by omega))) ?_
        refine P10 .none (S_assign rfl rfl) ?_
        refine Pend ?_
        exact ⟨i + 1, by omega, ⟨by show i + 1 ≤ a.length; omega, by simp [Box.ints_inj] at h3; rw [List.take_add_one, List.take_add_one, hx, hy, hi.2, h3]⟩, (by repeat (first | exact trivial | refine And.intro rfl ?_)), trivial⟩
    · -- not t14
      refine PW_exit ?_
      refine PW_seq ?_
      -- region 8
      refine PW_region ?_
      refine P10 .none (S_assign rfl rfl) ?_
      refine Pend ?_
      refine PW_ret ⟨.inr rfl, ?_⟩
      exact ret_g (.cons (.tmp rfl) (.c (.g _)) .nil) (by simp only [gres, GV.bool.injEq]; symm; rw [decide_eq_true_eq]; have h5 := hi.2; simp at h1 h2; rwa [List.take_of_length_le (by omega), List.take_of_length_le (by omega)] at h5) trivial
end Go.Proofs.Ytdmlfhmnlddooaa
namespace Go.Proofs.Ytdmlfhmnlddooaa
open Go Go.Pu

/- laws.sameBoxes: 38, 38 -> [4] -/
set_option maxRecDepth 100000 in
theorem ctr_l_sameBoxes (a b : List Box) (hs : a.length ≤ 100000) (hs2 : b.length ≤ 100000) : Ctr P 25 [.g (.sl (a.map Box.cells)), .g (.sl (b.map Box.cells))] (.g (.bool (sameBoxes a b))) := by
  refine ctr_of (fn := Go.Proofs.Try.f25) (by kernel_rfl) rfl rfl ?_
  rintro ⟨n, w0, F0, M, pin⟩ hn
  cases hn
  refine PW_seq ?_
  -- region 0
  refine PW_region ?_
  refine P10 .none (S_assign rfl rfl) ?_
  refine Pend ?_
  refine PW_seq ?_
  refine PW_seq ?_
  -- region 1
  refine PW_region ?_
  refine P10 .none (S_assign rfl rfl) ?_
  refine Pend ?_
  refine PW_block ?_
  refine PW_iter (ι := Nat) (fun i => [(0, .c (.g (.sl (a.map Box.cells)))), (1, .c (.g (.sl (b.map Box.cells)))), (5, .c (.g (.int .i64 (i : Nat))))]) (fun i => []) (fun i => i ≤ a.length ∧ (a.take i).all (fun x => b.any fun y => decide (x = y)) = true) (fun i => a.length - i) 0 ⟨Nat.zero_le _, rfl⟩ (by repeat (first | exact trivial | refine And.intro rfl ?_)) (by repeat (first | exact trivial | refine And.intro rfl ?_)) (fun i hi => ?_)
  refine PW_seq ?_
  refine PW_seq ?_
  -- region 2
  refine PW_region ?_
  refine P10 .none (S_move rfl rfl) ?_
  refine P10 .none (S_move rfl rfl) ?_
  refine P10 .none (by first | exact S_lenR rfl rfl | exact S_lenO rfl rfl | exact S_lenN rfl rfl | exact S_lenS rfl rfl) ?_
  refine P10 .none (S_lss rfl rfl rfl) ?_
  refine Pend ?_
  refine PW_cond rfl (fun h1 => ?_) (fun h1 => ?_)
  · -- t11
    refine PW_skip ?_
    refine PW_seq ?_
    refine PW_block ?_
    refine PW_seq ?_
    obtain ⟨x, hx⟩ := at_lt h1
    have hlt := (List.getElem?_eq_some_iff.1 hx).1
    --region 4
    refine PW_region ?_
    refine P10 .none (S_assign rfl rfl) ?_
    refine Pend ?_
    refine PW_seq ?_
    refine PW_seq ?_
    -- region 5
    refine PW_region ?_
    refine P10 .none (S_assign rfl rfl) ?_
    refine Pend ?_
    refine PW_block ?_
    refine PW_iter (ι := Nat) (fun j => [(0, .c (.g (.sl (a.map Box.cells)))), (1, .c (.g (.sl (b.map Box.cells)))), (5, .c (.g (.int .i64 (i : Nat)))), (6, .c (.g (.bool ((b.take j).any fun y => decide (x = y))))), (7, .c (.g (.int .i64 (j : Nat))))]) (fun j => []) (fun j => j ≤ b.length) (fun j => b.length - j) 0 (Nat.zero_le _) (by repeat (first | exact trivial | refine And.intro rfl ?_)) (by repeat (first | exact trivial | refine And.intro rfl ?_)) (fun j hj => ?_)
    refine PW_seq ?_
    refine PW_seq ?_
    -- region 6
    refine PW_region ?_
    refine P10 .none (S_move rfl rfl) ?_
    refine P10 .none (S_move rfl rfl) ?_
    refine P10 .none (by first | exact S_lenR rfl rfl | exact S_lenO rfl rfl | exact S_lenN rfl rfl | exact S_lenS rfl rfl) ?_
    refine P10 .none (S_lss rfl rfl rfl) ?_
    refine Pend ?_
    refine PW_cond rfl (fun h2 => ?_) (fun h2 => ?_)
    · -- t17
      refine PW_skip ?_
      refine PW_seq ?_
      refine PW_block ?_
      obtain ⟨y, hy⟩ := at_lt h2
      have hlt2 := (List.getElem?_eq_some_iff.1 hy).1
      have hnx := any_next (f := fun y => decide (x = y)) hy
      --region 8
      refine PW_draw (by kernel_rfl) ?_
      refine P10 .none (S_move rfl rfl) ?_
      refine P10 .none (S_move rfl rfl) ?_
      refine Psplit 21 rfl (fun h3 => ?_) (fun h3 => ?_)
      · -- t21 = true
        refine Pskip rfl rfl h3 rfl ?_
        refine Pskip rfl rfl h3 rfl ?_
        refine Pskip rfl rfl h3 rfl ?_
        refine Pskip rfl rfl h3 rfl ?_
        refine Pskip rfl rfl h3 rfl ?_
        refine Pskip rfl rfl h3 rfl ?_
        refine Pskip rfl rfl h3 rfl ?_
        refine Pskip rfl rfl h3 rfl ?_
        refine Pskip rfl rfl h3 rfl ?_
        refine P10 .none (S_pickT rfl h3 rfl rfl) ?_
        refine P10 .none (S_assign rfl rfl) ?_
        refine Pend ⟨by kernel_rfl, ?_⟩
        -- region 7
        refine PW_region ?_
        refine P10 .none (S_move rfl rfl) ?_
        refine P10 .none (S_add rfl rfl rfl (And.intro (by omega) (by omega))) ?_
        refine P10 .none (S_assign rfl rfl) ?_
        refine Pend ?_
        exact ⟨j + 1, by omega, (by show j + 1 ≤ b.length; omega), (by rw [hnx, h3]; repeat (first | exact trivial | refine And.intro rfl ?_)), trivial⟩
      · -- t21 = false
        refine P10 (.yes rfl rfl h3) (S_move rfl rfl) ?_
        refine P10 (.yes rfl rfl h3) (S_move rfl rfl) ?_
        refine P10 (.yes rfl rfl h3) (by first | exact S_indexR rfl rfl rfl (map_at hx) rfl rfl | exact S_indexO rfl rfl rfl rfl rfl (map_at hx) rfl) ?_
        refine P10 (.yes rfl rfl h3) (by first | exact S_loadOW rfl rfl rfl rfl rfl | exact S_loadRW rfl rfl rfl | exact S_loadLA rfl rfl rfl (Nat.le_of_ble_eq_true rfl) rfl | exact S_loadOA rfl rfl rfl (Nat.le_of_ble_eq_true rfl) rfl | exact S_loadRA rfl (Nat.le_of_ble_eq_true rfl) rfl) ?_
        refine P10 (.yes rfl rfl h3) (S_move rfl rfl) ?_
        refine P10 (.yes rfl rfl h3) (S_move rfl rfl) ?_
        refine P10 (.yes rfl rfl h3) (by first | exact S_indexR rfl rfl rfl (map_at hy) rfl rfl | exact S_indexO rfl rfl rfl rfl rfl (map_at hy) rfl) ?_
        refine P10 (.yes rfl rfl h3) (by first | exact S_loadOW rfl rfl rfl rfl rfl | exact S_loadRW rfl rfl rfl | exact S_loadLA rfl rfl rfl (Nat.le_of_ble_eq_true rfl) rfl | exact S_loadOA rfl rfl rfl (Nat.le_of_ble_eq_true rfl) rfl | exact S_loadRA rfl (Nat.le_of_ble_eq_true rfl) rfl) ?_
        refine P10 (.yes rfl rfl h3) (S_eqF (xs := Box.ints _) (ys := Box.ints _) rfl rfl rfl rfl rfl rfl rfl) ?_
        refine P10 .none (S_pickF rfl h3 rfl rfl) ?_
        refine P10 .none (S_assign rfl rfl) ?_
        refine Pend ⟨by kernel_rfl, ?_⟩
        -- region 7
        refine PW_region ?_
        refine P10 .none (S_move rfl rfl) ?_
        refine P10 .none (S_add rfl rfl rfl (And.intro (by omega) (by omega))) ?_
        refine P10 .none (S_assign rfl rfl) ?_
        refine Pend ?_
        exact ⟨j + 1, by omega, (by show j + 1 ≤ b.length; omega), (by rw [hnx, h3, Bool.false_or, ← ints_dec]; repeat (first | exact trivial | refine And.intro rfl ?_)), trivial⟩
    · -- not t17
      refine PW_exit ?_
      refine PW_seq ?_
      have hall : (b.take j).any (fun y => decide (x = y)) = b.any fun y => decide (x = y) := by simp at h2; rw [List.take_of_length_le (by omega)]
      --region 9
      refine PW_region ?_
      refine P10 .none (S_move rfl rfl) ?_
      refine P10 .none (S_not rfl rfl) ?_
      refine Pend ?_
      refine PW_cond rfl (fun h4 => ?_) (fun h4 => ?_)
      · -- t33
        refine PW_seq ?_
        -- region 10
        refine PW_region ?_
        refine P10 .none (S_assign rfl rfl) ?_
        refine Pend ?_
        refine PW_ret ⟨.inr rfl, ?_⟩
        exact ret_g (.cons (.tmp rfl) (.c (.g _)) .nil) (by simp only [gres, GV.bool.injEq, sameBoxes]; rw [all_not hx (by rw [hall] at h4; simpa using h4)]; rfl) trivial
      · -- not t33
        refine PW_skip ?_
        -- region 3
        refine PW_region ?_
        refine P10 .none (S_move rfl rfl) ?_
        refine P10 .none (S_add rfl rfl rfl (And.intro (by omega) (by omega))) ?_
        refine P10 .none (S_assign rfl rfl) ?_
        refine Pend ?_
        exact ⟨i + 1, by omega, ⟨by show i + 1 ≤ a.length; omega, all_next hx hi.2 (by rw [hall] at h4; simpa using h4)⟩, (by repeat (first | exact trivial | refine And.intro rfl ?_)), trivial⟩
  · -- not t11
    refine PW_exit ?_
    refine PW_seq ?_
    -- region 11
    refine PW_region ?_
    refine P10 .none (S_move rfl rfl) ?_
    refine P10 .none (by first | exact S_lenR rfl rfl | exact S_lenO rfl rfl | exact S_lenN rfl rfl | exact S_lenS rfl rfl) ?_
    refine P10 .none (S_move rfl rfl) ?_
    refine P10 .none (by first | exact S_lenR rfl rfl | exact S_lenO rfl rfl | exact S_lenN rfl rfl | exact S_lenS rfl rfl) ?_
    refine P10 .none (S_eql rfl rfl rfl) ?_
    refine P10 .none (S_assign rfl rfl) ?_
    refine Pend ?_
    refine PW_ret ⟨.inr rfl, ?_⟩
    exact ret_g (.cons (.tmp rfl) (.c (.g _)) .nil) (by simp only [gres, GV.bool.injEq, sameBoxes]; rw [all_end (by simp at h1; omega) hi.2]; simp; omega) trivial
end Go.Proofs.Ytdmlfhmnlddooaa
namespace Go.Proofs.Ytdmlfhmnlddooaa
open Go Go.Pu

theorem find_some {α : Type} {l : List α} {f : α → Bool} {i : Nat} {x : α} (hx : l[i]? = some x) (h : (l.take i).all (fun y => !f y) = true) (hf : f x = true) : l.findIdx? f = some i := by
  obtain ⟨hlt, rfl⟩ := List.getElem?_eq_some_iff.1 hx
  rw [List.findIdx?_eq_some_iff_getElem]
  refine ⟨hlt, hf, fun j hj => ?_⟩
  rw [List.all_eq_true] at h
  have := h (l[j]'(by omega)) (List.mem_iff_getElem?.2 ⟨j, by simp [List.getElem?_take, hj]⟩)
  simpa using this
theorem find_none {α : Type} {l : List α} {f : α → Bool} (h : l.all (fun y => !f y) = true) : l.findIdx? f = none := by
  rw [List.findIdx?_eq_none_iff]
  rw [List.all_eq_true] at h
  intro x hx
  simpa using h x hx
def encK (k : Int × Int) : List GV := [.int .i64 k.1, .int .i64 k.2]
def idxI : Option Nat → Int
  | some i => (i : Int)
  | none => -1
/-- The index of the cut with a number, or -1. -/
def knotAt (l : List (Int × Int)) (n : Int) : Int := idxI (l.findIdx? fun k => decide (k.1 = n))
/-- The cuts, each with the one above it. -/
def T.knots : T → Int → Int → List (Int × Int)
  | .cut _ _ p q, n, ab => (n, ab) :: (p.knots (n + 1) n ++ q.knots (n + 1 + p.size) n)
  | _, _, _ => []
theorem T.knots_len (t : T) : ∀ n ab, (t.knots n ab).length ≤ t.size := by
  induction t with
  | waste => intro n ab; simp [T.knots, T.size]
  | pane => intro n ab; simp [T.knots, T.size]
  | cut d a p q ihp ihq => intro n ab; have := ihp (n + 1) n; have := ihq (n + 1 + p.size) n; simp [T.knots, T.size]; omega

/- impl.addKnots: 110, 34, 3, 3 -> [110, 3] -/
set_option maxRecDepth 100000 in
theorem ctr_i_addKnots : ∀ (t : T) (n ab : Int) (es : List (List GV)), es.length + t.size ≤ 100000 → 0 ≤ n ∧ n + t.size ≤ 100000 → Ctr P 139 [.mv 148 0 es, .g (.agg t.plan.cells), .g (.int .i64 n), .g (.int .i64 ab)] (.otup 148 0 (es ++ (t.knots n ab).map encK) [.int .i64 (n + t.size)]) := by
  intro t
  induction t using T.ind with
  | _ t ih =>
  intro n ab es hl hn
  have hpos := t.size_pos
  have hcut := ctr_i_isCut t.plan
  rw [isCut_T] at hcut
  generalize ht : t.plan = pl at hcut
  obtain ⟨op, a, pane, turned, kids⟩ := pl
  refine ctr_of (fn := Go.Proofs.Try.f139) (by kernel_rfl) rfl rfl ?_
  rintro ⟨n, w0, F0, M, pin⟩ hn
  cases hn
  refine PW_seq ?_
  -- region 0
  refine PW_region ?_
  refine P22 .none (by first | exact S_boxA rfl rfl rfl rfl | exact S_boxL rfl rfl rfl rfl rfl | exact S_boxA rfl (Plan.cells_len _) (Plan.cells_one _) rfl) ?_
  refine P10 .none (S_assign rfl rfl) ?_
  refine P10 .none (S_assign rfl rfl) ?_
  refine Pend ?_
  refine PW_seq ?_
  refine PW_seq ?_
  -- region 1
  refine PW_region ?_
  refine P10 .none (by first | exact S_loadOW rfl rfl rfl rfl rfl | exact S_loadRW rfl rfl rfl | exact S_loadLA rfl rfl rfl (Nat.le_of_ble_eq_true rfl) rfl | exact S_loadOA rfl rfl rfl (Nat.le_of_ble_eq_true rfl) rfl | exact S_loadRA rfl (Nat.le_of_ble_eq_true rfl) rfl | exact S_loadRW rfl (Plan.cells_len _) rfl | exact S_loadOW rfl rfl rfl (Plan.cells_len _) rfl) ?_
  refine P00 .none (S_call (.one rfl .nil) rfl hcut (.inl rfl) rfl) ?_
  refine P10 .none (S_not rfl rfl) ?_
  refine Pend ?_
  refine PW_cond rfl (fun h1 => ?_) (fun h1 => ?_)
  · -- t13
    refine PW_seq ?_
    -- region 2
    refine PW_region ?_
    refine P10 .none (S_move rfl rfl) ?_
    refine P10 .none (S_move rfl rfl) ?_
    refine P10 .none (S_add rfl rfl rfl (And.intro (by omega) (by omega))) ?_
    refine P10 .none (S_assign rfl rfl) ?_
    refine P10 .none (S_assign rfl rfl) ?_
    refine Pend ?_
    refine PW_ret ⟨.inr rfl, ?_⟩
    refine RetOk.ot_eq (ret_ot (ts := [9]) rfl (by simp) rfl rfl rfl rfl (l := [.int .i64 (n + 1)]) rfl (by intro i u g hu hg; cases i with | zero => simp at hu hg; subst hu; subst hg; rfl | succ i => simp at hu) trivial) ?_ ?_
    · match t, h1 with
      | .waste, _ => simp [T.knots]
      | .pane n tu, _ => simp [T.knots]
    · match t, h1 with
      | .waste, _ => simp [T.size]
      | .pane n tu, _ => simp [T.size]
  · -- not t13
    refine PW_skip ?_
    refine PW_seq ?_
    obtain ⟨d, a', p, q, rfl⟩ : ∃ d a' p q, t = .cut d a' p q := by
      match t, h1 with
      | .cut d a' p q, _ => exact ⟨d, a', p, q, rfl⟩
    obtain ⟨ihp, ihq⟩ := ih d a' p q rfl
    have hkids : kids = [p.plan, q.plan] := by simp [T.plan] at ht; simp [ht]
    subst hkids
    simp only [T.size] at hl hn
    have hlp := p.knots_len (n + 1) n
    --region 3
    refine PW_region ?_
    refine P10 .none (S_move rfl rfl) ?_
    refine P10 .none (S_move rfl rfl) ?_
    refine P10 .none (S_move rfl rfl) ?_
    refine P10 .none (S_build (gs := [_, _]) (.one rfl rfl rfl rfl (.one rfl rfl rfl rfl (.nil _))) rfl rfl) ?_
    refine P22 .none (S_lit (.agg rfl rfl rfl (.nil _)) rfl rfl rfl) ?_
    refine P22 .none (S_appW rfl rfl rfl rfl (.ownW rfl rfl rfl) (fun l hl => by simp only [List.mem_singleton] at hl; subst hl; rfl) rfl (by omega) (by simp; omega) rfl) ?_
    refine P10 .none (S_assign rfl rfl) ?_
    refine Pend ?_
    refine PW_seq ?_
    -- region 4
    refine PW_region ?_
    refine P10 .none (S_move rfl rfl) ?_
    refine P10 .none (by first | exact S_fieldO rfl rfl rfl | exact S_fieldR rfl rfl rfl) ?_
    refine P10 .none (by first | exact S_loadO1 rfl rfl rfl rfl rfl | exact S_loadR1 rfl rfl rfl | exact S_loadL1 rfl rfl rfl rfl rfl) ?_
    refine P10 .none (by first | exact S_indexR rfl rfl (k := 0) rfl rfl rfl rfl | exact S_indexO rfl rfl rfl rfl (k := 0) rfl rfl rfl | exact S_indexR rfl rfl (k := 0) rfl rfl (Plan.cells_len _) rfl) ?_
    refine P10 .none (by first | exact S_loadOW rfl rfl rfl rfl rfl | exact S_loadRW rfl rfl rfl | exact S_loadLA rfl rfl rfl (Nat.le_of_ble_eq_true rfl) rfl | exact S_loadOA rfl rfl rfl (Nat.le_of_ble_eq_true rfl) rfl | exact S_loadRA rfl (Nat.le_of_ble_eq_true rfl) rfl | exact S_loadRW rfl (Plan.cells_len _) rfl | exact S_loadOW rfl rfl rfl (Plan.cells_len _) rfl) ?_
    refine P10 .none (S_move rfl rfl) ?_
    refine P10 .none (S_add rfl rfl rfl (And.intro (by omega) (by omega))) ?_
    refine P10 .none (S_move rfl rfl) ?_
    refine P00 .none (S_call (.mv rfl rfl (by simp) rfl (.one rfl (.one rfl (.one rfl .nil)))) rfl (ihp (n + 1) n _ (by simp; omega) (by omega)) (.inl rfl) rfl) ?_
    refine P10 .none (S_move rfl rfl) ?_
    refine P10 .none (by first | exact S_extractG rfl rfl rfl | exact S_extractC rfl rfl rfl | exact S_extractA rfl rfl rfl) ?_
    refine P10 .none (by first | exact S_extractG rfl rfl rfl | exact S_extractC rfl rfl rfl | exact S_extractA rfl rfl rfl) ?_
    refine P10 .none (S_assign rfl rfl) ?_
    refine P10 .none (S_assign rfl rfl) ?_
    refine Pend ?_
    refine PW_seq ?_
    -- region 5
    refine PW_region ?_
    refine P10 .none (S_move rfl rfl) ?_
    refine P10 .none (by first | exact S_fieldO rfl rfl rfl | exact S_fieldR rfl rfl rfl) ?_
    refine P10 .none (by first | exact S_loadO1 rfl rfl rfl rfl rfl | exact S_loadR1 rfl rfl rfl | exact S_loadL1 rfl rfl rfl rfl rfl) ?_
    refine P10 .none (by first | exact S_indexR rfl rfl (k := 1) rfl rfl rfl rfl | exact S_indexO rfl rfl rfl rfl (k := 1) rfl rfl rfl | exact S_indexR rfl rfl (k := 1) rfl rfl (Plan.cells_len _) rfl) ?_
    refine P10 .none (by first | exact S_loadOW rfl rfl rfl rfl rfl | exact S_loadRW rfl rfl rfl | exact S_loadLA rfl rfl rfl (Nat.le_of_ble_eq_true rfl) rfl | exact S_loadOA rfl rfl rfl (Nat.le_of_ble_eq_true rfl) rfl | exact S_loadRA rfl (Nat.le_of_ble_eq_true rfl) rfl | exact S_loadRW rfl (Plan.cells_len _) rfl | exact S_loadOW rfl rfl rfl (Plan.cells_len _) rfl) ?_
    refine P10 .none (S_move rfl rfl) ?_
    refine P10 .none (S_move rfl rfl) ?_
    refine P00 .none (S_call (.mv rfl rfl rfl rfl (.one rfl (.one rfl (.one rfl .nil)))) rfl (ihq (n + 1 + p.size) n _ (by simp; omega) (by omega)) (.inl rfl) rfl) ?_
    refine P10 .none (by first | exact S_extractG rfl rfl rfl | exact S_extractC rfl rfl rfl | exact S_extractA rfl rfl rfl) ?_
    refine P10 .none (by first | exact S_extractG rfl rfl rfl | exact S_extractC rfl rfl rfl | exact S_extractA rfl rfl rfl) ?_
    refine P10 .none (S_assign rfl rfl) ?_
    refine P10 .none (S_assign rfl rfl) ?_
    refine Pend ?_
    refine PW_ret ⟨.inr rfl, ?_⟩
    refine RetOk.ot_eq (ret_ot (ts := [9]) rfl (by simp) rfl rfl rfl rfl (l := [.int .i64 (n + 1 + p.size + q.size)]) rfl (by intro i u g hu hg; cases i with | zero => simp at hu hg; subst hu; subst hg; rfl | succ i => simp at hu) trivial) ?_ ?_
    · simp [T.knots, encK]
    · simp [T.size]; omega
/- impl.findKnot$1: 148 -> [4] -/
set_option maxRecDepth 100000 in
theorem ctr_i_findKnot1 (k : Int × Int) (n : Int) : Ctr P 164 [.g (.agg (encK k)), .g (.ref [.int .i64 n])] (.g (.bool (decide (k.1 = n)))) := by
  refine ctr_of (fn := Go.Proofs.Try.f164) (by kernel_rfl) rfl rfl ?_
  rintro ⟨n, w0, F0, M, pin⟩ hn
  cases hn
  refine PW_seq ?_
  -- region 0
  refine PW_region ?_
  refine P22 .none (by first | exact S_boxA rfl rfl rfl rfl | exact S_boxL rfl rfl rfl rfl rfl) ?_
  refine P10 .none (S_assign rfl rfl) ?_
  refine Pend ?_
  refine PW_seq ?_
  -- region 1
  refine PW_region ?_
  refine P10 .none (by first | exact S_fieldO rfl rfl rfl | exact S_fieldR rfl rfl rfl) ?_
  refine P10 .none (by first | exact S_loadO1 rfl rfl rfl rfl rfl | exact S_loadR1 rfl rfl rfl | exact S_loadL1 rfl rfl rfl rfl rfl) ?_
  refine P10 .none (by first | exact S_loadO1 rfl rfl rfl rfl rfl | exact S_loadR1 rfl rfl rfl | exact S_loadL1 rfl rfl rfl rfl rfl) ?_
  refine P10 .none (S_eql rfl rfl rfl) ?_
  refine P10 .none (S_assign rfl rfl) ?_
  refine Pend ?_
  refine PW_ret ⟨.inr rfl, ?_⟩
  exact ret_g (.cons (.tmp rfl) (.c (.g _)) .nil) (by rfl) trivial
/- slices.IndexFunc[[]impl.knot,impl.knot]: 110, 182 -> [3] -/
set_option maxRecDepth 100000 in
theorem ctr_indexKnot (l : List (Int × Int)) (n : Int) (hl : l.length ≤ 100000) : Ctr P 163 [.g (.sl (l.map encK)), .g (.clo 164 [.ref [.int .i64 n]])] (.g (.int .i64 (knotAt l n))) := by
  refine ctr_of (fn := Go.Proofs.Try.f163) (by kernel_rfl) rfl rfl ?_
  rintro ⟨n, w0, F0, M, pin⟩ hn
  cases hn
  refine PW_seq ?_
  -- region 0
  refine PW_region ?_
  refine P10 .none (S_assign rfl rfl) ?_
  refine Pend ?_
  refine PW_seq ?_
  refine PW_seq ?_
  -- region 1
  refine PW_region ?_
  refine P10 .none (S_move rfl rfl) ?_
  refine P10 .none (by first | exact S_lenR rfl rfl | exact S_lenO rfl rfl | exact S_lenN rfl rfl | exact S_lenS rfl rfl) ?_
  refine P10 .none (S_move rfl rfl) ?_
  refine Pend ?_
  refine PW_block ?_
  refine PW_iter (ι := Nat) (fun i => [(0, .c (.g (.sl (l.map encK)))), (1, .c (.g (.clo 164 [.ref [.int .i64 n]]))), (7, .c (.g (.int .i64 (l.map encK).length))), (8, .c (.g (.int .i64 (i : Nat))))]) (fun i => []) (fun i => i ≤ l.length ∧ (l.take i).all (fun k => !decide (k.1 = n)) = true) (fun i => l.length - i) 0 ⟨Nat.zero_le _, rfl⟩ (by repeat (first | exact trivial | refine And.intro rfl ?_)) (by repeat (first | exact trivial | refine And.intro rfl ?_)) (fun i hi => ?_)
  refine PW_seq ?_
  -- region 2
  refine PW_region ?_
  refine P10 .none (S_lss rfl rfl rfl) ?_
  refine Pend ?_
  refine PW_seq ?_
  refine PW_cond rfl (fun h1 => ?_) (fun h1 => ?_)
  · -- t9
    refine PW_skip ?_
    refine PW_seq ?_
    refine PW_block ?_
    refine PW_seq ?_
    obtain ⟨x, hx⟩ := at_lt h1
    have hlt := (List.getElem?_eq_some_iff.1 hx).1
    --region 3
    refine PW_region ?_
    refine P10 .none (S_move rfl rfl) ?_
    refine P10 .none (S_assign rfl rfl) ?_
    refine Pend ?_
    refine PW_seq ?_
    -- region 4
    refine PW_region ?_
    refine P10 .none (S_move rfl rfl) ?_
    refine P10 .none (S_move rfl rfl) ?_
    refine P10 .none (S_move rfl rfl) ?_
    refine P10 .none (by first | exact S_indexR rfl rfl rfl (map_at hx) rfl rfl | exact S_indexO rfl rfl rfl rfl rfl (map_at hx) rfl) ?_
    refine P10 .none (by first | exact S_loadOW rfl rfl rfl rfl rfl | exact S_loadRW rfl rfl rfl | exact S_loadLA rfl rfl rfl (Nat.le_of_ble_eq_true rfl) rfl | exact S_loadOA rfl rfl rfl (Nat.le_of_ble_eq_true rfl) rfl | exact S_loadRA rfl (Nat.le_of_ble_eq_true rfl) rfl) ?_
    refine P00 .none (S_callV rfl (.one rfl .nil) rfl (ctr_i_findKnot1 x n) (.inl rfl) rfl) ?_
    refine Pend ?_
    refine PW_cond rfl (fun h2 => ?_) (fun h2 => ?_)
    · -- t16
      refine PW_seq ?_
      -- region 5
      refine PW_region ?_
      refine P10 .none (S_move rfl rfl) ?_
      refine P10 .none (S_assign rfl rfl) ?_
      refine Pend ?_
      refine PW_ret ⟨.inr rfl, ?_⟩
      exact ret_g (.cons (.tmp rfl) (.c (.g _)) .nil) (by simp only [gres, knotAt, find_some (f := fun k => decide (k.1 = n)) hx hi.2 h2]; rfl) trivial
    · -- not t16
      refine PW_skip ?_
      -- region 6
      refine PW_region ?_
      refine P10 .none (S_add rfl rfl rfl (And.intro (by omega) (by omega))) ?_
      refine P10 .none (S_move rfl rfl) ?_
      refine Pend ?_
      exact ⟨i + 1, by omega, ⟨by show i + 1 ≤ l.length; omega, all_next hx hi.2 (by rw [h2]; rfl)⟩, (by repeat (first | exact trivial | refine And.intro rfl ?_)), trivial⟩
  · -- not t9
    refine PW_exit ?_
    refine PW_seq ?_
    -- region 7
    refine PW_region ?_
    refine P10 .none (S_assign rfl rfl) ?_
    refine Pend ?_
    refine PW_ret ⟨.inr rfl, ?_⟩
    exact ret_g (.cons (.tmp rfl) (.c (.g _)) .nil) (by have e := find_none (l := l) (f := fun k => decide (k.1 = n)) (all_end (by simp at h1; omega) hi.2); simp only [gres, knotAt, e]; rfl) trivial
/- impl.findKnot: 110, 3 -> [3] -/
set_option maxRecDepth 100000 in
theorem ctr_i_findKnot (l : List (Int × Int)) (n : Int) (hl : l.length ≤ 100000) : Ctr P 140 [.g (.sl (l.map encK)), .g (.int .i64 n)] (.g (.int .i64 (knotAt l n))) := by
  refine ctr_of (fn := Go.Proofs.Try.f140) (by kernel_rfl) rfl rfl ?_
  rintro ⟨n, w0, F0, M, pin⟩ hn
  cases hn
  refine PW_seq ?_
  -- region 0
  refine PW_region ?_
  refine P22 .none (by first | exact S_box1 rfl rfl rfl | exact S_boxO rfl rfl rfl) ?_
  refine P10 .none (S_assign rfl rfl) ?_
  refine Pend ?_
  refine PW_frzB 3 rfl rfl rfl ?_
  refine PW_seq ?_
  --region 1
  refine PW_region ?_
  refine P10 .none (S_move rfl rfl) ?_
  refine P10 .none (S_clo1 rfl rfl) ?_
  refine P00 .none (S_call (.one rfl (.one rfl .nil)) rfl (ctr_indexKnot l n hl) (.inl rfl) rfl) ?_
  refine P10 .none (S_assign rfl rfl) ?_
  refine Pend ?_
  refine PW_ret ⟨.inr rfl, ?_⟩
  exact ret_g (.cons (.tmp rfl) (.c (.g _)) .nil) (by rfl) trivial
end Go.Proofs.Ytdmlfhmnlddooaa
namespace Go.Proofs.Ytdmlfhmnlddooaa
open Go Go.Pu

theorem formed_iff {p : Plan} : 0 ≤ planSize p ↔ ∃ t : T, p = t.plan ∧ t.size ≤ 255 := by
  constructor
  · intro h
    obtain ⟨t, rfl⟩ := countParts_formed p 255 h
    refine ⟨t, rfl, ?_⟩
    rw [planSize, countParts_T] at h
    split at h <;> omega
  · rintro ⟨t, rfl, h⟩
    rw [planSize, countParts_T, if_pos (by omega)]
    omega
theorem planSize_T {t : T} (h : t.size ≤ 255) : planSize t.plan = t.size := by rw [planSize, countParts_T, if_pos (by omega)]
/-- Whether a cut can be made, of which those done are known. -/
def stepOk (ks : List (Int × Int)) (done : List Int) (n : Int) : Bool :=
  match ks.find? (fun k => decide (k.1 = n)) with
  | none => false
  | some k => !done.contains n && (decide (k.2 < 0) || done.contains k.2)
def begins (ks : List (Int × Int)) (steps : List Int) : Bool := (List.range steps.length).all fun i => match steps[i]? with | some n => stepOk ks (steps.take i) n | none => true
theorem knot_found {l : List (Int × Int)} {n : Int} (h : decide (knotAt l n < 0) = false) : ∃ (j : Nat) (x : Int × Int), l[j]? = some x ∧ x.1 = n ∧ knotAt l n = j ∧ l.find? (fun k => decide (k.1 = n)) = some x := by
  have h := of_decide_eq_false h
  unfold knotAt at h ⊢
  cases hx : l.findIdx? fun k => decide (k.1 = n) with
  | none => rw [hx] at h; simp [idxI] at h
  | some j =>
    obtain ⟨hlt, h1, h2⟩ := List.findIdx?_eq_some_iff_getElem.1 hx
    refine ⟨j, l[j], List.getElem?_eq_getElem hlt, by simpa using h1, rfl, ?_⟩
    rw [List.find?_eq_some_iff_getElem]
    exact ⟨h1, j, hlt, rfl, fun k hk => by simpa using h2 k hk⟩
theorem knot_none {l : List (Int × Int)} {n : Int} (h : decide (knotAt l n < 0) = true) : l.find? (fun k => decide (k.1 = n)) = none := by
  have h := of_decide_eq_true h
  unfold knotAt at h
  cases hx : l.findIdx? fun k => decide (k.1 = n) with
  | none =>
    rw [List.findIdx?_eq_none_iff] at hx
    rw [List.find?_eq_none]
    intro x hm
    simpa using hx x hm
  | some j => rw [hx] at h; simp [idxI] at h; omega
def madeL (done : List Int) : List GV := (List.range 255).map fun m : Nat => .bool (done.contains ((m : Nat) : Int))
theorem made_at (done : List Int) {k : Nat} (hk : k < 255) : (madeL done)[0 + k * 1]? = some (.bool (done.contains (k : Int))) := by
  simp [madeL, List.getElem?_range, hk]
theorem made_len (done : List Int) : (madeL done).length = 255 := by simp [madeL]
theorem made_set (done : List Int) {k : Nat} (hk : k < 255) : (madeL done).set (0 + k * 1) (.bool true) = madeL (done ++ [(k : Int)]) := by
  apply List.ext_getElem?
  intro i
  rw [List.getElem?_set]
  simp only [madeL, List.getElem?_map, List.length_map, List.length_range]
  by_cases hi : i < 255
  · rw [List.getElem?_range hi]
    by_cases hik : 0 + k * 1 = i
    · have : (i : Int) = k := by omega
      simp [this, hk]
      omega
    · have : ¬ (i : Int) = k := by omega
      simp [this]
      intro h; omega
  · rw [List.getElem?_eq_none (by simp; omega)]
    simp
    intro h; omega
theorem made_init : List.replicate 255 (GV.bool false) = madeL [] := by
  apply List.ext_getElem?
  intro i
  simp only [madeL, List.getElem?_replicate, List.getElem?_map]
  by_cases hi : i < 255
  · rw [List.getElem?_range hi]; simp [hi]
  · rw [List.getElem?_eq_none (by simp; omega)]; simp [hi]
theorem range_all {n : Nat} {f : Nat → Bool} : (List.range n).all f = true ↔ ∀ i, i < n → f i = true := by simp [List.all_eq_true]
theorem begins_not {ks : List (Int × Int)} {steps : List Int} {i : Nat} {n : Int} (h : steps[i]? = some n) (hf : stepOk ks (steps.take i) n = false) : begins ks steps = false := by
  rw [begins, List.all_eq_false]
  exact ⟨i, by simpa using (List.getElem?_eq_some_iff.1 h).1, by simp [h, hf]⟩
theorem begins_yes {ks : List (Int × Int)} {steps : List Int} (h : ∀ j n, steps[j]? = some n → stepOk ks (steps.take j) n = true) : begins ks steps = true := by
  rw [begins, range_all]
  intro i hi
  rw [List.getElem?_eq_getElem hi]
  exact h i _ (List.getElem?_eq_getElem hi)
def encI (n : Int) : List GV := [.int .i64 n]
/-- Numbers of at most 255 parts. -/
def KsOk (ks : List (Int × Int)) : Prop := ks.length ≤ 255 ∧ ∀ k ∈ ks, 0 ≤ k.1 ∧ k.1 < 255 ∧ -1 ≤ k.2 ∧ k.2 < 255

/- impl.beginsOrder: 110, 26 -> [4] -/
set_option maxRecDepth 100000 in
theorem step_next {ks : List (Int × Int)} {steps : List Int} {i : Nat} {n : Int} (h : ∀ j, j < i → ∀ n, steps[j]? = some n → stepOk ks (steps.take j) n = true) (hx : steps[i]? = some n) (hn : stepOk ks (steps.take i) n = true) :
    ∀ j, j < i + 1 → ∀ n, steps[j]? = some n → stepOk ks (steps.take j) n = true := by
  intro j hj m hm
  by_cases hji : j = i
  · subst hji; rw [hx] at hm; cases hm; exact hn
  · exact h j (by omega) m hm
theorem ctr_i_beginsOrder (ks : List (Int × Int)) (steps : List Int) (hks : KsOk ks) (hs : steps.length ≤ 100000000) : Ctr P 81 [.g (.sl (ks.map encK)), .g (.sl (steps.map encI))] (.g (.bool (begins ks steps))) := by
  refine ctr_of (fn := Go.Proofs.Try.f81) (by kernel_rfl) rfl rfl ?_
  rintro ⟨n, w0, F0, M, pin⟩ hn
  cases hn
  refine PW_seq ?_
  -- region 0
  refine PW_region ?_
  refine P10 .none (S_assign rfl rfl) ?_
  refine Pend ?_
  refine PW_seq ?_
  -- region 1
  refine PW_region ?_
  refine P22 .none (S_alloc rfl) ?_
  refine Pend ?_
  refine PW_seq ?_
  refine PW_seq ?_
  -- region 2
  refine PW_region ?_
  refine P10 .none (S_move rfl rfl) ?_
  refine P10 .none (by first | exact S_lenR rfl rfl | exact S_lenO rfl rfl | exact S_lenN rfl rfl | exact S_lenS rfl rfl) ?_
  refine P10 .none (S_move rfl rfl) ?_
  refine Pend ?_
  refine PW_block ?_
  refine PW_iter (ι := Nat) (fun i => [(0, .c (.g (.sl (ks.map encK)))), (5, .c (.optr 5 0 0)), (10, .c (.g (.sl (steps.map encI)))), (11, .c (.g (.int .i64 (steps.map encI).length))), (12, .c (.g (.int .i64 (i : Nat))))]) (fun i => [(5, ⟨162, 0, .gnd [madeL (steps.take i)]⟩)]) (fun i => i ≤ steps.length ∧ ∀ j, j < i → ∀ n, steps[j]? = some n → stepOk ks (steps.take j) n = true) (fun i => steps.length - i) 0 ⟨Nat.zero_le _, by intro j hj; omega⟩ (by repeat (first | exact trivial | refine And.intro rfl ?_)) (by rw [List.take_zero, ← made_init]; exact ⟨rfl, trivial⟩) (fun i hi => ?_)
  refine PW_seq ?_
  -- region 3
  refine PW_region ?_
  refine P10 .none (S_lss rfl rfl rfl) ?_
  refine Pend ?_
  refine PW_seq ?_
  refine PW_cond rfl (fun h1 => ?_) (fun h1 => ?_)
  · -- t13
    refine PW_skip ?_
    refine PW_seq ?_
    refine PW_block ?_
    refine PW_seq ?_
    obtain ⟨n, hx⟩ := at_lt h1
    have hlt := (List.getElem?_eq_some_iff.1 hx).1
    have hnt : steps.take (i + 1) = steps.take i ++ [n] := by rw [List.take_add_one, hx]; rfl
    --region 4
    refine PW_region ?_
    refine P10 .none (by first | exact S_indexR rfl rfl rfl (map_at hx) rfl rfl | exact S_indexO rfl rfl rfl rfl rfl (map_at hx) rfl) ?_
    refine P10 .none (by first | exact S_loadO1 rfl rfl rfl rfl rfl | exact S_loadR1 rfl rfl rfl | exact S_loadL1 rfl rfl rfl rfl rfl) ?_
    refine P10 .none (S_assign rfl rfl) ?_
    refine Pend ?_
    refine PW_seq ?_
    -- region 5
    refine PW_region ?_
    refine P10 .none (S_move rfl rfl) ?_
    refine P10 .none (S_move rfl rfl) ?_
    refine P00 .none (S_call (.one rfl (.one rfl .nil)) rfl (ctr_i_findKnot ks n (by have := hks.1; omega)) (.inl rfl) rfl) ?_
    refine P10 .none (S_assign rfl rfl) ?_
    refine Pend ?_
    refine PW_seq ?_
    refine PW_seq ?_
    -- region 6
    refine PW_region ?_
    refine P10 .none (S_move rfl rfl) ?_
    refine P10 .none (S_lss rfl rfl rfl) ?_
    refine P10 .none (S_move rfl rfl) ?_
    refine Psplit 21 rfl (fun h2 => ?_) (fun h2 => ?_)
    · -- t21 = true
      refine Pskip rfl rfl h2 rfl ?_
      refine Pskip rfl rfl h2 rfl ?_
      refine Pskip rfl rfl h2 rfl ?_
      refine P10 .none (S_pickT rfl h2 rfl rfl) ?_
      refine Pend ?_
      refine PW_condT rfl rfl ?_
      refine PW_seq ?_
      -- region 7
      refine PW_region ?_
      refine P10 .none (S_assign rfl rfl) ?_
      refine Pend ?_
      refine PW_ret ⟨.inr rfl, ?_⟩
      exact ret_g (.cons (.tmp rfl) (.c (.g _)) .nil) (by simp only [gres, begins_not hx (show stepOk ks (steps.take i) n = false by simp only [stepOk, knot_none h2])]) trivial
    · -- t21 = false
      obtain ⟨j, x, hxk, hxn, hat, hfind⟩ := knot_found h2
      obtain ⟨b1, b2, b3, b4⟩ := hks.2 x (List.mem_of_getElem? hxk)
      obtain ⟨m, hm⟩ : ∃ m : Nat, n = m := ⟨n.toNat, by omega⟩
      subst hm
      have hm255 : m < 255 := by omega
      refine P10 (.yes rfl rfl h2) (S_move rfl rfl) ?_
      refine P10 (.yes rfl rfl h2) (by first | exact S_indexA rfl rfl rfl hm255 rfl | exact S_indexAR rfl rfl rfl hm255 rfl) ?_
      refine P10 (.yes rfl rfl h2) (by first | exact S_loadO1 rfl rfl rfl (made_at _ hm255) rfl | exact S_loadR1 rfl rfl rfl | exact S_loadL1 rfl rfl rfl rfl rfl) ?_
      refine P10 .none (S_pickF rfl h2 rfl rfl) ?_
      refine Pend ?_
      refine PW_cond rfl (fun h3 => ?_) (fun h3 => ?_)
      · -- t25
        refine PW_seq ?_
        -- region 7
        refine PW_region ?_
        refine P10 .none (S_assign rfl rfl) ?_
        refine Pend ?_
        refine PW_ret ⟨.inr rfl, ?_⟩
        exact ret_g (.cons (.tmp rfl) (.c (.g _)) .nil) (by simp only [gres, begins_not hx (show stepOk ks (steps.take i) m = false by simp only [stepOk, hfind, h3]; rfl)]) trivial
      · -- not t25
        refine PW_skip ?_
        refine PW_seq ?_
        refine PW_seq ?_
        -- region 8
        refine PW_region ?_
        refine P10 .none (S_move rfl rfl) ?_
        refine P10 .none (S_move rfl rfl) ?_
        refine P10 .none (by first | exact S_indexR rfl rfl hat (map_at hxk) rfl rfl | exact S_indexO rfl rfl rfl rfl hat (map_at hxk) rfl) ?_
        refine P10 .none (by first | exact S_fieldO rfl rfl rfl | exact S_fieldR rfl rfl rfl) ?_
        refine P10 .none (by first | exact S_loadO1 rfl rfl rfl rfl rfl | exact S_loadR1 rfl rfl rfl | exact S_loadL1 rfl rfl rfl rfl rfl) ?_
        refine P10 .none (S_assign rfl rfl) ?_
        refine Pend ?_
        refine PW_seq ?_
        -- region 9
        refine PW_region ?_
        refine P10 .none (S_move rfl rfl) ?_
        refine P10 .none (S_geq rfl rfl rfl) ?_
        refine P10 .none (S_move rfl rfl) ?_
        refine Psplit 33 rfl (fun h4 => ?_) (fun h4 => ?_)
        · -- t33 = true
          obtain ⟨q, hq⟩ : ∃ q : Nat, x.2 = q := ⟨x.2.toNat, by have := of_decide_eq_true h4; omega⟩
          have hq255 : q < 255 := by omega
          refine P10 (.yes rfl rfl h4) (S_move rfl rfl) ?_
          refine P10 (.yes rfl rfl h4) (by first | exact S_indexA rfl rfl hq hq255 rfl | exact S_indexAR rfl rfl hq hq255 rfl) ?_
          refine P10 (.yes rfl rfl h4) (by first | exact S_loadO1 rfl rfl rfl (made_at _ hq255) rfl | exact S_loadR1 rfl rfl rfl | exact S_loadL1 rfl rfl rfl rfl rfl) ?_
          refine P10 (.yes rfl rfl h4) (S_not rfl rfl) ?_
          refine P10 .none (S_pickT rfl h4 rfl rfl) ?_
          refine Pend ?_
          refine PW_cond rfl (fun h5 => ?_) (fun h5 => ?_)
          · -- t38
            refine PW_seq ?_
            -- region 10
            refine PW_region ?_
            refine P10 .none (S_assign rfl rfl) ?_
            refine Pend ?_
            refine PW_ret ⟨.inr rfl, ?_⟩
            exact ret_g (.cons (.tmp rfl) (.c (.g _)) .nil) (by simp only [gres, begins_not hx (show stepOk ks (steps.take i) m = false by simp only [stepOk, hfind, h3]; rw [hq]; simpa [hq] using h5)]) trivial
          · -- not t38
            refine PW_skip ?_
            -- region 11
            refine PW_region ?_
            refine P10 .none (S_move rfl rfl) ?_
            refine P10 .none (by first | exact S_indexA rfl rfl rfl hm255 rfl | exact S_indexAR rfl rfl rfl hm255 rfl) ?_
            refine P01 .none (by first | exact S_store1 rfl rfl rfl rfl (by rw [made_len]; simp [Nat.blt_eq]; omega) | exact S_storeL rfl rfl rfl rfl rfl | exact S_storeH rfl rfl rfl rfl | exact S_store1e rfl rfl rfl HK rfl (Nat.le_of_ble_eq_true rfl)) ?_
            refine Pend ?_
            -- region 12
            refine PW_region ?_
            refine P10 .none (S_add rfl rfl rfl (And.intro (by omega) (by omega))) ?_
            refine P10 .none (S_move rfl rfl) ?_
            refine Pend ?_
            exact ⟨i + 1, by omega, ⟨by show i + 1 ≤ steps.length; omega, step_next hi.2 hx (by simp only [stepOk, hfind, h3]; rw [hq]; simp at h5 ⊢; exact .inr h5)⟩, (by repeat (first | exact trivial | refine And.intro rfl ?_)), (by rw [hnt]; exact ⟨by rw [← made_set _ hm255]; rfl, trivial⟩)⟩
        · -- t33 = false
          refine Pskip rfl rfl h4 rfl ?_
          refine Pskip rfl rfl h4 rfl ?_
          refine Pskip rfl rfl h4 rfl ?_
          refine Pskip rfl rfl h4 rfl ?_
          refine P10 .none (S_pickF rfl h4 rfl rfl) ?_
          refine Pend ?_
          refine PW_condF rfl rfl ?_
          refine PW_skip ?_
          -- region 11
          refine PW_region ?_
          refine P10 .none (S_move rfl rfl) ?_
          refine P10 .none (by first | exact S_indexA rfl rfl rfl hm255 rfl | exact S_indexAR rfl rfl rfl hm255 rfl) ?_
          refine P01 .none (by first | exact S_store1 rfl rfl rfl rfl (by rw [made_len]; simp [Nat.blt_eq]; omega) | exact S_storeL rfl rfl rfl rfl rfl | exact S_storeH rfl rfl rfl rfl | exact S_store1e rfl rfl rfl HK rfl (Nat.le_of_ble_eq_true rfl)) ?_
          refine Pend ?_
          -- region 12
          refine PW_region ?_
          refine P10 .none (S_add rfl rfl rfl (And.intro (by omega) (by omega))) ?_
          refine P10 .none (S_move rfl rfl) ?_
          refine Pend ?_
          exact ⟨i + 1, by omega, ⟨by show i + 1 ≤ steps.length; omega, step_next hi.2 hx (by have h6 := of_decide_eq_false h4; simp only [stepOk, hfind, h3]; simp; left; omega)⟩, (by repeat (first | exact trivial | refine And.intro rfl ?_)), (by rw [hnt]; exact ⟨by rw [← made_set _ hm255]; rfl, trivial⟩)⟩
  · -- not t13
    refine PW_exit ?_
    refine PW_seq ?_
    -- region 13
    refine PW_region ?_
    refine P10 .none (S_assign rfl rfl) ?_
    refine Pend ?_
    refine PW_ret ⟨.inr rfl, ?_⟩
    exact ret_g (.cons (.tmp rfl) (.c (.g _)) .nil) (by simp only [gres, begins_yes (fun j n hj => hi.2 j (by have := (List.getElem?_eq_some_iff.1 hj).1; simp at h1; omega) n hj)]) trivial
end Go.Proofs.Ytdmlfhmnlddooaa
namespace Go.Proofs.Ytdmlfhmnlddooaa
open Go Go.Pu

theorem T.knots_ok (t : T) : ∀ n ab : Int, 0 ≤ n → -1 ≤ ab → ab < n → ∀ k ∈ t.knots n ab, n ≤ k.1 ∧ k.1 < n + t.size ∧ -1 ≤ k.2 ∧ k.2 < n + t.size := by
  induction t with
  | waste => intro n ab _ _ _ k hk; simp [T.knots] at hk
  | pane => intro n ab _ _ _ k hk; simp [T.knots] at hk
  | cut d a p q ihp ihq =>
    intro n ab h1 h2 h3 k hk
    have hp := p.size_pos
    have hq := q.size_pos
    simp only [T.knots, List.mem_cons, List.mem_append] at hk
    simp only [T.size]
    rcases hk with rfl | hk | hk
    · simp; omega
    · have := ihp (n + 1) n (by omega) (by omega) (by omega) k hk; omega
    · have := ihq (n + 1 + p.size) n (by omega) (by omega) (by omega) k hk; omega
def T.cuts (t : T) : List (Int × Int) := t.knots 0 (-1)
theorem T.cuts_ok {t : T} (h : t.size ≤ 255) : KsOk t.cuts := by
  refine ⟨Nat.le_trans (t.knots_len 0 (-1)) h, fun k hk => ?_⟩
  have := t.knots_ok 0 (-1) (by omega) (by omega) (by omega) k hk
  omega
def boxAt (bs : List Box) (b : Box) : Int := idxI (bs.findIdx? fun y => decide (b = y))
/-- How many pieces must wait at least. -/
def T.table : T → Int
  | .cut _ _ p q => if p.table = q.table then p.table + 1 else max p.table q.table
  | _ => 0
theorem T.table_le (t : T) : 0 ≤ t.table ∧ t.table ≤ t.size := by
  induction t with
  | waste => simp [T.table, T.size]
  | pane => simp [T.table, T.size]
  | cut d a p q ihp ihq => simp only [T.table, T.size]; split <;> omega
def T.best : T → Int → List Int
  | .cut _ _ p q, n => n :: (if q.table < p.table then q.best (n + 1 + p.size) ++ p.best (n + 1) else p.best (n + 1) ++ q.best (n + 1 + p.size))
  | _, _ => []

/- slices.Index[[]impl.Box,impl.Box]: 38, 102 -> [3] -/
set_option maxRecDepth 100000 in
theorem ctr_indexBox (bs : List Box) (b : Box) (hl : bs.length ≤ 100000000) : Ctr P 82 [.g (.sl (bs.map Box.cells)), .g (.agg b.cells)] (.g (.int .i64 (boxAt bs b))) := by
  refine ctr_of (fn := Go.Proofs.Try.f82) (by kernel_rfl) rfl rfl ?_
  rintro ⟨n, w0, F0, M, pin⟩ hn
  cases hn
  refine PW_seq ?_
  -- region 0
  refine PW_region ?_
  refine P22 .none (by first | exact S_boxA rfl rfl rfl rfl | exact S_boxL rfl rfl rfl rfl rfl) ?_
  refine P10 .none (S_assign rfl rfl) ?_
  refine Pend ?_
  refine PW_seq ?_
  refine PW_seq ?_
  -- region 1
  refine PW_region ?_
  refine P10 .none (S_move rfl rfl) ?_
  refine P10 .none (by first | exact S_lenR rfl rfl | exact S_lenO rfl rfl | exact S_lenN rfl rfl | exact S_lenS rfl rfl) ?_
  refine P10 .none (S_move rfl rfl) ?_
  refine Pend ?_
  refine PW_block ?_
  refine PW_iter (ι := Nat) (fun i => [(0, .c (.g (.sl (bs.map Box.cells)))), (3, .c (.optr 3 0 0)), (7, .c (.g (.int .i64 (bs.map Box.cells).length))), (8, .c (.g (.int .i64 (i : Nat))))]) (fun i => [(3, ⟨102, 0, .gnd [b.cells]⟩)]) (fun i => i ≤ bs.length ∧ (bs.take i).all (fun y => !decide (b = y)) = true) (fun i => bs.length - i) 0 ⟨Nat.zero_le _, rfl⟩ (by repeat (first | exact trivial | refine And.intro rfl ?_)) (by repeat (first | exact trivial | refine And.intro rfl ?_)) (fun i hi => ?_)
  refine PW_seq ?_
  -- region 2
  refine PW_region ?_
  refine P10 .none (S_lss rfl rfl rfl) ?_
  refine Pend ?_
  refine PW_seq ?_
  refine PW_cond rfl (fun h1 => ?_) (fun h1 => ?_)
  · -- t9
    refine PW_skip ?_
    refine PW_seq ?_
    refine PW_block ?_
    refine PW_seq ?_
    obtain ⟨x, hx⟩ := at_lt h1
    have hlt := (List.getElem?_eq_some_iff.1 hx).1
    --region 3
    refine PW_region ?_
    refine P10 .none (S_move rfl rfl) ?_
    refine P10 .none (S_assign rfl rfl) ?_
    refine Pend ?_
    refine PW_seq ?_
    -- region 4
    refine PW_draw (by kernel_rfl) ?_
    refine P10 .none (by first | exact S_loadOW rfl rfl rfl rfl rfl | exact S_loadRW rfl rfl rfl | exact S_loadLA rfl rfl rfl (Nat.le_of_ble_eq_true rfl) rfl | exact S_loadOA rfl rfl rfl (Nat.le_of_ble_eq_true rfl) rfl | exact S_loadRA rfl (Nat.le_of_ble_eq_true rfl) rfl) ?_
    refine P10 .none (S_move rfl rfl) ?_
    refine P10 .none (S_move rfl rfl) ?_
    refine P10 .none (by first | exact S_indexR rfl rfl rfl (map_at hx) rfl rfl | exact S_indexO rfl rfl rfl rfl rfl (map_at hx) rfl) ?_
    refine P10 .none (by first | exact S_loadOW rfl rfl rfl rfl rfl | exact S_loadRW rfl rfl rfl | exact S_loadLA rfl rfl rfl (Nat.le_of_ble_eq_true rfl) rfl | exact S_loadOA rfl rfl rfl (Nat.le_of_ble_eq_true rfl) rfl | exact S_loadRA rfl (Nat.le_of_ble_eq_true rfl) rfl) ?_
    refine P10 .none (S_eqF (xs := Box.ints _) (ys := Box.ints _) rfl rfl rfl rfl rfl rfl rfl) ?_
    refine Pend ⟨by kernel_rfl, ?_⟩
    refine PW_cond rfl (fun h2 => ?_) (fun h2 => ?_)
    · -- t16
      refine PW_seq ?_
      -- region 5
      refine PW_region ?_
      refine P10 .none (S_move rfl rfl) ?_
      refine P10 .none (S_assign rfl rfl) ?_
      refine Pend ?_
      refine PW_ret ⟨.inr rfl, ?_⟩
      exact ret_g (.cons (.tmp rfl) (.c (.g _)) .nil) (by simp only [gres, boxAt, find_some (f := fun y => decide (b = y)) hx hi.2 (by rw [← ints_dec]; exact h2)]; rfl) trivial
    · -- not t16
      refine PW_skip ?_
      -- region 6
      refine PW_region ?_
      refine P10 .none (S_add rfl rfl rfl (And.intro (by omega) (by omega))) ?_
      refine P10 .none (S_move rfl rfl) ?_
      refine Pend ?_
      exact ⟨i + 1, by omega, ⟨by show i + 1 ≤ bs.length; omega, all_next hx hi.2 (by rw [← ints_dec, h2]; rfl)⟩, (by repeat (first | exact trivial | refine And.intro rfl ?_)), (by repeat (first | exact trivial | refine And.intro rfl ?_))⟩
  · -- not t9
    refine PW_exit ?_
    refine PW_seq ?_
    -- region 7
    refine PW_region ?_
    refine P10 .none (S_assign rfl rfl) ?_
    refine Pend ?_
    refine PW_ret ⟨.inr rfl, ?_⟩
    exact ret_g (.cons (.tmp rfl) (.c (.g _)) .nil) (by have e := find_none (l := bs) (f := fun y => decide (b = y)) (all_end (by simp at h1; omega) hi.2); simp only [gres, boxAt, e]; rfl) trivial
/- impl.knotsOf: 34 -> [110, 4] -/
set_option maxRecDepth 100000 in
theorem ctr_i_knotsOf (t : T) (h : t.size ≤ 255) : Ctr P 80 [.g (.agg t.plan.cells)] (.g (.tup [.sl (t.cuts.map encK), .bool true])) := by
  have hadd := ctr_i_addKnots t 0 (-1) [] (by simp; omega) (by omega)
  rw [List.nil_append] at hadd
  have hps := ctr_i_PlanSize t.plan
  rw [planSize_T h] at hps
  refine ctr_of (fn := Go.Proofs.Try.f80) (by kernel_rfl) rfl rfl ?_
  rintro ⟨n, w0, F0, M, pin⟩ hn
  cases hn
  refine PW_seq ?_
  -- region 0
  refine PW_region ?_
  refine P22 .none (by first | exact S_boxA rfl rfl rfl rfl | exact S_boxL rfl rfl rfl rfl rfl | exact S_boxA rfl (Plan.cells_len _) (Plan.cells_one _) rfl) ?_
  refine P10 .none (S_assign rfl rfl) ?_
  refine P10 .none (S_assign rfl rfl) ?_
  refine Pend ?_
  refine PW_seq ?_
  refine PW_seq ?_
  -- region 1
  refine PW_region ?_
  refine P10 .none (by first | exact S_loadOW rfl rfl rfl rfl rfl | exact S_loadRW rfl rfl rfl | exact S_loadLA rfl rfl rfl (Nat.le_of_ble_eq_true rfl) rfl | exact S_loadOA rfl rfl rfl (Nat.le_of_ble_eq_true rfl) rfl | exact S_loadRA rfl (Nat.le_of_ble_eq_true rfl) rfl | exact S_loadRW rfl (Plan.cells_len _) rfl | exact S_loadOW rfl rfl rfl (Plan.cells_len _) rfl) ?_
  refine P00 .none (S_call (.one rfl .nil) rfl hps (.inl rfl) rfl) ?_
  refine P10 .none (S_lss rfl rfl rfl) ?_
  refine Pend ?_
  refine PW_cond rfl (fun h1 => ?_) (fun h1 => ?_)
  · -- t8
    refine PW_seq ?_
    -- region 2
    refine PW_region ?_
    refine P10 .none (S_assign rfl rfl) ?_
    refine P10 .none (S_assign rfl rfl) ?_
    refine Pend ?_
    refine PW_ret ⟨.inr rfl, ?_⟩
    have := of_decide_eq_true h1; omega
  · -- not t8
    refine PW_skip ?_
    refine PW_seq ?_
    -- region 3
    refine PW_region ?_
    refine P10 .none (by first | exact S_loadOW rfl rfl rfl rfl rfl | exact S_loadRW rfl rfl rfl | exact S_loadLA rfl rfl rfl (Nat.le_of_ble_eq_true rfl) rfl | exact S_loadOA rfl rfl rfl (Nat.le_of_ble_eq_true rfl) rfl | exact S_loadRA rfl (Nat.le_of_ble_eq_true rfl) rfl | exact S_loadRW rfl (Plan.cells_len _) rfl | exact S_loadOW rfl rfl rfl (Plan.cells_len _) rfl) ?_
    refine P00 .none (S_call (.nl rfl (.one rfl (.one rfl (.one rfl .nil)))) rfl hadd (.inl rfl) rfl) ?_
    refine P10 .none (S_move rfl rfl) ?_
    refine P10 .none (by first | exact S_extractG rfl rfl rfl | exact S_extractC rfl rfl rfl | exact S_extractA rfl rfl rfl) ?_
    refine P10 .none (by first | exact S_extractG rfl rfl rfl | exact S_extractC rfl rfl rfl | exact S_extractA rfl rfl rfl) ?_
    refine P10 .none (S_assign rfl rfl) ?_
    refine P10 .none (S_assign rfl rfl) ?_
    refine Pend ?_
    refine PW_seq ?_
    -- region 4
    refine PW_region ?_
    refine P10 .none (S_move rfl rfl) ?_
    refine P10 .none (S_assign rfl rfl) ?_
    refine P10 .none (S_assign rfl rfl) ?_
    refine Pend ?_
    refine PW_ret ⟨.inr rfl, ?_⟩
    exact ret_g (.cons (.tmp rfl) (.c (Ex.whole rfl rfl rfl)) (.cons (.tmp rfl) (.c (.g _)) .nil)) rfl trivial
/- impl.knotsOf: 34 -> [110, 4] -/
set_option maxRecDepth 100000 in
theorem ctr_i_knotsOf_no (p : Plan) (h : planSize p < 0) : Ctr P 80 [.g (.agg p.cells)] (.g (.tup [.sl [], .bool false])) := by
  have hps := ctr_i_PlanSize p
  refine ctr_of (fn := Go.Proofs.Try.f80) (by kernel_rfl) rfl rfl ?_
  rintro ⟨n, w0, F0, M, pin⟩ hn
  cases hn
  refine PW_seq ?_
  -- region 0
  refine PW_region ?_
  refine P22 .none (by first | exact S_boxA rfl rfl rfl rfl | exact S_boxL rfl rfl rfl rfl rfl | exact S_boxA rfl (Plan.cells_len _) (Plan.cells_one _) rfl) ?_
  refine P10 .none (S_assign rfl rfl) ?_
  refine P10 .none (S_assign rfl rfl) ?_
  refine Pend ?_
  refine PW_seq ?_
  refine PW_seq ?_
  -- region 1
  refine PW_region ?_
  refine P10 .none (by first | exact S_loadOW rfl rfl rfl rfl rfl | exact S_loadRW rfl rfl rfl | exact S_loadLA rfl rfl rfl (Nat.le_of_ble_eq_true rfl) rfl | exact S_loadOA rfl rfl rfl (Nat.le_of_ble_eq_true rfl) rfl | exact S_loadRA rfl (Nat.le_of_ble_eq_true rfl) rfl | exact S_loadRW rfl (Plan.cells_len _) rfl | exact S_loadOW rfl rfl rfl (Plan.cells_len _) rfl) ?_
  refine P00 .none (S_call (.one rfl .nil) rfl hps (.inl rfl) rfl) ?_
  refine P10 .none (S_lss rfl rfl rfl) ?_
  refine Pend ?_
  refine PW_cond rfl (fun h1 => ?_) (fun h1 => ?_)
  · -- t8
    refine PW_seq ?_
    -- region 2
    refine PW_region ?_
    refine P10 .none (S_assign rfl rfl) ?_
    refine P10 .none (S_assign rfl rfl) ?_
    refine Pend ?_
    refine PW_ret ⟨.inr rfl, ?_⟩
    exact ret_g (.cons (.tmp rfl) (.c .nil) (.cons (.tmp rfl) (.c (.g _)) .nil)) rfl trivial
  · -- not t8
    have := of_decide_eq_false h1; omega

/- impl.ValidSteps: 34, 26 -> [4] -/
set_option maxRecDepth 100000 in
theorem ctr_i_ValidSteps (t : T) (h : t.size ≤ 255) (steps : List Int) (hs : steps.length ≤ 100000000) : Ctr P 19 [.g (.agg t.plan.cells), .g (.sl (steps.map encI))] (.g (.bool (decide (steps.length = t.cuts.length) && begins t.cuts steps))) := by
  refine ctr_of (fn := Go.Proofs.Try.f19) (by kernel_rfl) rfl rfl ?_
  rintro ⟨n, w0, F0, M, pin⟩ hn
  cases hn
  refine PW_seq ?_
  -- region 0
  refine PW_region ?_
  refine P22 .none (by first | exact S_boxA rfl rfl rfl rfl | exact S_boxL rfl rfl rfl rfl rfl | exact S_boxA rfl (Plan.cells_len _) (Plan.cells_one _) rfl) ?_
  refine P10 .none (S_assign rfl rfl) ?_
  refine Pend ?_
  refine PW_seq ?_
  -- region 1
  refine PW_region ?_
  refine P10 .none (by first | exact S_loadOW rfl rfl rfl rfl rfl | exact S_loadRW rfl rfl rfl | exact S_loadLA rfl rfl rfl (Nat.le_of_ble_eq_true rfl) rfl | exact S_loadOA rfl rfl rfl (Nat.le_of_ble_eq_true rfl) rfl | exact S_loadRA rfl (Nat.le_of_ble_eq_true rfl) rfl | exact S_loadRW rfl (Plan.cells_len _) rfl | exact S_loadOW rfl rfl rfl (Plan.cells_len _) rfl) ?_
  refine P00 .none (S_call (.one rfl .nil) rfl (ctr_i_knotsOf t h) (.inl rfl) rfl) ?_
  refine P10 .none (S_move rfl rfl) ?_
  refine P10 .none (by first | exact S_extractG rfl rfl rfl | exact S_extractC rfl rfl rfl | exact S_extractA rfl rfl rfl) ?_
  refine P10 .none (by first | exact S_extractG rfl rfl rfl | exact S_extractC rfl rfl rfl | exact S_extractA rfl rfl rfl) ?_
  refine P10 .none (S_assign rfl rfl) ?_
  refine P10 .none (S_assign rfl rfl) ?_
  refine Pend ?_
  refine PW_seq ?_
  -- region 2
  refine PW_region ?_
  refine P10 .none (S_move rfl rfl) ?_
  refine P10 .none (S_move rfl rfl) ?_
  refine Psplit 13 rfl (fun h1 => ?_) (fun h1 => ?_)
  · -- t13 = true
    refine P10 (.yes rfl rfl h1) (S_move rfl rfl) ?_
    refine P10 (.yes rfl rfl h1) (by first | exact S_lenR rfl rfl | exact S_lenO rfl rfl | exact S_lenN rfl rfl | exact S_lenS rfl rfl) ?_
    refine P10 (.yes rfl rfl h1) (S_move rfl rfl) ?_
    refine P10 (.yes rfl rfl h1) (by first | exact S_lenR rfl rfl | exact S_lenO rfl rfl | exact S_lenN rfl rfl | exact S_lenS rfl rfl) ?_
    refine P10 (.yes rfl rfl h1) (S_eql rfl rfl rfl) ?_
    refine P10 .none (S_pickT rfl h1 rfl rfl) ?_
    refine P10 .none (S_move rfl rfl) ?_
    refine Psplit 20 rfl (fun h2 => ?_) (fun h2 => ?_)
    · -- t20 = true
      refine P10 (.yes rfl rfl h2) (S_move rfl rfl) ?_
      refine P10 (.yes rfl rfl h2) (S_move rfl rfl) ?_
      refine P00 (.yes rfl rfl h2) (S_call (.one rfl (.one rfl .nil)) rfl (ctr_i_beginsOrder t.cuts steps (T.cuts_ok h) hs) (.inl rfl) rfl) ?_
      refine P10 .none (S_pickT rfl h2 rfl rfl) ?_
      refine P10 .none (S_assign rfl rfl) ?_
      refine Pend ?_
      refine PW_ret ⟨.inr rfl, ?_⟩
      exact ret_g (.cons (.tmp rfl) (.c (.g _)) .nil) (by simp only [gres]; simp at h2; rw [decide_eq_true (by omega)]; rfl) trivial
    · -- t20 = false
      refine Pskip rfl rfl h2 rfl ?_
      refine Pskip rfl rfl h2 rfl ?_
      refine Pskip rfl rfl h2 rfl ?_
      refine P10 .none (S_pickF rfl h2 rfl rfl) ?_
      refine P10 .none (S_assign rfl rfl) ?_
      refine Pend ?_
      refine PW_ret ⟨.inr rfl, ?_⟩
      exact ret_g (.cons (.tmp rfl) (.c (.g _)) .nil) (by simp only [gres]; simp at h2; rw [decide_eq_false (by omega)]; rfl) trivial
  · -- t13 = false
    refine Pskip rfl rfl h1 rfl ?_
    refine Pskip rfl rfl h1 rfl ?_
    refine Pskip rfl rfl h1 rfl ?_
    refine Pskip rfl rfl h1 rfl ?_
    refine Pskip rfl rfl h1 rfl ?_
    refine P10 .none (S_pickF rfl h1 rfl rfl) ?_
    refine P10 .none (S_move rfl rfl) ?_
    refine Pskip rfl rfl rfl rfl ?_
    refine Pskip rfl rfl rfl rfl ?_
    refine Pskip rfl rfl rfl rfl ?_
    refine P10 .none (S_pickF rfl rfl rfl rfl) ?_
    refine P10 .none (S_assign rfl rfl) ?_
    refine Pend ?_
    refine PW_ret ⟨.inr rfl, ?_⟩
    cases h1
/- impl.tableFor: 34 -> [3] -/
set_option maxRecDepth 100000 in
theorem ctr_i_tableFor : ∀ (t : T), t.size ≤ 100000 → Ctr P 124 [.g (.agg t.plan.cells)] (.g (.int .i64 t.table)) := by
  intro t
  induction t using T.ind with
  | _ t ih =>
  intro hl
  have hcut := ctr_i_isCut t.plan
  rw [isCut_T] at hcut
  generalize ht : t.plan = pl at hcut
  obtain ⟨op, a, pane, turned, kids⟩ := pl
  refine ctr_of (fn := Go.Proofs.Try.f124) (by kernel_rfl) rfl rfl ?_
  rintro ⟨n, w0, F0, M, pin⟩ hn
  cases hn
  refine PW_seq ?_
  -- region 0
  refine PW_region ?_
  refine P22 .none (by first | exact S_boxA rfl rfl rfl rfl | exact S_boxL rfl rfl rfl rfl rfl | exact S_boxA rfl (Plan.cells_len _) (Plan.cells_one _) rfl) ?_
  refine P10 .none (S_assign rfl rfl) ?_
  refine Pend ?_
  refine PW_seq ?_
  refine PW_seq ?_
  -- region 1
  refine PW_region ?_
  refine P10 .none (by first | exact S_loadOW rfl rfl rfl rfl rfl | exact S_loadRW rfl rfl rfl | exact S_loadLA rfl rfl rfl (Nat.le_of_ble_eq_true rfl) rfl | exact S_loadOA rfl rfl rfl (Nat.le_of_ble_eq_true rfl) rfl | exact S_loadRA rfl (Nat.le_of_ble_eq_true rfl) rfl | exact S_loadRW rfl (Plan.cells_len _) rfl | exact S_loadOW rfl rfl rfl (Plan.cells_len _) rfl) ?_
  refine P00 .none (S_call (.one rfl .nil) rfl hcut (.inl rfl) rfl) ?_
  refine P10 .none (S_not rfl rfl) ?_
  refine Pend ?_
  refine PW_cond rfl (fun h1 => ?_) (fun h1 => ?_)
  · -- t7
    refine PW_seq ?_
    -- region 2
    refine PW_region ?_
    refine P10 .none (S_assign rfl rfl) ?_
    refine Pend ?_
    refine PW_ret ⟨.inr rfl, ?_⟩
    exact ret_g (.cons (.tmp rfl) (.c (.g _)) .nil) (by match t, h1 with
      | .waste, _ => rfl
      | .pane n tu, _ => rfl) trivial
  · -- not t7
    refine PW_skip ?_
    refine PW_seq ?_
    obtain ⟨d, a', p, q, rfl⟩ : ∃ d a' p q, t = .cut d a' p q := by
      match t, h1 with
      | .cut d a' p q, _ => exact ⟨d, a', p, q, rfl⟩
    obtain ⟨ihp, ihq⟩ := ih d a' p q rfl
    have hkids : kids = [p.plan, q.plan] := by simp [T.plan] at ht; simp [ht]
    subst hkids
    simp only [T.size] at hl
    have htp := p.table_le
    have htq := q.table_le
    --region 3
    refine PW_draw (by kernel_rfl) ?_
    refine P10 .none (by first | exact S_fieldO rfl rfl rfl | exact S_fieldR rfl rfl rfl) ?_
    refine P10 .none (by first | exact S_loadO1 rfl rfl rfl rfl rfl | exact S_loadR1 rfl rfl rfl | exact S_loadL1 rfl rfl rfl rfl rfl) ?_
    refine P10 .none (by first | exact S_indexR rfl rfl (k := 0) rfl rfl rfl rfl | exact S_indexO rfl rfl rfl rfl (k := 0) rfl rfl rfl | exact S_indexR rfl rfl (k := 0) rfl rfl (Plan.cells_len _) rfl) ?_
    refine P10 .none (by first | exact S_loadOW rfl rfl rfl rfl rfl | exact S_loadRW rfl rfl rfl | exact S_loadLA rfl rfl rfl (Nat.le_of_ble_eq_true rfl) rfl | exact S_loadOA rfl rfl rfl (Nat.le_of_ble_eq_true rfl) rfl | exact S_loadRA rfl (Nat.le_of_ble_eq_true rfl) rfl | exact S_loadRW rfl (Plan.cells_len _) rfl | exact S_loadOW rfl rfl rfl (Plan.cells_len _) rfl) ?_
    refine P00 .none (S_call (.one rfl .nil) rfl (ihp (by omega)) (.inl rfl) rfl) ?_
    refine P10 .none (by first | exact S_fieldO rfl rfl rfl | exact S_fieldR rfl rfl rfl) ?_
    refine P10 .none (by first | exact S_loadO1 rfl rfl rfl rfl rfl | exact S_loadR1 rfl rfl rfl | exact S_loadL1 rfl rfl rfl rfl rfl) ?_
    refine P10 .none (by first | exact S_indexR rfl rfl (k := 1) rfl rfl rfl rfl | exact S_indexO rfl rfl rfl rfl (k := 1) rfl rfl rfl | exact S_indexR rfl rfl (k := 1) rfl rfl (Plan.cells_len _) rfl) ?_
    refine P10 .none (by first | exact S_loadOW rfl rfl rfl rfl rfl | exact S_loadRW rfl rfl rfl | exact S_loadLA rfl rfl rfl (Nat.le_of_ble_eq_true rfl) rfl | exact S_loadOA rfl rfl rfl (Nat.le_of_ble_eq_true rfl) rfl | exact S_loadRA rfl (Nat.le_of_ble_eq_true rfl) rfl | exact S_loadRW rfl (Plan.cells_len _) rfl | exact S_loadOW rfl rfl rfl (Plan.cells_len _) rfl) ?_
    refine P00 .none (S_call (.one rfl .nil) rfl (ihq (by omega)) (.inl rfl) rfl) ?_
    refine P10 .none (S_assign rfl rfl) ?_
    refine P10 .none (S_assign rfl rfl) ?_
    refine Pend ⟨by kernel_rfl, ?_⟩
    refine PW_seq ?_
    refine PW_seq ?_
    -- region 4
    refine PW_region ?_
    refine P10 .none (S_move rfl rfl) ?_
    refine P10 .none (S_move rfl rfl) ?_
    refine P10 .none (S_eql rfl rfl rfl) ?_
    refine Pend ?_
    refine PW_cond rfl (fun h2 => ?_) (fun h2 => ?_)
    · -- t20
      refine PW_seq ?_
      -- region 5
      refine PW_region ?_
      refine P10 .none (S_move rfl rfl) ?_
      refine P10 .none (S_add rfl rfl rfl (And.intro (by omega) (by omega))) ?_
      refine P10 .none (S_assign rfl rfl) ?_
      refine Pend ?_
      refine PW_ret ⟨.inr rfl, ?_⟩
      exact ret_g (.cons (.tmp rfl) (.c (.g _)) .nil) (by simp only [gres, T.table]; rw [if_pos (of_decide_eq_true h2)]) trivial
    · -- not t20
      refine PW_skip ?_
      refine PW_seq ?_
      -- region 6
      refine PW_region ?_
      refine P10 .none (S_move rfl rfl) ?_
      refine P10 .none (S_move rfl rfl) ?_
      refine P10 .none (S_max2 rfl rfl rfl) ?_
      refine P10 .none (S_assign rfl rfl) ?_
      refine Pend ?_
      refine PW_ret ⟨.inr rfl, ?_⟩
      exact ret_g (.cons (.tmp rfl) (.c (.g _)) .nil) (by simp only [gres, T.table]; rw [if_neg (of_decide_eq_false h2)]) trivial
end Go.Proofs.Ytdmlfhmnlddooaa
/- Cuts in any order, plain law: what lies on the table after some cuts, and that it is the leaves in the end. -/
namespace Go.Proofs.Ytdmlfhmnlddooaa
open Go Go.Pu

def T.front : T → Box → Int → List Int → List Box
  | .cut d a p q, b, n, done => if done.contains n = true then p.front (splitB d a b).1 (n + 1) done ++ q.front (splitB d a b).2 (n + 1 + p.size) done else [b]
  | .waste, b, _, _ => [b]
  | .pane _ _, b, _, _ => [b]
def T.cl : T → Int → List Int → Prop
  | .cut _ _ p q, n, done => (n ∉ done → ∀ m, n < m → m < n + 1 + p.size + q.size → m ∉ done) ∧ p.cl (n + 1) done ∧ q.cl (n + 1 + p.size) done
  | .waste, _, _ => True
  | .pane _ _, _, _ => True

theorem T.front_irrel {m : Int} {done : List Int} : ∀ (t : T) (b : Box) (n : Int), (m < n ∨ n + t.size ≤ m) → t.front b n (done ++ [m]) = t.front b n done := by
  intro t
  induction t with
  | waste => intros; rfl
  | pane => intros; rfl
  | cut d a p q ihp ihq =>
    intro b n h
    simp only [T.size] at h
    have hp := p.size_pos
    have hq := q.size_pos
    simp only [T.front]
    rw [ihp _ _ (by omega), ihq _ _ (by omega)]
    have : (done ++ [m]).contains n = done.contains n := by
      rw [Bool.eq_iff_iff]; simp; omega
    rw [this]

theorem T.cl_irrel {m : Int} {done : List Int} : ∀ (t : T) (n : Int), (m < n ∨ n + t.size ≤ m) → t.cl n done → t.cl n (done ++ [m]) := by
  intro t
  induction t with
  | waste => intros; trivial
  | pane => intros; trivial
  | cut d a p q ihp ihq =>
    intro n h hc
    simp only [T.size] at h
    have hp := p.size_pos
    have hq := q.size_pos
    refine ⟨?_, ihp _ (by omega) hc.2.1, ihq _ (by omega) hc.2.2⟩
    intro h1 j hj1 hj2
    have := hc.1 (fun h => h1 (by simp [h])) j hj1 (by omega)
    simp only [List.mem_append, List.mem_singleton, not_or]
    exact ⟨this, by omega⟩

theorem T.cl_root {done : List Int} : ∀ (t : T) (n : Int) (m : Int), t.cl n done → (∃ d a p q, t = .cut d a p q) → m ∈ done → n ≤ m → m < n + t.size → n ∈ done := by
  rintro t n m hc ⟨d, a, p, q, rfl⟩ hm h1 h2
  simp only [T.size] at h2
  rcases Int.lt_or_eq_of_le h1 with h | h
  · apply Classical.byContradiction
    intro hn
    exact hc.1 hn m h (by omega) hm
  · rw [h]; exact hm

theorem T.knots_in (t : T) : ∀ (n ab : Int) (k : Int × Int), k ∈ t.knots n ab → n ≤ k.1 ∧ k.1 < n + t.size ∧ (k.1 = n → k.2 = ab) ∧ (k.1 ≠ n → n ≤ k.2 ∧ k.2 < n + t.size) := by
  induction t with
  | waste => intro n ab k h; cases h
  | pane => intro n ab k h; cases h
  | cut d a p q ihp ihq =>
    intro n ab k h
    have hp := p.size_pos
    have hq := q.size_pos
    simp only [T.knots, List.mem_cons, List.mem_append] at h
    simp only [T.size]
    rcases h with rfl | h | h
    · simp; omega
    · have := ihp _ _ _ h
      refine ⟨by omega, by omega, by omega, fun _ => ?_⟩
      by_cases h2 : k.1 = n + 1
      · have := this.2.2.1 h2; omega
      · have := this.2.2.2 h2; omega
    · have := ihq _ _ _ h
      refine ⟨by omega, by omega, by omega, fun _ => ?_⟩
      by_cases h2 : k.1 = n + 1 + p.size
      · have := this.2.2.1 h2; omega
      · have := this.2.2.2 h2; omega

/-- One more cut: the box of the cut goes, those of its kids come. -/
theorem T.front_step {k : Work} {m pa : Int} {done : List Int} (hm : m ∉ done) : ∀ (t : T) (b : Box) (n ab : Int), BoxOk b → t.fits k b = true → t.cl n done → (m, pa) ∈ t.knots n ab → (m ≠ n → pa ∈ done) →
    t.cl n (done ++ [m]) ∧ (m ≠ n → n ∈ done) ∧ ∃ d a p q b' l1 l2, n ≤ m ∧ (t.parts b)[(m - n).toNat]? = some (.cut d a p q, b') ∧ BoxOk b' ∧ (T.cut d a p q).fits k b' = true ∧ (T.cut d a p q).size ≤ t.size ∧ t.front b n done = l1 ++ b' :: l2 ∧ t.front b n (done ++ [m]) = l1 ++ (splitB d a b').1 :: (splitB d a b').2 :: l2 := by
  intro t
  induction t with
  | waste => intro b n ab _ _ _ h; cases h
  | pane => intro b n ab _ _ _ h; cases h
  | cut d a p q ihp ihq =>
    intro b n ab hb hf hc h hpa
    have hp := p.size_pos
    have hq := q.size_pos
    have hff := hf
    simp only [T.fits, Bool.and_eq_true, decide_eq_true_eq] at hf
    obtain ⟨⟨⟨f1, f2⟩, f3⟩, f4⟩ := hf
    obtain ⟨ok1, ok2⟩ := splitB_ok (d := d) hb f1 f2
    have hin := T.knots_in _ _ _ _ h
    simp only [T.size] at hin
    simp only [T.knots, List.mem_cons, List.mem_append] at h
    rcases h with h | h | h
    · cases h
      refine ⟨⟨fun h => absurd (by simp) h, T.cl_irrel _ _ (by omega) hc.2.1, T.cl_irrel _ _ (by omega) hc.2.2⟩, fun h => absurd rfl h, d, a, p, q, b, [], [], Int.le_refl _, by simp [T.parts], hb, hff, Nat.le_refl _, ?_, ?_⟩
      · simp [T.front, hm]
      · have root : ∀ (s : T) (b : Box) (j : Int), m < j → j < m + 1 + p.size + q.size → s.front b j done = [b] := by
          intro s b j h1 h2
          cases s with
          | waste => rfl
          | pane => rfl
          | cut d a p q => simp only [T.front]; rw [if_neg]; simpa using hc.1 hm j h1 h2
        simp only [T.front]
        rw [if_pos (by simp), T.front_irrel _ _ _ (by omega), T.front_irrel _ _ _ (by omega), root _ _ _ (by omega) (by omega), root _ _ _ (by omega) (by omega)]
        rfl
    · have hin' := T.knots_in _ _ _ _ h
      simp only at hin'
      have hmn : m ≠ n := by omega
      obtain ⟨i1, i2, d', a', p', q', b', l1, l2, i3, i4, i5, i6, i7, i8, i9⟩ := ihp _ _ _ ok1 f3 hc.2.1 h (fun _ => hpa hmn)
      have hn : n ∈ done := by
        apply Classical.byContradiction
        intro hn
        have := hpa hmn
        by_cases h1 : m = n + 1
        · rw [hin'.2.2.1 h1] at this; exact hn this
        · have h2 := i2 h1; exact hc.1 hn _ (by omega) (by omega) h2
      refine ⟨⟨fun h => absurd (by simp [hn]) h, i1, T.cl_irrel _ _ (by omega) hc.2.2⟩, fun _ => hn, d', a', p', q', b', l1, l2 ++ q.front (splitB d a b).2 (n + 1 + p.size) done, by omega, ?_, i5, i6, ?_, ?_, ?_⟩
      · rw [show (m - n).toNat = (m - (n + 1)).toNat + 1 by omega]
        simp only [T.parts, List.getElem?_cons_succ]
        rw [List.getElem?_append_left (by rw [T.parts_len]; omega)]
        exact i4
      · simp only [T.size] at i7 ⊢; omega
      · simp only [T.front]
        rw [if_pos (by simpa using hn), i8]; simp
      · simp only [T.front]
        rw [if_pos (by simp [hn]), i9, T.front_irrel q _ _ (by omega)]; simp
    · have hin' := T.knots_in _ _ _ _ h
      simp only at hin'
      have hmn : m ≠ n := by omega
      obtain ⟨i1, i2, d', a', p', q', b', l1, l2, i3, i4, i5, i6, i7, i8, i9⟩ := ihq _ _ _ ok2 f4 hc.2.2 h (fun _ => hpa hmn)
      have hn : n ∈ done := by
        apply Classical.byContradiction
        intro hn
        have := hpa hmn
        by_cases h1 : m = n + 1 + p.size
        · rw [hin'.2.2.1 h1] at this; exact hn this
        · have h2 := i2 h1; exact hc.1 hn _ (by omega) (by omega) h2
      refine ⟨⟨fun h => absurd (by simp [hn]) h, T.cl_irrel _ _ (by omega) hc.2.1, i1⟩, fun _ => hn, d', a', p', q', b', p.front (splitB d a b).1 (n + 1) done ++ l1, l2, by omega, ?_, i5, i6, ?_, ?_, ?_⟩
      · rw [show (m - n).toNat = (p.size + (m - (n + 1 + p.size)).toNat) + 1 by omega]
        simp only [T.parts, List.getElem?_cons_succ]
        rw [List.getElem?_append_right (by rw [T.parts_len]; omega), T.parts_len, Nat.add_sub_cancel_left]
        exact i4
      · simp only [T.size] at i7 ⊢; omega
      · simp only [T.front]
        rw [if_pos (by simpa using hn), i8]; simp
      · simp only [T.front]
        rw [if_pos (by simp [hn]), i9, T.front_irrel p _ _ (by omega)]; simp

def In (x b : Box) : Prop := 1 ≤ x.w ∧ 1 ≤ x.h ∧ b.x ≤ x.x ∧ x.x + x.w ≤ b.x + b.w ∧ b.y ≤ x.y ∧ x.y + x.h ≤ b.y + b.h
theorem splitB_in {d : Bool} {a : Int} {b : Box} (h1 : 1 ≤ a) (h2 : a < if d then b.w else b.h) (hw : 1 ≤ b.w) (hh : 1 ≤ b.h) :
    1 ≤ (splitB d a b).1.w ∧ 1 ≤ (splitB d a b).1.h ∧ 1 ≤ (splitB d a b).2.w ∧ 1 ≤ (splitB d a b).2.h ∧ (∀ x, In x (splitB d a b).1 → In x b) ∧ (∀ x, In x (splitB d a b).2 → In x b) ∧ (∀ x, In x (splitB d a b).1 → In x (splitB d a b).2 → False) := by
  cases d
  · simp only [splitB, Bool.false_eq_true, if_false] at h2 ⊢
    refine ⟨hw, by omega, hw, by omega, ?_, ?_, ?_⟩ <;> intro x <;> simp only [In] <;> omega
  · simp only [splitB, if_true] at h2 ⊢
    refine ⟨by omega, hh, by omega, hh, ?_, ?_, ?_⟩ <;> intro x <;> simp only [In] <;> omega
theorem T.front_in {k : Work} {done : List Int} : ∀ (t : T) (b : Box) (n : Int), t.fits k b = true → 1 ≤ b.w → 1 ≤ b.h → (∀ x ∈ t.front b n done, In x b) ∧ (t.front b n done).Nodup := by
  intro t
  have self : ∀ b : Box, 1 ≤ b.w → 1 ≤ b.h → (∀ x ∈ [b], In x b) ∧ [b].Nodup := by
    intro b h1 h2
    refine ⟨?_, by simp⟩
    intro x hx; rw [List.mem_singleton] at hx; subst hx
    simp only [In]; omega
  induction t with
  | waste => intro b n _ h1 h2; exact self b h1 h2
  | pane => intro b n _ h1 h2; exact self b h1 h2
  | cut d a p q ihp ihq =>
    intro b n hf hw hh
    simp only [T.fits, Bool.and_eq_true, decide_eq_true_eq] at hf
    obtain ⟨⟨⟨f1, f2⟩, f3⟩, f4⟩ := hf
    obtain ⟨s1, s2, s3, s4, s5, s6, s7⟩ := splitB_in (d := d) f1 f2 hw hh
    obtain ⟨a1, a2⟩ := ihp (splitB d a b).1 (n + 1) f3 s1 s2
    obtain ⟨b1, b2⟩ := ihq (splitB d a b).2 (n + 1 + p.size) f4 s3 s4
    simp only [T.front]
    split
    · refine ⟨?_, ?_⟩
      · intro x hx
        rcases List.mem_append.1 hx with hx | hx
        · exact s5 _ (a1 _ hx)
        · exact s6 _ (b1 _ hx)
      · rw [List.nodup_append]
        exact ⟨a2, b2, fun x hx y hy he => s7 x (a1 x hx) (he ▸ b1 y hy)⟩
    · exact self b hw hh

def stepB (ps : List (T × Box)) (tb : List Box) (n : Int) : List Box :=
  match ps[n.toNat]? with
  | some (.cut d a _ _, b) => tb.filter (fun y => !decide (y = b)) ++ [(splitB d a b).1, (splitB d a b).2]
  | _ => tb
def runT (k : Work) (t : T) (steps : List Int) : List Box := steps.foldl (stepB (t.parts (sheet k))) [sheet k]
theorem runT_next {k : Work} {t : T} {steps : List Int} {i : Nat} {n : Int} (h : steps[i]? = some n) : runT k t (steps.take (i + 1)) = stepB (t.parts (sheet k)) (runT k t (steps.take i)) n := by
  simp [runT, List.take_add_one, h]

theorem stepOk_some {ks : List (Int × Int)} {done : List Int} {n : Int} (h : stepOk ks done n = true) : ∃ pa, (n, pa) ∈ ks ∧ n ∉ done ∧ (pa < 0 ∨ pa ∈ done) := by
  unfold stepOk at h
  split at h
  · cases h
  · rename_i k hk
    have h1 := List.mem_of_find?_eq_some hk
    have h2 := List.find?_some hk
    simp only [decide_eq_true_eq] at h2
    obtain ⟨k1, k2⟩ := k
    simp only at h2; subst h2
    simp at h
    exact ⟨k2, h1, h.1, h.2⟩
theorem begins_at {ks : List (Int × Int)} {steps : List Int} (h : begins ks steps = true) {i : Nat} {n : Int} (hx : steps[i]? = some n) : stepOk ks (steps.take i) n = true := by
  unfold begins at h
  rw [range_all] at h
  have := h i (List.getElem?_eq_some_iff.1 hx).1
  rw [hx] at this
  exact this

theorem filter_one {b : Box} {l1 l2 : List Box} (h : (l1 ++ b :: l2).Nodup) : (l1 ++ b :: l2).filter (fun y => !decide (y = b)) = l1 ++ l2 := by
  have hn := List.nodup_append.1 h
  have h1 : ∀ x ∈ l1, x ≠ b := fun x hx => hn.2.2 x hx b (by simp)
  have h2 : ∀ x ∈ l2, x ≠ b := fun x hx he => (List.nodup_cons.1 hn.2.1).1 (he ▸ hx)
  rw [List.filter_append, List.filter_cons]
  simp only [decide_true, Bool.not_true, Bool.false_eq_true, if_false]
  rw [List.filter_eq_self.2 (fun x hx => by simpa using h1 x hx), List.filter_eq_self.2 (fun x hx => by simpa using h2 x hx)]

theorem sheet_pos {k : Work} (h : validWork k = true) : 1 ≤ (sheet k).w ∧ 1 ≤ (sheet k).h := by
  simp only [validWork, Bool.and_eq_true, decide_eq_true_eq] at h
  exact ⟨h.1.1.1.1.1, h.1.1.1.2⟩

theorem T.cl_nil (t : T) : ∀ n, t.cl n [] := by
  induction t with
  | waste => intro; trivial
  | pane => intro; trivial
  | cut d a p q ihp ihq => intro n; exact ⟨fun _ _ _ _ => by simp, ihp _, ihq _⟩
theorem T.front_nil (t : T) (b : Box) (n : Int) : t.front b n [] = [b] := by cases t <;> simp [T.front]

theorem run_inv {k : Work} {t : T} (hv : VP k t) {steps : List Int} (hb : begins t.cuts steps = true) : ∀ i, i ≤ steps.length → t.cl 0 (steps.take i) ∧ (runT k t (steps.take i)).Perm (t.front (sheet k) 0 (steps.take i)) := by
  intro i
  induction i with
  | zero => intro _; exact ⟨T.cl_nil _ _, by rw [List.take_zero, T.front_nil]; exact .refl _⟩
  | succ i ih =>
    intro hi
    obtain ⟨h1, h2⟩ := ih (by omega)
    obtain ⟨n, hn⟩ : ∃ n, steps[i]? = some n := ⟨steps[i], List.getElem?_eq_getElem (by omega)⟩
    obtain ⟨pa, hk, hnd, hpa⟩ := stepOk_some (begins_at hb hn)
    have hin := T.knots_in _ _ _ _ hk
    simp only at hin
    have hpa' : n ≠ 0 → pa ∈ steps.take i := by
      intro hne
      rcases hpa with h | h
      · have := hin.2.2.2 hne; omega
      · exact h
    obtain ⟨s1, s2, d, a, p, q, b', l1, l2, s3, s4, s5, s6, s7, s8, s9⟩ := T.front_step hnd t (sheet k) 0 (-1) (sheet_ok hv.1) hv.2.2 h1 hk hpa'
    have htk : steps.take (i + 1) = steps.take i ++ [n] := by rw [List.take_add_one, hn]; rfl
    refine ⟨by rw [htk]; exact s1, ?_⟩
    have hnod := (T.front_in (done := steps.take i) t (sheet k) 0 hv.2.2 (sheet_pos hv.1).1 (sheet_pos hv.1).2).2
    rw [runT_next hn, htk, s9]
    rw [s8] at h2 hnod
    rw [Int.sub_zero] at s4
    simp only [stepB, s4]
    have := h2.filter (fun y => !decide (y = b'))
    rw [filter_one hnod] at this
    refine (this.append_right _).trans ?_
    rw [List.append_assoc]
    refine List.Perm.append_left l1 ?_
    exact (List.perm_append_comm (l₁ := l2) (l₂ := [_, _]))

/-- What a step that may come finds: its part is a cut, whose box lies on the table, once. -/
theorem run_at {k : Work} {t : T} (hv : VP k t) {steps : List Int} (hb : begins t.cuts steps = true) {i : Nat} {n : Int} (hn : steps[i]? = some n) :
    ∃ d a p q b, 0 ≤ n ∧ (t.parts (sheet k))[n.toNat]? = some (.cut d a p q, b) ∧ BoxOk b ∧ (T.cut d a p q).fits k b = true ∧ (T.cut d a p q).size ≤ 255 ∧ b ∈ runT k t (steps.take i) ∧ (runT k t (steps.take i)).Nodup := by
  obtain ⟨h1, h2⟩ := run_inv hv hb i (Nat.le_of_lt (List.getElem?_eq_some_iff.1 hn).1)
  obtain ⟨pa, hk, hnd, hpa⟩ := stepOk_some (begins_at hb hn)
  have hin := T.knots_in _ _ _ _ hk
  simp only at hin
  have hpa' : n ≠ 0 → pa ∈ steps.take i := by
    intro hne
    rcases hpa with h | h
    · have := hin.2.2.2 hne; omega
    · exact h
  obtain ⟨s1, s2, d, a, p, q, b', l1, l2, s3, s4, s5, s6, s7, s8, s9⟩ := T.front_step hnd t (sheet k) 0 (-1) (sheet_ok hv.1) hv.2.2 h1 hk hpa'
  have hnod := (T.front_in (done := steps.take i) t (sheet k) 0 hv.2.2 (sheet_pos hv.1).1 (sheet_pos hv.1).2).2
  rw [Int.sub_zero] at s4
  exact ⟨d, a, p, q, b', s3, s4, s5, s6, Nat.le_trans s7 hv.2.1, h2.symm.subset (by rw [s8]; simp), h2.symm.nodup hnod⟩

/-! ### the end -/
def T.leaves : T → Box → List Box
  | .cut d a p q, b => p.leaves (splitB d a b).1 ++ q.leaves (splitB d a b).2
  | .waste, b => [b]
  | .pane _ _, b => [b]
theorem T.front_all {done : List Int} : ∀ (t : T) (b : Box) (n ab : Int), (∀ k ∈ t.knots n ab, k.1 ∈ done) → t.front b n done = t.leaves b := by
  intro t
  induction t with
  | waste => intros; rfl
  | pane => intros; rfl
  | cut d a p q ihp ihq =>
    intro b n ab h
    simp only [T.knots, List.mem_cons, List.mem_append] at h
    simp only [T.front, T.leaves]
    rw [if_pos (by simpa using h (n, ab) (.inl rfl)), ihp _ _ n (fun k hk => h k (.inr (.inl hk))), ihq _ _ n (fun k hk => h k (.inr (.inr hk)))]
theorem T.leaves_perm (t : T) : ∀ b, (t.leaves b).Perm (((t.parts b).filterMap fun x => match x.1 with | .pane _ _ => some x.2 | _ => none) ++ (t.parts b).filterMap fun x => match x.1 with | .waste => some x.2 | _ => none) := by
  induction t with
  | waste => intro b; exact .refl _
  | pane => intro b; exact .refl _
  | cut d a p q ihp ihq =>
    intro b
    simp only [T.leaves, T.parts, List.filterMap_cons, List.filterMap_append]
    refine ((ihp _).append (ihq _)).trans ?_
    simp only [List.append_assoc]
    refine List.Perm.append_left _ ?_
    simp only [← List.append_assoc]
    refine List.Perm.append_right _ ?_
    exact List.perm_append_comm

theorem begins_nodup {ks : List (Int × Int)} {steps : List Int} (h : begins ks steps = true) : steps.Nodup ∧ ∀ n ∈ steps, n ∈ ks.map (·.1) := by
  have key : ∀ i, i ≤ steps.length → (steps.take i).Nodup ∧ ∀ n ∈ steps.take i, n ∈ ks.map (·.1) := by
    intro i
    induction i with
    | zero => intro _; simp
    | succ i ih =>
      intro hi
      obtain ⟨h1, h2⟩ := ih (by omega)
      obtain ⟨n, hn⟩ : ∃ n, steps[i]? = some n := ⟨steps[i], List.getElem?_eq_getElem (by omega)⟩
      obtain ⟨pa, hk, hnd, _⟩ := stepOk_some (begins_at h hn)
      rw [List.take_add_one, hn]
      refine ⟨?_, ?_⟩
      · rw [List.nodup_append]
        refine ⟨h1, by simp, ?_⟩
        intro x hx y hy he
        simp at hy; subst hy; subst he; exact hnd hx
      · intro x hx
        rcases List.mem_append.1 hx with hx | hx
        · exact h2 x hx
        · simp at hx; subst hx; exact List.mem_map.2 ⟨_, hk, rfl⟩
  have := key steps.length (Nat.le_refl _)
  rwa [List.take_length] at this

theorem sub_all {l m : List Int} (hl : l.Nodup) (hs : ∀ x ∈ l, x ∈ m) : l.length ≤ m.length ∧ (l.length = m.length → ∀ x ∈ m, x ∈ l) := by
  induction l generalizing m with
  | nil => refine ⟨Nat.zero_le _, fun h => ?_⟩; cases m with | nil => simp | cons => simp at h
  | cons a l ih =>
    have ha := hs a (by simp)
    obtain ⟨h1, h2⟩ := List.nodup_cons.1 hl
    have := ih (m := m.erase a) h2 (fun x hx => (List.mem_erase_of_ne (fun e : x = a => h1 (e ▸ hx))).2 (hs x (by simp [hx])))
    rw [List.length_erase_of_mem ha] at this
    have hpos : 0 < m.length := List.length_pos_of_mem ha
    refine ⟨by simp; omega, fun he x hx => ?_⟩
    by_cases hxa : x = a
    · simp [hxa]
    · exact List.mem_cons_of_mem _ (this.2 (by simp at he; omega) x ((List.mem_erase_of_ne hxa).2 hx))

theorem T.cuts_count (t : T) : ∀ n ab, t.size = 2 * (t.knots n ab).length + 1 := by
  induction t with
  | waste => intros; rfl
  | pane => intros; rfl
  | cut d a p q ihp ihq =>
    intro n ab
    simp only [T.size, T.knots, List.length_cons, List.length_append]
    have := ihp (n + 1) n
    have := ihq (n + 1 + p.size) n
    omega

theorem run_end {k : Work} {t : T} (hv : VP k t) {steps : List Int} (hb : begins t.cuts steps = true) (hl : steps.length = t.cuts.length) : (runT k t steps).Perm (t.leaves (sheet k)) := by
  obtain ⟨_, h2⟩ := run_inv hv hb steps.length (Nat.le_refl _)
  rw [List.take_length] at h2
  obtain ⟨h3, h4⟩ := begins_nodup hb
  rw [T.front_all t (sheet k) 0 (-1)] at h2
  · exact h2
  · intro x hx
    exact (sub_all h3 h4).2 (by rw [List.length_map]; exact hl) _ (List.mem_map.2 ⟨x, hx, rfl⟩)

theorem sameBoxes_perm {a b : List Box} (h : a.Perm b) : sameBoxes a b = true := by
  simp only [sameBoxes, Bool.and_eq_true, List.all_eq_true, List.any_eq_true, decide_eq_true_eq]
  exact ⟨fun x hx => ⟨x, h.subset hx, rfl⟩, h.length_eq⟩
theorem leaves_places (t : T) (b : Box) : (t.leaves b).Perm ((((t.parts b).filterMap placeOf).map (·.box)) ++ (t.parts b).filterMap wasteOf) := by
  have := t.leaves_perm b
  have e1 : ((t.parts b).filterMap placeOf).map (·.box) = (t.parts b).filterMap fun x => match x.1 with | .pane _ _ => some x.2 | _ => none := by
    rw [List.map_filterMap]
    congr
    funext x
    obtain ⟨s, y⟩ := x
    cases s <;> rfl
  have e2 : (t.parts b).filterMap wasteOf = (t.parts b).filterMap fun x => match x.1 with | .waste => some x.2 | _ => none := by
    congr
  rw [e1, e2]; exact this

/-! ### the best order is an order -/
theorem stepOk_of {ks : List (Int × Int)} {done : List Int} {n pa : Int} (hu : (ks.map (·.1)).Nodup) (h : (n, pa) ∈ ks) (hn : n ∉ done) (hp : pa < 0 ∨ pa ∈ done) : stepOk ks done n = true := by
  unfold stepOk
  have : ks.find? (fun k => decide (k.1 = n)) = some (n, pa) := by
    induction ks with
    | nil => cases h
    | cons k ks ih =>
      rw [List.map_cons, List.nodup_cons] at hu
      rw [List.find?_cons]
      rcases List.mem_cons.1 h with h | h
      · subst h; simp
      · have : k.1 ≠ n := fun e => hu.1 (e ▸ List.mem_map.2 ⟨_, h, rfl⟩)
        simp only [this, decide_false]
        exact ih hu.2 h
  rw [this]
  simp [hn, hp]
theorem T.knots_nodup (t : T) : ∀ n ab, ((t.knots n ab).map (·.1)).Nodup := by
  induction t with
  | waste => intros; exact List.nodup_nil
  | pane => intros; exact List.nodup_nil
  | cut d a p q ihp ihq =>
    intro n ab
    have hp := p.size_pos
    simp only [T.knots, List.map_cons, List.map_append, List.nodup_cons, List.mem_append, List.nodup_append]
    refine ⟨?_, ihp _ _, ihq _ _, ?_⟩
    · rintro (h | h) <;> obtain ⟨k, hk, he⟩ := List.mem_map.1 h <;> have := T.knots_in _ _ _ _ hk <;> omega
    · intro x hx y hy he
      obtain ⟨k, hk, rfl⟩ := List.mem_map.1 hx
      obtain ⟨j, hj, rfl⟩ := List.mem_map.1 hy
      have := T.knots_in _ _ _ _ hk
      have := T.knots_in _ _ _ _ hj
      omega
/-- Each step of l may come when those of pre have. -/
def Good (ks : List (Int × Int)) (pre l : List Int) : Prop := ∀ l1 m l2, l = l1 ++ m :: l2 → ∃ pa, (m, pa) ∈ ks ∧ m ∉ pre ++ l1 ∧ (pa < 0 ∨ pa ∈ pre ++ l1)
theorem Good.app {ks : List (Int × Int)} {pre l m : List Int} (h1 : Good ks pre l) (h2 : Good ks (pre ++ l) m) : Good ks pre (l ++ m) := by
  intro l1 x l2 he
  rcases List.append_eq_append_iff.1 he with ⟨w, h3, h4⟩ | ⟨w, h3, h4⟩
  · subst h3
    obtain ⟨pa, a1, a2, a3⟩ := h2 w x l2 h4
    refine ⟨pa, a1, ?_, ?_⟩
    · rw [← List.append_assoc]; exact a2
    · rw [← List.append_assoc]; exact a3
  · cases w with
    | nil =>
      simp at h3 h4
      subst h3
      obtain ⟨pa, a1, a2, a3⟩ := h2 [] x l2 (by simpa using h4.symm)
      exact ⟨pa, a1, by simpa using a2, by simpa using a3⟩
    | cons c w =>
      simp at h4
      obtain ⟨rfl, rfl⟩ := h4
      exact h1 l1 x w h3
theorem T.best_in (t : T) : ∀ n ab, ∀ m, m ∈ t.best n ↔ m ∈ (t.knots n ab).map (·.1) := by
  induction t with
  | waste => intro n ab m; simp [T.best, T.knots]
  | pane => intro n ab m; simp [T.best, T.knots]
  | cut d a p q ihp ihq =>
    intro n ab m
    simp only [T.best, T.knots, List.map_cons, List.map_append, List.mem_cons, List.mem_append]
    split <;> simp only [List.mem_append, ihp (n + 1) n m, ihq (n + 1 + p.size) n m]
    rw [Or.comm (a := m ∈ _)]
theorem T.best_good {ks : List (Int × Int)} : ∀ (t : T) (n ab : Int) (pre : List Int), (∀ k ∈ t.knots n ab, k ∈ ks) → (∀ m ∈ pre, m < n ∨ n + t.size ≤ m) → (ab < 0 ∨ ab ∈ pre) → Good ks pre (t.best n) := by
  intro t
  induction t with
  | waste => intro n ab pre _ _ _ l1 m l2 h; simp [T.best] at h
  | pane => intro n ab pre _ _ _ l1 m l2 h; simp [T.best] at h
  | cut d a p q ihp ihq =>
    intro n ab pre hk hpre hab
    have hp := p.size_pos
    have hq := q.size_pos
    simp only [T.size] at hpre
    simp only [T.knots, List.mem_cons, List.mem_append] at hk
    have hbp : ∀ m ∈ p.best (n + 1), n + 1 ≤ m ∧ m < n + 1 + p.size := by
      intro m hm
      obtain ⟨k, hk, rfl⟩ := List.mem_map.1 ((T.best_in p (n + 1) n m).1 hm)
      have := T.knots_in _ _ _ _ hk; omega
    have hbq : ∀ m ∈ q.best (n + 1 + p.size), n + 1 + p.size ≤ m ∧ m < n + 1 + p.size + q.size := by
      intro m hm
      obtain ⟨k, hk, rfl⟩ := List.mem_map.1 ((T.best_in q (n + 1 + p.size) n m).1 hm)
      have := T.knots_in _ _ _ _ hk; omega
    simp only [T.best]
    rw [← List.singleton_append]
    refine Good.app ?_ ?_
    · intro l1 m l2 he
      cases l1 with
      | nil =>
        simp at he
        obtain ⟨rfl, _⟩ := he
        refine ⟨ab, hk _ (.inl rfl), ?_, by simpa using hab⟩
        simp only [List.append_nil]
        intro hc
        have := hpre _ hc; omega
      | cons c l1 => simp at he
    · split
      · refine Good.app (ihq _ n _ (fun k h => hk k (.inr (.inr h))) ?_ (.inr (by simp))) (ihp _ n _ (fun k h => hk k (.inr (.inl h))) ?_ (.inr (by simp)))
        · intro m hm
          rcases List.mem_append.1 hm with h | h
          · have := hpre _ h; omega
          · simp at h; omega
        · intro m hm
          rcases List.mem_append.1 hm with h | h
          · rcases List.mem_append.1 h with h | h
            · have := hpre _ h; omega
            · simp at h; omega
          · have := hbq _ h; omega
      · refine Good.app (ihp _ n _ (fun k h => hk k (.inr (.inl h))) ?_ (.inr (by simp))) (ihq _ n _ (fun k h => hk k (.inr (.inr h))) ?_ (.inr (by simp)))
        · intro m hm
          rcases List.mem_append.1 hm with h | h
          · have := hpre _ h; omega
          · simp at h; omega
        · intro m hm
          rcases List.mem_append.1 hm with h | h
          · rcases List.mem_append.1 h with h | h
            · have := hpre _ h; omega
            · simp at h; omega
          · have := hbp _ h; omega
theorem best_begins (t : T) : begins t.cuts (t.best 0) = true := by
  refine begins_yes ?_
  intro j n hj
  have hg := T.best_good (ks := t.cuts) t 0 (-1) [] (fun _ h => h) (by simp) (.inl (by omega))
  obtain ⟨hlt, hx⟩ := List.getElem?_eq_some_iff.1 hj
  obtain ⟨pa, a1, a2, a3⟩ := hg ((t.best 0).take j) n ((t.best 0).drop (j + 1)) (by rw [← hx]; simp)
  simp only [List.nil_append] at a2 a3
  exact stepOk_of (T.knots_nodup t 0 (-1)) a1 a2 a3
theorem T.best_length (t : T) : ∀ n ab, (t.best n).length = (t.knots n ab).length := by
  induction t with
  | waste => intros; rfl
  | pane => intros; rfl
  | cut d a p q ihp ihq =>
    intro n ab
    simp only [T.best, T.knots, List.length_cons, List.length_append]
    split <;> simp only [List.length_append] <;> have := ihp (n + 1) n <;> have := ihq (n + 1 + p.size) n <;> omega
end Go.Proofs.Ytdmlfhmnlddooaa
namespace Go.Proofs.Ytdmlfhmnlddooaa
open Go Go.Pu

theorem T.best_len (t : T) : ∀ n, (t.best n).length ≤ t.size := by
  induction t with
  | waste => intro n; simp [T.best, T.size]
  | pane => intro n; simp [T.best, T.size]
  | cut d a p q ihp ihq => intro n; have := ihp (n + 1); have := ihq (n + 1 + p.size); simp only [T.best, T.size]; split <;> simp <;> omega

/- impl.addBest: 26, 34, 3 -> [26] -/
set_option maxRecDepth 100000 in
theorem ctr_i_addBest : ∀ (t : T) (n : Int) (es : List (List GV)), t.size ≤ 255 → es.length + t.size ≤ 100000 → 0 ≤ n ∧ n + t.size ≤ 100000 → Ctr P 92 [.mv 3 0 es, .g (.agg t.plan.cells), .g (.int .i64 n)] (.own 3 0 (es ++ (t.best n).map encI)) := by
  intro t
  induction t using T.ind with
  | _ t ih =>
  intro n es h255 hl hn
  have hcut := ctr_i_isCut t.plan
  rw [isCut_T] at hcut
  generalize ht : t.plan = pl at hcut
  obtain ⟨op, a, pane, turned, kids⟩ := pl
  refine ctr_of (fn := Go.Proofs.Try.f92) (by kernel_rfl) rfl rfl ?_
  rintro ⟨n, w0, F0, M, pin⟩ hn
  cases hn
  refine PW_seq ?_
  -- region 0
  refine PW_region ?_
  refine P22 .none (by first | exact S_boxA rfl rfl rfl rfl | exact S_boxL rfl rfl rfl rfl rfl | exact S_boxA rfl (Plan.cells_len _) (Plan.cells_one _) rfl) ?_
  refine P10 .none (S_assign rfl rfl) ?_
  refine Pend ?_
  refine PW_seq ?_
  refine PW_seq ?_
  -- region 1
  refine PW_region ?_
  refine P10 .none (by first | exact S_loadOW rfl rfl rfl rfl rfl | exact S_loadRW rfl rfl rfl | exact S_loadLA rfl rfl rfl (Nat.le_of_ble_eq_true rfl) rfl | exact S_loadOA rfl rfl rfl (Nat.le_of_ble_eq_true rfl) rfl | exact S_loadRA rfl (Nat.le_of_ble_eq_true rfl) rfl | exact S_loadRW rfl (Plan.cells_len _) rfl | exact S_loadOW rfl rfl rfl (Plan.cells_len _) rfl) ?_
  refine P00 .none (S_call (.one rfl .nil) rfl hcut (.inl rfl) rfl) ?_
  refine P10 .none (S_not rfl rfl) ?_
  refine Pend ?_
  refine PW_cond rfl (fun h1 => ?_) (fun h1 => ?_)
  · -- t13
    refine PW_seq ?_
    -- region 2
    refine PW_region ?_
    refine P10 .none (S_move rfl rfl) ?_
    refine P10 .none (S_assign rfl rfl) ?_
    refine Pend ?_
    refine PW_ret ⟨.inr rfl, ?_⟩
    refine RetOk.own_eq (ret_o rfl rfl rfl rfl rfl trivial) ?_
    match t, h1 with
    | .waste, _ => simp [T.best]
    | .pane n tu, _ => simp [T.best]
  · -- not t13
    refine PW_skip ?_
    refine PW_seq ?_
    obtain ⟨d, a', p, q, rfl⟩ : ∃ d a' p q, t = .cut d a' p q := by
      match t, h1 with
      | .cut d a' p q, _ => exact ⟨d, a', p, q, rfl⟩
    obtain ⟨ihp, ihq⟩ := ih d a' p q rfl
    have hkids : kids = [p.plan, q.plan] := by simp [T.plan] at ht; simp [ht]
    subst hkids
    simp only [T.size] at hl hn h255
    have hbp := p.best_len (n + 1)
    have hbq := q.best_len (n + 1 + p.size)
    have hps := ctr_i_PlanSize p.plan
    rw [planSize_T (by omega)] at hps
    --region 3
    refine PW_region ?_
    refine P10 .none (S_move rfl rfl) ?_
    refine P10 .none (S_move rfl rfl) ?_
    refine P22 .none (S_lit (.one rfl rfl rfl (.nil _)) rfl rfl rfl) ?_
    refine P22 .none (S_appW rfl rfl rfl rfl (.ownW rfl rfl rfl) (fun l hl => by simp only [List.mem_singleton] at hl; subst hl; rfl) rfl (by omega) (by simp; omega) rfl) ?_
    refine P10 .none (S_assign rfl rfl) ?_
    refine Pend ?_
    refine PW_seq ?_
    -- region 4
    refine PW_draw (by kernel_rfl) ?_
    refine P10 .none (by first | exact S_fieldO rfl rfl rfl | exact S_fieldR rfl rfl rfl) ?_
    refine P10 .none (by first | exact S_loadO1 rfl rfl rfl rfl rfl | exact S_loadR1 rfl rfl rfl | exact S_loadL1 rfl rfl rfl rfl rfl) ?_
    refine P10 .none (by first | exact S_indexR rfl rfl (k := 0) rfl rfl rfl rfl | exact S_indexO rfl rfl rfl rfl (k := 0) rfl rfl rfl | exact S_indexR rfl rfl (k := 0) rfl rfl (Plan.cells_len _) rfl) ?_
    refine P10 .none (by first | exact S_loadOW rfl rfl rfl rfl rfl | exact S_loadRW rfl rfl rfl | exact S_loadLA rfl rfl rfl (Nat.le_of_ble_eq_true rfl) rfl | exact S_loadOA rfl rfl rfl (Nat.le_of_ble_eq_true rfl) rfl | exact S_loadRA rfl (Nat.le_of_ble_eq_true rfl) rfl | exact S_loadRW rfl (Plan.cells_len _) rfl | exact S_loadOW rfl rfl rfl (Plan.cells_len _) rfl) ?_
    refine P10 .none (by first | exact S_fieldO rfl rfl rfl | exact S_fieldR rfl rfl rfl) ?_
    refine P10 .none (by first | exact S_loadO1 rfl rfl rfl rfl rfl | exact S_loadR1 rfl rfl rfl | exact S_loadL1 rfl rfl rfl rfl rfl) ?_
    refine P10 .none (by first | exact S_indexR rfl rfl (k := 1) rfl rfl rfl rfl | exact S_indexO rfl rfl rfl rfl (k := 1) rfl rfl rfl | exact S_indexR rfl rfl (k := 1) rfl rfl (Plan.cells_len _) rfl) ?_
    refine P10 .none (by first | exact S_loadOW rfl rfl rfl rfl rfl | exact S_loadRW rfl rfl rfl | exact S_loadLA rfl rfl rfl (Nat.le_of_ble_eq_true rfl) rfl | exact S_loadOA rfl rfl rfl (Nat.le_of_ble_eq_true rfl) rfl | exact S_loadRA rfl (Nat.le_of_ble_eq_true rfl) rfl | exact S_loadRW rfl (Plan.cells_len _) rfl | exact S_loadOW rfl rfl rfl (Plan.cells_len _) rfl) ?_
    refine P22 .none (S_alloc rfl) ?_
    refine P22 .none (S_alloc rfl) ?_
    refine P01 .none (by first | exact S_storeW rfl rfl rfl rfl rfl rfl | exact S_storeWe rfl rfl rfl HK rfl rfl rfl | exact S_storeP rfl rfl rfl rfl rfl (Nat.le_of_ble_eq_true rfl) | exact S_storeLW rfl rfl rfl rfl rfl rfl rfl | exact S_storeW rfl rfl rfl (Plan.cells_one _) (Plan.cells_len _) rfl) ?_
    refine P01 .none (by first | exact S_storeW rfl rfl rfl rfl rfl rfl | exact S_storeWe rfl rfl rfl HK rfl rfl rfl | exact S_storeP rfl rfl rfl rfl rfl (Nat.le_of_ble_eq_true rfl) | exact S_storeLW rfl rfl rfl rfl rfl rfl rfl | exact S_storeW rfl rfl rfl (Plan.cells_one _) (Plan.cells_len _) rfl) ?_
    refine Pend ⟨by kernel_rfl, ?_⟩
    refine PW_seq ?_
    -- region 5
    refine PW_region ?_
    refine P10 .none (S_move rfl rfl) ?_
    refine P10 .none (S_add rfl rfl rfl (And.intro (by omega) (by omega))) ?_
    refine P10 .none (S_assign rfl rfl) ?_
    refine Pend ?_
    refine PW_seq ?_
    -- region 6
    refine PW_region ?_
    refine P10 .none (S_move rfl rfl) ?_
    refine P10 .none (by first | exact S_loadOW rfl rfl rfl rfl rfl | exact S_loadRW rfl rfl rfl | exact S_loadLA rfl rfl rfl (Nat.le_of_ble_eq_true rfl) rfl | exact S_loadOA rfl rfl rfl (Nat.le_of_ble_eq_true rfl) rfl | exact S_loadRA rfl (Nat.le_of_ble_eq_true rfl) rfl | exact S_loadRW rfl (Plan.cells_len _) rfl | exact S_loadOW rfl rfl rfl (Plan.cells_len _) rfl) ?_
    refine P00 .none (S_call (.one rfl .nil) rfl hps (.inl rfl) rfl) ?_
    refine P10 .none (S_add rfl rfl rfl (And.intro (by omega) (by omega))) ?_
    refine P10 .none (S_assign rfl rfl) ?_
    refine Pend ?_
    refine PW_seq ?_
    refine PW_seq ?_
    -- region 7
    refine PW_draw (by kernel_rfl) ?_
    refine P10 .none (by first | exact S_loadOW rfl rfl rfl rfl rfl | exact S_loadRW rfl rfl rfl | exact S_loadLA rfl rfl rfl (Nat.le_of_ble_eq_true rfl) rfl | exact S_loadOA rfl rfl rfl (Nat.le_of_ble_eq_true rfl) rfl | exact S_loadRA rfl (Nat.le_of_ble_eq_true rfl) rfl | exact S_loadRW rfl (Plan.cells_len _) rfl | exact S_loadOW rfl rfl rfl (Plan.cells_len _) rfl) ?_
    refine P00 .none (S_call (.one rfl .nil) rfl (ctr_i_tableFor q (by omega)) (.inl rfl) rfl) ?_
    refine P10 .none (by first | exact S_loadOW rfl rfl rfl rfl rfl | exact S_loadRW rfl rfl rfl | exact S_loadLA rfl rfl rfl (Nat.le_of_ble_eq_true rfl) rfl | exact S_loadOA rfl rfl rfl (Nat.le_of_ble_eq_true rfl) rfl | exact S_loadRA rfl (Nat.le_of_ble_eq_true rfl) rfl | exact S_loadRW rfl (Plan.cells_len _) rfl | exact S_loadOW rfl rfl rfl (Plan.cells_len _) rfl) ?_
    refine P00 .none (S_call (.one rfl .nil) rfl (ctr_i_tableFor p (by omega)) (.inl rfl) rfl) ?_
    refine P10 .none (S_lss rfl rfl rfl) ?_
    refine Pend ⟨by kernel_rfl, ?_⟩
    refine PW_cond rfl (fun h2 => ?_) (fun h2 => ?_)
    · -- t37
      refine PW_seq ?_
      -- region 8
      refine PW_region ?_
      refine P10 .none (S_move rfl rfl) ?_
      refine P10 .none (by first | exact S_loadOW rfl rfl rfl rfl rfl | exact S_loadRW rfl rfl rfl | exact S_loadLA rfl rfl rfl (Nat.le_of_ble_eq_true rfl) rfl | exact S_loadOA rfl rfl rfl (Nat.le_of_ble_eq_true rfl) rfl | exact S_loadRA rfl (Nat.le_of_ble_eq_true rfl) rfl | exact S_loadRW rfl (Plan.cells_len _) rfl | exact S_loadOW rfl rfl rfl (Plan.cells_len _) rfl) ?_
      refine P10 .none (S_move rfl rfl) ?_
      refine P00 .none (S_call (.mv rfl rfl (by simp) rfl (.one rfl (.one rfl .nil))) rfl (ihq (n + 1 + p.size) _ (by omega) (by simp; omega) (by omega)) (.inl rfl) rfl) ?_
      refine P10 .none (S_assign rfl rfl) ?_
      refine Pend ?_
      refine PW_seq ?_
      -- region 9
      refine PW_region ?_
      refine P10 .none (S_move rfl rfl) ?_
      refine P10 .none (by first | exact S_loadOW rfl rfl rfl rfl rfl | exact S_loadRW rfl rfl rfl | exact S_loadLA rfl rfl rfl (Nat.le_of_ble_eq_true rfl) rfl | exact S_loadOA rfl rfl rfl (Nat.le_of_ble_eq_true rfl) rfl | exact S_loadRA rfl (Nat.le_of_ble_eq_true rfl) rfl | exact S_loadRW rfl (Plan.cells_len _) rfl | exact S_loadOW rfl rfl rfl (Plan.cells_len _) rfl) ?_
      refine P10 .none (S_move rfl rfl) ?_
      refine P00 .none (S_call (.mv rfl rfl rfl rfl (.one rfl (.one rfl .nil))) rfl (ihp (n + 1) _ (by omega) (by simp; omega) (by omega)) (.inl rfl) rfl) ?_
      refine P10 .none (S_assign rfl rfl) ?_
      refine Pend ?_
      refine PW_ret ⟨.inr rfl, ?_⟩
      refine RetOk.own_eq (ret_o rfl rfl rfl rfl rfl trivial) ?_
      simp only [T.best]; rw [if_pos (of_decide_eq_true h2)]; simp [encI]
    · -- not t37
      refine PW_skip ?_
      refine PW_seq ?_
      -- region 10
      refine PW_region ?_
      refine P10 .none (S_move rfl rfl) ?_
      refine P10 .none (by first | exact S_loadOW rfl rfl rfl rfl rfl | exact S_loadRW rfl rfl rfl | exact S_loadLA rfl rfl rfl (Nat.le_of_ble_eq_true rfl) rfl | exact S_loadOA rfl rfl rfl (Nat.le_of_ble_eq_true rfl) rfl | exact S_loadRA rfl (Nat.le_of_ble_eq_true rfl) rfl | exact S_loadRW rfl (Plan.cells_len _) rfl | exact S_loadOW rfl rfl rfl (Plan.cells_len _) rfl) ?_
      refine P10 .none (S_move rfl rfl) ?_
      refine P00 .none (S_call (.mv rfl rfl (by simp) rfl (.one rfl (.one rfl .nil))) rfl (ihp (n + 1) _ (by omega) (by simp; omega) (by omega)) (.inl rfl) rfl) ?_
      refine P10 .none (S_assign rfl rfl) ?_
      refine Pend ?_
      refine PW_seq ?_
      -- region 11
      refine PW_region ?_
      refine P10 .none (S_move rfl rfl) ?_
      refine P10 .none (by first | exact S_loadOW rfl rfl rfl rfl rfl | exact S_loadRW rfl rfl rfl | exact S_loadLA rfl rfl rfl (Nat.le_of_ble_eq_true rfl) rfl | exact S_loadOA rfl rfl rfl (Nat.le_of_ble_eq_true rfl) rfl | exact S_loadRA rfl (Nat.le_of_ble_eq_true rfl) rfl | exact S_loadRW rfl (Plan.cells_len _) rfl | exact S_loadOW rfl rfl rfl (Plan.cells_len _) rfl) ?_
      refine P10 .none (S_move rfl rfl) ?_
      refine P00 .none (S_call (.mv rfl rfl rfl rfl (.one rfl (.one rfl .nil))) rfl (ihq (n + 1 + p.size) _ (by omega) (by simp; omega) (by omega)) (.inl rfl) rfl) ?_
      refine P10 .none (S_assign rfl rfl) ?_
      refine Pend ?_
      refine PW_ret ⟨.inr rfl, ?_⟩
      refine RetOk.own_eq (ret_o rfl rfl rfl rfl rfl trivial) ?_
      simp only [T.best]; rw [if_neg (of_decide_eq_false h2)]; simp [encI]
/- impl.BestSteps: 34 -> [26] -/
set_option maxRecDepth 100000 in
theorem ctr_i_BestSteps (t : T) (h : t.size ≤ 255) : Ctr P 24 [.g (.agg t.plan.cells)] (.g (.sl ((t.best 0).map encI))) := by
  have hadd := ctr_i_addBest t 0 [] h (by simp; omega) (by omega)
  rw [List.nil_append] at hadd
  have hps := ctr_i_PlanSize t.plan
  rw [planSize_T h] at hps
  refine ctr_of (fn := Go.Proofs.Try.f24) (by kernel_rfl) rfl rfl ?_
  rintro ⟨n, w0, F0, M, pin⟩ hn
  cases hn
  refine PW_seq ?_
  -- region 0
  refine PW_region ?_
  refine P22 .none (by first | exact S_boxA rfl rfl rfl rfl | exact S_boxL rfl rfl rfl rfl rfl | exact S_boxA rfl (Plan.cells_len _) (Plan.cells_one _) rfl) ?_
  refine P10 .none (S_assign rfl rfl) ?_
  refine Pend ?_
  refine PW_seq ?_
  refine PW_seq ?_
  -- region 1
  refine PW_region ?_
  refine P10 .none (by first | exact S_loadOW rfl rfl rfl rfl rfl | exact S_loadRW rfl rfl rfl | exact S_loadLA rfl rfl rfl (Nat.le_of_ble_eq_true rfl) rfl | exact S_loadOA rfl rfl rfl (Nat.le_of_ble_eq_true rfl) rfl | exact S_loadRA rfl (Nat.le_of_ble_eq_true rfl) rfl | exact S_loadRW rfl (Plan.cells_len _) rfl | exact S_loadOW rfl rfl rfl (Plan.cells_len _) rfl) ?_
  refine P00 .none (S_call (.one rfl .nil) rfl hps (.inl rfl) rfl) ?_
  refine P10 .none (S_lss rfl rfl rfl) ?_
  refine Pend ?_
  refine PW_cond rfl (fun h1 => ?_) (fun h1 => ?_)
  · -- t5
    refine PW_seq ?_
    -- region 2
    refine PW_region ?_
    refine P10 .none (S_assign rfl rfl) ?_
    refine Pend ?_
    refine PW_ret ⟨.inr rfl, ?_⟩
    have := of_decide_eq_true h1; omega
  · -- not t5
    refine PW_skip ?_
    refine PW_seq ?_
    -- region 3
    refine PW_region ?_
    refine P10 .none (by first | exact S_loadOW rfl rfl rfl rfl rfl | exact S_loadRW rfl rfl rfl | exact S_loadLA rfl rfl rfl (Nat.le_of_ble_eq_true rfl) rfl | exact S_loadOA rfl rfl rfl (Nat.le_of_ble_eq_true rfl) rfl | exact S_loadRA rfl (Nat.le_of_ble_eq_true rfl) rfl | exact S_loadRW rfl (Plan.cells_len _) rfl | exact S_loadOW rfl rfl rfl (Plan.cells_len _) rfl) ?_
    refine P00 .none (S_call (.nl rfl (.one rfl (.one rfl .nil))) rfl hadd (.inl rfl) rfl) ?_
    refine P10 .none (S_assign rfl rfl) ?_
    refine Pend ?_
    refine PW_ret ⟨.inr rfl, ?_⟩
    exact ret_g (.cons (.tmp rfl) (.c (Ex.whole rfl rfl rfl)) .nil) rfl trivial
end Go.Proofs.Ytdmlfhmnlddooaa
namespace Go.Proofs.Ytdmlfhmnlddooaa
open Go Go.Pu

theorem planSize_cases (p : Plan) : (∃ t : T, p = t.plan ∧ t.size ≤ 255 ∧ planSize p = t.size) ∨ planSize p = -1 := by
  by_cases h : 0 ≤ planSize p
  · obtain ⟨t, e, h⟩ := formed_iff.1 h
    exact .inl ⟨t, e, h, by rw [e, planSize_T h]⟩
  · have := planSize_le p; exact .inr (by omega)
def goodShape (op a pane : Int) (turned : Bool) (kids : List Plan) : Prop :=
  (kids = [] ∧ a = 0 ∧ (op = 1 ∨ (op = 0 ∧ pane = 0 ∧ turned = false))) ∨ (kids.length = 2 ∧ (op = 2 ∨ op = 3) ∧ pane = 0 ∧ turned = false)
theorem formed_good {op a pane : Int} {turned : Bool} {kids : List Plan} (h : 0 ≤ planSize (.mk op a pane turned kids)) : goodShape op a pane turned kids ∧ ∀ q ∈ kids, 0 ≤ planSize q := by
  obtain ⟨t, e, h⟩ := formed_iff.1 h
  match t with
  | .waste => simp [T.plan] at e; simp [goodShape, e]
  | .pane n tu => simp [T.plan] at e; simp [goodShape, e]
  | .cut d a' p q =>
    simp only [T.size] at h
    simp only [T.plan, Plan.mk.injEq] at e
    obtain ⟨e1, e2, e3, e4, e5⟩ := e
    subst e5
    refine ⟨.inr ⟨rfl, by cases d <;> simp at e1 <;> simp [e1], e3, e4⟩, ?_⟩
    intro r hr
    simp at hr
    rcases hr with rfl | rfl
    · rw [planSize_T (by omega)]; omega
    · rw [planSize_T (by omega)]; omega
theorem planSize_bad {op a pane : Int} {turned : Bool} {kids : List Plan} (h : ¬ goodShape op a pane turned kids) : planSize (.mk op a pane turned kids) = -1 := by
  have := planSize_le (.mk op a pane turned kids)
  by_cases h0 : 0 ≤ planSize (.mk op a pane turned kids)
  · exact absurd (formed_good h0).1 h
  · omega
theorem planSize_kid {op a pane : Int} {turned : Bool} {kids : List Plan} {q : Plan} (hq : q ∈ kids) (h : planSize q < 0) : planSize (.mk op a pane turned kids) = -1 := by
  have := planSize_le (.mk op a pane turned kids)
  by_cases h0 : 0 ≤ planSize (.mk op a pane turned kids)
  · have := (formed_good h0).2 q hq; omega
  · omega
theorem planSize_sum {op a pane : Int} {turned : Bool} {kids : List Plan} (hg : goodShape op a pane turned kids) (hk : ∀ q ∈ kids, 0 ≤ planSize q) :
    planSize (.mk op a pane turned kids) = if 255 < 1 + (kids.map planSize).sum then -1 else 1 + (kids.map planSize).sum := by
  rcases hg with ⟨rfl, h1, h2⟩ | ⟨h1, h2, h3, h4⟩
  · have : ∃ t : T, Plan.mk op a pane turned [] = t.plan ∧ t.size = 1 := by
      rcases h2 with h2 | ⟨h2, h3, h4⟩
      · exact ⟨.pane pane turned, by rw [h1, h2]; rfl, rfl⟩
      · exact ⟨.waste, by rw [h1, h2, h3, h4]; rfl, rfl⟩
    obtain ⟨t, e, h5⟩ := this
    rw [e, planSize_T (by omega), h5]
    rfl
  · match kids, h1 with
    | [p, q], _ =>
      obtain ⟨tp, rfl, sp, ep⟩ := (planSize_cases p).resolve_right (by have := hk p (by simp); omega)
      obtain ⟨tq, rfl, sq, eq'⟩ := (planSize_cases q).resolve_right (by have := hk q (by simp); omega)
      have e : Plan.mk op a pane turned [tp.plan, tq.plan] = (T.cut (decide (op = 2)) a tp tq).plan := by
        rcases h2 with h2 | h2 <;> simp [T.plan, h2, h3, h4]
      rw [e, planSize, countParts_T]
      have hsz : (T.cut (decide (op = 2)) a tp tq).size = 1 + tp.size + tq.size := rfl
      simp only [List.map_cons, List.map_nil, List.sum_cons, List.sum_nil, ep, eq']
      by_cases h : tp.size + tq.size + 1 ≤ 255
      · rw [if_pos (by omega), if_neg (by omega)]; omega
      · rw [if_neg (by omega), if_pos (by omega)]
theorem sum_next {l : List Plan} {i : Nat} {x : Plan} (hx : l[i]? = some x) : ((l.take (i + 1)).map planSize).sum = ((l.take i).map planSize).sum + planSize x := by
  rw [map_next hx]; simp
theorem at_ltP {l : List Plan} {i : Nat} (h : decide ((i : Int) < (((Plan.cellsL l).length : Nat) : Int)) = true) : ∃ x, l[i]? = some x := by
  rw [Plan.cellsL_map] at h; exact at_lt h
def inRange (n low high : Int) : Bool := decide (low ≤ n) && decide (n ≤ high)

/- spec.isCut: 34 -> [4] -/
set_option maxRecDepth 100000 in
theorem ctr_s_isCut (p : Plan) : Ctr P 142 [.g (.agg p.cells)] (.g (.bool (isCut p))) := by
  obtain ⟨op, at', pane, turned, kids⟩ := p
  refine ctr_of (fn := Go.Proofs.Try.f142) (by kernel_rfl) rfl rfl ?_
  rintro ⟨n, w0, F0, M, pin⟩ hn
  cases hn
  refine PW_seq ?_
  -- region 0
  refine PW_region ?_
  refine P22 .none (by first | exact S_boxA rfl rfl rfl rfl | exact S_boxL rfl rfl rfl rfl rfl | exact S_boxA rfl (Plan.cells_len _) (Plan.cells_one _) rfl) ?_
  refine P10 .none (S_assign rfl rfl) ?_
  refine Pend ?_
  refine PW_seq ?_
  -- region 1
  refine PW_region ?_
  refine P10 .none (by first | exact S_fieldO rfl rfl rfl | exact S_fieldR rfl rfl rfl) ?_
  refine P10 .none (by first | exact S_loadO1 rfl rfl rfl rfl rfl | exact S_loadR1 rfl rfl rfl | exact S_loadL1 rfl rfl rfl rfl rfl) ?_
  refine P10 .none (S_eql rfl rfl rfl) ?_
  refine P10 .none (S_move rfl rfl) ?_
  refine Psplit 6 rfl (fun h1 => ?_) (fun h1 => ?_)
  · -- t6 = true
    refine Pskip rfl rfl h1 rfl ?_
    refine Pskip rfl rfl h1 rfl ?_
    refine Pskip rfl rfl h1 rfl ?_
    refine P10 .none (S_pickT rfl h1 rfl rfl) ?_
    refine P10 .none (S_assign rfl rfl) ?_
    refine Pend ?_
    refine PW_ret ⟨.inr rfl, ?_⟩
    exact ret_g (.cons (.tmp rfl) (.c (.g _)) .nil) (by dsimp only [gres, isCut]; simp only [*, decide_true, decide_false, eq_self, if_true, if_false, reduceIte, Bool.false_eq_true, Bool.and_false, Bool.false_and, Bool.true_and, Bool.and_true, Bool.or_true, Bool.true_or, Bool.false_or, Bool.or_false, Bool.not_true, Bool.not_false]) trivial
  · -- t6 = false
    refine P10 (.yes rfl rfl h1) (by first | exact S_fieldO rfl rfl rfl | exact S_fieldR rfl rfl rfl) ?_
    refine P10 (.yes rfl rfl h1) (by first | exact S_loadO1 rfl rfl rfl rfl rfl | exact S_loadR1 rfl rfl rfl | exact S_loadL1 rfl rfl rfl rfl rfl) ?_
    refine P10 (.yes rfl rfl h1) (S_eql rfl rfl rfl) ?_
    refine P10 .none (S_pickF rfl h1 rfl rfl) ?_
    refine P10 .none (S_assign rfl rfl) ?_
    refine Pend ?_
    refine PW_ret ⟨.inr rfl, ?_⟩
    exact ret_g (.cons (.tmp rfl) (.c (.g _)) .nil) (by dsimp only [gres, isCut]; simp only [*, decide_true, decide_false, eq_self, if_true, if_false, reduceIte, Bool.false_eq_true, Bool.and_false, Bool.false_and, Bool.true_and, Bool.and_true, Bool.or_true, Bool.true_or, Bool.false_or, Bool.or_false, Bool.not_true, Bool.not_false]) trivial
/- spec.inRange: 3, 3, 3 -> [4] -/
set_option maxRecDepth 100000 in
theorem ctr_s_inRange (n low high : Int) : Ctr P 128 [.g (.int .i64 n), .g (.int .i64 low), .g (.int .i64 high)] (.g (.bool (inRange n low high))) := by
  refine ctr_of (fn := Go.Proofs.Try.f128) (by kernel_rfl) rfl rfl ?_
  rintro ⟨n, w0, F0, M, pin⟩ hn
  cases hn
  refine PW_seq ?_
  -- region 0
  refine PW_region ?_
  refine P10 .none (S_assign rfl rfl) ?_
  refine Pend ?_
  refine PW_seq ?_
  -- region 1
  refine PW_region ?_
  refine P10 .none (S_move rfl rfl) ?_
  refine P10 .none (S_move rfl rfl) ?_
  refine P10 .none (S_leq rfl rfl rfl) ?_
  refine P10 .none (S_move rfl rfl) ?_
  refine Psplit 10 rfl (fun h1 => ?_) (fun h1 => ?_)
  · -- t10 = true
    refine P10 (.yes rfl rfl h1) (S_move rfl rfl) ?_
    refine P10 (.yes rfl rfl h1) (S_move rfl rfl) ?_
    refine P10 (.yes rfl rfl h1) (S_leq rfl rfl rfl) ?_
    refine P10 .none (S_pickT rfl h1 rfl rfl) ?_
    refine P10 .none (S_assign rfl rfl) ?_
    refine Pend ?_
    refine PW_ret ⟨.inr rfl, ?_⟩
    exact ret_g (.cons (.tmp rfl) (.c (.g _)) .nil) (by simp only [gres, inRange]; rw [h1]; rfl) trivial
  · -- t10 = false
    refine Pskip rfl rfl h1 rfl ?_
    refine Pskip rfl rfl h1 rfl ?_
    refine Pskip rfl rfl h1 rfl ?_
    refine P10 .none (S_pickF rfl h1 rfl rfl) ?_
    refine P10 .none (S_assign rfl rfl) ?_
    refine Pend ?_
    refine PW_ret ⟨.inr rfl, ?_⟩
    exact ret_g (.cons (.tmp rfl) (.c (.g _)) .nil) (by simp only [gres, inRange]; rw [h1]; rfl) trivial
/- spec.validPane: 82 -> [4] -/
set_option maxRecDepth 100000 in
theorem ctr_s_validPane (p : Pane) : Ctr P 177 [.g (.agg p.cells)] (.g (.bool (validPane p))) := by
  refine ctr_of (fn := Go.Proofs.Try.f177) (by kernel_rfl) rfl rfl ?_
  rintro ⟨n, w0, F0, M, pin⟩ hn
  cases hn
  refine PW_seq ?_
  -- region 0
  refine PW_region ?_
  refine P22 .none (by first | exact S_boxA rfl rfl rfl rfl | exact S_boxL rfl rfl rfl rfl rfl) ?_
  refine P10 .none (S_assign rfl rfl) ?_
  refine Pend ?_
  refine PW_seq ?_
  -- region 1
  refine PW_region ?_
  refine P10 .none (by first | exact S_fieldO rfl rfl rfl | exact S_fieldR rfl rfl rfl) ?_
  refine P10 .none (by first | exact S_loadO1 rfl rfl rfl rfl rfl | exact S_loadR1 rfl rfl rfl | exact S_loadL1 rfl rfl rfl rfl rfl) ?_
  refine P00 .none (S_call (.one rfl (.one rfl (.one rfl .nil))) rfl (ctr_s_inRange _ _ _) (.inl rfl) rfl) ?_
  refine P10 .none (S_move rfl rfl) ?_
  refine Psplit 6 rfl (fun h1 => ?_) (fun h1 => ?_)
  · -- t6 = true
    refine P10 (.yes rfl rfl h1) (by first | exact S_fieldO rfl rfl rfl | exact S_fieldR rfl rfl rfl) ?_
    refine P10 (.yes rfl rfl h1) (by first | exact S_loadO1 rfl rfl rfl rfl rfl | exact S_loadR1 rfl rfl rfl | exact S_loadL1 rfl rfl rfl rfl rfl) ?_
    refine P00 (.yes rfl rfl h1) (S_call (.one rfl (.one rfl (.one rfl .nil))) rfl (ctr_s_inRange _ _ _) (.inl rfl) rfl) ?_
    refine P10 .none (S_pickT rfl h1 rfl rfl) ?_
    refine P10 .none (S_move rfl rfl) ?_
    refine Psplit 11 rfl (fun h2 => ?_) (fun h2 => ?_)
    · -- t11 = true
      refine P10 (.yes rfl rfl h2) (by first | exact S_fieldO rfl rfl rfl | exact S_fieldR rfl rfl rfl) ?_
      refine P10 (.yes rfl rfl h2) (by first | exact S_loadO1 rfl rfl rfl rfl rfl | exact S_loadR1 rfl rfl rfl | exact S_loadL1 rfl rfl rfl rfl rfl) ?_
      refine P00 (.yes rfl rfl h2) (S_call (.one rfl (.one rfl (.one rfl .nil))) rfl (ctr_s_inRange _ _ _) (.inl rfl) rfl) ?_
      refine P10 .none (S_pickT rfl h2 rfl rfl) ?_
      refine P10 .none (S_assign rfl rfl) ?_
      refine Pend ?_
      refine PW_ret ⟨.inr rfl, ?_⟩
      exact ret_g (.cons (.tmp rfl) (.c (.g _)) .nil) (by simp only [gres, GV.bool.injEq, inRange, validPane] at *; simp_all <;> (intros; omega)) trivial
    · -- t11 = false
      refine Pskip rfl rfl h2 rfl ?_
      refine Pskip rfl rfl h2 rfl ?_
      refine Pskip rfl rfl h2 rfl ?_
      refine P10 .none (S_pickF rfl h2 rfl rfl) ?_
      refine P10 .none (S_assign rfl rfl) ?_
      refine Pend ?_
      refine PW_ret ⟨.inr rfl, ?_⟩
      exact ret_g (.cons (.tmp rfl) (.c (.g _)) .nil) (by simp only [gres, GV.bool.injEq, inRange, validPane] at *; simp_all <;> (intros; omega)) trivial
  · -- t6 = false
    refine Pskip rfl rfl h1 rfl ?_
    refine Pskip rfl rfl h1 rfl ?_
    refine Pskip rfl rfl h1 rfl ?_
    refine P10 .none (S_pickF rfl h1 rfl rfl) ?_
    refine P10 .none (S_move rfl rfl) ?_
    refine Pskip rfl rfl rfl rfl ?_
    refine Pskip rfl rfl rfl rfl ?_
    refine Pskip rfl rfl rfl rfl ?_
    refine P10 .none (S_pickF rfl rfl rfl rfl) ?_
    refine P10 .none (S_assign rfl rfl) ?_
    refine Pend ?_
    refine PW_ret ⟨.inr rfl, ?_⟩
    exact ret_g (.cons (.tmp rfl) (.c (.g _)) .nil) (by simp only [gres, GV.bool.injEq, inRange, validPane] at *; simp_all <;> (intros; omega)) trivial
/- spec.validPanes: 23 -> [4] -/
set_option maxRecDepth 100000 in
theorem ctr_s_validPanes (l : List Pane) (hl : l.length ≤ 100000000) : Ctr P 152 [.g (.sl (l.map Pane.cells))] (.g (.bool (decide (l.length ≤ 24) && l.all validPane))) := by
  refine ctr_of (fn := Go.Proofs.Try.f152) (by kernel_rfl) rfl rfl ?_
  rintro ⟨n, w0, F0, M, pin⟩ hn
  cases hn
  refine PW_seq ?_
  -- region 0
  refine PW_region ?_
  refine P10 .none (S_assign rfl rfl) ?_
  refine Pend ?_
  refine PW_seq ?_
  refine PW_seq ?_
  -- region 1
  refine PW_region ?_
  refine P10 .none (S_assign rfl rfl) ?_
  refine Pend ?_
  refine PW_block ?_
  refine PW_iter (ι := Nat) (fun i => [(0, .c (.g (.sl (l.map Pane.cells)))), (3, .c (.g (.int .i64 (i : Nat))))]) (fun i => []) (fun i => i ≤ l.length ∧ (l.take i).all validPane = true) (fun i => l.length - i) 0 ⟨Nat.zero_le _, rfl⟩ (by repeat (first | exact trivial | refine And.intro rfl ?_)) (by repeat (first | exact trivial | refine And.intro rfl ?_)) (fun i hi => ?_)
  refine PW_seq ?_
  refine PW_seq ?_
  -- region 2
  refine PW_region ?_
  refine P10 .none (S_move rfl rfl) ?_
  refine P10 .none (S_move rfl rfl) ?_
  refine P10 .none (by first | exact S_lenR rfl rfl | exact S_lenO rfl rfl | exact S_lenN rfl rfl | exact S_lenS rfl rfl) ?_
  refine P10 .none (S_lss rfl rfl rfl) ?_
  refine Pend ?_
  refine PW_cond rfl (fun h1 => ?_) (fun h1 => ?_)
  · -- t7
    refine PW_skip ?_
    refine PW_seq ?_
    refine PW_block ?_
    refine PW_seq ?_
    obtain ⟨x, hx⟩ := at_lt h1
    have hlt := (List.getElem?_eq_some_iff.1 hx).1
    --region 4
    refine PW_region ?_
    refine P10 .none (S_move rfl rfl) ?_
    refine P10 .none (S_move rfl rfl) ?_
    refine P10 .none (by first | exact S_indexR rfl rfl rfl (map_at hx) rfl rfl | exact S_indexO rfl rfl rfl rfl rfl (map_at hx) rfl) ?_
    refine P10 .none (by first | exact S_loadOW rfl rfl rfl rfl rfl | exact S_loadRW rfl rfl rfl | exact S_loadLA rfl rfl rfl (Nat.le_of_ble_eq_true rfl) rfl | exact S_loadOA rfl rfl rfl (Nat.le_of_ble_eq_true rfl) rfl | exact S_loadRA rfl (Nat.le_of_ble_eq_true rfl) rfl) ?_
    refine P00 .none (S_call (.one rfl .nil) rfl (ctr_s_validPane x) (.inl rfl) rfl) ?_
    refine P10 .none (S_not rfl rfl) ?_
    refine Pend ?_
    refine PW_cond rfl (fun h2 => ?_) (fun h2 => ?_)
    · -- t15
      refine PW_seq ?_
      -- region 5
      refine PW_region ?_
      refine P10 .none (S_assign rfl rfl) ?_
      refine Pend ?_
      refine PW_ret ⟨.inr rfl, ?_⟩
      exact ret_g (.cons (.tmp rfl) (.c (.g _)) .nil) (by simp only [gres, GV.bool.injEq, all_not hx (show validPane x = false by simpa using h2)]; simp) trivial
    · -- not t15
      refine PW_skip ?_
      -- region 3
      refine PW_region ?_
      refine P10 .none (S_move rfl rfl) ?_
      refine P10 .none (S_add rfl rfl rfl (And.intro (by omega) (by omega))) ?_
      refine P10 .none (S_assign rfl rfl) ?_
      refine Pend ?_
      exact ⟨i + 1, by omega, ⟨by show i + 1 ≤ l.length; omega, all_next hx hi.2 (by simpa using h2)⟩, (by repeat (first | exact trivial | refine And.intro rfl ?_)), trivial⟩
  · -- not t7
    refine PW_exit ?_
    refine PW_seq ?_
    -- region 6
    refine PW_region ?_
    refine P10 .none (S_move rfl rfl) ?_
    refine P10 .none (by first | exact S_lenR rfl rfl | exact S_lenO rfl rfl | exact S_lenN rfl rfl | exact S_lenS rfl rfl) ?_
    refine P10 .none (S_leq rfl rfl rfl) ?_
    refine P10 .none (S_assign rfl rfl) ?_
    refine Pend ?_
    refine PW_ret ⟨.inr rfl, ?_⟩
    exact ret_g (.cons (.tmp rfl) (.c (.g _)) .nil) (by simp only [gres, GV.bool.injEq, all_end (by simp at h1; omega) hi.2]; simp; omega) trivial
/- spec.validWork: 25 -> [4] -/
set_option maxRecDepth 100000 in
theorem ctr_s_validWork (k : Work) (hl : k.panes.length ≤ 100000000) : Ctr P 114 [.g (.agg k.cells)] (.g (.bool (validWork k))) := by
  refine ctr_of (fn := Go.Proofs.Try.f114) (by kernel_rfl) rfl rfl ?_
  rintro ⟨n, w0, F0, M, pin⟩ hn
  cases hn
  refine PW_seq ?_
  -- region 0
  refine PW_region ?_
  refine P22 .none (by first | exact S_boxA rfl rfl rfl rfl | exact S_boxL rfl rfl rfl rfl rfl) ?_
  refine P10 .none (S_assign rfl rfl) ?_
  refine Pend ?_
  refine PW_seq ?_
  -- region 1
  refine PW_region ?_
  refine P10 .none (by first | exact S_fieldO rfl rfl rfl | exact S_fieldR rfl rfl rfl) ?_
  refine P10 .none (by first | exact S_loadO1 rfl rfl rfl rfl rfl | exact S_loadR1 rfl rfl rfl | exact S_loadL1 rfl rfl rfl rfl rfl) ?_
  refine P00 .none (S_call (.one rfl (.one rfl (.one rfl .nil))) rfl (ctr_s_inRange _ _ _) (.inl rfl) rfl) ?_
  refine P10 .none (S_move rfl rfl) ?_
  refine Psplit 6 rfl (fun h1 => ?_) (fun h1 => ?_)
  · -- t6 = true
    refine P10 (.yes rfl rfl h1) (by first | exact S_fieldO rfl rfl rfl | exact S_fieldR rfl rfl rfl) ?_
    refine P10 (.yes rfl rfl h1) (by first | exact S_loadO1 rfl rfl rfl rfl rfl | exact S_loadR1 rfl rfl rfl | exact S_loadL1 rfl rfl rfl rfl rfl) ?_
    refine P00 (.yes rfl rfl h1) (S_call (.one rfl (.one rfl (.one rfl .nil))) rfl (ctr_s_inRange _ _ _) (.inl rfl) rfl) ?_
    refine P10 .none (S_pickT rfl h1 rfl rfl) ?_
    refine P10 .none (S_move rfl rfl) ?_
    refine Psplit 11 rfl (fun h2 => ?_) (fun h2 => ?_)
    · -- t11 = true
      refine P10 (.yes rfl rfl h2) (by first | exact S_fieldO rfl rfl rfl | exact S_fieldR rfl rfl rfl) ?_
      refine P10 (.yes rfl rfl h2) (by first | exact S_loadO1 rfl rfl rfl rfl rfl | exact S_loadR1 rfl rfl rfl | exact S_loadL1 rfl rfl rfl rfl rfl) ?_
      refine P00 (.yes rfl rfl h2) (S_call (.one rfl .nil) rfl (ctr_s_validPanes k.panes hl) (.inl rfl) rfl) ?_
      refine P10 .none (S_pickT rfl h2 rfl rfl) ?_
      refine P10 .none (S_assign rfl rfl) ?_
      refine Pend ?_
      refine PW_ret ⟨.inr rfl, ?_⟩
      exact ret_g (.cons (.tmp rfl) (.c (.g _)) .nil) (by simp only [gres, GV.bool.injEq, inRange, validWork] at *; simp_all <;> (intros; omega)) trivial
    · -- t11 = false
      refine Pskip rfl rfl h2 rfl ?_
      refine Pskip rfl rfl h2 rfl ?_
      refine Pskip rfl rfl h2 rfl ?_
      refine P10 .none (S_pickF rfl h2 rfl rfl) ?_
      refine P10 .none (S_assign rfl rfl) ?_
      refine Pend ?_
      refine PW_ret ⟨.inr rfl, ?_⟩
      exact ret_g (.cons (.tmp rfl) (.c (.g _)) .nil) (by simp only [gres, GV.bool.injEq, inRange, validWork] at *; simp_all <;> (intros; omega)) trivial
  · -- t6 = false
    refine Pskip rfl rfl h1 rfl ?_
    refine Pskip rfl rfl h1 rfl ?_
    refine Pskip rfl rfl h1 rfl ?_
    refine P10 .none (S_pickF rfl h1 rfl rfl) ?_
    refine P10 .none (S_move rfl rfl) ?_
    refine Pskip rfl rfl rfl rfl ?_
    refine Pskip rfl rfl rfl rfl ?_
    refine Pskip rfl rfl rfl rfl ?_
    refine P10 .none (S_pickF rfl rfl rfl rfl) ?_
    refine P10 .none (S_assign rfl rfl) ?_
    refine Pend ?_
    refine PW_ret ⟨.inr rfl, ?_⟩
    exact ret_g (.cons (.tmp rfl) (.c (.g _)) .nil) (by simp only [gres, GV.bool.injEq, inRange, validWork] at *; simp_all <;> (intros; omega)) trivial
/- spec.planSize: 34 -> [3] -/
set_option maxRecDepth 100000 in
theorem ctr_s_planSize : ∀ (p : Plan), Ctr P 123 [.g (.agg p.cells)] (.g (.int .i64 (planSize p))) := by
  intro p
  induction p using Plan.ind with
  | _ op a pane turned kids ih =>
  refine ctr_of (fn := Go.Proofs.Try.f123) (by kernel_rfl) rfl rfl ?_
  rintro ⟨n, w0, F0, M, pin⟩ hn
  cases hn
  refine PW_seq ?_
  -- region 0
  refine PW_region ?_
  refine P22 .none (by first | exact S_boxA rfl rfl rfl rfl | exact S_boxL rfl rfl rfl rfl rfl | exact S_boxA rfl (Plan.cells_len _) (Plan.cells_one _) rfl) ?_
  refine P10 .none (S_assign rfl rfl) ?_
  refine Pend ?_
  refine PW_seq ?_
  -- region 1
  refine PW_region ?_
  refine P10 .none (S_assign rfl rfl) ?_
  refine Pend ?_
  refine PW_join (ι := Unit) (fun _ => [(1, .c (.optr 1 0 0)), (3, .c (.g (.int .i64 1)))]) (fun _ => [(1, ⟨34, 0, .gnd [Plan.cells (.mk op a pane turned kids)]⟩)]) (fun _ => goodShape op a pane turned kids) ?_ (fun _ hg => ?_)
  ·
    refine PW_seq ?_
    -- region 2
    refine PW_region ?_
    refine P10 .none (by first | exact S_loadOW rfl rfl rfl rfl rfl | exact S_loadRW rfl rfl rfl | exact S_loadLA rfl rfl rfl (Nat.le_of_ble_eq_true rfl) rfl | exact S_loadOA rfl rfl rfl (Nat.le_of_ble_eq_true rfl) rfl | exact S_loadRA rfl (Nat.le_of_ble_eq_true rfl) rfl | exact S_loadRW rfl (Plan.cells_len _) rfl | exact S_loadOW rfl rfl rfl (Plan.cells_len _) rfl) ?_
    refine P00 .none (S_call (.one rfl .nil) rfl (ctr_s_isCut _) (.inl rfl) rfl) ?_
    refine Pend ?_
    refine PW_cond rfl (fun h1 => ?_) (fun h1 => ?_)
    · -- t7
      refine PW_seq ?_
      -- region 3
      refine PW_region ?_
      refine P10 .none (by first | exact S_fieldO rfl rfl rfl | exact S_fieldR rfl rfl rfl) ?_
      refine P10 .none (by first | exact S_loadO1 rfl rfl rfl rfl rfl | exact S_loadR1 rfl rfl rfl | exact S_loadL1 rfl rfl rfl rfl rfl) ?_
      refine P10 .none (by first | exact S_lenR rfl rfl | exact S_lenO rfl rfl | exact S_lenN rfl rfl | exact S_lenS rfl rfl) ?_
      refine P10 .none (S_neq rfl rfl rfl) ?_
      refine P10 .none (S_move rfl rfl) ?_
      refine Psplit 12 rfl (fun h2 => ?_) (fun h2 => ?_)
      · -- t12 = true
        refine Pskip rfl rfl h2 rfl ?_
        refine Pskip rfl rfl h2 rfl ?_
        refine Pskip rfl rfl h2 rfl ?_
        refine P10 .none (S_pickT rfl h2 rfl rfl) ?_
        refine P10 .none (S_move rfl rfl) ?_
        refine Pskip rfl rfl rfl rfl ?_
        refine Pskip rfl rfl rfl rfl ?_
        refine P10 .none (S_pickT rfl rfl rfl rfl) ?_
        refine Pend ?_
        refine PW_condT rfl rfl ?_
        refine PW_seq ?_
        -- region 4
        refine PW_region ?_
        refine P10 .none (S_assign rfl rfl) ?_
        refine Pend ?_
        refine PW_ret ⟨.inr rfl, ?_⟩
        exact ret_g (.cons (.tmp rfl) (.c (.g _)) .nil) (by simp only [gres, GV.int.injEq, true_and]; rw [planSize_bad (by simp [isCut, Plan.cellsL_map] at *; intro hg; simp [goodShape] at hg; grind)]) trivial
      · -- t12 = false
        refine P10 (.yes rfl rfl h2) (by first | exact S_fieldO rfl rfl rfl | exact S_fieldR rfl rfl rfl) ?_
        refine P10 (.yes rfl rfl h2) (by first | exact S_loadO1 rfl rfl rfl rfl rfl | exact S_loadR1 rfl rfl rfl | exact S_loadL1 rfl rfl rfl rfl rfl) ?_
        refine P10 (.yes rfl rfl h2) (S_neq rfl rfl rfl) ?_
        refine P10 .none (S_pickF rfl h2 rfl rfl) ?_
        refine P10 .none (S_move rfl rfl) ?_
        refine Psplit 17 rfl (fun h3 => ?_) (fun h3 => ?_)
        · -- t17 = true
          refine Pskip rfl rfl h3 rfl ?_
          refine Pskip rfl rfl h3 rfl ?_
          refine P10 .none (S_pickT rfl h3 rfl rfl) ?_
          refine Pend ?_
          refine PW_condT rfl rfl ?_
          refine PW_seq ?_
          -- region 4
          refine PW_region ?_
          refine P10 .none (S_assign rfl rfl) ?_
          refine Pend ?_
          refine PW_ret ⟨.inr rfl, ?_⟩
          exact ret_g (.cons (.tmp rfl) (.c (.g _)) .nil) (by simp only [gres, GV.int.injEq, true_and]; rw [planSize_bad (by simp [isCut, Plan.cellsL_map] at *; intro hg; simp [goodShape] at hg; grind)]) trivial
        · -- t17 = false
          refine P10 (.yes rfl rfl h3) (by first | exact S_fieldO rfl rfl rfl | exact S_fieldR rfl rfl rfl) ?_
          refine P10 (.yes rfl rfl h3) (by first | exact S_loadO1 rfl rfl rfl rfl rfl | exact S_loadR1 rfl rfl rfl | exact S_loadL1 rfl rfl rfl rfl rfl) ?_
          refine P10 .none (S_pickF rfl h3 rfl rfl) ?_
          refine Pend ?_
          refine PW_cond rfl (fun h4 => ?_) (fun h4 => ?_)
          · -- t20
            refine PW_seq ?_
            -- region 4
            refine PW_region ?_
            refine P10 .none (S_assign rfl rfl) ?_
            refine Pend ?_
            refine PW_ret ⟨.inr rfl, ?_⟩
            exact ret_g (.cons (.tmp rfl) (.c (.g _)) .nil) (by simp only [gres, GV.int.injEq, true_and]; rw [planSize_bad (by simp [isCut, Plan.cellsL_map] at *; intro hg; simp [goodShape] at hg; grind)]) trivial
          · -- not t20
            refine PW_skip ?_
            exact ⟨(), by simp [isCut, Plan.cellsL_map] at *; simp [goodShape]; grind, by repeat (first | exact trivial | refine And.intro rfl ?_ | refine And.intro (by show some (PV.c (LC.g _)) = some (PV.c (LC.g _)); simp only [*, decide_true, decide_false, eq_self, if_true, if_false, reduceIte, Bool.false_eq_true, Bool.and_false, Bool.false_and, Bool.true_and, Bool.and_true, Bool.or_true, Bool.true_or, Bool.false_or, Bool.or_false, Bool.not_true, Bool.not_false]) ?_), by repeat (first | exact trivial | refine And.intro rfl ?_ | refine And.intro (by show some (PV.c (LC.g _)) = some (PV.c (LC.g _)); simp only [*, decide_true, decide_false, eq_self, if_true, if_false, reduceIte, Bool.false_eq_true, Bool.and_false, Bool.false_and, Bool.true_and, Bool.and_true, Bool.or_true, Bool.true_or, Bool.false_or, Bool.or_false, Bool.not_true, Bool.not_false]) ?_)⟩
    · -- not t7
      refine PW_seq ?_
      -- region 5
      refine PW_region ?_
      refine P10 .none (by first | exact S_fieldO rfl rfl rfl | exact S_fieldR rfl rfl rfl) ?_
      refine P10 .none (by first | exact S_loadO1 rfl rfl rfl rfl rfl | exact S_loadR1 rfl rfl rfl | exact S_loadL1 rfl rfl rfl rfl rfl) ?_
      refine P10 .none (by first | exact S_lenR rfl rfl | exact S_lenO rfl rfl | exact S_lenN rfl rfl | exact S_lenS rfl rfl) ?_
      refine P10 .none (S_neq rfl rfl rfl) ?_
      refine P10 .none (S_move rfl rfl) ?_
      refine Psplit 25 rfl (fun h5 => ?_) (fun h5 => ?_)
      · -- t25 = true
        refine Pskip rfl rfl h5 rfl ?_
        refine Pskip rfl rfl h5 rfl ?_
        refine Pskip rfl rfl h5 rfl ?_
        refine P10 .none (S_pickT rfl h5 rfl rfl) ?_
        refine P10 .none (S_move rfl rfl) ?_
        refine Pskip rfl rfl rfl rfl ?_
        refine Pskip rfl rfl rfl rfl ?_
        refine Pskip rfl rfl rfl rfl ?_
        refine Pskip rfl rfl rfl rfl ?_
        refine Pskip2 rfl rfl rfl ?_
        refine Pskip2 rfl rfl rfl ?_
        refine Pskip2 rfl rfl rfl ?_
        refine Pskip2 rfl rfl rfl ?_
        refine Pskip2 rfl rfl rfl ?_
        refine Pskip2 rfl rfl rfl ?_
        refine Pskip2 rfl rfl rfl ?_
        refine Pskip2 rfl rfl rfl ?_
        refine Pskip2 rfl rfl rfl ?_
        refine Pskip2 rfl rfl rfl ?_
        refine Pskip2 rfl rfl rfl ?_
        refine Pskip2 rfl rfl rfl ?_
        refine Pskip rfl rfl rfl rfl ?_
        refine P10 .none (S_pickT rfl rfl rfl rfl) ?_
        refine Pend ?_
        refine PW_condT rfl rfl ?_
        refine PW_seq ?_
        -- region 6
        refine PW_region ?_
        refine P10 .none (S_assign rfl rfl) ?_
        refine Pend ?_
        refine PW_ret ⟨.inr rfl, ?_⟩
        exact ret_g (.cons (.tmp rfl) (.c (.g _)) .nil) (by simp only [gres, GV.int.injEq, true_and]; rw [planSize_bad (by simp [isCut, Plan.cellsL_map] at *; intro hg; simp [goodShape] at hg; grind)]) trivial
      · -- t25 = false
        refine P10 (.yes rfl rfl h5) (by first | exact S_fieldO rfl rfl rfl | exact S_fieldR rfl rfl rfl) ?_
        refine P10 (.yes rfl rfl h5) (by first | exact S_loadO1 rfl rfl rfl rfl rfl | exact S_loadR1 rfl rfl rfl | exact S_loadL1 rfl rfl rfl rfl rfl) ?_
        refine P10 (.yes rfl rfl h5) (S_neq rfl rfl rfl) ?_
        refine P10 .none (S_pickF rfl h5 rfl rfl) ?_
        refine P10 .none (S_move rfl rfl) ?_
        refine Psplit 30 rfl (fun h6 => ?_) (fun h6 => ?_)
        · -- t30 = true
          refine Pskip rfl rfl h6 rfl ?_
          refine Pskip rfl rfl h6 rfl ?_
          refine Pskip rfl rfl h6 rfl ?_
          refine Pskip rfl rfl h6 rfl ?_
          refine Pskip2 rfl rfl rfl ?_
          refine Pskip2 rfl rfl rfl ?_
          refine Pskip2 rfl rfl rfl ?_
          refine Pskip2 rfl rfl rfl ?_
          refine Pskip2 rfl rfl rfl ?_
          refine Pskip2 rfl rfl rfl ?_
          refine Pskip2 rfl rfl rfl ?_
          refine Pskip2 rfl rfl rfl ?_
          refine Pskip2 rfl rfl rfl ?_
          refine Pskip2 rfl rfl rfl ?_
          refine Pskip2 rfl rfl rfl ?_
          refine Pskip2 rfl rfl rfl ?_
          refine Pskip rfl rfl h6 rfl ?_
          refine P10 .none (S_pickT rfl h6 rfl rfl) ?_
          refine Pend ?_
          refine PW_condT rfl rfl ?_
          refine PW_seq ?_
          -- region 6
          refine PW_region ?_
          refine P10 .none (S_assign rfl rfl) ?_
          refine Pend ?_
          refine PW_ret ⟨.inr rfl, ?_⟩
          exact ret_g (.cons (.tmp rfl) (.c (.g _)) .nil) (by simp only [gres, GV.int.injEq, true_and]; rw [planSize_bad (by simp [isCut, Plan.cellsL_map] at *; intro hg; simp [goodShape] at hg; grind)]) trivial
        · -- t30 = false
          refine P10 (.yes rfl rfl h6) (by first | exact S_fieldO rfl rfl rfl | exact S_fieldR rfl rfl rfl) ?_
          refine P10 (.yes rfl rfl h6) (by first | exact S_loadO1 rfl rfl rfl rfl rfl | exact S_loadR1 rfl rfl rfl | exact S_loadL1 rfl rfl rfl rfl rfl) ?_
          refine P10 (.yes rfl rfl h6) (S_neq rfl rfl rfl) ?_
          refine P10 (.yes rfl rfl h6) (S_move rfl rfl) ?_
          refine Psplit 34 rfl (fun h7 => ?_) (fun h7 => ?_)
          · -- t34 = true
            refine P10 (.yes rfl rfl h7) (by first | exact S_fieldO rfl rfl rfl | exact S_fieldR rfl rfl rfl) ?_
            refine P10 (.yes rfl rfl h7) (by first | exact S_loadO1 rfl rfl rfl rfl rfl | exact S_loadR1 rfl rfl rfl | exact S_loadL1 rfl rfl rfl rfl rfl) ?_
            refine P10 (.yes rfl rfl h7) (S_neq rfl rfl rfl) ?_
            refine P10 (.yes rfl rfl h7) (S_move rfl rfl) ?_
            refine Psplit 38 rfl (fun h8 => ?_) (fun h8 => ?_)
            · -- t38 = true
              refine Pskip rfl rfl h8 rfl ?_
              refine Pskip rfl rfl h8 rfl ?_
              refine Pskip rfl rfl h8 rfl ?_
              refine P10 (.yes rfl rfl h7) (S_pickT rfl h8 rfl rfl) ?_
              refine P10 (.yes rfl rfl h7) (S_move rfl rfl) ?_
              refine Pskip rfl rfl rfl rfl ?_
              refine Pskip rfl rfl rfl rfl ?_
              refine P10 (.yes rfl rfl h7) (S_pickT rfl rfl rfl rfl) ?_
              refine P10 (.yes rfl rfl h6) (S_pickT rfl h7 rfl rfl) ?_
              refine P10 .none (S_pickF rfl h6 rfl rfl) ?_
              refine Pend ?_
              refine PW_condT rfl rfl ?_
              refine PW_seq ?_
              -- region 6
              refine PW_region ?_
              refine P10 .none (S_assign rfl rfl) ?_
              refine Pend ?_
              refine PW_ret ⟨.inr rfl, ?_⟩
              exact ret_g (.cons (.tmp rfl) (.c (.g _)) .nil) (by simp only [gres, GV.int.injEq, true_and]; rw [planSize_bad (by simp [isCut, Plan.cellsL_map] at *; intro hg; simp [goodShape] at hg; grind)]) trivial
            · -- t38 = false
              refine P10 (.yes rfl rfl h8) (by first | exact S_fieldO rfl rfl rfl | exact S_fieldR rfl rfl rfl) ?_
              refine P10 (.yes rfl rfl h8) (by first | exact S_loadO1 rfl rfl rfl rfl rfl | exact S_loadR1 rfl rfl rfl | exact S_loadL1 rfl rfl rfl rfl rfl) ?_
              refine P10 (.yes rfl rfl h8) (S_neq rfl rfl rfl) ?_
              refine P10 (.yes rfl rfl h7) (S_pickF rfl h8 rfl rfl) ?_
              refine P10 (.yes rfl rfl h7) (S_move rfl rfl) ?_
              refine Psplit 43 rfl (fun h9 => ?_) (fun h9 => ?_)
              · -- t43 = true
                refine Pskip rfl rfl h9 rfl ?_
                refine Pskip rfl rfl h9 rfl ?_
                refine P10 (.yes rfl rfl h7) (S_pickT rfl h9 rfl rfl) ?_
                refine P10 (.yes rfl rfl h6) (S_pickT rfl h7 rfl rfl) ?_
                refine P10 .none (S_pickF rfl h6 rfl rfl) ?_
                refine Pend ?_
                refine PW_condT rfl rfl ?_
                refine PW_seq ?_
                -- region 6
                refine PW_region ?_
                refine P10 .none (S_assign rfl rfl) ?_
                refine Pend ?_
                refine PW_ret ⟨.inr rfl, ?_⟩
                exact ret_g (.cons (.tmp rfl) (.c (.g _)) .nil) (by simp only [gres, GV.int.injEq, true_and]; rw [planSize_bad (by simp [isCut, Plan.cellsL_map] at *; intro hg; simp [goodShape] at hg; grind)]) trivial
              · -- t43 = false
                refine P10 (.yes rfl rfl h9) (by first | exact S_fieldO rfl rfl rfl | exact S_fieldR rfl rfl rfl) ?_
                refine P10 (.yes rfl rfl h9) (by first | exact S_loadO1 rfl rfl rfl rfl rfl | exact S_loadR1 rfl rfl rfl | exact S_loadL1 rfl rfl rfl rfl rfl) ?_
                refine P10 (.yes rfl rfl h7) (S_pickF rfl h9 rfl rfl) ?_
                refine P10 (.yes rfl rfl h6) (S_pickT rfl h7 rfl rfl) ?_
                refine P10 .none (S_pickF rfl h6 rfl rfl) ?_
                refine Pend ?_
                refine PW_cond rfl (fun h10 => ?_) (fun h10 => ?_)
                · -- t48
                  refine PW_seq ?_
                  -- region 6
                  refine PW_region ?_
                  refine P10 .none (S_assign rfl rfl) ?_
                  refine Pend ?_
                  refine PW_ret ⟨.inr rfl, ?_⟩
                  exact ret_g (.cons (.tmp rfl) (.c (.g _)) .nil) (by simp only [gres, GV.int.injEq, true_and]; rw [planSize_bad (by simp [isCut, Plan.cellsL_map] at *; intro hg; simp [goodShape] at hg; grind)]) trivial
                · -- not t48
                  refine PW_skip ?_
                  exact ⟨(), by simp [isCut, Plan.cellsL_map] at *; simp [goodShape]; grind, by repeat (first | exact trivial | refine And.intro rfl ?_ | refine And.intro (by show some (PV.c (LC.g _)) = some (PV.c (LC.g _)); simp only [*, decide_true, decide_false, eq_self, if_true, if_false, reduceIte, Bool.false_eq_true, Bool.and_false, Bool.false_and, Bool.true_and, Bool.and_true, Bool.or_true, Bool.true_or, Bool.false_or, Bool.or_false, Bool.not_true, Bool.not_false]) ?_), by repeat (first | exact trivial | refine And.intro rfl ?_ | refine And.intro (by show some (PV.c (LC.g _)) = some (PV.c (LC.g _)); simp only [*, decide_true, decide_false, eq_self, if_true, if_false, reduceIte, Bool.false_eq_true, Bool.and_false, Bool.false_and, Bool.true_and, Bool.and_true, Bool.or_true, Bool.true_or, Bool.false_or, Bool.or_false, Bool.not_true, Bool.not_false]) ?_)⟩
          · -- t34 = false
            refine Pskip rfl rfl h7 rfl ?_
            refine Pskip rfl rfl h7 rfl ?_
            refine Pskip rfl rfl h7 rfl ?_
            refine Pskip rfl rfl h7 rfl ?_
            refine Pskip2 rfl rfl rfl ?_
            refine Pskip2 rfl rfl rfl ?_
            refine Pskip2 rfl rfl rfl ?_
            refine Pskip rfl rfl h7 rfl ?_
            refine Pskip rfl rfl h7 rfl ?_
            refine Pskip2 rfl rfl rfl ?_
            refine Pskip2 rfl rfl rfl ?_
            refine Pskip rfl rfl h7 rfl ?_
            refine P10 (.yes rfl rfl h6) (S_pickF rfl h7 rfl rfl) ?_
            refine P10 .none (S_pickF rfl h6 rfl rfl) ?_
            refine Pend ?_
            refine PW_condF rfl rfl ?_
            refine PW_skip ?_
            exact ⟨(), by simp [isCut, Plan.cellsL_map] at *; simp [goodShape]; grind, by repeat (first | exact trivial | refine And.intro rfl ?_ | refine And.intro (by show some (PV.c (LC.g _)) = some (PV.c (LC.g _)); simp only [*, decide_true, decide_false, eq_self, if_true, if_false, reduceIte, Bool.false_eq_true, Bool.and_false, Bool.false_and, Bool.true_and, Bool.and_true, Bool.or_true, Bool.true_or, Bool.false_or, Bool.or_false, Bool.not_true, Bool.not_false]) ?_), by repeat (first | exact trivial | refine And.intro rfl ?_ | refine And.intro (by show some (PV.c (LC.g _)) = some (PV.c (LC.g _)); simp only [*, decide_true, decide_false, eq_self, if_true, if_false, reduceIte, Bool.false_eq_true, Bool.and_false, Bool.false_and, Bool.true_and, Bool.and_true, Bool.or_true, Bool.true_or, Bool.false_or, Bool.or_false, Bool.not_true, Bool.not_false]) ?_)⟩
  ·
    refine PW_seq ?_
    refine PW_seq ?_
    -- region 7
    refine PW_region ?_
    refine P10 .none (S_assign rfl rfl) ?_
    refine Pend ?_
    refine PW_block ?_
    refine PW_iter (ι := Nat) (fun i => [(1, .c (.optr 1 0 0)), (3, .c (.g (.int .i64 (1 + ((kids.take i).map planSize).sum)))), (4, .c (.g (.int .i64 (i : Nat))))]) (fun i => [(1, ⟨34, 0, .gnd [Plan.cells (.mk op a pane turned kids)]⟩)]) (fun i => i ≤ kids.length ∧ (∀ q ∈ kids.take i, 0 ≤ planSize q) ∧ 0 ≤ ((kids.take i).map planSize).sum ∧ ((kids.take i).map planSize).sum ≤ 255 * i) (fun i => kids.length - i) 0 ⟨Nat.zero_le _, by simp, by simp, by simp⟩ (by repeat (first | exact trivial | refine And.intro rfl ?_)) (by repeat (first | exact trivial | refine And.intro rfl ?_)) (fun i hi => ?_)
    refine PW_seq ?_
    refine PW_seq ?_
    -- region 8
    refine PW_region ?_
    refine P10 .none (S_move rfl rfl) ?_
    refine P10 .none (by first | exact S_fieldO rfl rfl rfl | exact S_fieldR rfl rfl rfl) ?_
    refine P10 .none (by first | exact S_loadO1 rfl rfl rfl rfl rfl | exact S_loadR1 rfl rfl rfl | exact S_loadL1 rfl rfl rfl rfl rfl) ?_
    refine P10 .none (by first | exact S_lenR rfl rfl | exact S_lenO rfl rfl | exact S_lenN rfl rfl | exact S_lenS rfl rfl) ?_
    refine P10 .none (S_lss rfl rfl rfl) ?_
    refine Pend ?_
    refine PW_cond rfl (fun h11 => ?_) (fun h11 => ?_)
    · -- t53
      refine PW_skip ?_
      refine PW_seq ?_
      refine PW_block ?_
      refine PW_seq ?_
      obtain ⟨x, hx⟩ := at_ltP h11
      have hlt := (List.getElem?_eq_some_iff.1 hx).1
      have hxm := List.mem_of_getElem? hx
      have hnx := sum_next hx
      have hle := planSize_le x
      have hk2 : kids.length ≤ 2 := by rcases hg with ⟨h, _⟩ | ⟨h, _⟩ <;> simp [h]
      obtain ⟨hi1, hi2, hi3, hi4⟩ := hi
      --region 10
      refine PW_region ?_
      refine P10 .none (by first | exact S_fieldO rfl rfl rfl | exact S_fieldR rfl rfl rfl) ?_
      refine P10 .none (by first | exact S_loadO1 rfl rfl rfl rfl rfl | exact S_loadR1 rfl rfl rfl | exact S_loadL1 rfl rfl rfl rfl rfl) ?_
      refine P10 .none (S_move rfl rfl) ?_
      refine P10 .none (by first | exact S_indexR rfl rfl rfl (cellsL_at hx) rfl rfl | exact S_indexO rfl rfl rfl rfl rfl (cellsL_at hx) rfl | exact S_indexR rfl rfl rfl (cellsL_at hx) (Plan.cells_len _) rfl) ?_
      refine P10 .none (by first | exact S_loadOW rfl rfl rfl rfl rfl | exact S_loadRW rfl rfl rfl | exact S_loadLA rfl rfl rfl (Nat.le_of_ble_eq_true rfl) rfl | exact S_loadOA rfl rfl rfl (Nat.le_of_ble_eq_true rfl) rfl | exact S_loadRA rfl (Nat.le_of_ble_eq_true rfl) rfl | exact S_loadRW rfl (Plan.cells_len _) rfl | exact S_loadOW rfl rfl rfl (Plan.cells_len _) rfl) ?_
      refine P00 .none (S_call (.one rfl .nil) rfl (ih x hxm) (.inl rfl) rfl) ?_
      refine P10 .none (S_assign rfl rfl) ?_
      refine Pend ?_
      refine PW_seq ?_
      refine PW_seq ?_
      -- region 11
      refine PW_region ?_
      refine P10 .none (S_move rfl rfl) ?_
      refine P10 .none (S_lss rfl rfl rfl) ?_
      refine Pend ?_
      refine PW_cond rfl (fun h12 => ?_) (fun h12 => ?_)
      · -- t63
        refine PW_seq ?_
        -- region 12
        refine PW_region ?_
        refine P10 .none (S_assign rfl rfl) ?_
        refine Pend ?_
        refine PW_ret ⟨.inr rfl, ?_⟩
        exact ret_g (.cons (.tmp rfl) (.c (.g _)) .nil) (by simp only [gres]; rw [planSize_kid hxm (of_decide_eq_true h12)]) trivial
      · -- not t63
        refine PW_skip ?_
        -- region 13
        refine PW_region ?_
        refine P10 .none (S_move rfl rfl) ?_
        refine P10 .none (S_move rfl rfl) ?_
        refine P10 .none (S_add rfl rfl rfl (And.intro (by omega) (by omega))) ?_
        refine P10 .none (S_assign rfl rfl) ?_
        refine Pend ?_
        -- region 9
        refine PW_region ?_
        refine P10 .none (S_move rfl rfl) ?_
        refine P10 .none (S_add rfl rfl rfl (And.intro (by omega) (by omega))) ?_
        refine P10 .none (S_assign rfl rfl) ?_
        refine Pend ?_
        exact ⟨i + 1, by omega, ⟨by show i + 1 ≤ kids.length; omega, by intro q hq; rw [List.take_add_one, hx] at hq; simp at hq h12; rcases hq with hq | rfl; exact hi2 q hq; omega, by rw [hnx]; simp at h12; omega, by rw [hnx]; omega⟩, (by rw [hnx, ← Int.add_assoc]; repeat (first | exact trivial | refine And.intro rfl ?_)), (by repeat (first | exact trivial | refine And.intro rfl ?_))⟩
    · -- not t53
      refine PW_exit ?_
      refine PW_seq ?_
      refine PW_seq ?_
      have hall : kids.take i = kids := by rw [Plan.cellsL_map] at h11; simp at h11; exact List.take_of_length_le (by omega)
      obtain ⟨hi1, hi2, hi3, hi4⟩ := hi
      have hps := planSize_sum hg (by rw [← hall]; exact hi2)
      rw [hall]
      --region 14
      refine PW_region ?_
      refine P10 .none (S_move rfl rfl) ?_
      refine P10 .none (S_gtr rfl rfl rfl) ?_
      refine Pend ?_
      refine PW_cond rfl (fun h13 => ?_) (fun h13 => ?_)
      · -- t68
        refine PW_seq ?_
        -- region 15
        refine PW_region ?_
        refine P10 .none (S_assign rfl rfl) ?_
        refine Pend ?_
        refine PW_ret ⟨.inr rfl, ?_⟩
        exact ret_g (.cons (.tmp rfl) (.c (.g _)) .nil) (by simp only [gres]; rw [hps, if_pos (of_decide_eq_true h13)]) trivial
      · -- not t68
        refine PW_skip ?_
        refine PW_seq ?_
        -- region 16
        refine PW_region ?_
        refine P10 .none (S_move rfl rfl) ?_
        refine P10 .none (S_assign rfl rfl) ?_
        refine Pend ?_
        refine PW_ret ⟨.inr rfl, ?_⟩
        exact ret_g (.cons (.tmp rfl) (.c (.g _)) .nil) (by simp only [gres]; rw [hps, if_neg (of_decide_eq_false h13)]) trivial
end Go.Proofs.Ytdmlfhmnlddooaa
namespace Go.Proofs.Ytdmlfhmnlddooaa
open Go Go.Pu

theorem T.fits_xy (k : Work) (t : T) : ∀ (x y x' y' w h : Int), t.fits k ⟨x, y, w, h⟩ = t.fits k ⟨x', y', w, h⟩ := by
  induction t with
  | waste => intros; rfl
  | pane n tu => intros; rfl
  | cut d a p q ihp ihq =>
    intro x y x' y' w h
    cases d
    · simp only [T.fits, splitB]
      simp only [Bool.false_eq_true, if_false]
      rw [ihp x y x' y', ihq x (y + a) x' (y' + a)]
    · simp only [T.fits, splitB]
      simp only [if_true]
      rw [ihp x y x' y', ihq (x + a) y (x' + a) y']
theorem fits_down (k : Work) (a : Int) (p q : T) (w h : Int) : (T.cut true a p q).fits k ⟨0, 0, w, h⟩ = (inRange a 1 (w - 1) && p.fits k ⟨0, 0, a, h⟩ && q.fits k ⟨0, 0, w - a, h⟩) := by
  simp only [T.fits, splitB, inRange, if_true]
  rw [q.fits_xy k (0 + a) 0 0 0, show decide (a < w) = decide (a ≤ w - 1) by simp; omega]
theorem fits_across (k : Work) (a : Int) (p q : T) (w h : Int) : (T.cut false a p q).fits k ⟨0, 0, w, h⟩ = (inRange a 1 (h - 1) && p.fits k ⟨0, 0, w, a⟩ && q.fits k ⟨0, 0, w, h - a⟩) := by
  simp only [T.fits, splitB, inRange, Bool.false_eq_true, if_false]
  rw [q.fits_xy k 0 (0 + a) 0 0, show decide (a < h) = decide (a ≤ h - 1) by simp; omega]
theorem pane_not {k : Work} {n w h : Int} {tu : Bool} (hr : (!inRange n 0 ((((k.panes.map Pane.cells).length : Nat) : Int) - 1)) = true) : paneFills k n tu w h = false := by
  unfold paneFills
  split
  · rfl
  · rw [show k.panes[n.toNat]? = none by simp [inRange] at hr ⊢; omega]
theorem pane_in {k : Work} {n : Int} (hr : (!inRange n 0 ((((k.panes.map Pane.cells).length : Nat) : Int) - 1)) = false) : ∃ (j : Nat) (x : Pane), n = j ∧ k.panes[j]? = some x := by
  simp [inRange] at hr
  exact ⟨n.toNat, _, by omega, List.getElem?_eq_getElem (by omega)⟩

/- spec.fitsPlan: 25, 34, 3, 3 -> [4] -/
set_option maxRecDepth 100000 in
theorem ctr_s_fitsPlan (k : Work) (hl : k.panes.length ≤ 100000) : ∀ (t : T) (w h : Int), 0 ≤ w ∧ w ≤ 1000 → 0 ≤ h ∧ h ≤ 1000 → Ctr P 141 [.g (.agg k.cells), .g (.agg t.plan.cells), .g (.int .i64 w), .g (.int .i64 h)] (.g (.bool (t.fits k ⟨0, 0, w, h⟩))) := by
  intro t
  induction t using T.ind with
  | _ t ih =>
  intro w h hw hh
  have hlm : (k.panes.map Pane.cells).length = k.panes.length := by simp
  generalize ht : t.plan = pl
  obtain ⟨op, a, pane, turned, kids⟩ := pl
  refine ctr_of (fn := Go.Proofs.Try.f141) (by kernel_rfl) rfl rfl ?_
  rintro ⟨n, w0, F0, M, pin⟩ hn
  cases hn
  refine PW_seq ?_
  -- region 0
  refine PW_region ?_
  refine P22 .none (by first | exact S_boxA rfl rfl rfl rfl | exact S_boxL rfl rfl rfl rfl rfl) ?_
  refine P22 .none (by first | exact S_boxA rfl rfl rfl rfl | exact S_boxL rfl rfl rfl rfl rfl | exact S_boxA rfl (Plan.cells_len _) (Plan.cells_one _) rfl) ?_
  refine P10 .none (S_assign rfl rfl) ?_
  refine Pend ?_
  refine PW_seq ?_
  refine PW_seq ?_
  -- region 1
  refine PW_region ?_
  refine P10 .none (by first | exact S_fieldO rfl rfl rfl | exact S_fieldR rfl rfl rfl) ?_
  refine P10 .none (by first | exact S_loadO1 rfl rfl rfl rfl rfl | exact S_loadR1 rfl rfl rfl | exact S_loadL1 rfl rfl rfl rfl rfl) ?_
  refine Pend ?_
  refine PW_block ?_
  refine PW_seq ?_
  -- region 2
  refine PW_region ?_
  refine P10 .none (S_eql rfl rfl rfl) ?_
  refine P10 .none (S_assign rfl rfl) ?_
  refine Pend ?_
  refine PW_cond rfl (fun h1 => ?_) (fun h1 => ?_)
  · -- t12
    refine PW_seq ?_
    refine PW_seq ?_
    -- region 3
    refine PW_region ?_
    refine P10 .none (by first | exact S_fieldO rfl rfl rfl | exact S_fieldR rfl rfl rfl) ?_
    refine P10 .none (by first | exact S_loadO1 rfl rfl rfl rfl rfl | exact S_loadR1 rfl rfl rfl | exact S_loadL1 rfl rfl rfl rfl rfl) ?_
    refine P10 .none (by first | exact S_fieldO rfl rfl rfl | exact S_fieldR rfl rfl rfl) ?_
    refine P10 .none (by first | exact S_loadO1 rfl rfl rfl rfl rfl | exact S_loadR1 rfl rfl rfl | exact S_loadL1 rfl rfl rfl rfl rfl) ?_
    refine P10 .none (by first | exact S_lenR rfl rfl | exact S_lenO rfl rfl | exact S_lenN rfl rfl | exact S_lenS rfl rfl) ?_
    refine P10 .none (S_sub rfl rfl rfl (And.intro (by omega) (by omega))) ?_
    refine P00 .none (S_call (.one rfl (.one rfl (.one rfl .nil))) rfl (ctr_s_inRange _ _ _) (.inl rfl) rfl) ?_
    refine P10 .none (S_not rfl rfl) ?_
    refine Pend ?_
    refine PW_cond rfl (fun h2 => ?_) (fun h2 => ?_)
    · -- t21
      refine PW_seq ?_
      -- region 4
      refine PW_region ?_
      refine P10 .none (S_assign rfl rfl) ?_
      refine Pend ?_
      refine PW_ret ⟨.inr rfl, ?_⟩
      exact ret_g (.cons (.tmp rfl) (.c (.g _)) .nil) (by obtain ⟨rfl, _, _⟩ := plan_pane ht h1; simp only [gres, T.fits, pane_not h2]) trivial
    · -- not t21
      refine PW_skip ?_
      refine PW_seq ?_
      obtain ⟨j, x, rfl, hx⟩ := pane_in h2
      obtain ⟨rfl, _, _⟩ := plan_pane ht h1
      simp only [T.fits]
      rw [paneFills_at hx]
      --region 5
      refine PW_region ?_
      refine P10 .none (by first | exact S_fieldO rfl rfl rfl | exact S_fieldR rfl rfl rfl) ?_
      refine P10 .none (by first | exact S_loadO1 rfl rfl rfl rfl rfl | exact S_loadR1 rfl rfl rfl | exact S_loadL1 rfl rfl rfl rfl rfl) ?_
      refine P10 .none (by first | exact S_fieldO rfl rfl rfl | exact S_fieldR rfl rfl rfl) ?_
      refine P10 .none (by first | exact S_loadO1 rfl rfl rfl rfl rfl | exact S_loadR1 rfl rfl rfl | exact S_loadL1 rfl rfl rfl rfl rfl) ?_
      refine P10 .none (by first | exact S_indexR rfl rfl rfl (map_at hx) rfl rfl | exact S_indexO rfl rfl rfl rfl rfl (map_at hx) rfl) ?_
      refine P10 .none (by first | exact S_loadOW rfl rfl rfl rfl rfl | exact S_loadRW rfl rfl rfl | exact S_loadLA rfl rfl rfl (Nat.le_of_ble_eq_true rfl) rfl | exact S_loadOA rfl rfl rfl (Nat.le_of_ble_eq_true rfl) rfl | exact S_loadRA rfl (Nat.le_of_ble_eq_true rfl) rfl) ?_
      refine P22 .none (S_alloc rfl) ?_
      refine P01 .none (by first | exact S_storeW rfl rfl rfl rfl rfl rfl | exact S_storeWe rfl rfl rfl HK rfl rfl rfl | exact S_storeP rfl rfl rfl rfl rfl (Nat.le_of_ble_eq_true rfl) | exact S_storeLW rfl rfl rfl rfl rfl rfl rfl) ?_
      refine Pend ?_
      refine PW_seq ?_
      refine PW_seq ?_
      -- region 6
      refine PW_region ?_
      refine P10 .none (by first | exact S_fieldO rfl rfl rfl | exact S_fieldR rfl rfl rfl) ?_
      refine P10 .none (by first | exact S_loadO1 rfl rfl rfl rfl rfl | exact S_loadR1 rfl rfl rfl | exact S_loadL1 rfl rfl rfl rfl rfl) ?_
      refine Pend ?_
      refine PW_cond rfl (fun h3 => ?_) (fun h3 => ?_)
      · -- t29
        refine PW_seq ?_
        -- region 7
        refine PW_region ?_
        refine P10 .none (by first | exact S_fieldO rfl rfl rfl | exact S_fieldR rfl rfl rfl) ?_
        refine P10 .none (by first | exact S_loadO1 rfl rfl rfl rfl rfl | exact S_loadR1 rfl rfl rfl | exact S_loadL1 rfl rfl rfl rfl rfl) ?_
        refine P10 .none (S_move rfl rfl) ?_
        refine Psplit 32 rfl (fun h4 => ?_) (fun h4 => ?_)
        · -- t32 = true
          refine P10 (.yes rfl rfl h4) (by first | exact S_fieldO rfl rfl rfl | exact S_fieldR rfl rfl rfl) ?_
          refine P10 (.yes rfl rfl h4) (by first | exact S_loadO1 rfl rfl rfl rfl rfl | exact S_loadR1 rfl rfl rfl | exact S_loadL1 rfl rfl rfl rfl rfl) ?_
          refine P10 (.yes rfl rfl h4) (by first | exact S_fieldO rfl rfl rfl | exact S_fieldR rfl rfl rfl) ?_
          refine P10 (.yes rfl rfl h4) (by first | exact S_loadO1 rfl rfl rfl rfl rfl | exact S_loadR1 rfl rfl rfl | exact S_loadL1 rfl rfl rfl rfl rfl) ?_
          refine P10 (.yes rfl rfl h4) (S_neq rfl rfl rfl) ?_
          refine P10 .none (S_pickT rfl h4 rfl rfl) ?_
          refine P10 .none (S_move rfl rfl) ?_
          refine Psplit 39 rfl (fun h5 => ?_) (fun h5 => ?_)
          · -- t39 = true
            refine P10 (.yes rfl rfl h5) (by first | exact S_fieldO rfl rfl rfl | exact S_fieldR rfl rfl rfl) ?_
            refine P10 (.yes rfl rfl h5) (by first | exact S_loadO1 rfl rfl rfl rfl rfl | exact S_loadR1 rfl rfl rfl | exact S_loadL1 rfl rfl rfl rfl rfl) ?_
            refine P10 (.yes rfl rfl h5) (S_move rfl rfl) ?_
            refine P10 (.yes rfl rfl h5) (S_eql rfl rfl rfl) ?_
            refine P10 .none (S_pickT rfl h5 rfl rfl) ?_
            refine P10 .none (S_move rfl rfl) ?_
            refine Psplit 45 rfl (fun h6 => ?_) (fun h6 => ?_)
            · -- t45 = true
              refine P10 (.yes rfl rfl h6) (by first | exact S_fieldO rfl rfl rfl | exact S_fieldR rfl rfl rfl) ?_
              refine P10 (.yes rfl rfl h6) (by first | exact S_loadO1 rfl rfl rfl rfl rfl | exact S_loadR1 rfl rfl rfl | exact S_loadL1 rfl rfl rfl rfl rfl) ?_
              refine P10 (.yes rfl rfl h6) (S_move rfl rfl) ?_
              refine P10 (.yes rfl rfl h6) (S_eql rfl rfl rfl) ?_
              refine P10 .none (S_pickT rfl h6 rfl rfl) ?_
              refine P10 .none (S_assign rfl rfl) ?_
              refine Pend ?_
              refine PW_ret ⟨.inr rfl, ?_⟩
              exact ret_g (.cons (.tmp rfl) (.c (.g _)) .nil) (by dsimp only [gres, id]; simp only [*, decide_true, decide_false, eq_self, if_true, if_false, reduceIte, Bool.false_eq_true, Bool.and_false, Bool.false_and, Bool.true_and, Bool.and_true, Bool.or_true, Bool.true_or, Bool.false_or, Bool.or_false, Bool.not_true, Bool.not_false]) trivial
            · -- t45 = false
              refine Pskip rfl rfl h6 rfl ?_
              refine Pskip rfl rfl h6 rfl ?_
              refine Pskip rfl rfl h6 rfl ?_
              refine Pskip rfl rfl h6 rfl ?_
              refine P10 .none (S_pickF rfl h6 rfl rfl) ?_
              refine P10 .none (S_assign rfl rfl) ?_
              refine Pend ?_
              refine PW_ret ⟨.inr rfl, ?_⟩
              exact ret_g (.cons (.tmp rfl) (.c (.g _)) .nil) (by dsimp only [gres, id]; simp only [*, decide_true, decide_false, eq_self, if_true, if_false, reduceIte, Bool.false_eq_true, Bool.and_false, Bool.false_and, Bool.true_and, Bool.and_true, Bool.or_true, Bool.true_or, Bool.false_or, Bool.or_false, Bool.not_true, Bool.not_false]) trivial
          · -- t39 = false
            refine Pskip rfl rfl h5 rfl ?_
            refine Pskip rfl rfl h5 rfl ?_
            refine Pskip rfl rfl h5 rfl ?_
            refine Pskip rfl rfl h5 rfl ?_
            refine P10 .none (S_pickF rfl h5 rfl rfl) ?_
            refine P10 .none (S_move rfl rfl) ?_
            refine Pskip rfl rfl rfl rfl ?_
            refine Pskip rfl rfl rfl rfl ?_
            refine Pskip rfl rfl rfl rfl ?_
            refine Pskip rfl rfl rfl rfl ?_
            refine P10 .none (S_pickF rfl rfl rfl rfl) ?_
            refine P10 .none (S_assign rfl rfl) ?_
            refine Pend ?_
            refine PW_ret ⟨.inr rfl, ?_⟩
            exact ret_g (.cons (.tmp rfl) (.c (.g _)) .nil) (by dsimp only [gres, id]; simp only [*, decide_true, decide_false, eq_self, if_true, if_false, reduceIte, Bool.false_eq_true, Bool.and_false, Bool.false_and, Bool.true_and, Bool.and_true, Bool.or_true, Bool.true_or, Bool.false_or, Bool.or_false, Bool.not_true, Bool.not_false]) trivial
        · -- t32 = false
          refine Pskip rfl rfl h4 rfl ?_
          refine Pskip rfl rfl h4 rfl ?_
          refine Pskip rfl rfl h4 rfl ?_
          refine Pskip rfl rfl h4 rfl ?_
          refine Pskip rfl rfl h4 rfl ?_
          refine P10 .none (S_pickF rfl h4 rfl rfl) ?_
          refine P10 .none (S_move rfl rfl) ?_
          refine Pskip rfl rfl rfl rfl ?_
          refine Pskip rfl rfl rfl rfl ?_
          refine Pskip rfl rfl rfl rfl ?_
          refine Pskip rfl rfl rfl rfl ?_
          refine P10 .none (S_pickF rfl rfl rfl rfl) ?_
          refine P10 .none (S_move rfl rfl) ?_
          refine Pskip rfl rfl rfl rfl ?_
          refine Pskip rfl rfl rfl rfl ?_
          refine Pskip rfl rfl rfl rfl ?_
          refine Pskip rfl rfl rfl rfl ?_
          refine P10 .none (S_pickF rfl rfl rfl rfl) ?_
          refine P10 .none (S_assign rfl rfl) ?_
          refine Pend ?_
          refine PW_ret ⟨.inr rfl, ?_⟩
          exact ret_g (.cons (.tmp rfl) (.c (.g _)) .nil) (by dsimp only [gres, id]; simp only [*, decide_true, decide_false, eq_self, if_true, if_false, reduceIte, Bool.false_eq_true, Bool.and_false, Bool.false_and, Bool.true_and, Bool.and_true, Bool.or_true, Bool.true_or, Bool.false_or, Bool.or_false, Bool.not_true, Bool.not_false]) trivial
      · -- not t29
        refine PW_skip ?_
        refine PW_seq ?_
        -- region 8
        refine PW_region ?_
        refine P10 .none (by first | exact S_fieldO rfl rfl rfl | exact S_fieldR rfl rfl rfl) ?_
        refine P10 .none (by first | exact S_loadO1 rfl rfl rfl rfl rfl | exact S_loadR1 rfl rfl rfl | exact S_loadL1 rfl rfl rfl rfl rfl) ?_
        refine P10 .none (S_move rfl rfl) ?_
        refine P10 .none (S_eql rfl rfl rfl) ?_
        refine P10 .none (S_move rfl rfl) ?_
        refine Psplit 55 rfl (fun h7 => ?_) (fun h7 => ?_)
        · -- t55 = true
          refine P10 (.yes rfl rfl h7) (by first | exact S_fieldO rfl rfl rfl | exact S_fieldR rfl rfl rfl) ?_
          refine P10 (.yes rfl rfl h7) (by first | exact S_loadO1 rfl rfl rfl rfl rfl | exact S_loadR1 rfl rfl rfl | exact S_loadL1 rfl rfl rfl rfl rfl) ?_
          refine P10 (.yes rfl rfl h7) (S_move rfl rfl) ?_
          refine P10 (.yes rfl rfl h7) (S_eql rfl rfl rfl) ?_
          refine P10 .none (S_pickT rfl h7 rfl rfl) ?_
          refine P10 .none (S_assign rfl rfl) ?_
          refine Pend ?_
          refine PW_ret ⟨.inr rfl, ?_⟩
          exact ret_g (.cons (.tmp rfl) (.c (.g _)) .nil) (by dsimp only [gres, id]; simp only [*, decide_true, decide_false, eq_self, if_true, if_false, reduceIte, Bool.false_eq_true, Bool.and_false, Bool.false_and, Bool.true_and, Bool.and_true, Bool.or_true, Bool.true_or, Bool.false_or, Bool.or_false, Bool.not_true, Bool.not_false]) trivial
        · -- t55 = false
          refine Pskip rfl rfl h7 rfl ?_
          refine Pskip rfl rfl h7 rfl ?_
          refine Pskip rfl rfl h7 rfl ?_
          refine Pskip rfl rfl h7 rfl ?_
          refine P10 .none (S_pickF rfl h7 rfl rfl) ?_
          refine P10 .none (S_assign rfl rfl) ?_
          refine Pend ?_
          refine PW_ret ⟨.inr rfl, ?_⟩
          exact ret_g (.cons (.tmp rfl) (.c (.g _)) .nil) (by dsimp only [gres, id]; simp only [*, decide_true, decide_false, eq_self, if_true, if_false, reduceIte, Bool.false_eq_true, Bool.and_false, Bool.false_and, Bool.true_and, Bool.and_true, Bool.or_true, Bool.true_or, Bool.false_or, Bool.or_false, Bool.not_true, Bool.not_false]) trivial
  · -- not t12
    refine PW_seq ?_
    -- region 9
    refine PW_region ?_
    refine P10 .none (S_eql rfl rfl rfl) ?_
    refine P10 .none (S_assign rfl rfl) ?_
    refine Pend ?_
    refine PW_cond rfl (fun h8 => ?_) (fun h8 => ?_)
    · -- t61
      refine PW_seq ?_
      -- region 10
      refine PW_draw (by kernel_rfl) ?_
      refine P10 .none (by first | exact S_fieldO rfl rfl rfl | exact S_fieldR rfl rfl rfl) ?_
      refine P10 .none (by first | exact S_loadO1 rfl rfl rfl rfl rfl | exact S_loadR1 rfl rfl rfl | exact S_loadL1 rfl rfl rfl rfl rfl) ?_
      refine P10 .none (S_move rfl rfl) ?_
      refine P10 .none (S_sub rfl rfl rfl (And.intro (by omega) (by omega))) ?_
      refine P00 .none (S_call (.one rfl (.one rfl (.one rfl .nil))) rfl (ctr_s_inRange _ _ _) (.inl rfl) rfl) ?_
      refine P10 .none (S_move rfl rfl) ?_
      refine Psplit 68 rfl (fun h9 => ?_) (fun h9 => ?_)
      · -- t68 = true
        obtain ⟨p, q, rfl, rfl, _, _⟩ := plan_down ht h8
        obtain ⟨ihp, ihq⟩ := ih _ _ _ _ rfl
        have hr : 1 ≤ a ∧ a ≤ w - 1 := by simpa [inRange] using h9
        refine P10 (.yes rfl rfl h9) (by first | exact S_loadOW rfl rfl rfl rfl rfl | exact S_loadRW rfl rfl rfl | exact S_loadLA rfl rfl rfl (Nat.le_of_ble_eq_true rfl) rfl | exact S_loadOA rfl rfl rfl (Nat.le_of_ble_eq_true rfl) rfl | exact S_loadRA rfl (Nat.le_of_ble_eq_true rfl) rfl) ?_
        refine P10 (.yes rfl rfl h9) (by first | exact S_fieldO rfl rfl rfl | exact S_fieldR rfl rfl rfl) ?_
        refine P10 (.yes rfl rfl h9) (by first | exact S_loadO1 rfl rfl rfl rfl rfl | exact S_loadR1 rfl rfl rfl | exact S_loadL1 rfl rfl rfl rfl rfl) ?_
        refine P10 (.yes rfl rfl h9) (by first | exact S_indexR rfl rfl (k := 0) rfl rfl rfl rfl | exact S_indexO rfl rfl rfl rfl (k := 0) rfl rfl rfl | exact S_indexR rfl rfl (k := 0) rfl rfl (Plan.cells_len _) rfl) ?_
        refine P10 (.yes rfl rfl h9) (by first | exact S_loadOW rfl rfl rfl rfl rfl | exact S_loadRW rfl rfl rfl | exact S_loadLA rfl rfl rfl (Nat.le_of_ble_eq_true rfl) rfl | exact S_loadOA rfl rfl rfl (Nat.le_of_ble_eq_true rfl) rfl | exact S_loadRA rfl (Nat.le_of_ble_eq_true rfl) rfl | exact S_loadRW rfl (Plan.cells_len _) rfl | exact S_loadOW rfl rfl rfl (Plan.cells_len _) rfl) ?_
        refine P10 (.yes rfl rfl h9) (by first | exact S_fieldO rfl rfl rfl | exact S_fieldR rfl rfl rfl) ?_
        refine P10 (.yes rfl rfl h9) (by first | exact S_loadO1 rfl rfl rfl rfl rfl | exact S_loadR1 rfl rfl rfl | exact S_loadL1 rfl rfl rfl rfl rfl) ?_
        refine P10 (.yes rfl rfl h9) (S_move rfl rfl) ?_
        refine P00 (.yes rfl rfl h9) (S_call (.one rfl (.one rfl (.one rfl (.one rfl .nil)))) rfl (ihp a h (by omega) hh) (.inl rfl) rfl) ?_
        refine P10 .none (S_pickT rfl h9 rfl rfl) ?_
        refine P10 .none (S_move rfl rfl) ?_
        refine Psplit 79 rfl (fun h10 => ?_) (fun h10 => ?_)
        · -- t79 = true
          refine P10 (.yes rfl rfl h10) (by first | exact S_loadOW rfl rfl rfl rfl rfl | exact S_loadRW rfl rfl rfl | exact S_loadLA rfl rfl rfl (Nat.le_of_ble_eq_true rfl) rfl | exact S_loadOA rfl rfl rfl (Nat.le_of_ble_eq_true rfl) rfl | exact S_loadRA rfl (Nat.le_of_ble_eq_true rfl) rfl) ?_
          refine P10 (.yes rfl rfl h10) (by first | exact S_fieldO rfl rfl rfl | exact S_fieldR rfl rfl rfl) ?_
          refine P10 (.yes rfl rfl h10) (by first | exact S_loadO1 rfl rfl rfl rfl rfl | exact S_loadR1 rfl rfl rfl | exact S_loadL1 rfl rfl rfl rfl rfl) ?_
          refine P10 (.yes rfl rfl h10) (by first | exact S_indexR rfl rfl (k := 1) rfl rfl rfl rfl | exact S_indexO rfl rfl rfl rfl (k := 1) rfl rfl rfl | exact S_indexR rfl rfl (k := 1) rfl rfl (Plan.cells_len _) rfl) ?_
          refine P10 (.yes rfl rfl h10) (by first | exact S_loadOW rfl rfl rfl rfl rfl | exact S_loadRW rfl rfl rfl | exact S_loadLA rfl rfl rfl (Nat.le_of_ble_eq_true rfl) rfl | exact S_loadOA rfl rfl rfl (Nat.le_of_ble_eq_true rfl) rfl | exact S_loadRA rfl (Nat.le_of_ble_eq_true rfl) rfl | exact S_loadRW rfl (Plan.cells_len _) rfl | exact S_loadOW rfl rfl rfl (Plan.cells_len _) rfl) ?_
          refine P10 (.yes rfl rfl h10) (S_move rfl rfl) ?_
          refine P10 (.yes rfl rfl h10) (by first | exact S_fieldO rfl rfl rfl | exact S_fieldR rfl rfl rfl) ?_
          refine P10 (.yes rfl rfl h10) (by first | exact S_loadO1 rfl rfl rfl rfl rfl | exact S_loadR1 rfl rfl rfl | exact S_loadL1 rfl rfl rfl rfl rfl) ?_
          refine P10 (.yes rfl rfl h10) (S_sub rfl rfl rfl (And.intro (by omega) (by omega))) ?_
          refine P10 (.yes rfl rfl h10) (S_move rfl rfl) ?_
          refine P00 (.yes rfl rfl h10) (S_call (.one rfl (.one rfl (.one rfl (.one rfl .nil)))) rfl (ihq (w - a) h (by omega) hh) (.inl rfl) rfl) ?_
          refine P10 .none (S_pickT rfl h10 rfl rfl) ?_
          refine P10 .none (S_assign rfl rfl) ?_
          refine Pend ⟨by kernel_rfl, ?_⟩
          refine PW_ret ⟨.inr rfl, ?_⟩
          exact ret_g (.cons (.tmp rfl) (.c (.g _)) .nil) (by simp only [gres, fits_down, h9, h10]; rfl) trivial
        · -- t79 = false
          refine Pskip rfl rfl h10 rfl ?_
          refine Pskip rfl rfl h10 rfl ?_
          refine Pskip rfl rfl h10 rfl ?_
          refine Pskip rfl rfl h10 rfl ?_
          refine Pskip rfl rfl h10 rfl ?_
          refine Pskip rfl rfl h10 rfl ?_
          refine Pskip rfl rfl h10 rfl ?_
          refine Pskip rfl rfl h10 rfl ?_
          refine Pskip rfl rfl h10 rfl ?_
          refine Pskip rfl rfl h10 rfl ?_
          refine Pskip rfl rfl h10 rfl ?_
          refine P10 .none (S_pickF rfl h10 rfl rfl) ?_
          refine P10 .none (S_assign rfl rfl) ?_
          refine Pend ⟨by kernel_rfl, ?_⟩
          refine PW_ret ⟨.inr rfl, ?_⟩
          exact ret_g (.cons (.tmp rfl) (.c (.g _)) .nil) (by simp only [gres, fits_down, h9, h10]; rfl) trivial
      · -- t68 = false
        refine Pskip rfl rfl h9 rfl ?_
        refine Pskip rfl rfl h9 rfl ?_
        refine Pskip rfl rfl h9 rfl ?_
        refine Pskip rfl rfl h9 rfl ?_
        refine Pskip rfl rfl h9 rfl ?_
        refine Pskip rfl rfl h9 rfl ?_
        refine Pskip rfl rfl h9 rfl ?_
        refine Pskip rfl rfl h9 rfl ?_
        refine Pskip rfl rfl h9 rfl ?_
        refine P10 .none (S_pickF rfl h9 rfl rfl) ?_
        refine P10 .none (S_move rfl rfl) ?_
        refine Pskip rfl rfl rfl rfl ?_
        refine Pskip rfl rfl rfl rfl ?_
        refine Pskip rfl rfl rfl rfl ?_
        refine Pskip rfl rfl rfl rfl ?_
        refine Pskip rfl rfl rfl rfl ?_
        refine Pskip rfl rfl rfl rfl ?_
        refine Pskip rfl rfl rfl rfl ?_
        refine Pskip rfl rfl rfl rfl ?_
        refine Pskip rfl rfl rfl rfl ?_
        refine Pskip rfl rfl rfl rfl ?_
        refine Pskip rfl rfl rfl rfl ?_
        refine P10 .none (S_pickF rfl rfl rfl rfl) ?_
        refine P10 .none (S_assign rfl rfl) ?_
        refine Pend ⟨by kernel_rfl, ?_⟩
        refine PW_ret ⟨.inr rfl, ?_⟩
        exact ret_g (.cons (.tmp rfl) (.c (.g _)) .nil) (by obtain ⟨p, q, rfl, _⟩ := plan_down ht h8; simp only [gres, fits_down, h9]; rfl) trivial
    · -- not t61
      refine PW_seq ?_
      -- region 11
      refine PW_region ?_
      refine P10 .none (S_eql rfl rfl rfl) ?_
      refine P10 .none (S_assign rfl rfl) ?_
      refine Pend ?_
      refine PW_cond rfl (fun h11 => ?_) (fun h11 => ?_)
      · -- t92
        refine PW_seq ?_
        -- region 12
        refine PW_draw (by kernel_rfl) ?_
        refine P10 .none (by first | exact S_fieldO rfl rfl rfl | exact S_fieldR rfl rfl rfl) ?_
        refine P10 .none (by first | exact S_loadO1 rfl rfl rfl rfl rfl | exact S_loadR1 rfl rfl rfl | exact S_loadL1 rfl rfl rfl rfl rfl) ?_
        refine P10 .none (S_move rfl rfl) ?_
        refine P10 .none (S_sub rfl rfl rfl (And.intro (by omega) (by omega))) ?_
        refine P00 .none (S_call (.one rfl (.one rfl (.one rfl .nil))) rfl (ctr_s_inRange _ _ _) (.inl rfl) rfl) ?_
        refine P10 .none (S_move rfl rfl) ?_
        refine Psplit 99 rfl (fun h12 => ?_) (fun h12 => ?_)
        · -- t99 = true
          obtain ⟨p, q, rfl, rfl, _, _⟩ := plan_across ht h11
          obtain ⟨ihp, ihq⟩ := ih _ _ _ _ rfl
          have hr : 1 ≤ a ∧ a ≤ h - 1 := by simpa [inRange] using h12
          refine P10 (.yes rfl rfl h12) (by first | exact S_loadOW rfl rfl rfl rfl rfl | exact S_loadRW rfl rfl rfl | exact S_loadLA rfl rfl rfl (Nat.le_of_ble_eq_true rfl) rfl | exact S_loadOA rfl rfl rfl (Nat.le_of_ble_eq_true rfl) rfl | exact S_loadRA rfl (Nat.le_of_ble_eq_true rfl) rfl) ?_
          refine P10 (.yes rfl rfl h12) (by first | exact S_fieldO rfl rfl rfl | exact S_fieldR rfl rfl rfl) ?_
          refine P10 (.yes rfl rfl h12) (by first | exact S_loadO1 rfl rfl rfl rfl rfl | exact S_loadR1 rfl rfl rfl | exact S_loadL1 rfl rfl rfl rfl rfl) ?_
          refine P10 (.yes rfl rfl h12) (by first | exact S_indexR rfl rfl (k := 0) rfl rfl rfl rfl | exact S_indexO rfl rfl rfl rfl (k := 0) rfl rfl rfl | exact S_indexR rfl rfl (k := 0) rfl rfl (Plan.cells_len _) rfl) ?_
          refine P10 (.yes rfl rfl h12) (by first | exact S_loadOW rfl rfl rfl rfl rfl | exact S_loadRW rfl rfl rfl | exact S_loadLA rfl rfl rfl (Nat.le_of_ble_eq_true rfl) rfl | exact S_loadOA rfl rfl rfl (Nat.le_of_ble_eq_true rfl) rfl | exact S_loadRA rfl (Nat.le_of_ble_eq_true rfl) rfl | exact S_loadRW rfl (Plan.cells_len _) rfl | exact S_loadOW rfl rfl rfl (Plan.cells_len _) rfl) ?_
          refine P10 (.yes rfl rfl h12) (S_move rfl rfl) ?_
          refine P10 (.yes rfl rfl h12) (by first | exact S_fieldO rfl rfl rfl | exact S_fieldR rfl rfl rfl) ?_
          refine P10 (.yes rfl rfl h12) (by first | exact S_loadO1 rfl rfl rfl rfl rfl | exact S_loadR1 rfl rfl rfl | exact S_loadL1 rfl rfl rfl rfl rfl) ?_
          refine P00 (.yes rfl rfl h12) (S_call (.one rfl (.one rfl (.one rfl (.one rfl .nil)))) rfl (ihp w a hw (by omega)) (.inl rfl) rfl) ?_
          refine P10 .none (S_pickT rfl h12 rfl rfl) ?_
          refine P10 .none (S_move rfl rfl) ?_
          refine Psplit 110 rfl (fun h13 => ?_) (fun h13 => ?_)
          · -- t110 = true
            refine P10 (.yes rfl rfl h13) (by first | exact S_loadOW rfl rfl rfl rfl rfl | exact S_loadRW rfl rfl rfl | exact S_loadLA rfl rfl rfl (Nat.le_of_ble_eq_true rfl) rfl | exact S_loadOA rfl rfl rfl (Nat.le_of_ble_eq_true rfl) rfl | exact S_loadRA rfl (Nat.le_of_ble_eq_true rfl) rfl) ?_
            refine P10 (.yes rfl rfl h13) (by first | exact S_fieldO rfl rfl rfl | exact S_fieldR rfl rfl rfl) ?_
            refine P10 (.yes rfl rfl h13) (by first | exact S_loadO1 rfl rfl rfl rfl rfl | exact S_loadR1 rfl rfl rfl | exact S_loadL1 rfl rfl rfl rfl rfl) ?_
            refine P10 (.yes rfl rfl h13) (by first | exact S_indexR rfl rfl (k := 1) rfl rfl rfl rfl | exact S_indexO rfl rfl rfl rfl (k := 1) rfl rfl rfl | exact S_indexR rfl rfl (k := 1) rfl rfl (Plan.cells_len _) rfl) ?_
            refine P10 (.yes rfl rfl h13) (by first | exact S_loadOW rfl rfl rfl rfl rfl | exact S_loadRW rfl rfl rfl | exact S_loadLA rfl rfl rfl (Nat.le_of_ble_eq_true rfl) rfl | exact S_loadOA rfl rfl rfl (Nat.le_of_ble_eq_true rfl) rfl | exact S_loadRA rfl (Nat.le_of_ble_eq_true rfl) rfl | exact S_loadRW rfl (Plan.cells_len _) rfl | exact S_loadOW rfl rfl rfl (Plan.cells_len _) rfl) ?_
            refine P10 (.yes rfl rfl h13) (S_move rfl rfl) ?_
            refine P10 (.yes rfl rfl h13) (S_move rfl rfl) ?_
            refine P10 (.yes rfl rfl h13) (by first | exact S_fieldO rfl rfl rfl | exact S_fieldR rfl rfl rfl) ?_
            refine P10 (.yes rfl rfl h13) (by first | exact S_loadO1 rfl rfl rfl rfl rfl | exact S_loadR1 rfl rfl rfl | exact S_loadL1 rfl rfl rfl rfl rfl) ?_
            refine P10 (.yes rfl rfl h13) (S_sub rfl rfl rfl (And.intro (by omega) (by omega))) ?_
            refine P00 (.yes rfl rfl h13) (S_call (.one rfl (.one rfl (.one rfl (.one rfl .nil)))) rfl (ihq w (h - a) hw (by omega)) (.inl rfl) rfl) ?_
            refine P10 .none (S_pickT rfl h13 rfl rfl) ?_
            refine P10 .none (S_assign rfl rfl) ?_
            refine Pend ⟨by kernel_rfl, ?_⟩
            refine PW_ret ⟨.inr rfl, ?_⟩
            exact ret_g (.cons (.tmp rfl) (.c (.g _)) .nil) (by simp only [gres, fits_across, h12, h13]; rfl) trivial
          · -- t110 = false
            refine Pskip rfl rfl h13 rfl ?_
            refine Pskip rfl rfl h13 rfl ?_
            refine Pskip rfl rfl h13 rfl ?_
            refine Pskip rfl rfl h13 rfl ?_
            refine Pskip rfl rfl h13 rfl ?_
            refine Pskip rfl rfl h13 rfl ?_
            refine Pskip rfl rfl h13 rfl ?_
            refine Pskip rfl rfl h13 rfl ?_
            refine Pskip rfl rfl h13 rfl ?_
            refine Pskip rfl rfl h13 rfl ?_
            refine Pskip rfl rfl h13 rfl ?_
            refine P10 .none (S_pickF rfl h13 rfl rfl) ?_
            refine P10 .none (S_assign rfl rfl) ?_
            refine Pend ⟨by kernel_rfl, ?_⟩
            refine PW_ret ⟨.inr rfl, ?_⟩
            exact ret_g (.cons (.tmp rfl) (.c (.g _)) .nil) (by simp only [gres, fits_across, h12, h13]; rfl) trivial
        · -- t99 = false
          refine Pskip rfl rfl h12 rfl ?_
          refine Pskip rfl rfl h12 rfl ?_
          refine Pskip rfl rfl h12 rfl ?_
          refine Pskip rfl rfl h12 rfl ?_
          refine Pskip rfl rfl h12 rfl ?_
          refine Pskip rfl rfl h12 rfl ?_
          refine Pskip rfl rfl h12 rfl ?_
          refine Pskip rfl rfl h12 rfl ?_
          refine Pskip rfl rfl h12 rfl ?_
          refine P10 .none (S_pickF rfl h12 rfl rfl) ?_
          refine P10 .none (S_move rfl rfl) ?_
          refine Pskip rfl rfl rfl rfl ?_
          refine Pskip rfl rfl rfl rfl ?_
          refine Pskip rfl rfl rfl rfl ?_
          refine Pskip rfl rfl rfl rfl ?_
          refine Pskip rfl rfl rfl rfl ?_
          refine Pskip rfl rfl rfl rfl ?_
          refine Pskip rfl rfl rfl rfl ?_
          refine Pskip rfl rfl rfl rfl ?_
          refine Pskip rfl rfl rfl rfl ?_
          refine Pskip rfl rfl rfl rfl ?_
          refine Pskip rfl rfl rfl rfl ?_
          refine P10 .none (S_pickF rfl rfl rfl rfl) ?_
          refine P10 .none (S_assign rfl rfl) ?_
          refine Pend ⟨by kernel_rfl, ?_⟩
          refine PW_ret ⟨.inr rfl, ?_⟩
          exact ret_g (.cons (.tmp rfl) (.c (.g _)) .nil) (by obtain ⟨p, q, rfl, _⟩ := plan_across ht h11; simp only [gres, fits_across, h12]; rfl) trivial
      · -- not t92
        refine PW_skip ?_
        refine PW_seq ?_
        -- region 13
        refine PW_region ?_
        refine P10 .none (S_assign rfl rfl) ?_
        refine Pend ?_
        refine PW_ret ⟨.inr rfl, ?_⟩
        exact ret_g (.cons (.tmp rfl) (.c (.g _)) .nil) (by rw [plan_waste ht h1 h8 h11]; rfl) trivial
theorem parts_zero (t : T) (b : Box) : (t.parts b)[0]? = some (t, b) := by cases t <;> rfl
theorem filter_next {α : Type} {l : List α} {f : α → Bool} {i : Nat} {x : α} (hx : l[i]? = some x) : (l.take (i + 1)).filter f = (l.take i).filter f ++ if f x = true then [x] else [] := by
  rw [List.take_add_one, hx, List.filter_append]
  simp [List.filter_cons]
end Go.Proofs.Ytdmlfhmnlddooaa
namespace Go.Proofs.Ytdmlfhmnlddooaa
open Go Go.Pu

theorem take_patch {α : Type} {l ys : List α} {m : Nat} (h : m ≤ l.length) : (patch l m ys).take m = l.take m := by
  unfold patch
  rw [List.append_assoc, List.take_append_of_le_length (by simp; omega), List.take_take, Nat.min_self]
theorem take_patch2 {α : Type} {l ys : List α} {i : Nat} (h : i ≤ l.length) : (patch l i ys).take (i + ys.length) = l.take i ++ ys := by
  unfold patch
  rw [List.take_append_of_le_length (by simp; omega), List.take_of_length_le (by simp; omega)]

/- slices.Delete[[]impl.Box,impl.Box]: 38, 3, 3 -> [38] -/
set_option maxRecDepth 100000 in
theorem ctr_delete (es : List (List GV)) (i : Nat) (hi : i < es.length) (hl : es.length ≤ 100000) (h4 : ∀ l ∈ es, l.length = 4) : Ctr P 83 [.mv 102 0 es, .g (.int .i64 i), .g (.int .i64 ((i : Int) + 1))] (.own 102 0 (es.take i ++ es.drop (i + 1))) := by
  refine ctr_of (fn := Go.Proofs.Try.f83) (by kernel_rfl) rfl rfl ?_
  rintro ⟨n, w0, F0, M, pin⟩ hn
  cases hn
  refine PW_seq ?_
  -- region 0
  refine PW_region ?_
  refine P10 .none (S_assign rfl rfl) ?_
  refine Pend ?_
  refine PW_seq ?_
  -- region 1
  refine PW_region ?_
  refine P10 .none (S_move rfl rfl) ?_
  refine P10 .none (S_move rfl rfl) ?_
  refine P10 .none (S_move rfl rfl) ?_
  refine P10 .none (S_move rfl rfl) ?_
  refine P10 .none (by first | exact S_lenR rfl rfl | exact S_lenO rfl rfl | exact S_lenN rfl rfl | exact S_lenS rfl rfl) ?_
  refine P10 .none (S_slice3J (lo := i) (hi := i + 1) (m := es.length) rfl rfl rfl rfl (by omega) (by omega) (by omega) rfl) ?_
  refine Pend ?_
  refine PW_seq ?_
  refine PW_seq ?_
  -- region 2
  refine PW_region ?_
  refine P10 .none (S_move rfl rfl) ?_
  refine P10 .none (S_move rfl rfl) ?_
  refine P10 .none (S_eql rfl rfl rfl) ?_
  refine Pend ?_
  refine PW_cond rfl (fun h1 => ?_) (fun h1 => ?_)
  · -- t16
    refine PW_seq ?_
    -- region 3
    refine PW_region ?_
    refine P10 .none (S_move rfl rfl) ?_
    refine P10 .none (S_assign rfl rfl) ?_
    refine Pend ?_
    refine PW_ret ⟨.inr rfl, ?_⟩
    have := of_decide_eq_true h1; omega
  · -- not t16
    refine PW_skip ?_
    refine PW_seq ?_
    -- region 4
    refine PW_region ?_
    refine P10 .none (S_move rfl rfl) ?_
    refine P10 .none (by first | exact S_lenR rfl rfl | exact S_lenO rfl rfl | exact S_lenN rfl rfl | exact S_lenS rfl rfl) ?_
    refine P10 .none (S_assign rfl rfl) ?_
    refine Pend ?_
    refine PW_seq ?_
    -- region 5
    refine PW_draw (by kernel_rfl) ?_
    refine P10 .none (S_move rfl rfl) ?_
    refine P10 .none (S_move rfl rfl) ?_
    refine P10 .none (S_sliceO rfl rfl rfl (.dfl 0) (.giv _ rfl rfl) (Nat.zero_le _) (Nat.le_of_lt hi) rfl) ?_
    refine P10 .none (S_move rfl rfl) ?_
    refine P10 .none (S_move rfl rfl) ?_
    refine P10 .none (S_sliceO rfl rfl rfl (.giv (k := i + 1) _ rfl rfl) (.dfl _) (by omega) (Nat.le_refl _) rfl) ?_
    refine P00 .none (S_appIn (len := i) rfl rfl rfl (.own rfl rfl (by omega)) (fun l hl => h4 l (List.mem_of_mem_drop (List.mem_of_mem_take hl))) (by simp; omega) (by omega) (Nat.zero_le _) rfl) ?_
    refine P10 .none (S_assign rfl rfl) ?_
    refine Pend ⟨by kernel_rfl, ?_⟩
    refine PW_seq ?_
    -- region 6
    refine PW_region ?_
    refine P10 .none (S_move rfl rfl) ?_
    refine P10 .none (S_move rfl rfl) ?_
    refine P10 .none (by first | exact S_lenR rfl rfl | exact S_lenO rfl rfl | exact S_lenN rfl rfl | exact S_lenS rfl rfl) ?_
    refine P10 .none (S_move rfl rfl) ?_
    refine P10 .none (S_sliceX rfl rfl rfl (.giv _ rfl rfl) (.giv (k := es.length) _ rfl rfl) (by simp; omega) (by simp [Cont.cells, patch]; omega) rfl) ?_
    refine P01 .none (S_clear rfl rfl (by simp [patch]; omega) (Nat.zero_le _)) ?_
    refine Pend ?_
    refine PW_seq ?_
    -- region 7
    refine PW_region ?_
    refine P10 .none (S_move rfl rfl) ?_
    refine P10 .none (S_assign rfl rfl) ?_
    refine Pend ?_
    refine PW_ret ⟨.inr rfl, ?_⟩
    refine RetOk.own_eq (ret_oT rfl rfl rfl rfl (by simp [patch]; omega) trivial) ?_
    have hlen : ((es.drop (0 + (i + 1))).take (es.length - (i + 1))) = es.drop (i + 1) := by rw [Nat.zero_add]; exact List.take_of_length_le (by simp)
    simp only [hlen]
    rw [Nat.zero_add, take_patch (by simp [patch]; omega), take_patch2 (by omega)]
end Go.Proofs.Ytdmlfhmnlddooaa
namespace Go.Proofs.Ytdmlfhmnlddooaa
open Go Go.Pu

theorem boxAt_some {bs : List Box} {b : Box} (h : b ∈ bs) : ∃ j : Nat, boxAt bs b = j ∧ bs[j]? = some b := by
  unfold boxAt
  cases hx : bs.findIdx? (fun y => decide (b = y)) with
  | none =>
    rw [List.findIdx?_eq_none_iff] at hx
    have := hx b h
    simp at this
  | some j =>
    refine ⟨j, rfl, ?_⟩
    rw [List.findIdx?_eq_some_iff_getElem] at hx
    obtain ⟨h1, h2, _⟩ := hx
    simp only [decide_eq_true_eq] at h2
    rw [List.getElem?_eq_getElem h1, ← h2]
theorem del_one {bs : List Box} {b : Box} (hn : bs.Nodup) {j : Nat} (h : bs[j]? = some b) : bs.take j ++ bs.drop (j + 1) = bs.filter (fun y => !decide (y = b)) := by
  obtain ⟨hlt, he⟩ := List.getElem?_eq_some_iff.1 h
  have e : bs = bs.take j ++ b :: bs.drop (j + 1) := by rw [← he]; simp
  have hn' := hn
  rw [e] at hn'
  have := filter_one hn'
  rw [← e] at this
  exact this.symm
theorem stepB_at {ps : List (T × Box)} {tb : List Box} {n : Int} {d : Bool} {a : Int} {p q : T} {b : Box} (h : ps[n.toNat]? = some (.cut d a p q, b)) : stepB ps tb n = tb.filter (fun y => !decide (y = b)) ++ [(splitB d a b).1, (splitB d a b).2] := by
  simp only [stepB, h]
theorem runT_len {k : Work} {t : T} : ∀ (steps : List Int), (runT k t steps).length ≤ 1 + 2 * steps.length := by
  have key : ∀ (ps : List (T × Box)) (steps : List Int) (tb : List Box), (steps.foldl (stepB ps) tb).length ≤ tb.length + 2 * steps.length := by
    intro ps steps
    induction steps with
    | nil => intro tb; simp
    | cons n l ih =>
      intro tb
      have h1 := ih (stepB ps tb n)
      have h2 : (stepB ps tb n).length ≤ tb.length + 2 := by
        unfold stepB
        split
        · rename_i d a p q b _
          have := List.length_filter_le (fun y => !decide (y = b)) tb
          simp; omega
        · omega
      simp only [List.foldl_cons, List.length_cons]
      omega
  intro steps
  have := key (t.parts (sheet k)) steps [sheet k]
  simpa [runT] using this
theorem begins_short {t : T} {steps : List Int} (h : t.size ≤ 255) (hb : begins t.cuts steps = true) : steps.length ≤ 255 := by
  obtain ⟨h1, h2⟩ := begins_nodup hb
  have := (sub_all h1 h2).1
  rw [List.length_map] at this
  exact Nat.le_trans this (T.cuts_ok h).1

/- impl.RunSteps: 25, 34, 26 -> [38, 4] -/
set_option maxRecDepth 100000 in
theorem ctr_i_RunSteps (k : Work) (t : T) (hv : VP k t) (steps : List Int) (hb : begins t.cuts steps = true) : Ctr P 16 [.g (.agg k.cells), .g (.agg t.plan.cells), .g (.sl (steps.map encI))] (.g (.tup [.sl ((runT k t steps).map Box.cells), .bool true])) := by
  have hs := begins_short hv.2.1 hb
  have hpart := ctr_i_partsOf k t hv
  have hkn := ctr_i_knotsOf t hv.2.1
  have hbo := ctr_i_beginsOrder t.cuts steps (T.cuts_ok hv.2.1) (by omega)
  rw [hb] at hbo
  have hp0 := parts_zero t (sheet k)
  have hplen := T.parts_sheet hv
  generalize hps : t.parts (sheet k) = parts at hpart hp0 hplen
  generalize ht : t.plan = pl at hpart hkn
  obtain ⟨op, a0, pane, turned, kids⟩ := pl
  have hxp := parts_at hp0 ht
  refine ctr_of (fn := Go.Proofs.Try.f16) (by kernel_rfl) rfl rfl ?_
  rintro ⟨n, w0, F0, M, pin⟩ hn
  cases hn
  refine PW_seq ?_
  -- region 0
  refine PW_region ?_
  refine P22 .none (by first | exact S_boxA rfl rfl rfl rfl | exact S_boxL rfl rfl rfl rfl rfl) ?_
  refine P22 .none (by first | exact S_boxA rfl rfl rfl rfl | exact S_boxL rfl rfl rfl rfl rfl | exact S_boxA rfl (Plan.cells_len _) (Plan.cells_one _) rfl) ?_
  refine P10 .none (S_assign rfl rfl) ?_
  refine P10 .none (S_assign rfl rfl) ?_
  refine Pend ?_
  refine PW_seq ?_
  -- region 1
  refine PW_region ?_
  refine P10 .none (by first | exact S_loadOW rfl rfl rfl rfl rfl | exact S_loadRW rfl rfl rfl | exact S_loadLA rfl rfl rfl (Nat.le_of_ble_eq_true rfl) rfl | exact S_loadOA rfl rfl rfl (Nat.le_of_ble_eq_true rfl) rfl | exact S_loadRA rfl (Nat.le_of_ble_eq_true rfl) rfl) ?_
  refine P10 .none (by first | exact S_loadOW rfl rfl rfl rfl rfl | exact S_loadRW rfl rfl rfl | exact S_loadLA rfl rfl rfl (Nat.le_of_ble_eq_true rfl) rfl | exact S_loadOA rfl rfl rfl (Nat.le_of_ble_eq_true rfl) rfl | exact S_loadRA rfl (Nat.le_of_ble_eq_true rfl) rfl | exact S_loadRW rfl (Plan.cells_len _) rfl | exact S_loadOW rfl rfl rfl (Plan.cells_len _) rfl) ?_
  refine P00 .none (S_call (.one rfl (.one rfl .nil)) rfl hpart (.inl rfl) rfl) ?_
  refine P10 .none (S_assign rfl rfl) ?_
  refine Pend ?_
  refine PW_seq ?_
  -- region 2
  refine PW_region ?_
  refine P10 .none (by first | exact S_loadOW rfl rfl rfl rfl rfl | exact S_loadRW rfl rfl rfl | exact S_loadLA rfl rfl rfl (Nat.le_of_ble_eq_true rfl) rfl | exact S_loadOA rfl rfl rfl (Nat.le_of_ble_eq_true rfl) rfl | exact S_loadRA rfl (Nat.le_of_ble_eq_true rfl) rfl | exact S_loadRW rfl (Plan.cells_len _) rfl | exact S_loadOW rfl rfl rfl (Plan.cells_len _) rfl) ?_
  refine P00 .none (S_call (.one rfl .nil) rfl hkn (.inl rfl) rfl) ?_
  refine P10 .none (S_move rfl rfl) ?_
  refine P10 .none (by first | exact S_extractG rfl rfl rfl | exact S_extractC rfl rfl rfl | exact S_extractA rfl rfl rfl) ?_
  refine P10 .none (by first | exact S_extractG rfl rfl rfl | exact S_extractC rfl rfl rfl | exact S_extractA rfl rfl rfl) ?_
  refine P10 .none (S_assign rfl rfl) ?_
  refine P10 .none (S_assign rfl rfl) ?_
  refine Pend ?_
  refine PW_seq ?_
  refine PW_seq ?_
  -- region 3
  refine PW_region ?_
  refine P10 .none (S_move rfl rfl) ?_
  refine P10 .none (by first | exact S_lenR rfl rfl | exact S_lenO rfl rfl | exact S_lenN rfl rfl | exact S_lenS rfl rfl) ?_
  refine P10 .none (S_eql rfl rfl rfl) ?_
  refine P10 .none (S_move rfl rfl) ?_
  refine Psplit 28 rfl (fun h1 => ?_) (fun h1 => ?_)
  · -- t28 = true
    refine Pskip rfl rfl h1 rfl ?_
    refine Pskip rfl rfl h1 rfl ?_
    refine P10 .none (S_pickT rfl h1 rfl rfl) ?_
    refine P10 .none (S_move rfl rfl) ?_
    refine Pskip rfl rfl rfl rfl ?_
    refine Pskip rfl rfl rfl rfl ?_
    refine Pskip rfl rfl rfl rfl ?_
    refine Pskip rfl rfl rfl rfl ?_
    refine P10 .none (S_pickT rfl rfl rfl rfl) ?_
    refine Pend ?_
    refine PW_condT rfl rfl ?_
    refine PW_seq ?_
    -- region 4
    refine PW_region ?_
    refine P10 .none (S_assign rfl rfl) ?_
    refine P10 .none (S_assign rfl rfl) ?_
    refine Pend ?_
    refine PW_ret ⟨.inr rfl, ?_⟩
    exfalso; have h9 := of_decide_eq_true h1; have h8 := (List.getElem?_eq_some_iff.1 hp0).1; rw [List.length_map] at h9; omega
  · -- t28 = false
    refine P10 (.yes rfl rfl h1) (S_move rfl rfl) ?_
    refine P10 (.yes rfl rfl h1) (S_not rfl rfl) ?_
    refine P10 .none (S_pickF rfl h1 rfl rfl) ?_
    refine P10 .none (S_move rfl rfl) ?_
    refine Psplit 32 rfl (fun h2 => ?_) (fun h2 => ?_)
    · -- t32 = true
      refine Pskip rfl rfl h2 rfl ?_
      refine Pskip rfl rfl h2 rfl ?_
      refine Pskip rfl rfl h2 rfl ?_
      refine Pskip rfl rfl h2 rfl ?_
      refine P10 .none (S_pickT rfl h2 rfl rfl) ?_
      refine Pend ?_
      refine PW_condT rfl rfl ?_
      refine PW_seq ?_
      -- region 4
      refine PW_region ?_
      refine P10 .none (S_assign rfl rfl) ?_
      refine P10 .none (S_assign rfl rfl) ?_
      refine Pend ?_
      refine PW_ret ⟨.inr rfl, ?_⟩
      cases h2
    · -- t32 = false
      refine P10 (.yes rfl rfl h2) (S_move rfl rfl) ?_
      refine P10 (.yes rfl rfl h2) (S_move rfl rfl) ?_
      refine P00 (.yes rfl rfl h2) (S_call (.one rfl (.one rfl .nil)) rfl hbo (.inl rfl) rfl) ?_
      refine P10 (.yes rfl rfl h2) (S_not rfl rfl) ?_
      refine P10 .none (S_pickF rfl h2 rfl rfl) ?_
      refine Pend ?_
      refine PW_cond rfl (fun h3 => ?_) (fun h3 => ?_)
      · -- t37
        refine PW_seq ?_
        -- region 4
        refine PW_region ?_
        refine P10 .none (S_assign rfl rfl) ?_
        refine P10 .none (S_assign rfl rfl) ?_
        refine Pend ?_
        refine PW_ret ⟨.inr rfl, ?_⟩
        cases h3
      · -- not t37
        refine PW_skip ?_
        refine PW_seq ?_
        -- region 5
        refine PW_region ?_
        refine P10 .none (S_move rfl rfl) ?_
        refine P10 .none (by exact S_indexR rfl rfl (k := 0) rfl hxp rfl rfl) ?_
        refine P10 .none (by first | exact S_fieldO rfl rfl rfl | exact S_fieldR rfl rfl rfl) ?_
        refine P10 .none (by first | exact S_loadOW rfl rfl rfl rfl rfl | exact S_loadRW rfl rfl rfl | exact S_loadLA rfl rfl rfl (Nat.le_of_ble_eq_true rfl) rfl | exact S_loadOA rfl rfl rfl (Nat.le_of_ble_eq_true rfl) rfl | exact S_loadRA rfl (Nat.le_of_ble_eq_true rfl) rfl) ?_
        refine P22 .none (S_lit (.agg rfl rfl rfl (.nil _)) rfl rfl rfl) ?_
        refine P10 .none (S_assign rfl rfl) ?_
        refine Pend ?_
        refine PW_seq ?_
        refine PW_seq ?_
        -- region 6
        refine PW_region ?_
        refine P10 .none (S_move rfl rfl) ?_
        refine P10 .none (by first | exact S_lenR rfl rfl | exact S_lenO rfl rfl | exact S_lenN rfl rfl | exact S_lenS rfl rfl) ?_
        refine P10 .none (S_move rfl rfl) ?_
        refine Pend ?_
        refine PW_block ?_
        refine PW_iter (ι := Nat) (fun i => [(8, .c (.g (.sl (parts.map encPart)))), (11, .c (.osl 42 0 ((runT k t (steps.take i)).map Box.cells).length)), (43, .c (.g (.sl (steps.map encI)))), (44, .c (.g (.int .i64 (steps.map encI).length))), (45, .c (.g (.int .i64 (i : Nat))))]) (fun i => [(42, ⟨102, 0, .gnd ((runT k t (steps.take i)).map Box.cells)⟩)]) (fun i => i ≤ steps.length) (fun i => steps.length - i) 0 (Nat.zero_le _) (by repeat (first | exact trivial | refine And.intro rfl ?_)) (by repeat (first | exact trivial | refine And.intro rfl ?_)) (fun i hi => ?_)
        refine PW_seq ?_
        -- region 7
        refine PW_region ?_
        refine P10 .none (S_lss rfl rfl rfl) ?_
        refine Pend ?_
        refine PW_seq ?_
        refine PW_cond rfl (fun h4 => ?_) (fun h4 => ?_)
        · -- t46
          refine PW_skip ?_
          refine PW_seq ?_
          refine PW_block ?_
          refine PW_seq ?_
          obtain ⟨n, hx⟩ := at_lt h4
          have hlt := (List.getElem?_eq_some_iff.1 hx).1
          obtain ⟨d, a, p, q, b, r0, r1, r2, r3, r4, r5, r6⟩ := run_at hv hb hx
          have hnx := runT_next (k := k) (t := t) hx
          rw [hps] at r1 hnx
          rw [stepB_at r1] at hnx
          have hln := runT_len (k := k) (t := t) (steps.take i)
          rw [List.length_take] at hln
          generalize runT k t (steps.take i) = tb at *
          obtain ⟨j, hj, hjb⟩ := boxAt_some r5
          obtain ⟨f1, f2, f3, f4⟩ := T.fits_cut r3
          have hsb := ctr_splitBox_T (p := p) (q := q) r2 f1 f2
          have hjl := (List.getElem?_eq_some_iff.1 hjb).1
          obtain ⟨m, rfl⟩ : ∃ m : Nat, n = m := ⟨n.toNat, by omega⟩
          rw [Int.toNat_natCast] at r1
          have hxm : (parts.map encPart)[m]? = some ([.int .i64 (if d then 2 else 3), .int .i64 a, .int .i64 0, .bool false, .sl (Plan.cellsL [p.plan, q.plan])] ++ b.cells) := map_at r1
          have hix := ctr_indexBox tb b (by omega)
          rw [hj] at hix
          have hdel := ctr_delete (tb.map Box.cells) j (by simpa using hjl) (by simp; omega) (by simp [Box.cells])
          rw [← List.map_take, ← List.map_drop, ← List.map_append, del_one r6 hjb] at hdel
          have hfl := List.length_filter_le (fun y => !decide (y = b)) tb
          --region 8
          refine PW_region ?_
          refine P10 .none (by first | exact S_indexR rfl rfl rfl (map_at hx) rfl rfl | exact S_indexO rfl rfl rfl rfl rfl (map_at hx) rfl) ?_
          refine P10 .none (by first | exact S_loadO1 rfl rfl rfl rfl rfl | exact S_loadR1 rfl rfl rfl | exact S_loadL1 rfl rfl rfl rfl rfl) ?_
          refine P10 .none (S_assign rfl rfl) ?_
          refine Pend ?_
          refine PW_seq ?_
          -- region 9
          refine PW_region ?_
          refine P10 .none (S_move rfl rfl) ?_
          refine P10 .none (S_move rfl rfl) ?_
          refine P10 .none (S_move rfl rfl) ?_
          refine P10 .none (by first | exact S_indexR rfl rfl rfl hxm rfl rfl | exact S_indexO rfl rfl rfl rfl rfl hxm rfl) ?_
          refine P10 .none (by first | exact S_fieldO rfl rfl rfl | exact S_fieldR rfl rfl rfl) ?_
          refine P10 .none (by first | exact S_loadOW rfl rfl rfl rfl rfl | exact S_loadRW rfl rfl rfl | exact S_loadLA rfl rfl rfl (Nat.le_of_ble_eq_true rfl) rfl | exact S_loadOA rfl rfl rfl (Nat.le_of_ble_eq_true rfl) rfl | exact S_loadRA rfl (Nat.le_of_ble_eq_true rfl) rfl) ?_
          refine P00 .none (S_call (.borw rfl rfl rfl (.one rfl .nil)) rfl hix (.inr ⟨flat_int _ _, by simp [XA.Flat]⟩) rfl) ?_
          refine P10 .none (S_assign rfl rfl) ?_
          refine Pend ?_
          refine PW_seq ?_
          refine PW_seq ?_
          -- region 10
          refine PW_region ?_
          refine P10 .none (S_move rfl rfl) ?_
          refine P10 .none (S_lss rfl rfl rfl) ?_
          refine Pend ?_
          refine PW_cond rfl (fun h5 => ?_) (fun h5 => ?_)
          · -- t57
            refine PW_seq ?_
            -- region 11
            refine PW_region ?_
            refine P10 .none (S_assign rfl rfl) ?_
            refine P10 .none (S_assign rfl rfl) ?_
            refine Pend ?_
            refine PW_ret ⟨.inr rfl, ?_⟩
            exfalso; have := of_decide_eq_true h5; omega
          · -- not t57
            refine PW_skip ?_
            refine PW_seq ?_
            -- region 12
            refine PW_region ?_
            refine P10 .none (S_move rfl rfl) ?_
            refine P10 .none (S_move rfl rfl) ?_
            refine P10 .none (S_move rfl rfl) ?_
            refine P10 .none (S_add rfl rfl rfl (And.intro (by omega) (by omega))) ?_
            refine P00 .none (S_call (.mv rfl rfl rfl rfl (.one rfl (.one rfl .nil))) rfl hdel (.inl rfl) rfl) ?_
            refine P10 .none (S_assign rfl rfl) ?_
            refine Pend ?_
            refine PW_seq ?_
            -- region 13
            refine PW_draw (by kernel_rfl) ?_
            refine P10 .none (S_move rfl rfl) ?_
            refine P10 .none (S_move rfl rfl) ?_
            refine P10 .none (by first | exact S_indexR rfl rfl rfl hxm rfl rfl | exact S_indexO rfl rfl rfl rfl rfl hxm rfl) ?_
            refine P10 .none (by first | exact S_fieldO rfl rfl rfl | exact S_fieldR rfl rfl rfl) ?_
            refine P10 .none (by first | exact S_loadOW rfl rfl rfl rfl rfl | exact S_loadRW rfl rfl rfl | exact S_loadLA rfl rfl rfl (Nat.le_of_ble_eq_true rfl) rfl | exact S_loadOA rfl rfl rfl (Nat.le_of_ble_eq_true rfl) rfl | exact S_loadRA rfl (Nat.le_of_ble_eq_true rfl) rfl | exact S_loadRW rfl (Plan.cells_len _) rfl | exact S_loadOW rfl rfl rfl (Plan.cells_len _) rfl) ?_
            refine P10 .none (S_move rfl rfl) ?_
            refine P10 .none (S_move rfl rfl) ?_
            refine P10 .none (by first | exact S_indexR rfl rfl rfl hxm rfl rfl | exact S_indexO rfl rfl rfl rfl rfl hxm rfl) ?_
            refine P10 .none (by first | exact S_fieldO rfl rfl rfl | exact S_fieldR rfl rfl rfl) ?_
            refine P10 .none (by first | exact S_loadOW rfl rfl rfl rfl rfl | exact S_loadRW rfl rfl rfl | exact S_loadLA rfl rfl rfl (Nat.le_of_ble_eq_true rfl) rfl | exact S_loadOA rfl rfl rfl (Nat.le_of_ble_eq_true rfl) rfl | exact S_loadRA rfl (Nat.le_of_ble_eq_true rfl) rfl) ?_
            refine P00 .none (S_call (.one rfl (.one rfl .nil)) rfl hsb (.inl rfl) rfl) ?_
            refine P10 .none (S_move rfl rfl) ?_
            refine P10 .none (by first | exact S_extractG rfl rfl rfl | exact S_extractC rfl rfl rfl | exact S_extractA rfl rfl rfl) ?_
            refine P10 .none (by first | exact S_extractG rfl rfl rfl | exact S_extractC rfl rfl rfl | exact S_extractA rfl rfl rfl) ?_
            refine P22 .none (S_alloc rfl) ?_
            refine P22 .none (S_alloc rfl) ?_
            refine P01 .none (by first | exact S_storeW rfl rfl rfl rfl rfl rfl | exact S_storeWe rfl rfl rfl HK rfl rfl rfl | exact S_storeP rfl rfl rfl rfl rfl (Nat.le_of_ble_eq_true rfl) | exact S_storeLW rfl rfl rfl rfl rfl rfl rfl) ?_
            refine P01 .none (by first | exact S_storeW rfl rfl rfl rfl rfl rfl | exact S_storeWe rfl rfl rfl HK rfl rfl rfl | exact S_storeP rfl rfl rfl rfl rfl (Nat.le_of_ble_eq_true rfl) | exact S_storeLW rfl rfl rfl rfl rfl rfl rfl) ?_
            refine Pend ⟨by kernel_rfl, ?_⟩
            -- region 14
            refine PW_region ?_
            refine P10 .none (S_move rfl rfl) ?_
            refine P10 .none (by first | exact S_loadOW rfl rfl rfl rfl rfl | exact S_loadRW rfl rfl rfl | exact S_loadLA rfl rfl rfl (Nat.le_of_ble_eq_true rfl) rfl | exact S_loadOA rfl rfl rfl (Nat.le_of_ble_eq_true rfl) rfl | exact S_loadRA rfl (Nat.le_of_ble_eq_true rfl) rfl) ?_
            refine P10 .none (by first | exact S_loadOW rfl rfl rfl rfl rfl | exact S_loadRW rfl rfl rfl | exact S_loadLA rfl rfl rfl (Nat.le_of_ble_eq_true rfl) rfl | exact S_loadOA rfl rfl rfl (Nat.le_of_ble_eq_true rfl) rfl | exact S_loadRA rfl (Nat.le_of_ble_eq_true rfl) rfl) ?_
            refine P22 .none (S_lit (.agg rfl rfl rfl (.agg rfl rfl rfl (.nil _))) rfl rfl rfl) ?_
            refine P22 .none (S_appW rfl rfl rfl rfl (.ownW rfl rfl rfl) (by simp [Box.cells]) rfl (by omega) (by simp; omega) rfl) ?_
            refine P10 .none (S_assign rfl rfl) ?_
            refine Pend ?_
            refine PW_mvS 11 62 42 rfl rfl rfl rfl ?_
            --region 15
            refine PW_region ?_
            refine P10 .none (S_add rfl rfl rfl (And.intro (by omega) (by omega))) ?_
            refine P10 .none (S_move rfl rfl) ?_
            refine Pend ?_
            exact ⟨i + 1, by omega, (by show i + 1 ≤ steps.length; omega), (by rw [hnx, List.map_append, List.length_append]; repeat (first | exact trivial | refine And.intro rfl ?_)), (by rw [hnx, List.map_append]; repeat (first | exact trivial | refine And.intro rfl ?_))⟩
        · -- not t46
          refine PW_exit ?_
          refine PW_seq ?_
          -- region 16
          refine PW_region ?_
          refine P10 .none (S_move rfl rfl) ?_
          refine P10 .none (S_assign rfl rfl) ?_
          refine P10 .none (S_assign rfl rfl) ?_
          refine Pend ?_
          refine PW_ret ⟨.inr rfl, ?_⟩
          have e : steps.take i = steps := List.take_of_length_le (by simp at h4; omega)
          rw [e]
          exact ret_g (.cons (.tmp rfl) (.c (Ex.whole rfl rfl rfl)) (.cons (.tmp rfl) (.c (.g _)) .nil)) rfl trivial
end Go.Proofs.Ytdmlfhmnlddooaa
namespace Go.Proofs.Ytdmlfhmnlddooaa
open Go Go.Pu

/-- The bytes of a code; what a reader holds. -/
def rows (bs : List Nat) : List (List GV) := bs.map fun b : Nat => [.int .u8 (b : Int)]
def Rd (bs : List Nat) (p : Nat) : List GV := [.sl (rows bs), .int .i64 (p : Int)]
theorem rows_len (bs : List Nat) : (rows bs).length = bs.length := by simp [rows]
theorem rows_at {bs : List Nat} {j : Nat} (h : j < bs.length) : (rows bs)[j]? = some [.int .u8 ((bs.getD j 0 : Nat) : Int)] := by
  simp [rows, List.getD_eq_getElem?_getD, h]
def pickX (bs : List Nat) (p : Nat) : Int := ((bs.getD (p % bs.length) 0 : Nat) : Int) * 131 + ((bs.getD ((p * 7 + 3) % bs.length) 0 : Nat) : Int) * 1117 + (p : Int) * 29 + (p : Int) / (bs.length : Int) * 53
def pickV (bs : List Nat) (p : Nat) (n : Int) : Int :=
  if n < 1 then 0 else if bs.length = 0 then 0 else if p < bs.length then ((bs.getD p 0 : Nat) : Int) % n
  else (((pickX bs p).toNat ^^^ (pickX bs p / 64).toNat : Nat) : Int) % n
theorem pickV_in (bs : List Nat) (p : Nat) (n : Int) : 0 ≤ pickV bs p n ∧ (1 ≤ n → pickV bs p n < n) ∧ (n < 1 → pickV bs p n = 0) := by
  unfold pickV
  split
  · exact ⟨Int.le_refl _, by omega, fun _ => rfl⟩
  · split
    · exact ⟨Int.le_refl _, by omega, by omega⟩
    · split
      · exact ⟨Int.emod_nonneg _ (by omega), fun _ => Int.emod_lt_of_pos _ (by omega), by omega⟩
      · exact ⟨Int.emod_nonneg _ (by omega), fun _ => Int.emod_lt_of_pos _ (by omega), by omega⟩
theorem getD_le {bs : List Nat} (h : ∀ b ∈ bs, b < 256) (j : Nat) : bs.getD j 0 < 256 := by
  rw [List.getD_eq_getElem?_getD]
  cases hx : bs[j]? with
  | none => simp
  | some b => exact h b (List.mem_of_getElem? hx)
theorem pickX_in {bs : List Nat} {p : Nat} (h : ∀ b ∈ bs, b < 256) (hp : p ≤ 1000000) : 0 ≤ pickX bs p ∧ pickX bs p ≤ 100000000 := by
  have h1 := getD_le h (p % bs.length)
  have h2 := getD_le h ((p * 7 + 3) % bs.length)
  have h3 : 0 ≤ (p : Int) / (bs.length : Int) := Int.ediv_nonneg (by omega) (by omega)
  have h4 : (p : Int) / (bs.length : Int) ≤ p := Int.ediv_le_self _ (by omega)
  unfold pickX
  omega

/- spec.newReader: 22 -> [85] -/
set_option maxRecDepth 100000 in
theorem ctr_s_newReader (bs : List Nat) (hb : ∀ b ∈ bs, b < 256) (hl : bs.length ≤ 10000000) : CtrG P 65 11 [.c (.g (.sl (rows bs)))] [] (.c (.optr 10 0 0)) [(10, ⟨150, 0, .gnd [Rd (bs.take 2000) 0]⟩)] := by
  have hrl := rows_len bs
  refine ctr_ofG (fn := Go.Proofs.Try.f65) (by kernel_rfl) rfl rfl rfl ?_
  rintro ⟨n, w0, F0, M, pin⟩ hn
  cases hn
  refine PW_seq ?_
  -- region 0
  refine PW_region ?_
  refine P10 .none (S_assignJ rfl) ?_
  refine Pend ?_
  refine PW_seq ?_
  refine PW_seq ?_
  -- region 1
  refine PW_region ?_
  refine P10 .none (S_move rfl rfl) ?_
  refine P10 .none (by first | exact S_lenR rfl rfl | exact S_lenO rfl rfl | exact S_lenN rfl rfl | exact S_lenS rfl rfl) ?_
  refine P10 .none (S_gtr rfl rfl rfl) ?_
  refine Pend ?_
  refine PW_cond rfl (fun h1 => ?_) (fun h1 => ?_)
  · -- t5
    -- region 2
    refine PW_region ?_
    refine P10 .none (S_move rfl rfl) ?_
    refine P10 .none (S_sliceR rfl (.dfl 0) (.giv (k := 2000) _ rfl rfl) (by omega) (by have := of_decide_eq_true h1; omega) (by simp [rows]) rfl) ?_
    refine P10 .none (S_assign rfl rfl) ?_
    refine Pend ?_
    refine PW_seq ?_
    -- region 3
    refine PW_region ?_
    refine P10 .none (S_move rfl rfl) ?_
    refine P10 .none (S_build (gs := [_, _]) (.one rfl rfl rfl rfl (.nil _)) rfl rfl) ?_
    refine P22 .none (by first | exact S_boxA rfl rfl rfl rfl | exact S_boxL rfl rfl rfl rfl rfl) ?_
    refine P10 .none (S_assign rfl rfl) ?_
    refine Pend ?_
    refine PW_ret ⟨.inr rfl, ?_⟩
    exact ret_G (.cons (by first | exact .frz (.tmp rfl) .nil | exact .raw (.tmp rfl) rfl | exact .frz (.tmp rfl) (ExZ.whole rfl rfl rfl) | exact .raw (.gnd rfl rfl rfl) rfl | exact .raw (.gnd rfl rfl (Plan.cells_len _)) rfl) .nil) (by rfl) (by
    have e : rows (bs.take 2000) = ((rows bs).drop 0).take (2000 - 0) := by simp [rows]
    unfold Rd; rw [e]; exact ⟨rfl, trivial⟩) rfl rfl
  · -- not t5
    refine PW_skip ?_
    refine PW_seq ?_
    -- region 3
    refine PW_region ?_
    refine P10 .none (S_move rfl rfl) ?_
    refine P10 .none (S_build (gs := [_, _]) (.one rfl rfl rfl rfl (.nil _)) rfl rfl) ?_
    refine P22 .none (by first | exact S_boxA rfl rfl rfl rfl | exact S_boxL rfl rfl rfl rfl rfl) ?_
    refine P10 .none (S_assign rfl rfl) ?_
    refine Pend ?_
    refine PW_ret ⟨.inr rfl, ?_⟩
    exact ret_G (.cons (by first | exact .frz (.tmp rfl) .nil | exact .raw (.tmp rfl) rfl | exact .frz (.tmp rfl) (ExZ.whole rfl rfl rfl) | exact .raw (.gnd rfl rfl rfl) rfl | exact .raw (.gnd rfl rfl (Plan.cells_len _)) rfl) .nil) (by rfl) (by
    have e : bs.take 2000 = bs := List.take_of_length_le (by have := of_decide_eq_false h1; omega)
    unfold Rd; rw [e]; exact ⟨rfl, trivial⟩) rfl rfl
/- (*spec.reader).pick: 85, 3 -> [3] -/
set_option maxRecDepth 100000 in
theorem ctr_pick (bs : List Nat) (hb : ∀ b ∈ bs, b < 256) (p : Nat) (hp : p ≤ 1000000) (n : Int) : CtrG P 68 99 [.c (.optr 99 0 0), .c (.g (.int .i64 n))] [(99, ⟨150, 0, .gnd [Rd bs p]⟩)] (.c (.g (.int .i64 (pickV bs p n)))) [(99, ⟨150, 0, .gnd [Rd bs (p + 1)]⟩)] := by
  have hrl := rows_len bs
  have hpx := pickX_in hb hp
  have hcast : ((p + 1 : Nat) : Int) = (p : Int) + 1 := by omega
  refine ctr_ofG (fn := Go.Proofs.Try.f68) (by kernel_rfl) rfl rfl rfl ?_
  rintro ⟨n, w0, F0, M, pin⟩ hn
  cases hn
  refine PW_seq ?_
  -- region 0
  refine PW_region ?_
  refine P10 .none (S_assign rfl rfl) ?_
  refine Pend ?_
  refine PW_seq ?_
  -- region 1
  refine PW_region ?_
  refine P10 .none (S_move rfl rfl) ?_
  refine P10 .none (S_move rfl rfl) ?_
  refine P10 .none (by first | exact S_nilO rfl rfl | exact S_nilR rfl rfl) ?_
  refine P10 .none (by first | exact S_fieldO rfl rfl rfl | exact S_fieldR rfl rfl rfl) ?_
  refine P10 .none (by first | exact S_loadO1 rfl rfl rfl rfl rfl | exact S_loadR1 rfl rfl rfl | exact S_loadL1 rfl rfl rfl rfl rfl) ?_
  refine P10 .none (S_add rfl rfl rfl (And.intro (by omega) (by omega))) ?_
  refine P10 .none (by first | exact S_nilO rfl rfl | exact S_nilR rfl rfl) ?_
  refine P10 .none (by first | exact S_fieldO rfl rfl rfl | exact S_fieldR rfl rfl rfl) ?_
  refine P01 .none (by first | exact S_store1 rfl rfl rfl rfl rfl | exact S_storeL rfl rfl rfl rfl rfl | exact S_storeH rfl rfl rfl rfl | exact S_store1e rfl rfl rfl HK rfl (Nat.le_of_ble_eq_true rfl)) ?_
  refine Pend ?_
  refine PW_seq ?_
  refine PW_seq ?_
  -- region 2
  refine PW_region ?_
  refine P10 .none (S_move rfl rfl) ?_
  refine P10 .none (S_lss rfl rfl rfl) ?_
  refine P10 .none (S_move rfl rfl) ?_
  refine Psplit 17 rfl (fun h1 => ?_) (fun h1 => ?_)
  · -- t17 = true
    refine Pskip rfl rfl h1 rfl ?_
    refine Pskip rfl rfl h1 rfl ?_
    refine Pskip rfl rfl h1 rfl ?_
    refine Pskip rfl rfl h1 rfl ?_
    refine Pskip rfl rfl h1 rfl ?_
    refine Pskip rfl rfl h1 rfl ?_
    refine P10 .none (S_pickT rfl h1 rfl rfl) ?_
    refine Pend ?_
    refine PW_condT rfl rfl ?_
    refine PW_seq ?_
    -- region 3
    refine PW_region ?_
    refine P10 .none (S_assign rfl rfl) ?_
    refine Pend ?_
    refine PW_ret ⟨.inr rfl, ?_⟩
    exact ret_G (.cons (by first | exact .frz (.tmp rfl) .nil | exact .raw (.tmp rfl) rfl | exact .frz (.tmp rfl) (ExZ.whole rfl rfl rfl) | exact .raw (.gnd rfl rfl rfl) rfl | exact .raw (.gnd rfl rfl (Plan.cells_len _)) rfl) .nil) (by simp only [tupOf, pickV]; rw [if_pos (by simpa using h1)]) (by unfold Rd; rw [hcast]; exact ⟨rfl, trivial⟩) rfl rfl
  · -- t17 = false
    refine P10 (.yes rfl rfl h1) (S_move rfl rfl) ?_
    refine P10 (.yes rfl rfl h1) (by first | exact S_nilO rfl rfl | exact S_nilR rfl rfl) ?_
    refine P10 (.yes rfl rfl h1) (by first | exact S_fieldO rfl rfl rfl | exact S_fieldR rfl rfl rfl) ?_
    refine P10 (.yes rfl rfl h1) (by first | exact S_loadO1 rfl rfl rfl rfl rfl | exact S_loadR1 rfl rfl rfl | exact S_loadL1 rfl rfl rfl rfl rfl) ?_
    refine P10 (.yes rfl rfl h1) (by first | exact S_lenR rfl rfl | exact S_lenO rfl rfl | exact S_lenN rfl rfl | exact S_lenS rfl rfl) ?_
    refine P10 (.yes rfl rfl h1) (S_eql rfl rfl rfl) ?_
    refine P10 .none (S_pickF rfl h1 rfl rfl) ?_
    refine Pend ?_
    refine PW_cond rfl (fun h2 => ?_) (fun h2 => ?_)
    · -- t24
      refine PW_seq ?_
      -- region 3
      refine PW_region ?_
      refine P10 .none (S_assign rfl rfl) ?_
      refine Pend ?_
      refine PW_ret ⟨.inr rfl, ?_⟩
      exact ret_G (.cons (by first | exact .frz (.tmp rfl) .nil | exact .raw (.tmp rfl) rfl | exact .frz (.tmp rfl) (ExZ.whole rfl rfl rfl) | exact .raw (.gnd rfl rfl rfl) rfl | exact .raw (.gnd rfl rfl (Plan.cells_len _)) rfl) .nil) (by simp only [tupOf, pickV]; simp at h1; rw [if_neg (by omega), if_pos (by simpa [rows] using h2)]) (by unfold Rd; rw [hcast]; exact ⟨rfl, trivial⟩) rfl rfl
    · -- not t24
      refine PW_skip ?_
      refine PW_seq ?_
      have hn1 : 1 ≤ n := by simp at h1; omega
      have hbl : 0 < bs.length := by have := of_decide_eq_false h2; omega
      have e1 : (p : Int) + 1 - 1 = p := by omega
      have i1 : (p : Int) % ((rows bs).length : Int) = ((p % bs.length : Nat) : Int) := by rw [hrl]; exact (Int.natCast_emod _ _).symm
      have i2 : ((p : Int) * 7 + 3) % ((rows bs).length : Int) = (((p * 7 + 3) % bs.length : Nat) : Int) := by rw [hrl, Int.natCast_emod]; simp
      have k1 := rows_at (bs := bs) (j := p % bs.length) (Nat.mod_lt _ hbl)
      have k2 := rows_at (bs := bs) (j := (p * 7 + 3) % bs.length) (Nat.mod_lt _ hbl)
      have g1 := getD_le hb (p % bs.length)
      have g2 := getD_le hb ((p * 7 + 3) % bs.length)
      have g0 := getD_le hb p
      have q1 : 0 ≤ (p : Int) / ((rows bs).length : Int) := Int.ediv_nonneg (by omega) (by omega)
      have q2 : (p : Int) / ((rows bs).length : Int) ≤ p := Int.ediv_le_self _ (by omega)
      have hpx' := hpx
      have ex : pickX bs p = ((bs.getD (p % bs.length) 0 : Nat) : Int) * 131 + ((bs.getD ((p * 7 + 3) % bs.length) 0 : Nat) : Int) * 1117 + (p : Int) * 29 + (p : Int) / ((rows bs).length : Int) * 53 := by rw [hrl]; rfl
      rw [ex] at hpx'
      generalize (bs.getD (p % bs.length) 0) = c1 at *
      generalize (bs.getD ((p * 7 + 3) % bs.length) 0) = c2 at *
      --region 4
      refine PW_region ?_
      refine P10 .none (S_move rfl rfl) ?_
      refine P10 .none (by first | exact S_nilO rfl rfl | exact S_nilR rfl rfl) ?_
      refine P10 .none (by first | exact S_fieldO rfl rfl rfl | exact S_fieldR rfl rfl rfl) ?_
      refine P10 .none (by first | exact S_loadO1 rfl rfl rfl rfl rfl | exact S_loadR1 rfl rfl rfl | exact S_loadL1 rfl rfl rfl rfl rfl) ?_
      refine P10 .none (S_sub rfl rfl rfl (And.intro (by omega) (by omega))) ?_
      refine P10 .none (S_assign rfl rfl) ?_
      refine Pend ?_
      refine PW_seq ?_
      refine PW_seq ?_
      rw [e1]
      --region 5
      refine PW_region ?_
      refine P10 .none (S_move rfl rfl) ?_
      refine P10 .none (S_move rfl rfl) ?_
      refine P10 .none (by first | exact S_nilO rfl rfl | exact S_nilR rfl rfl) ?_
      refine P10 .none (by first | exact S_fieldO rfl rfl rfl | exact S_fieldR rfl rfl rfl) ?_
      refine P10 .none (by first | exact S_loadO1 rfl rfl rfl rfl rfl | exact S_loadR1 rfl rfl rfl | exact S_loadL1 rfl rfl rfl rfl rfl) ?_
      refine P10 .none (by first | exact S_lenR rfl rfl | exact S_lenO rfl rfl | exact S_lenN rfl rfl | exact S_lenS rfl rfl) ?_
      refine P10 .none (S_lss rfl rfl rfl) ?_
      refine Pend ?_
      refine PW_cond rfl (fun h3 => ?_) (fun h3 => ?_)
      · -- t36
        refine PW_seq ?_
        -- region 6
        refine PW_region ?_
        refine P10 .none (S_move rfl rfl) ?_
        refine P10 .none (by first | exact S_nilO rfl rfl | exact S_nilR rfl rfl) ?_
        refine P10 .none (by first | exact S_fieldO rfl rfl rfl | exact S_fieldR rfl rfl rfl) ?_
        refine P10 .none (by first | exact S_loadO1 rfl rfl rfl rfl rfl | exact S_loadR1 rfl rfl rfl | exact S_loadL1 rfl rfl rfl rfl rfl) ?_
        refine P10 .none (S_move rfl rfl) ?_
        refine P10 .none (by first | exact S_indexR rfl rfl rfl (rows_at (by have := of_decide_eq_true h3; omega)) rfl rfl | exact S_indexO rfl rfl rfl rfl rfl (rows_at (by have := of_decide_eq_true h3; omega)) rfl) ?_
        refine P10 .none (by first | exact S_loadO1 rfl rfl rfl rfl rfl | exact S_loadR1 rfl rfl rfl | exact S_loadL1 rfl rfl rfl rfl rfl) ?_
        refine P10 .none (S_conv rfl (And.intro (by omega) (by omega)) rfl) ?_
        refine P10 .none (S_move rfl rfl) ?_
        refine P10 .none (S_rem rfl rfl rfl (by omega) (by omega)) ?_
        refine P10 .none (S_assign rfl rfl) ?_
        refine Pend ?_
        refine PW_ret ⟨.inr rfl, ?_⟩
        exact ret_G (.cons (by first | exact .frz (.tmp rfl) .nil | exact .raw (.tmp rfl) rfl | exact .frz (.tmp rfl) (ExZ.whole rfl rfl rfl) | exact .raw (.gnd rfl rfl rfl) rfl | exact .raw (.gnd rfl rfl (Plan.cells_len _)) rfl) .nil) (by have h4 := of_decide_eq_true h3; simp only [tupOf, pickV]; rw [if_neg (by omega), if_neg (by omega), if_pos (by omega)]) (by unfold Rd; rw [hcast]; exact ⟨rfl, trivial⟩) rfl rfl
      · -- not t36
        refine PW_skip ?_
        refine PW_seq ?_
        -- region 7
        refine PW_draw (by kernel_rfl) ?_
        refine P10 .none (S_move rfl rfl) ?_
        refine P10 .none (by first | exact S_nilO rfl rfl | exact S_nilR rfl rfl) ?_
        refine P10 .none (by first | exact S_fieldO rfl rfl rfl | exact S_fieldR rfl rfl rfl) ?_
        refine P10 .none (by first | exact S_loadO1 rfl rfl rfl rfl rfl | exact S_loadR1 rfl rfl rfl | exact S_loadL1 rfl rfl rfl rfl rfl) ?_
        refine P10 .none (S_move rfl rfl) ?_
        refine P10 .none (S_move rfl rfl) ?_
        refine P10 .none (by first | exact S_nilO rfl rfl | exact S_nilR rfl rfl) ?_
        refine P10 .none (by first | exact S_fieldO rfl rfl rfl | exact S_fieldR rfl rfl rfl) ?_
        refine P10 .none (by first | exact S_loadO1 rfl rfl rfl rfl rfl | exact S_loadR1 rfl rfl rfl | exact S_loadL1 rfl rfl rfl rfl rfl) ?_
        refine P10 .none (by first | exact S_lenR rfl rfl | exact S_lenO rfl rfl | exact S_lenN rfl rfl | exact S_lenS rfl rfl) ?_
        refine P10 .none (S_rem rfl rfl rfl (by omega) (by omega)) ?_
        refine P10 .none (by first | exact S_indexR rfl rfl i1 k1 rfl rfl | exact S_indexO rfl rfl rfl rfl i1 k1 rfl) ?_
        refine P10 .none (by first | exact S_loadO1 rfl rfl rfl rfl rfl | exact S_loadR1 rfl rfl rfl | exact S_loadL1 rfl rfl rfl rfl rfl) ?_
        refine P10 .none (S_conv rfl (And.intro (by omega) (by omega)) rfl) ?_
        refine P10 .none (S_mul rfl rfl rfl (And.intro (by omega) (by omega))) ?_
        refine P10 .none (S_move rfl rfl) ?_
        refine P10 .none (by first | exact S_nilO rfl rfl | exact S_nilR rfl rfl) ?_
        refine P10 .none (by first | exact S_fieldO rfl rfl rfl | exact S_fieldR rfl rfl rfl) ?_
        refine P10 .none (by first | exact S_loadO1 rfl rfl rfl rfl rfl | exact S_loadR1 rfl rfl rfl | exact S_loadL1 rfl rfl rfl rfl rfl) ?_
        refine P10 .none (S_move rfl rfl) ?_
        refine P10 .none (S_mul rfl rfl rfl (And.intro (by omega) (by omega))) ?_
        refine P10 .none (S_add rfl rfl rfl (And.intro (by omega) (by omega))) ?_
        refine P10 .none (S_move rfl rfl) ?_
        refine P10 .none (by first | exact S_nilO rfl rfl | exact S_nilR rfl rfl) ?_
        refine P10 .none (by first | exact S_fieldO rfl rfl rfl | exact S_fieldR rfl rfl rfl) ?_
        refine P10 .none (by first | exact S_loadO1 rfl rfl rfl rfl rfl | exact S_loadR1 rfl rfl rfl | exact S_loadL1 rfl rfl rfl rfl rfl) ?_
        refine P10 .none (by first | exact S_lenR rfl rfl | exact S_lenO rfl rfl | exact S_lenN rfl rfl | exact S_lenS rfl rfl) ?_
        refine P10 .none (S_rem rfl rfl rfl (by omega) (by omega)) ?_
        refine P10 .none (by first | exact S_indexR rfl rfl i2 k2 rfl rfl | exact S_indexO rfl rfl rfl rfl i2 k2 rfl) ?_
        refine P10 .none (by first | exact S_loadO1 rfl rfl rfl rfl rfl | exact S_loadR1 rfl rfl rfl | exact S_loadL1 rfl rfl rfl rfl rfl) ?_
        refine P10 .none (S_conv rfl (And.intro (by omega) (by omega)) rfl) ?_
        refine P10 .none (S_mul rfl rfl rfl (And.intro (by omega) (by omega))) ?_
        refine P10 .none (S_add rfl rfl rfl (And.intro (by omega) (by omega))) ?_
        refine P10 .none (S_move rfl rfl) ?_
        refine P10 .none (S_mul rfl rfl rfl (And.intro (by omega) (by omega))) ?_
        refine P10 .none (S_add rfl rfl rfl (And.intro (by omega) (by omega))) ?_
        refine P10 .none (S_move rfl rfl) ?_
        refine P10 .none (S_move rfl rfl) ?_
        refine P10 .none (by first | exact S_nilO rfl rfl | exact S_nilR rfl rfl) ?_
        refine P10 .none (by first | exact S_fieldO rfl rfl rfl | exact S_fieldR rfl rfl rfl) ?_
        refine P10 .none (by first | exact S_loadO1 rfl rfl rfl rfl rfl | exact S_loadR1 rfl rfl rfl | exact S_loadL1 rfl rfl rfl rfl rfl) ?_
        refine P10 .none (by first | exact S_lenR rfl rfl | exact S_lenO rfl rfl | exact S_lenN rfl rfl | exact S_lenS rfl rfl) ?_
        refine P10 .none (S_quo rfl rfl rfl (by omega) (And.intro (by omega) (by omega))) ?_
        refine P10 .none (S_mul rfl rfl rfl (And.intro (by omega) (by omega))) ?_
        refine P10 .none (S_add rfl rfl rfl (And.intro (by omega) (by omega))) ?_
        refine P10 .none (S_assign rfl rfl) ?_
        refine Pend ⟨by kernel_rfl, ?_⟩
        refine PW_seq ?_
        -- region 8
        refine PW_region ?_
        refine P10 .none (S_move rfl rfl) ?_
        refine P10 .none (S_move rfl rfl) ?_
        refine P10 .none (S_quo rfl rfl rfl (by omega) (And.intro (by omega) (by omega))) ?_
        refine P10 .none (S_xor rfl rfl rfl (And.intro (by omega) (by omega)) (And.intro (by omega) (by omega))) ?_
        refine P10 .none (S_assign rfl rfl) ?_
        refine Pend ?_
        refine PW_seq ?_
        -- region 9
        refine PW_region ?_
        refine P10 .none (S_move rfl rfl) ?_
        refine P10 .none (S_move rfl rfl) ?_
        refine P10 .none (S_rem rfl rfl rfl (by omega) (by omega)) ?_
        refine P10 .none (S_assign rfl rfl) ?_
        refine Pend ?_
        refine PW_ret ⟨.inr rfl, ?_⟩
        exact ret_G (.cons (by first | exact .frz (.tmp rfl) .nil | exact .raw (.tmp rfl) rfl | exact .frz (.tmp rfl) (ExZ.whole rfl rfl rfl) | exact .raw (.gnd rfl rfl rfl) rfl | exact .raw (.gnd rfl rfl (Plan.cells_len _)) rfl) .nil) (by have h4 := of_decide_eq_false h3; simp only [tupOf, pickV]; rw [if_neg (by omega), if_neg (by omega), if_neg (by omega), ex]) (by unfold Rd; rw [hcast]; exact ⟨rfl, trivial⟩) rfl rfl
end Go.Proofs.Ytdmlfhmnlddooaa
