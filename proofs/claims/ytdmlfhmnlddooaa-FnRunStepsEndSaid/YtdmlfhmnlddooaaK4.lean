/- The pure layer and the contracts of the functions, part 5: what the functions of the program leave, as values. -/
import Derived.Test.YtdmlfhmnlddooaaK3
set_option linter.unusedSimpArgs false
set_option linter.unusedVariables false
namespace Go.Proofs.Ytdmlfhmnlddooaa
open Go Go.Pu

theorem boxAt_some {bs : List Box} {b : Box} (h : b ∈ bs) : ∃ j : Nat, boxAt bs b = j ∧ bs[j]? = some b := by
  unfold boxAt
  cases hx : bs.findIdx? (fun y => decide (b = y)) with
  | none =>
    rw [List.findIdx?_eq_none_iff] at hx
    have := hx b h
    simp at this
  | some j =>
    refine ⟨j, rfl, ?_⟩
    rw [List.findIdx?_eq_some_iff_getElem] at hx
    obtain ⟨h1, h2, _⟩ := hx
    simp only [decide_eq_true_eq] at h2
    rw [List.getElem?_eq_getElem h1, ← h2]
theorem del_one {bs : List Box} {b : Box} (hn : bs.Nodup) {j : Nat} (h : bs[j]? = some b) : bs.take j ++ bs.drop (j + 1) = bs.filter (fun y => !decide (y = b)) := by
  obtain ⟨hlt, he⟩ := List.getElem?_eq_some_iff.1 h
  have e : bs = bs.take j ++ b :: bs.drop (j + 1) := by rw [← he]; simp
  have hn' := hn
  rw [e] at hn'
  have := filter_one hn'
  rw [← e] at this
  exact this.symm
theorem stepB_at {ps : List (T × Box)} {tb : List Box} {n : Int} {d : Bool} {a : Int} {p q : T} {b : Box} (h : ps[n.toNat]? = some (.cut d a p q, b)) : stepB ps tb n = tb.filter (fun y => !decide (y = b)) ++ [(splitB d a b).1, (splitB d a b).2] := by
  simp only [stepB, h]
theorem runT_len {k : Work} {t : T} : ∀ (steps : List Int), (runT k t steps).length ≤ 1 + 2 * steps.length := by
  have key : ∀ (ps : List (T × Box)) (steps : List Int) (tb : List Box), (steps.foldl (stepB ps) tb).length ≤ tb.length + 2 * steps.length := by
    intro ps steps
    induction steps with
    | nil => intro tb; simp
    | cons n l ih =>
      intro tb
      have h1 := ih (stepB ps tb n)
      have h2 : (stepB ps tb n).length ≤ tb.length + 2 := by
        unfold stepB
        split
        · rename_i d a p q b _
          have := List.length_filter_le (fun y => !decide (y = b)) tb
          simp; omega
        · omega
      simp only [List.foldl_cons, List.length_cons]
      omega
  intro steps
  have := key (t.parts (sheet k)) steps [sheet k]
  simpa [runT] using this
theorem begins_short {t : T} {steps : List Int} (h : t.size ≤ 255) (hb : begins t.cuts steps = true) : steps.length ≤ 255 := by
  obtain ⟨h1, h2⟩ := begins_nodup hb
  have := (sub_all h1 h2).1
  rw [List.length_map] at this
  exact Nat.le_trans this (T.cuts_ok h).1

/- impl.RunSteps: 25, 34, 26 -> [38, 4] -/
set_option maxRecDepth 100000 in
theorem ctr_i_RunSteps (k : Work) (t : T) (hv : VP k t) (steps : List Int) (hb : begins t.cuts steps = true) : Ctr P 16 [.g (.agg k.cells), .g (.agg t.plan.cells), .g (.sl (steps.map encI))] (.g (.tup [.sl ((runT k t steps).map Box.cells), .bool true])) := by
  have hs := begins_short hv.2.1 hb
  have hpart := ctr_i_partsOf k t hv
  have hkn := ctr_i_knotsOf t hv.2.1
  have hbo := ctr_i_beginsOrder t.cuts steps (T.cuts_ok hv.2.1) (by omega)
  rw [hb] at hbo
  have hp0 := parts_zero t (sheet k)
  have hplen := T.parts_sheet hv
  generalize hps : t.parts (sheet k) = parts at hpart hp0 hplen
  generalize ht : t.plan = pl at hpart hkn
  obtain ⟨op, a0, pane, turned, kids⟩ := pl
  have hxp := parts_at hp0 ht
  refine ctr_of (fn := Go.Proofs.Try.f16) (by kernel_rfl) rfl rfl ?_
  rintro ⟨n, w0, F0, M, pin⟩ hn
  cases hn
  refine PW_seq ?_
  -- region 0
  refine PW_region ?_
  refine P22 .none (by first | exact S_boxA rfl rfl rfl rfl | exact S_boxL rfl rfl rfl rfl rfl) ?_
  refine P22 .none (by first | exact S_boxA rfl rfl rfl rfl | exact S_boxL rfl rfl rfl rfl rfl | exact S_boxA rfl (Plan.cells_len _) (Plan.cells_one _) rfl) ?_
  refine P10 .none (S_assign rfl rfl) ?_
  refine P10 .none (S_assign rfl rfl) ?_
  refine Pend ?_
  refine PW_seq ?_
  -- region 1
  refine PW_region ?_
  refine P10 .none (by first | exact S_loadOW rfl rfl rfl rfl rfl | exact S_loadRW rfl rfl rfl | exact S_loadLA rfl rfl rfl (Nat.le_of_ble_eq_true rfl) rfl | exact S_loadOA rfl rfl rfl (Nat.le_of_ble_eq_true rfl) rfl | exact S_loadRA rfl (Nat.le_of_ble_eq_true rfl) rfl) ?_
  refine P10 .none (by first | exact S_loadOW rfl rfl rfl rfl rfl | exact S_loadRW rfl rfl rfl | exact S_loadLA rfl rfl rfl (Nat.le_of_ble_eq_true rfl) rfl | exact S_loadOA rfl rfl rfl (Nat.le_of_ble_eq_true rfl) rfl | exact S_loadRA rfl (Nat.le_of_ble_eq_true rfl) rfl | exact S_loadRW rfl (Plan.cells_len _) rfl | exact S_loadOW rfl rfl rfl (Plan.cells_len _) rfl) ?_
  refine P00 .none (S_call (.one rfl (.one rfl .nil)) rfl hpart (.inl rfl) rfl) ?_
  refine P10 .none (S_assign rfl rfl) ?_
  refine Pend ?_
  refine PW_seq ?_
  -- region 2
  refine PW_region ?_
  refine P10 .none (by first | exact S_loadOW rfl rfl rfl rfl rfl | exact S_loadRW rfl rfl rfl | exact S_loadLA rfl rfl rfl (Nat.le_of_ble_eq_true rfl) rfl | exact S_loadOA rfl rfl rfl (Nat.le_of_ble_eq_true rfl) rfl | exact S_loadRA rfl (Nat.le_of_ble_eq_true rfl) rfl | exact S_loadRW rfl (Plan.cells_len _) rfl | exact S_loadOW rfl rfl rfl (Plan.cells_len _) rfl) ?_
  refine P00 .none (S_call (.one rfl .nil) rfl hkn (.inl rfl) rfl) ?_
  refine P10 .none (S_move rfl rfl) ?_
  refine P10 .none (by first | exact S_extractG rfl rfl rfl | exact S_extractC rfl rfl rfl | exact S_extractA rfl rfl rfl) ?_
  refine P10 .none (by first | exact S_extractG rfl rfl rfl | exact S_extractC rfl rfl rfl | exact S_extractA rfl rfl rfl) ?_
  refine P10 .none (S_assign rfl rfl) ?_
  refine P10 .none (S_assign rfl rfl) ?_
  refine Pend ?_
  refine PW_seq ?_
  refine PW_seq ?_
  -- region 3
  refine PW_region ?_
  refine P10 .none (S_move rfl rfl) ?_
  refine P10 .none (by first | exact S_lenR rfl rfl | exact S_lenO rfl rfl | exact S_lenN rfl rfl | exact S_lenS rfl rfl) ?_
  refine P10 .none (S_eql rfl rfl rfl) ?_
  refine P10 .none (S_move rfl rfl) ?_
  refine Psplit 28 rfl (fun h1 => ?_) (fun h1 => ?_)
  · -- t28 = true
    refine Pskip rfl rfl h1 rfl ?_
    refine Pskip rfl rfl h1 rfl ?_
    refine P10 .none (S_pickT rfl h1 rfl rfl) ?_
    refine P10 .none (S_move rfl rfl) ?_
    refine Pskip rfl rfl rfl rfl ?_
    refine Pskip rfl rfl rfl rfl ?_
    refine Pskip rfl rfl rfl rfl ?_
    refine Pskip rfl rfl rfl rfl ?_
    refine P10 .none (S_pickT rfl rfl rfl rfl) ?_
    refine Pend ?_
    refine PW_condT rfl rfl ?_
    refine PW_seq ?_
    -- region 4
    refine PW_region ?_
    refine P10 .none (S_assign rfl rfl) ?_
    refine P10 .none (S_assign rfl rfl) ?_
    refine Pend ?_
    refine PW_ret ⟨.inr rfl, ?_⟩
    exfalso; have h9 := of_decide_eq_true h1; have h8 := (List.getElem?_eq_some_iff.1 hp0).1; rw [List.length_map] at h9; omega
  · -- t28 = false
    refine P10 (.yes rfl rfl h1) (S_move rfl rfl) ?_
    refine P10 (.yes rfl rfl h1) (S_not rfl rfl) ?_
    refine P10 .none (S_pickF rfl h1 rfl rfl) ?_
    refine P10 .none (S_move rfl rfl) ?_
    refine Psplit 32 rfl (fun h2 => ?_) (fun h2 => ?_)
    · -- t32 = true
      refine Pskip rfl rfl h2 rfl ?_
      refine Pskip rfl rfl h2 rfl ?_
      refine Pskip rfl rfl h2 rfl ?_
      refine Pskip rfl rfl h2 rfl ?_
      refine P10 .none (S_pickT rfl h2 rfl rfl) ?_
      refine Pend ?_
      refine PW_condT rfl rfl ?_
      refine PW_seq ?_
      -- region 4
      refine PW_region ?_
      refine P10 .none (S_assign rfl rfl) ?_
      refine P10 .none (S_assign rfl rfl) ?_
      refine Pend ?_
      refine PW_ret ⟨.inr rfl, ?_⟩
      cases h2
    · -- t32 = false
      refine P10 (.yes rfl rfl h2) (S_move rfl rfl) ?_
      refine P10 (.yes rfl rfl h2) (S_move rfl rfl) ?_
      refine P00 (.yes rfl rfl h2) (S_call (.one rfl (.one rfl .nil)) rfl hbo (.inl rfl) rfl) ?_
      refine P10 (.yes rfl rfl h2) (S_not rfl rfl) ?_
      refine P10 .none (S_pickF rfl h2 rfl rfl) ?_
      refine Pend ?_
      refine PW_cond rfl (fun h3 => ?_) (fun h3 => ?_)
      · -- t37
        refine PW_seq ?_
        -- region 4
        refine PW_region ?_
        refine P10 .none (S_assign rfl rfl) ?_
        refine P10 .none (S_assign rfl rfl) ?_
        refine Pend ?_
        refine PW_ret ⟨.inr rfl, ?_⟩
        cases h3
      · -- not t37
        refine PW_skip ?_
        refine PW_seq ?_
        -- region 5
        refine PW_region ?_
        refine P10 .none (S_move rfl rfl) ?_
        refine P10 .none (by exact S_indexR rfl rfl (k := 0) rfl hxp rfl rfl) ?_
        refine P10 .none (by first | exact S_fieldO rfl rfl rfl | exact S_fieldR rfl rfl rfl) ?_
        refine P10 .none (by first | exact S_loadOW rfl rfl rfl rfl rfl | exact S_loadRW rfl rfl rfl | exact S_loadLA rfl rfl rfl (Nat.le_of_ble_eq_true rfl) rfl | exact S_loadOA rfl rfl rfl (Nat.le_of_ble_eq_true rfl) rfl | exact S_loadRA rfl (Nat.le_of_ble_eq_true rfl) rfl) ?_
        refine P22 .none (S_lit (.agg rfl rfl rfl (.nil _)) rfl rfl rfl) ?_
        refine P10 .none (S_assign rfl rfl) ?_
        refine Pend ?_
        refine PW_seq ?_
        refine PW_seq ?_
        -- region 6
        refine PW_region ?_
        refine P10 .none (S_move rfl rfl) ?_
        refine P10 .none (by first | exact S_lenR rfl rfl | exact S_lenO rfl rfl | exact S_lenN rfl rfl | exact S_lenS rfl rfl) ?_
        refine P10 .none (S_move rfl rfl) ?_
        refine Pend ?_
        refine PW_block ?_
        refine PW_iter (ι := Nat) (fun i => [(8, .c (.g (.sl (parts.map encPart)))), (11, .c (.osl 42 0 ((runT k t (steps.take i)).map Box.cells).length)), (43, .c (.g (.sl (steps.map encI)))), (44, .c (.g (.int .i64 (steps.map encI).length))), (45, .c (.g (.int .i64 (i : Nat))))]) (fun i => [(42, ⟨102, 0, .gnd ((runT k t (steps.take i)).map Box.cells)⟩)]) (fun i => i ≤ steps.length) (fun i => steps.length - i) 0 (Nat.zero_le _) (by repeat (first | exact trivial | refine And.intro rfl ?_)) (by repeat (first | exact trivial | refine And.intro rfl ?_)) (fun i hi => ?_)
        refine PW_seq ?_
        -- region 7
        refine PW_region ?_
        refine P10 .none (S_lss rfl rfl rfl) ?_
        refine Pend ?_
        refine PW_seq ?_
        refine PW_cond rfl (fun h4 => ?_) (fun h4 => ?_)
        · -- t46
          refine PW_skip ?_
          refine PW_seq ?_
          refine PW_block ?_
          refine PW_seq ?_
          obtain ⟨n, hx⟩ := at_lt h4
          have hlt := (List.getElem?_eq_some_iff.1 hx).1
          obtain ⟨d, a, p, q, b, r0, r1, r2, r3, r4, r5, r6⟩ := run_at hv hb hx
          have hnx := runT_next (k := k) (t := t) hx
          rw [hps] at r1 hnx
          rw [stepB_at r1] at hnx
          have hln := runT_len (k := k) (t := t) (steps.take i)
          rw [List.length_take] at hln
          generalize runT k t (steps.take i) = tb at *
          obtain ⟨j, hj, hjb⟩ := boxAt_some r5
          obtain ⟨f1, f2, f3, f4⟩ := T.fits_cut r3
          have hsb := ctr_splitBox_T (p := p) (q := q) r2 f1 f2
          have hjl := (List.getElem?_eq_some_iff.1 hjb).1
          obtain ⟨m, rfl⟩ : ∃ m : Nat, n = m := ⟨n.toNat, by omega⟩
          rw [Int.toNat_natCast] at r1
          have hxm : (parts.map encPart)[m]? = some ([.int .i64 (if d then 2 else 3), .int .i64 a, .int .i64 0, .bool false, .sl (Plan.cellsL [p.plan, q.plan])] ++ b.cells) := map_at r1
          have hix := ctr_indexBox tb b (by omega)
          rw [hj] at hix
          have hdel := ctr_delete (tb.map Box.cells) j (by simpa using hjl) (by simp; omega) (by simp [Box.cells])
          rw [← List.map_take, ← List.map_drop, ← List.map_append, del_one r6 hjb] at hdel
          have hfl := List.length_filter_le (fun y => !decide (y = b)) tb
          --region 8
          refine PW_region ?_
          refine P10 .none (by first | exact S_indexR rfl rfl rfl (map_at hx) rfl rfl | exact S_indexO rfl rfl rfl rfl rfl (map_at hx) rfl) ?_
          refine P10 .none (by first | exact S_loadO1 rfl rfl rfl rfl rfl | exact S_loadR1 rfl rfl rfl | exact S_loadL1 rfl rfl rfl rfl rfl) ?_
          refine P10 .none (S_assign rfl rfl) ?_
          refine Pend ?_
          refine PW_seq ?_
          -- region 9
          refine PW_region ?_
          refine P10 .none (S_move rfl rfl) ?_
          refine P10 .none (S_move rfl rfl) ?_
          refine P10 .none (S_move rfl rfl) ?_
          refine P10 .none (by first | exact S_indexR rfl rfl rfl hxm rfl rfl | exact S_indexO rfl rfl rfl rfl rfl hxm rfl) ?_
          refine P10 .none (by first | exact S_fieldO rfl rfl rfl | exact S_fieldR rfl rfl rfl) ?_
          refine P10 .none (by first | exact S_loadOW rfl rfl rfl rfl rfl | exact S_loadRW rfl rfl rfl | exact S_loadLA rfl rfl rfl (Nat.le_of_ble_eq_true rfl) rfl | exact S_loadOA rfl rfl rfl (Nat.le_of_ble_eq_true rfl) rfl | exact S_loadRA rfl (Nat.le_of_ble_eq_true rfl) rfl) ?_
          refine P00 .none (S_call (.borw rfl rfl rfl (.one rfl .nil)) rfl hix (.inr ⟨flat_int _ _, by simp [XA.Flat]⟩) rfl) ?_
          refine P10 .none (S_assign rfl rfl) ?_
          refine Pend ?_
          refine PW_seq ?_
          refine PW_seq ?_
          -- region 10
          refine PW_region ?_
          refine P10 .none (S_move rfl rfl) ?_
          refine P10 .none (S_lss rfl rfl rfl) ?_
          refine Pend ?_
          refine PW_cond rfl (fun h5 => ?_) (fun h5 => ?_)
          · -- t57
            refine PW_seq ?_
            -- region 11
            refine PW_region ?_
            refine P10 .none (S_assign rfl rfl) ?_
            refine P10 .none (S_assign rfl rfl) ?_
            refine Pend ?_
            refine PW_ret ⟨.inr rfl, ?_⟩
            exfalso; have := of_decide_eq_true h5; omega
          · -- not t57
            refine PW_skip ?_
            refine PW_seq ?_
            -- region 12
            refine PW_region ?_
            refine P10 .none (S_move rfl rfl) ?_
            refine P10 .none (S_move rfl rfl) ?_
            refine P10 .none (S_move rfl rfl) ?_
            refine P10 .none (S_add rfl rfl rfl (And.intro (by omega) (by omega))) ?_
            refine P00 .none (S_call (.mv rfl rfl rfl rfl (.one rfl (.one rfl .nil))) rfl hdel (.inl rfl) rfl) ?_
            refine P10 .none (S_assign rfl rfl) ?_
            refine Pend ?_
            refine PW_seq ?_
            -- region 13
            refine PW_draw (by kernel_rfl) ?_
            refine P10 .none (S_move rfl rfl) ?_
            refine P10 .none (S_move rfl rfl) ?_
            refine P10 .none (by first | exact S_indexR rfl rfl rfl hxm rfl rfl | exact S_indexO rfl rfl rfl rfl rfl hxm rfl) ?_
            refine P10 .none (by first | exact S_fieldO rfl rfl rfl | exact S_fieldR rfl rfl rfl) ?_
            refine P10 .none (by first | exact S_loadOW rfl rfl rfl rfl rfl | exact S_loadRW rfl rfl rfl | exact S_loadLA rfl rfl rfl (Nat.le_of_ble_eq_true rfl) rfl | exact S_loadOA rfl rfl rfl (Nat.le_of_ble_eq_true rfl) rfl | exact S_loadRA rfl (Nat.le_of_ble_eq_true rfl) rfl | exact S_loadRW rfl (Plan.cells_len _) rfl | exact S_loadOW rfl rfl rfl (Plan.cells_len _) rfl) ?_
            refine P10 .none (S_move rfl rfl) ?_
            refine P10 .none (S_move rfl rfl) ?_
            refine P10 .none (by first | exact S_indexR rfl rfl rfl hxm rfl rfl | exact S_indexO rfl rfl rfl rfl rfl hxm rfl) ?_
            refine P10 .none (by first | exact S_fieldO rfl rfl rfl | exact S_fieldR rfl rfl rfl) ?_
            refine P10 .none (by first | exact S_loadOW rfl rfl rfl rfl rfl | exact S_loadRW rfl rfl rfl | exact S_loadLA rfl rfl rfl (Nat.le_of_ble_eq_true rfl) rfl | exact S_loadOA rfl rfl rfl (Nat.le_of_ble_eq_true rfl) rfl | exact S_loadRA rfl (Nat.le_of_ble_eq_true rfl) rfl) ?_
            refine P00 .none (S_call (.one rfl (.one rfl .nil)) rfl hsb (.inl rfl) rfl) ?_
            refine P10 .none (S_move rfl rfl) ?_
            refine P10 .none (by first | exact S_extractG rfl rfl rfl | exact S_extractC rfl rfl rfl | exact S_extractA rfl rfl rfl) ?_
            refine P10 .none (by first | exact S_extractG rfl rfl rfl | exact S_extractC rfl rfl rfl | exact S_extractA rfl rfl rfl) ?_
            refine P22 .none (S_alloc rfl) ?_
            refine P22 .none (S_alloc rfl) ?_
            refine P01 .none (by first | exact S_storeW rfl rfl rfl rfl rfl rfl | exact S_storeWe rfl rfl rfl HK rfl rfl rfl | exact S_storeP rfl rfl rfl rfl rfl (Nat.le_of_ble_eq_true rfl) | exact S_storeLW rfl rfl rfl rfl rfl rfl rfl) ?_
            refine P01 .none (by first | exact S_storeW rfl rfl rfl rfl rfl rfl | exact S_storeWe rfl rfl rfl HK rfl rfl rfl | exact S_storeP rfl rfl rfl rfl rfl (Nat.le_of_ble_eq_true rfl) | exact S_storeLW rfl rfl rfl rfl rfl rfl rfl) ?_
            refine Pend ⟨by kernel_rfl, ?_⟩
            -- region 14
            refine PW_region ?_
            refine P10 .none (S_move rfl rfl) ?_
            refine P10 .none (by first | exact S_loadOW rfl rfl rfl rfl rfl | exact S_loadRW rfl rfl rfl | exact S_loadLA rfl rfl rfl (Nat.le_of_ble_eq_true rfl) rfl | exact S_loadOA rfl rfl rfl (Nat.le_of_ble_eq_true rfl) rfl | exact S_loadRA rfl (Nat.le_of_ble_eq_true rfl) rfl) ?_
            refine P10 .none (by first | exact S_loadOW rfl rfl rfl rfl rfl | exact S_loadRW rfl rfl rfl | exact S_loadLA rfl rfl rfl (Nat.le_of_ble_eq_true rfl) rfl | exact S_loadOA rfl rfl rfl (Nat.le_of_ble_eq_true rfl) rfl | exact S_loadRA rfl (Nat.le_of_ble_eq_true rfl) rfl) ?_
            refine P22 .none (S_lit (.agg rfl rfl rfl (.agg rfl rfl rfl (.nil _))) rfl rfl rfl) ?_
            refine P22 .none (S_appW rfl rfl rfl rfl (.ownW rfl rfl rfl) (by simp [Box.cells]) rfl (by omega) (by simp; omega) rfl) ?_
            refine P10 .none (S_assign rfl rfl) ?_
            refine Pend ?_
            refine PW_mvS 11 62 42 rfl rfl rfl rfl ?_
            --region 15
            refine PW_region ?_
            refine P10 .none (S_add rfl rfl rfl (And.intro (by omega) (by omega))) ?_
            refine P10 .none (S_move rfl rfl) ?_
            refine Pend ?_
            exact ⟨i + 1, by omega, (by show i + 1 ≤ steps.length; omega), (by rw [hnx, List.map_append, List.length_append]; repeat (first | exact trivial | refine And.intro rfl ?_)), (by rw [hnx, List.map_append]; repeat (first | exact trivial | refine And.intro rfl ?_))⟩
        · -- not t46
          refine PW_exit ?_
          refine PW_seq ?_
          -- region 16
          refine PW_region ?_
          refine P10 .none (S_move rfl rfl) ?_
          refine P10 .none (S_assign rfl rfl) ?_
          refine P10 .none (S_assign rfl rfl) ?_
          refine Pend ?_
          refine PW_ret ⟨.inr rfl, ?_⟩
          have e : steps.take i = steps := List.take_of_length_le (by simp at h4; omega)
          rw [e]
          exact ret_g (.cons (.tmp rfl) (.c (Ex.whole rfl rfl rfl)) (.cons (.tmp rfl) (.c (.g _)) .nil)) rfl trivial
end Go.Proofs.Ytdmlfhmnlddooaa
namespace Go.Proofs.Ytdmlfhmnlddooaa
open Go Go.Pu

def runRes (k : Work) (t : T) (steps : List Int) : GV := if begins t.cuts steps = true then .tup [.sl ((runT k t steps).map Box.cells), .bool true] else .tup [.sl [], .bool false]
theorem knots_any (p : Plan) : ∃ ks b, Ctr P 80 [.g (.agg p.cells)] (.g (.tup [.sl ks, .bool b])) := by
  rcases planSize_cases p with ⟨t, rfl, h, _⟩ | h
  · exact ⟨_, _, ctr_i_knotsOf t h⟩
  · exact ⟨_, _, ctr_i_knotsOf_no p (by omega)⟩
theorem placeIn_neg (l : List Int) (n : Int) : decide (placeIn l n < 0) = !l.contains n := by
  unfold placeIn
  cases h : l.findIdx? (fun y => decide (y = n)) with
  | none =>
    rw [List.findIdx?_eq_none_iff] at h
    have : n ∉ l := fun hn => by have := h n hn; simp at this
    simp [idxI, this]
  | some j =>
    rw [List.findIdx?_eq_some_iff_getElem] at h
    obtain ⟨h1, h2, _⟩ := h
    simp only [decide_eq_true_eq] at h2
    have : n ∈ l := h2 ▸ List.getElem_mem h1
    rw [List.contains_iff_mem.2 this, decide_eq_false]
    · rfl
    · show ¬ ((j : Int) < 0); omega
theorem placeIn_geq (l : List Int) (n : Int) : decide (0 ≤ placeIn l n) = l.contains n := by
  have := placeIn_neg l n
  cases h : l.contains n <;> rw [h] at this <;> simp at this ⊢ <;> omega
theorem step_none {t : T} {done : List Int} {n : Int} (h : decide (placeIn (t.nodes 0) n < 0) = true) : stepOk t.cuts done n = false := by
  rw [placeIn_neg, ← T.knots_fst t 0 (-1)] at h
  unfold stepOk
  have : t.cuts.find? (fun k => decide (k.1 = n)) = none := by
    rw [List.find?_eq_none]
    intro k hk he
    simp only [decide_eq_true_eq] at he
    have : n ∈ (t.knots 0 (-1)).map (·.1) := he ▸ List.mem_map_of_mem hk
    rw [List.contains_iff_mem.2 this] at h
    cases h
  rw [this]
theorem step_some {t : T} {n : Int} (h : decide (placeIn (t.nodes 0) n < 0) = false) : ∃ (j : Nat) (pa : Int), placeIn (t.nodes 0) n = j ∧ (t.abv 0 (-1))[j]? = some pa ∧ -1 ≤ pa ∧ ∀ done, stepOk t.cuts done n = (!done.contains n && (decide (pa < 0) || done.contains pa)) := by
  unfold placeIn at h ⊢
  cases hx : (t.nodes 0).findIdx? (fun y => decide (y = n)) with
  | none => rw [hx] at h; simp [idxI] at h
  | some j =>
    rw [← T.knots_fst t 0 (-1), List.findIdx?_map] at hx
    obtain ⟨h1, h2, h3⟩ := List.findIdx?_eq_some_iff_getElem.1 hx
    simp only [Function.comp, decide_eq_true_eq] at h2
    refine ⟨j, ((t.knots 0 (-1))[j]).2, rfl, ?_, ?_, ?_⟩
    · rw [← T.knots_snd t 0 (-1), List.getElem?_map, List.getElem?_eq_getElem h1]; rfl
    · exact (t.knots_ok 0 (-1) (by omega) (by omega) (by omega) _ (List.getElem_mem h1)).2.2.1
    · intro done
      have : t.cuts.find? (fun k => decide (k.1 = n)) = some ((t.knots 0 (-1))[j]) := by
        unfold T.cuts
        rw [List.find?_eq_some_iff_getElem]
        refine ⟨by simpa using h2, j, h1, rfl, fun i hi => ?_⟩
        have := h3 i hi
        simpa using this
      unfold stepOk
      rw [this]
theorem begins_snoc {ks : List (Int × Int)} {steps : List Int} {i : Nat} {n : Int} (h : begins ks (steps.take i) = true) (hx : steps[i]? = some n) (hn : stepOk ks (steps.take i) n = true) : begins ks (steps.take (i + 1)) = true := by
  refine begins_yes ?_
  intro j m hj
  rw [List.getElem?_take] at hj
  split at hj
  · rename_i hlt
    rw [List.take_take, Nat.min_eq_left (by omega)]
    by_cases he : j = i
    · subst he; rw [hx] at hj; cases hj; exact hn
    · have := begins_at h (i := j) (n := m) (by rw [List.getElem?_take, if_pos (by omega)]; exact hj)
      rwa [List.take_take, Nat.min_eq_left (by omega)] at this
  · cases hj
theorem box_flat (l : List Box) : ∀ el ∈ l.map Box.cells, ∀ x ∈ el, GV.Flat x := by
  intro el hel x hx
  obtain ⟨b, _, rfl⟩ := List.mem_map.1 hel
  simp only [Box.cells, List.mem_cons, List.not_mem_nil, or_false] at hx
  rcases hx with rfl | rfl | rfl | rfl <;> exact flat_int _ _
theorem applyT_len (tb : List Box) (b : Box) (d : Bool) (a : Int) : (applyT tb b d a).length ≤ tb.length + 2 := by
  have := filter_le (l := tb) (f := fun y => !decide (y = b)) tb.length
  rw [List.take_length] at this
  simp [applyT]; omega

/- impl.RunSteps: 25, 34, 26 -> [38, 4] -/
set_option maxRecDepth 100000 in
theorem ctr_i_RunSteps_bad (k : Work) (p : Plan) (hv : validPlan k p = false) (steps : List Int) : Ctr P 16 [.g (.agg k.cells), .g (.agg p.cells), .g (.sl (steps.map encI))] (.g (.tup [.sl [], .bool false])) := by
  have hpart := ctr_i_partsOf_no k p hv
  obtain ⟨ks, bb, hkn⟩ := knots_any p
  obtain ⟨op, a0, pane, turned, kids⟩ := p
  refine ctr_of (fn := Go.Proofs.Try.f16) (by kernel_rfl) rfl rfl ?_
  rintro ⟨n, w0, F0, M, pin⟩ hn
  cases hn
  refine PW_seq ?_
  -- region 0
  refine PW_region ?_
  refine P22 .none (by first | exact S_boxA rfl rfl rfl rfl | exact S_boxL rfl rfl rfl rfl rfl) ?_
  refine P22 .none (by first | exact S_boxA rfl rfl rfl rfl | exact S_boxL rfl rfl rfl rfl rfl | exact S_boxA rfl (Plan.cells_len _) (Plan.cells_one _) rfl) ?_
  refine P10 .none (S_assign rfl rfl) ?_
  refine P10 .none (S_assign rfl rfl) ?_
  refine Pend ?_
  refine PW_seq ?_
  -- region 1
  refine PW_region ?_
  refine P10 .none (by first | exact S_loadOW rfl rfl rfl rfl rfl | exact S_loadRW rfl rfl rfl | exact S_loadLA rfl rfl rfl (Nat.le_of_ble_eq_true rfl) rfl | exact S_loadOA rfl rfl rfl (Nat.le_of_ble_eq_true rfl) rfl | exact S_loadRA rfl (Nat.le_of_ble_eq_true rfl) rfl) ?_
  refine P10 .none (by first | exact S_loadOW rfl rfl rfl rfl rfl | exact S_loadRW rfl rfl rfl | exact S_loadLA rfl rfl rfl (Nat.le_of_ble_eq_true rfl) rfl | exact S_loadOA rfl rfl rfl (Nat.le_of_ble_eq_true rfl) rfl | exact S_loadRA rfl (Nat.le_of_ble_eq_true rfl) rfl | exact S_loadRW rfl (Plan.cells_len _) rfl | exact S_loadOW rfl rfl rfl (Plan.cells_len _) rfl) ?_
  refine P00 .none (S_call (.one rfl (.one rfl .nil)) rfl hpart (.inl rfl) rfl) ?_
  refine P10 .none (S_assign rfl rfl) ?_
  refine Pend ?_
  refine PW_seq ?_
  -- region 2
  refine PW_region ?_
  refine P10 .none (by first | exact S_loadOW rfl rfl rfl rfl rfl | exact S_loadRW rfl rfl rfl | exact S_loadLA rfl rfl rfl (Nat.le_of_ble_eq_true rfl) rfl | exact S_loadOA rfl rfl rfl (Nat.le_of_ble_eq_true rfl) rfl | exact S_loadRA rfl (Nat.le_of_ble_eq_true rfl) rfl | exact S_loadRW rfl (Plan.cells_len _) rfl | exact S_loadOW rfl rfl rfl (Plan.cells_len _) rfl) ?_
  refine P00 .none (S_call (.one rfl .nil) rfl hkn (.inl rfl) rfl) ?_
  refine P10 .none (S_move rfl rfl) ?_
  refine P10 .none (by first | exact S_extractG rfl rfl rfl | exact S_extractC rfl rfl rfl | exact S_extractA rfl rfl rfl) ?_
  refine P10 .none (by first | exact S_extractG rfl rfl rfl | exact S_extractC rfl rfl rfl | exact S_extractA rfl rfl rfl) ?_
  refine P10 .none (S_assign rfl rfl) ?_
  refine P10 .none (S_assign rfl rfl) ?_
  refine Pend ?_
  refine PW_seq ?_
  refine PW_seq ?_
  -- region 3
  refine PW_region ?_
  refine P10 .none (S_move rfl rfl) ?_
  refine P10 .none (by first | exact S_lenR rfl rfl | exact S_lenO rfl rfl | exact S_lenN rfl rfl | exact S_lenS rfl rfl) ?_
  refine P10 .none (S_eql rfl rfl rfl) ?_
  refine P10 .none (S_move rfl rfl) ?_
  refine Psplit 28 rfl (fun h1 => ?_) (fun h1 => ?_)
  · -- t28 = true
    refine Pskip rfl rfl h1 rfl ?_
    refine Pskip rfl rfl h1 rfl ?_
    refine P10 .none (S_pickT rfl h1 rfl rfl) ?_
    refine P10 .none (S_move rfl rfl) ?_
    refine Pskip rfl rfl rfl rfl ?_
    refine Pskip rfl rfl rfl rfl ?_
    refine Pskip rfl rfl rfl rfl ?_
    refine Pskip rfl rfl rfl rfl ?_
    refine P10 .none (S_pickT rfl rfl rfl rfl) ?_
    refine Pend ?_
    refine PW_condT rfl rfl ?_
    refine PW_seq ?_
    -- region 4
    refine PW_region ?_
    refine P10 .none (S_assign rfl rfl) ?_
    refine P10 .none (S_assign rfl rfl) ?_
    refine Pend ?_
    refine PW_ret ⟨.inr rfl, ?_⟩
    exact ret_g (.cons (.tmp rfl) (.c .nil) (.cons (.tmp rfl) (.c (.g _)) .nil)) rfl trivial
  · simp at h1

/- impl.RunSteps: 25, 34, 26 -> [38, 4] -/
set_option maxRecDepth 100000 in
theorem ctr_i_RunSteps_not (k : Work) (t : T) (hv : VP k t) (steps : List Int) (hs : steps.length ≤ 100000000) (hb : begins t.cuts steps = false) : Ctr P 16 [.g (.agg k.cells), .g (.agg t.plan.cells), .g (.sl (steps.map encI))] (.g (.tup [.sl [], .bool false])) := by
  have hpart := ctr_i_partsOf k t hv
  have hkn := ctr_i_knotsOf t hv.2.1
  have hbo := ctr_i_beginsOrder t.cuts steps (T.cuts_ok hv.2.1) hs
  rw [hb] at hbo
  have hp0 := parts_zero t (sheet k)
  generalize t.parts (sheet k) = parts at hpart hp0
  generalize t.plan = pl at hpart hkn
  obtain ⟨op, a0, pane, turned, kids⟩ := pl
  refine ctr_of (fn := Go.Proofs.Try.f16) (by kernel_rfl) rfl rfl ?_
  rintro ⟨n, w0, F0, M, pin⟩ hn
  cases hn
  refine PW_seq ?_
  -- region 0
  refine PW_region ?_
  refine P22 .none (by first | exact S_boxA rfl rfl rfl rfl | exact S_boxL rfl rfl rfl rfl rfl) ?_
  refine P22 .none (by first | exact S_boxA rfl rfl rfl rfl | exact S_boxL rfl rfl rfl rfl rfl | exact S_boxA rfl (Plan.cells_len _) (Plan.cells_one _) rfl) ?_
  refine P10 .none (S_assign rfl rfl) ?_
  refine P10 .none (S_assign rfl rfl) ?_
  refine Pend ?_
  refine PW_seq ?_
  -- region 1
  refine PW_region ?_
  refine P10 .none (by first | exact S_loadOW rfl rfl rfl rfl rfl | exact S_loadRW rfl rfl rfl | exact S_loadLA rfl rfl rfl (Nat.le_of_ble_eq_true rfl) rfl | exact S_loadOA rfl rfl rfl (Nat.le_of_ble_eq_true rfl) rfl | exact S_loadRA rfl (Nat.le_of_ble_eq_true rfl) rfl) ?_
  refine P10 .none (by first | exact S_loadOW rfl rfl rfl rfl rfl | exact S_loadRW rfl rfl rfl | exact S_loadLA rfl rfl rfl (Nat.le_of_ble_eq_true rfl) rfl | exact S_loadOA rfl rfl rfl (Nat.le_of_ble_eq_true rfl) rfl | exact S_loadRA rfl (Nat.le_of_ble_eq_true rfl) rfl | exact S_loadRW rfl (Plan.cells_len _) rfl | exact S_loadOW rfl rfl rfl (Plan.cells_len _) rfl) ?_
  refine P00 .none (S_call (.one rfl (.one rfl .nil)) rfl hpart (.inl rfl) rfl) ?_
  refine P10 .none (S_assign rfl rfl) ?_
  refine Pend ?_
  refine PW_seq ?_
  -- region 2
  refine PW_region ?_
  refine P10 .none (by first | exact S_loadOW rfl rfl rfl rfl rfl | exact S_loadRW rfl rfl rfl | exact S_loadLA rfl rfl rfl (Nat.le_of_ble_eq_true rfl) rfl | exact S_loadOA rfl rfl rfl (Nat.le_of_ble_eq_true rfl) rfl | exact S_loadRA rfl (Nat.le_of_ble_eq_true rfl) rfl | exact S_loadRW rfl (Plan.cells_len _) rfl | exact S_loadOW rfl rfl rfl (Plan.cells_len _) rfl) ?_
  refine P00 .none (S_call (.one rfl .nil) rfl hkn (.inl rfl) rfl) ?_
  refine P10 .none (S_move rfl rfl) ?_
  refine P10 .none (by first | exact S_extractG rfl rfl rfl | exact S_extractC rfl rfl rfl | exact S_extractA rfl rfl rfl) ?_
  refine P10 .none (by first | exact S_extractG rfl rfl rfl | exact S_extractC rfl rfl rfl | exact S_extractA rfl rfl rfl) ?_
  refine P10 .none (S_assign rfl rfl) ?_
  refine P10 .none (S_assign rfl rfl) ?_
  refine Pend ?_
  refine PW_seq ?_
  refine PW_seq ?_
  -- region 3
  refine PW_region ?_
  refine P10 .none (S_move rfl rfl) ?_
  refine P10 .none (by first | exact S_lenR rfl rfl | exact S_lenO rfl rfl | exact S_lenN rfl rfl | exact S_lenS rfl rfl) ?_
  refine P10 .none (S_eql rfl rfl rfl) ?_
  refine P10 .none (S_move rfl rfl) ?_
  refine Psplit 28 rfl (fun h1 => ?_) (fun h1 => ?_)
  · -- t28 = true
    refine Pskip rfl rfl h1 rfl ?_
    refine Pskip rfl rfl h1 rfl ?_
    refine P10 .none (S_pickT rfl h1 rfl rfl) ?_
    refine P10 .none (S_move rfl rfl) ?_
    refine Pskip rfl rfl rfl rfl ?_
    refine Pskip rfl rfl rfl rfl ?_
    refine Pskip rfl rfl rfl rfl ?_
    refine Pskip rfl rfl rfl rfl ?_
    refine P10 .none (S_pickT rfl rfl rfl rfl) ?_
    refine Pend ?_
    refine PW_condT rfl rfl ?_
    refine PW_seq ?_
    -- region 4
    refine PW_region ?_
    refine P10 .none (S_assign rfl rfl) ?_
    refine P10 .none (S_assign rfl rfl) ?_
    refine Pend ?_
    refine PW_ret ⟨.inr rfl, ?_⟩
    exfalso; have h9 := of_decide_eq_true h1; have h8 := (List.getElem?_eq_some_iff.1 hp0).1; rw [List.length_map] at h9; omega
  · -- t28 = false
    refine P10 (.yes rfl rfl h1) (S_move rfl rfl) ?_
    refine P10 (.yes rfl rfl h1) (S_not rfl rfl) ?_
    refine P10 .none (S_pickF rfl h1 rfl rfl) ?_
    refine P10 .none (S_move rfl rfl) ?_
    refine Psplit 32 rfl (fun h2 => ?_) (fun h2 => ?_)
    · -- t32 = true
      refine Pskip rfl rfl h2 rfl ?_
      refine Pskip rfl rfl h2 rfl ?_
      refine Pskip rfl rfl h2 rfl ?_
      refine Pskip rfl rfl h2 rfl ?_
      refine P10 .none (S_pickT rfl h2 rfl rfl) ?_
      refine Pend ?_
      refine PW_condT rfl rfl ?_
      refine PW_seq ?_
      -- region 4
      refine PW_region ?_
      refine P10 .none (S_assign rfl rfl) ?_
      refine P10 .none (S_assign rfl rfl) ?_
      refine Pend ?_
      refine PW_ret ⟨.inr rfl, ?_⟩
      cases h2
    · -- t32 = false
      refine P10 (.yes rfl rfl h2) (S_move rfl rfl) ?_
      refine P10 (.yes rfl rfl h2) (S_move rfl rfl) ?_
      refine P00 (.yes rfl rfl h2) (S_call (.one rfl (.one rfl .nil)) rfl hbo (.inl rfl) rfl) ?_
      refine P10 (.yes rfl rfl h2) (S_not rfl rfl) ?_
      refine P10 .none (S_pickF rfl h2 rfl rfl) ?_
      refine Pend ?_
      refine PW_cond rfl (fun h3 => ?_) (fun h3 => ?_)
      · -- t37
        refine PW_seq ?_
        -- region 4
        refine PW_region ?_
        refine P10 .none (S_assign rfl rfl) ?_
        refine P10 .none (S_assign rfl rfl) ?_
        refine Pend ?_
        refine PW_ret ⟨.inr rfl, ?_⟩
        exact ret_g (.cons (.tmp rfl) (.c .nil) (.cons (.tmp rfl) (.c (.g _)) .nil)) rfl trivial
      · cases h3

theorem ctr_i_RunSteps_all (k : Work) (t : T) (hv : VP k t) (steps : List Int) (hs : steps.length ≤ 100000000) : Ctr P 16 [.g (.agg k.cells), .g (.agg t.plan.cells), .g (.sl (steps.map encI))] (.g (runRes k t steps)) := by
  unfold runRes
  cases hb : begins t.cuts steps with
  | true => exact ctr_i_RunSteps k t hv steps hb
  | false => exact ctr_i_RunSteps_not k t hv steps hs hb

/- spec.RunSteps: 25, 34, 26 -> [38, 4] -/
set_option maxRecDepth 100000 in
theorem ctr_s_RunSteps_bad (k : Work) (p : Plan) (hl : k.panes.length ≤ 100000000) (hv : validPlan k p = false) (steps : List Int) : Ctr P 17 [.g (.agg k.cells), .g (.agg p.cells), .g (.sl (steps.map encI))] (.g (.tup [.sl [], .bool false])) := by
  have hvp := ctr_s_validPlan k p hl
  rw [hv] at hvp
  obtain ⟨op, a0, pane, turned, kids⟩ := p
  refine ctr_of (fn := Go.Proofs.Try.f17) (by kernel_rfl) rfl rfl ?_
  rintro ⟨n, w0, F0, M, pin⟩ hn
  cases hn
  refine PW_seq ?_
  -- region 0
  refine PW_region ?_
  refine P22 .none (by first | exact S_boxA rfl rfl rfl rfl | exact S_boxL rfl rfl rfl rfl rfl) ?_
  refine P22 .none (by first | exact S_boxA rfl rfl rfl rfl | exact S_boxL rfl rfl rfl rfl rfl | exact S_boxA rfl (Plan.cells_len _) (Plan.cells_one _) rfl) ?_
  refine P10 .none (S_assign rfl rfl) ?_
  refine P10 .none (S_assign rfl rfl) ?_
  refine Pend ?_
  refine PW_seq ?_
  refine PW_seq ?_
  -- region 1
  refine PW_region ?_
  refine P10 .none (by first | exact S_loadOW rfl rfl rfl rfl rfl | exact S_loadRW rfl rfl rfl | exact S_loadLA rfl rfl rfl (Nat.le_of_ble_eq_true rfl) rfl | exact S_loadOA rfl rfl rfl (Nat.le_of_ble_eq_true rfl) rfl | exact S_loadRA rfl (Nat.le_of_ble_eq_true rfl) rfl) ?_
  refine P10 .none (by first | exact S_loadOW rfl rfl rfl rfl rfl | exact S_loadRW rfl rfl rfl | exact S_loadLA rfl rfl rfl (Nat.le_of_ble_eq_true rfl) rfl | exact S_loadOA rfl rfl rfl (Nat.le_of_ble_eq_true rfl) rfl | exact S_loadRA rfl (Nat.le_of_ble_eq_true rfl) rfl | exact S_loadRW rfl (Plan.cells_len _) rfl | exact S_loadOW rfl rfl rfl (Plan.cells_len _) rfl) ?_
  refine P00 .none (S_call (.one rfl (.one rfl .nil)) rfl hvp (.inl rfl) rfl) ?_
  refine P10 .none (S_not rfl rfl) ?_
  refine Pend ?_
  refine PW_cond rfl (fun h1 => ?_) (fun h1 => ?_)
  · -- t18
    refine PW_seq ?_
    -- region 2
    refine PW_region ?_
    refine P10 .none (S_assign rfl rfl) ?_
    refine P10 .none (S_assign rfl rfl) ?_
    refine Pend ?_
    refine PW_ret ⟨.inr rfl, ?_⟩
    exact ret_g (.cons (.tmp rfl) (.c .nil) (.cons (.tmp rfl) (.c (.g _)) .nil)) rfl trivial
  · cases h1

/- spec.RunSteps: 25, 34, 26 -> [38, 4] -/
set_option maxRecDepth 100000 in
theorem ctr_s_RunSteps_all (k : Work) (t : T) (hl : k.panes.length ≤ 100000000) (hv : VP k t) (steps : List Int) (hs : steps.length ≤ 100000000) : Ctr P 17 [.g (.agg k.cells), .g (.agg t.plan.cells), .g (.sl (steps.map encI))] (.g (runRes k t steps)) := by
  have hvp := ctr_s_validPlan k t.plan hl
  rw [validPlan_VP hv] at hvp
  have h255 := hv.2.1
  have hnod := ctr_s_innerNodes t 0 h255 (by omega)
  have habv := ctr_s_aboves t 0 (-1) h255 (by omega)
  have hnl := t.nodes_len 0
  have hal := t.abv_len 0 (-1)
  have hpt := ctr_s_partAt k t (sheet k)
  generalize ht : t.plan = pl at hvp hnod habv hpt
  obtain ⟨op, a0, pane, turned, kids⟩ := pl
  refine ctr_of (fn := Go.Proofs.Try.f17) (by kernel_rfl) rfl rfl ?_
  rintro ⟨n, w0, F0, M, pin⟩ hn
  cases hn
  refine PW_seq ?_
  -- region 0
  refine PW_region ?_
  refine P22 .none (by first | exact S_boxA rfl rfl rfl rfl | exact S_boxL rfl rfl rfl rfl rfl) ?_
  refine P22 .none (by first | exact S_boxA rfl rfl rfl rfl | exact S_boxL rfl rfl rfl rfl rfl | exact S_boxA rfl (Plan.cells_len _) (Plan.cells_one _) rfl) ?_
  refine P10 .none (S_assign rfl rfl) ?_
  refine P10 .none (S_assign rfl rfl) ?_
  refine Pend ?_
  refine PW_seq ?_
  refine PW_seq ?_
  -- region 1
  refine PW_region ?_
  refine P10 .none (by first | exact S_loadOW rfl rfl rfl rfl rfl | exact S_loadRW rfl rfl rfl | exact S_loadLA rfl rfl rfl (Nat.le_of_ble_eq_true rfl) rfl | exact S_loadOA rfl rfl rfl (Nat.le_of_ble_eq_true rfl) rfl | exact S_loadRA rfl (Nat.le_of_ble_eq_true rfl) rfl) ?_
  refine P10 .none (by first | exact S_loadOW rfl rfl rfl rfl rfl | exact S_loadRW rfl rfl rfl | exact S_loadLA rfl rfl rfl (Nat.le_of_ble_eq_true rfl) rfl | exact S_loadOA rfl rfl rfl (Nat.le_of_ble_eq_true rfl) rfl | exact S_loadRA rfl (Nat.le_of_ble_eq_true rfl) rfl | exact S_loadRW rfl (Plan.cells_len _) rfl | exact S_loadOW rfl rfl rfl (Plan.cells_len _) rfl) ?_
  refine P00 .none (S_call (.one rfl (.one rfl .nil)) rfl hvp (.inl rfl) rfl) ?_
  refine P10 .none (S_not rfl rfl) ?_
  refine Pend ?_
  refine PW_cond rfl (fun h1 => ?_) (fun h1 => ?_)
  · -- t18
    refine PW_seq ?_
    -- region 2
    refine PW_region ?_
    refine P10 .none (S_assign rfl rfl) ?_
    refine P10 .none (S_assign rfl rfl) ?_
    refine Pend ?_
    refine PW_ret ⟨.inr rfl, ?_⟩
    cases h1
  · -- not t18
    refine PW_skip ?_
    refine PW_seq ?_
    -- region 3
    refine PW_region ?_
    refine P10 .none (by first | exact S_loadOW rfl rfl rfl rfl rfl | exact S_loadRW rfl rfl rfl | exact S_loadLA rfl rfl rfl (Nat.le_of_ble_eq_true rfl) rfl | exact S_loadOA rfl rfl rfl (Nat.le_of_ble_eq_true rfl) rfl | exact S_loadRA rfl (Nat.le_of_ble_eq_true rfl) rfl | exact S_loadRW rfl (Plan.cells_len _) rfl | exact S_loadOW rfl rfl rfl (Plan.cells_len _) rfl) ?_
    refine P00 .none (S_call (.one rfl (.one rfl .nil)) rfl hnod (.inl rfl) rfl) ?_
    refine P10 .none (S_assign rfl rfl) ?_
    refine Pend ?_
    refine PW_seq ?_
    -- region 4
    refine PW_region ?_
    refine P10 .none (by first | exact S_loadOW rfl rfl rfl rfl rfl | exact S_loadRW rfl rfl rfl | exact S_loadLA rfl rfl rfl (Nat.le_of_ble_eq_true rfl) rfl | exact S_loadOA rfl rfl rfl (Nat.le_of_ble_eq_true rfl) rfl | exact S_loadRA rfl (Nat.le_of_ble_eq_true rfl) rfl | exact S_loadRW rfl (Plan.cells_len _) rfl | exact S_loadOW rfl rfl rfl (Plan.cells_len _) rfl) ?_
    refine P00 .none (S_call (.one rfl (.one rfl (.one rfl .nil))) rfl habv (.inl rfl) rfl) ?_
    refine P10 .none (S_assign rfl rfl) ?_
    refine Pend ?_
    refine PW_seq ?_
    refine PW_frzW 8 rfl rfl rfl rfl ?_
    refine PW_frzW 9 rfl rfl rfl rfl ?_
    --region 5
    refine PW_region ?_
    refine P10 .none (by first | exact S_fieldO rfl rfl rfl | exact S_fieldR rfl rfl rfl) ?_
    refine P10 .none (by first | exact S_loadO1 rfl rfl rfl rfl rfl | exact S_loadR1 rfl rfl rfl | exact S_loadL1 rfl rfl rfl rfl rfl) ?_
    refine P10 .none (by first | exact S_fieldO rfl rfl rfl | exact S_fieldR rfl rfl rfl) ?_
    refine P10 .none (by first | exact S_loadO1 rfl rfl rfl rfl rfl | exact S_loadR1 rfl rfl rfl | exact S_loadL1 rfl rfl rfl rfl rfl) ?_
    refine P10 .none (S_build (gs := [_, _, _, _]) (.one rfl rfl rfl rfl (.one rfl rfl rfl rfl (.nil _))) rfl rfl) ?_
    refine P22 .none (S_lit (.agg rfl rfl rfl (.nil _)) rfl rfl rfl) ?_
    refine P10 .none (S_assign rfl rfl) ?_
    refine Pend ?_
    refine PW_seq ?_
    refine PW_seq ?_
    -- region 6
    refine PW_region ?_
    refine P10 .none (S_assign rfl rfl) ?_
    refine Pend ?_
    refine PW_block ?_
    refine PW_iter (ι := Nat) (fun i => [(2, .c (.g (.sl (steps.map encI)))), (3, .c (.optr 3 0 0)), (4, .c (.optr 4 0 0)), (8, .c (.g (.sl ((t.nodes 0).map encI)))), (9, .c (.g (.sl ((t.abv 0 (-1)).map encI)))), (10, .c (.osl 28 0 ((runT k t (steps.take i)).map Box.cells).length)), (11, .c (.g (.int .i64 (i : Nat))))]) (fun i => [(3, ⟨25, 0, .gnd [k.cells]⟩), (4, ⟨34, 0, .gnd [(Plan.mk op a0 pane turned kids).cells]⟩), (28, ⟨102, 0, .gnd ((runT k t (steps.take i)).map Box.cells)⟩)]) (fun i => i ≤ steps.length ∧ begins t.cuts (steps.take i) = true) (fun i => steps.length - i) 0 ⟨Nat.zero_le _, rfl⟩ (by repeat (first | exact trivial | refine And.intro rfl ?_)) (by repeat (first | exact trivial | refine And.intro rfl ?_)) (fun i hi => ?_)
    refine PW_seq ?_
    refine PW_seq ?_
    -- region 7
    refine PW_region ?_
    refine P10 .none (S_move rfl rfl) ?_
    refine P10 .none (S_move rfl rfl) ?_
    refine P10 .none (by first | exact S_lenR rfl rfl | exact S_lenO rfl rfl | exact S_lenN rfl rfl | exact S_lenS rfl rfl) ?_
    refine P10 .none (S_lss rfl rfl rfl) ?_
    refine Pend ?_
    refine PW_cond rfl (fun h2 => ?_) (fun h2 => ?_)
    · -- t32
      refine PW_skip ?_
      refine PW_seq ?_
      refine PW_block ?_
      refine PW_seq ?_
      obtain ⟨n, hx⟩ := at_lt h2
      have hlt := (List.getElem?_eq_some_iff.1 hx).1
      have hpl := ctr_s_placeIn (t.nodes 0) n (by omega)
      have hpd := fun m => ctr_s_placeIn (steps.take i) m (by simp; omega)
      have htk : (((steps.map encI).drop 0).take (i - 0)) = (steps.take i).map encI := by simp
      simp only [← htk] at hpd
      --region 9
      refine PW_region ?_
      refine P10 .none (S_move rfl rfl) ?_
      refine P10 .none (S_move rfl rfl) ?_
      refine P10 .none (S_move rfl rfl) ?_
      refine P10 .none (by first | exact S_indexR rfl rfl rfl (map_at hx) rfl rfl | exact S_indexO rfl rfl rfl rfl rfl (map_at hx) rfl) ?_
      refine P10 .none (by first | exact S_loadO1 rfl rfl rfl rfl rfl | exact S_loadR1 rfl rfl rfl | exact S_loadL1 rfl rfl rfl rfl rfl) ?_
      refine P00 .none (S_call (.one rfl (.one rfl .nil)) rfl hpl (.inl rfl) rfl) ?_
      refine P10 .none (S_assign rfl rfl) ?_
      refine Pend ?_
      refine PW_join (ι := Unit) (fun u => [(2, .c (.g (.sl (steps.map encI)))), (3, .c (.optr 3 0 0)), (4, .c (.optr 4 0 0)), (8, .c (.g (.sl ((t.nodes 0).map encI)))), (9, .c (.g (.sl ((t.abv 0 (-1)).map encI)))), (10, .c (.osl 28 0 ((runT k t (steps.take i)).map Box.cells).length)), (11, .c (.g (.int .i64 (i : Nat))))]) (fun u => [(3, ⟨25, 0, .gnd [k.cells]⟩), (4, ⟨34, 0, .gnd [(Plan.mk op a0 pane turned kids).cells]⟩), (28, ⟨102, 0, .gnd ((runT k t (steps.take i)).map Box.cells)⟩)]) (fun u => stepOk t.cuts (steps.take i) n = true) ?_ (fun u hu => ?_)
      · skip
        refine PW_seq ?_
        -- region 10
        refine PW_draw (by kernel_rfl) ?_
        refine P10 .none (S_move rfl rfl) ?_
        refine P10 .none (S_lss rfl rfl rfl) ?_
        refine P10 .none (S_move rfl rfl) ?_
        refine Psplit 43 rfl (fun h3 => ?_) (fun h3 => ?_)
        · -- t43 = true
          refine Pskip rfl rfl h3 rfl ?_
          refine Pskip rfl rfl h3 rfl ?_
          refine Pskip rfl rfl h3 rfl ?_
          refine Pskip rfl rfl h3 rfl ?_
          refine Pskip rfl rfl h3 rfl ?_
          refine Pskip rfl rfl h3 rfl ?_
          refine Pskip rfl rfl h3 rfl ?_
          refine Pskip rfl rfl h3 rfl ?_
          refine Pskip rfl rfl h3 rfl ?_
          refine P10 .none (S_pickT rfl h3 rfl rfl) ?_
          refine P10 .none (S_move rfl rfl) ?_
          refine Pskip rfl rfl rfl rfl ?_
          refine Pskip rfl rfl rfl rfl ?_
          refine Pskip rfl rfl rfl rfl ?_
          refine Pskip rfl rfl rfl rfl ?_
          refine Pskip rfl rfl rfl rfl ?_
          refine Pskip rfl rfl rfl rfl ?_
          refine Pskip2 rfl rfl rfl ?_
          refine Pskip2 rfl rfl rfl ?_
          refine Pskip2 rfl rfl rfl ?_
          refine Pskip2 rfl rfl rfl ?_
          refine Pskip2 rfl rfl rfl ?_
          refine Pskip2 rfl rfl rfl ?_
          refine Pskip2 rfl rfl rfl ?_
          refine Pskip2 rfl rfl rfl ?_
          refine Pskip2 rfl rfl rfl ?_
          refine Pskip rfl rfl rfl rfl ?_
          refine P10 .none (S_pickT rfl rfl rfl rfl) ?_
          refine Pend ⟨by kernel_rfl, ?_⟩
          refine PW_condT rfl rfl ?_
          refine PW_seq ?_
          -- region 11
          refine PW_region ?_
          refine P10 .none (S_assign rfl rfl) ?_
          refine P10 .none (S_assign rfl rfl) ?_
          refine Pend ?_
          refine PW_ret ⟨.inr rfl, ?_⟩
          exact RetOk.g_eq (ret_g (.cons (.tmp rfl) (.c .nil) (.cons (.tmp rfl) (.c (.g _)) .nil)) rfl trivial) (by unfold runRes; rw [if_neg (by rw [begins_not hx (step_none h3)]; simp)]; rfl)
        · -- t43 = false
          obtain ⟨j, pa, hj, hja, hpa, hstep⟩ := step_some h3
          have hstep := hstep (steps.take i)
          refine P10 (.yes rfl rfl h3) (S_move rfl rfl) ?_
          refine P10 (.yes rfl rfl h3) (S_move rfl rfl) ?_
          refine P10 (.yes rfl rfl h3) (S_sliceR rfl (.dfl 0) (.giv _ rfl rfl) (by omega) (by simp; omega) (by simp [encI]) rfl) ?_
          refine P10 (.yes rfl rfl h3) (S_move rfl rfl) ?_
          refine P10 (.yes rfl rfl h3) (S_move rfl rfl) ?_
          refine P10 (.yes rfl rfl h3) (by first | exact S_indexR rfl rfl rfl (map_at hx) rfl rfl | exact S_indexO rfl rfl rfl rfl rfl (map_at hx) rfl) ?_
          refine P10 (.yes rfl rfl h3) (by first | exact S_loadO1 rfl rfl rfl rfl rfl | exact S_loadR1 rfl rfl rfl | exact S_loadL1 rfl rfl rfl rfl rfl) ?_
          refine P00 (.yes rfl rfl h3) (S_call (.one rfl (.one rfl .nil)) rfl (hpd n) (.inl rfl) rfl) ?_
          refine P10 (.yes rfl rfl h3) (S_geq rfl rfl rfl) ?_
          refine P10 .none (S_pickF rfl h3 rfl rfl) ?_
          refine P10 .none (S_move rfl rfl) ?_
          refine Psplit 54 rfl (fun h4 => ?_) (fun h4 => ?_)
          · -- t54 = true
            refine Pskip rfl rfl h4 rfl ?_
            refine Pskip rfl rfl h4 rfl ?_
            refine Pskip rfl rfl h4 rfl ?_
            refine Pskip rfl rfl h4 rfl ?_
            refine Pskip rfl rfl h4 rfl ?_
            refine Pskip rfl rfl h4 rfl ?_
            refine Pskip2 rfl rfl rfl ?_
            refine Pskip2 rfl rfl rfl ?_
            refine Pskip2 rfl rfl rfl ?_
            refine Pskip2 rfl rfl rfl ?_
            refine Pskip2 rfl rfl rfl ?_
            refine Pskip2 rfl rfl rfl ?_
            refine Pskip2 rfl rfl rfl ?_
            refine Pskip2 rfl rfl rfl ?_
            refine Pskip2 rfl rfl rfl ?_
            refine Pskip rfl rfl h4 rfl ?_
            refine P10 .none (S_pickT rfl h4 rfl rfl) ?_
            refine Pend ⟨by kernel_rfl, ?_⟩
            refine PW_condT rfl rfl ?_
            refine PW_seq ?_
            -- region 11
            refine PW_region ?_
            refine P10 .none (S_assign rfl rfl) ?_
            refine P10 .none (S_assign rfl rfl) ?_
            refine Pend ?_
            refine PW_ret ⟨.inr rfl, ?_⟩
            rw [placeIn_geq] at h4
            exact RetOk.g_eq (ret_g (.cons (.tmp rfl) (.c .nil) (.cons (.tmp rfl) (.c (.g _)) .nil)) rfl trivial) (by unfold runRes; rw [if_neg (by rw [begins_not hx (by rw [hstep, h4]; rfl)]; simp)]; rfl)
          · -- t54 = false
            refine P10 (.yes rfl rfl h4) (S_move rfl rfl) ?_
            refine P10 (.yes rfl rfl h4) (S_move rfl rfl) ?_
            refine P10 (.yes rfl rfl h4) (by first | exact S_indexR rfl rfl hj (map_at hja) rfl rfl | exact S_indexO rfl rfl rfl rfl hj (map_at hja) rfl) ?_
            refine P10 (.yes rfl rfl h4) (by first | exact S_loadO1 rfl rfl rfl rfl rfl | exact S_loadR1 rfl rfl rfl | exact S_loadL1 rfl rfl rfl rfl rfl) ?_
            refine P10 (.yes rfl rfl h4) (S_geq rfl rfl rfl) ?_
            refine P10 (.yes rfl rfl h4) (S_move rfl rfl) ?_
            refine Psplit 60 rfl (fun h5 => ?_) (fun h5 => ?_)
            · -- t60 = true
              refine P10 (.yes rfl rfl h5) (S_move rfl rfl) ?_
              refine P10 (.yes rfl rfl h5) (S_move rfl rfl) ?_
              refine P10 (.yes rfl rfl h5) (S_sliceR rfl (.dfl 0) (.giv _ rfl rfl) (by omega) (by simp; omega) (by simp [encI]) rfl) ?_
              refine P10 (.yes rfl rfl h5) (S_move rfl rfl) ?_
              refine P10 (.yes rfl rfl h5) (S_move rfl rfl) ?_
              refine P10 (.yes rfl rfl h5) (by first | exact S_indexR rfl rfl hj (map_at hja) rfl rfl | exact S_indexO rfl rfl rfl rfl hj (map_at hja) rfl) ?_
              refine P10 (.yes rfl rfl h5) (by first | exact S_loadO1 rfl rfl rfl rfl rfl | exact S_loadR1 rfl rfl rfl | exact S_loadL1 rfl rfl rfl rfl rfl) ?_
              refine P00 (.yes rfl rfl h5) (S_call (.one rfl (.one rfl .nil)) rfl (hpd pa) (.inl rfl) rfl) ?_
              refine P10 (.yes rfl rfl h5) (S_lss rfl rfl rfl) ?_
              refine P10 (.yes rfl rfl h4) (S_pickT rfl h5 rfl rfl) ?_
              refine P10 .none (S_pickF rfl h4 rfl rfl) ?_
              refine Pend ⟨by kernel_rfl, ?_⟩
              refine PW_cond rfl (fun h6 => ?_) (fun h6 => ?_)
              · -- t71
                refine PW_seq ?_
                -- region 11
                refine PW_region ?_
                refine P10 .none (S_assign rfl rfl) ?_
                refine P10 .none (S_assign rfl rfl) ?_
                refine Pend ?_
                refine PW_ret ⟨.inr rfl, ?_⟩
                rw [placeIn_geq] at h4
                have h5' := of_decide_eq_true h5
                rw [placeIn_neg] at h6
                exact RetOk.g_eq (ret_g (.cons (.tmp rfl) (.c .nil) (.cons (.tmp rfl) (.c (.g _)) .nil)) rfl trivial) (by unfold runRes; rw [if_neg (by rw [begins_not hx (by rw [hstep, h4, decide_eq_false (by omega : ¬ pa < 0)]; simpa using h6)]; simp)]; rfl)
              · -- not t71
                refine PW_skip ?_
                exact ⟨(), (by rw [placeIn_geq] at h4; rw [placeIn_neg] at h6; rw [hstep, h4]; simp at h6 ⊢; exact .inr h6), by repeat (first | exact trivial | refine And.intro rfl ?_ | refine And.intro (by show some (PV.c (LC.g _)) = some (PV.c (LC.g _)); simp only [*, decide_true, decide_false, eq_self, if_true, if_false, reduceIte, Bool.false_eq_true, Bool.and_false, Bool.false_and, Bool.true_and, Bool.and_true, Bool.or_true, Bool.true_or, Bool.false_or, Bool.or_false, Bool.not_true, Bool.not_false]) ?_), by repeat (first | exact trivial | refine And.intro rfl ?_ | refine And.intro (by show some (PV.c (LC.g _)) = some (PV.c (LC.g _)); simp only [*, decide_true, decide_false, eq_self, if_true, if_false, reduceIte, Bool.false_eq_true, Bool.and_false, Bool.false_and, Bool.true_and, Bool.and_true, Bool.or_true, Bool.true_or, Bool.false_or, Bool.or_false, Bool.not_true, Bool.not_false]) ?_)⟩
            · -- t60 = false
              refine Pskip rfl rfl h5 rfl ?_
              refine Pskip rfl rfl h5 rfl ?_
              refine Pskip rfl rfl h5 rfl ?_
              refine Pskip rfl rfl h5 rfl ?_
              refine Pskip rfl rfl h5 rfl ?_
              refine Pskip rfl rfl h5 rfl ?_
              refine Pskip rfl rfl h5 rfl ?_
              refine Pskip rfl rfl h5 rfl ?_
              refine Pskip rfl rfl h5 rfl ?_
              refine P10 (.yes rfl rfl h4) (S_pickF rfl h5 rfl rfl) ?_
              refine P10 .none (S_pickF rfl h4 rfl rfl) ?_
              refine Pend ⟨by kernel_rfl, ?_⟩
              refine PW_condF rfl rfl ?_
              refine PW_skip ?_
              exact ⟨(), (by rw [placeIn_geq] at h4; have h5' := of_decide_eq_false h5; rw [hstep, h4, decide_eq_true (by omega : pa < 0)]; rfl), by repeat (first | exact trivial | refine And.intro rfl ?_ | refine And.intro (by show some (PV.c (LC.g _)) = some (PV.c (LC.g _)); simp only [*, decide_true, decide_false, eq_self, if_true, if_false, reduceIte, Bool.false_eq_true, Bool.and_false, Bool.false_and, Bool.true_and, Bool.and_true, Bool.or_true, Bool.true_or, Bool.false_or, Bool.or_false, Bool.not_true, Bool.not_false]) ?_), by repeat (first | exact trivial | refine And.intro rfl ?_ | refine And.intro (by show some (PV.c (LC.g _)) = some (PV.c (LC.g _)); simp only [*, decide_true, decide_false, eq_self, if_true, if_false, reduceIte, Bool.false_eq_true, Bool.and_false, Bool.false_and, Bool.true_and, Bool.and_true, Bool.or_true, Bool.true_or, Bool.false_or, Bool.or_false, Bool.not_true, Bool.not_false]) ?_)⟩
      · skip
        refine PW_seq ?_
        have hbs := begins_snoc hi.2 hx hu
        have htl : (steps.take (i + 1)).length = i + 1 := by simp; omega
        obtain ⟨d, a, p, q, b, r0, r1, r2, r3, r4, r5, r6⟩ := run_at hv hbs (i := i) (n := n) (by rw [List.getElem?_take, if_pos (by omega)]; exact hx)
        rw [List.take_take, Nat.min_eq_left (by omega)] at r5 r6
        have hnx := runT_next (k := k) (t := t) hx
        rw [stepB_at r1] at hnx
        have hln := runT_len (k := k) (t := t) (steps.take i)
        rw [List.length_take] at hln
        have hbsh := begins_short h255 hbs
        rw [htl] at hbsh
        have hap := ctr_s_apply k d a p q (runT k t (steps.take i)) b r2 r3 r4 (by omega)
        have hpt := hpt n.toNat (.cut d a p q, b) (sheet_ok hv.1) hv.2.2 h255 r1
        rw [Int.toNat_of_nonneg r0] at hpt
        --region 12
        refine PW_draw (by kernel_rfl) ?_
        refine P10 .none (by first | exact S_loadOW rfl rfl rfl rfl rfl | exact S_loadRW rfl rfl rfl | exact S_loadLA rfl rfl rfl (Nat.le_of_ble_eq_true rfl) rfl | exact S_loadOA rfl rfl rfl (Nat.le_of_ble_eq_true rfl) rfl | exact S_loadRA rfl (Nat.le_of_ble_eq_true rfl) rfl | exact S_loadRW rfl (Plan.cells_len _) rfl | exact S_loadOW rfl rfl rfl (Plan.cells_len _) rfl) ?_
        refine P10 .none (by first | exact S_fieldO rfl rfl rfl | exact S_fieldR rfl rfl rfl) ?_
        refine P10 .none (by first | exact S_loadO1 rfl rfl rfl rfl rfl | exact S_loadR1 rfl rfl rfl | exact S_loadL1 rfl rfl rfl rfl rfl) ?_
        refine P10 .none (by first | exact S_fieldO rfl rfl rfl | exact S_fieldR rfl rfl rfl) ?_
        refine P10 .none (by first | exact S_loadO1 rfl rfl rfl rfl rfl | exact S_loadR1 rfl rfl rfl | exact S_loadL1 rfl rfl rfl rfl rfl) ?_
        refine P10 .none (S_build (gs := [_, _, _, _]) (.one rfl rfl rfl rfl (.one rfl rfl rfl rfl (.nil _))) rfl rfl) ?_
        refine P10 .none (S_move rfl rfl) ?_
        refine P10 .none (S_move rfl rfl) ?_
        refine P10 .none (by first | exact S_indexR rfl rfl rfl (map_at hx) rfl rfl | exact S_indexO rfl rfl rfl rfl rfl (map_at hx) rfl) ?_
        refine P10 .none (by first | exact S_loadO1 rfl rfl rfl rfl rfl | exact S_loadR1 rfl rfl rfl | exact S_loadL1 rfl rfl rfl rfl rfl) ?_
        refine P00 .none (S_call (.one rfl (.one rfl (.one rfl .nil))) rfl hpt (.inl rfl) rfl) ?_
        refine P10 .none (S_move rfl rfl) ?_
        refine P10 .none (by first | exact S_extractG rfl rfl rfl | exact S_extractC rfl rfl rfl | exact S_extractA rfl rfl rfl) ?_
        refine P10 .none (by first | exact S_extractG rfl rfl rfl | exact S_extractC rfl rfl rfl | exact S_extractA rfl rfl rfl) ?_
        refine P22 .none (S_alloc rfl) ?_
        refine P22 .none (S_alloc rfl) ?_
        refine P01 .none (by first | exact S_storeW rfl rfl rfl rfl rfl rfl | exact S_storeWe rfl rfl rfl HK rfl rfl rfl | exact S_storeP rfl rfl rfl rfl rfl (Nat.le_of_ble_eq_true rfl) | exact S_storeLW rfl rfl rfl rfl rfl rfl rfl | exact S_storeW rfl rfl rfl (Plan.cells_one _) (Plan.cells_len _) rfl) ?_
        refine P01 .none (by first | exact S_storeW rfl rfl rfl rfl rfl rfl | exact S_storeWe rfl rfl rfl HK rfl rfl rfl | exact S_storeP rfl rfl rfl rfl rfl (Nat.le_of_ble_eq_true rfl) | exact S_storeLW rfl rfl rfl rfl rfl rfl rfl) ?_
        refine Pend ⟨by kernel_rfl, ?_⟩
        -- region 13
        refine PW_region ?_
        refine P10 .none (S_move rfl rfl) ?_
        refine P10 .none (by first | exact S_loadOW rfl rfl rfl rfl rfl | exact S_loadRW rfl rfl rfl | exact S_loadLA rfl rfl rfl (Nat.le_of_ble_eq_true rfl) rfl | exact S_loadOA rfl rfl rfl (Nat.le_of_ble_eq_true rfl) rfl | exact S_loadRA rfl (Nat.le_of_ble_eq_true rfl) rfl) ?_
        refine P10 .none (by first | exact S_loadOW rfl rfl rfl rfl rfl | exact S_loadRW rfl rfl rfl | exact S_loadLA rfl rfl rfl (Nat.le_of_ble_eq_true rfl) rfl | exact S_loadOA rfl rfl rfl (Nat.le_of_ble_eq_true rfl) rfl | exact S_loadRA rfl (Nat.le_of_ble_eq_true rfl) rfl | exact S_loadRW rfl (Plan.cells_len _) rfl | exact S_loadOW rfl rfl rfl (Plan.cells_len _) rfl) ?_
        refine P00 .none (S_call (.borw rfl rfl rfl (.one rfl (.one rfl .nil))) rfl hap (.inr ⟨box_flat _, by simp [XA.Flat]⟩) rfl) ?_
        refine P10 .none (S_assign rfl rfl) ?_
        refine Pend ?_
        refine PW_mvS 10 89 28 rfl rfl rfl rfl ?_
        --region 8
        refine PW_region ?_
        refine P10 .none (S_move rfl rfl) ?_
        refine P10 .none (S_add rfl rfl rfl (And.intro (by omega) (by omega))) ?_
        refine P10 .none (S_assign rfl rfl) ?_
        refine Pend ?_
        exact ⟨i + 1, by omega, ⟨by show i + 1 ≤ steps.length; omega, hbs⟩, (by rw [hnx]; repeat (first | exact trivial | refine And.intro rfl ?_)), (by rw [hnx]; repeat (first | exact trivial | refine And.intro rfl ?_))⟩
    · -- not t32
      refine PW_exit ?_
      refine PW_seq ?_
      -- region 14
      refine PW_region ?_
      refine P10 .none (S_move rfl rfl) ?_
      refine P10 .none (S_assign rfl rfl) ?_
      refine P10 .none (S_assign rfl rfl) ?_
      refine Pend ?_
      refine PW_ret ⟨.inr rfl, ?_⟩
      have e : steps.take i = steps := List.take_of_length_le (by simp at h2; omega)
      rw [e] at hi ⊢
      unfold runRes
      rw [if_pos hi.2]
      exact ret_g (.cons (.tmp rfl) (.c (Ex.whole rfl rfl rfl)) (.cons (.tmp rfl) (.c (.g _)) .nil)) rfl trivial
end Go.Proofs.Ytdmlfhmnlddooaa
namespace Go.Proofs.Ytdmlfhmnlddooaa
open Go Go.Pu

/-- The bytes of a code; what a reader holds. -/
def rows (bs : List Nat) : List (List GV) := bs.map fun b : Nat => [.int .u8 (b : Int)]
def Rd (bs : List Nat) (p : Nat) : List GV := [.sl (rows bs), .int .i64 (p : Int)]
theorem rows_len (bs : List Nat) : (rows bs).length = bs.length := by simp [rows]
theorem rows_at {bs : List Nat} {j : Nat} (h : j < bs.length) : (rows bs)[j]? = some [.int .u8 ((bs.getD j 0 : Nat) : Int)] := by
  simp [rows, List.getD_eq_getElem?_getD, h]
def pickX (bs : List Nat) (p : Nat) : Int := ((bs.getD (p % bs.length) 0 : Nat) : Int) * 131 + ((bs.getD ((p * 7 + 3) % bs.length) 0 : Nat) : Int) * 1117 + (p : Int) * 29 + (p : Int) / (bs.length : Int) * 53
def pickV (bs : List Nat) (p : Nat) (n : Int) : Int :=
  if n < 1 then 0 else if bs.length = 0 then 0 else if p < bs.length then ((bs.getD p 0 : Nat) : Int) % n
  else (((pickX bs p).toNat ^^^ (pickX bs p / 64).toNat : Nat) : Int) % n
theorem pickV_in (bs : List Nat) (p : Nat) (n : Int) : 0 ≤ pickV bs p n ∧ (1 ≤ n → pickV bs p n < n) ∧ (n < 1 → pickV bs p n = 0) := by
  unfold pickV
  split
  · exact ⟨Int.le_refl _, by omega, fun _ => rfl⟩
  · split
    · exact ⟨Int.le_refl _, by omega, by omega⟩
    · split
      · exact ⟨Int.emod_nonneg _ (by omega), fun _ => Int.emod_lt_of_pos _ (by omega), by omega⟩
      · exact ⟨Int.emod_nonneg _ (by omega), fun _ => Int.emod_lt_of_pos _ (by omega), by omega⟩
theorem getD_le {bs : List Nat} (h : ∀ b ∈ bs, b < 256) (j : Nat) : bs.getD j 0 < 256 := by
  rw [List.getD_eq_getElem?_getD]
  cases hx : bs[j]? with
  | none => simp
  | some b => exact h b (List.mem_of_getElem? hx)
theorem pickX_in {bs : List Nat} {p : Nat} (h : ∀ b ∈ bs, b < 256) (hp : p ≤ 1000000) : 0 ≤ pickX bs p ∧ pickX bs p ≤ 100000000 := by
  have h1 := getD_le h (p % bs.length)
  have h2 := getD_le h ((p * 7 + 3) % bs.length)
  have h3 : 0 ≤ (p : Int) / (bs.length : Int) := Int.ediv_nonneg (by omega) (by omega)
  have h4 : (p : Int) / (bs.length : Int) ≤ p := Int.ediv_le_self _ (by omega)
  unfold pickX
  omega

/- spec.newReader: 22 -> [85] -/
set_option maxRecDepth 100000 in
theorem ctr_s_newReader (bs : List Nat) (hb : ∀ b ∈ bs, b < 256) (hl : bs.length ≤ 10000000) : CtrG P 65 11 [.c (.g (.sl (rows bs)))] [] (.c (.optr 10 0 0)) [(10, ⟨150, 0, .gnd [Rd (bs.take 2000) 0]⟩)] := by
  have hrl := rows_len bs
  refine ctr_ofG (fn := Go.Proofs.Try.f65) (by kernel_rfl) rfl rfl rfl ?_
  rintro ⟨n, w0, F0, M, pin⟩ hn
  cases hn
  refine PW_seq ?_
  -- region 0
  refine PW_region ?_
  refine P10 .none (S_assignJ rfl) ?_
  refine Pend ?_
  refine PW_seq ?_
  refine PW_seq ?_
  -- region 1
  refine PW_region ?_
  refine P10 .none (S_move rfl rfl) ?_
  refine P10 .none (by first | exact S_lenR rfl rfl | exact S_lenO rfl rfl | exact S_lenN rfl rfl | exact S_lenS rfl rfl) ?_
  refine P10 .none (S_gtr rfl rfl rfl) ?_
  refine Pend ?_
  refine PW_cond rfl (fun h1 => ?_) (fun h1 => ?_)
  · -- t5
    -- region 2
    refine PW_region ?_
    refine P10 .none (S_move rfl rfl) ?_
    refine P10 .none (S_sliceR rfl (.dfl 0) (.giv (k := 2000) _ rfl rfl) (by omega) (by have := of_decide_eq_true h1; omega) (by simp [rows]) rfl) ?_
    refine P10 .none (S_assign rfl rfl) ?_
    refine Pend ?_
    refine PW_seq ?_
    -- region 3
    refine PW_region ?_
    refine P10 .none (S_move rfl rfl) ?_
    refine P10 .none (S_build (gs := [_, _]) (.one rfl rfl rfl rfl (.nil _)) rfl rfl) ?_
    refine P22 .none (by first | exact S_boxA rfl rfl rfl rfl | exact S_boxL rfl rfl rfl rfl rfl) ?_
    refine P10 .none (S_assign rfl rfl) ?_
    refine Pend ?_
    refine PW_ret ⟨.inr rfl, ?_⟩
    exact ret_G (.cons (by first | exact .frz (.tmp rfl) .nil | exact .raw (.tmp rfl) rfl | exact .frz (.tmp rfl) (ExZ.whole rfl rfl rfl) | exact .raw (.gnd rfl rfl rfl) rfl | exact .raw (.gnd rfl rfl (Plan.cells_len _)) rfl) .nil) (by rfl) (by
    have e : rows (bs.take 2000) = ((rows bs).drop 0).take (2000 - 0) := by simp [rows]
    unfold Rd; rw [e]; exact ⟨rfl, trivial⟩) rfl rfl
  · -- not t5
    refine PW_skip ?_
    refine PW_seq ?_
    -- region 3
    refine PW_region ?_
    refine P10 .none (S_move rfl rfl) ?_
    refine P10 .none (S_build (gs := [_, _]) (.one rfl rfl rfl rfl (.nil _)) rfl rfl) ?_
    refine P22 .none (by first | exact S_boxA rfl rfl rfl rfl | exact S_boxL rfl rfl rfl rfl rfl) ?_
    refine P10 .none (S_assign rfl rfl) ?_
    refine Pend ?_
    refine PW_ret ⟨.inr rfl, ?_⟩
    exact ret_G (.cons (by first | exact .frz (.tmp rfl) .nil | exact .raw (.tmp rfl) rfl | exact .frz (.tmp rfl) (ExZ.whole rfl rfl rfl) | exact .raw (.gnd rfl rfl rfl) rfl | exact .raw (.gnd rfl rfl (Plan.cells_len _)) rfl) .nil) (by rfl) (by
    have e : bs.take 2000 = bs := List.take_of_length_le (by have := of_decide_eq_false h1; omega)
    unfold Rd; rw [e]; exact ⟨rfl, trivial⟩) rfl rfl
/- (*spec.reader).pick: 85, 3 -> [3] -/
set_option maxRecDepth 100000 in
theorem ctr_pick (bs : List Nat) (hb : ∀ b ∈ bs, b < 256) (p : Nat) (hp : p ≤ 1000000) (n : Int) : CtrG P 68 99 [.c (.optr 99 0 0), .c (.g (.int .i64 n))] [(99, ⟨150, 0, .gnd [Rd bs p]⟩)] (.c (.g (.int .i64 (pickV bs p n)))) [(99, ⟨150, 0, .gnd [Rd bs (p + 1)]⟩)] := by
  have hrl := rows_len bs
  have hpx := pickX_in hb hp
  have hcast : ((p + 1 : Nat) : Int) = (p : Int) + 1 := by omega
  refine ctr_ofG (fn := Go.Proofs.Try.f68) (by kernel_rfl) rfl rfl rfl ?_
  rintro ⟨n, w0, F0, M, pin⟩ hn
  cases hn
  refine PW_seq ?_
  -- region 0
  refine PW_region ?_
  refine P10 .none (S_assign rfl rfl) ?_
  refine Pend ?_
  refine PW_seq ?_
  -- region 1
  refine PW_region ?_
  refine P10 .none (S_move rfl rfl) ?_
  refine P10 .none (S_move rfl rfl) ?_
  refine P10 .none (by first | exact S_nilO rfl rfl | exact S_nilR rfl rfl) ?_
  refine P10 .none (by first | exact S_fieldO rfl rfl rfl | exact S_fieldR rfl rfl rfl) ?_
  refine P10 .none (by first | exact S_loadO1 rfl rfl rfl rfl rfl | exact S_loadR1 rfl rfl rfl | exact S_loadL1 rfl rfl rfl rfl rfl) ?_
  refine P10 .none (S_add rfl rfl rfl (And.intro (by omega) (by omega))) ?_
  refine P10 .none (by first | exact S_nilO rfl rfl | exact S_nilR rfl rfl) ?_
  refine P10 .none (by first | exact S_fieldO rfl rfl rfl | exact S_fieldR rfl rfl rfl) ?_
  refine P01 .none (by first | exact S_store1 rfl rfl rfl rfl rfl | exact S_storeL rfl rfl rfl rfl rfl | exact S_storeH rfl rfl rfl rfl | exact S_store1e rfl rfl rfl HK rfl (Nat.le_of_ble_eq_true rfl)) ?_
  refine Pend ?_
  refine PW_seq ?_
  refine PW_seq ?_
  -- region 2
  refine PW_region ?_
  refine P10 .none (S_move rfl rfl) ?_
  refine P10 .none (S_lss rfl rfl rfl) ?_
  refine P10 .none (S_move rfl rfl) ?_
  refine Psplit 17 rfl (fun h1 => ?_) (fun h1 => ?_)
  · -- t17 = true
    refine Pskip rfl rfl h1 rfl ?_
    refine Pskip rfl rfl h1 rfl ?_
    refine Pskip rfl rfl h1 rfl ?_
    refine Pskip rfl rfl h1 rfl ?_
    refine Pskip rfl rfl h1 rfl ?_
    refine Pskip rfl rfl h1 rfl ?_
    refine P10 .none (S_pickT rfl h1 rfl rfl) ?_
    refine Pend ?_
    refine PW_condT rfl rfl ?_
    refine PW_seq ?_
    -- region 3
    refine PW_region ?_
    refine P10 .none (S_assign rfl rfl) ?_
    refine Pend ?_
    refine PW_ret ⟨.inr rfl, ?_⟩
    exact ret_G (.cons (by first | exact .frz (.tmp rfl) .nil | exact .raw (.tmp rfl) rfl | exact .frz (.tmp rfl) (ExZ.whole rfl rfl rfl) | exact .raw (.gnd rfl rfl rfl) rfl | exact .raw (.gnd rfl rfl (Plan.cells_len _)) rfl) .nil) (by simp only [tupOf, pickV]; rw [if_pos (by simpa using h1)]) (by unfold Rd; rw [hcast]; exact ⟨rfl, trivial⟩) rfl rfl
  · -- t17 = false
    refine P10 (.yes rfl rfl h1) (S_move rfl rfl) ?_
    refine P10 (.yes rfl rfl h1) (by first | exact S_nilO rfl rfl | exact S_nilR rfl rfl) ?_
    refine P10 (.yes rfl rfl h1) (by first | exact S_fieldO rfl rfl rfl | exact S_fieldR rfl rfl rfl) ?_
    refine P10 (.yes rfl rfl h1) (by first | exact S_loadO1 rfl rfl rfl rfl rfl | exact S_loadR1 rfl rfl rfl | exact S_loadL1 rfl rfl rfl rfl rfl) ?_
    refine P10 (.yes rfl rfl h1) (by first | exact S_lenR rfl rfl | exact S_lenO rfl rfl | exact S_lenN rfl rfl | exact S_lenS rfl rfl) ?_
    refine P10 (.yes rfl rfl h1) (S_eql rfl rfl rfl) ?_
    refine P10 .none (S_pickF rfl h1 rfl rfl) ?_
    refine Pend ?_
    refine PW_cond rfl (fun h2 => ?_) (fun h2 => ?_)
    · -- t24
      refine PW_seq ?_
      -- region 3
      refine PW_region ?_
      refine P10 .none (S_assign rfl rfl) ?_
      refine Pend ?_
      refine PW_ret ⟨.inr rfl, ?_⟩
      exact ret_G (.cons (by first | exact .frz (.tmp rfl) .nil | exact .raw (.tmp rfl) rfl | exact .frz (.tmp rfl) (ExZ.whole rfl rfl rfl) | exact .raw (.gnd rfl rfl rfl) rfl | exact .raw (.gnd rfl rfl (Plan.cells_len _)) rfl) .nil) (by simp only [tupOf, pickV]; simp at h1; rw [if_neg (by omega), if_pos (by simpa [rows] using h2)]) (by unfold Rd; rw [hcast]; exact ⟨rfl, trivial⟩) rfl rfl
    · -- not t24
      refine PW_skip ?_
      refine PW_seq ?_
      have hn1 : 1 ≤ n := by simp at h1; omega
      have hbl : 0 < bs.length := by have := of_decide_eq_false h2; omega
      have e1 : (p : Int) + 1 - 1 = p := by omega
      have i1 : (p : Int) % ((rows bs).length : Int) = ((p % bs.length : Nat) : Int) := by rw [hrl]; exact (Int.natCast_emod _ _).symm
      have i2 : ((p : Int) * 7 + 3) % ((rows bs).length : Int) = (((p * 7 + 3) % bs.length : Nat) : Int) := by rw [hrl, Int.natCast_emod]; simp
      have k1 := rows_at (bs := bs) (j := p % bs.length) (Nat.mod_lt _ hbl)
      have k2 := rows_at (bs := bs) (j := (p * 7 + 3) % bs.length) (Nat.mod_lt _ hbl)
      have g1 := getD_le hb (p % bs.length)
      have g2 := getD_le hb ((p * 7 + 3) % bs.length)
      have g0 := getD_le hb p
      have q1 : 0 ≤ (p : Int) / ((rows bs).length : Int) := Int.ediv_nonneg (by omega) (by omega)
      have q2 : (p : Int) / ((rows bs).length : Int) ≤ p := Int.ediv_le_self _ (by omega)
      have hpx' := hpx
      have ex : pickX bs p = ((bs.getD (p % bs.length) 0 : Nat) : Int) * 131 + ((bs.getD ((p * 7 + 3) % bs.length) 0 : Nat) : Int) * 1117 + (p : Int) * 29 + (p : Int) / ((rows bs).length : Int) * 53 := by rw [hrl]; rfl
      rw [ex] at hpx'
      generalize (bs.getD (p % bs.length) 0) = c1 at *
      generalize (bs.getD ((p * 7 + 3) % bs.length) 0) = c2 at *
      --region 4
      refine PW_region ?_
      refine P10 .none (S_move rfl rfl) ?_
      refine P10 .none (by first | exact S_nilO rfl rfl | exact S_nilR rfl rfl) ?_
      refine P10 .none (by first | exact S_fieldO rfl rfl rfl | exact S_fieldR rfl rfl rfl) ?_
      refine P10 .none (by first | exact S_loadO1 rfl rfl rfl rfl rfl | exact S_loadR1 rfl rfl rfl | exact S_loadL1 rfl rfl rfl rfl rfl) ?_
      refine P10 .none (S_sub rfl rfl rfl (And.intro (by omega) (by omega))) ?_
      refine P10 .none (S_assign rfl rfl) ?_
      refine Pend ?_
      refine PW_seq ?_
      refine PW_seq ?_
      rw [e1]
      --region 5
      refine PW_region ?_
      refine P10 .none (S_move rfl rfl) ?_
      refine P10 .none (S_move rfl rfl) ?_
      refine P10 .none (by first | exact S_nilO rfl rfl | exact S_nilR rfl rfl) ?_
      refine P10 .none (by first | exact S_fieldO rfl rfl rfl | exact S_fieldR rfl rfl rfl) ?_
      refine P10 .none (by first | exact S_loadO1 rfl rfl rfl rfl rfl | exact S_loadR1 rfl rfl rfl | exact S_loadL1 rfl rfl rfl rfl rfl) ?_
      refine P10 .none (by first | exact S_lenR rfl rfl | exact S_lenO rfl rfl | exact S_lenN rfl rfl | exact S_lenS rfl rfl) ?_
      refine P10 .none (S_lss rfl rfl rfl) ?_
      refine Pend ?_
      refine PW_cond rfl (fun h3 => ?_) (fun h3 => ?_)
      · -- t36
        refine PW_seq ?_
        -- region 6
        refine PW_region ?_
        refine P10 .none (S_move rfl rfl) ?_
        refine P10 .none (by first | exact S_nilO rfl rfl | exact S_nilR rfl rfl) ?_
        refine P10 .none (by first | exact S_fieldO rfl rfl rfl | exact S_fieldR rfl rfl rfl) ?_
        refine P10 .none (by first | exact S_loadO1 rfl rfl rfl rfl rfl | exact S_loadR1 rfl rfl rfl | exact S_loadL1 rfl rfl rfl rfl rfl) ?_
        refine P10 .none (S_move rfl rfl) ?_
        refine P10 .none (by first | exact S_indexR rfl rfl rfl (rows_at (by have := of_decide_eq_true h3; omega)) rfl rfl | exact S_indexO rfl rfl rfl rfl rfl (rows_at (by have := of_decide_eq_true h3; omega)) rfl) ?_
        refine P10 .none (by first | exact S_loadO1 rfl rfl rfl rfl rfl | exact S_loadR1 rfl rfl rfl | exact S_loadL1 rfl rfl rfl rfl rfl) ?_
        refine P10 .none (S_conv rfl (And.intro (by omega) (by omega)) rfl) ?_
        refine P10 .none (S_move rfl rfl) ?_
        refine P10 .none (S_rem rfl rfl rfl (by omega) (by omega)) ?_
        refine P10 .none (S_assign rfl rfl) ?_
        refine Pend ?_
        refine PW_ret ⟨.inr rfl, ?_⟩
        exact ret_G (.cons (by first | exact .frz (.tmp rfl) .nil | exact .raw (.tmp rfl) rfl | exact .frz (.tmp rfl) (ExZ.whole rfl rfl rfl) | exact .raw (.gnd rfl rfl rfl) rfl | exact .raw (.gnd rfl rfl (Plan.cells_len _)) rfl) .nil) (by have h4 := of_decide_eq_true h3; simp only [tupOf, pickV]; rw [if_neg (by omega), if_neg (by omega), if_pos (by omega)]) (by unfold Rd; rw [hcast]; exact ⟨rfl, trivial⟩) rfl rfl
      · -- not t36
        refine PW_skip ?_
        refine PW_seq ?_
        -- region 7
        refine PW_draw (by kernel_rfl) ?_
        refine P10 .none (S_move rfl rfl) ?_
        refine P10 .none (by first | exact S_nilO rfl rfl | exact S_nilR rfl rfl) ?_
        refine P10 .none (by first | exact S_fieldO rfl rfl rfl | exact S_fieldR rfl rfl rfl) ?_
        refine P10 .none (by first | exact S_loadO1 rfl rfl rfl rfl rfl | exact S_loadR1 rfl rfl rfl | exact S_loadL1 rfl rfl rfl rfl rfl) ?_
        refine P10 .none (S_move rfl rfl) ?_
        refine P10 .none (S_move rfl rfl) ?_
        refine P10 .none (by first | exact S_nilO rfl rfl | exact S_nilR rfl rfl) ?_
        refine P10 .none (by first | exact S_fieldO rfl rfl rfl | exact S_fieldR rfl rfl rfl) ?_
        refine P10 .none (by first | exact S_loadO1 rfl rfl rfl rfl rfl | exact S_loadR1 rfl rfl rfl | exact S_loadL1 rfl rfl rfl rfl rfl) ?_
        refine P10 .none (by first | exact S_lenR rfl rfl | exact S_lenO rfl rfl | exact S_lenN rfl rfl | exact S_lenS rfl rfl) ?_
        refine P10 .none (S_rem rfl rfl rfl (by omega) (by omega)) ?_
        refine P10 .none (by first | exact S_indexR rfl rfl i1 k1 rfl rfl | exact S_indexO rfl rfl rfl rfl i1 k1 rfl) ?_
        refine P10 .none (by first | exact S_loadO1 rfl rfl rfl rfl rfl | exact S_loadR1 rfl rfl rfl | exact S_loadL1 rfl rfl rfl rfl rfl) ?_
        refine P10 .none (S_conv rfl (And.intro (by omega) (by omega)) rfl) ?_
        refine P10 .none (S_mul rfl rfl rfl (And.intro (by omega) (by omega))) ?_
        refine P10 .none (S_move rfl rfl) ?_
        refine P10 .none (by first | exact S_nilO rfl rfl | exact S_nilR rfl rfl) ?_
        refine P10 .none (by first | exact S_fieldO rfl rfl rfl | exact S_fieldR rfl rfl rfl) ?_
        refine P10 .none (by first | exact S_loadO1 rfl rfl rfl rfl rfl | exact S_loadR1 rfl rfl rfl | exact S_loadL1 rfl rfl rfl rfl rfl) ?_
        refine P10 .none (S_move rfl rfl) ?_
        refine P10 .none (S_mul rfl rfl rfl (And.intro (by omega) (by omega))) ?_
        refine P10 .none (S_add rfl rfl rfl (And.intro (by omega) (by omega))) ?_
        refine P10 .none (S_move rfl rfl) ?_
        refine P10 .none (by first | exact S_nilO rfl rfl | exact S_nilR rfl rfl) ?_
        refine P10 .none (by first | exact S_fieldO rfl rfl rfl | exact S_fieldR rfl rfl rfl) ?_
        refine P10 .none (by first | exact S_loadO1 rfl rfl rfl rfl rfl | exact S_loadR1 rfl rfl rfl | exact S_loadL1 rfl rfl rfl rfl rfl) ?_
        refine P10 .none (by first | exact S_lenR rfl rfl | exact S_lenO rfl rfl | exact S_lenN rfl rfl | exact S_lenS rfl rfl) ?_
        refine P10 .none (S_rem rfl rfl rfl (by omega) (by omega)) ?_
        refine P10 .none (by first | exact S_indexR rfl rfl i2 k2 rfl rfl | exact S_indexO rfl rfl rfl rfl i2 k2 rfl) ?_
        refine P10 .none (by first | exact S_loadO1 rfl rfl rfl rfl rfl | exact S_loadR1 rfl rfl rfl | exact S_loadL1 rfl rfl rfl rfl rfl) ?_
        refine P10 .none (S_conv rfl (And.intro (by omega) (by omega)) rfl) ?_
        refine P10 .none (S_mul rfl rfl rfl (And.intro (by omega) (by omega))) ?_
        refine P10 .none (S_add rfl rfl rfl (And.intro (by omega) (by omega))) ?_
        refine P10 .none (S_move rfl rfl) ?_
        refine P10 .none (S_mul rfl rfl rfl (And.intro (by omega) (by omega))) ?_
        refine P10 .none (S_add rfl rfl rfl (And.intro (by omega) (by omega))) ?_
        refine P10 .none (S_move rfl rfl) ?_
        refine P10 .none (S_move rfl rfl) ?_
        refine P10 .none (by first | exact S_nilO rfl rfl | exact S_nilR rfl rfl) ?_
        refine P10 .none (by first | exact S_fieldO rfl rfl rfl | exact S_fieldR rfl rfl rfl) ?_
        refine P10 .none (by first | exact S_loadO1 rfl rfl rfl rfl rfl | exact S_loadR1 rfl rfl rfl | exact S_loadL1 rfl rfl rfl rfl rfl) ?_
        refine P10 .none (by first | exact S_lenR rfl rfl | exact S_lenO rfl rfl | exact S_lenN rfl rfl | exact S_lenS rfl rfl) ?_
        refine P10 .none (S_quo rfl rfl rfl (by omega) (And.intro (by omega) (by omega))) ?_
        refine P10 .none (S_mul rfl rfl rfl (And.intro (by omega) (by omega))) ?_
        refine P10 .none (S_add rfl rfl rfl (And.intro (by omega) (by omega))) ?_
        refine P10 .none (S_assign rfl rfl) ?_
        refine Pend ⟨by kernel_rfl, ?_⟩
        refine PW_seq ?_
        -- region 8
        refine PW_region ?_
        refine P10 .none (S_move rfl rfl) ?_
        refine P10 .none (S_move rfl rfl) ?_
        refine P10 .none (S_quo rfl rfl rfl (by omega) (And.intro (by omega) (by omega))) ?_
        refine P10 .none (S_xor rfl rfl rfl (And.intro (by omega) (by omega)) (And.intro (by omega) (by omega))) ?_
        refine P10 .none (S_assign rfl rfl) ?_
        refine Pend ?_
        refine PW_seq ?_
        -- region 9
        refine PW_region ?_
        refine P10 .none (S_move rfl rfl) ?_
        refine P10 .none (S_move rfl rfl) ?_
        refine P10 .none (S_rem rfl rfl rfl (by omega) (by omega)) ?_
        refine P10 .none (S_assign rfl rfl) ?_
        refine Pend ?_
        refine PW_ret ⟨.inr rfl, ?_⟩
        exact ret_G (.cons (by first | exact .frz (.tmp rfl) .nil | exact .raw (.tmp rfl) rfl | exact .frz (.tmp rfl) (ExZ.whole rfl rfl rfl) | exact .raw (.gnd rfl rfl rfl) rfl | exact .raw (.gnd rfl rfl (Plan.cells_len _)) rfl) .nil) (by have h4 := of_decide_eq_false h3; simp only [tupOf, pickV]; rw [if_neg (by omega), if_neg (by omega), if_neg (by omega), ex]) (by unfold Rd; rw [hcast]; exact ⟨rfl, trivial⟩) rfl rfl
end Go.Proofs.Ytdmlfhmnlddooaa
namespace Go.Proofs.Ytdmlfhmnlddooaa
open Go Go.Pu

theorem enc_flat (l : List Int) : ∀ el ∈ l.map encI, ∀ x ∈ el, GV.Flat x := by
  intro el hel x hx
  obtain ⟨b, _, rfl⟩ := List.mem_map.1 hel
  simp only [encI, List.mem_singleton] at hx
  subst hx; exact flat_int _ _
def oneV (bs : List Nat) (p : Nat) (l : List Int) : Int := l.getD (pickV bs p l.length).toNat 0
theorem oneV_at (bs : List Nat) (p : Nat) {l : List Int} (hl : 0 < l.length) : ∃ (j : Nat) (x : Int), pickV bs p (l.length : Int) = j ∧ oneV bs p l = x ∧ l[j]? = some x := by
  obtain ⟨v1, v2, _⟩ := pickV_in bs p (l.length : Int)
  have v2 := v2 (by omega)
  refine ⟨(pickV bs p l.length).toNat, l[(pickV bs p l.length).toNat]'(by omega), by omega, ?_, List.getElem?_eq_getElem _⟩
  unfold oneV
  rw [List.getD_eq_getElem?_getD, List.getElem?_eq_getElem]; rfl
theorem oneV_mem (bs : List Nat) (p : Nat) {l : List Int} (hl : 0 < l.length) : oneV bs p l ∈ l := by
  obtain ⟨j, x, _, h2, h3⟩ := oneV_at bs p hl
  rw [h2]; exact List.mem_of_getElem? h3
def T.ncuts : T → Nat
  | .cut _ _ p q => 1 + p.ncuts + q.ncuts
  | _ => 0
theorem T.ncuts_le (t : T) : t.ncuts ≤ t.size := by
  induction t with
  | waste => simp [T.ncuts, T.size]
  | pane => simp [T.ncuts, T.size]
  | cut d a p q ihp ihq => simp only [T.ncuts, T.size]; omega

/- (*spec.reader).one: 85, 26 -> [3] -/
set_option maxRecDepth 100000 in
theorem ctr_one (bs : List Nat) (hb : ∀ b ∈ bs, b < 256) (p : Nat) (hp : p ≤ 1000000) (l : List Int) (hl : 0 < l.length ∧ l.length ≤ 1000) : CtrG P 67 12 [.c (.optr 12 0 0), .c (.g (.sl (l.map encI)))] [(12, ⟨150, 0, .gnd [Rd bs p]⟩)] (.c (.g (.int .i64 (oneV bs p l)))) [(12, ⟨150, 0, .gnd [Rd bs (p + 1)]⟩)] := by
  have hpk := ctr_pick bs hb p hp ((l.map encI).length : Int)
  obtain ⟨j, x, h1, h2, hx⟩ := oneV_at bs p hl.1
  have hlen : (l.map encI).length = l.length := List.length_map _
  have h1' : pickV bs p ((l.map encI).length : Int) = j := by rw [hlen]; exact h1
  rw [h1'] at hpk
  rw [h2]
  refine ctr_ofG (fn := Go.Proofs.Try.f67) (by kernel_rfl) rfl rfl rfl ?_
  rintro ⟨n, w0, F0, M, pin⟩ hn
  cases hn
  refine PW_seq ?_
  -- region 0
  refine PW_region ?_
  refine P10 .none (S_assign rfl rfl) ?_
  refine Pend ?_
  refine PW_seq ?_
  -- region 1
  refine PW_region ?_
  refine P10 .none (S_move rfl rfl) ?_
  refine P10 .none (S_move rfl rfl) ?_
  refine P10 .none (S_move rfl rfl) ?_
  refine P10 .none (by first | exact S_lenR rfl rfl | exact S_lenO rfl rfl | exact S_lenN rfl rfl | exact S_lenS rfl rfl) ?_
  refine P00 .none (S_callG [(99, 12)] [(99, 12)] false hpk (.ptr rfl rfl rfl (.g rfl .nil)) ⟨rfl, trivial⟩ rfl (.inl rfl) rfl) ?_
  refine P10 .none (by first | exact S_indexR rfl rfl rfl (map_at hx) rfl rfl | exact S_indexO rfl rfl rfl rfl rfl (map_at hx) rfl) ?_
  refine P10 .none (by first | exact S_loadO1 rfl rfl rfl rfl rfl | exact S_loadR1 rfl rfl rfl | exact S_loadL1 rfl rfl rfl rfl rfl) ?_
  refine P10 .none (S_assign rfl rfl) ?_
  refine Pend ?_
  refine PW_ret ⟨.inr rfl, ?_⟩
  exact ret_G (.cons (by first | exact .frz (.tmp rfl) .nil | exact .raw (.tmp rfl) rfl | exact .frz (.tmp rfl) (ExZ.whole rfl rfl rfl) | exact .raw (.gnd rfl rfl rfl) rfl | exact .raw (.gnd rfl rfl (Plan.cells_len _)) rfl) .nil) (by rfl) (by unfold Rd; exact ⟨rfl, trivial⟩) rfl rfl
/- spec.cutsOf: 34 -> [3] -/
set_option maxRecDepth 100000 in
theorem ctr_s_cutsOf : ∀ (t : T), t.size ≤ 100000 → Ctr P 135 [.g (.agg t.plan.cells)] (.g (.int .i64 t.ncuts)) := by
  intro t
  induction t using T.ind with
  | _ t ih =>
  intro hl
  have hcut := ctr_s_isCut t.plan
  rw [isCut_T] at hcut
  generalize ht : t.plan = pl at hcut
  obtain ⟨op, a, pane, turned, kids⟩ := pl
  refine ctr_of (fn := Go.Proofs.Try.f135) (by kernel_rfl) rfl rfl ?_
  rintro ⟨n, w0, F0, M, pin⟩ hn
  cases hn
  refine PW_seq ?_
  -- region 0
  refine PW_region ?_
  refine P22 .none (by first | exact S_boxA rfl rfl rfl rfl | exact S_boxL rfl rfl rfl rfl rfl | exact S_boxA rfl (Plan.cells_len _) (Plan.cells_one _) rfl) ?_
  refine P10 .none (S_assign rfl rfl) ?_
  refine Pend ?_
  refine PW_seq ?_
  refine PW_seq ?_
  -- region 1
  refine PW_region ?_
  refine P10 .none (by first | exact S_loadOW rfl rfl rfl rfl rfl | exact S_loadRW rfl rfl rfl | exact S_loadLA rfl rfl rfl (Nat.le_of_ble_eq_true rfl) rfl | exact S_loadOA rfl rfl rfl (Nat.le_of_ble_eq_true rfl) rfl | exact S_loadRA rfl (Nat.le_of_ble_eq_true rfl) rfl | exact S_loadRW rfl (Plan.cells_len _) rfl | exact S_loadOW rfl rfl rfl (Plan.cells_len _) rfl) ?_
  refine P00 .none (S_call (.one rfl .nil) rfl hcut (.inl rfl) rfl) ?_
  refine P10 .none (S_not rfl rfl) ?_
  refine Pend ?_
  refine PW_cond rfl (fun h1 => ?_) (fun h1 => ?_)
  · -- t5
    refine PW_seq ?_
    -- region 2
    refine PW_region ?_
    refine P10 .none (S_assign rfl rfl) ?_
    refine Pend ?_
    refine PW_ret ⟨.inr rfl, ?_⟩
    exact ret_g (.cons (.tmp rfl) (.c (by first | exact .nil | exact .g _ | exact Ex.whole rfl rfl rfl)) .nil) (by match t, h1 with
      | .waste, _ => rfl
      | .pane n tu, _ => rfl) trivial
  · -- not t5
    refine PW_skip ?_
    refine PW_seq ?_
    obtain ⟨d, a', p, q, rfl⟩ : ∃ d a' p q, t = .cut d a' p q := by
      match t, h1 with
      | .cut d a' p q, _ => exact ⟨d, a', p, q, rfl⟩
    obtain ⟨ihp, ihq⟩ := ih d a' p q rfl
    have hkids : kids = [p.plan, q.plan] := by simp [T.plan] at ht; simp [ht]
    subst hkids
    simp only [T.size] at hl
    have htp := p.ncuts_le
    have htq := q.ncuts_le
    --region 3
    refine PW_draw (by kernel_rfl) ?_
    refine P10 .none (by first | exact S_fieldO rfl rfl rfl | exact S_fieldR rfl rfl rfl) ?_
    refine P10 .none (by first | exact S_loadO1 rfl rfl rfl rfl rfl | exact S_loadR1 rfl rfl rfl | exact S_loadL1 rfl rfl rfl rfl rfl) ?_
    refine P10 .none (by first | exact S_indexR rfl rfl (k := 0) rfl rfl rfl rfl | exact S_indexO rfl rfl rfl rfl (k := 0) rfl rfl rfl | exact S_indexR rfl rfl (k := 0) rfl rfl (Plan.cells_len _) rfl) ?_
    refine P10 .none (by first | exact S_loadOW rfl rfl rfl rfl rfl | exact S_loadRW rfl rfl rfl | exact S_loadLA rfl rfl rfl (Nat.le_of_ble_eq_true rfl) rfl | exact S_loadOA rfl rfl rfl (Nat.le_of_ble_eq_true rfl) rfl | exact S_loadRA rfl (Nat.le_of_ble_eq_true rfl) rfl | exact S_loadRW rfl (Plan.cells_len _) rfl | exact S_loadOW rfl rfl rfl (Plan.cells_len _) rfl) ?_
    refine P00 .none (S_call (.one rfl .nil) rfl (ihp (by omega)) (.inl rfl) rfl) ?_
    refine P10 .none (S_add rfl rfl rfl (And.intro (by omega) (by omega))) ?_
    refine P10 .none (by first | exact S_fieldO rfl rfl rfl | exact S_fieldR rfl rfl rfl) ?_
    refine P10 .none (by first | exact S_loadO1 rfl rfl rfl rfl rfl | exact S_loadR1 rfl rfl rfl | exact S_loadL1 rfl rfl rfl rfl rfl) ?_
    refine P10 .none (by first | exact S_indexR rfl rfl (k := 1) rfl rfl rfl rfl | exact S_indexO rfl rfl rfl rfl (k := 1) rfl rfl rfl | exact S_indexR rfl rfl (k := 1) rfl rfl (Plan.cells_len _) rfl) ?_
    refine P10 .none (by first | exact S_loadOW rfl rfl rfl rfl rfl | exact S_loadRW rfl rfl rfl | exact S_loadLA rfl rfl rfl (Nat.le_of_ble_eq_true rfl) rfl | exact S_loadOA rfl rfl rfl (Nat.le_of_ble_eq_true rfl) rfl | exact S_loadRA rfl (Nat.le_of_ble_eq_true rfl) rfl | exact S_loadRW rfl (Plan.cells_len _) rfl | exact S_loadOW rfl rfl rfl (Plan.cells_len _) rfl) ?_
    refine P00 .none (S_call (.one rfl .nil) rfl (ihq (by omega)) (.inl rfl) rfl) ?_
    refine P10 .none (S_add rfl rfl rfl (And.intro (by omega) (by omega))) ?_
    refine P10 .none (S_assign rfl rfl) ?_
    refine Pend ⟨by kernel_rfl, ?_⟩
    refine PW_ret ⟨.inr rfl, ?_⟩
    exact ret_g (.cons (.tmp rfl) (.c (by first | exact .nil | exact .g _ | exact Ex.whole rfl rfl rfl)) .nil) (by simp only [gres, T.ncuts]; simp) trivial
end Go.Proofs.Ytdmlfhmnlddooaa
namespace Go.Proofs.Ytdmlfhmnlddooaa
open Go Go.Pu

/-- The first pane of a list, counted from i on, that fits as it is or turned. -/
def scan (k : Work) (w h : Int) : List Pane → Nat → Option (Nat × Bool)
  | [], _ => none
  | _ :: l, i => if paneFills k i false w h = true then some (i, false) else if paneFills k i true w h = true then some (i, true) else scan k w h l (i + 1)
def newPane (bs : List Nat) (p : Nat) (w h : Int) : Pane :=
  if pickV bs p 3 = 0 ∧ w ≠ h then ⟨h, w, true, pickV bs (p + 1) 2⟩ else ⟨w, h, decide (pickV bs (p + 1) 2 = 0), pickV bs (p + 2) 2⟩
def newAt (bs : List Nat) (p : Nat) (w h : Int) : Nat := if pickV bs p 3 = 0 ∧ w ≠ h then p + 2 else p + 3
def leafF (bs : List Nat) (W H : Int) (p : Nat) (panes : List Pane) (w h : Int) (c : Int) : T × List Pane × Nat :=
  if c = 7 then (.waste, panes, p) else match scan ⟨W, H, panes⟩ w h panes 0 with
  | some (i, tu) => (.pane i tu, panes, p)
  | none => if panes.length = 24 then (.waste, panes, p) else (.pane panes.length (decide (pickV bs p 3 = 0 ∧ w ≠ h)), panes ++ [newPane bs p w h], newAt bs p w h)
/-- What the generator grows: the plan, the panes, and how far it has read. -/
def growF (bs : List Nat) (W H : Int) : Nat → Nat → List Pane → Int → Int → T × List Pane × Nat
  | 0, p, panes, w, h => leafF bs W H (p + 1) panes w h (pickV bs p 8)
  | d + 1, p, panes, w, h =>
    if 1 < w ∧ (pickV bs p 8 < 3 ∨ pickV bs p 8 < 4 ∧ h = 1) then
      let a := 1 + pickV bs (p + 1) (w - 1)
      let r := growF bs W H d (p + 2) panes a h
      let s := growF bs W H d r.2.2 r.2.1 (w - a) h
      (.cut true a r.1 s.1, s.2.1, s.2.2)
    else if 1 < h ∧ pickV bs p 8 < 6 then
      let a := 1 + pickV bs (p + 1) (h - 1)
      let r := growF bs W H d (p + 2) panes w a
      let s := growF bs W H d r.2.2 r.2.1 w (h - a)
      (.cut false a r.1 s.1, s.2.1, s.2.2)
    else leafF bs W H (p + 1) panes w h (pickV bs p 8)
theorem leafF_in {bs : List Nat} {W H : Int} {p : Nat} {panes : List Pane} {w h c : Int} (hp : panes.length ≤ 24) :
    (leafF bs W H p panes w h c).1.size = 1 ∧ (leafF bs W H p panes w h c).2.1.length ≤ 24 ∧ p ≤ (leafF bs W H p panes w h c).2.2 ∧ (leafF bs W H p panes w h c).2.2 ≤ p + 3 := by
  unfold leafF
  split
  · exact ⟨rfl, hp, Nat.le_refl _, by simp⟩
  · split
    · exact ⟨rfl, hp, Nat.le_refl _, by simp⟩
    · split
      · exact ⟨rfl, hp, Nat.le_refl _, by simp⟩
      · refine ⟨rfl, by simp; omega, ?_, ?_⟩ <;> simp only [newAt] <;> split <;> omega
theorem growF_in {bs : List Nat} {W H : Int} : ∀ (d p : Nat) (panes : List Pane) (w h : Int), panes.length ≤ 24 →
    (growF bs W H d p panes w h).1.size ≤ 2 ^ (d + 1) - 1 ∧ (growF bs W H d p panes w h).2.1.length ≤ 24 ∧ p ≤ (growF bs W H d p panes w h).2.2 ∧ (growF bs W H d p panes w h).2.2 ≤ p + 4 * (2 ^ (d + 1) - 1) := by
  intro d
  induction d with
  | zero =>
    intro p panes w h hp
    obtain ⟨h1, h2, h3, h4⟩ := leafF_in (bs := bs) (W := W) (H := H) (p := p + 1) (w := w) (h := h) (c := pickV bs p 8) hp
    simp only [growF]
    refine ⟨by omega, h2, by omega, by omega⟩
  | succ d ih =>
    intro p panes w h hp
    have hpow : 2 ^ (d + 2) = 2 * 2 ^ (d + 1) := by rw [Nat.pow_succ 2 (d + 1)]; omega
    have hpos : 1 ≤ 2 ^ (d + 1) := Nat.one_le_two_pow
    simp only [growF]
    split
    · obtain ⟨a1, a2, a3, a4⟩ := ih (p + 2) panes (1 + pickV bs (p + 1) (w - 1)) h hp
      obtain ⟨b1, b2, b3, b4⟩ := ih _ _ (w - (1 + pickV bs (p + 1) (w - 1))) h a2
      simp only [T.size]
      refine ⟨by omega, b2, by omega, by omega⟩
    · split
      · obtain ⟨a1, a2, a3, a4⟩ := ih (p + 2) panes w (1 + pickV bs (p + 1) (h - 1)) hp
        obtain ⟨b1, b2, b3, b4⟩ := ih _ _ w (h - (1 + pickV bs (p + 1) (h - 1))) a2
        simp only [T.size]
        refine ⟨by omega, b2, by omega, by omega⟩
      · obtain ⟨h1, h2, h3, h4⟩ := leafF_in (bs := bs) (W := W) (H := H) (p := p + 1) (w := w) (h := h) (c := pickV bs p 8) hp
        refine ⟨by omega, h2, by omega, by omega⟩
theorem scan_at {k : Work} {w h : Int} {panes : List Pane} {i : Nat} {x : Pane} (hx : panes[i]? = some x) : scan k w h (panes.drop i) i = if paneFills k i false w h = true then some (i, false) else if paneFills k i true w h = true then some (i, true) else scan k w h (panes.drop (i + 1)) (i + 1) := by
  obtain ⟨hlt, rfl⟩ := List.getElem?_eq_some_iff.1 hx
  rw [List.drop_eq_getElem_cons hlt]
  rfl
def KOb (W H : Int) (n : Nat) : Pu.Obj := ⟨25, 0, .loc [[.g (.int .i64 W), .g (.int .i64 H), .osl 2 0 n]]⟩
theorem growF_one {bs : List Nat} {W H : Int} {d p : Nat} {panes : List Pane} {w h : Int} (hA : 1 ≤ d ∧ 1 < w ∧ (pickV bs p 8 < 3 ∨ pickV bs p 8 < 4 ∧ h = 1)) {r s : T × List Pane × Nat} (hr : r = growF bs W H (d - 1) (p + 2) panes (1 + pickV bs (p + 1) (w - 1)) h)
    (hs : s = growF bs W H (d - 1) r.2.2 r.2.1 (w - (1 + pickV bs (p + 1) (w - 1))) h) : growF bs W H d p panes w h = (.cut true (1 + pickV bs (p + 1) (w - 1)) r.1 s.1, s.2.1, s.2.2) := by
  cases d with
  | zero => omega
  | succ d => simp only [growF]; rw [if_pos hA.2, hs, hr]; rfl
theorem growF_two {bs : List Nat} {W H : Int} {d p : Nat} {panes : List Pane} {w h : Int} (hA : ¬ (1 ≤ d ∧ 1 < w ∧ (pickV bs p 8 < 3 ∨ pickV bs p 8 < 4 ∧ h = 1))) (hB : 1 ≤ d ∧ 1 < h ∧ pickV bs p 8 < 6) {r s : T × List Pane × Nat} (hr : r = growF bs W H (d - 1) (p + 2) panes w (1 + pickV bs (p + 1) (h - 1)))
    (hs : s = growF bs W H (d - 1) r.2.2 r.2.1 w (h - (1 + pickV bs (p + 1) (h - 1)))) : growF bs W H d p panes w h = (.cut false (1 + pickV bs (p + 1) (h - 1)) r.1 s.1, s.2.1, s.2.2) := by
  cases d with
  | zero => omega
  | succ d => simp only [growF]; rw [if_neg (fun h => hA ⟨hB.1, h⟩), if_pos hB.2, hs, hr]; rfl
theorem growF_leaf {bs : List Nat} {W H : Int} {d p : Nat} {panes : List Pane} {w h : Int} (hA : ¬ (1 ≤ d ∧ 1 < w ∧ (pickV bs p 8 < 3 ∨ pickV bs p 8 < 4 ∧ h = 1))) (hB : ¬ (1 ≤ d ∧ 1 < h ∧ pickV bs p 8 < 6)) : growF bs W H d p panes w h = leafF bs W H (p + 1) panes w h (pickV bs p 8) := by
  cases d with
  | zero => rfl
  | succ d => simp only [growF]; rw [if_neg (fun h => hA ⟨by omega, h⟩), if_neg (fun h => hB ⟨by omega, h⟩)]
theorem pane_up (i : Int) (tu : Bool) : GUp (.agg [.int .i64 1, .int .i64 0, .int .i64 i, .bool tu, .nil]) (.agg (T.pane i tu).plan.cells) :=
  .agg (.cons (.refl _) (.cons (.refl _) (.cons (.refl _) (.cons (.refl _) (.cons .nil .nil)))))
theorem waste_up : GUp (.agg [.int .i64 0, .int .i64 0, .int .i64 0, .bool false, .nil]) (.agg T.waste.plan.cells) :=
  .agg (.cons (.refl _) (.cons (.refl _) (.cons (.refl _) (.cons (.refl _) (.cons .nil .nil)))))

/- spec.grow: 85, 180, 3, 3, 3 -> [34] -/
set_option maxRecDepth 100000 in
theorem ctr_grow (bs : List Nat) (hb : ∀ b ∈ bs, b < 256) (W H : Int) : ∀ (d p : Nat) (panes : List Pane) (w h : Int), d ≤ 10 → p + 4 * 2 ^ (d + 1) ≤ 1000000 → panes.length ≤ 24 → 1 ≤ w ∧ w ≤ 200 → 1 ≤ h ∧ h ≤ 200 → ∀ R, R = growF bs W H d p panes w h →
    CtrG P 162 178 [.c (.optr 178 0 0), .c (.optr 179 0 0), .c (.g (.int .i64 w)), .c (.g (.int .i64 h)), .c (.g (.int .i64 ((d : Nat) : Int)))]
      [(178, ⟨150, 0, .gnd [Rd bs p]⟩), (179, KOb W H panes.length), (2, ⟨82, 0, .gnd (panes.map Pane.cells)⟩)]
      (.c (.g (.agg R.1.plan.cells))) [(178, ⟨150, 0, .gnd [Rd bs R.2.2]⟩), (179, KOb W H R.2.1.length), (2, ⟨82, 0, .gnd (R.2.1.map Pane.cells)⟩)] := by
  intro d
  induction d using Nat.strongRecOn with
  | _ d ih =>
  intro p panes w h hd hpb hp hw hh R hR
  have hpow0 : 2 ≤ 2 ^ (d + 1) := by rw [Nat.pow_succ]; have := Nat.one_le_two_pow (n := d); omega
  have hpk0 := ctr_pick bs hb p (by omega) 8
  have pin0 := pickV_in bs p 8
  refine ctr_ofG (fn := Go.Proofs.Try.f162) (by kernel_rfl) rfl rfl rfl ?_
  rintro ⟨n, w0, F0, M, pin⟩ hn
  cases hn
  refine PW_seq ?_
  -- region 0
  refine PW_region ?_
  refine P22 .none (S_alloc rfl) ?_
  refine Pend ?_
  refine PW_seq ?_
  -- region 1
  refine PW_region ?_
  refine P10 .none (S_move rfl rfl) ?_
  refine P00 .none (S_callG [(99, 178)] [(99, 178)] false hpk0 (.ptr rfl rfl rfl (.g rfl .nil)) ⟨rfl, trivial⟩ rfl (.inl rfl) rfl) ?_
  refine P10 .none (S_assign rfl rfl) ?_
  refine Pend ?_
  refine PW_seq ?_
  refine PW_join (ι := Bool) (fun u2 => [(0, .c (.optr 178 0 0)), (1, .c (.optr 179 0 0)), (2, .c (.g (.int .i64 w))), (3, .c (.g (.int .i64 h))), (4, .c (.g (.int .i64 ((d : Nat) : Int)))), (10, .c (.optr 10 0 0)), (11, .c (.g (.int .i64 (pickV bs p 8)))), (40, .c (.g (.bool u2)))]) (fun u2 => [(178, ⟨150, 0, .gnd [Rd bs (p + 1)]⟩), (179, KOb W H panes.length), (2, ⟨82, 0, .gnd (panes.map Pane.cells)⟩), (10, ⟨34, 0, .gnd [[.int .i64 0, .int .i64 0, .int .i64 0, .bool false, .nil]]⟩)]) (fun u2 => u2 = decide (1 ≤ d ∧ 1 < w ∧ (pickV bs p 8 < 3 ∨ pickV bs p 8 < 4 ∧ h = 1))) ?_ (fun u2 hu2 => ?_)
  · skip
    -- region 2
    refine PW_region ?_
    refine P10 .none (S_move rfl rfl) ?_
    refine P10 .none (S_gtr rfl rfl rfl) ?_
    refine P10 .none (S_move rfl rfl) ?_
    refine Psplit 25 rfl (fun h1 => ?_) (fun h1 => ?_)
    · -- t25 = true
      refine P10 (.yes rfl rfl h1) (S_move rfl rfl) ?_
      refine P10 (.yes rfl rfl h1) (S_gtr rfl rfl rfl) ?_
      refine P10 .none (S_pickT rfl h1 rfl rfl) ?_
      refine P10 .none (S_move rfl rfl) ?_
      refine Psplit 29 rfl (fun h2 => ?_) (fun h2 => ?_)
      · -- t29 = true
        refine P10 (.yes rfl rfl h2) (S_move rfl rfl) ?_
        refine P10 (.yes rfl rfl h2) (S_lss rfl rfl rfl) ?_
        refine P10 (.yes rfl rfl h2) (S_move rfl rfl) ?_
        refine Psplit 32 rfl (fun h3 => ?_) (fun h3 => ?_)
        · -- t32 = true
          refine Pskip rfl rfl h3 rfl ?_
          refine Pskip rfl rfl h3 rfl ?_
          refine Pskip rfl rfl h3 rfl ?_
          refine Pskip2 rfl rfl rfl ?_
          refine Pskip2 rfl rfl rfl ?_
          refine Pskip rfl rfl h3 rfl ?_
          refine P10 (.yes rfl rfl h2) (S_pickT rfl h3 rfl rfl) ?_
          refine P10 .none (S_pickT rfl h2 rfl rfl) ?_
          refine Pend ?_
          exact ⟨true, (by simp only [Bool.not_eq_true', Bool.not_eq_false', decide_eq_true_eq, decide_eq_false_iff_not] at h1 h2 h3; rw [Bool.eq_iff_iff]; simp only [Bool.not_eq_true', decide_eq_true_eq, decide_eq_false_iff_not, true_iff, Bool.false_eq_true, false_iff, eq_self]; omega), by repeat (first | exact trivial | refine And.intro rfl ?_ | refine And.intro (by show some (PV.c (LC.g _)) = some (PV.c (LC.g _)); simp only [*, decide_true, decide_false, eq_self, if_true, if_false, reduceIte, Bool.false_eq_true, Bool.and_false, Bool.false_and, Bool.true_and, Bool.and_true, Bool.or_true, Bool.true_or, Bool.false_or, Bool.or_false, Bool.not_true, Bool.not_false]) ?_), by repeat (first | exact trivial | refine And.intro rfl ?_ | refine And.intro (by show some (PV.c (LC.g _)) = some (PV.c (LC.g _)); simp only [*, decide_true, decide_false, eq_self, if_true, if_false, reduceIte, Bool.false_eq_true, Bool.and_false, Bool.false_and, Bool.true_and, Bool.and_true, Bool.or_true, Bool.true_or, Bool.false_or, Bool.or_false, Bool.not_true, Bool.not_false]) ?_)⟩
        · -- t32 = false
          refine P10 (.yes rfl rfl h3) (S_move rfl rfl) ?_
          refine P10 (.yes rfl rfl h3) (S_lss rfl rfl rfl) ?_
          refine P10 (.yes rfl rfl h3) (S_move rfl rfl) ?_
          refine Psplit 35 rfl (fun h4 => ?_) (fun h4 => ?_)
          · -- t35 = true
            refine P10 (.yes rfl rfl h4) (S_move rfl rfl) ?_
            refine P10 (.yes rfl rfl h4) (S_eql rfl rfl rfl) ?_
            refine P10 (.yes rfl rfl h3) (S_pickT rfl h4 rfl rfl) ?_
            refine P10 (.yes rfl rfl h2) (S_pickF rfl h3 rfl rfl) ?_
            refine P10 .none (S_pickT rfl h2 rfl rfl) ?_
            refine Pend ?_
            exact ⟨decide (h = 1), (by simp only [Bool.not_eq_true', Bool.not_eq_false', decide_eq_true_eq, decide_eq_false_iff_not] at h1 h2 h3 h4; rw [Bool.eq_iff_iff]; simp only [Bool.not_eq_true', decide_eq_true_eq, decide_eq_false_iff_not, true_iff, Bool.false_eq_true, false_iff, eq_self]; omega), by repeat (first | exact trivial | refine And.intro rfl ?_ | refine And.intro (by show some (PV.c (LC.g _)) = some (PV.c (LC.g _)); simp only [*, decide_true, decide_false, eq_self, if_true, if_false, reduceIte, Bool.false_eq_true, Bool.and_false, Bool.false_and, Bool.true_and, Bool.and_true, Bool.or_true, Bool.true_or, Bool.false_or, Bool.or_false, Bool.not_true, Bool.not_false]) ?_), by repeat (first | exact trivial | refine And.intro rfl ?_ | refine And.intro (by show some (PV.c (LC.g _)) = some (PV.c (LC.g _)); simp only [*, decide_true, decide_false, eq_self, if_true, if_false, reduceIte, Bool.false_eq_true, Bool.and_false, Bool.false_and, Bool.true_and, Bool.and_true, Bool.or_true, Bool.true_or, Bool.false_or, Bool.or_false, Bool.not_true, Bool.not_false]) ?_)⟩
          · -- t35 = false
            refine Pskip rfl rfl h4 rfl ?_
            refine Pskip rfl rfl h4 rfl ?_
            refine P10 (.yes rfl rfl h3) (S_pickF rfl h4 rfl rfl) ?_
            refine P10 (.yes rfl rfl h2) (S_pickF rfl h3 rfl rfl) ?_
            refine P10 .none (S_pickT rfl h2 rfl rfl) ?_
            refine Pend ?_
            exact ⟨false, (by simp only [Bool.not_eq_true', Bool.not_eq_false', decide_eq_true_eq, decide_eq_false_iff_not] at h1 h2 h3 h4; rw [Bool.eq_iff_iff]; simp only [Bool.not_eq_true', decide_eq_true_eq, decide_eq_false_iff_not, true_iff, Bool.false_eq_true, false_iff, eq_self]; omega), by repeat (first | exact trivial | refine And.intro rfl ?_ | refine And.intro (by show some (PV.c (LC.g _)) = some (PV.c (LC.g _)); simp only [*, decide_true, decide_false, eq_self, if_true, if_false, reduceIte, Bool.false_eq_true, Bool.and_false, Bool.false_and, Bool.true_and, Bool.and_true, Bool.or_true, Bool.true_or, Bool.false_or, Bool.or_false, Bool.not_true, Bool.not_false]) ?_), by repeat (first | exact trivial | refine And.intro rfl ?_ | refine And.intro (by show some (PV.c (LC.g _)) = some (PV.c (LC.g _)); simp only [*, decide_true, decide_false, eq_self, if_true, if_false, reduceIte, Bool.false_eq_true, Bool.and_false, Bool.false_and, Bool.true_and, Bool.and_true, Bool.or_true, Bool.true_or, Bool.false_or, Bool.or_false, Bool.not_true, Bool.not_false]) ?_)⟩
      · -- t29 = false
        refine Pskip rfl rfl h2 rfl ?_
        refine Pskip rfl rfl h2 rfl ?_
        refine Pskip rfl rfl h2 rfl ?_
        refine Pskip2 rfl rfl rfl ?_
        refine Pskip2 rfl rfl rfl ?_
        refine Pskip2 rfl rfl rfl ?_
        refine Pskip2 rfl rfl rfl ?_
        refine Pskip2 rfl rfl rfl ?_
        refine Pskip2 rfl rfl rfl ?_
        refine Pskip rfl rfl h2 rfl ?_
        refine P10 .none (S_pickF rfl h2 rfl rfl) ?_
        refine Pend ?_
        exact ⟨false, (by simp only [Bool.not_eq_true', Bool.not_eq_false', decide_eq_true_eq, decide_eq_false_iff_not] at h1 h2; rw [Bool.eq_iff_iff]; simp only [Bool.not_eq_true', decide_eq_true_eq, decide_eq_false_iff_not, true_iff, Bool.false_eq_true, false_iff, eq_self]; omega), by repeat (first | exact trivial | refine And.intro rfl ?_ | refine And.intro (by show some (PV.c (LC.g _)) = some (PV.c (LC.g _)); simp only [*, decide_true, decide_false, eq_self, if_true, if_false, reduceIte, Bool.false_eq_true, Bool.and_false, Bool.false_and, Bool.true_and, Bool.and_true, Bool.or_true, Bool.true_or, Bool.false_or, Bool.or_false, Bool.not_true, Bool.not_false]) ?_), by repeat (first | exact trivial | refine And.intro rfl ?_ | refine And.intro (by show some (PV.c (LC.g _)) = some (PV.c (LC.g _)); simp only [*, decide_true, decide_false, eq_self, if_true, if_false, reduceIte, Bool.false_eq_true, Bool.and_false, Bool.false_and, Bool.true_and, Bool.and_true, Bool.or_true, Bool.true_or, Bool.false_or, Bool.or_false, Bool.not_true, Bool.not_false]) ?_)⟩
    · -- t25 = false
      refine Pskip rfl rfl h1 rfl ?_
      refine Pskip rfl rfl h1 rfl ?_
      refine P10 .none (S_pickF rfl h1 rfl rfl) ?_
      refine P10 .none (S_move rfl rfl) ?_
      refine Pskip rfl rfl rfl rfl ?_
      refine Pskip rfl rfl rfl rfl ?_
      refine Pskip rfl rfl rfl rfl ?_
      refine Pskip2 rfl rfl rfl ?_
      refine Pskip2 rfl rfl rfl ?_
      refine Pskip2 rfl rfl rfl ?_
      refine Pskip2 rfl rfl rfl ?_
      refine Pskip2 rfl rfl rfl ?_
      refine Pskip2 rfl rfl rfl ?_
      refine Pskip rfl rfl rfl rfl ?_
      refine P10 .none (S_pickF rfl rfl rfl rfl) ?_
      refine Pend ?_
      exact ⟨false, (by simp only [Bool.not_eq_true', Bool.not_eq_false', decide_eq_true_eq, decide_eq_false_iff_not] at h1; rw [Bool.eq_iff_iff]; simp only [Bool.not_eq_true', decide_eq_true_eq, decide_eq_false_iff_not, true_iff, Bool.false_eq_true, false_iff, eq_self]; omega), by repeat (first | exact trivial | refine And.intro rfl ?_ | refine And.intro (by show some (PV.c (LC.g _)) = some (PV.c (LC.g _)); simp only [*, decide_true, decide_false, eq_self, if_true, if_false, reduceIte, Bool.false_eq_true, Bool.and_false, Bool.false_and, Bool.true_and, Bool.and_true, Bool.or_true, Bool.true_or, Bool.false_or, Bool.or_false, Bool.not_true, Bool.not_false]) ?_), by repeat (first | exact trivial | refine And.intro rfl ?_ | refine And.intro (by show some (PV.c (LC.g _)) = some (PV.c (LC.g _)); simp only [*, decide_true, decide_false, eq_self, if_true, if_false, reduceIte, Bool.false_eq_true, Bool.and_false, Bool.false_and, Bool.true_and, Bool.and_true, Bool.or_true, Bool.true_or, Bool.false_or, Bool.or_false, Bool.not_true, Bool.not_false]) ?_)⟩
  · skip
    refine PW_cond rfl (fun h5 => ?_) (fun h5 => ?_)
    · -- t40
      refine PW_seq ?_
      have hA := of_decide_eq_true (hu2.symm.trans h5)
      obtain ⟨d', rfl⟩ : ∃ d', d = d' + 1 := ⟨d - 1, by omega⟩
      have hpow : 2 ^ (d' + 1 + 1) = 2 * 2 ^ (d' + 1) := by rw [Nat.pow_succ 2 (d' + 1)]; omega
      have hpos : 1 ≤ 2 ^ (d' + 1) := Nat.one_le_two_pow
      have hpk1 := ctr_pick bs hb (p + 1) (by omega) (w - 1)
      obtain ⟨q1, q2, _⟩ := pickV_in bs (p + 1) (w - 1)
      have q2 := q2 (by omega)
      have gr := growF_in (bs := bs) (W := W) (H := H) d' (p + 2) panes (1 + pickV bs (p + 1) (w - 1)) (h) hp
      generalize hr : growF bs W H d' (p + 2) panes (1 + pickV bs (p + 1) (w - 1)) (h) = r at gr
      generalize hs : growF bs W H d' r.2.2 r.2.1 (w - (1 + pickV bs (p + 1) (w - 1))) (h) = s
      obtain rfl := hR.trans (growF_one hA (r := r) (s := s) hr.symm hs.symm)
      have ih1 := ih d' (by omega) (p + 2) panes (1 + pickV bs (p + 1) (w - 1)) (h) (by omega) (by omega) hp (by omega) (by omega) r hr.symm
      have ih2 := ih d' (by omega) r.2.2 r.2.1 (w - (1 + pickV bs (p + 1) (w - 1))) (h) (by omega) (by omega) gr.2.1 (by omega) (by omega) s hs.symm
      have ed : ((d' : Nat) : Int) = ((d' + 1 : Nat) : Int) - 1 := by omega
      rw [ed] at ih1 ih2
      --region 3
      refine PW_region ?_
      refine P10 .none (S_move rfl rfl) ?_
      refine P10 .none (S_move rfl rfl) ?_
      refine P10 .none (S_sub rfl rfl rfl (And.intro (by omega) (by omega))) ?_
      refine P00 .none (S_callG [(99, 178)] [(99, 178)] false hpk1 (.ptr rfl rfl rfl (.g rfl .nil)) ⟨rfl, trivial⟩ rfl (.inl rfl) rfl) ?_
      refine P10 .none (S_add rfl rfl rfl (And.intro (by omega) (by omega))) ?_
      refine P10 .none (S_assign rfl rfl) ?_
      refine Pend ?_
      refine PW_seq ?_
      -- region 4
      refine PW_region ?_
      refine P10 .none (S_move rfl rfl) ?_
      refine P10 .none (S_move rfl rfl) ?_
      refine P10 .none (S_move rfl rfl) ?_
      refine P10 .none (S_move rfl rfl) ?_
      refine P10 .none (S_move rfl rfl) ?_
      refine P10 .none (S_sub rfl rfl rfl (And.intro (by omega) (by omega))) ?_
      refine P00 .none (S_callG [(178, 178), (179, 179), (2, 2)] [(178, 178), (179, 179), (2, 2)] false (ih1) (.ptr rfl rfl rfl (.ptr rfl rfl rfl (.g rfl (.g rfl (.g rfl .nil))))) ⟨rfl, rfl, rfl, trivial⟩ rfl (.inl rfl) rfl) ?_
      refine P22 .none (S_alloc rfl) ?_
      refine P01 .none (by first | exact S_storeW rfl rfl rfl rfl rfl rfl | exact S_storeWe rfl rfl rfl HK rfl rfl rfl | exact S_storeP rfl rfl rfl rfl rfl (Nat.le_of_ble_eq_true rfl) | exact S_storeLW rfl rfl rfl rfl rfl rfl rfl | exact S_storeW rfl rfl rfl (Plan.cells_one _) (Plan.cells_len _) rfl) ?_
      refine Pend ?_
      refine PW_seq ?_
      -- region 5
      refine PW_draw (by kernel_rfl) ?_
      refine P10 .none (S_move rfl rfl) ?_
      refine P10 .none (by first | exact S_loadOW rfl rfl rfl rfl rfl | exact S_loadRW rfl rfl rfl | exact S_loadLA rfl rfl rfl (Nat.le_of_ble_eq_true rfl) rfl | exact S_loadOA rfl rfl rfl (Nat.le_of_ble_eq_true rfl) rfl | exact S_loadRA rfl (Nat.le_of_ble_eq_true rfl) rfl | exact S_loadRW rfl (Plan.cells_len _) rfl | exact S_loadOW rfl rfl rfl (Plan.cells_len _) rfl) ?_
      refine P10 .none (S_move rfl rfl) ?_
      refine P10 .none (S_move rfl rfl) ?_
      refine P10 .none (S_move rfl rfl) ?_
      refine P10 .none (S_move rfl rfl) ?_
      refine P10 .none (S_sub rfl rfl rfl (And.intro (by omega) (by omega))) ?_
      refine P10 .none (S_move rfl rfl) ?_
      refine P10 .none (S_move rfl rfl) ?_
      refine P10 .none (S_sub rfl rfl rfl (And.intro (by omega) (by omega))) ?_
      refine P00 .none (S_callG [(178, 178), (179, 179), (2, 2)] [(178, 178), (179, 179), (2, 2)] false (ih2) (.ptr rfl rfl rfl (.ptr rfl rfl rfl (.g rfl (.g rfl (.g rfl .nil))))) ⟨rfl, rfl, rfl, trivial⟩ rfl (.inl rfl) rfl) ?_
      refine P22 .none (S_lit (.agg rfl (Plan.cells_len _) (Plan.cells_one _) (.agg rfl (Plan.cells_len _) (Plan.cells_one _) (.nil _))) rfl rfl rfl) ?_
      refine P10 .none (S_buildL (.one rfl rfl rfl rfl (.one rfl rfl rfl rfl (.own rfl rfl rfl (.nil _)))) rfl) ?_
      refine P01 .none (by first | exact S_storeW rfl rfl rfl rfl rfl rfl | exact S_storeWe rfl rfl rfl HK rfl rfl rfl | exact S_storeP rfl rfl rfl rfl rfl (Nat.le_of_ble_eq_true rfl) | exact S_storeLW rfl rfl rfl rfl rfl rfl rfl | exact S_storeW rfl rfl rfl (Plan.cells_one _) (Plan.cells_len _) rfl) ?_
      refine Pend ⟨by kernel_rfl, ?_⟩
      refine PW_ret ⟨.inr rfl, ?_⟩
      exact ret_G (.cons (.aggL (.loc rfl rfl rfl) (.cons (.g _) (.cons (.g _) (.cons (.g _) (.cons (.g _) (.cons (ExZ.whole rfl rfl rfl) .nil)))))) .nil) rfl ⟨rfl, rfl, rfl, trivial⟩ rfl rfl
    · -- not t40
      refine PW_skip ?_
      refine PW_seq ?_
      refine PW_join (ι := Bool) (fun u6 => [(0, .c (.optr 178 0 0)), (1, .c (.optr 179 0 0)), (2, .c (.g (.int .i64 w))), (3, .c (.g (.int .i64 h))), (4, .c (.g (.int .i64 ((d : Nat) : Int)))), (10, .c (.optr 10 0 0)), (11, .c (.g (.int .i64 (pickV bs p 8)))), (75, .c (.g (.bool u6)))]) (fun u6 => [(178, ⟨150, 0, .gnd [Rd bs (p + 1)]⟩), (179, KOb W H panes.length), (2, ⟨82, 0, .gnd (panes.map Pane.cells)⟩), (10, ⟨34, 0, .gnd [[.int .i64 0, .int .i64 0, .int .i64 0, .bool false, .nil]]⟩)]) (fun u6 => u6 = decide (1 ≤ d ∧ 1 < h ∧ pickV bs p 8 < 6)) ?_ (fun u6 hu6 => ?_)
      · skip
        -- region 6
        refine PW_region ?_
        refine P10 .none (S_move rfl rfl) ?_
        refine P10 .none (S_gtr rfl rfl rfl) ?_
        refine P10 .none (S_move rfl rfl) ?_
        refine Psplit 68 rfl (fun h6 => ?_) (fun h6 => ?_)
        · -- t68 = true
          refine P10 (.yes rfl rfl h6) (S_move rfl rfl) ?_
          refine P10 (.yes rfl rfl h6) (S_gtr rfl rfl rfl) ?_
          refine P10 .none (S_pickT rfl h6 rfl rfl) ?_
          refine P10 .none (S_move rfl rfl) ?_
          refine Psplit 72 rfl (fun h7 => ?_) (fun h7 => ?_)
          · -- t72 = true
            refine P10 (.yes rfl rfl h7) (S_move rfl rfl) ?_
            refine P10 (.yes rfl rfl h7) (S_lss rfl rfl rfl) ?_
            refine P10 .none (S_pickT rfl h7 rfl rfl) ?_
            refine Pend ?_
            exact ⟨decide (pickV bs p 8 < 6), (by simp only [Bool.not_eq_true', Bool.not_eq_false', decide_eq_true_eq, decide_eq_false_iff_not] at h5 h6 h7; rw [Bool.eq_iff_iff]; simp only [Bool.not_eq_true', decide_eq_true_eq, decide_eq_false_iff_not, true_iff, Bool.false_eq_true, false_iff, eq_self]; omega), by repeat (first | exact trivial | refine And.intro rfl ?_ | refine And.intro (by show some (PV.c (LC.g _)) = some (PV.c (LC.g _)); simp only [*, decide_true, decide_false, eq_self, if_true, if_false, reduceIte, Bool.false_eq_true, Bool.and_false, Bool.false_and, Bool.true_and, Bool.and_true, Bool.or_true, Bool.true_or, Bool.false_or, Bool.or_false, Bool.not_true, Bool.not_false]) ?_), by repeat (first | exact trivial | refine And.intro rfl ?_ | refine And.intro (by show some (PV.c (LC.g _)) = some (PV.c (LC.g _)); simp only [*, decide_true, decide_false, eq_self, if_true, if_false, reduceIte, Bool.false_eq_true, Bool.and_false, Bool.false_and, Bool.true_and, Bool.and_true, Bool.or_true, Bool.true_or, Bool.false_or, Bool.or_false, Bool.not_true, Bool.not_false]) ?_)⟩
          · -- t72 = false
            refine Pskip rfl rfl h7 rfl ?_
            refine Pskip rfl rfl h7 rfl ?_
            refine P10 .none (S_pickF rfl h7 rfl rfl) ?_
            refine Pend ?_
            exact ⟨false, (by simp only [Bool.not_eq_true', Bool.not_eq_false', decide_eq_true_eq, decide_eq_false_iff_not] at h5 h6 h7; rw [Bool.eq_iff_iff]; simp only [Bool.not_eq_true', decide_eq_true_eq, decide_eq_false_iff_not, true_iff, Bool.false_eq_true, false_iff, eq_self]; omega), by repeat (first | exact trivial | refine And.intro rfl ?_ | refine And.intro (by show some (PV.c (LC.g _)) = some (PV.c (LC.g _)); simp only [*, decide_true, decide_false, eq_self, if_true, if_false, reduceIte, Bool.false_eq_true, Bool.and_false, Bool.false_and, Bool.true_and, Bool.and_true, Bool.or_true, Bool.true_or, Bool.false_or, Bool.or_false, Bool.not_true, Bool.not_false]) ?_), by repeat (first | exact trivial | refine And.intro rfl ?_ | refine And.intro (by show some (PV.c (LC.g _)) = some (PV.c (LC.g _)); simp only [*, decide_true, decide_false, eq_self, if_true, if_false, reduceIte, Bool.false_eq_true, Bool.and_false, Bool.false_and, Bool.true_and, Bool.and_true, Bool.or_true, Bool.true_or, Bool.false_or, Bool.or_false, Bool.not_true, Bool.not_false]) ?_)⟩
        · -- t68 = false
          refine Pskip rfl rfl h6 rfl ?_
          refine Pskip rfl rfl h6 rfl ?_
          refine P10 .none (S_pickF rfl h6 rfl rfl) ?_
          refine P10 .none (S_move rfl rfl) ?_
          refine Pskip rfl rfl rfl rfl ?_
          refine Pskip rfl rfl rfl rfl ?_
          refine P10 .none (S_pickF rfl rfl rfl rfl) ?_
          refine Pend ?_
          exact ⟨false, (by simp only [Bool.not_eq_true', Bool.not_eq_false', decide_eq_true_eq, decide_eq_false_iff_not] at h5 h6; rw [Bool.eq_iff_iff]; simp only [Bool.not_eq_true', decide_eq_true_eq, decide_eq_false_iff_not, true_iff, Bool.false_eq_true, false_iff, eq_self]; omega), by repeat (first | exact trivial | refine And.intro rfl ?_ | refine And.intro (by show some (PV.c (LC.g _)) = some (PV.c (LC.g _)); simp only [*, decide_true, decide_false, eq_self, if_true, if_false, reduceIte, Bool.false_eq_true, Bool.and_false, Bool.false_and, Bool.true_and, Bool.and_true, Bool.or_true, Bool.true_or, Bool.false_or, Bool.or_false, Bool.not_true, Bool.not_false]) ?_), by repeat (first | exact trivial | refine And.intro rfl ?_ | refine And.intro (by show some (PV.c (LC.g _)) = some (PV.c (LC.g _)); simp only [*, decide_true, decide_false, eq_self, if_true, if_false, reduceIte, Bool.false_eq_true, Bool.and_false, Bool.false_and, Bool.true_and, Bool.and_true, Bool.or_true, Bool.true_or, Bool.false_or, Bool.or_false, Bool.not_true, Bool.not_false]) ?_)⟩
      · skip
        refine PW_cond rfl (fun h8 => ?_) (fun h8 => ?_)
        · -- t75
          refine PW_seq ?_
          have hA := of_decide_eq_true (hu6.symm.trans h8)
          obtain ⟨d', rfl⟩ : ∃ d', d = d' + 1 := ⟨d - 1, by omega⟩
          have hpow : 2 ^ (d' + 1 + 1) = 2 * 2 ^ (d' + 1) := by rw [Nat.pow_succ 2 (d' + 1)]; omega
          have hpos : 1 ≤ 2 ^ (d' + 1) := Nat.one_le_two_pow
          have hpk1 := ctr_pick bs hb (p + 1) (by omega) (h - 1)
          obtain ⟨q1, q2, _⟩ := pickV_in bs (p + 1) (h - 1)
          have q2 := q2 (by omega)
          have gr := growF_in (bs := bs) (W := W) (H := H) d' (p + 2) panes (w) (1 + pickV bs (p + 1) (h - 1)) hp
          generalize hr : growF bs W H d' (p + 2) panes (w) (1 + pickV bs (p + 1) (h - 1)) = r at gr
          generalize hs : growF bs W H d' r.2.2 r.2.1 (w) (h - (1 + pickV bs (p + 1) (h - 1))) = s
          obtain rfl := hR.trans (growF_two (of_decide_eq_false (hu2.symm.trans h5)) hA (r := r) (s := s) hr.symm hs.symm)
          have ih1 := ih d' (by omega) (p + 2) panes (w) (1 + pickV bs (p + 1) (h - 1)) (by omega) (by omega) hp (by omega) (by omega) r hr.symm
          have ih2 := ih d' (by omega) r.2.2 r.2.1 (w) (h - (1 + pickV bs (p + 1) (h - 1))) (by omega) (by omega) gr.2.1 (by omega) (by omega) s hs.symm
          have ed : ((d' : Nat) : Int) = ((d' + 1 : Nat) : Int) - 1 := by omega
          rw [ed] at ih1 ih2
          --region 7
          refine PW_region ?_
          refine P10 .none (S_move rfl rfl) ?_
          refine P10 .none (S_move rfl rfl) ?_
          refine P10 .none (S_sub rfl rfl rfl (And.intro (by omega) (by omega))) ?_
          refine P00 .none (S_callG [(99, 178)] [(99, 178)] false hpk1 (.ptr rfl rfl rfl (.g rfl .nil)) ⟨rfl, trivial⟩ rfl (.inl rfl) rfl) ?_
          refine P10 .none (S_add rfl rfl rfl (And.intro (by omega) (by omega))) ?_
          refine P10 .none (S_assign rfl rfl) ?_
          refine Pend ?_
          refine PW_seq ?_
          -- region 8
          refine PW_region ?_
          refine P10 .none (S_move rfl rfl) ?_
          refine P10 .none (S_move rfl rfl) ?_
          refine P10 .none (S_move rfl rfl) ?_
          refine P10 .none (S_move rfl rfl) ?_
          refine P10 .none (S_move rfl rfl) ?_
          refine P10 .none (S_sub rfl rfl rfl (And.intro (by omega) (by omega))) ?_
          refine P00 .none (S_callG [(178, 178), (179, 179), (2, 2)] [(178, 178), (179, 179), (2, 2)] false (ih1) (.ptr rfl rfl rfl (.ptr rfl rfl rfl (.g rfl (.g rfl (.g rfl .nil))))) ⟨rfl, rfl, rfl, trivial⟩ rfl (.inl rfl) rfl) ?_
          refine P22 .none (S_alloc rfl) ?_
          refine P01 .none (by first | exact S_storeW rfl rfl rfl rfl rfl rfl | exact S_storeWe rfl rfl rfl HK rfl rfl rfl | exact S_storeP rfl rfl rfl rfl rfl (Nat.le_of_ble_eq_true rfl) | exact S_storeLW rfl rfl rfl rfl rfl rfl rfl | exact S_storeW rfl rfl rfl (Plan.cells_one _) (Plan.cells_len _) rfl) ?_
          refine Pend ?_
          refine PW_seq ?_
          -- region 9
          refine PW_draw (by kernel_rfl) ?_
          refine P10 .none (S_move rfl rfl) ?_
          refine P10 .none (by first | exact S_loadOW rfl rfl rfl rfl rfl | exact S_loadRW rfl rfl rfl | exact S_loadLA rfl rfl rfl (Nat.le_of_ble_eq_true rfl) rfl | exact S_loadOA rfl rfl rfl (Nat.le_of_ble_eq_true rfl) rfl | exact S_loadRA rfl (Nat.le_of_ble_eq_true rfl) rfl | exact S_loadRW rfl (Plan.cells_len _) rfl | exact S_loadOW rfl rfl rfl (Plan.cells_len _) rfl) ?_
          refine P10 .none (S_move rfl rfl) ?_
          refine P10 .none (S_move rfl rfl) ?_
          refine P10 .none (S_move rfl rfl) ?_
          refine P10 .none (S_move rfl rfl) ?_
          refine P10 .none (S_move rfl rfl) ?_
          refine P10 .none (S_sub rfl rfl rfl (And.intro (by omega) (by omega))) ?_
          refine P10 .none (S_move rfl rfl) ?_
          refine P10 .none (S_sub rfl rfl rfl (And.intro (by omega) (by omega))) ?_
          refine P00 .none (S_callG [(178, 178), (179, 179), (2, 2)] [(178, 178), (179, 179), (2, 2)] false (ih2) (.ptr rfl rfl rfl (.ptr rfl rfl rfl (.g rfl (.g rfl (.g rfl .nil))))) ⟨rfl, rfl, rfl, trivial⟩ rfl (.inl rfl) rfl) ?_
          refine P22 .none (S_lit (.agg rfl (Plan.cells_len _) (Plan.cells_one _) (.agg rfl (Plan.cells_len _) (Plan.cells_one _) (.nil _))) rfl rfl rfl) ?_
          refine P10 .none (S_buildL (.one rfl rfl rfl rfl (.one rfl rfl rfl rfl (.own rfl rfl rfl (.nil _)))) rfl) ?_
          refine P01 .none (by first | exact S_storeW rfl rfl rfl rfl rfl rfl | exact S_storeWe rfl rfl rfl HK rfl rfl rfl | exact S_storeP rfl rfl rfl rfl rfl (Nat.le_of_ble_eq_true rfl) | exact S_storeLW rfl rfl rfl rfl rfl rfl rfl | exact S_storeW rfl rfl rfl (Plan.cells_one _) (Plan.cells_len _) rfl) ?_
          refine Pend ⟨by kernel_rfl, ?_⟩
          refine PW_ret ⟨.inr rfl, ?_⟩
          exact ret_G (.cons (.aggL (.loc rfl rfl rfl) (.cons (.g _) (.cons (.g _) (.cons (.g _) (.cons (.g _) (.cons (ExZ.whole rfl rfl rfl) .nil)))))) .nil) rfl ⟨rfl, rfl, rfl, trivial⟩ rfl rfl
        · -- not t75
          refine PW_skip ?_
          refine PW_seq ?_
          refine PW_seq ?_
          have hR' := hR.trans (growF_leaf (of_decide_eq_false (hu2.symm.trans h5)) (of_decide_eq_false (hu6.symm.trans h8)))
          unfold leafF at hR'
          --region 10
          refine PW_region ?_
          refine P10 .none (S_move rfl rfl) ?_
          refine P10 .none (S_eql rfl rfl rfl) ?_
          refine Pend ?_
          refine PW_cond rfl (fun h9 => ?_) (fun h9 => ?_)
          · -- t102
            refine PW_seq ?_
            -- region 11
            refine PW_region ?_
            refine P10 .none (S_build (gs := [_, _, _, _, _]) (.nil _) rfl rfl) ?_
            refine P01 .none (by first | exact S_storeW rfl rfl rfl rfl rfl rfl | exact S_storeWe rfl rfl rfl HK rfl rfl rfl | exact S_storeP rfl rfl rfl rfl rfl (Nat.le_of_ble_eq_true rfl) | exact S_storeLW rfl rfl rfl rfl rfl rfl rfl | exact S_storeW rfl rfl rfl (Plan.cells_one _) (Plan.cells_len _) rfl) ?_
            refine Pend ?_
            refine PW_ret ⟨.inr rfl, ?_⟩
            rw [if_pos (of_decide_eq_true h9)] at hR'
            subst hR'
            exact ret_G (.cons (.frz (.gnd rfl rfl rfl) (.up waste_up)) .nil) rfl ⟨rfl, rfl, rfl, trivial⟩ rfl rfl
          · -- not t102
            refine PW_skip ?_
            refine PW_seq ?_
            refine PW_seq ?_
            rw [if_neg (of_decide_eq_false h9)] at hR'
            --region 12
            refine PW_region ?_
            refine P10 .none (S_assign rfl rfl) ?_
            refine Pend ?_
            refine PW_block ?_
            refine PW_iter (ι := Nat) (fun i => [(0, .c (.optr 178 0 0)), (1, .c (.optr 179 0 0)), (2, .c (.g (.int .i64 w))), (3, .c (.g (.int .i64 h))), (10, .c (.optr 10 0 0)), (16, .c (.g (.int .i64 (i : Nat))))]) (fun i => [(178, ⟨150, 0, .gnd [Rd bs (p + 1)]⟩), (179, KOb W H panes.length), (2, ⟨82, 0, .gnd (panes.map Pane.cells)⟩), (10, ⟨34, 0, .gnd [[.int .i64 0, .int .i64 0, .int .i64 0, .bool false, .nil]]⟩)]) (fun i => i ≤ panes.length ∧ scan ⟨W, H, panes⟩ w h panes 0 = scan ⟨W, H, panes⟩ w h (panes.drop i) i) (fun i => panes.length - i) 0 ⟨Nat.zero_le _, rfl⟩ (by repeat (first | exact trivial | refine And.intro rfl ?_)) (by repeat (first | exact trivial | refine And.intro rfl ?_)) (fun i hi => ?_)
            refine PW_seq ?_
            refine PW_seq ?_
            -- region 13
            refine PW_region ?_
            refine P10 .none (S_move rfl rfl) ?_
            refine P10 .none (S_move rfl rfl) ?_
            refine P10 .none (by first | exact S_nilO rfl rfl | exact S_nilR rfl rfl) ?_
            refine P10 .none (by first | exact S_fieldO rfl rfl rfl | exact S_fieldR rfl rfl rfl) ?_
            refine P10 .none (by first | exact S_loadO1 rfl rfl rfl rfl rfl | exact S_loadR1 rfl rfl rfl | exact S_loadL1 rfl rfl rfl rfl rfl) ?_
            refine P10 .none (by first | exact S_lenR rfl rfl | exact S_lenO rfl rfl | exact S_lenN rfl rfl | exact S_lenS rfl rfl) ?_
            refine P10 .none (S_lss rfl rfl rfl) ?_
            refine Pend ?_
            refine PW_cond rfl (fun h10 => ?_) (fun h10 => ?_)
            · -- t110
              refine PW_skip ?_
              refine PW_seq ?_
              refine PW_block ?_
              refine PW_seq ?_
              have hlt : i < panes.length := by have := of_decide_eq_true h10; omega
              obtain ⟨x, hx⟩ : ∃ x, panes[i]? = some x := ⟨panes[i], List.getElem?_eq_getElem _⟩
              have hsa := scan_at (k := ⟨W, H, panes⟩) (w := w) (h := h) hx
              --region 15
              refine PW_region ?_
              refine P10 .none (S_assign rfl rfl) ?_
              refine Pend ?_
              refine PW_block ?_
              refine PW_iter (ι := Nat) (fun j => [(0, .c (.optr 178 0 0)), (1, .c (.optr 179 0 0)), (2, .c (.g (.int .i64 w))), (3, .c (.g (.int .i64 h))), (10, .c (.optr 10 0 0)), (16, .c (.g (.int .i64 (i : Nat)))), (17, .c (.g (.int .i64 (j : Nat))))]) (fun j => [(178, ⟨150, 0, .gnd [Rd bs (p + 1)]⟩), (179, KOb W H panes.length), (2, ⟨82, 0, .gnd (panes.map Pane.cells)⟩), (10, ⟨34, 0, .gnd [[.int .i64 0, .int .i64 0, .int .i64 0, .bool false, .nil]]⟩)]) (fun j => j ≤ 2 ∧ (1 ≤ j → paneFills ⟨W, H, panes⟩ i false w h = false) ∧ (2 ≤ j → paneFills ⟨W, H, panes⟩ i true w h = false)) (fun j => 2 - j) 0 ⟨Nat.zero_le _, by omega, by omega⟩ (by repeat (first | exact trivial | refine And.intro rfl ?_)) (by repeat (first | exact trivial | refine And.intro rfl ?_)) (fun j hj => ?_)
              refine PW_seq ?_
              refine PW_seq ?_
              -- region 16
              refine PW_region ?_
              refine P10 .none (S_move rfl rfl) ?_
              refine P10 .none (S_lss rfl rfl rfl) ?_
              refine Pend ?_
              refine PW_cond rfl (fun h11 => ?_) (fun h11 => ?_)
              · -- t114
                refine PW_skip ?_
                refine PW_seq ?_
                refine PW_block ?_
                refine PW_seq ?_
                have hj2 : j = 0 ∨ j = 1 := by have := of_decide_eq_true h11; omega
                have hfit : CtrG P 141 1 [.c (.g (.agg (Work.cells ⟨W, H, panes⟩))), .c (.g (.agg (T.pane i (decide ((j : Int) = 1))).plan.cells)), .c (.g (.int .i64 w)), .c (.g (.int .i64 h))] [] _ [] := Ctr.toG (gs := [_, _, _, _]) (ctr_s_fitsPlan ⟨W, H, panes⟩ (by show panes.length ≤ _; omega) (.pane i (decide ((j : Int) = 1))) w h (by omega) (by omega))
                --region 18
                refine PW_region ?_
                refine P10 .none (S_move rfl rfl) ?_
                refine P10 .none (S_move rfl rfl) ?_
                refine P10 .none (S_eql rfl rfl rfl) ?_
                refine P10 .none (S_build (gs := [_, _, _, _, _]) (.one rfl rfl rfl rfl (.one rfl rfl rfl rfl (.one rfl rfl rfl rfl (.nil _)))) rfl rfl) ?_
                refine P22 .none (S_alloc rfl) ?_
                refine P01 .none (by first | exact S_storeW rfl rfl rfl rfl rfl rfl | exact S_storeWe rfl rfl rfl HK rfl rfl rfl | exact S_storeP rfl rfl rfl rfl rfl (Nat.le_of_ble_eq_true rfl) | exact S_storeLW rfl rfl rfl rfl rfl rfl rfl | exact S_storeW rfl rfl rfl (Plan.cells_one _) (Plan.cells_len _) rfl) ?_
                refine Pend ?_
                refine PW_seq ?_
                -- region 19
                refine PW_draw (by kernel_rfl) ?_
                refine P10 .none (S_move rfl rfl) ?_
                refine P10 .none (by first | exact S_nilO rfl rfl | exact S_nilR rfl rfl) ?_
                refine P10 .none (by first | exact S_loadOW rfl rfl rfl rfl rfl | exact S_loadRW rfl rfl rfl | exact S_loadLA rfl rfl rfl (Nat.le_of_ble_eq_true rfl) rfl | exact S_loadOA rfl rfl rfl (Nat.le_of_ble_eq_true rfl) rfl | exact S_loadRA rfl (Nat.le_of_ble_eq_true rfl) rfl) ?_
                refine P10 .none (by first | exact S_loadOW rfl rfl rfl rfl rfl | exact S_loadRW rfl rfl rfl | exact S_loadLA rfl rfl rfl (Nat.le_of_ble_eq_true rfl) rfl | exact S_loadOA rfl rfl rfl (Nat.le_of_ble_eq_true rfl) rfl | exact S_loadRA rfl (Nat.le_of_ble_eq_true rfl) rfl | exact S_loadRW rfl (Plan.cells_len _) rfl | exact S_loadOW rfl rfl rfl (Plan.cells_len _) rfl) ?_
                refine P10 .none (S_move rfl rfl) ?_
                refine P10 .none (S_move rfl rfl) ?_
                refine P00 .none (S_callG [] [] true hfit (.cons rfl (.aggG (.cons (.g _) (.cons (.g _) (.cons (.borw (by simp)) .nil)))) ⟨rfl, trivial⟩ (.up rfl (pane_up _ _) (.g rfl (.g rfl .nil)))) trivial rfl (.inr ⟨flat_bool _, by simp⟩) rfl) ?_
                refine Pend ⟨by kernel_rfl, ?_⟩
                refine PW_cond rfl (fun h12 => ?_) (fun h12 => ?_)
                · -- t127
                  refine PW_seq ?_
                  -- region 20
                  refine PW_region ?_
                  refine P10 .none (by first | exact S_loadOW rfl rfl rfl rfl rfl | exact S_loadRW rfl rfl rfl | exact S_loadLA rfl rfl rfl (Nat.le_of_ble_eq_true rfl) rfl | exact S_loadOA rfl rfl rfl (Nat.le_of_ble_eq_true rfl) rfl | exact S_loadRA rfl (Nat.le_of_ble_eq_true rfl) rfl | exact S_loadRW rfl (Plan.cells_len _) rfl | exact S_loadOW rfl rfl rfl (Plan.cells_len _) rfl) ?_
                  refine P01 .none (by first | exact S_storeW rfl rfl rfl rfl rfl rfl | exact S_storeWe rfl rfl rfl HK rfl rfl rfl | exact S_storeP rfl rfl rfl rfl rfl (Nat.le_of_ble_eq_true rfl) | exact S_storeLW rfl rfl rfl rfl rfl rfl rfl | exact S_storeW rfl rfl rfl (Plan.cells_one _) (Plan.cells_len _) rfl) ?_
                  refine Pend ?_
                  refine PW_ret ⟨.inr rfl, ?_⟩
                  have h12' : paneFills ⟨W, H, panes⟩ i (decide ((j : Int) = 1)) w h = true := h12
                  have hsc : scan ⟨W, H, panes⟩ w h panes 0 = some (i, decide ((j : Int) = 1)) := by
                    rw [hi.2, hsa]
                    rcases hj2 with rfl | rfl
                    · rw [if_pos (show paneFills ⟨W, H, panes⟩ i false w h = true from h12')]; rfl
                    · rw [if_neg (by rw [hj.2.1 (by omega)]; simp), if_pos (show paneFills ⟨W, H, panes⟩ i true w h = true from h12')]; rfl
                  rw [hsc] at hR'
                  subst hR'
                  exact ret_G (.cons (.frz (.gnd rfl rfl rfl) (.up (pane_up _ _))) .nil) rfl ⟨rfl, rfl, rfl, trivial⟩ rfl rfl
                · -- not t127
                  refine PW_skip ?_
                  -- region 17
                  refine PW_region ?_
                  refine P10 .none (S_move rfl rfl) ?_
                  refine P10 .none (S_add rfl rfl rfl (And.intro (by omega) (by omega))) ?_
                  refine P10 .none (S_assign rfl rfl) ?_
                  refine Pend ?_
                  exact ⟨j + 1, by omega, (by have h12' : paneFills ⟨W, H, panes⟩ i (decide ((j : Int) = 1)) w h = false := h12; rcases hj2 with rfl | rfl <;> first | exact ⟨by omega, fun _ => h12', by omega⟩ | exact ⟨by omega, fun _ => hj.2.1 (by omega), fun _ => h12'⟩), (by repeat (first | exact trivial | refine And.intro rfl ?_)), (by repeat (first | exact trivial | refine And.intro rfl ?_))⟩
              · -- not t114
                refine PW_exit ?_
                -- region 14
                refine PW_region ?_
                refine P10 .none (S_move rfl rfl) ?_
                refine P10 .none (S_add rfl rfl rfl (And.intro (by omega) (by omega))) ?_
                refine P10 .none (S_assign rfl rfl) ?_
                refine Pend ?_
                exact ⟨i + 1, by omega, (by have hj2 : j = 2 := (by have := of_decide_eq_false h11; have := hj.1; omega); subst hj2; exact ⟨by omega, by rw [hi.2, hsa, if_neg (by rw [hj.2.1 (by omega)]; simp), if_neg (by rw [hj.2.2 (by omega)]; simp)]⟩), (by repeat (first | exact trivial | refine And.intro rfl ?_)), (by repeat (first | exact trivial | refine And.intro rfl ?_))⟩
            · -- not t110
              refine PW_exit ?_
              refine PW_seq ?_
              refine PW_seq ?_
              have hi2 : i = panes.length := by have := of_decide_eq_false h10; have := hi.1; omega
              have hsn : scan ⟨W, H, panes⟩ w h panes 0 = none := by rw [hi.2, List.drop_of_length_le (by omega)]; rfl
              rw [hsn] at hR'
              simp only at hR'
              --region 21
              refine PW_region ?_
              refine P10 .none (S_move rfl rfl) ?_
              refine P10 .none (by first | exact S_nilO rfl rfl | exact S_nilR rfl rfl) ?_
              refine P10 .none (by first | exact S_fieldO rfl rfl rfl | exact S_fieldR rfl rfl rfl) ?_
              refine P10 .none (by first | exact S_loadO1 rfl rfl rfl rfl rfl | exact S_loadR1 rfl rfl rfl | exact S_loadL1 rfl rfl rfl rfl rfl) ?_
              refine P10 .none (by first | exact S_lenR rfl rfl | exact S_lenO rfl rfl | exact S_lenN rfl rfl | exact S_lenS rfl rfl) ?_
              refine P10 .none (S_eql rfl rfl rfl) ?_
              refine Pend ?_
              refine PW_cond rfl (fun h13 => ?_) (fun h13 => ?_)
              · -- t134
                refine PW_seq ?_
                -- region 22
                refine PW_region ?_
                refine P10 .none (S_build (gs := [_, _, _, _, _]) (.nil _) rfl rfl) ?_
                refine P01 .none (by first | exact S_storeW rfl rfl rfl rfl rfl rfl | exact S_storeWe rfl rfl rfl HK rfl rfl rfl | exact S_storeP rfl rfl rfl rfl rfl (Nat.le_of_ble_eq_true rfl) | exact S_storeLW rfl rfl rfl rfl rfl rfl rfl | exact S_storeW rfl rfl rfl (Plan.cells_one _) (Plan.cells_len _) rfl) ?_
                refine Pend ?_
                refine PW_ret ⟨.inr rfl, ?_⟩
                rw [if_pos (by have := of_decide_eq_true h13; omega)] at hR'
                subst hR'
                exact ret_G (.cons (.frz (.gnd rfl rfl rfl) (.up waste_up)) .nil) rfl ⟨rfl, rfl, rfl, trivial⟩ rfl rfl
              · -- not t134
                rw [if_neg (by have := of_decide_eq_false h13; omega)] at hR'
                have hl1 : [(newPane bs (p + 1) w h).cells].length = 1 := rfl
                subst hR'
                have hpk3 := ctr_pick bs hb (p + 1) (by omega) 3
                have hpk4 := ctr_pick bs hb (p + 2) (by omega) 2
                have hpk5 := ctr_pick bs hb (p + 3) (by omega) 2
                refine PW_skip ?_
                refine PW_join (ι := Bool) (fun u23 => [(0, .c (.optr 178 0 0)), (1, .c (.optr 179 0 0)), (2, .c (.g (.int .i64 w))), (3, .c (.g (.int .i64 h))), (10, .c (.optr 10 0 0)), (19, .c (.g (.bool u23)))]) (fun u23 => [(178, ⟨150, 0, .gnd [Rd bs (p + 2)]⟩), (179, KOb W H panes.length), (2, ⟨82, 0, .gnd (panes.map Pane.cells)⟩), (10, ⟨34, 0, .gnd [[.int .i64 0, .int .i64 0, .int .i64 0, .bool false, .nil]]⟩)]) (fun u23 => u23 = decide (pickV bs (p + 1) 3 = 0 ∧ w ≠ h)) ?_ (fun u23 hu23 => ?_)
                · skip
                  -- region 23
                  refine PW_region ?_
                  refine P10 .none (S_move rfl rfl) ?_
                  refine P00 .none (S_callG [(99, 178)] [(99, 178)] false hpk3 (.ptr rfl rfl rfl (.g rfl .nil)) ⟨rfl, trivial⟩ rfl (.inl rfl) rfl) ?_
                  refine P10 .none (S_eql rfl rfl rfl) ?_
                  refine P10 .none (S_move rfl rfl) ?_
                  refine Psplit 139 rfl (fun h14 => ?_) (fun h14 => ?_)
                  · -- t139 = true
                    refine P10 (.yes rfl rfl h14) (S_move rfl rfl) ?_
                    refine P10 (.yes rfl rfl h14) (S_move rfl rfl) ?_
                    refine P10 (.yes rfl rfl h14) (S_neq rfl rfl rfl) ?_
                    refine P10 .none (S_pickT rfl h14 rfl rfl) ?_
                    refine P10 .none (S_assign rfl rfl) ?_
                    refine Pend ?_
                    exact ⟨!decide (w = h), (by simp only [Bool.not_eq_true', Bool.not_eq_false', decide_eq_true_eq, decide_eq_false_iff_not] at h10 h13 h14; rw [Bool.eq_iff_iff]; simp only [Bool.not_eq_true', decide_eq_true_eq, decide_eq_false_iff_not, true_iff, Bool.false_eq_true, false_iff, eq_self]; omega), by repeat (first | exact trivial | refine And.intro rfl ?_ | refine And.intro (by show some (PV.c (LC.g _)) = some (PV.c (LC.g _)); simp only [*, decide_true, decide_false, eq_self, if_true, if_false, reduceIte, Bool.false_eq_true, Bool.and_false, Bool.false_and, Bool.true_and, Bool.and_true, Bool.or_true, Bool.true_or, Bool.false_or, Bool.or_false, Bool.not_true, Bool.not_false]) ?_), by repeat (first | exact trivial | refine And.intro rfl ?_ | refine And.intro (by show some (PV.c (LC.g _)) = some (PV.c (LC.g _)); simp only [*, decide_true, decide_false, eq_self, if_true, if_false, reduceIte, Bool.false_eq_true, Bool.and_false, Bool.false_and, Bool.true_and, Bool.and_true, Bool.or_true, Bool.true_or, Bool.false_or, Bool.or_false, Bool.not_true, Bool.not_false]) ?_)⟩
                  · -- t139 = false
                    refine Pskip rfl rfl h14 rfl ?_
                    refine Pskip rfl rfl h14 rfl ?_
                    refine Pskip rfl rfl h14 rfl ?_
                    refine P10 .none (S_pickF rfl h14 rfl rfl) ?_
                    refine P10 .none (S_assign rfl rfl) ?_
                    refine Pend ?_
                    exact ⟨false, (by simp only [Bool.not_eq_true', Bool.not_eq_false', decide_eq_true_eq, decide_eq_false_iff_not] at h10 h13 h14; rw [Bool.eq_iff_iff]; simp only [Bool.not_eq_true', decide_eq_true_eq, decide_eq_false_iff_not, true_iff, Bool.false_eq_true, false_iff, eq_self]; omega), by repeat (first | exact trivial | refine And.intro rfl ?_ | refine And.intro (by show some (PV.c (LC.g _)) = some (PV.c (LC.g _)); simp only [*, decide_true, decide_false, eq_self, if_true, if_false, reduceIte, Bool.false_eq_true, Bool.and_false, Bool.false_and, Bool.true_and, Bool.and_true, Bool.or_true, Bool.true_or, Bool.false_or, Bool.or_false, Bool.not_true, Bool.not_false]) ?_), by repeat (first | exact trivial | refine And.intro rfl ?_ | refine And.intro (by show some (PV.c (LC.g _)) = some (PV.c (LC.g _)); simp only [*, decide_true, decide_false, eq_self, if_true, if_false, reduceIte, Bool.false_eq_true, Bool.and_false, Bool.false_and, Bool.true_and, Bool.and_true, Bool.or_true, Bool.true_or, Bool.false_or, Bool.or_false, Bool.not_true, Bool.not_false]) ?_)⟩
                · skip
                  refine PW_join (ι := Pane × Nat) (fun u24 => [(0, .c (.optr 178 0 0)), (1, .c (.optr 179 0 0)), (2, .c (.g (.int .i64 w))), (3, .c (.g (.int .i64 h))), (10, .c (.optr 10 0 0)), (19, .c (.g (.bool u23))), (20, .c (.optr 20 0 0))]) (fun u24 => [(178, ⟨150, 0, .gnd [Rd bs (u24.2)]⟩), (179, KOb W H panes.length), (2, ⟨82, 0, .gnd (panes.map Pane.cells)⟩), (10, ⟨34, 0, .gnd [[.int .i64 0, .int .i64 0, .int .i64 0, .bool false, .nil]]⟩), (20, ⟨82, 0, .gnd [u24.1.cells]⟩)]) (fun u24 => u24 = if u23 = true then (⟨w, h, true, pickV bs (p + 2) 2⟩, p + 3) else (⟨w, h, decide (pickV bs (p + 2) 2 = 0), pickV bs (p + 3) 2⟩, p + 4)) ?_ (fun u24 hu24 => ?_)
                  · skip
                    -- region 24
                    refine PW_region ?_
                    refine P10 .none (S_move rfl rfl) ?_
                    refine P10 .none (S_move rfl rfl) ?_
                    refine P10 .none (S_move rfl rfl) ?_
                    refine P10 .none (S_move rfl rfl) ?_
                    refine Psplit 147 rfl (fun h15 => ?_) (fun h15 => ?_)
                    · -- t147 = true
                      refine Pskip rfl rfl h15 rfl ?_
                      refine Pskip rfl rfl h15 rfl ?_
                      refine Pskip rfl rfl h15 rfl ?_
                      refine P10 .none (S_pickT rfl h15 rfl rfl) ?_
                      refine P10 .none (S_move rfl rfl) ?_
                      refine P00 .none (S_callG [(99, 178)] [(99, 178)] false hpk4 (.ptr rfl rfl rfl (.g rfl .nil)) ⟨rfl, trivial⟩ rfl (.inl rfl) rfl) ?_
                      refine P10 .none (S_build (gs := [_, _, _, _]) (.one rfl rfl rfl rfl (.one rfl rfl rfl rfl (.one rfl rfl rfl rfl (.one rfl rfl rfl rfl (.nil _))))) rfl rfl) ?_
                      refine P22 .none (S_alloc rfl) ?_
                      refine P01 .none (by first | exact S_storeW rfl rfl rfl rfl rfl rfl | exact S_storeWe rfl rfl rfl HK rfl rfl rfl | exact S_storeP rfl rfl rfl rfl rfl (Nat.le_of_ble_eq_true rfl) | exact S_storeLW rfl rfl rfl rfl rfl rfl rfl) ?_
                      refine Pend ?_
                      exact ⟨(⟨w, h, true, pickV bs (p + 2) 2⟩, p + 3), (by rw [if_pos h15]), by repeat (first | exact trivial | refine And.intro rfl ?_ | refine And.intro (by show some (PV.c (LC.g _)) = some (PV.c (LC.g _)); simp only [*, decide_true, decide_false, eq_self, if_true, if_false, reduceIte, Bool.false_eq_true, Bool.and_false, Bool.false_and, Bool.true_and, Bool.and_true, Bool.or_true, Bool.true_or, Bool.false_or, Bool.or_false, Bool.not_true, Bool.not_false]) ?_), by repeat (first | exact trivial | refine And.intro rfl ?_ | refine And.intro (by show some (PV.c (LC.g _)) = some (PV.c (LC.g _)); simp only [*, decide_true, decide_false, eq_self, if_true, if_false, reduceIte, Bool.false_eq_true, Bool.and_false, Bool.false_and, Bool.true_and, Bool.and_true, Bool.or_true, Bool.true_or, Bool.false_or, Bool.or_false, Bool.not_true, Bool.not_false]) ?_)⟩
                    · -- t147 = false
                      refine P10 (.yes rfl rfl h15) (S_move rfl rfl) ?_
                      refine P00 (.yes rfl rfl h15) (S_callG [(99, 178)] [(99, 178)] false hpk4 (.ptr rfl rfl rfl (.g rfl .nil)) ⟨rfl, trivial⟩ rfl (.inl rfl) rfl) ?_
                      refine P10 (.yes rfl rfl h15) (S_eql rfl rfl rfl) ?_
                      refine P10 .none (S_pickF rfl h15 rfl rfl) ?_
                      refine P10 .none (S_move rfl rfl) ?_
                      refine P00 .none (S_callG [(99, 178)] [(99, 178)] false hpk5 (.ptr rfl rfl rfl (.g rfl .nil)) ⟨rfl, trivial⟩ rfl (.inl rfl) rfl) ?_
                      refine P10 .none (S_build (gs := [_, _, _, _]) (.one rfl rfl rfl rfl (.one rfl rfl rfl rfl (.one rfl rfl rfl rfl (.one rfl rfl rfl rfl (.nil _))))) rfl rfl) ?_
                      refine P22 .none (S_alloc rfl) ?_
                      refine P01 .none (by first | exact S_storeW rfl rfl rfl rfl rfl rfl | exact S_storeWe rfl rfl rfl HK rfl rfl rfl | exact S_storeP rfl rfl rfl rfl rfl (Nat.le_of_ble_eq_true rfl) | exact S_storeLW rfl rfl rfl rfl rfl rfl rfl) ?_
                      refine Pend ?_
                      exact ⟨(⟨w, h, decide (pickV bs (p + 2) 2 = 0), pickV bs (p + 3) 2⟩, p + 4), (by rw [if_neg (by rw [h15]; simp)]), by repeat (first | exact trivial | refine And.intro rfl ?_ | refine And.intro (by show some (PV.c (LC.g _)) = some (PV.c (LC.g _)); simp only [*, decide_true, decide_false, eq_self, if_true, if_false, reduceIte, Bool.false_eq_true, Bool.and_false, Bool.false_and, Bool.true_and, Bool.and_true, Bool.or_true, Bool.true_or, Bool.false_or, Bool.or_false, Bool.not_true, Bool.not_false]) ?_), by repeat (first | exact trivial | refine And.intro rfl ?_ | refine And.intro (by show some (PV.c (LC.g _)) = some (PV.c (LC.g _)); simp only [*, decide_true, decide_false, eq_self, if_true, if_false, reduceIte, Bool.false_eq_true, Bool.and_false, Bool.false_and, Bool.true_and, Bool.and_true, Bool.or_true, Bool.true_or, Bool.false_or, Bool.or_false, Bool.not_true, Bool.not_false]) ?_)⟩
                  · skip
                    refine PW_join (ι := Unit) (fun _ => [(0, .c (.optr 178 0 0)), (1, .c (.optr 179 0 0)), (2, .c (.g (.int .i64 w))), (3, .c (.g (.int .i64 h))), (10, .c (.optr 10 0 0)), (19, .c (.g (.bool u23))), (20, .c (.optr 20 0 0))]) (fun _ => [(178, ⟨150, 0, .gnd [Rd bs (newAt bs (p + 1) w h)]⟩), (179, KOb W H panes.length), (2, ⟨82, 0, .gnd (panes.map Pane.cells)⟩), (10, ⟨34, 0, .gnd [[.int .i64 0, .int .i64 0, .int .i64 0, .bool false, .nil]]⟩), (20, ⟨82, 0, .gnd [(newPane bs (p + 1) w h).cells]⟩)]) (fun _ => True) ?_ (fun _ _ => ?_)
                    ·
                      refine PW_seq ?_
                      -- region 25
                      refine PW_region ?_
                      refine P10 .none (S_move rfl rfl) ?_
                      refine Pend ?_
                      refine PW_cond rfl (fun h16 => ?_) (fun h16 => ?_)
                      · -- t155
                        refine PW_seq ?_
                        rw [if_pos h16] at hu24
                        subst hu24
                        have hc : pickV bs (p + 1) 3 = 0 ∧ w ≠ h := of_decide_eq_true (hu23.symm.trans h16)
                        have hnp : newPane bs (p + 1) w h = ⟨h, w, true, pickV bs (p + 2) 2⟩ := if_pos hc
                        have hna : newAt bs (p + 1) w h = p + 3 := if_pos hc
                        --region 26
                        refine PW_region ?_
                        refine P10 .none (S_move rfl rfl) ?_
                        refine P10 .none (by first | exact S_fieldO rfl rfl rfl | exact S_fieldR rfl rfl rfl) ?_
                        refine P01 .none (by first | exact S_store1 rfl rfl rfl rfl rfl | exact S_storeL rfl rfl rfl rfl rfl | exact S_storeH rfl rfl rfl rfl | exact S_store1e rfl rfl rfl HK rfl (Nat.le_of_ble_eq_true rfl)) ?_
                        refine Pend ?_
                        -- region 27
                        refine PW_region ?_
                        refine P10 .none (S_move rfl rfl) ?_
                        refine P10 .none (by first | exact S_fieldO rfl rfl rfl | exact S_fieldR rfl rfl rfl) ?_
                        refine P01 .none (by first | exact S_store1 rfl rfl rfl rfl rfl | exact S_storeL rfl rfl rfl rfl rfl | exact S_storeH rfl rfl rfl rfl | exact S_store1e rfl rfl rfl HK rfl (Nat.le_of_ble_eq_true rfl)) ?_
                        refine Pend ?_
                        exact ⟨(), trivial, (by repeat (first | exact trivial | refine And.intro rfl ?_)), (by rw [hnp, hna]; repeat (first | exact trivial | refine And.intro rfl ?_))⟩
                      · -- not t155
                        refine PW_skip ?_
                        rw [if_neg (by rw [h16]; simp)] at hu24
                        subst hu24
                        have hc : ¬ (pickV bs (p + 1) 3 = 0 ∧ w ≠ h) := of_decide_eq_false (hu23.symm.trans h16)
                        have hnp : newPane bs (p + 1) w h = ⟨w, h, decide (pickV bs (p + 2) 2 = 0), pickV bs (p + 3) 2⟩ := if_neg hc
                        have hna : newAt bs (p + 1) w h = p + 4 := if_neg hc
                        exact ⟨(), trivial, (by repeat (first | exact trivial | refine And.intro rfl ?_)), (by rw [hnp, hna]; repeat (first | exact trivial | refine And.intro rfl ?_))⟩
                    ·
                      refine PW_seq ?_
                      -- region 28
                      refine PW_draw (by kernel_rfl) ?_
                      refine P10 .none (S_move rfl rfl) ?_
                      refine P10 .none (S_move rfl rfl) ?_
                      refine P10 .none (by first | exact S_nilO rfl rfl | exact S_nilR rfl rfl) ?_
                      refine P10 .none (by first | exact S_fieldO rfl rfl rfl | exact S_fieldR rfl rfl rfl) ?_
                      refine P10 .none (by first | exact S_loadO1 rfl rfl rfl rfl rfl | exact S_loadR1 rfl rfl rfl | exact S_loadL1 rfl rfl rfl rfl rfl) ?_
                      refine P10 .none (by first | exact S_loadOW rfl rfl rfl rfl rfl | exact S_loadRW rfl rfl rfl | exact S_loadLA rfl rfl rfl (Nat.le_of_ble_eq_true rfl) rfl | exact S_loadOA rfl rfl rfl (Nat.le_of_ble_eq_true rfl) rfl | exact S_loadRA rfl (Nat.le_of_ble_eq_true rfl) rfl) ?_
                      refine P22 .none (S_lit (.agg rfl rfl rfl (.nil _)) rfl rfl rfl) ?_
                      refine P22 .none (S_appW rfl rfl rfl rfl (.ownW rfl rfl rfl) (fun l hl => by simp only [List.mem_singleton] at hl; subst hl; rfl) (by simp) (by omega) (by simp; omega) rfl) ?_
                      refine P10 .none (by first | exact S_nilO rfl rfl | exact S_nilR rfl rfl) ?_
                      refine P10 .none (by first | exact S_fieldO rfl rfl rfl | exact S_fieldR rfl rfl rfl) ?_
                      refine P01 .none (by first | exact S_store1 rfl rfl rfl rfl rfl | exact S_storeL rfl rfl rfl rfl rfl | exact S_storeH rfl rfl rfl rfl | exact S_store1e rfl rfl rfl HK rfl (Nat.le_of_ble_eq_true rfl)) ?_
                      refine Pend ⟨by kernel_rfl, ?_⟩
                      refine PW_seq ?_
                      -- region 29
                      refine PW_region ?_
                      refine P10 .none (S_move rfl rfl) ?_
                      refine P10 .none (by first | exact S_nilO rfl rfl | exact S_nilR rfl rfl) ?_
                      refine P10 .none (by first | exact S_fieldO rfl rfl rfl | exact S_fieldR rfl rfl rfl) ?_
                      refine P10 .none (by first | exact S_loadO1 rfl rfl rfl rfl rfl | exact S_loadR1 rfl rfl rfl | exact S_loadL1 rfl rfl rfl rfl rfl) ?_
                      refine P10 .none (by first | exact S_lenR rfl rfl | exact S_lenO rfl rfl | exact S_lenN rfl rfl | exact S_lenS rfl rfl) ?_
                      refine P10 .none (S_sub rfl rfl rfl (And.intro (by omega) (by omega))) ?_
                      refine P10 .none (S_move rfl rfl) ?_
                      refine P10 .none (S_build (gs := [_, _, _, _, _]) (.one rfl rfl rfl rfl (.one rfl rfl rfl rfl (.one rfl rfl rfl rfl (.nil _)))) rfl rfl) ?_
                      refine P01 .none (by first | exact S_storeW rfl rfl rfl rfl rfl rfl | exact S_storeWe rfl rfl rfl HK rfl rfl rfl | exact S_storeP rfl rfl rfl rfl rfl (Nat.le_of_ble_eq_true rfl) | exact S_storeLW rfl rfl rfl rfl rfl rfl rfl | exact S_storeW rfl rfl rfl (Plan.cells_one _) (Plan.cells_len _) rfl) ?_
                      refine Pend ?_
                      refine PW_ret ⟨.inr rfl, ?_⟩
                      subst hu23
                      have e9 : ((panes.length + 1 : Nat) : Int) - 1 = (panes.length : Int) := by omega
                      refine ret_G (.cons (.frz (.gnd rfl rfl rfl) (.up (pane_up _ _))) .nil) ?_ ?_ rfl rfl
                      · exact congrArg (fun z => PV.c (.g (.agg (T.pane z (decide (pickV bs (p + 1) 3 = 0 ∧ w ≠ h))).plan.cells))) e9
                      · simp only [List.map_append, List.length_append]; exact ⟨rfl, rfl, rfl, trivial⟩
end Go.Proofs.Ytdmlfhmnlddooaa
namespace Go.Proofs.Ytdmlfhmnlddooaa
open Go Go.Pu

def workF (bs : List Nat) (p : Nat) : Work × T × Nat :=
  let W := oneV bs p [12, 20, 8, 30, 1, 5]
  let H := oneV bs (p + 1) [10, 16, 6, 20, 1, 9]
  let R := growF bs W H (oneV bs (p + 2) [3, 2, 4, 1, 0]).toNat (p + 3) [] W H
  (⟨W, H, R.2.1⟩, R.1, R.2.2)
theorem work_in (bs : List Nat) (p : Nat) : 1 ≤ oneV bs p [12, 20, 8, 30, 1, 5] ∧ oneV bs p [12, 20, 8, 30, 1, 5] ≤ 30 := by
  have := oneV_mem bs p (l := [12, 20, 8, 30, 1, 5]) (by simp)
  generalize oneV bs p _ = x at this ⊢
  simp only [List.mem_cons, List.not_mem_nil, or_false] at this
  omega
theorem work_in2 (bs : List Nat) (p : Nat) : 1 ≤ oneV bs p [10, 16, 6, 20, 1, 9] ∧ oneV bs p [10, 16, 6, 20, 1, 9] ≤ 30 := by
  have := oneV_mem bs p (l := [10, 16, 6, 20, 1, 9]) (by simp)
  generalize oneV bs p _ = x at this ⊢
  simp only [List.mem_cons, List.not_mem_nil, or_false] at this
  omega
theorem work_in3 (bs : List Nat) (p : Nat) : 0 ≤ oneV bs p [3, 2, 4, 1, 0] ∧ oneV bs p [3, 2, 4, 1, 0] ≤ 4 := by
  have := oneV_mem bs p (l := [3, 2, 4, 1, 0]) (by simp)
  generalize oneV bs p _ = x at this ⊢
  simp only [List.mem_cons, List.not_mem_nil, or_false] at this
  omega
theorem workF_in (bs : List Nat) (p : Nat) : 1 ≤ (workF bs p).1.w ∧ (workF bs p).1.w ≤ 30 ∧ 1 ≤ (workF bs p).1.h ∧ (workF bs p).1.h ≤ 30 ∧ (workF bs p).1.panes.length ≤ 24 ∧ (workF bs p).2.1.size ≤ 31 ∧ p ≤ (workF bs p).2.2 ∧ (workF bs p).2.2 ≤ p + 127 := by
  have h1 := work_in bs p
  have h2 := work_in2 bs (p + 1)
  have h3 := work_in3 bs (p + 2)
  unfold workF
  simp only
  generalize oneV bs p [12, 20, 8, 30, 1, 5] = W at *
  generalize oneV bs (p + 1) [10, 16, 6, 20, 1, 9] = H at *
  generalize oneV bs (p + 2) [3, 2, 4, 1, 0] = D at *
  obtain ⟨d, rfl⟩ : ∃ d : Nat, D = d := ⟨D.toNat, by omega⟩
  have hg := growF_in (bs := bs) (W := W) (H := H) d (p + 3) [] W H (by simp)
  rw [Int.toNat_natCast]
  have hpow : 2 ^ (d + 1) ≤ 2 ^ 5 := Nat.pow_le_pow_right (by omega) (by omega)
  refine ⟨h1.1, h1.2, h2.1, h2.2, hg.2.1, by omega, by omega, by omega⟩
def pair2 (a b : List GV) : PV := .tup [(false, [.g (.agg a)]), (false, [.g (.agg b)])]
/-- The work and the plan, perhaps not valid. -/
def anyF (bs : List Nat) (p : Nat) : Work × Plan × Nat :=
  let k := (workF bs p).1
  let pl := (workF bs p).2.1.plan
  let q := (workF bs p).2.2
  let c := pickV bs q 20
  if c = 0 then (⟨oneV bs (q + 1) [0, 201, k.w + 1], k.h, k.panes⟩, pl, q + 2)
  else if c = 1 then (k, .mk pl.op (oneV bs (q + 1) [0, 200, -1]) pl.pane pl.turned pl.kids, q + 2)
  else if c = 2 then (k, .mk (oneV bs (q + 1) [4, -1, 1, 0]) pl.a pl.pane pl.turned pl.kids, q + 2)
  else if c = 3 then (k, .mk pl.op pl.a pl.pane pl.turned (pl.kids.take 1), q + 1)
  else if c = 4 then (k, .mk pl.op pl.a (oneV bs (q + 1) [1, 30, -1]) pl.turned pl.kids, q + 2)
  else if c = 5 then (k, .mk pl.op pl.a pl.pane (!pl.turned) pl.kids, q + 1)
  else (k, pl, q + 1)
theorem anyF_in (bs : List Nat) (p : Nat) : (anyF bs p).1.panes.length ≤ 24 ∧ p ≤ (anyF bs p).2.2 ∧ (anyF bs p).2.2 ≤ p + 129 := by
  obtain ⟨h1, h2, h3, h4, h5, h6, h7, h8⟩ := workF_in bs p
  unfold anyF
  simp only
  repeat' split
  all_goals (refine ⟨h5, ?_, ?_⟩ <;> dsimp only <;> omega)

/- spec.workPlan: 85 -> [25, 34] -/
set_option maxRecDepth 100000 in
theorem ctr_workPlan (bs : List Nat) (hb : ∀ b ∈ bs, b < 256) (p : Nat) (hp : p ≤ 900000) : CtrG P 134 24 [.c (.optr 24 0 0)] [(24, ⟨150, 0, .gnd [Rd bs p]⟩)] (pair2 (workF bs p).1.cells (workF bs p).2.1.plan.cells) [(24, ⟨150, 0, .gnd [Rd bs (workF bs p).2.2]⟩)] := by
  have hW := work_in bs p
  have hH := work_in2 bs (p + 1)
  have hD := work_in3 bs (p + 2)
  have ho1 := ctr_one bs hb p (by omega) [12, 20, 8, 30, 1, 5] (by simp)
  have ho2 := ctr_one bs hb (p + 1) (by omega) [10, 16, 6, 20, 1, 9] (by simp)
  have ho3 := ctr_one bs hb (p + 2) (by omega) [3, 2, 4, 1, 0] (by simp)
  unfold workF
  simp only
  generalize oneV bs p [12, 20, 8, 30, 1, 5] = W at *
  generalize oneV bs (p + 1) [10, 16, 6, 20, 1, 9] = H at *
  generalize oneV bs (p + 2) [3, 2, 4, 1, 0] = D at *
  obtain ⟨d, rfl⟩ : ∃ d : Nat, D = d := ⟨D.toNat, by omega⟩
  rw [Int.toNat_natCast]
  have hpow : 2 ^ (d + 1) ≤ 2 ^ 5 := Nat.pow_le_pow_right (by omega) (by omega)
  have hgrow := ctr_grow bs hb W H d (p + 3) [] W H (by omega) (by omega) (by simp) (by omega) (by omega) _ rfl
  generalize growF bs W H d (p + 3) [] W H = R at hgrow ⊢
  refine ctr_ofG (fn := Go.Proofs.Try.f134) (by kernel_rfl) rfl rfl rfl ?_
  rintro ⟨n, w0, F0, M, pin⟩ hn
  cases hn
  refine PW_seq ?_
  -- region 0
  refine PW_region ?_
  refine P22 .none (S_alloc rfl) ?_
  refine P22 .none (S_alloc rfl) ?_
  refine Pend ?_
  refine PW_seq ?_
  -- region 1
  refine PW_region ?_
  refine P10 .none (S_move rfl rfl) ?_
  refine P22 .none (S_lit (.one rfl rfl rfl (.one rfl rfl rfl (.one rfl rfl rfl (.one rfl rfl rfl (.one rfl rfl rfl (.one rfl rfl rfl (.nil _))))))) rfl rfl rfl) ?_
  refine P00 .none (S_callG [(12, 24)] [(12, 24)] false ho1 (.ptr rfl rfl rfl (.borw rfl rfl rfl .nil)) ⟨rfl, trivial⟩ rfl (.inl rfl) rfl) ?_
  refine P10 .none (S_move rfl rfl) ?_
  refine P22 .none (S_lit (.one rfl rfl rfl (.one rfl rfl rfl (.one rfl rfl rfl (.one rfl rfl rfl (.one rfl rfl rfl (.one rfl rfl rfl (.nil _))))))) rfl rfl rfl) ?_
  refine P00 .none (S_callG [(12, 24)] [(12, 24)] false ho2 (.ptr rfl rfl rfl (.borw rfl rfl rfl .nil)) ⟨rfl, trivial⟩ rfl (.inl rfl) rfl) ?_
  refine P10 .none (S_build (gs := [_, _, _]) (.one rfl rfl rfl rfl (.one rfl rfl rfl rfl (.nil _))) rfl rfl) ?_
  refine P22 .none (S_alloc rfl) ?_
  refine P01 .none (by first | exact S_storeW rfl rfl rfl rfl rfl rfl | exact S_storeWe rfl rfl rfl HK rfl rfl rfl | exact S_storeP rfl rfl rfl rfl rfl (Nat.le_of_ble_eq_true rfl) | exact S_storeLW rfl rfl rfl rfl rfl rfl rfl) ?_
  refine Pend ?_
  refine PW_seq ?_
  refine PW_nilC 4 1 2 82 rfl rfl rfl rfl ?_
  --region 2
  refine PW_draw (by kernel_rfl) ?_
  refine P10 .none (S_move rfl rfl) ?_
  refine P10 .none (by first | exact S_fieldO rfl rfl rfl | exact S_fieldR rfl rfl rfl) ?_
  refine P10 .none (by first | exact S_loadO1 rfl rfl rfl rfl rfl | exact S_loadR1 rfl rfl rfl | exact S_loadL1 rfl rfl rfl rfl rfl) ?_
  refine P10 .none (by first | exact S_fieldO rfl rfl rfl | exact S_fieldR rfl rfl rfl) ?_
  refine P10 .none (by first | exact S_loadO1 rfl rfl rfl rfl rfl | exact S_loadR1 rfl rfl rfl | exact S_loadL1 rfl rfl rfl rfl rfl) ?_
  refine P10 .none (S_move rfl rfl) ?_
  refine P22 .none (S_lit (.one rfl rfl rfl (.one rfl rfl rfl (.one rfl rfl rfl (.one rfl rfl rfl (.one rfl rfl rfl (.nil _)))))) rfl rfl rfl) ?_
  refine P00 .none (S_callG [(12, 24)] [(12, 24)] false ho3 (.ptr rfl rfl rfl (.borw rfl rfl rfl .nil)) ⟨rfl, trivial⟩ rfl (.inl rfl) rfl) ?_
  refine P00 .none (S_callG [(178, 24), (179, 4), (2, 1)] [(178, 24), (179, 4), (2, 1)] false hgrow (.ptr rfl rfl rfl (.ptr rfl rfl rfl (.g rfl (.g rfl (.g rfl .nil))))) ⟨rfl, rfl, rfl, trivial⟩ rfl (.inl rfl) rfl) ?_
  refine P22 .none (S_alloc rfl) ?_
  refine P01 .none (by first | exact S_storeW rfl rfl rfl rfl rfl rfl | exact S_storeWe rfl rfl rfl HK rfl rfl rfl | exact S_storeP rfl rfl rfl rfl rfl (Nat.le_of_ble_eq_true rfl) | exact S_storeLW rfl rfl rfl rfl rfl rfl rfl | exact S_storeW rfl rfl rfl (Plan.cells_one _) (Plan.cells_len _) rfl) ?_
  refine Pend ⟨by kernel_rfl, ?_⟩
  refine PW_seq ?_
  -- region 3
  refine PW_draw (by kernel_rfl) ?_
  refine P10 .none (by first | exact S_loadOW rfl rfl rfl rfl rfl | exact S_loadRW rfl rfl rfl | exact S_loadLA rfl rfl rfl (Nat.le_of_ble_eq_true rfl) rfl | exact S_loadOA rfl rfl rfl (Nat.le_of_ble_eq_true rfl) rfl | exact S_loadRA rfl (Nat.le_of_ble_eq_true rfl) rfl) ?_
  refine P10 .none (by first | exact S_loadOW rfl rfl rfl rfl rfl | exact S_loadRW rfl rfl rfl | exact S_loadLA rfl rfl rfl (Nat.le_of_ble_eq_true rfl) rfl | exact S_loadOA rfl rfl rfl (Nat.le_of_ble_eq_true rfl) rfl | exact S_loadRA rfl (Nat.le_of_ble_eq_true rfl) rfl | exact S_loadRW rfl (Plan.cells_len _) rfl | exact S_loadOW rfl rfl rfl (Plan.cells_len _) rfl) ?_
  refine P01 .none (by first | exact S_storeW rfl rfl rfl rfl rfl rfl | exact S_storeWe rfl rfl rfl HK rfl rfl rfl | exact S_storeP rfl rfl rfl rfl rfl (Nat.le_of_ble_eq_true rfl) | exact S_storeLW rfl rfl rfl rfl rfl rfl rfl) ?_
  refine P01 .none (by first | exact S_storeW rfl rfl rfl rfl rfl rfl | exact S_storeWe rfl rfl rfl HK rfl rfl rfl | exact S_storeP rfl rfl rfl rfl rfl (Nat.le_of_ble_eq_true rfl) | exact S_storeLW rfl rfl rfl rfl rfl rfl rfl | exact S_storeW rfl rfl rfl (Plan.cells_one _) (Plan.cells_len _) rfl) ?_
  refine Pend ⟨by kernel_rfl, ?_⟩
  refine PW_ret ⟨.inr rfl, ?_⟩
  exact ret_G (.cons (.aggL (.loc rfl rfl rfl) (.cons (.g _) (.cons (.g _) (.cons (ExZ.whole rfl rfl (by simp)) .nil)))) (.cons (.frz (.gnd rfl rfl (Plan.cells_len _)) (.g _)) .nil)) rfl ⟨rfl, trivial⟩ rfl rfl
end Go.Proofs.Ytdmlfhmnlddooaa
namespace Go.Proofs.Ytdmlfhmnlddooaa
open Go Go.Pu

/- spec.anyPlan: 85 -> [25, 34] -/
set_option maxRecDepth 100000 in
theorem ctr_anyPlan (bs : List Nat) (hb : ∀ b ∈ bs, b < 256) (p : Nat) (hp : p ≤ 800000) : CtrG P 136 58 [.c (.optr 58 0 0)] [(58, ⟨150, 0, .gnd [Rd bs p]⟩)] (pair2 (anyF bs p).1.cells (anyF bs p).2.1.cells) [(58, ⟨150, 0, .gnd [Rd bs (anyF bs p).2.2]⟩)] := by
  have hwp := ctr_workPlan bs hb p (by omega)
  obtain ⟨w1, w2, w3, w4, w5, w6, w7, w8⟩ := workF_in bs p
  generalize hA : anyF bs p = A
  unfold anyF at hA
  simp only at hA
  generalize (workF bs p).1 = k at *
  generalize (workF bs p).2.1.plan = pl at *
  generalize (workF bs p).2.2 = q at *
  obtain ⟨op, a, pane, turned, kids⟩ := pl
  obtain ⟨W, H, panes⟩ := k
  have hpk := ctr_pick bs hb q (by omega) 20
  have ho := fun l hl => ctr_one bs hb (q + 1) (by omega) l hl
  have hkid : Plan.cellsL (kids.take 1) = ((Plan.cellsL kids).drop 0).take (1 - 0) := by rw [Plan.cellsL_map, Plan.cellsL_map, List.drop_zero, List.map_take]
  simp only [Plan.op, Plan.a, Plan.pane, Plan.turned, Plan.kids] at hA
  refine ctr_ofG (fn := Go.Proofs.Try.f136) (by kernel_rfl) rfl rfl rfl ?_
  rintro ⟨n, w0, F0, M, pin⟩ hn
  cases hn
  refine PW_seq ?_
  -- region 0
  refine PW_region ?_
  refine P22 .none (S_alloc rfl) ?_
  refine P22 .none (S_alloc rfl) ?_
  refine Pend ?_
  refine PW_seq ?_
  -- region 1
  refine PW_region ?_
  refine P10 .none (S_move rfl rfl) ?_
  refine P00 .none (S_callG [(24, 58)] [(24, 58)] false hwp (.ptr rfl rfl rfl .nil) ⟨rfl, trivial⟩ rfl (.inl rfl) rfl) ?_
  refine P10 .none (S_move rfl rfl) ?_
  refine P10 .none (by first | exact S_extractG rfl rfl rfl | exact S_extractC rfl rfl rfl | exact S_extractA rfl rfl rfl) ?_
  refine P10 .none (by first | exact S_extractG rfl rfl rfl | exact S_extractC rfl rfl rfl | exact S_extractA rfl rfl rfl) ?_
  refine P22 .none (S_alloc rfl) ?_
  refine P22 .none (S_alloc rfl) ?_
  refine P01 .none (by first | exact S_storeW rfl rfl rfl rfl rfl rfl | exact S_storeWe rfl rfl rfl HK rfl rfl rfl | exact S_storeP rfl rfl rfl rfl rfl (Nat.le_of_ble_eq_true rfl) | exact S_storeLW rfl rfl rfl rfl rfl rfl rfl) ?_
  refine P01 .none (by first | exact S_storeW rfl rfl rfl rfl rfl rfl | exact S_storeWe rfl rfl rfl HK rfl rfl rfl | exact S_storeP rfl rfl rfl rfl rfl (Nat.le_of_ble_eq_true rfl) | exact S_storeLW rfl rfl rfl rfl rfl rfl rfl | exact S_storeW rfl rfl rfl (Plan.cells_one _) (Plan.cells_len _) rfl) ?_
  refine Pend ?_
  refine PW_join (ι := Work × Plan × Nat) (fun u => [(2, .c (.optr 2 0 0)), (3, .c (.optr 3 0 0)), (4, .c (.optr 4 0 0)), (5, .c (.optr 5 0 0))]) (fun u => [(58, ⟨150, 0, .gnd [Rd bs u.2.2]⟩), (2, ⟨25, 0, .gnd [[.int .i64 0, .int .i64 0, .nil]]⟩), (3, ⟨34, 0, .gnd [[.int .i64 0, .int .i64 0, .int .i64 0, .bool false, .nil]]⟩), (4, ⟨25, 0, .gnd [u.1.cells]⟩), (5, ⟨34, 0, .gnd [u.2.1.cells]⟩)]) (fun u => u = A) ?_ (fun u hu => ?_)
  ·
    refine PW_seq ?_
    -- region 2
    refine PW_region ?_
    refine P10 .none (S_move rfl rfl) ?_
    refine P00 .none (S_callG [(99, 58)] [(99, 58)] false hpk (.ptr rfl rfl rfl (.g rfl .nil)) ⟨rfl, trivial⟩ rfl (.inl rfl) rfl) ?_
    refine Pend ?_
    refine PW_block ?_
    refine PW_seq ?_
    -- region 3
    refine PW_region ?_
    refine P10 .none (S_eql rfl rfl rfl) ?_
    refine P10 .none (S_assign rfl rfl) ?_
    refine Pend ?_
    refine PW_cond rfl (fun h1 => ?_) (fun h1 => ?_)
    · -- t13
      -- region 4
      refine PW_region ?_
      refine P10 .none (S_move rfl rfl) ?_
      refine P10 .none (by first | exact S_fieldO rfl rfl rfl | exact S_fieldR rfl rfl rfl) ?_
      refine P10 .none (by first | exact S_loadO1 rfl rfl rfl rfl rfl | exact S_loadR1 rfl rfl rfl | exact S_loadL1 rfl rfl rfl rfl rfl) ?_
      refine P10 .none (S_add rfl rfl rfl (And.intro (by omega) (by omega))) ?_
      refine P22 .none (S_lit (.one rfl rfl rfl (.one rfl rfl rfl (.one rfl rfl rfl (.nil _)))) rfl rfl rfl) ?_
      refine P00 .none (S_callG [(12, 58)] [(12, 58)] false (ho [0, 201, W + 1] (by simp)) (.ptr rfl rfl rfl (.borw rfl rfl rfl .nil)) ⟨rfl, trivial⟩ rfl (.inl rfl) rfl) ?_
      refine P10 .none (by first | exact S_fieldO rfl rfl rfl | exact S_fieldR rfl rfl rfl) ?_
      refine P01 .none (by first | exact S_store1 rfl rfl rfl rfl rfl | exact S_storeL rfl rfl rfl rfl rfl | exact S_storeH rfl rfl rfl rfl | exact S_store1e rfl rfl rfl HK rfl (Nat.le_of_ble_eq_true rfl)) ?_
      refine Pend ?_
      rw [if_pos (of_decide_eq_true h1)] at hA
      subst hA
      exact ⟨_, rfl, (by repeat (first | exact trivial | refine And.intro rfl ?_)), (by repeat (first | exact trivial | refine And.intro rfl ?_))⟩
    · -- not t13
      refine PW_seq ?_
      -- region 5
      refine PW_region ?_
      refine P10 .none (S_eql rfl rfl rfl) ?_
      refine P10 .none (S_assign rfl rfl) ?_
      refine Pend ?_
      refine PW_cond rfl (fun h2 => ?_) (fun h2 => ?_)
      · -- t22
        -- region 6
        refine PW_region ?_
        refine P10 .none (S_move rfl rfl) ?_
        refine P22 .none (S_lit (.one rfl rfl rfl (.one rfl rfl rfl (.one rfl rfl rfl (.nil _)))) rfl rfl rfl) ?_
        refine P00 .none (S_callG [(12, 58)] [(12, 58)] false (ho [0, 200, -1] (by simp)) (.ptr rfl rfl rfl (.borw rfl rfl rfl .nil)) ⟨rfl, trivial⟩ rfl (.inl rfl) rfl) ?_
        refine P10 .none (by first | exact S_fieldO rfl rfl rfl | exact S_fieldR rfl rfl rfl) ?_
        refine P01 .none (by first | exact S_store1 rfl rfl rfl rfl rfl | exact S_storeL rfl rfl rfl rfl rfl | exact S_storeH rfl rfl rfl rfl | exact S_store1e rfl rfl rfl HK rfl (Nat.le_of_ble_eq_true rfl)) ?_
        refine Pend ?_
        rw [if_neg (of_decide_eq_false h1), if_pos (of_decide_eq_true h2)] at hA
        subst hA
        exact ⟨_, rfl, (by repeat (first | exact trivial | refine And.intro rfl ?_)), (by repeat (first | exact trivial | refine And.intro rfl ?_))⟩
      · -- not t22
        refine PW_seq ?_
        -- region 7
        refine PW_region ?_
        refine P10 .none (S_eql rfl rfl rfl) ?_
        refine P10 .none (S_assign rfl rfl) ?_
        refine Pend ?_
        refine PW_cond rfl (fun h3 => ?_) (fun h3 => ?_)
        · -- t28
          -- region 8
          refine PW_region ?_
          refine P10 .none (S_move rfl rfl) ?_
          refine P22 .none (S_lit (.one rfl rfl rfl (.one rfl rfl rfl (.one rfl rfl rfl (.one rfl rfl rfl (.nil _))))) rfl rfl rfl) ?_
          refine P00 .none (S_callG [(12, 58)] [(12, 58)] false (ho [4, -1, 1, 0] (by simp)) (.ptr rfl rfl rfl (.borw rfl rfl rfl .nil)) ⟨rfl, trivial⟩ rfl (.inl rfl) rfl) ?_
          refine P10 .none (by first | exact S_fieldO rfl rfl rfl | exact S_fieldR rfl rfl rfl) ?_
          refine P01 .none (by first | exact S_store1 rfl rfl rfl rfl rfl | exact S_storeL rfl rfl rfl rfl rfl | exact S_storeH rfl rfl rfl rfl | exact S_store1e rfl rfl rfl HK rfl (Nat.le_of_ble_eq_true rfl)) ?_
          refine Pend ?_
          rw [if_neg (of_decide_eq_false h1), if_neg (of_decide_eq_false h2), if_pos (of_decide_eq_true h3)] at hA
          subst hA
          exact ⟨_, rfl, (by repeat (first | exact trivial | refine And.intro rfl ?_)), (by repeat (first | exact trivial | refine And.intro rfl ?_))⟩
        · -- not t28
          refine PW_seq ?_
          -- region 9
          refine PW_region ?_
          refine P10 .none (S_eql rfl rfl rfl) ?_
          refine P10 .none (S_assign rfl rfl) ?_
          refine Pend ?_
          refine PW_cond rfl (fun h4 => ?_) (fun h4 => ?_)
          · -- t34
            refine PW_seq ?_
            -- region 10
            refine PW_region ?_
            refine P10 .none (by first | exact S_fieldO rfl rfl rfl | exact S_fieldR rfl rfl rfl) ?_
            refine P10 .none (by first | exact S_loadO1 rfl rfl rfl rfl rfl | exact S_loadR1 rfl rfl rfl | exact S_loadL1 rfl rfl rfl rfl rfl) ?_
            refine P10 .none (by first | exact S_lenR rfl rfl | exact S_lenO rfl rfl | exact S_lenN rfl rfl | exact S_lenS rfl rfl) ?_
            refine P10 .none (S_gtr rfl rfl rfl) ?_
            refine Pend ?_
            refine PW_cond rfl (fun h5 => ?_) (fun h5 => ?_)
            · -- t39
              -- region 11
              refine PW_region ?_
              refine P10 .none (by first | exact S_fieldO rfl rfl rfl | exact S_fieldR rfl rfl rfl) ?_
              refine P10 .none (by first | exact S_loadO1 rfl rfl rfl rfl rfl | exact S_loadR1 rfl rfl rfl | exact S_loadL1 rfl rfl rfl rfl rfl) ?_
              refine P10 .none (S_sliceR rfl (.dfl 0) (.giv (k := 1) _ rfl rfl) (by omega) (by have := of_decide_eq_true h5; omega) (by rw [Plan.cellsL_map]; intro el hel; obtain ⟨z, _, rfl⟩ := List.mem_map.1 hel; exact Plan.cells_len z) rfl) ?_
              refine P10 .none (by first | exact S_fieldO rfl rfl rfl | exact S_fieldR rfl rfl rfl) ?_
              refine P01 .none (by first | exact S_store1 rfl rfl rfl rfl rfl | exact S_storeL rfl rfl rfl rfl rfl | exact S_storeH rfl rfl rfl rfl | exact S_store1e rfl rfl rfl HK rfl (Nat.le_of_ble_eq_true rfl)) ?_
              refine Pend ?_
              rw [if_neg (of_decide_eq_false h1), if_neg (of_decide_eq_false h2), if_neg (of_decide_eq_false h3), if_pos (of_decide_eq_true h4)] at hA
              subst hA
              exact ⟨_, rfl, (by repeat (first | exact trivial | refine And.intro rfl ?_)), (by simp only [Plan.cells, hkid]; repeat (first | exact trivial | refine And.intro rfl ?_))⟩
            · -- not t39
              refine PW_skip ?_
              have hk0 : kids = [] := by
                have h9 := of_decide_eq_false h5
                rw [Plan.cellsL_map, List.length_map] at h9
                exact List.eq_nil_of_length_eq_zero (by omega)
              subst hk0
              rw [if_neg (of_decide_eq_false h1), if_neg (of_decide_eq_false h2), if_neg (of_decide_eq_false h3), if_pos (of_decide_eq_true h4)] at hA
              subst hA
              exact ⟨_, rfl, (by repeat (first | exact trivial | refine And.intro rfl ?_)), (by repeat (first | exact trivial | refine And.intro rfl ?_))⟩
          · -- not t34
            refine PW_seq ?_
            -- region 12
            refine PW_region ?_
            refine P10 .none (S_eql rfl rfl rfl) ?_
            refine P10 .none (S_assign rfl rfl) ?_
            refine Pend ?_
            refine PW_cond rfl (fun h6 => ?_) (fun h6 => ?_)
            · -- t44
              -- region 13
              refine PW_region ?_
              refine P10 .none (S_move rfl rfl) ?_
              refine P22 .none (S_lit (.one rfl rfl rfl (.one rfl rfl rfl (.one rfl rfl rfl (.nil _)))) rfl rfl rfl) ?_
              refine P00 .none (S_callG [(12, 58)] [(12, 58)] false (ho [1, 30, -1] (by simp)) (.ptr rfl rfl rfl (.borw rfl rfl rfl .nil)) ⟨rfl, trivial⟩ rfl (.inl rfl) rfl) ?_
              refine P10 .none (by first | exact S_fieldO rfl rfl rfl | exact S_fieldR rfl rfl rfl) ?_
              refine P01 .none (by first | exact S_store1 rfl rfl rfl rfl rfl | exact S_storeL rfl rfl rfl rfl rfl | exact S_storeH rfl rfl rfl rfl | exact S_store1e rfl rfl rfl HK rfl (Nat.le_of_ble_eq_true rfl)) ?_
              refine Pend ?_
              rw [if_neg (of_decide_eq_false h1), if_neg (of_decide_eq_false h2), if_neg (of_decide_eq_false h3), if_neg (of_decide_eq_false h4), if_pos (of_decide_eq_true h6)] at hA
              subst hA
              exact ⟨_, rfl, (by repeat (first | exact trivial | refine And.intro rfl ?_)), (by repeat (first | exact trivial | refine And.intro rfl ?_))⟩
            · -- not t44
              refine PW_seq ?_
              -- region 14
              refine PW_region ?_
              refine P10 .none (S_eql rfl rfl rfl) ?_
              refine P10 .none (S_assign rfl rfl) ?_
              refine Pend ?_
              refine PW_cond rfl (fun h7 => ?_) (fun h7 => ?_)
              · -- t50
                -- region 15
                refine PW_region ?_
                refine P10 .none (by first | exact S_fieldO rfl rfl rfl | exact S_fieldR rfl rfl rfl) ?_
                refine P10 .none (by first | exact S_loadO1 rfl rfl rfl rfl rfl | exact S_loadR1 rfl rfl rfl | exact S_loadL1 rfl rfl rfl rfl rfl) ?_
                refine P10 .none (S_not rfl rfl) ?_
                refine P10 .none (by first | exact S_fieldO rfl rfl rfl | exact S_fieldR rfl rfl rfl) ?_
                refine P01 .none (by first | exact S_store1 rfl rfl rfl rfl rfl | exact S_storeL rfl rfl rfl rfl rfl | exact S_storeH rfl rfl rfl rfl | exact S_store1e rfl rfl rfl HK rfl (Nat.le_of_ble_eq_true rfl)) ?_
                refine Pend ?_
                rw [if_neg (of_decide_eq_false h1), if_neg (of_decide_eq_false h2), if_neg (of_decide_eq_false h3), if_neg (of_decide_eq_false h4), if_neg (of_decide_eq_false h6), if_pos (of_decide_eq_true h7)] at hA
                subst hA
                exact ⟨_, rfl, (by repeat (first | exact trivial | refine And.intro rfl ?_)), (by repeat (first | exact trivial | refine And.intro rfl ?_))⟩
              · -- not t50
                refine PW_skip ?_
                rw [if_neg (of_decide_eq_false h1), if_neg (of_decide_eq_false h2), if_neg (of_decide_eq_false h3), if_neg (of_decide_eq_false h4), if_neg (of_decide_eq_false h6), if_neg (of_decide_eq_false h7)] at hA
                subst hA
                exact ⟨_, rfl, (by repeat (first | exact trivial | refine And.intro rfl ?_)), (by repeat (first | exact trivial | refine And.intro rfl ?_))⟩
  ·
    refine PW_seq ?_
    -- region 16
    refine PW_draw (by kernel_rfl) ?_
    refine P10 .none (by first | exact S_loadOW rfl rfl rfl rfl rfl | exact S_loadRW rfl rfl rfl | exact S_loadLA rfl rfl rfl (Nat.le_of_ble_eq_true rfl) rfl | exact S_loadOA rfl rfl rfl (Nat.le_of_ble_eq_true rfl) rfl | exact S_loadRA rfl (Nat.le_of_ble_eq_true rfl) rfl) ?_
    refine P10 .none (by first | exact S_loadOW rfl rfl rfl rfl rfl | exact S_loadRW rfl rfl rfl | exact S_loadLA rfl rfl rfl (Nat.le_of_ble_eq_true rfl) rfl | exact S_loadOA rfl rfl rfl (Nat.le_of_ble_eq_true rfl) rfl | exact S_loadRA rfl (Nat.le_of_ble_eq_true rfl) rfl | exact S_loadRW rfl (Plan.cells_len _) rfl | exact S_loadOW rfl rfl rfl (Plan.cells_len _) rfl) ?_
    refine P01 .none (by first | exact S_storeW rfl rfl rfl rfl rfl rfl | exact S_storeWe rfl rfl rfl HK rfl rfl rfl | exact S_storeP rfl rfl rfl rfl rfl (Nat.le_of_ble_eq_true rfl) | exact S_storeLW rfl rfl rfl rfl rfl rfl rfl) ?_
    refine P01 .none (by first | exact S_storeW rfl rfl rfl rfl rfl rfl | exact S_storeWe rfl rfl rfl HK rfl rfl rfl | exact S_storeP rfl rfl rfl rfl rfl (Nat.le_of_ble_eq_true rfl) | exact S_storeLW rfl rfl rfl rfl rfl rfl rfl | exact S_storeW rfl rfl rfl (Plan.cells_one _) (Plan.cells_len _) rfl) ?_
    refine Pend ⟨by kernel_rfl, ?_⟩
    refine PW_ret ⟨.inr rfl, ?_⟩
    subst hu
    exact ret_G (.cons (by first | exact .frz (.tmp rfl) .nil | exact .raw (.tmp rfl) rfl | exact .frz (.tmp rfl) (ExZ.whole rfl rfl rfl) | exact .raw (.gnd rfl rfl rfl) rfl | exact .raw (.gnd rfl rfl (Plan.cells_len _)) rfl) (.cons (by first | exact .frz (.tmp rfl) .nil | exact .raw (.tmp rfl) rfl | exact .frz (.tmp rfl) (ExZ.whole rfl rfl rfl) | exact .raw (.gnd rfl rfl rfl) rfl | exact .raw (.gnd rfl rfl (Plan.cells_len _)) rfl) .nil)) rfl ⟨rfl, trivial⟩ rfl rfl
end Go.Proofs.Ytdmlfhmnlddooaa
namespace Go.Proofs.Ytdmlfhmnlddooaa
open Go Go.Pu

/-- A work and a plan with some cuts, if it comes to that. -/
def cutsF (bs : List Nat) (most : Int) : Nat → Nat → Work × Plan × Nat
  | 0, p => anyF bs p
  | n + 1, p => if ((workF bs p).2.1.ncuts : Int) ≤ most ∧ 1 < ((workF bs p).2.1.ncuts : Int) then ((workF bs p).1, (workF bs p).2.1.plan, (workF bs p).2.2) else cutsF bs most n (workF bs p).2.2
theorem cutsF_in (bs : List Nat) (most : Int) : ∀ (n p : Nat), (cutsF bs most n p).1.panes.length ≤ 24 ∧ p ≤ (cutsF bs most n p).2.2 ∧ (cutsF bs most n p).2.2 ≤ p + 127 * n + 129 := by
  intro n
  induction n with
  | zero => intro p; simp only [cutsF]; have := anyF_in bs p; omega
  | succ n ih =>
    intro p
    obtain ⟨h1, h2, h3, h4, h5, h6, h7, h8⟩ := workF_in bs p
    simp only [cutsF]
    split
    · exact ⟨h5, h7, by dsimp only; omega⟩
    · have := ih (workF bs p).2.2
      omega

/- spec.cutsPlan: 85, 3 -> [25, 34] -/
set_option maxRecDepth 100000 in
theorem ctr_cutsPlan (bs : List Nat) (hb : ∀ b ∈ bs, b < 256) (most : Int) (p : Nat) (hp : p ≤ 700000) : CtrG P 77 33 [.c (.optr 33 0 0), .c (.g (.int .i64 most))] [(33, ⟨150, 0, .gnd [Rd bs p]⟩)] (pair2 (cutsF bs most 4 p).1.cells (cutsF bs most 4 p).2.1.cells) [(33, ⟨150, 0, .gnd [Rd bs (cutsF bs most 4 p).2.2]⟩)] := by
  generalize hA : cutsF bs most 4 p = A
  refine ctr_ofG (fn := Go.Proofs.Try.f77) (by kernel_rfl) rfl rfl rfl ?_
  rintro ⟨n, w0, F0, M, pin⟩ hn
  cases hn
  refine PW_seq ?_
  -- region 0
  refine PW_region ?_
  refine P22 .none (S_alloc rfl) ?_
  refine P22 .none (S_alloc rfl) ?_
  refine Pend ?_
  refine PW_seq ?_
  refine PW_seq ?_
  -- region 1
  refine PW_region ?_
  refine P10 .none (S_assign rfl rfl) ?_
  refine Pend ?_
  refine PW_block ?_
  refine PW_iter (ι := Nat × Nat) (fun i => [(0, .c (.optr 33 0 0)), (1, .c (.g (.int .i64 most))), (4, .c (.optr 4 0 0)), (5, .c (.optr 5 0 0)), (6, .c (.g (.int .i64 (i.1 : Nat))))]) (fun i => [(33, ⟨150, 0, .gnd [Rd bs i.2]⟩), (4, ⟨25, 0, .gnd [[.int .i64 0, .int .i64 0, .nil]]⟩), (5, ⟨34, 0, .gnd [[.int .i64 0, .int .i64 0, .int .i64 0, .bool false, .nil]]⟩)]) (fun i => i.1 ≤ 4 ∧ cutsF bs most (4 - i.1) i.2 = A ∧ i.2 ≤ p + 127 * i.1) (fun i => 4 - i.1) (0, p) ⟨by simp, hA, by simp⟩ (by repeat (first | exact trivial | refine And.intro rfl ?_)) (by repeat (first | exact trivial | refine And.intro rfl ?_)) (fun i hi => ?_)
  refine PW_seq ?_
  refine PW_seq ?_
  -- region 2
  refine PW_region ?_
  refine P10 .none (S_move rfl rfl) ?_
  refine P10 .none (S_lss rfl rfl rfl) ?_
  refine Pend ?_
  refine PW_cond rfl (fun h1 => ?_) (fun h1 => ?_)
  · -- t10
    have hlt : i.1 < 4 := by have := of_decide_eq_true h1; omega
    obtain ⟨hi1, hi2, hi3⟩ := hi
    have hwp := ctr_workPlan bs hb i.2 (by omega)
    obtain ⟨w1, w2, w3, w4, w5, w6, w7, w8⟩ := workF_in bs i.2
    rw [show 4 - i.1 = (3 - i.1) + 1 by omega] at hi2
    simp only [cutsF] at hi2
    generalize (workF bs i.2).1 = k at *
    generalize (workF bs i.2).2.1 = t at *
    generalize (workF bs i.2).2.2 = q at *
    have hcut := ctr_s_cutsOf t (by omega)
    refine PW_skip ?_
    refine PW_seq ?_
    refine PW_block ?_
    refine PW_seq ?_
    -- region 4
    refine PW_region ?_
    refine P10 .none (S_move rfl rfl) ?_
    refine P00 .none (S_callG [(24, 33)] [(24, 33)] false hwp (.ptr rfl rfl rfl .nil) ⟨rfl, trivial⟩ rfl (.inl rfl) rfl) ?_
    refine P10 .none (S_move rfl rfl) ?_
    refine P10 .none (by first | exact S_extractG rfl rfl rfl | exact S_extractC rfl rfl rfl | exact S_extractA rfl rfl rfl) ?_
    refine P10 .none (by first | exact S_extractG rfl rfl rfl | exact S_extractC rfl rfl rfl | exact S_extractA rfl rfl rfl) ?_
    refine P22 .none (S_alloc rfl) ?_
    refine P22 .none (S_alloc rfl) ?_
    refine P01 .none (by first | exact S_storeW rfl rfl rfl rfl rfl rfl | exact S_storeWe rfl rfl rfl HK rfl rfl rfl | exact S_storeP rfl rfl rfl rfl rfl (Nat.le_of_ble_eq_true rfl) | exact S_storeLW rfl rfl rfl rfl rfl rfl rfl) ?_
    refine P01 .none (by first | exact S_storeW rfl rfl rfl rfl rfl rfl | exact S_storeWe rfl rfl rfl HK rfl rfl rfl | exact S_storeP rfl rfl rfl rfl rfl (Nat.le_of_ble_eq_true rfl) | exact S_storeLW rfl rfl rfl rfl rfl rfl rfl | exact S_storeW rfl rfl rfl (Plan.cells_one _) (Plan.cells_len _) rfl) ?_
    refine Pend ?_
    refine PW_join (ι := Bool) (fun u5 => [(0, .c (.optr 33 0 0)), (1, .c (.g (.int .i64 most))), (4, .c (.optr 4 0 0)), (5, .c (.optr 5 0 0)), (6, .c (.g (.int .i64 (i.1 : Nat)))), (7, .c (.optr 7 0 0)), (8, .c (.optr 8 0 0)), (26, .c (.g (.bool u5)))]) (fun u5 => [(33, ⟨150, 0, .gnd [Rd bs q]⟩), (4, ⟨25, 0, .gnd [[.int .i64 0, .int .i64 0, .nil]]⟩), (5, ⟨34, 0, .gnd [[.int .i64 0, .int .i64 0, .int .i64 0, .bool false, .nil]]⟩), (7, ⟨25, 0, .gnd [k.cells]⟩), (8, ⟨34, 0, .gnd [t.plan.cells]⟩)]) (fun u5 => u5 = decide ((t.ncuts : Int) ≤ most ∧ 1 < (t.ncuts : Int))) ?_ (fun u5 hu5 => ?_)
    · skip
      -- region 5
      refine PW_region ?_
      refine P10 .none (by first | exact S_loadOW rfl rfl rfl rfl rfl | exact S_loadRW rfl rfl rfl | exact S_loadLA rfl rfl rfl (Nat.le_of_ble_eq_true rfl) rfl | exact S_loadOA rfl rfl rfl (Nat.le_of_ble_eq_true rfl) rfl | exact S_loadRA rfl (Nat.le_of_ble_eq_true rfl) rfl | exact S_loadRW rfl (Plan.cells_len _) rfl | exact S_loadOW rfl rfl rfl (Plan.cells_len _) rfl) ?_
      refine P00 .none (S_call (.one rfl .nil) rfl hcut (.inl rfl) rfl) ?_
      refine P10 .none (S_move rfl rfl) ?_
      refine P10 .none (S_leq rfl rfl rfl) ?_
      refine P10 .none (S_move rfl rfl) ?_
      refine Psplit 22 rfl (fun h2 => ?_) (fun h2 => ?_)
      · -- t22 = true
        refine P10 (.yes rfl rfl h2) (by first | exact S_loadOW rfl rfl rfl rfl rfl | exact S_loadRW rfl rfl rfl | exact S_loadLA rfl rfl rfl (Nat.le_of_ble_eq_true rfl) rfl | exact S_loadOA rfl rfl rfl (Nat.le_of_ble_eq_true rfl) rfl | exact S_loadRA rfl (Nat.le_of_ble_eq_true rfl) rfl | exact S_loadRW rfl (Plan.cells_len _) rfl | exact S_loadOW rfl rfl rfl (Plan.cells_len _) rfl) ?_
        refine P00 (.yes rfl rfl h2) (S_call (.one rfl .nil) rfl hcut (.inl rfl) rfl) ?_
        refine P10 (.yes rfl rfl h2) (S_gtr rfl rfl rfl) ?_
        refine P10 .none (S_pickT rfl h2 rfl rfl) ?_
        refine Pend ?_
        exact ⟨decide (1 < (t.ncuts : Int)), (by simp only [Bool.not_eq_true', Bool.not_eq_false', decide_eq_true_eq, decide_eq_false_iff_not] at h1 h2; rw [Bool.eq_iff_iff]; simp only [Bool.not_eq_true', decide_eq_true_eq, decide_eq_false_iff_not, true_iff, Bool.false_eq_true, false_iff, eq_self]; omega), by repeat (first | exact trivial | refine And.intro rfl ?_ | refine And.intro (by show some (PV.c (LC.g _)) = some (PV.c (LC.g _)); simp only [*, decide_true, decide_false, eq_self, if_true, if_false, reduceIte, Bool.false_eq_true, Bool.and_false, Bool.false_and, Bool.true_and, Bool.and_true, Bool.or_true, Bool.true_or, Bool.false_or, Bool.or_false, Bool.not_true, Bool.not_false]) ?_), by repeat (first | exact trivial | refine And.intro rfl ?_ | refine And.intro (by show some (PV.c (LC.g _)) = some (PV.c (LC.g _)); simp only [*, decide_true, decide_false, eq_self, if_true, if_false, reduceIte, Bool.false_eq_true, Bool.and_false, Bool.false_and, Bool.true_and, Bool.and_true, Bool.or_true, Bool.true_or, Bool.false_or, Bool.or_false, Bool.not_true, Bool.not_false]) ?_)⟩
      · -- t22 = false
        refine Pskip rfl rfl h2 rfl ?_
        refine Pskip rfl rfl h2 rfl ?_
        refine Pskip rfl rfl h2 rfl ?_
        refine P10 .none (S_pickF rfl h2 rfl rfl) ?_
        refine Pend ?_
        exact ⟨false, (by simp only [Bool.not_eq_true', Bool.not_eq_false', decide_eq_true_eq, decide_eq_false_iff_not] at h1 h2; rw [Bool.eq_iff_iff]; simp only [Bool.not_eq_true', decide_eq_true_eq, decide_eq_false_iff_not, true_iff, Bool.false_eq_true, false_iff, eq_self]; omega), by repeat (first | exact trivial | refine And.intro rfl ?_ | refine And.intro (by show some (PV.c (LC.g _)) = some (PV.c (LC.g _)); simp only [*, decide_true, decide_false, eq_self, if_true, if_false, reduceIte, Bool.false_eq_true, Bool.and_false, Bool.false_and, Bool.true_and, Bool.and_true, Bool.or_true, Bool.true_or, Bool.false_or, Bool.or_false, Bool.not_true, Bool.not_false]) ?_), by repeat (first | exact trivial | refine And.intro rfl ?_ | refine And.intro (by show some (PV.c (LC.g _)) = some (PV.c (LC.g _)); simp only [*, decide_true, decide_false, eq_self, if_true, if_false, reduceIte, Bool.false_eq_true, Bool.and_false, Bool.false_and, Bool.true_and, Bool.and_true, Bool.or_true, Bool.true_or, Bool.false_or, Bool.or_false, Bool.not_true, Bool.not_false]) ?_)⟩
    · skip
      refine PW_cond rfl (fun h3 => ?_) (fun h3 => ?_)
      · -- t26
        refine PW_seq ?_
        -- region 6
        refine PW_draw (by kernel_rfl) ?_
        refine P10 .none (by first | exact S_loadOW rfl rfl rfl rfl rfl | exact S_loadRW rfl rfl rfl | exact S_loadLA rfl rfl rfl (Nat.le_of_ble_eq_true rfl) rfl | exact S_loadOA rfl rfl rfl (Nat.le_of_ble_eq_true rfl) rfl | exact S_loadRA rfl (Nat.le_of_ble_eq_true rfl) rfl) ?_
        refine P10 .none (by first | exact S_loadOW rfl rfl rfl rfl rfl | exact S_loadRW rfl rfl rfl | exact S_loadLA rfl rfl rfl (Nat.le_of_ble_eq_true rfl) rfl | exact S_loadOA rfl rfl rfl (Nat.le_of_ble_eq_true rfl) rfl | exact S_loadRA rfl (Nat.le_of_ble_eq_true rfl) rfl | exact S_loadRW rfl (Plan.cells_len _) rfl | exact S_loadOW rfl rfl rfl (Plan.cells_len _) rfl) ?_
        refine P01 .none (by first | exact S_storeW rfl rfl rfl rfl rfl rfl | exact S_storeWe rfl rfl rfl HK rfl rfl rfl | exact S_storeP rfl rfl rfl rfl rfl (Nat.le_of_ble_eq_true rfl) | exact S_storeLW rfl rfl rfl rfl rfl rfl rfl) ?_
        refine P01 .none (by first | exact S_storeW rfl rfl rfl rfl rfl rfl | exact S_storeWe rfl rfl rfl HK rfl rfl rfl | exact S_storeP rfl rfl rfl rfl rfl (Nat.le_of_ble_eq_true rfl) | exact S_storeLW rfl rfl rfl rfl rfl rfl rfl | exact S_storeW rfl rfl rfl (Plan.cells_one _) (Plan.cells_len _) rfl) ?_
        refine Pend ⟨by kernel_rfl, ?_⟩
        refine PW_ret ⟨.inr rfl, ?_⟩
        rw [if_pos (of_decide_eq_true (hu5.symm.trans h3))] at hi2
        subst hi2
        exact ret_G (.cons (by first | exact .frz (.tmp rfl) .nil | exact .raw (.tmp rfl) rfl | exact .frz (.tmp rfl) (ExZ.whole rfl rfl rfl) | exact .raw (.gnd rfl rfl rfl) rfl | exact .raw (.gnd rfl rfl (Plan.cells_len _)) rfl) (.cons (by first | exact .frz (.tmp rfl) .nil | exact .raw (.tmp rfl) rfl | exact .frz (.tmp rfl) (ExZ.whole rfl rfl rfl) | exact .raw (.gnd rfl rfl rfl) rfl | exact .raw (.gnd rfl rfl (Plan.cells_len _)) rfl) .nil)) rfl ⟨rfl, trivial⟩ rfl rfl
      · -- not t26
        refine PW_skip ?_
        -- region 3
        refine PW_region ?_
        refine P10 .none (S_move rfl rfl) ?_
        refine P10 .none (S_add rfl rfl rfl (And.intro (by omega) (by omega))) ?_
        refine P10 .none (S_assign rfl rfl) ?_
        refine Pend ?_
        rw [if_neg (of_decide_eq_false (hu5.symm.trans h3))] at hi2
        exact ⟨(i.1 + 1, q), by dsimp only; omega, ⟨by dsimp only; omega, by rw [← hi2, show 4 - (i.1 + 1) = 3 - i.1 by omega], by dsimp only; omega⟩, (by repeat (first | exact trivial | refine And.intro rfl ?_)), (by repeat (first | exact trivial | refine And.intro rfl ?_))⟩
  · -- not t10
    refine PW_exit ?_
    refine PW_seq ?_
    obtain ⟨hi1, hi2, hi3⟩ := hi
    have h4 : i.1 = 4 := by have := of_decide_eq_false h1; omega
    rw [h4] at hi2
    simp only [Nat.sub_self, cutsF] at hi2
    have hany := ctr_anyPlan bs hb i.2 (by omega)
    rw [hi2] at hany
    --region 7
    refine PW_region ?_
    refine P10 .none (S_move rfl rfl) ?_
    refine P00 .none (S_callG [(58, 33)] [(58, 33)] false hany (.ptr rfl rfl rfl .nil) ⟨rfl, trivial⟩ rfl (.inl rfl) rfl) ?_
    refine P10 .none (by first | exact S_extractG rfl rfl rfl | exact S_extractC rfl rfl rfl | exact S_extractA rfl rfl rfl) ?_
    refine P10 .none (by first | exact S_extractG rfl rfl rfl | exact S_extractC rfl rfl rfl | exact S_extractA rfl rfl rfl) ?_
    refine P01 .none (by first | exact S_storeW rfl rfl rfl rfl rfl rfl | exact S_storeWe rfl rfl rfl HK rfl rfl rfl | exact S_storeP rfl rfl rfl rfl rfl (Nat.le_of_ble_eq_true rfl) | exact S_storeLW rfl rfl rfl rfl rfl rfl rfl) ?_
    refine P01 .none (by first | exact S_storeW rfl rfl rfl rfl rfl rfl | exact S_storeWe rfl rfl rfl HK rfl rfl rfl | exact S_storeP rfl rfl rfl rfl rfl (Nat.le_of_ble_eq_true rfl) | exact S_storeLW rfl rfl rfl rfl rfl rfl rfl | exact S_storeW rfl rfl rfl (Plan.cells_one _) (Plan.cells_len _) rfl) ?_
    refine Pend ?_
    refine PW_ret ⟨.inr rfl, ?_⟩
    exact ret_G (.cons (by first | exact .frz (.tmp rfl) .nil | exact .raw (.tmp rfl) rfl | exact .frz (.tmp rfl) (ExZ.whole rfl rfl rfl) | exact .raw (.gnd rfl rfl rfl) rfl | exact .raw (.gnd rfl rfl (Plan.cells_len _)) rfl) (.cons (by first | exact .frz (.tmp rfl) .nil | exact .raw (.tmp rfl) rfl | exact .frz (.tmp rfl) (ExZ.whole rfl rfl rfl) | exact .raw (.gnd rfl rfl rfl) rfl | exact .raw (.gnd rfl rfl (Plan.cells_len _)) rfl) .nil)) rfl ⟨rfl, trivial⟩ rfl rfl
end Go.Proofs.Ytdmlfhmnlddooaa
namespace Go.Proofs.Ytdmlfhmnlddooaa
open Go Go.Pu

def badK (nodes abv out : List Int) (k : Nat) : Bool := decide (0 ≤ placeIn out (nodes.getD k 0)) || (decide (0 ≤ abv.getD k 0) && decide (placeIn out (abv.getD k 0) < 0))
def nextK (nodes abv out : List Int) : Nat → Nat → Nat
  | 0, k => k
  | f + 1, k => if badK nodes abv out k = true then nextK nodes abv out f ((k + 1) % nodes.length) else k
def stepsF (bs : List Nat) (nodes abv : List Int) : Nat → List Int → Nat → List Int × Nat
  | 0, out, p => (out, p)
  | n + 1, out, p => stepsF bs nodes abv n (out ++ [nodes.getD (nextK nodes abv out nodes.length (pickV bs p nodes.length).toNat) 0]) (p + 1)
theorem stepsF_in (bs : List Nat) (nodes abv : List Int) : ∀ (n : Nat) (out : List Int) (p : Nat), (stepsF bs nodes abv n out p).1.length = out.length + n ∧ (stepsF bs nodes abv n out p).2 = p + n := by
  intro n
  induction n with
  | zero => intro out p; exact ⟨rfl, rfl⟩
  | succ n ih =>
    intro out p
    simp only [stepsF]
    have := ih (out ++ [nodes.getD (nextK nodes abv out nodes.length (pickV bs p nodes.length).toNat) 0]) (p + 1)
    rw [List.length_append, List.length_singleton] at this
    omega
theorem T.nodes_abv (t : T) : ∀ n ab, (t.nodes n).length = (t.abv n ab).length := by
  induction t with
  | waste => intros; rfl
  | pane => intros; rfl
  | cut d a p q ihp ihq => intro n ab; simp only [T.nodes, T.abv, List.length_cons, List.length_append, ihp (n + 1) n, ihq (n + 1 + p.size) n]
/-- What is above a cut comes before it. -/
theorem T.abv_before (t : T) : ∀ (n ab : Int) (j : Nat) (y : Int), (t.abv n ab)[j]? = some y → y = ab ∨ ∃ i, i < j ∧ (t.nodes n)[i]? = some y := by
  induction t with
  | waste => intro n ab j y h; simp [T.abv] at h
  | pane => intro n ab j y h; simp [T.abv] at h
  | cut d a p q ihp ihq =>
    intro n ab j y h
    simp only [T.abv, T.nodes] at h ⊢
    cases j with
    | zero => simp at h; exact .inl h.symm
    | succ j =>
      right
      rw [List.getElem?_cons_succ, List.getElem?_append] at h
      split at h
      · rcases ihp (n + 1) n j y h with rfl | ⟨i, h1, h2⟩
        · exact ⟨0, by omega, rfl⟩
        · refine ⟨i + 1, by omega, ?_⟩
          rw [List.getElem?_cons_succ, List.getElem?_append_left (List.getElem?_eq_some_iff.1 h2).1]; exact h2
      · rename_i hge
        rcases ihq (n + 1 + p.size) n _ y h with rfl | ⟨i, h1, h2⟩
        · exact ⟨0, by omega, rfl⟩
        · have hl := T.nodes_abv p (n + 1) n
          refine ⟨(p.nodes (n + 1)).length + i + 1, by omega, ?_⟩
          rw [List.getElem?_cons_succ, List.getElem?_append_right (by omega), Nat.add_sub_cancel_left]; exact h2
theorem mem_at {l : List Int} {n : Int} (h : n ∈ l) : placeIn l n < 0 ↔ False := by
  have := placeIn_neg l n
  rw [List.contains_iff_mem.2 h] at this
  simpa using this
theorem not_mem_at {l : List Int} {n : Int} (h : n ∉ l) : 0 ≤ placeIn l n ↔ False := by
  have := placeIn_geq l n
  rw [show l.contains n = false by rw [← Bool.not_eq_true, List.contains_iff_mem]; exact h] at this
  simpa using this
theorem good_first {nodes abv out : List Int} (hb : ∀ (j : Nat) (y : Int), abv[j]? = some y → y = -1 ∨ ∃ i, i < j ∧ nodes[i]? = some y) (hl : nodes.length = abv.length) (hn : nodes.Nodup) (ho : out.length < nodes.length) : ∃ j, j < nodes.length ∧ badK nodes abv out j = false := by
  have hex : ∃ j, j < nodes.length ∧ nodes.getD j 0 ∉ out := by
    apply Classical.byContradiction
    intro hno
    have hall : ∀ x ∈ nodes, x ∈ out := by
      intro x hx
      obtain ⟨j, hj⟩ := List.mem_iff_getElem?.1 hx
      apply Classical.byContradiction
      intro hx2
      refine hno ⟨j, (List.getElem?_eq_some_iff.1 hj).1, ?_⟩
      rw [List.getD_eq_getElem?_getD, hj]; exact hx2
    have := (sub_all hn hall).1
    omega
  obtain ⟨j0, hj0, hout0⟩ := hex
  have hmin : ∀ m, ∃ j, (j < nodes.length ∧ nodes.getD j 0 ∉ out) ∧ ((∀ i, i < j → ¬ (i < nodes.length ∧ nodes.getD i 0 ∉ out)) ∨ j + m ≤ j0) := by
    intro m
    induction m with
    | zero => exact ⟨j0, ⟨hj0, hout0⟩, .inr (Nat.le_refl _)⟩
    | succ m ih =>
      obtain ⟨j, h1, h2 | h2⟩ := ih
      · exact ⟨j, h1, .inl h2⟩
      · by_cases h3 : ∃ i, i < j ∧ (i < nodes.length ∧ nodes.getD i 0 ∉ out)
        · obtain ⟨i, h4, h5⟩ := h3
          exact ⟨i, h5, .inr (by omega)⟩
        · exact ⟨j, h1, .inl fun i h4 h5 => h3 ⟨i, h4, h5⟩⟩
  obtain ⟨j, ⟨h1, h2⟩, h3 | h3⟩ := hmin (j0 + 1)
  · refine ⟨j, h1, ?_⟩
    unfold badK
    rw [decide_eq_false (by rw [not_mem_at h2]; exact id), Bool.false_or]
    have hy : abv[j]? = some (abv.getD j 0) := by rw [List.getD_eq_getElem?_getD, List.getElem?_eq_getElem (by omega)]; rfl
    rcases hb j _ hy with h4 | ⟨i, h4, h5⟩
    · rw [decide_eq_false (by omega : ¬ 0 ≤ abv.getD j 0), Bool.false_and]
    · have : abv.getD j 0 ∈ out := by
        apply Classical.byContradiction
        intro h6
        refine h3 i h4 ⟨(List.getElem?_eq_some_iff.1 h5).1, ?_⟩
        rw [List.getD_eq_getElem?_getD, h5]; exact h6
      rw [decide_eq_false (p := placeIn out (abv.getD j 0) < 0) (by rw [mem_at this]; exact id), Bool.and_false]
  · omega
def someF (bs : List Nat) (t : T) (p : Nat) : List Int × Nat := stepsF bs (t.nodes 0) (t.abv 0 (-1)) (t.nodes 0).length [] p
theorem someF_in (bs : List Nat) (t : T) (p : Nat) (h : t.size ≤ 255) : (someF bs t p).1.length ≤ 255 ∧ (someF bs t p).2 ≤ p + 255 := by
  have := stepsF_in bs (t.nodes 0) (t.abv 0 (-1)) (t.nodes 0).length [] p
  have := t.nodes_len 0
  unfold someF
  simp at *
  omega
theorem getD_at {l : List Int} {k : Nat} (h : k < l.length) : l[k]? = some (l.getD k 0) := by rw [List.getD_eq_getElem?_getD, List.getElem?_eq_getElem h]; rfl

/- spec.someSteps: 85, 34 -> [26] -/
set_option maxRecDepth 100000 in
theorem ctr_someSteps (bs : List Nat) (hb : ∀ b ∈ bs, b < 256) (t : T) (ht : t.size ≤ 255) (p : Nat) (hp : p ≤ 900000) : CtrG P 137 59 [.c (.optr 59 0 0), .c (.g (.agg t.plan.cells))] [(59, ⟨150, 0, .gnd [Rd bs p]⟩)] (.c (.osl 13 0 (someF bs t p).1.length)) [(59, ⟨150, 0, .gnd [Rd bs (someF bs t p).2]⟩), (13, ⟨3, 0, .gnd ((someF bs t p).1.map encI)⟩)] := by
  unfold someF
  have hnod := ctr_s_innerNodes t 0 ht (by omega)
  have habv := ctr_s_aboves t 0 (-1) ht (by omega)
  have hnl := t.nodes_len 0
  have hbef := t.abv_before 0 (-1)
  have hle := t.nodes_abv 0 (-1)
  have hnd : (t.nodes 0).Nodup := by rw [← T.knots_fst t 0 (-1)]; exact T.knots_nodup t 0 (-1)
  generalize t.nodes 0 = nodes at *
  generalize t.abv 0 (-1) = abv at *
  generalize hA : stepsF bs nodes abv nodes.length [] p = A
  refine ctr_ofG (fn := Go.Proofs.Try.f137) (by kernel_rfl) rfl rfl rfl ?_
  rintro ⟨n, w0, F0, M, pin⟩ hn
  cases hn
  refine PW_seq ?_
  -- region 0
  refine PW_region ?_
  refine P22 .none (by first | exact S_boxA rfl rfl rfl rfl | exact S_boxL rfl rfl rfl rfl rfl | exact S_boxA rfl (Plan.cells_len _) (Plan.cells_one _) rfl) ?_
  refine P10 .none (S_assign rfl rfl) ?_
  refine Pend ?_
  refine PW_seq ?_
  -- region 1
  refine PW_region ?_
  refine P10 .none (by first | exact S_loadOW rfl rfl rfl rfl rfl | exact S_loadRW rfl rfl rfl | exact S_loadLA rfl rfl rfl (Nat.le_of_ble_eq_true rfl) rfl | exact S_loadOA rfl rfl rfl (Nat.le_of_ble_eq_true rfl) rfl | exact S_loadRA rfl (Nat.le_of_ble_eq_true rfl) rfl | exact S_loadRW rfl (Plan.cells_len _) rfl | exact S_loadOW rfl rfl rfl (Plan.cells_len _) rfl) ?_
  refine P00 .none (S_call (.one rfl (.one rfl .nil)) rfl hnod (.inl rfl) rfl) ?_
  refine P10 .none (S_assign rfl rfl) ?_
  refine Pend ?_
  refine PW_seq ?_
  -- region 2
  refine PW_region ?_
  refine P10 .none (by first | exact S_loadOW rfl rfl rfl rfl rfl | exact S_loadRW rfl rfl rfl | exact S_loadLA rfl rfl rfl (Nat.le_of_ble_eq_true rfl) rfl | exact S_loadOA rfl rfl rfl (Nat.le_of_ble_eq_true rfl) rfl | exact S_loadRA rfl (Nat.le_of_ble_eq_true rfl) rfl | exact S_loadRW rfl (Plan.cells_len _) rfl | exact S_loadOW rfl rfl rfl (Plan.cells_len _) rfl) ?_
  refine P00 .none (S_call (.one rfl (.one rfl (.one rfl .nil))) rfl habv (.inl rfl) rfl) ?_
  refine P10 .none (S_assign rfl rfl) ?_
  refine Pend ?_
  refine PW_seq ?_
  refine PW_frzW 5 rfl rfl rfl rfl ?_
  refine PW_frzW 6 rfl rfl rfl rfl ?_
  --region 3
  refine PW_region ?_
  refine P22 .none (S_lit (.nil _) rfl rfl rfl) ?_
  refine P10 .none (S_assign rfl rfl) ?_
  refine Pend ?_
  refine PW_seq ?_
  refine PW_block ?_
  refine PW_iter (ι := List Int) (fun out => [(0, .c (.optr 59 0 0)), (5, .c (.g (.sl (nodes.map encI)))), (6, .c (.g (.sl (abv.map encI)))), (7, .c (.osl 13 0 (out.map encI).length))]) (fun out => [(59, ⟨150, 0, .gnd [Rd bs (p + out.length)]⟩), (13, ⟨3, 0, .gnd (out.map encI)⟩)]) (fun out => out.length ≤ nodes.length ∧ stepsF bs nodes abv (nodes.length - out.length) out (p + out.length) = A) (fun out => nodes.length - out.length) [] ⟨by simp, hA⟩ (by repeat (first | exact trivial | refine And.intro rfl ?_)) (by repeat (first | exact trivial | refine And.intro rfl ?_)) (fun out hi => ?_)
  refine PW_seq ?_
  refine PW_seq ?_
  -- region 4
  refine PW_region ?_
  refine P10 .none (S_move rfl rfl) ?_
  refine P10 .none (by first | exact S_lenR rfl rfl | exact S_lenO rfl rfl | exact S_lenN rfl rfl | exact S_lenS rfl rfl) ?_
  refine P10 .none (S_move rfl rfl) ?_
  refine P10 .none (by first | exact S_lenR rfl rfl | exact S_lenO rfl rfl | exact S_lenN rfl rfl | exact S_lenS rfl rfl) ?_
  refine P10 .none (S_lss rfl rfl rfl) ?_
  refine Pend ?_
  refine PW_cond rfl (fun h1 => ?_) (fun h1 => ?_)
  · -- t18
    obtain ⟨hi1, hi2⟩ := hi
    have hlt : out.length < nodes.length := by have := of_decide_eq_true h1; rw [List.length_map, List.length_map] at this; omega
    have hpk := ctr_pick bs hb (p + out.length) (by omega) ((nodes.map encI).length : Int)
    obtain ⟨q1, q2, _⟩ := pickV_in bs (p + out.length) (nodes.length : Int)
    have q2 := q2 (by omega)
    obtain ⟨g0, hg1, hg2⟩ := good_first hbef hle hnd hlt
    rw [show nodes.length - out.length = (nodes.length - (out.length + 1)) + 1 by omega] at hi2
    simp only [stepsF] at hi2
    obtain ⟨k0, hk0⟩ : ∃ k0 : Nat, pickV bs (p + out.length) (nodes.length : Int) = k0 := ⟨(pickV bs (p + out.length) (nodes.length : Int)).toNat, by omega⟩
    have hk1 : pickV bs (p + out.length) ((nodes.map encI).length : Int) = k0 := by rw [List.length_map]; exact hk0
    rw [hk1] at hpk
    rw [hk0] at hi2 q2
    rw [Int.toNat_natCast] at hi2
    generalize hK : nextK nodes abv out nodes.length k0 = K at hi2
    refine PW_skip ?_
    refine PW_block ?_
    refine PW_seq ?_
    -- region 5
    refine PW_region ?_
    refine P10 .none (S_move rfl rfl) ?_
    refine P10 .none (S_move rfl rfl) ?_
    refine P10 .none (by first | exact S_lenR rfl rfl | exact S_lenO rfl rfl | exact S_lenN rfl rfl | exact S_lenS rfl rfl) ?_
    refine P00 .none (S_callG [(99, 59)] [(99, 59)] false hpk (.ptr rfl rfl rfl (.g rfl .nil)) ⟨rfl, trivial⟩ rfl (.inl rfl) rfl) ?_
    refine P10 .none (S_assign rfl rfl) ?_
    refine Pend ?_
    refine PW_seq ?_
    refine PW_block ?_
    refine PW_iter (ι := Nat × Nat) (fun j => [(0, .c (.optr 59 0 0)), (5, .c (.g (.sl (nodes.map encI)))), (6, .c (.g (.sl (abv.map encI)))), (7, .c (.osl 13 0 (out.map encI).length)), (8, .c (.g (.int .i64 (j.2 : Nat))))]) (fun j => [(59, ⟨150, 0, .gnd [Rd bs (p + out.length + 1)]⟩), (13, ⟨3, 0, .gnd (out.map encI)⟩)]) (fun j => j.2 < nodes.length ∧ nextK nodes abv out j.1 j.2 = K ∧ ∃ m, m ≤ j.1 ∧ badK nodes abv out ((j.2 + m) % nodes.length) = false) (fun j => j.1) (nodes.length, k0) ⟨by dsimp only; omega, hK, (g0 + nodes.length - k0) % nodes.length, Nat.le_of_lt (Nat.mod_lt _ (by omega)), by dsimp only; rw [Nat.add_mod_mod, show k0 + (g0 + nodes.length - k0) = g0 + nodes.length by omega, Nat.add_mod_right, Nat.mod_eq_of_lt hg1]; exact hg2⟩ (by repeat (first | exact trivial | refine And.intro rfl ?_)) (by repeat (first | exact trivial | refine And.intro rfl ?_)) (fun j hj => ?_)
    refine PW_seq ?_
    obtain ⟨hj1, hj2, m, hj3, hj4⟩ := hj
    have hnx := getD_at (l := nodes) hj1
    have hax := getD_at (l := abv) (k := j.2) (by omega)
    refine PW_join (ι := Bool) (fun u6 => [(0, .c (.optr 59 0 0)), (5, .c (.g (.sl (nodes.map encI)))), (6, .c (.g (.sl (abv.map encI)))), (7, .c (.osl 13 0 (out.map encI).length)), (8, .c (.g (.int .i64 (j.2 : Nat)))), (45, .c (.g (.bool u6)))]) (fun u6 => [(59, ⟨150, 0, .gnd [Rd bs (p + out.length + 1)]⟩), (13, ⟨3, 0, .gnd (out.map encI)⟩)]) (fun u6 => u6 = badK nodes abv out j.2) ?_ (fun u6 hu6 => ?_)
    · skip
      -- region 6
      refine PW_region ?_
      refine P10 .none (S_move rfl rfl) ?_
      refine P10 .none (S_move rfl rfl) ?_
      refine P10 .none (S_move rfl rfl) ?_
      refine P10 .none (by first | exact S_indexR rfl rfl rfl (map_at hnx) rfl rfl | exact S_indexO rfl rfl rfl rfl rfl (map_at hnx) rfl) ?_
      refine P10 .none (by first | exact S_loadO1 rfl rfl rfl rfl rfl | exact S_loadR1 rfl rfl rfl | exact S_loadL1 rfl rfl rfl rfl rfl) ?_
      refine P00 .none (S_call (.borw rfl rfl rfl (.one rfl .nil)) rfl (ctr_s_placeIn out _ (by omega)) (.inr ⟨flat_int _ _, by simp [XA.Flat]⟩) rfl) ?_
      refine P10 .none (S_geq rfl rfl rfl) ?_
      refine P10 .none (S_move rfl rfl) ?_
      refine Psplit 30 rfl (fun h2 => ?_) (fun h2 => ?_)
      · -- t30 = true
        refine Pskip rfl rfl h2 rfl ?_
        refine Pskip rfl rfl h2 rfl ?_
        refine Pskip rfl rfl h2 rfl ?_
        refine Pskip rfl rfl h2 rfl ?_
        refine Pskip rfl rfl h2 rfl ?_
        refine Pskip rfl rfl h2 rfl ?_
        refine Pskip2 rfl rfl rfl ?_
        refine Pskip2 rfl rfl rfl ?_
        refine Pskip2 rfl rfl rfl ?_
        refine Pskip2 rfl rfl rfl ?_
        refine Pskip2 rfl rfl rfl ?_
        refine Pskip2 rfl rfl rfl ?_
        refine Pskip2 rfl rfl rfl ?_
        refine Pskip rfl rfl h2 rfl ?_
        refine P10 .none (S_pickT rfl h2 rfl rfl) ?_
        refine Pend ?_
        exact ⟨true, (by unfold badK; simp only [h2, Bool.true_or, Bool.false_or, Bool.true_and, Bool.false_and]), by repeat (first | exact trivial | refine And.intro rfl ?_ | refine And.intro (by show some (PV.c (LC.g _)) = some (PV.c (LC.g _)); simp only [*, decide_true, decide_false, eq_self, if_true, if_false, reduceIte, Bool.false_eq_true, Bool.and_false, Bool.false_and, Bool.true_and, Bool.and_true, Bool.or_true, Bool.true_or, Bool.false_or, Bool.or_false, Bool.not_true, Bool.not_false]) ?_), by repeat (first | exact trivial | refine And.intro rfl ?_ | refine And.intro (by show some (PV.c (LC.g _)) = some (PV.c (LC.g _)); simp only [*, decide_true, decide_false, eq_self, if_true, if_false, reduceIte, Bool.false_eq_true, Bool.and_false, Bool.false_and, Bool.true_and, Bool.and_true, Bool.or_true, Bool.true_or, Bool.false_or, Bool.or_false, Bool.not_true, Bool.not_false]) ?_)⟩
      · -- t30 = false
        refine P10 (.yes rfl rfl h2) (S_move rfl rfl) ?_
        refine P10 (.yes rfl rfl h2) (S_move rfl rfl) ?_
        refine P10 (.yes rfl rfl h2) (by first | exact S_indexR rfl rfl rfl (map_at hax) rfl rfl | exact S_indexO rfl rfl rfl rfl rfl (map_at hax) rfl) ?_
        refine P10 (.yes rfl rfl h2) (by first | exact S_loadO1 rfl rfl rfl rfl rfl | exact S_loadR1 rfl rfl rfl | exact S_loadL1 rfl rfl rfl rfl rfl) ?_
        refine P10 (.yes rfl rfl h2) (S_geq rfl rfl rfl) ?_
        refine P10 (.yes rfl rfl h2) (S_move rfl rfl) ?_
        refine Psplit 36 rfl (fun h3 => ?_) (fun h3 => ?_)
        · -- t36 = true
          refine P10 (.yes rfl rfl h3) (S_move rfl rfl) ?_
          refine P10 (.yes rfl rfl h3) (S_move rfl rfl) ?_
          refine P10 (.yes rfl rfl h3) (S_move rfl rfl) ?_
          refine P10 (.yes rfl rfl h3) (by first | exact S_indexR rfl rfl rfl (map_at hax) rfl rfl | exact S_indexO rfl rfl rfl rfl rfl (map_at hax) rfl) ?_
          refine P10 (.yes rfl rfl h3) (by first | exact S_loadO1 rfl rfl rfl rfl rfl | exact S_loadR1 rfl rfl rfl | exact S_loadL1 rfl rfl rfl rfl rfl) ?_
          refine P00 (.yes rfl rfl h3) (S_call (.borw rfl rfl rfl (.one rfl .nil)) rfl (ctr_s_placeIn out _ (by omega)) (.inr ⟨flat_int _ _, by simp [XA.Flat]⟩) rfl) ?_
          refine P10 (.yes rfl rfl h3) (S_lss rfl rfl rfl) ?_
          refine P10 (.yes rfl rfl h2) (S_pickT rfl h3 rfl rfl) ?_
          refine P10 .none (S_pickF rfl h2 rfl rfl) ?_
          refine Pend ?_
          exact ⟨decide (placeIn out (abv.getD j.2 0) < 0), (by unfold badK; simp only [h2, h3, Bool.true_or, Bool.false_or, Bool.true_and, Bool.false_and]), by repeat (first | exact trivial | refine And.intro rfl ?_ | refine And.intro (by show some (PV.c (LC.g _)) = some (PV.c (LC.g _)); simp only [*, decide_true, decide_false, eq_self, if_true, if_false, reduceIte, Bool.false_eq_true, Bool.and_false, Bool.false_and, Bool.true_and, Bool.and_true, Bool.or_true, Bool.true_or, Bool.false_or, Bool.or_false, Bool.not_true, Bool.not_false]) ?_), by repeat (first | exact trivial | refine And.intro rfl ?_ | refine And.intro (by show some (PV.c (LC.g _)) = some (PV.c (LC.g _)); simp only [*, decide_true, decide_false, eq_self, if_true, if_false, reduceIte, Bool.false_eq_true, Bool.and_false, Bool.false_and, Bool.true_and, Bool.and_true, Bool.or_true, Bool.true_or, Bool.false_or, Bool.or_false, Bool.not_true, Bool.not_false]) ?_)⟩
        · -- t36 = false
          refine Pskip rfl rfl h3 rfl ?_
          refine Pskip rfl rfl h3 rfl ?_
          refine Pskip rfl rfl h3 rfl ?_
          refine Pskip rfl rfl h3 rfl ?_
          refine Pskip rfl rfl h3 rfl ?_
          refine Pskip rfl rfl h3 rfl ?_
          refine Pskip rfl rfl h3 rfl ?_
          refine P10 (.yes rfl rfl h2) (S_pickF rfl h3 rfl rfl) ?_
          refine P10 .none (S_pickF rfl h2 rfl rfl) ?_
          refine Pend ?_
          exact ⟨false, (by unfold badK; simp only [h2, h3, Bool.true_or, Bool.false_or, Bool.true_and, Bool.false_and]), by repeat (first | exact trivial | refine And.intro rfl ?_ | refine And.intro (by show some (PV.c (LC.g _)) = some (PV.c (LC.g _)); simp only [*, decide_true, decide_false, eq_self, if_true, if_false, reduceIte, Bool.false_eq_true, Bool.and_false, Bool.false_and, Bool.true_and, Bool.and_true, Bool.or_true, Bool.true_or, Bool.false_or, Bool.or_false, Bool.not_true, Bool.not_false]) ?_), by repeat (first | exact trivial | refine And.intro rfl ?_ | refine And.intro (by show some (PV.c (LC.g _)) = some (PV.c (LC.g _)); simp only [*, decide_true, decide_false, eq_self, if_true, if_false, reduceIte, Bool.false_eq_true, Bool.and_false, Bool.false_and, Bool.true_and, Bool.and_true, Bool.or_true, Bool.true_or, Bool.false_or, Bool.or_false, Bool.not_true, Bool.not_false]) ?_)⟩
    · skip
      refine PW_cond rfl (fun h4 => ?_) (fun h4 => ?_)
      · -- t45
        refine PW_skip ?_
        refine PW_block ?_
        have hbad : badK nodes abv out j.2 = true := hu6.symm.trans h4
        have hm0 : m ≠ 0 := by intro h0; subst h0; rw [Nat.add_zero, Nat.mod_eq_of_lt hj1, hbad] at hj4; cases hj4
        obtain ⟨f, hf⟩ : ∃ f, j.1 = f + 1 := ⟨j.1 - 1, by omega⟩
        have hml : 0 < (nodes.map encI).length := by rw [List.length_map]; omega
        have hmod : ((j.2 : Nat) + 1 : Int) % ((nodes.map encI).length : Int) = (((j.2 + 1) % nodes.length : Nat) : Int) := by rw [List.length_map]; rfl
        rw [hf] at hj2 hj3
        simp only [nextK] at hj2
        rw [if_pos hbad] at hj2
        --region 7
        refine PW_region ?_
        refine P10 .none (S_move rfl rfl) ?_
        refine P10 .none (S_add rfl rfl rfl (And.intro (by omega) (by omega))) ?_
        refine P10 .none (S_move rfl rfl) ?_
        refine P10 .none (by first | exact S_lenR rfl rfl | exact S_lenO rfl rfl | exact S_lenN rfl rfl | exact S_lenS rfl rfl) ?_
        refine P10 .none (S_rem rfl rfl rfl (by omega) (by omega)) ?_
        refine P10 .none (S_assign rfl rfl) ?_
        refine Pend ?_
        exact ⟨(f, (j.2 + 1) % nodes.length), by dsimp only; omega, ⟨Nat.mod_lt _ (by omega), hj2, m - 1, by dsimp only; omega, by dsimp only; rw [Nat.mod_add_mod, show j.2 + 1 + (m - 1) = j.2 + m by omega]; exact hj4⟩, (by repeat (first | exact trivial | refine And.intro rfl ?_ | refine And.intro (by show some (PV.c (LC.g (GV.int .i64 _))) = some (PV.c (LC.g (GV.int .i64 (((j.2 + 1) % nodes.length : Nat) : Int)))); rw [← hmod]) ?_)), (by repeat (first | exact trivial | refine And.intro rfl ?_))⟩
      · -- not t45
        refine PW_exit ?_
        have hgood : badK nodes abv out j.2 = false := hu6.symm.trans h4
        have hjK : j.2 = K := by
          cases hf : j.1 with
          | zero => rw [hf] at hj2; exact hj2
          | succ f => rw [hf] at hj2; simp only [nextK] at hj2; rw [if_neg (by rw [hgood]; simp)] at hj2; exact hj2
        rw [← hjK] at hi2
        --region 8
        refine PW_region ?_
        refine P10 .none (S_move rfl rfl) ?_
        refine P10 .none (S_move rfl rfl) ?_
        refine P10 .none (S_move rfl rfl) ?_
        refine P10 .none (by first | exact S_indexR rfl rfl rfl (map_at hnx) rfl rfl | exact S_indexO rfl rfl rfl rfl rfl (map_at hnx) rfl) ?_
        refine P10 .none (by first | exact S_loadO1 rfl rfl rfl rfl rfl | exact S_loadR1 rfl rfl rfl | exact S_loadL1 rfl rfl rfl rfl rfl) ?_
        refine P22 .none (S_lit (.one rfl rfl rfl (.nil _)) rfl rfl rfl) ?_
        refine P22 .none (S_appW rfl rfl rfl rfl (.ownW rfl rfl rfl) (fun l hl => by simp only [List.mem_singleton] at hl; subst hl; rfl) rfl (by omega) (by simp; omega) rfl) ?_
        refine P10 .none (S_assign rfl rfl) ?_
        refine Pend ?_
        exact ⟨out ++ [nodes.getD j.2 0], by simp only [List.length_append, List.length_singleton]; omega, ⟨by simp only [List.length_append, List.length_singleton]; omega, by rw [← hi2]; simp only [List.length_append, List.length_singleton]; rfl⟩, (by rw [List.map_append, List.length_append]; repeat (first | exact trivial | refine And.intro rfl ?_)), (by rw [List.map_append]; rw [List.length_append]; repeat (first | exact trivial | refine And.intro rfl ?_))⟩
  · -- not t18
    refine PW_exit ?_
    refine PW_seq ?_
    -- region 9
    refine PW_region ?_
    refine P10 .none (S_move rfl rfl) ?_
    refine P10 .none (S_assign rfl rfl) ?_
    refine Pend ?_
    refine PW_ret ⟨.inr rfl, ?_⟩
    obtain ⟨hi1, hi2⟩ := hi
    have heq : out.length = nodes.length := by have := of_decide_eq_false h1; rw [List.length_map, List.length_map] at this; omega
    rw [heq, Nat.sub_self] at hi2
    simp only [stepsF] at hi2
    subst hi2
    exact ret_G (.cons (.raw (.tmp rfl) rfl) .nil) (by rw [List.length_map]; rfl) (by rw [← heq]; exact ⟨rfl, rfl, trivial⟩) rfl rfl
end Go.Proofs.Ytdmlfhmnlddooaa
namespace Go.Proofs.Ytdmlfhmnlddooaa
open Go Go.Pu

/-- The steps, perhaps not valid. -/
def anyT (bs : List Nat) (t : T) (p : Nat) : List Int × Nat :=
  let out := (someF bs t p).1
  let q := (someF bs t p).2
  if 1 < out.length then
    (if pickV bs q 12 = 0 then out.set 1 (out.getD 0 0) else if pickV bs q 12 = 1 then out.set 0 (out.getD (out.length - 1) 0) else if pickV bs q 12 = 2 then out.drop 1 ++ [out.getD 0 0] else out, q + 1)
  else (out, q)
theorem anyT_in (bs : List Nat) (t : T) (p : Nat) (h : t.size ≤ 255) : (anyT bs t p).1.length ≤ 256 ∧ (anyT bs t p).2 ≤ p + 256 := by
  obtain ⟨h1, h2⟩ := someF_in bs t p h
  unfold anyT
  simp only
  split
  · refine ⟨?_, by dsimp only; omega⟩
    dsimp only
    split
    · simp; omega
    · split
      · simp; omega
      · split
        · simp; omega
        · omega
  · exact ⟨by dsimp only; omega, by dsimp only; omega⟩

/- spec.anySteps: 85, 34 -> [26] -/
set_option maxRecDepth 100000 in
theorem ctr_anySteps_bad (bs : List Nat)  (pl : Plan) (hps : planSize pl < 0) (p : Nat) : CtrG P 78 45 [.c (.optr 45 0 0), .c (.g (.agg pl.cells))] [(45, ⟨150, 0, .gnd [Rd bs p]⟩)] (.c (.g (.sl ([0].map encI)))) [(45, ⟨150, 0, .gnd [Rd bs p]⟩)] := by
  have hp := ctr_s_planSize pl
  refine ctr_ofG (fn := Go.Proofs.Try.f78) (by kernel_rfl) rfl rfl rfl ?_
  rintro ⟨n, w0, F0, M, pin⟩ hn
  cases hn
  refine PW_seq ?_
  -- region 0
  refine PW_region ?_
  refine P22 .none (by first | exact S_boxA rfl rfl rfl rfl | exact S_boxL rfl rfl rfl rfl rfl | exact S_boxA rfl (Plan.cells_len _) (Plan.cells_one _) rfl) ?_
  refine P10 .none (S_assign rfl rfl) ?_
  refine Pend ?_
  refine PW_seq ?_
  refine PW_seq ?_
  -- region 1
  refine PW_region ?_
  refine P10 .none (by first | exact S_loadOW rfl rfl rfl rfl rfl | exact S_loadRW rfl rfl rfl | exact S_loadLA rfl rfl rfl (Nat.le_of_ble_eq_true rfl) rfl | exact S_loadOA rfl rfl rfl (Nat.le_of_ble_eq_true rfl) rfl | exact S_loadRA rfl (Nat.le_of_ble_eq_true rfl) rfl | exact S_loadRW rfl (Plan.cells_len _) rfl | exact S_loadOW rfl rfl rfl (Plan.cells_len _) rfl) ?_
  refine P00 .none (S_call (.one rfl .nil) rfl hp (.inl rfl) rfl) ?_
  refine P10 .none (S_lss rfl rfl rfl) ?_
  refine Pend ?_
  refine PW_cond rfl (fun h1 => ?_) (fun h1 => ?_)
  · -- t8
    refine PW_seq ?_
    -- region 2
    refine PW_region ?_
    refine P22 .none (S_lit (.one rfl rfl rfl (.nil _)) rfl rfl rfl) ?_
    refine P10 .none (S_assign rfl rfl) ?_
    refine Pend ?_
    refine PW_ret ⟨.inr rfl, ?_⟩
    exact ret_G (.cons (.frz (.tmp rfl) (ExZ.whole rfl rfl rfl)) .nil) rfl ⟨rfl, trivial⟩ rfl rfl
  · have := of_decide_eq_false h1; omega

/- spec.anySteps: 85, 34 -> [26] -/
set_option maxRecDepth 100000 in
theorem ctr_anySteps (bs : List Nat) (hb : ∀ b ∈ bs, b < 256) (t : T) (ht : t.size ≤ 255) (p : Nat) (hp : p ≤ 800000) : CtrG P 78 45 [.c (.optr 45 0 0), .c (.g (.agg t.plan.cells))] [(45, ⟨150, 0, .gnd [Rd bs p]⟩)] (.c (.g (.sl ((anyT bs t p).1.map encI)))) [(45, ⟨150, 0, .gnd [Rd bs (anyT bs t p).2]⟩)] := by
  have hps := ctr_s_planSize t.plan
  rw [planSize_T ht] at hps
  have hsome := ctr_someSteps bs hb t ht p (by omega)
  obtain ⟨o1, o2⟩ := someF_in bs t p ht
  generalize hA : anyT bs t p = A
  unfold anyT at hA
  simp only at hA
  generalize (someF bs t p).1 = out at *
  generalize (someF bs t p).2 = q at *
  have hpk := ctr_pick bs hb q (by omega) 12
  refine ctr_ofG (fn := Go.Proofs.Try.f78) (by kernel_rfl) rfl rfl rfl ?_
  rintro ⟨n, w0, F0, M, pin⟩ hn
  cases hn
  refine PW_seq ?_
  -- region 0
  refine PW_region ?_
  refine P22 .none (by first | exact S_boxA rfl rfl rfl rfl | exact S_boxL rfl rfl rfl rfl rfl | exact S_boxA rfl (Plan.cells_len _) (Plan.cells_one _) rfl) ?_
  refine P10 .none (S_assign rfl rfl) ?_
  refine Pend ?_
  refine PW_seq ?_
  refine PW_seq ?_
  -- region 1
  refine PW_region ?_
  refine P10 .none (by first | exact S_loadOW rfl rfl rfl rfl rfl | exact S_loadRW rfl rfl rfl | exact S_loadLA rfl rfl rfl (Nat.le_of_ble_eq_true rfl) rfl | exact S_loadOA rfl rfl rfl (Nat.le_of_ble_eq_true rfl) rfl | exact S_loadRA rfl (Nat.le_of_ble_eq_true rfl) rfl | exact S_loadRW rfl (Plan.cells_len _) rfl | exact S_loadOW rfl rfl rfl (Plan.cells_len _) rfl) ?_
  refine P00 .none (S_call (.one rfl .nil) rfl hps (.inl rfl) rfl) ?_
  refine P10 .none (S_lss rfl rfl rfl) ?_
  refine Pend ?_
  refine PW_cond rfl (fun h1 => ?_) (fun h1 => ?_)
  · -- t8
    refine PW_seq ?_
    -- region 2
    refine PW_region ?_
    refine P22 .none (S_lit (.one rfl rfl rfl (.nil _)) rfl rfl rfl) ?_
    refine P10 .none (S_assign rfl rfl) ?_
    refine Pend ?_
    refine PW_ret ⟨.inr rfl, ?_⟩
    have := of_decide_eq_true h1; omega
  · -- not t8
    refine PW_skip ?_
    refine PW_seq ?_
    -- region 3
    refine PW_region ?_
    refine P10 .none (S_move rfl rfl) ?_
    refine P10 .none (by first | exact S_loadOW rfl rfl rfl rfl rfl | exact S_loadRW rfl rfl rfl | exact S_loadLA rfl rfl rfl (Nat.le_of_ble_eq_true rfl) rfl | exact S_loadOA rfl rfl rfl (Nat.le_of_ble_eq_true rfl) rfl | exact S_loadRA rfl (Nat.le_of_ble_eq_true rfl) rfl | exact S_loadRW rfl (Plan.cells_len _) rfl | exact S_loadOW rfl rfl rfl (Plan.cells_len _) rfl) ?_
    refine P00 .none (S_callG [(59, 45)] [(59, 45), (13, 12)] false hsome (.ptr rfl rfl rfl (.g rfl .nil)) ⟨rfl, trivial⟩ rfl (.inl rfl) rfl) ?_
    refine P10 .none (S_assign rfl rfl) ?_
    refine Pend ?_
    refine PW_seq ?_
    refine PW_seq ?_
    -- region 4
    refine PW_region ?_
    refine P10 .none (S_move rfl rfl) ?_
    refine P10 .none (by first | exact S_lenR rfl rfl | exact S_lenO rfl rfl | exact S_lenN rfl rfl | exact S_lenS rfl rfl) ?_
    refine P10 .none (S_gtr rfl rfl rfl) ?_
    refine Pend ?_
    refine PW_cond rfl (fun h2 => ?_) (fun h2 => ?_)
    · -- t15
      have hlt : 1 < out.length := by have := of_decide_eq_true h2; omega
      rw [if_pos hlt] at hA
      have hx0 := getD_at (l := out) (k := 0) (by omega)
      have hx1 := getD_at (l := out) (k := 1) (by omega)
      have hxl := getD_at (l := out) (k := out.length - 1) (by omega)
      have hxl2 : (out.map encI)[0 + (out.length - 1)]? = some (encI (out.getD (out.length - 1) 0)) := by rw [Nat.zero_add]; exact map_at hxl
      refine PW_seq ?_
      -- region 5
      refine PW_region ?_
      refine P10 .none (S_move rfl rfl) ?_
      refine P00 .none (S_callG [(99, 45)] [(99, 45)] false hpk (.ptr rfl rfl rfl (.g rfl .nil)) ⟨rfl, trivial⟩ rfl (.inl rfl) rfl) ?_
      refine Pend ?_
      refine PW_block ?_
      refine PW_seq ?_
      -- region 6
      refine PW_region ?_
      refine P10 .none (S_eql rfl rfl rfl) ?_
      refine P10 .none (S_assign rfl rfl) ?_
      refine Pend ?_
      refine PW_cond rfl (fun h3 => ?_) (fun h3 => ?_)
      · -- t18
        -- region 7
        refine PW_region ?_
        refine P10 .none (S_move rfl rfl) ?_
        refine P10 .none (S_move rfl rfl) ?_
        refine P10 .none (S_indexO rfl rfl rfl rfl (k := 0) rfl (by omega) rfl) ?_
        refine P10 .none (S_loadO1 rfl rfl (map_at hx0) rfl rfl) ?_
        refine P10 .none (S_indexO rfl rfl rfl rfl (k := 1) rfl (by omega) rfl) ?_
        refine P01 .none (S_store1e rfl rfl rfl (map_at hx1) rfl (Nat.le_of_ble_eq_true rfl)) ?_
        refine Pend ?_
        refine PW_seq ?_
        -- region 12
        refine PW_region ?_
        refine P10 .none (S_move rfl rfl) ?_
        refine P10 .none (S_assign rfl rfl) ?_
        refine Pend ?_
        refine PW_ret ⟨.inr rfl, ?_⟩
        rw [if_pos (of_decide_eq_true h3)] at hA
        subst hA
        exact ret_G (.cons (.frz (.tmp rfl) (ExZ.whole rfl rfl (by simp))) .nil) (by rw [List.map_set]; rfl) ⟨rfl, trivial⟩ rfl rfl
      · -- not t18
        refine PW_seq ?_
        -- region 8
        refine PW_region ?_
        refine P10 .none (S_eql rfl rfl rfl) ?_
        refine P10 .none (S_assign rfl rfl) ?_
        refine Pend ?_
        refine PW_cond rfl (fun h4 => ?_) (fun h4 => ?_)
        · -- t25
          -- region 9
          refine PW_region ?_
          refine P10 .none (S_move rfl rfl) ?_
          refine P10 .none (S_move rfl rfl) ?_
          refine P10 .none (S_move rfl rfl) ?_
          refine P10 .none (by first | exact S_lenR rfl rfl | exact S_lenO rfl rfl | exact S_lenN rfl rfl | exact S_lenS rfl rfl) ?_
          refine P10 .none (S_sub rfl rfl rfl (And.intro (by omega) (by omega))) ?_
          refine P10 .none (S_indexO rfl rfl rfl rfl (k := out.length - 1) (by omega) (by omega) rfl) ?_
          refine P10 .none (S_loadO1 rfl rfl hxl2 rfl rfl) ?_
          refine P10 .none (S_indexO rfl rfl rfl rfl (k := 0) rfl (by omega) rfl) ?_
          refine P01 .none (S_store1e rfl rfl rfl (map_at hx0) rfl (Nat.le_of_ble_eq_true rfl)) ?_
          refine Pend ?_
          refine PW_seq ?_
          -- region 12
          refine PW_region ?_
          refine P10 .none (S_move rfl rfl) ?_
          refine P10 .none (S_assign rfl rfl) ?_
          refine Pend ?_
          refine PW_ret ⟨.inr rfl, ?_⟩
          rw [if_neg (of_decide_eq_false h3), if_pos (of_decide_eq_true h4)] at hA
          subst hA
          exact ret_G (.cons (.frz (.tmp rfl) (ExZ.whole rfl rfl (by simp))) .nil) (by rw [List.map_set]; rfl) ⟨rfl, trivial⟩ rfl rfl
        · -- not t25
          refine PW_seq ?_
          -- region 10
          refine PW_region ?_
          refine P10 .none (S_eql rfl rfl rfl) ?_
          refine P10 .none (S_assign rfl rfl) ?_
          refine Pend ?_
          refine PW_cond rfl (fun h5 => ?_) (fun h5 => ?_)
          · -- t35
            -- region 11
            refine PW_draw (by kernel_rfl) ?_
            refine P10 .none (S_move rfl rfl) ?_
            refine P10 .none (S_sliceO rfl rfl rfl (.giv (k := 1) _ rfl rfl) (.dfl _) (by omega) (Nat.le_refl _) rfl) ?_
            refine P10 .none (S_move rfl rfl) ?_
            refine P10 .none (S_indexO rfl rfl rfl rfl (k := 0) rfl (by omega) rfl) ?_
            refine P10 .none (S_loadO1 rfl rfl (map_at hx0) rfl rfl) ?_
            refine P22 .none (S_lit (.one rfl rfl rfl (.nil _)) rfl rfl rfl) ?_
            refine P22 .none (S_app rfl rfl rfl rfl (.ownW rfl rfl rfl) (fun l hl => by simp only [List.mem_singleton] at hl; subst hl; rfl) (by first | (simp; done) | (simp; omega)) (by omega) (.inr (by simp)) (by first | (simp; done) | (simp; omega)) rfl) ?_
            refine P10 .none (S_assign rfl rfl) ?_
            refine Pend ⟨by kernel_rfl, ?_⟩
            refine PW_seq ?_
            -- region 12
            refine PW_region ?_
            refine P10 .none (S_move rfl rfl) ?_
            refine P10 .none (S_assign rfl rfl) ?_
            refine Pend ?_
            refine PW_ret ⟨.inr rfl, ?_⟩
            rw [if_neg (of_decide_eq_false h3), if_neg (of_decide_eq_false h4), if_pos (of_decide_eq_true h5)] at hA
            subst hA
            exact ret_G (.cons (.frz (.tmp rfl) (ExZ.whole rfl rfl (by simp))) .nil) (by simp only [tupOf]; rw [Nat.zero_add, List.take_of_length_le (by simp), List.map_append, List.map_drop]; rfl) ⟨rfl, trivial⟩ rfl rfl
          · -- not t35
            refine PW_skip ?_
            refine PW_seq ?_
            -- region 12
            refine PW_region ?_
            refine P10 .none (S_move rfl rfl) ?_
            refine P10 .none (S_assign rfl rfl) ?_
            refine Pend ?_
            refine PW_ret ⟨.inr rfl, ?_⟩
            rw [if_neg (of_decide_eq_false h3), if_neg (of_decide_eq_false h4), if_neg (of_decide_eq_false h5)] at hA
            subst hA
            exact ret_G (.cons (.frz (.tmp rfl) (ExZ.whole rfl rfl (by simp))) .nil) rfl ⟨rfl, trivial⟩ rfl rfl
    · -- not t15
      refine PW_skip ?_
      refine PW_seq ?_
      -- region 12
      refine PW_region ?_
      refine P10 .none (S_move rfl rfl) ?_
      refine P10 .none (S_assign rfl rfl) ?_
      refine Pend ?_
      refine PW_ret ⟨.inr rfl, ?_⟩
      rw [if_neg (by have := of_decide_eq_false h2; omega)] at hA
      subst hA
      exact ret_G (.cons (.frz (.tmp rfl) (ExZ.whole rfl rfl (by simp))) .nil) rfl ⟨rfl, trivial⟩ rfl rfl
end Go.Proofs.Ytdmlfhmnlddooaa
namespace Go.Proofs.Ytdmlfhmnlddooaa
open Go Go.Pu

theorem steps_any (bs : List Nat) (hb : ∀ b ∈ bs, b < 256) (pl : Plan) (p : Nat) (hp : p ≤ 800000) : ∃ (r : List Int) (q : Nat), r.length ≤ 256 ∧ q ≤ p + 256 ∧ CtrG P 78 45 [.c (.optr 45 0 0), .c (.g (.agg pl.cells))] [(45, ⟨150, 0, .gnd [Rd bs p]⟩)] (.c (.g (.sl (r.map encI)))) [(45, ⟨150, 0, .gnd [Rd bs q]⟩)] := by
  rcases planSize_cases pl with ⟨t, rfl, h, _⟩ | h
  · exact ⟨_, _, (anyT_in bs t p h).1, (anyT_in bs t p h).2, ctr_anySteps bs hb t h p hp⟩
  · exact ⟨[0], p, by simp, by omega, ctr_anySteps_bad bs pl (by omega) p⟩
theorem take_in {bs : List Nat} (hb : ∀ b ∈ bs, b < 256) : ∀ b ∈ bs.take 2000, b < 256 := fun b h => hb b (List.mem_of_mem_take h)
def trip (a b : List GV) (l : List (List GV)) : PV := .tup [(false, [.g (.agg a)]), (false, [.g (.agg b)]), (false, [.g (.sl l)])]

/- spec.DrawRunSteps: 22 -> [25, 34, 26] -/
set_option maxRecDepth 100000 in
theorem ctr_draw (bs : List Nat) (hb : ∀ b ∈ bs, b < 256) (hl : bs.length ≤ 10000000) : ∃ (k : Work) (pl : Plan) (r : List Int), k.panes.length ≤ 24 ∧ r.length ≤ 256 ∧ CtrG P 15 37 [.c (.g (.sl (rows bs)))] [] (trip k.cells pl.cells (r.map encI)) [] := by
  have hnew := ctr_s_newReader bs hb hl
  have hb2 := take_in hb
  generalize bs.take 2000 = b at hnew hb2
  have hcp := ctr_cutsPlan b hb2 20 0 (by omega)
  obtain ⟨c1, c2, c3⟩ := cutsF_in b 20 4 0
  generalize cutsF b 20 4 0 = c at *
  obtain ⟨r, q, r1, r2, hst⟩ := steps_any b hb2 c.2.1 c.2.2 (by omega)
  have hpk := ctr_pick b hb2 q (by omega) 2
  have hpk2 := ctr_pick b hb2 (q + 1) (by omega) (((r.map encI).length : Int) + 1)
  obtain ⟨q1, q2, _⟩ := pickV_in b (q + 1) (((r.map encI).length : Int) + 1)
  have q2 := q2 (by omega)
  obtain ⟨m, hm⟩ : ∃ m : Nat, pickV b (q + 1) (((r.map encI).length : Int) + 1) = m := ⟨(pickV b (q + 1) (((r.map encI).length : Int) + 1)).toNat, by omega⟩
  rw [hm] at hpk2 q2
  rw [List.length_map] at q2
  refine ⟨c.1, c.2.1, if 0 < r.length ∧ pickV b q 2 = 0 then r.take m else r, c1, (by split <;> first | (rw [List.length_take]; omega) | omega), ?_⟩
  have hrl : (r.map encI).length = r.length := List.length_map _
  refine ctr_ofG (fn := Go.Proofs.Try.f15) (by kernel_rfl) rfl rfl rfl ?_
  rintro ⟨n, w0, F0, M, pin⟩ hn
  cases hn
  refine PW_seq ?_
  -- region 0
  refine PW_region ?_
  refine P22 .none (S_alloc rfl) ?_
  refine P22 .none (S_alloc rfl) ?_
  refine P10 .none (S_assign rfl rfl) ?_
  refine Pend ?_
  refine PW_seq ?_
  -- region 1
  refine PW_region ?_
  refine P10 .none (S_move rfl rfl) ?_
  refine P00 .none (S_callG [] [(10, 10)] false hnew (.g rfl .nil) trivial rfl (.inl rfl) rfl) ?_
  refine P10 .none (S_assign rfl rfl) ?_
  refine Pend ?_
  refine PW_seq ?_
  -- region 2
  refine PW_region ?_
  refine P10 .none (S_move rfl rfl) ?_
  refine P00 .none (S_callG [(33, 10)] [(33, 10)] false hcp (.ptr rfl rfl rfl (.g rfl .nil)) ⟨rfl, trivial⟩ rfl (.inl rfl) rfl) ?_
  refine P10 .none (S_move rfl rfl) ?_
  refine P10 .none (by first | exact S_extractG rfl rfl rfl | exact S_extractC rfl rfl rfl | exact S_extractA rfl rfl rfl) ?_
  refine P10 .none (by first | exact S_extractG rfl rfl rfl | exact S_extractC rfl rfl rfl | exact S_extractA rfl rfl rfl) ?_
  refine P22 .none (S_alloc rfl) ?_
  refine P22 .none (S_alloc rfl) ?_
  refine P01 .none (by first | exact S_storeW rfl rfl rfl rfl rfl rfl | exact S_storeWe rfl rfl rfl HK rfl rfl rfl | exact S_storeP rfl rfl rfl rfl rfl (Nat.le_of_ble_eq_true rfl) | exact S_storeLW rfl rfl rfl rfl rfl rfl rfl) ?_
  refine P01 .none (by first | exact S_storeW rfl rfl rfl rfl rfl rfl | exact S_storeWe rfl rfl rfl HK rfl rfl rfl | exact S_storeP rfl rfl rfl rfl rfl (Nat.le_of_ble_eq_true rfl) | exact S_storeLW rfl rfl rfl rfl rfl rfl rfl | exact S_storeW rfl rfl rfl (Plan.cells_one _) (Plan.cells_len _) rfl) ?_
  refine Pend ?_
  refine PW_seq ?_
  -- region 3
  refine PW_region ?_
  refine P10 .none (S_move rfl rfl) ?_
  refine P10 .none (by first | exact S_loadOW rfl rfl rfl rfl rfl | exact S_loadRW rfl rfl rfl | exact S_loadLA rfl rfl rfl (Nat.le_of_ble_eq_true rfl) rfl | exact S_loadOA rfl rfl rfl (Nat.le_of_ble_eq_true rfl) rfl | exact S_loadRA rfl (Nat.le_of_ble_eq_true rfl) rfl | exact S_loadRW rfl (Plan.cells_len _) rfl | exact S_loadOW rfl rfl rfl (Plan.cells_len _) rfl) ?_
  refine P00 .none (S_callG [(45, 10)] [(45, 10)] false hst (.ptr rfl rfl rfl (.g rfl .nil)) ⟨rfl, trivial⟩ rfl (.inl rfl) rfl) ?_
  refine P10 .none (S_assign rfl rfl) ?_
  refine Pend ?_
  refine PW_join (ι := Unit) (fun _ => [(2, .c (.optr 2 0 0)), (3, .c (.optr 3 0 0)), (6, .c (.optr 6 0 0)), (7, .c (.optr 7 0 0)), (8, .c (.g (.sl ((if 0 < r.length ∧ pickV b q 2 = 0 then r.take m else r).map encI))))]) (fun _ => [(2, ⟨25, 0, .gnd [[.int .i64 0, .int .i64 0, .nil]]⟩), (3, ⟨34, 0, .gnd [[.int .i64 0, .int .i64 0, .int .i64 0, .bool false, .nil]]⟩), (6, ⟨25, 0, .gnd [c.1.cells]⟩), (7, ⟨34, 0, .gnd [c.2.1.cells]⟩)]) (fun _ => True) ?_ (fun _ _ => ?_)
  ·
    refine PW_join (ι := Bool × Nat) (fun u4 => [(2, .c (.optr 2 0 0)), (3, .c (.optr 3 0 0)), (5, .c (.optr 10 0 0)), (6, .c (.optr 6 0 0)), (7, .c (.optr 7 0 0)), (8, .c (.g (.sl (r.map encI)))), (26, .c (.g (.bool u4.1)))]) (fun u4 => [(10, ⟨150, 0, .gnd [Rd b u4.2]⟩), (2, ⟨25, 0, .gnd [[.int .i64 0, .int .i64 0, .nil]]⟩), (3, ⟨34, 0, .gnd [[.int .i64 0, .int .i64 0, .int .i64 0, .bool false, .nil]]⟩), (6, ⟨25, 0, .gnd [c.1.cells]⟩), (7, ⟨34, 0, .gnd [c.2.1.cells]⟩)]) (fun u4 => u4.1 = decide (0 < r.length ∧ pickV b q 2 = 0) ∧ (u4.1 = true → u4.2 = q + 1)) ?_ (fun u4 hu4 => ?_)
    · skip
      -- region 4
      refine PW_region ?_
      refine P10 .none (S_move rfl rfl) ?_
      refine P10 .none (by first | exact S_lenR rfl rfl | exact S_lenO rfl rfl | exact S_lenN rfl rfl | exact S_lenS rfl rfl) ?_
      refine P10 .none (S_gtr rfl rfl rfl) ?_
      refine P10 .none (S_move rfl rfl) ?_
      refine Psplit 22 rfl (fun h1 => ?_) (fun h1 => ?_)
      · -- t22 = true
        refine P10 (.yes rfl rfl h1) (S_move rfl rfl) ?_
        refine P00 (.yes rfl rfl h1) (S_callG [(99, 10)] [(99, 10)] false hpk (.ptr rfl rfl rfl (.g rfl .nil)) ⟨rfl, trivial⟩ rfl (.inl rfl) rfl) ?_
        refine P10 (.yes rfl rfl h1) (S_eql rfl rfl rfl) ?_
        refine P10 .none (S_pickT rfl h1 rfl rfl) ?_
        refine Pend ?_
        exact ⟨(decide (pickV b q 2 = 0), q + 1), ⟨by have := of_decide_eq_true h1; rw [List.length_map] at this; exact decide_eq_decide.2 (by omega), fun _ => rfl⟩, by repeat (first | exact trivial | refine And.intro rfl ?_ | refine And.intro (by show some (PV.c (LC.g _)) = some (PV.c (LC.g _)); simp only [*, decide_true, decide_false, eq_self, if_true, if_false, reduceIte, Bool.false_eq_true, Bool.and_false, Bool.false_and, Bool.true_and, Bool.and_true, Bool.or_true, Bool.true_or, Bool.false_or, Bool.or_false, Bool.not_true, Bool.not_false]) ?_), by repeat (first | exact trivial | refine And.intro rfl ?_ | refine And.intro (by show some (PV.c (LC.g _)) = some (PV.c (LC.g _)); simp only [*, decide_true, decide_false, eq_self, if_true, if_false, reduceIte, Bool.false_eq_true, Bool.and_false, Bool.false_and, Bool.true_and, Bool.and_true, Bool.or_true, Bool.true_or, Bool.false_or, Bool.or_false, Bool.not_true, Bool.not_false]) ?_)⟩
      · -- t22 = false
        refine Pskip rfl rfl h1 rfl ?_
        refine Pskip rfl rfl h1 rfl ?_
        refine Pskip rfl rfl h1 rfl ?_
        refine P10 .none (S_pickF rfl h1 rfl rfl) ?_
        refine Pend ?_
        exact ⟨(false, q), ⟨by have := of_decide_eq_false h1; rw [List.length_map] at this; exact (decide_eq_false (by omega)).symm, fun h => by cases h⟩, by repeat (first | exact trivial | refine And.intro rfl ?_ | refine And.intro (by show some (PV.c (LC.g _)) = some (PV.c (LC.g _)); simp only [*, decide_true, decide_false, eq_self, if_true, if_false, reduceIte, Bool.false_eq_true, Bool.and_false, Bool.false_and, Bool.true_and, Bool.and_true, Bool.or_true, Bool.true_or, Bool.false_or, Bool.or_false, Bool.not_true, Bool.not_false]) ?_), by repeat (first | exact trivial | refine And.intro rfl ?_ | refine And.intro (by show some (PV.c (LC.g _)) = some (PV.c (LC.g _)); simp only [*, decide_true, decide_false, eq_self, if_true, if_false, reduceIte, Bool.false_eq_true, Bool.and_false, Bool.false_and, Bool.true_and, Bool.and_true, Bool.or_true, Bool.true_or, Bool.false_or, Bool.or_false, Bool.not_true, Bool.not_false]) ?_)⟩
    · skip
      refine PW_cond rfl (fun h2 => ?_) (fun h2 => ?_)
      · -- t26
        have hc := of_decide_eq_true (hu4.1.symm.trans h2)
        have hu2 := hu4.2 h2
        obtain ⟨u, v⟩ := u4
        dsimp only at hu2
        subst hu2
        have e : (if 0 < r.length ∧ pickV b q 2 = 0 then r.take m else r).map encI = ((r.map encI).drop 0).take (m - 0) := by rw [if_pos hc]; simp [List.map_take]
        --region 5
        refine PW_region ?_
        refine P10 .none (S_move rfl rfl) ?_
        refine P10 .none (S_move rfl rfl) ?_
        refine P10 .none (S_move rfl rfl) ?_
        refine P10 .none (by first | exact S_lenR rfl rfl | exact S_lenO rfl rfl | exact S_lenN rfl rfl | exact S_lenS rfl rfl) ?_
        refine P10 .none (S_add rfl rfl rfl (And.intro (by omega) (by omega))) ?_
        refine P00 .none (S_callG [(99, 10)] [(99, 10)] false hpk2 (.ptr rfl rfl rfl (.g rfl .nil)) ⟨rfl, trivial⟩ rfl (.inl rfl) rfl) ?_
        refine P10 .none (S_sliceR rfl (.dfl 0) (.giv (k := m) _ rfl rfl) (by omega) (by simp; omega) (by simp [encI]) rfl) ?_
        refine P10 .none (S_assign rfl rfl) ?_
        refine Pend ?_
        exact ⟨(), trivial, (by rw [e]; repeat (first | exact trivial | refine And.intro rfl ?_)), (by repeat (first | exact trivial | refine And.intro rfl ?_))⟩
      · -- not t26
        refine PW_skip ?_
        have hc := of_decide_eq_false (hu4.1.symm.trans h2)
        have e : (if 0 < r.length ∧ pickV b q 2 = 0 then r.take m else r).map encI = r.map encI := by rw [if_neg hc]
        exact ⟨(), trivial, (by rw [e]; repeat (first | exact trivial | refine And.intro rfl ?_)), (by repeat (first | exact trivial | refine And.intro rfl ?_))⟩
  ·
    refine PW_seq ?_
    -- region 6
    refine PW_draw (by kernel_rfl) ?_
    refine P10 .none (by first | exact S_loadOW rfl rfl rfl rfl rfl | exact S_loadRW rfl rfl rfl | exact S_loadLA rfl rfl rfl (Nat.le_of_ble_eq_true rfl) rfl | exact S_loadOA rfl rfl rfl (Nat.le_of_ble_eq_true rfl) rfl | exact S_loadRA rfl (Nat.le_of_ble_eq_true rfl) rfl) ?_
    refine P10 .none (by first | exact S_loadOW rfl rfl rfl rfl rfl | exact S_loadRW rfl rfl rfl | exact S_loadLA rfl rfl rfl (Nat.le_of_ble_eq_true rfl) rfl | exact S_loadOA rfl rfl rfl (Nat.le_of_ble_eq_true rfl) rfl | exact S_loadRA rfl (Nat.le_of_ble_eq_true rfl) rfl | exact S_loadRW rfl (Plan.cells_len _) rfl | exact S_loadOW rfl rfl rfl (Plan.cells_len _) rfl) ?_
    refine P10 .none (S_move rfl rfl) ?_
    refine P01 .none (by first | exact S_storeW rfl rfl rfl rfl rfl rfl | exact S_storeWe rfl rfl rfl HK rfl rfl rfl | exact S_storeP rfl rfl rfl rfl rfl (Nat.le_of_ble_eq_true rfl) | exact S_storeLW rfl rfl rfl rfl rfl rfl rfl) ?_
    refine P01 .none (by first | exact S_storeW rfl rfl rfl rfl rfl rfl | exact S_storeWe rfl rfl rfl HK rfl rfl rfl | exact S_storeP rfl rfl rfl rfl rfl (Nat.le_of_ble_eq_true rfl) | exact S_storeLW rfl rfl rfl rfl rfl rfl rfl | exact S_storeW rfl rfl rfl (Plan.cells_one _) (Plan.cells_len _) rfl) ?_
    refine P10 .none (S_assign rfl rfl) ?_
    refine Pend ⟨by kernel_rfl, ?_⟩
    refine PW_ret ⟨.inr rfl, ?_⟩
    exact ret_G (.cons (by first | exact .frz (.tmp rfl) .nil | exact .raw (.tmp rfl) rfl | exact .frz (.tmp rfl) (ExZ.whole rfl rfl rfl) | exact .raw (.gnd rfl rfl rfl) rfl | exact .raw (.gnd rfl rfl (Plan.cells_len _)) rfl) (.cons (by first | exact .frz (.tmp rfl) .nil | exact .raw (.tmp rfl) rfl | exact .frz (.tmp rfl) (ExZ.whole rfl rfl rfl) | exact .raw (.gnd rfl rfl rfl) rfl | exact .raw (.gnd rfl rfl (Plan.cells_len _)) rfl) (.cons (by first | exact .frz (.tmp rfl) .nil | exact .raw (.tmp rfl) rfl | exact .frz (.tmp rfl) (ExZ.whole rfl rfl rfl) | exact .raw (.gnd rfl rfl rfl) rfl | exact .raw (.gnd rfl rfl (Plan.cells_len _)) rfl) .nil))) rfl trivial rfl rfl
end Go.Proofs.Ytdmlfhmnlddooaa
