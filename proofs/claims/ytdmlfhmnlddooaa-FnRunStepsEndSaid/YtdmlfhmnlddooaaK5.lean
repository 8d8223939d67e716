/- The pure layer and the contracts of the functions, part 6: what the functions of the program leave, as values. -/
import Derived.Test.YtdmlfhmnlddooaaK4
set_option linter.unusedSimpArgs false
set_option linter.unusedVariables false
namespace Go.Proofs.Ytdmlfhmnlddooaa
open Go Go.Pu

theorem cuts_half {t : T} (h : t.size ≤ 255) : cutsOf t.plan = t.cuts.length := by
  unfold cutsOf
  rw [planSize_T h, if_neg (by omega)]
  have := T.cuts_count t 0 (-1)
  unfold T.cuts
  omega
theorem leaves_len (t : T) (b : Box) : ((t.parts b).filterMap placeOf).length ≤ t.size ∧ ((t.parts b).filterMap wasteOf).length ≤ t.size := by
  have := T.parts_len t b
  have h1 := List.length_filterMap_le placeOf (t.parts b)
  have h2 := List.length_filterMap_le wasteOf (t.parts b)
  omega

/- laws.FnRunStepsEnd: 22 -> [4] -/
set_option maxRecDepth 100000 in
theorem law_long (bs : List Nat) (hl : 1048576 < bs.length) : Ctr P 4 [.g (.sl (rows bs))] (.g (.bool true)) := by
  have hrl := rows_len bs
  refine ctr_of (fn := Go.Proofs.Try.f4) (by kernel_rfl) rfl rfl ?_
  rintro ⟨n, w0, F0, M, pin⟩ hn
  cases hn
  refine PW_seq ?_
  -- region 0
  refine PW_region ?_
  refine P10 .none (S_assign rfl rfl) ?_
  refine Pend ?_
  refine PW_seq ?_
  refine PW_seq ?_
  -- region 1
  refine PW_region ?_
  refine P10 .none (S_move rfl rfl) ?_
  refine P10 .none (by first | exact S_lenR rfl rfl | exact S_lenO rfl rfl | exact S_lenN rfl rfl | exact S_lenS rfl rfl) ?_
  refine P10 .none (S_gtr rfl rfl rfl) ?_
  refine Pend ?_
  refine PW_cond rfl (fun h1 => ?_) (fun h1 => ?_)
  · -- t15
    refine PW_seq ?_
    -- region 2
    refine PW_region ?_
    refine P10 .none (S_assign rfl rfl) ?_
    refine Pend ?_
    refine PW_ret ⟨.inr rfl, ?_⟩
    exact ret_g (.cons (.tmp rfl) (.c (by first | exact .nil | exact .g _ | exact Ex.whole rfl rfl rfl)) .nil) rfl trivial
  · -- not t15
    have := of_decide_eq_false h1; omega
/- laws.FnRunStepsEnd: 22 -> [4] -/
set_option maxRecDepth 100000 in
theorem law_bad (bs : List Nat) (hl : bs.length ≤ 1048576) {k : Work} {pl : Plan} {r : List Int} (hdraw : CtrG P 15 37 [.c (.g (.sl (rows bs)))] [] (trip k.cells pl.cells (r.map encI)) [])
    (h16 : Ctr P 16 [.g (.agg k.cells), .g (.agg pl.cells), .g (.sl (r.map encI))] (.g (.tup [.sl [], .bool false]))) (h17 : Ctr P 17 [.g (.agg k.cells), .g (.agg pl.cells), .g (.sl (r.map encI))] (.g (.tup [.sl [], .bool false]))) : Ctr P 4 [.g (.sl (rows bs))] (.g (.bool true)) := by
  have hrl := rows_len bs
  have heq := ctr_l_equalBoxes [] [] (by simp)
  refine ctr_of (fn := Go.Proofs.Try.f4) (by kernel_rfl) rfl rfl ?_
  rintro ⟨n, w0, F0, M, pin⟩ hn
  cases hn
  refine PW_seq ?_
  -- region 0
  refine PW_region ?_
  refine P10 .none (S_assign rfl rfl) ?_
  refine Pend ?_
  refine PW_seq ?_
  refine PW_seq ?_
  -- region 1
  refine PW_region ?_
  refine P10 .none (S_move rfl rfl) ?_
  refine P10 .none (by first | exact S_lenR rfl rfl | exact S_lenO rfl rfl | exact S_lenN rfl rfl | exact S_lenS rfl rfl) ?_
  refine P10 .none (S_gtr rfl rfl rfl) ?_
  refine Pend ?_
  refine PW_cond rfl (fun h1 => ?_) (fun h1 => ?_)
  · -- t15
    have := of_decide_eq_true h1; omega
  · -- not t15
    refine PW_skip ?_
    refine PW_seq ?_
    -- region 3
    refine PW_region ?_
    refine P10 .none (S_move rfl rfl) ?_
    refine P00 .none (S_callG [] [] false hdraw (.g rfl .nil) trivial rfl (.inl rfl) rfl) ?_
    refine P10 .none (S_move rfl rfl) ?_
    refine P10 .none (by first | exact S_extractG rfl rfl rfl | exact S_extractC rfl rfl rfl | exact S_extractA rfl rfl rfl) ?_
    refine P10 .none (by first | exact S_extractG rfl rfl rfl | exact S_extractC rfl rfl rfl | exact S_extractA rfl rfl rfl) ?_
    refine P10 .none (by first | exact S_extractG rfl rfl rfl | exact S_extractC rfl rfl rfl | exact S_extractA rfl rfl rfl) ?_
    refine P22 .none (S_alloc rfl) ?_
    refine P22 .none (S_alloc rfl) ?_
    refine P01 .none (by first | exact S_storeW rfl rfl rfl rfl rfl rfl | exact S_storeWe rfl rfl rfl HK rfl rfl rfl | exact S_storeP rfl rfl rfl rfl rfl (Nat.le_of_ble_eq_true rfl) | exact S_storeLW rfl rfl rfl rfl rfl rfl rfl) ?_
    refine P01 .none (by first | exact S_storeW rfl rfl rfl rfl rfl rfl | exact S_storeWe rfl rfl rfl HK rfl rfl rfl | exact S_storeP rfl rfl rfl rfl rfl (Nat.le_of_ble_eq_true rfl) | exact S_storeLW rfl rfl rfl rfl rfl rfl rfl | exact S_storeW rfl rfl rfl (Plan.cells_one _) (Plan.cells_len _) rfl) ?_
    refine P10 .none (S_assign rfl rfl) ?_
    refine Pend ?_
    refine PW_seq ?_
    -- region 4
    refine PW_region ?_
    refine P10 .none (by first | exact S_loadOW rfl rfl rfl rfl rfl | exact S_loadRW rfl rfl rfl | exact S_loadLA rfl rfl rfl (Nat.le_of_ble_eq_true rfl) rfl | exact S_loadOA rfl rfl rfl (Nat.le_of_ble_eq_true rfl) rfl | exact S_loadRA rfl (Nat.le_of_ble_eq_true rfl) rfl) ?_
    refine P10 .none (by first | exact S_loadOW rfl rfl rfl rfl rfl | exact S_loadRW rfl rfl rfl | exact S_loadLA rfl rfl rfl (Nat.le_of_ble_eq_true rfl) rfl | exact S_loadOA rfl rfl rfl (Nat.le_of_ble_eq_true rfl) rfl | exact S_loadRA rfl (Nat.le_of_ble_eq_true rfl) rfl | exact S_loadRW rfl (Plan.cells_len _) rfl | exact S_loadOW rfl rfl rfl (Plan.cells_len _) rfl) ?_
    refine P10 .none (S_move rfl rfl) ?_
    refine P00 .none (S_call (.one rfl (.one rfl (.one rfl .nil))) rfl h16 (.inl rfl) rfl) ?_
    refine P10 .none (S_move rfl rfl) ?_
    refine P10 .none (by first | exact S_extractG rfl rfl rfl | exact S_extractC rfl rfl rfl | exact S_extractA rfl rfl rfl) ?_
    refine P10 .none (by first | exact S_extractG rfl rfl rfl | exact S_extractC rfl rfl rfl | exact S_extractA rfl rfl rfl) ?_
    refine P10 .none (S_assign rfl rfl) ?_
    refine P10 .none (S_assign rfl rfl) ?_
    refine Pend ?_
    refine PW_seq ?_
    -- region 5
    refine PW_region ?_
    refine P10 .none (by first | exact S_loadOW rfl rfl rfl rfl rfl | exact S_loadRW rfl rfl rfl | exact S_loadLA rfl rfl rfl (Nat.le_of_ble_eq_true rfl) rfl | exact S_loadOA rfl rfl rfl (Nat.le_of_ble_eq_true rfl) rfl | exact S_loadRA rfl (Nat.le_of_ble_eq_true rfl) rfl) ?_
    refine P10 .none (by first | exact S_loadOW rfl rfl rfl rfl rfl | exact S_loadRW rfl rfl rfl | exact S_loadLA rfl rfl rfl (Nat.le_of_ble_eq_true rfl) rfl | exact S_loadOA rfl rfl rfl (Nat.le_of_ble_eq_true rfl) rfl | exact S_loadRA rfl (Nat.le_of_ble_eq_true rfl) rfl | exact S_loadRW rfl (Plan.cells_len _) rfl | exact S_loadOW rfl rfl rfl (Plan.cells_len _) rfl) ?_
    refine P10 .none (S_move rfl rfl) ?_
    refine P00 .none (S_call (.one rfl (.one rfl (.one rfl .nil))) rfl h17 (.inl rfl) rfl) ?_
    refine P10 .none (S_move rfl rfl) ?_
    refine P10 .none (by first | exact S_extractG rfl rfl rfl | exact S_extractC rfl rfl rfl | exact S_extractA rfl rfl rfl) ?_
    refine P10 .none (by first | exact S_extractG rfl rfl rfl | exact S_extractC rfl rfl rfl | exact S_extractA rfl rfl rfl) ?_
    refine P10 .none (S_assign rfl rfl) ?_
    refine P10 .none (S_assign rfl rfl) ?_
    refine Pend ?_
    refine PW_seq ?_
    refine PW_seq ?_
    -- region 6
    refine PW_region ?_
    refine P10 .none (S_move rfl rfl) ?_
    refine P10 .none (S_move rfl rfl) ?_
    refine P00 .none (S_call (.one rfl (.one rfl .nil)) rfl heq (.inl rfl) rfl) ?_
    refine P10 .none (S_not rfl rfl) ?_
    refine P10 .none (S_move rfl rfl) ?_
    refine Psplit 40 rfl (fun h2 => ?_) (fun h2 => ?_)
    · -- t40 = true
      simp at h2
    · -- t40 = false
      refine P10 (.yes rfl rfl h2) (S_move rfl rfl) ?_
      refine P10 (.yes rfl rfl h2) (S_move rfl rfl) ?_
      refine P10 (.yes rfl rfl h2) (S_neb rfl rfl rfl) ?_
      refine P10 .none (S_pickF rfl h2 rfl rfl) ?_
      refine P10 .none (S_move rfl rfl) ?_
      refine Psplit 45 rfl (fun h4 => ?_) (fun h4 => ?_)
      · -- t45 = true
        cases h4
      · -- t45 = false
        refine P10 (.yes rfl rfl h4) (S_move rfl rfl) ?_
        refine P10 (.yes rfl rfl h4) (S_not rfl rfl) ?_
        refine P10 .none (S_pickF rfl h4 rfl rfl) ?_
        refine Pend ?_
        refine PW_cond rfl (fun h6 => ?_) (fun h6 => ?_)
        · -- t48
          refine PW_seq ?_
          -- region 7
          refine PW_region ?_
          refine P10 .none (S_move rfl rfl) ?_
          refine P10 .none (S_move rfl rfl) ?_
          refine P00 .none (S_call (.one rfl (.one rfl .nil)) rfl heq (.inl rfl) rfl) ?_
          refine P10 .none (S_move rfl rfl) ?_
          refine Psplit 52 rfl (fun h7 => ?_) (fun h7 => ?_)
          · -- t52 = true
            refine P10 (.yes rfl rfl h7) (S_move rfl rfl) ?_
            refine P10 (.yes rfl rfl h7) (S_move rfl rfl) ?_
            refine P10 (.yes rfl rfl h7) (S_eqb rfl rfl rfl) ?_
            refine P10 .none (S_pickT rfl h7 rfl rfl) ?_
            refine P10 .none (S_assign rfl rfl) ?_
            refine Pend ?_
            refine PW_ret ⟨.inr rfl, ?_⟩
            exact ret_g (.cons (.tmp rfl) (.c (by first | exact .nil | exact .g _ | exact Ex.whole rfl rfl rfl)) .nil) rfl trivial
          · -- t52 = false
            simp at h7
        · -- not t48
          cases h6
/- laws.FnRunStepsEnd: 22 -> [4] -/
set_option maxRecDepth 100000 in
theorem law_good (bs : List Nat) (hl : bs.length ≤ 1048576) {k : Work} {t : T} {r : List Int} (hv : VP k t) (hr : r.length ≤ 1000) (hbg : begins t.cuts r = true) (hdraw : CtrG P 15 37 [.c (.g (.sl (rows bs)))] [] (trip k.cells t.plan.cells (r.map encI)) [])
    (h16 : Ctr P 16 [.g (.agg k.cells), .g (.agg t.plan.cells), .g (.sl (r.map encI))] (.g (.tup [.sl ((runT k t r).map Box.cells), .bool true]))) (h17 : Ctr P 17 [.g (.agg k.cells), .g (.agg t.plan.cells), .g (.sl (r.map encI))] (.g (.tup [.sl ((runT k t r).map Box.cells), .bool true]))) : Ctr P 4 [.g (.sl (rows bs))] (.g (.bool true)) := by
  have hrl := rows_len bs
  have h255 := hv.2.1
  have hR := runT_len (k := k) (t := t) r
  have heq := ctr_l_equalBoxes (runT k t r) (runT k t r) (by omega)
  have hvs := ctr_i_ValidSteps t h255 r (by omega)
  have hco := ctr_i_CutsOf t.plan
  rw [cuts_half h255] at hco
  have hpl := ctr_i_PlacesOf k t hv
  have hwa := ctr_i_WastesOf k t hv
  obtain ⟨l1, l2⟩ := leaves_len t (sheet k)
  have hbx := ctr_l_boxesOf ((t.parts (sheet k)).filterMap placeOf) (by omega)
  have hbe := ctr_i_BestSteps t h255
  have hbb := best_begins t
  have h16b := ctr_i_RunSteps k t hv (t.best 0) hbb
  have hR2 := runT_len (k := k) (t := t) (t.best 0)
  have hbl := T.best_length t 0 (-1)
  have hcl := (T.cuts_ok h255).1
  have hlp := leaves_places t (sheet k)
  have hend2 := (run_end hv hbb hbl).trans hlp
  have hs1 : r.length = t.cuts.length → sameBoxes (runT k t r) (((t.parts (sheet k)).filterMap placeOf).map (·.box) ++ (t.parts (sheet k)).filterMap wasteOf) = true := fun h => sameBoxes_perm ((run_end hv hbg h).trans hlp)
  have hs2 := sameBoxes_perm hend2
  have hle : r.length ≤ t.cuts.length := by
    obtain ⟨a1, a2⟩ := begins_nodup hbg
    have := (sub_all a1 a2).1
    rwa [List.length_map] at this
  rw [hbg, Bool.and_true] at hvs
  have hb25 := ctr_l_sameBoxes (runT k t r) (((t.parts (sheet k)).filterMap placeOf).map (·.box) ++ (t.parts (sheet k)).filterMap wasteOf) (by omega) (by rw [List.length_append, List.length_map]; omega)
  have hb26 := ctr_l_sameBoxes (runT k t (t.best 0)) (((t.parts (sheet k)).filterMap placeOf).map (·.box) ++ (t.parts (sheet k)).filterMap wasteOf) (by unfold T.cuts at hcl; omega) (by rw [List.length_append, List.length_map]; omega)
  rw [List.map_append] at hb25 hb26
  rw [hs2] at hb26
  generalize (t.parts (sheet k)).filterMap placeOf = pls at *
  generalize (t.parts (sheet k)).filterMap wasteOf = was at *
  refine ctr_of (fn := Go.Proofs.Try.f4) (by kernel_rfl) rfl rfl ?_
  rintro ⟨n, w0, F0, M, pin⟩ hn
  cases hn
  refine PW_seq ?_
  -- region 0
  refine PW_region ?_
  refine P10 .none (S_assign rfl rfl) ?_
  refine Pend ?_
  refine PW_seq ?_
  refine PW_seq ?_
  -- region 1
  refine PW_region ?_
  refine P10 .none (S_move rfl rfl) ?_
  refine P10 .none (by first | exact S_lenR rfl rfl | exact S_lenO rfl rfl | exact S_lenN rfl rfl | exact S_lenS rfl rfl) ?_
  refine P10 .none (S_gtr rfl rfl rfl) ?_
  refine Pend ?_
  refine PW_cond rfl (fun h1 => ?_) (fun h1 => ?_)
  · -- t15
    have := of_decide_eq_true h1; omega
  · -- not t15
    refine PW_skip ?_
    refine PW_seq ?_
    -- region 3
    refine PW_region ?_
    refine P10 .none (S_move rfl rfl) ?_
    refine P00 .none (S_callG [] [] false hdraw (.g rfl .nil) trivial rfl (.inl rfl) rfl) ?_
    refine P10 .none (S_move rfl rfl) ?_
    refine P10 .none (by first | exact S_extractG rfl rfl rfl | exact S_extractC rfl rfl rfl | exact S_extractA rfl rfl rfl) ?_
    refine P10 .none (by first | exact S_extractG rfl rfl rfl | exact S_extractC rfl rfl rfl | exact S_extractA rfl rfl rfl) ?_
    refine P10 .none (by first | exact S_extractG rfl rfl rfl | exact S_extractC rfl rfl rfl | exact S_extractA rfl rfl rfl) ?_
    refine P22 .none (S_alloc rfl) ?_
    refine P22 .none (S_alloc rfl) ?_
    refine P01 .none (by first | exact S_storeW rfl rfl rfl rfl rfl rfl | exact S_storeWe rfl rfl rfl HK rfl rfl rfl | exact S_storeP rfl rfl rfl rfl rfl (Nat.le_of_ble_eq_true rfl) | exact S_storeLW rfl rfl rfl rfl rfl rfl rfl) ?_
    refine P01 .none (by first | exact S_storeW rfl rfl rfl rfl rfl rfl | exact S_storeWe rfl rfl rfl HK rfl rfl rfl | exact S_storeP rfl rfl rfl rfl rfl (Nat.le_of_ble_eq_true rfl) | exact S_storeLW rfl rfl rfl rfl rfl rfl rfl | exact S_storeW rfl rfl rfl (Plan.cells_one _) (Plan.cells_len _) rfl) ?_
    refine P10 .none (S_assign rfl rfl) ?_
    refine Pend ?_
    refine PW_seq ?_
    -- region 4
    refine PW_region ?_
    refine P10 .none (by first | exact S_loadOW rfl rfl rfl rfl rfl | exact S_loadRW rfl rfl rfl | exact S_loadLA rfl rfl rfl (Nat.le_of_ble_eq_true rfl) rfl | exact S_loadOA rfl rfl rfl (Nat.le_of_ble_eq_true rfl) rfl | exact S_loadRA rfl (Nat.le_of_ble_eq_true rfl) rfl) ?_
    refine P10 .none (by first | exact S_loadOW rfl rfl rfl rfl rfl | exact S_loadRW rfl rfl rfl | exact S_loadLA rfl rfl rfl (Nat.le_of_ble_eq_true rfl) rfl | exact S_loadOA rfl rfl rfl (Nat.le_of_ble_eq_true rfl) rfl | exact S_loadRA rfl (Nat.le_of_ble_eq_true rfl) rfl | exact S_loadRW rfl (Plan.cells_len _) rfl | exact S_loadOW rfl rfl rfl (Plan.cells_len _) rfl) ?_
    refine P10 .none (S_move rfl rfl) ?_
    refine P00 .none (S_call (.one rfl (.one rfl (.one rfl .nil))) rfl h16 (.inl rfl) rfl) ?_
    refine P10 .none (S_move rfl rfl) ?_
    refine P10 .none (by first | exact S_extractG rfl rfl rfl | exact S_extractC rfl rfl rfl | exact S_extractA rfl rfl rfl) ?_
    refine P10 .none (by first | exact S_extractG rfl rfl rfl | exact S_extractC rfl rfl rfl | exact S_extractA rfl rfl rfl) ?_
    refine P10 .none (S_assign rfl rfl) ?_
    refine P10 .none (S_assign rfl rfl) ?_
    refine Pend ?_
    refine PW_seq ?_
    -- region 5
    refine PW_region ?_
    refine P10 .none (by first | exact S_loadOW rfl rfl rfl rfl rfl | exact S_loadRW rfl rfl rfl | exact S_loadLA rfl rfl rfl (Nat.le_of_ble_eq_true rfl) rfl | exact S_loadOA rfl rfl rfl (Nat.le_of_ble_eq_true rfl) rfl | exact S_loadRA rfl (Nat.le_of_ble_eq_true rfl) rfl) ?_
    refine P10 .none (by first | exact S_loadOW rfl rfl rfl rfl rfl | exact S_loadRW rfl rfl rfl | exact S_loadLA rfl rfl rfl (Nat.le_of_ble_eq_true rfl) rfl | exact S_loadOA rfl rfl rfl (Nat.le_of_ble_eq_true rfl) rfl | exact S_loadRA rfl (Nat.le_of_ble_eq_true rfl) rfl | exact S_loadRW rfl (Plan.cells_len _) rfl | exact S_loadOW rfl rfl rfl (Plan.cells_len _) rfl) ?_
    refine P10 .none (S_move rfl rfl) ?_
    refine P00 .none (S_call (.one rfl (.one rfl (.one rfl .nil))) rfl h17 (.inl rfl) rfl) ?_
    refine P10 .none (S_move rfl rfl) ?_
    refine P10 .none (by first | exact S_extractG rfl rfl rfl | exact S_extractC rfl rfl rfl | exact S_extractA rfl rfl rfl) ?_
    refine P10 .none (by first | exact S_extractG rfl rfl rfl | exact S_extractC rfl rfl rfl | exact S_extractA rfl rfl rfl) ?_
    refine P10 .none (S_assign rfl rfl) ?_
    refine P10 .none (S_assign rfl rfl) ?_
    refine Pend ?_
    refine PW_seq ?_
    refine PW_seq ?_
    -- region 6
    refine PW_region ?_
    refine P10 .none (S_move rfl rfl) ?_
    refine P10 .none (S_move rfl rfl) ?_
    refine P00 .none (S_call (.one rfl (.one rfl .nil)) rfl heq (.inl rfl) rfl) ?_
    refine P10 .none (S_not rfl rfl) ?_
    refine P10 .none (S_move rfl rfl) ?_
    refine Psplit 40 rfl (fun h2 => ?_) (fun h2 => ?_)
    · -- t40 = true
      simp at h2
    · -- t40 = false
      refine P10 (.yes rfl rfl h2) (S_move rfl rfl) ?_
      refine P10 (.yes rfl rfl h2) (S_move rfl rfl) ?_
      refine P10 (.yes rfl rfl h2) (S_neb rfl rfl rfl) ?_
      refine P10 .none (S_pickF rfl h2 rfl rfl) ?_
      refine P10 .none (S_move rfl rfl) ?_
      refine Psplit 45 rfl (fun h4 => ?_) (fun h4 => ?_)
      · -- t45 = true
        cases h4
      · -- t45 = false
        refine P10 (.yes rfl rfl h4) (S_move rfl rfl) ?_
        refine P10 (.yes rfl rfl h4) (S_not rfl rfl) ?_
        refine P10 .none (S_pickF rfl h4 rfl rfl) ?_
        refine Pend ?_
        refine PW_cond rfl (fun h6 => ?_) (fun h6 => ?_)
        · -- t48
          cases h6
        · -- not t48
          refine PW_skip ?_
          refine PW_seq ?_
          refine PW_seq ?_
          -- region 8
          refine PW_region ?_
          refine P10 .none (by first | exact S_loadOW rfl rfl rfl rfl rfl | exact S_loadRW rfl rfl rfl | exact S_loadLA rfl rfl rfl (Nat.le_of_ble_eq_true rfl) rfl | exact S_loadOA rfl rfl rfl (Nat.le_of_ble_eq_true rfl) rfl | exact S_loadRA rfl (Nat.le_of_ble_eq_true rfl) rfl | exact S_loadRW rfl (Plan.cells_len _) rfl | exact S_loadOW rfl rfl rfl (Plan.cells_len _) rfl) ?_
          refine P10 .none (S_move rfl rfl) ?_
          refine P00 .none (S_call (.one rfl (.one rfl .nil)) rfl hvs (.inl rfl) rfl) ?_
          refine P10 .none (S_not rfl rfl) ?_
          refine Pend ?_
          refine PW_cond rfl (fun h8 => ?_) (fun h8 => ?_)
          · -- t60
            refine PW_seq ?_
            -- region 9
            refine PW_region ?_
            refine P10 .none (S_move rfl rfl) ?_
            refine P10 .none (by first | exact S_lenR rfl rfl | exact S_lenO rfl rfl | exact S_lenN rfl rfl | exact S_lenS rfl rfl) ?_
            refine P10 .none (by first | exact S_loadOW rfl rfl rfl rfl rfl | exact S_loadRW rfl rfl rfl | exact S_loadLA rfl rfl rfl (Nat.le_of_ble_eq_true rfl) rfl | exact S_loadOA rfl rfl rfl (Nat.le_of_ble_eq_true rfl) rfl | exact S_loadRA rfl (Nat.le_of_ble_eq_true rfl) rfl | exact S_loadRW rfl (Plan.cells_len _) rfl | exact S_loadOW rfl rfl rfl (Plan.cells_len _) rfl) ?_
            refine P00 .none (S_call (.one rfl .nil) rfl hco (.inl rfl) rfl) ?_
            refine P10 .none (S_lss rfl rfl rfl) ?_
            refine P10 .none (S_assign rfl rfl) ?_
            refine Pend ?_
            refine PW_ret ⟨.inr rfl, ?_⟩
            exact ret_g (.cons (.tmp rfl) (.c (.g _)) .nil) (by
              have h9 : r.length ≠ t.cuts.length := by simpa using h8
              simp only [gres]; rw [List.length_map, decide_eq_true (by omega)]) trivial
          · -- not t60
            refine PW_skip ?_
            refine PW_seq ?_
            have h9' : r.length = t.cuts.length := by simpa using h8
            have hs1 := hs1 h9'
            rw [hs1] at hb25
            --region 10
            refine PW_draw (by kernel_rfl) ?_
            refine P10 .none (by first | exact S_loadOW rfl rfl rfl rfl rfl | exact S_loadRW rfl rfl rfl | exact S_loadLA rfl rfl rfl (Nat.le_of_ble_eq_true rfl) rfl | exact S_loadOA rfl rfl rfl (Nat.le_of_ble_eq_true rfl) rfl | exact S_loadRA rfl (Nat.le_of_ble_eq_true rfl) rfl) ?_
            refine P10 .none (by first | exact S_loadOW rfl rfl rfl rfl rfl | exact S_loadRW rfl rfl rfl | exact S_loadLA rfl rfl rfl (Nat.le_of_ble_eq_true rfl) rfl | exact S_loadOA rfl rfl rfl (Nat.le_of_ble_eq_true rfl) rfl | exact S_loadRA rfl (Nat.le_of_ble_eq_true rfl) rfl | exact S_loadRW rfl (Plan.cells_len _) rfl | exact S_loadOW rfl rfl rfl (Plan.cells_len _) rfl) ?_
            refine P00 .none (S_call (.one rfl (.one rfl .nil)) rfl hpl (.inl rfl) rfl) ?_
            refine P00 .none (S_call (.one rfl .nil) rfl hbx (.inl rfl) rfl) ?_
            refine P10 .none (by first | exact S_loadOW rfl rfl rfl rfl rfl | exact S_loadRW rfl rfl rfl | exact S_loadLA rfl rfl rfl (Nat.le_of_ble_eq_true rfl) rfl | exact S_loadOA rfl rfl rfl (Nat.le_of_ble_eq_true rfl) rfl | exact S_loadRA rfl (Nat.le_of_ble_eq_true rfl) rfl) ?_
            refine P10 .none (by first | exact S_loadOW rfl rfl rfl rfl rfl | exact S_loadRW rfl rfl rfl | exact S_loadLA rfl rfl rfl (Nat.le_of_ble_eq_true rfl) rfl | exact S_loadOA rfl rfl rfl (Nat.le_of_ble_eq_true rfl) rfl | exact S_loadRA rfl (Nat.le_of_ble_eq_true rfl) rfl | exact S_loadRW rfl (Plan.cells_len _) rfl | exact S_loadOW rfl rfl rfl (Plan.cells_len _) rfl) ?_
            refine P00 .none (S_call (.one rfl (.one rfl .nil)) rfl hwa (.inl rfl) rfl) ?_
            refine P22 .none (S_appW rfl rfl rfl rfl (.sl (by simp [Box.cells]) (by simp [Box.cells, GV.one])) (by simp [Box.cells]) rfl (by omega) (by simp only [List.length_map]; omega) rfl) ?_
            refine P10 .none (S_assign rfl rfl) ?_
            refine Pend ⟨by kernel_rfl, ?_⟩
            refine PW_seq ?_
            -- region 11
            refine PW_draw (by kernel_rfl) ?_
            refine P10 .none (by first | exact S_loadOW rfl rfl rfl rfl rfl | exact S_loadRW rfl rfl rfl | exact S_loadLA rfl rfl rfl (Nat.le_of_ble_eq_true rfl) rfl | exact S_loadOA rfl rfl rfl (Nat.le_of_ble_eq_true rfl) rfl | exact S_loadRA rfl (Nat.le_of_ble_eq_true rfl) rfl) ?_
            refine P10 .none (by first | exact S_loadOW rfl rfl rfl rfl rfl | exact S_loadRW rfl rfl rfl | exact S_loadLA rfl rfl rfl (Nat.le_of_ble_eq_true rfl) rfl | exact S_loadOA rfl rfl rfl (Nat.le_of_ble_eq_true rfl) rfl | exact S_loadRA rfl (Nat.le_of_ble_eq_true rfl) rfl | exact S_loadRW rfl (Plan.cells_len _) rfl | exact S_loadOW rfl rfl rfl (Plan.cells_len _) rfl) ?_
            refine P10 .none (by first | exact S_loadOW rfl rfl rfl rfl rfl | exact S_loadRW rfl rfl rfl | exact S_loadLA rfl rfl rfl (Nat.le_of_ble_eq_true rfl) rfl | exact S_loadOA rfl rfl rfl (Nat.le_of_ble_eq_true rfl) rfl | exact S_loadRA rfl (Nat.le_of_ble_eq_true rfl) rfl | exact S_loadRW rfl (Plan.cells_len _) rfl | exact S_loadOW rfl rfl rfl (Plan.cells_len _) rfl) ?_
            refine P00 .none (S_call (.one rfl .nil) rfl hbe (.inl rfl) rfl) ?_
            refine P00 .none (S_call (.one rfl (.one rfl (.one rfl .nil))) rfl h16b (.inl rfl) rfl) ?_
            refine P10 .none (S_move rfl rfl) ?_
            refine P10 .none (by first | exact S_extractG rfl rfl rfl | exact S_extractC rfl rfl rfl | exact S_extractA rfl rfl rfl) ?_
            refine P10 .none (by first | exact S_extractG rfl rfl rfl | exact S_extractC rfl rfl rfl | exact S_extractA rfl rfl rfl) ?_
            refine P10 .none (S_assign rfl rfl) ?_
            refine P10 .none (S_assign rfl rfl) ?_
            refine Pend ⟨by kernel_rfl, ?_⟩
            refine PW_seq ?_
            -- region 12
            refine PW_region ?_
            refine P10 .none (S_move rfl rfl) ?_
            refine P10 .none (S_move rfl rfl) ?_
            refine Psplit 83 rfl (fun h9 => ?_) (fun h9 => ?_)
            · -- t83 = true
              refine P10 (.yes rfl rfl h9) (S_move rfl rfl) ?_
              refine P10 (.yes rfl rfl h9) (S_move rfl rfl) ?_
              refine P00 (.yes rfl rfl h9) (S_call (.one rfl (.borw rfl rfl (by simp) .nil)) rfl hb25 (.inr ⟨flat_bool _, by simp [XA.Flat]⟩) rfl) ?_
              refine P10 .none (S_pickT rfl h9 rfl rfl) ?_
              refine P10 .none (S_move rfl rfl) ?_
              refine Psplit 88 rfl (fun h10 => ?_) (fun h10 => ?_)
              · -- t88 = true
                refine P10 (.yes rfl rfl h10) (S_move rfl rfl) ?_
                refine P10 (.yes rfl rfl h10) (S_move rfl rfl) ?_
                refine P00 (.yes rfl rfl h10) (S_call (.one rfl (.borw rfl rfl (by simp) .nil)) rfl hb26 (.inr ⟨flat_bool _, by simp [XA.Flat]⟩) rfl) ?_
                refine P10 .none (S_pickT rfl h10 rfl rfl) ?_
                refine P10 .none (S_assign rfl rfl) ?_
                refine Pend ?_
                refine PW_ret ⟨.inr rfl, ?_⟩
                exact ret_g (.cons (.tmp rfl) (.c (by first | exact .nil | exact .g _ | exact Ex.whole rfl rfl rfl)) .nil) rfl trivial
              · -- t88 = false
                cases h10
            · -- t83 = false
              cases h9
/-- The law holds of every code. -/
theorem law_all (bs : List Nat) (hb : ∀ b ∈ bs, b < 256) : Ctr P 4 [.g (.sl (rows bs))] (.g (.bool true)) := by
  by_cases hl : bs.length ≤ 1048576
  · obtain ⟨k, pl, r, k1, r1, hd⟩ := ctr_draw bs hb (by omega)
    cases hv : validPlan k pl with
    | false => exact law_bad bs hl hd (ctr_i_RunSteps_bad k pl hv r) (ctr_s_RunSteps_bad k pl (by omega) hv r)
    | true =>
      obtain ⟨t, rfl, hvp⟩ := validPlan_iff.1 hv
      have e1 := ctr_i_RunSteps_all k t hvp r (by omega)
      have e2 := ctr_s_RunSteps_all k t (by omega) hvp r (by omega)
      unfold runRes at e1 e2
      cases hb : begins t.cuts r with
      | false => rw [if_neg (by rw [hb]; simp)] at e1 e2; exact law_bad bs hl hd e1 e2
      | true => rw [if_pos hb] at e1 e2; exact law_good bs hl hvp (by omega) hb hd e1 e2
  · exact law_long bs (by omega)

end Go.Proofs.Ytdmlfhmnlddooaa
