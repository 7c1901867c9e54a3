/- Part 5 of a proof of FnExactDecode: the machine of values and its rules, contracts of functions and plain laws. -/
import Derived.Test.YtbkepbngdcakaaaDecodeq3
import Derived.IntWalk
set_option linter.unusedSimpArgs false
set_option linter.unusedVariables false
set_option linter.unusedSimpArgs false
set_option linter.unusedVariables false
namespace Go.V
open Go Go.RowKit Go.Proofs
set_option maxHeartbeats 4000000 in
set_option maxRecDepth 100000 in
theorem laws_FnExactDecode_ok {a0 : (List Int)} {r : Bool} (h0 : laws_FnExactDecode a0 = some r) :
    OkA Try.prog 3 [.v (.sl none (a0.map eIu8))] [.c (.bool r)] false := by
  unfold laws_FnExactDecode at h0
  refine okA_of (n := 93) (rvs := [.tmp 2]) Try.func3 rfl rfl rfl (by simp) ?_
  simp only [slots, slotsM, widths, List.map_cons, List.sum_cons, List.sum_nil, Nat.reduceAdd, List.length_cons, List.length_nil, RT.width, unRs, unR, unCs, unC, putsO, putO, Cell.ro, List.map_cons, List.map_nil, List.nil_append, List.append_nil, List.cons_append]
  refine go_seq ?_
  refine go_region fun K hK => ?_
  try simp (config := { maxSteps := 4000000 }) only [push_cast, reduceIte, reduceCtorEq, Nat.reduceAdd, Nat.reduceSub, Nat.reduceMul, Nat.reduceEqDiff, Nat.reduceLT, Nat.reduceLeDiff]
  refine hK _ _ ?_
  clear hK K
  refine go_seq ?_
  refine go_seq ?_
  refine go_region fun K hK => ?_
  try simp (config := { maxSteps := 4000000 }) only [push_cast, reduceIte, reduceCtorEq, Nat.reduceAdd, Nat.reduceSub, Nat.reduceMul, Nat.reduceEqDiff, Nat.reduceLT, Nat.reduceLeDiff]
  refine hK _ _ ?_
  clear hK K
  refine go_cond _ rfl (fun h19 => ?_) (fun h19 => ?_)
  · replace h0 := (bif_t h19).symm.trans h0
    refine go_seq ?_
    refine go_region fun K hK => ?_
    try simp (config := { maxSteps := 4000000 }) only [push_cast, reduceIte, reduceCtorEq, Nat.reduceAdd, Nat.reduceSub, Nat.reduceMul, Nat.reduceEqDiff, Nat.reduceLT, Nat.reduceLeDiff]
    refine hK _ _ ?_
    clear hK K
    refine go_ret ?_
    refine go_out_ret ?_
    cases h0
    refine go_end_ret ?_
    exact ⟨_, [], rfl, (.cons (.c (.bool _)) .nil), by decide, .inr (by simp only [RT.cells, List.mem_cons, List.mem_singleton, List.not_mem_nil, or_false, forall_eq, forall_eq_or_imp, allOwn_int, allOwn_bool, allOwn_str, allOwn_none, eIu8_ao, eTelegram_ao, eIi64_ao, eShunt_ao, eLIi64_ao, eSidings_ao, eNeed_ao, eRoute_ao, ePlant_ao, eLockOp_ao, eB_ao, eLocking_ao, eTask_ao, eRule_ao, eEdge_ao, eCall_ao, eTrip_ao, eBooking_ao, eNet_ao, eTrain_ao, eDesk_ao, eUse_ao, eRun_ao, eT_ao, o120Trip_ao, o33LIi64_ao, implies_true, and_true, false_implies, List.map_eq_nil_iff, and_self])⟩
  · replace h0 := (bif_f h19).symm.trans h0
    refine go_skip ?_
    refine go_seq ?_
    refine go_region fun K hK => ?_
    try simp (config := { maxSteps := 4000000 }) only [push_cast, reduceIte, reduceCtorEq, Nat.reduceAdd, Nat.reduceSub, Nat.reduceMul, Nat.reduceEqDiff, Nat.reduceLT, Nat.reduceLeDiff]
    repeat (refine And.intro ?_ ?_; · ((repeat' apply And.intro) <;> first | assumption | omega | kernel_rfl | decide | (simp; done) | (simp only [List.length_cons, List.length_nil, List.length_append, List.length_map, List.length_set, List.length_replicate, List.length_take, List.length_drop] at *; omega)))
    obtain ⟨t1, ht1, h0⟩ := bind_some' h0
    refine vops_callA (laws_toByteS_ok ht1) cb21 (by simp only [lt_some, lt_none, mk_n, Nat.reduceLT]) (by simp only [push_cast, List.map_append, List.map_set, List.map_replicate]; rfl) (Nat.le_of_ble_eq_true rfl) ?_
    try simp (config := { maxSteps := 4000000 }) only [push_cast, reduceIte, reduceCtorEq, Nat.reduceAdd, Nat.reduceSub, Nat.reduceMul, Nat.reduceEqDiff, Nat.reduceLT, Nat.reduceLeDiff]
    repeat (refine And.intro ?_ ?_; · ((repeat' apply And.intro) <;> first | assumption | omega | kernel_rfl | decide | (simp; done) | (simp only [List.length_cons, List.length_nil, List.length_append, List.length_map, List.length_set, List.length_replicate, List.length_take, List.length_drop] at *; omega)))
    obtain ⟨t2, ht2, h0⟩ := bind_some' h0
    refine vops_callA (spec_Decode_ok ht2) cb20 (by simp only [lt_some, lt_none, mk_n, Nat.reduceLT]) (by simp only [push_cast, List.map_append, List.map_set, List.map_replicate]; rfl) (Nat.le_of_ble_eq_true rfl) ?_
    try simp (config := { maxSteps := 4000000 }) only [push_cast, reduceIte, reduceCtorEq, Nat.reduceAdd, Nat.reduceSub, Nat.reduceMul, Nat.reduceEqDiff, Nat.reduceLT, Nat.reduceLeDiff]
    repeat (refine And.intro ?_ ?_; · ((repeat' apply And.intro) <;> first | assumption | omega | kernel_rfl | decide | (simp; done) | (simp only [List.length_cons, List.length_nil, List.length_append, List.length_map, List.length_set, List.length_replicate, List.length_take, List.length_drop] at *; omega)))
    refine hK _ _ ?_
    clear hK K
    refine go_wk (k' := 2) (τ := mk 93 0 [(0, .c (.lst (a0.map eIu8))), (3, .c (.ptr 0 0)), (4, .c (.bool t2.2))] (nums 0 [.box [.int .i64 t2.1.fSeq, .int .i64 t2.1.fKind, .own 1], .row 5 1 (t2.1.fBody.map eIu8)])) ?_ ?_
    ·
      refine wk_mk [some 320, some 194] rfl ?_ ?_ ?_ ?_ ?_
      · exact (fun i h => absurd h (by omega))
      · exact (.cons _ _ _ (sv_lst (by first | rfl | (simp only [push_cast, List.map_append, List.map_set, List.map_replicate]; done) | (simp only [push_cast, List.map_append, List.map_set, List.map_replicate]; rfl))) (.cons _ _ _ (sv_ptr rfl) (.cons _ _ _ (sv_bool (by first | rfl | (simp only [push_cast, List.map_append, List.map_set, List.map_replicate]; done) | (simp only [push_cast, List.map_append, List.map_set, List.map_replicate]; rfl))) .nil)))
      · exact (.cons (.box _ _ _ rfl (.cons (sc_int (by first | rfl | (simp only [push_cast, List.map_append, List.map_set, List.map_replicate]; done) | (simp only [push_cast, List.map_append, List.map_set, List.map_replicate]; rfl))) (.cons (sc_int (by first | rfl | (simp only [push_cast, List.map_append, List.map_set, List.map_replicate]; done) | (simp only [push_cast, List.map_append, List.map_set, List.map_replicate]; rfl))) (.cons (.own _ _ rfl) .nil)))) (.cons (so_row rfl (by first | rfl | (simp only [push_cast, List.map_append, List.map_set, List.map_replicate]; done) | (simp only [push_cast, List.map_append, List.map_set, List.map_replicate]; rfl))) .nil))
      · exact by decide
      · exact by decide
    refine go_seq ?_
    refine go_region fun K hK => ?_
    try simp (config := { maxSteps := 4000000 }) only [push_cast, reduceIte, reduceCtorEq, Nat.reduceAdd, Nat.reduceSub, Nat.reduceMul, Nat.reduceEqDiff, Nat.reduceLT, Nat.reduceLeDiff]
    obtain ⟨t3, ht3, h0⟩ := bind_some' h0
    refine vops_callA (laws_toByteS_ok ht3) cb21 (by simp only [lt_some, lt_none, mk_n, Nat.reduceLT]) (by simp only [push_cast, List.map_append, List.map_set, List.map_replicate]; rfl) (Nat.le_of_ble_eq_true rfl) ?_
    try simp (config := { maxSteps := 4000000 }) only [push_cast, reduceIte, reduceCtorEq, Nat.reduceAdd, Nat.reduceSub, Nat.reduceMul, Nat.reduceEqDiff, Nat.reduceLT, Nat.reduceLeDiff]
    refine hK _ _ ?_
    clear hK K
    refine go_wk (k' := 3) (τ := mk 93 0 [(0, .c (.lst (a0.map eIu8))), (3, .c (.ptr 0 0)), (4, .c (.bool t2.2)), (5, .c (.own 1))] (nums 0 [.box [.int .i64 t2.1.fSeq, .int .i64 t2.1.fKind, .own 2], .row 5 1 (t3.map eIu8), .row 5 1 (t2.1.fBody.map eIu8)])) ?_ ?_
    ·
      refine wk_mk [some 0, some 34, some 1] rfl ?_ ?_ ?_ ?_ ?_
      · exact (fun i h => absurd h (by omega))
      · exact (.cons _ _ _ (sv_lst (by first | rfl | (simp only [push_cast, List.map_append, List.map_set, List.map_replicate]; done) | (simp only [push_cast, List.map_append, List.map_set, List.map_replicate]; rfl))) (.cons _ _ _ (sv_ptr rfl) (.cons _ _ _ (sv_bool (by first | rfl | (simp only [push_cast, List.map_append, List.map_set, List.map_replicate]; done) | (simp only [push_cast, List.map_append, List.map_set, List.map_replicate]; rfl))) (.cons _ _ _ (sv_own rfl) .nil))))
      · exact (.cons (.box _ _ _ rfl (.cons (sc_int (by first | rfl | (simp only [push_cast, List.map_append, List.map_set, List.map_replicate]; done) | (simp only [push_cast, List.map_append, List.map_set, List.map_replicate]; rfl))) (.cons (sc_int (by first | rfl | (simp only [push_cast, List.map_append, List.map_set, List.map_replicate]; done) | (simp only [push_cast, List.map_append, List.map_set, List.map_replicate]; rfl))) (.cons (.own _ _ rfl) .nil)))) (.cons (so_row rfl (by first | rfl | (simp only [push_cast, List.map_append, List.map_set, List.map_replicate]; done) | (simp only [push_cast, List.map_append, List.map_set, List.map_replicate]; rfl))) (.cons (so_row rfl (by first | rfl | (simp only [push_cast, List.map_append, List.map_set, List.map_replicate]; done) | (simp only [push_cast, List.map_append, List.map_set, List.map_replicate]; rfl))) .nil)))
      · exact by decide
      · exact by decide
    refine go_seq ?_
    refine go_region fun K hK => ?_
    try simp (config := { maxSteps := 4000000 }) only [push_cast, reduceIte, reduceCtorEq, Nat.reduceAdd, Nat.reduceSub, Nat.reduceMul, Nat.reduceEqDiff, Nat.reduceLT, Nat.reduceLeDiff]
    repeat (refine And.intro ?_ ?_; · ((repeat' apply And.intro) <;> first | assumption | omega | kernel_rfl | decide | (simp; done) | (simp only [List.length_cons, List.length_nil, List.length_append, List.length_map, List.length_set, List.length_replicate, List.length_take, List.length_drop] at *; omega)))
    obtain ⟨t4, ht4, h0⟩ := bind_some' h0
    refine vops_callA (impl_Decode_ok ht4) cb22 (by simp only [lt_some, lt_none, mk_n, Nat.reduceLT]) (by simp only [push_cast, List.map_append, List.map_set, List.map_replicate]; rfl) (Nat.le_of_ble_eq_true rfl) ?_
    try simp (config := { maxSteps := 4000000 }) only [push_cast, reduceIte, reduceCtorEq, Nat.reduceAdd, Nat.reduceSub, Nat.reduceMul, Nat.reduceEqDiff, Nat.reduceLT, Nat.reduceLeDiff]
    repeat (refine And.intro ?_ ?_; · ((repeat' apply And.intro) <;> first | assumption | omega | kernel_rfl | decide | (simp; done) | (simp only [List.length_cons, List.length_nil, List.length_append, List.length_map, List.length_set, List.length_replicate, List.length_take, List.length_drop] at *; omega)))
    refine hK _ _ ?_
    clear hK K
    refine go_wk (k' := 5) (τ := mk 93 0 [(0, .c (.lst (a0.map eIu8))), (3, .c (.ptr 0 0)), (4, .c (.bool t2.2)), (5, .c (.own 1)), (6, .c (.ptr 2 0)), (7, .c (.bool t4.2))] (nums 0 [.box [.int .i64 t2.1.fSeq, .int .i64 t2.1.fKind, .own 3], .row 5 1 (t3.map eIu8), .box [.int .i64 t4.1.fSeq, .int .i64 t4.1.fKind, .own 4], .row 5 1 (t2.1.fBody.map eIu8), .row 5 1 (t4.1.fBody.map eIu8)])) ?_ ?_
    ·
      refine wk_mk [some 0, some 1, some 163, some 2, some 37] rfl ?_ ?_ ?_ ?_ ?_
      · exact (fun i h => absurd h (by omega))
      · exact (.cons _ _ _ (sv_lst (by first | rfl | (simp only [push_cast, List.map_append, List.map_set, List.map_replicate]; done) | (simp only [push_cast, List.map_append, List.map_set, List.map_replicate]; rfl))) (.cons _ _ _ (sv_ptr rfl) (.cons _ _ _ (sv_bool (by first | rfl | (simp only [push_cast, List.map_append, List.map_set, List.map_replicate]; done) | (simp only [push_cast, List.map_append, List.map_set, List.map_replicate]; rfl))) (.cons _ _ _ (sv_own rfl) (.cons _ _ _ (sv_ptr rfl) (.cons _ _ _ (sv_bool (by first | rfl | (simp only [push_cast, List.map_append, List.map_set, List.map_replicate]; done) | (simp only [push_cast, List.map_append, List.map_set, List.map_replicate]; rfl))) .nil))))))
      · exact (.cons (.box _ _ _ rfl (.cons (sc_int (by first | rfl | (simp only [push_cast, List.map_append, List.map_set, List.map_replicate]; done) | (simp only [push_cast, List.map_append, List.map_set, List.map_replicate]; rfl))) (.cons (sc_int (by first | rfl | (simp only [push_cast, List.map_append, List.map_set, List.map_replicate]; done) | (simp only [push_cast, List.map_append, List.map_set, List.map_replicate]; rfl))) (.cons (.own _ _ rfl) .nil)))) (.cons (so_row rfl (by first | rfl | (simp only [push_cast, List.map_append, List.map_set, List.map_replicate]; done) | (simp only [push_cast, List.map_append, List.map_set, List.map_replicate]; rfl))) (.cons (.box _ _ _ rfl (.cons (sc_int (by first | rfl | (simp only [push_cast, List.map_append, List.map_set, List.map_replicate]; done) | (simp only [push_cast, List.map_append, List.map_set, List.map_replicate]; rfl))) (.cons (sc_int (by first | rfl | (simp only [push_cast, List.map_append, List.map_set, List.map_replicate]; done) | (simp only [push_cast, List.map_append, List.map_set, List.map_replicate]; rfl))) (.cons (.own _ _ rfl) .nil)))) (.cons (so_row rfl (by first | rfl | (simp only [push_cast, List.map_append, List.map_set, List.map_replicate]; done) | (simp only [push_cast, List.map_append, List.map_set, List.map_replicate]; rfl))) (.cons (so_row rfl (by first | rfl | (simp only [push_cast, List.map_append, List.map_set, List.map_replicate]; done) | (simp only [push_cast, List.map_append, List.map_set, List.map_replicate]; rfl))) .nil)))))
      · exact by decide
      · exact by decide
    refine go_seq ?_
    refine go_seq ?_
    obtain ⟨v20, h21, h0⟩ := bind_some' h0
    refine go_cut (fun k σ => ∃ x6 : Bool, v20 = x6 ∧ Wk k σ 5 (mk 93 0 [(0, .c (.lst (a0.map eIu8))), (3, .c (.ptr 0 0)), (4, .c (.bool t2.2)), (5, .c (.own 1)), (6, .c (.ptr 2 0)), (7, .c (.bool t4.2)), (37, .c (.bool x6))] (nums 0 [.box [.int .i64 t2.1.fSeq, .int .i64 t2.1.fKind, .own 3], .row 5 1 (t3.map eIu8), .box [.int .i64 t4.1.fSeq, .int .i64 t4.1.fKind, .own 4], .row 5 1 (t2.1.fBody.map eIu8), .row 5 1 (t4.1.fBody.map eIu8)]))) ?_ ?_
    ·
      refine go_region fun K hK => ?_
      try simp (config := { maxSteps := 4000000 }) only [push_cast, reduceIte, reduceCtorEq, Nat.reduceAdd, Nat.reduceSub, Nat.reduceMul, Nat.reduceEqDiff, Nat.reduceLT, Nat.reduceLeDiff]
      obtain ⟨t5, ht5, h21⟩ := bind_some' h21
      refine vops_callA (laws_eqTelegram_ok ht5) cb23 (by simp only [lt_some, lt_none, mk_n, Nat.reduceLT]) (by simp only [push_cast, List.map_append, List.map_set, List.map_replicate]; rfl) (Nat.le_of_ble_eq_true rfl) ?_
      try simp (config := { maxSteps := 4000000 }) only [push_cast, reduceIte, reduceCtorEq, Nat.reduceAdd, Nat.reduceSub, Nat.reduceMul, Nat.reduceEqDiff, Nat.reduceLT, Nat.reduceLeDiff]
      refine vops_if rfl (Nat.le_of_ble_eq_true rfl) (by simp only [lt_some, lt_none, mk_n, Nat.reduceLT]) (fun h22 => ?_) (fun h22 => ?_)
      · replace h22 : _ = false := h22
        replace h21 := (bif_f h22).symm.trans h21
        try simp (config := { maxSteps := 4000000 }) only [push_cast, reduceIte, reduceCtorEq, Nat.reduceAdd, Nat.reduceSub, Nat.reduceMul, Nat.reduceEqDiff, Nat.reduceLT, Nat.reduceLeDiff]
        refine hK _ _ ?_
        clear hK K
        have e23 := Option.some.inj h21
        refine go_lp ⟨(!(t4.2 == t2.2)), e23.symm, ?_⟩
        refine wk_mk [some 0, some 1, some 2, some 3, some 4] rfl ?_ ?_ ?_ ?_ ?_
        · exact (fun i h => absurd h (by omega))
        · exact (.cons _ _ _ (sv_lst (by first | rfl | (simp only [push_cast, List.map_append, List.map_set, List.map_replicate]; done) | (simp only [push_cast, List.map_append, List.map_set, List.map_replicate]; rfl))) (.cons _ _ _ (sv_ptr rfl) (.cons _ _ _ (sv_bool (by first | rfl | (simp only [push_cast, List.map_append, List.map_set, List.map_replicate]; done) | (simp only [push_cast, List.map_append, List.map_set, List.map_replicate]; rfl))) (.cons _ _ _ (sv_own rfl) (.cons _ _ _ (sv_ptr rfl) (.cons _ _ _ (sv_bool (by first | rfl | (simp only [push_cast, List.map_append, List.map_set, List.map_replicate]; done) | (simp only [push_cast, List.map_append, List.map_set, List.map_replicate]; rfl))) (.cons _ _ _ (sv_bool (by first | rfl | (simp only [push_cast, List.map_append, List.map_set, List.map_replicate]; done) | (simp only [push_cast, List.map_append, List.map_set, List.map_replicate]; rfl))) .nil)))))))
        · exact (.cons (.box _ _ _ rfl (.cons (sc_int (by first | rfl | (simp only [push_cast, List.map_append, List.map_set, List.map_replicate]; done) | (simp only [push_cast, List.map_append, List.map_set, List.map_replicate]; rfl))) (.cons (sc_int (by first | rfl | (simp only [push_cast, List.map_append, List.map_set, List.map_replicate]; done) | (simp only [push_cast, List.map_append, List.map_set, List.map_replicate]; rfl))) (.cons (.own _ _ rfl) .nil)))) (.cons (so_row rfl (by first | rfl | (simp only [push_cast, List.map_append, List.map_set, List.map_replicate]; done) | (simp only [push_cast, List.map_append, List.map_set, List.map_replicate]; rfl))) (.cons (.box _ _ _ rfl (.cons (sc_int (by first | rfl | (simp only [push_cast, List.map_append, List.map_set, List.map_replicate]; done) | (simp only [push_cast, List.map_append, List.map_set, List.map_replicate]; rfl))) (.cons (sc_int (by first | rfl | (simp only [push_cast, List.map_append, List.map_set, List.map_replicate]; done) | (simp only [push_cast, List.map_append, List.map_set, List.map_replicate]; rfl))) (.cons (.own _ _ rfl) .nil)))) (.cons (so_row rfl (by first | rfl | (simp only [push_cast, List.map_append, List.map_set, List.map_replicate]; done) | (simp only [push_cast, List.map_append, List.map_set, List.map_replicate]; rfl))) (.cons (so_row rfl (by first | rfl | (simp only [push_cast, List.map_append, List.map_set, List.map_replicate]; done) | (simp only [push_cast, List.map_append, List.map_set, List.map_replicate]; rfl))) .nil)))))
        · exact by decide
        · exact by decide
      · replace h22 : _ = true := h22
        replace h21 := (bif_t h22).symm.trans h21
        try simp (config := { maxSteps := 4000000 }) only [push_cast, reduceIte, reduceCtorEq, Nat.reduceAdd, Nat.reduceSub, Nat.reduceMul, Nat.reduceEqDiff, Nat.reduceLT, Nat.reduceLeDiff]
        refine hK _ _ ?_
        clear hK K
        have e24 := Option.some.inj h21
        refine go_lp ⟨true, e24.symm, ?_⟩
        refine wk_mk [some 0, some 1, some 2, some 3, some 4] rfl ?_ ?_ ?_ ?_ ?_
        · exact (fun i h => absurd h (by omega))
        · exact (.cons _ _ _ (sv_lst (by first | rfl | (simp only [push_cast, List.map_append, List.map_set, List.map_replicate]; done) | (simp only [push_cast, List.map_append, List.map_set, List.map_replicate]; rfl))) (.cons _ _ _ (sv_ptr rfl) (.cons _ _ _ (sv_bool (by first | rfl | (simp only [push_cast, List.map_append, List.map_set, List.map_replicate]; done) | (simp only [push_cast, List.map_append, List.map_set, List.map_replicate]; rfl))) (.cons _ _ _ (sv_own rfl) (.cons _ _ _ (sv_ptr rfl) (.cons _ _ _ (sv_bool (by first | rfl | (simp only [push_cast, List.map_append, List.map_set, List.map_replicate]; done) | (simp only [push_cast, List.map_append, List.map_set, List.map_replicate]; rfl))) (.cons _ _ _ (sv_bool (by first | rfl | (simp only [push_cast, List.map_append, List.map_set, List.map_replicate]; done) | (simp only [push_cast, List.map_append, List.map_set, List.map_replicate]; rfl))) .nil)))))))
        · exact (.cons (.box _ _ _ rfl (.cons (sc_int (by first | rfl | (simp only [push_cast, List.map_append, List.map_set, List.map_replicate]; done) | (simp only [push_cast, List.map_append, List.map_set, List.map_replicate]; rfl))) (.cons (sc_int (by first | rfl | (simp only [push_cast, List.map_append, List.map_set, List.map_replicate]; done) | (simp only [push_cast, List.map_append, List.map_set, List.map_replicate]; rfl))) (.cons (.own _ _ rfl) .nil)))) (.cons (so_row rfl (by first | rfl | (simp only [push_cast, List.map_append, List.map_set, List.map_replicate]; done) | (simp only [push_cast, List.map_append, List.map_set, List.map_replicate]; rfl))) (.cons (.box _ _ _ rfl (.cons (sc_int (by first | rfl | (simp only [push_cast, List.map_append, List.map_set, List.map_replicate]; done) | (simp only [push_cast, List.map_append, List.map_set, List.map_replicate]; rfl))) (.cons (sc_int (by first | rfl | (simp only [push_cast, List.map_append, List.map_set, List.map_replicate]; done) | (simp only [push_cast, List.map_append, List.map_set, List.map_replicate]; rfl))) (.cons (.own _ _ rfl) .nil)))) (.cons (so_row rfl (by first | rfl | (simp only [push_cast, List.map_append, List.map_set, List.map_replicate]; done) | (simp only [push_cast, List.map_append, List.map_set, List.map_replicate]; rfl))) (.cons (so_row rfl (by first | rfl | (simp only [push_cast, List.map_append, List.map_set, List.map_replicate]; done) | (simp only [push_cast, List.map_append, List.map_set, List.map_replicate]; rfl))) .nil)))))
        · exact by decide
        · exact by decide
    · rintro k σ ⟨x6, h25q, h25⟩
      rw [h25q] at h0
      try dsimp only [Sum.elim_inl] at h0
      refine go_wk h25 ?_
      clear h25
      refine go_cond _ rfl (fun h26 => ?_) (fun h26 => ?_)
      · replace h0 := (bif_t h26).symm.trans h0
        refine go_seq ?_
        refine go_region fun K hK => ?_
        try simp (config := { maxSteps := 4000000 }) only [push_cast, reduceIte, reduceCtorEq, Nat.reduceAdd, Nat.reduceSub, Nat.reduceMul, Nat.reduceEqDiff, Nat.reduceLT, Nat.reduceLeDiff]
        refine hK _ _ ?_
        clear hK K
        refine go_ret ?_
        refine go_out_ret ?_
        cases h0
        refine go_end_ret ?_
        exact ⟨_, [], rfl, (.cons (.c (.bool _)) .nil), by decide, .inr (by simp only [RT.cells, List.mem_cons, List.mem_singleton, List.not_mem_nil, or_false, forall_eq, forall_eq_or_imp, allOwn_int, allOwn_bool, allOwn_str, allOwn_none, eIu8_ao, eTelegram_ao, eIi64_ao, eShunt_ao, eLIi64_ao, eSidings_ao, eNeed_ao, eRoute_ao, ePlant_ao, eLockOp_ao, eB_ao, eLocking_ao, eTask_ao, eRule_ao, eEdge_ao, eCall_ao, eTrip_ao, eBooking_ao, eNet_ao, eTrain_ao, eDesk_ao, eUse_ao, eRun_ao, eT_ao, o120Trip_ao, o33LIi64_ao, implies_true, and_true, false_implies, List.map_eq_nil_iff, and_self])⟩
      · replace h0 := (bif_f h26).symm.trans h0
        refine go_skip ?_
        refine go_seq ?_
        refine go_seq ?_
        refine go_region fun K hK => ?_
        try simp (config := { maxSteps := 4000000 }) only [push_cast, reduceIte, reduceCtorEq, Nat.reduceAdd, Nat.reduceSub, Nat.reduceMul, Nat.reduceEqDiff, Nat.reduceLT, Nat.reduceLeDiff]
        obtain ⟨t7, ht7, h0⟩ := bind_some' h0
        refine vops_callA (laws_toByteS_ok ht7) cb21 (by simp only [lt_some, lt_none, mk_n, Nat.reduceLT]) (by simp only [push_cast, List.map_append, List.map_set, List.map_replicate]; rfl) (Nat.le_of_ble_eq_true rfl) ?_
        try simp (config := { maxSteps := 4000000 }) only [push_cast, reduceIte, reduceCtorEq, Nat.reduceAdd, Nat.reduceSub, Nat.reduceMul, Nat.reduceEqDiff, Nat.reduceLT, Nat.reduceLeDiff]
        obtain ⟨t8, ht8, h0⟩ := bind_some' h0
        refine vops_callA (laws_eqByteS_ok ht8) cb24 (by simp only [lt_some, lt_none, mk_n, Nat.reduceLT]) (by simp only [push_cast, List.map_append, List.map_set, List.map_replicate]; rfl) (Nat.le_of_ble_eq_true rfl) ?_
        try simp (config := { maxSteps := 4000000 }) only [push_cast, reduceIte, reduceCtorEq, Nat.reduceAdd, Nat.reduceSub, Nat.reduceMul, Nat.reduceEqDiff, Nat.reduceLT, Nat.reduceLeDiff]
        refine hK _ _ ?_
        clear hK K
        refine go_wk (k' := 5) (τ := mk 93 0 [(0, .c (.lst (a0.map eIu8))), (3, .c (.ptr 0 0)), (4, .c (.bool t2.2)), (5, .c (.own 1)), (6, .c (.ptr 2 0)), (7, .c (.bool t4.2)), (42, .c (.bool (!t8)))] (nums 0 [.box [.int .i64 t2.1.fSeq, .int .i64 t2.1.fKind, .own 3], .row 5 1 (t3.map eIu8), .box [.int .i64 t4.1.fSeq, .int .i64 t4.1.fKind, .own 4], .row 5 1 (t2.1.fBody.map eIu8), .row 5 1 (t4.1.fBody.map eIu8)])) ?_ ?_
        ·
          refine wk_mk [some 0, some 1, some 2, some 3, some 4] rfl ?_ ?_ ?_ ?_ ?_
          · exact (fun i h => absurd h (by omega))
          · exact (.cons _ _ _ (sv_lst (by first | rfl | (simp only [push_cast, List.map_append, List.map_set, List.map_replicate]; done) | (simp only [push_cast, List.map_append, List.map_set, List.map_replicate]; rfl))) (.cons _ _ _ (sv_ptr rfl) (.cons _ _ _ (sv_bool (by first | rfl | (simp only [push_cast, List.map_append, List.map_set, List.map_replicate]; done) | (simp only [push_cast, List.map_append, List.map_set, List.map_replicate]; rfl))) (.cons _ _ _ (sv_own rfl) (.cons _ _ _ (sv_ptr rfl) (.cons _ _ _ (sv_bool (by first | rfl | (simp only [push_cast, List.map_append, List.map_set, List.map_replicate]; done) | (simp only [push_cast, List.map_append, List.map_set, List.map_replicate]; rfl))) (.cons _ _ _ (sv_bool (by first | rfl | (simp only [push_cast, List.map_append, List.map_set, List.map_replicate]; done) | (simp only [push_cast, List.map_append, List.map_set, List.map_replicate]; rfl))) .nil)))))))
          · exact (.cons (.box _ _ _ rfl (.cons (sc_int (by first | rfl | (simp only [push_cast, List.map_append, List.map_set, List.map_replicate]; done) | (simp only [push_cast, List.map_append, List.map_set, List.map_replicate]; rfl))) (.cons (sc_int (by first | rfl | (simp only [push_cast, List.map_append, List.map_set, List.map_replicate]; done) | (simp only [push_cast, List.map_append, List.map_set, List.map_replicate]; rfl))) (.cons (.own _ _ rfl) .nil)))) (.cons (so_row rfl (by first | rfl | (simp only [push_cast, List.map_append, List.map_set, List.map_replicate]; done) | (simp only [push_cast, List.map_append, List.map_set, List.map_replicate]; rfl))) (.cons (.box _ _ _ rfl (.cons (sc_int (by first | rfl | (simp only [push_cast, List.map_append, List.map_set, List.map_replicate]; done) | (simp only [push_cast, List.map_append, List.map_set, List.map_replicate]; rfl))) (.cons (sc_int (by first | rfl | (simp only [push_cast, List.map_append, List.map_set, List.map_replicate]; done) | (simp only [push_cast, List.map_append, List.map_set, List.map_replicate]; rfl))) (.cons (.own _ _ rfl) .nil)))) (.cons (so_row rfl (by first | rfl | (simp only [push_cast, List.map_append, List.map_set, List.map_replicate]; done) | (simp only [push_cast, List.map_append, List.map_set, List.map_replicate]; rfl))) (.cons (so_row rfl (by first | rfl | (simp only [push_cast, List.map_append, List.map_set, List.map_replicate]; done) | (simp only [push_cast, List.map_append, List.map_set, List.map_replicate]; rfl))) .nil)))))
          · exact by decide
          · exact by decide
        refine go_cond _ rfl (fun h27 => ?_) (fun h27 => ?_)
        · replace h0 := (bif_t h27).symm.trans h0
          refine go_seq ?_
          refine go_region fun K hK => ?_
          try simp (config := { maxSteps := 4000000 }) only [push_cast, reduceIte, reduceCtorEq, Nat.reduceAdd, Nat.reduceSub, Nat.reduceMul, Nat.reduceEqDiff, Nat.reduceLT, Nat.reduceLeDiff]
          refine hK _ _ ?_
          clear hK K
          refine go_ret ?_
          refine go_out_ret ?_
          cases h0
          refine go_end_ret ?_
          exact ⟨_, [], rfl, (.cons (.c (.bool _)) .nil), by decide, .inr (by simp only [RT.cells, List.mem_cons, List.mem_singleton, List.not_mem_nil, or_false, forall_eq, forall_eq_or_imp, allOwn_int, allOwn_bool, allOwn_str, allOwn_none, eIu8_ao, eTelegram_ao, eIi64_ao, eShunt_ao, eLIi64_ao, eSidings_ao, eNeed_ao, eRoute_ao, ePlant_ao, eLockOp_ao, eB_ao, eLocking_ao, eTask_ao, eRule_ao, eEdge_ao, eCall_ao, eTrip_ao, eBooking_ao, eNet_ao, eTrain_ao, eDesk_ao, eUse_ao, eRun_ao, eT_ao, o120Trip_ao, o33LIi64_ao, implies_true, and_true, false_implies, List.map_eq_nil_iff, and_self])⟩
        · replace h0 := (bif_f h27).symm.trans h0
          refine go_skip ?_
          refine go_seq ?_
          refine go_region fun K hK => ?_
          try simp (config := { maxSteps := 4000000 }) only [push_cast, reduceIte, reduceCtorEq, Nat.reduceAdd, Nat.reduceSub, Nat.reduceMul, Nat.reduceEqDiff, Nat.reduceLT, Nat.reduceLeDiff]
          refine hK _ _ ?_
          clear hK K
          refine go_seq ?_
          refine go_region fun K hK => ?_
          try simp (config := { maxSteps := 4000000 }) only [push_cast, reduceIte, reduceCtorEq, Nat.reduceAdd, Nat.reduceSub, Nat.reduceMul, Nat.reduceEqDiff, Nat.reduceLT, Nat.reduceLeDiff]
          obtain ⟨t9, ht9, h0⟩ := bind_some' h0
          refine vops_callM (laws_markByteS_ok ht9) [.tmp 43] [.tmp 44] (u := [1]) rfl cb25 (by simp only [lt_some, lt_none, mk_n, Nat.reduceLT]) (by simp only [push_cast, List.map_append, List.map_set, List.map_replicate]; rfl) (by decide) (by first | (simp only [push_cast, reduceIte, reduceCtorEq, Nat.reduceAdd, Nat.reduceSub, Nat.reduceMul, Nat.reduceEqDiff, Nat.reduceLT, Nat.reduceLeDiff, PV.toks, P1.toks, PC.toks]; done) | (simp only [push_cast, reduceIte, reduceCtorEq, Nat.reduceAdd, Nat.reduceSub, Nat.reduceMul, Nat.reduceEqDiff, Nat.reduceLT, Nat.reduceLeDiff, PV.toks, P1.toks, PC.toks]; decide)) (by simp only [push_cast, List.map_append, List.map_set, List.map_replicate]; rfl) (Nat.le_of_ble_eq_true rfl) (by simp only [push_cast, List.map_append, List.map_set, List.map_replicate]; rfl) rfl ?_
          try simp (config := { maxSteps := 4000000 }) only [push_cast, reduceIte, reduceCtorEq, Nat.reduceAdd, Nat.reduceSub, Nat.reduceMul, Nat.reduceEqDiff, Nat.reduceLT, Nat.reduceLeDiff]
          refine hK _ _ ?_
          clear hK K
          refine go_wk (k' := 4) (τ := mk 93 0 [(0, .c (.lst (a0.map eIu8))), (3, .c (.ptr 0 0)), (4, .c (.bool t2.2)), (6, .c (.ptr 1 0)), (7, .c (.bool t4.2)), (8, .c (.int .i64 t9.2))] (nums 0 [.box [.int .i64 t2.1.fSeq, .int .i64 t2.1.fKind, .own 2], .box [.int .i64 t4.1.fSeq, .int .i64 t4.1.fKind, .own 3], .row 5 1 (t2.1.fBody.map eIu8), .row 5 1 (t4.1.fBody.map eIu8)])) ?_ ?_
          ·
            refine wk_mk [some 0, some 2, some 3, some 4] rfl ?_ ?_ ?_ ?_ ?_
            · exact (fun i h => absurd h (by omega))
            · exact (.cons _ _ _ (sv_lst (by first | rfl | (simp only [push_cast, List.map_append, List.map_set, List.map_replicate]; done) | (simp only [push_cast, List.map_append, List.map_set, List.map_replicate]; rfl))) (.cons _ _ _ (sv_ptr rfl) (.cons _ _ _ (sv_bool (by first | rfl | (simp only [push_cast, List.map_append, List.map_set, List.map_replicate]; done) | (simp only [push_cast, List.map_append, List.map_set, List.map_replicate]; rfl))) (.cons _ _ _ (sv_ptr rfl) (.cons _ _ _ (sv_bool (by first | rfl | (simp only [push_cast, List.map_append, List.map_set, List.map_replicate]; done) | (simp only [push_cast, List.map_append, List.map_set, List.map_replicate]; rfl))) (.cons _ _ _ (sv_int (by first | rfl | (simp only [push_cast, List.map_append, List.map_set, List.map_replicate]; done) | (simp only [push_cast, List.map_append, List.map_set, List.map_replicate]; rfl))) .nil))))))
            · exact (.cons (.box _ _ _ rfl (.cons (sc_int (by first | rfl | (simp only [push_cast, List.map_append, List.map_set, List.map_replicate]; done) | (simp only [push_cast, List.map_append, List.map_set, List.map_replicate]; rfl))) (.cons (sc_int (by first | rfl | (simp only [push_cast, List.map_append, List.map_set, List.map_replicate]; done) | (simp only [push_cast, List.map_append, List.map_set, List.map_replicate]; rfl))) (.cons (.own _ _ rfl) .nil)))) (.cons (.box _ _ _ rfl (.cons (sc_int (by first | rfl | (simp only [push_cast, List.map_append, List.map_set, List.map_replicate]; done) | (simp only [push_cast, List.map_append, List.map_set, List.map_replicate]; rfl))) (.cons (sc_int (by first | rfl | (simp only [push_cast, List.map_append, List.map_set, List.map_replicate]; done) | (simp only [push_cast, List.map_append, List.map_set, List.map_replicate]; rfl))) (.cons (.own _ _ rfl) .nil)))) (.cons (so_row rfl (by first | rfl | (simp only [push_cast, List.map_append, List.map_set, List.map_replicate]; done) | (simp only [push_cast, List.map_append, List.map_set, List.map_replicate]; rfl))) (.cons (so_row rfl (by first | rfl | (simp only [push_cast, List.map_append, List.map_set, List.map_replicate]; done) | (simp only [push_cast, List.map_append, List.map_set, List.map_replicate]; rfl))) .nil))))
            · exact by decide
            · exact by decide
          refine go_seq ?_
          refine go_seq ?_
          obtain ⟨v28, h29, h0⟩ := bind_some' h0
          refine go_cut (fun k σ => ∃ x11 : Bool, v28 = x11 ∧ Wk k σ 4 (mk 93 0 [(0, .c (.lst (a0.map eIu8))), (3, .c (.ptr 0 0)), (4, .c (.bool t2.2)), (6, .c (.ptr 1 0)), (58, .c (.bool x11))] (nums 0 [.box [.int .i64 t2.1.fSeq, .int .i64 t2.1.fKind, .own 2], .box [.int .i64 t4.1.fSeq, .int .i64 t4.1.fKind, .own 3], .row 5 1 (t2.1.fBody.map eIu8), .row 5 1 (t4.1.fBody.map eIu8)]))) ?_ ?_
          ·
            refine go_region fun K hK => ?_
            try simp (config := { maxSteps := 4000000 }) only [push_cast, reduceIte, reduceCtorEq, Nat.reduceAdd, Nat.reduceSub, Nat.reduceMul, Nat.reduceEqDiff, Nat.reduceLT, Nat.reduceLeDiff]
            refine vops_if rfl (Nat.le_of_ble_eq_true rfl) (by simp only [lt_some, lt_none, mk_n, Nat.reduceLT]) (fun h30 => ?_) (fun h30 => ?_)
            · replace h30 : _ = false := h30
              replace h29 := (bif_f h30).symm.trans h29
              try simp (config := { maxSteps := 4000000 }) only [push_cast, reduceIte, reduceCtorEq, Nat.reduceAdd, Nat.reduceSub, Nat.reduceMul, Nat.reduceEqDiff, Nat.reduceLT, Nat.reduceLeDiff]
              obtain ⟨t10, ht10, h29⟩ := bind_some' h29
              refine vops_callA (laws_eqTelegram_ok ht10) cb23 (by simp only [lt_some, lt_none, mk_n, Nat.reduceLT]) (by simp only [push_cast, List.map_append, List.map_set, List.map_replicate]; rfl) (Nat.le_of_ble_eq_true rfl) ?_
              try simp (config := { maxSteps := 4000000 }) only [push_cast, reduceIte, reduceCtorEq, Nat.reduceAdd, Nat.reduceSub, Nat.reduceMul, Nat.reduceEqDiff, Nat.reduceLT, Nat.reduceLeDiff]
              refine vops_if rfl (Nat.le_of_ble_eq_true rfl) (by simp only [lt_some, lt_none, mk_n, Nat.reduceLT]) (fun h31 => ?_) (fun h31 => ?_)
              · replace h31 : _ = false := h31
                replace h29 := (bif_f h31).symm.trans h29
                try simp (config := { maxSteps := 4000000 }) only [push_cast, reduceIte, reduceCtorEq, Nat.reduceAdd, Nat.reduceSub, Nat.reduceMul, Nat.reduceEqDiff, Nat.reduceLT, Nat.reduceLeDiff]
                refine hK _ _ ?_
                clear hK K
                have e32 := Option.some.inj h29
                refine go_lp ⟨(!(t4.2 == t2.2)), e32.symm, ?_⟩
                refine wk_mk [some 0, some 1, some 2, some 3] rfl ?_ ?_ ?_ ?_ ?_
                · exact (fun i h => absurd h (by omega))
                · exact (.cons _ _ _ (sv_lst (by first | rfl | (simp only [push_cast, List.map_append, List.map_set, List.map_replicate]; done) | (simp only [push_cast, List.map_append, List.map_set, List.map_replicate]; rfl))) (.cons _ _ _ (sv_ptr rfl) (.cons _ _ _ (sv_bool (by first | rfl | (simp only [push_cast, List.map_append, List.map_set, List.map_replicate]; done) | (simp only [push_cast, List.map_append, List.map_set, List.map_replicate]; rfl))) (.cons _ _ _ (sv_ptr rfl) (.cons _ _ _ (sv_bool (by first | rfl | (simp only [push_cast, List.map_append, List.map_set, List.map_replicate]; done) | (simp only [push_cast, List.map_append, List.map_set, List.map_replicate]; rfl))) .nil)))))
                · exact (.cons (.box _ _ _ rfl (.cons (sc_int (by first | rfl | (simp only [push_cast, List.map_append, List.map_set, List.map_replicate]; done) | (simp only [push_cast, List.map_append, List.map_set, List.map_replicate]; rfl))) (.cons (sc_int (by first | rfl | (simp only [push_cast, List.map_append, List.map_set, List.map_replicate]; done) | (simp only [push_cast, List.map_append, List.map_set, List.map_replicate]; rfl))) (.cons (.own _ _ rfl) .nil)))) (.cons (.box _ _ _ rfl (.cons (sc_int (by first | rfl | (simp only [push_cast, List.map_append, List.map_set, List.map_replicate]; done) | (simp only [push_cast, List.map_append, List.map_set, List.map_replicate]; rfl))) (.cons (sc_int (by first | rfl | (simp only [push_cast, List.map_append, List.map_set, List.map_replicate]; done) | (simp only [push_cast, List.map_append, List.map_set, List.map_replicate]; rfl))) (.cons (.own _ _ rfl) .nil)))) (.cons (so_row rfl (by first | rfl | (simp only [push_cast, List.map_append, List.map_set, List.map_replicate]; done) | (simp only [push_cast, List.map_append, List.map_set, List.map_replicate]; rfl))) (.cons (so_row rfl (by first | rfl | (simp only [push_cast, List.map_append, List.map_set, List.map_replicate]; done) | (simp only [push_cast, List.map_append, List.map_set, List.map_replicate]; rfl))) .nil))))
                · exact by decide
                · exact by decide
              · replace h31 : _ = true := h31
                replace h29 := (bif_t h31).symm.trans h29
                try simp (config := { maxSteps := 4000000 }) only [push_cast, reduceIte, reduceCtorEq, Nat.reduceAdd, Nat.reduceSub, Nat.reduceMul, Nat.reduceEqDiff, Nat.reduceLT, Nat.reduceLeDiff]
                refine hK _ _ ?_
                clear hK K
                have e33 := Option.some.inj h29
                refine go_lp ⟨true, e33.symm, ?_⟩
                refine wk_mk [some 0, some 1, some 2, some 3] rfl ?_ ?_ ?_ ?_ ?_
                · exact (fun i h => absurd h (by omega))
                · exact (.cons _ _ _ (sv_lst (by first | rfl | (simp only [push_cast, List.map_append, List.map_set, List.map_replicate]; done) | (simp only [push_cast, List.map_append, List.map_set, List.map_replicate]; rfl))) (.cons _ _ _ (sv_ptr rfl) (.cons _ _ _ (sv_bool (by first | rfl | (simp only [push_cast, List.map_append, List.map_set, List.map_replicate]; done) | (simp only [push_cast, List.map_append, List.map_set, List.map_replicate]; rfl))) (.cons _ _ _ (sv_ptr rfl) (.cons _ _ _ (sv_bool (by first | rfl | (simp only [push_cast, List.map_append, List.map_set, List.map_replicate]; done) | (simp only [push_cast, List.map_append, List.map_set, List.map_replicate]; rfl))) .nil)))))
                · exact (.cons (.box _ _ _ rfl (.cons (sc_int (by first | rfl | (simp only [push_cast, List.map_append, List.map_set, List.map_replicate]; done) | (simp only [push_cast, List.map_append, List.map_set, List.map_replicate]; rfl))) (.cons (sc_int (by first | rfl | (simp only [push_cast, List.map_append, List.map_set, List.map_replicate]; done) | (simp only [push_cast, List.map_append, List.map_set, List.map_replicate]; rfl))) (.cons (.own _ _ rfl) .nil)))) (.cons (.box _ _ _ rfl (.cons (sc_int (by first | rfl | (simp only [push_cast, List.map_append, List.map_set, List.map_replicate]; done) | (simp only [push_cast, List.map_append, List.map_set, List.map_replicate]; rfl))) (.cons (sc_int (by first | rfl | (simp only [push_cast, List.map_append, List.map_set, List.map_replicate]; done) | (simp only [push_cast, List.map_append, List.map_set, List.map_replicate]; rfl))) (.cons (.own _ _ rfl) .nil)))) (.cons (so_row rfl (by first | rfl | (simp only [push_cast, List.map_append, List.map_set, List.map_replicate]; done) | (simp only [push_cast, List.map_append, List.map_set, List.map_replicate]; rfl))) (.cons (so_row rfl (by first | rfl | (simp only [push_cast, List.map_append, List.map_set, List.map_replicate]; done) | (simp only [push_cast, List.map_append, List.map_set, List.map_replicate]; rfl))) .nil))))
                · exact by decide
                · exact by decide
            · replace h30 : _ = true := h30
              replace h29 := (bif_t h30).symm.trans h29
              try simp (config := { maxSteps := 4000000 }) only [push_cast, reduceIte, reduceCtorEq, Nat.reduceAdd, Nat.reduceSub, Nat.reduceMul, Nat.reduceEqDiff, Nat.reduceLT, Nat.reduceLeDiff]
              refine hK _ _ ?_
              clear hK K
              have e34 := Option.some.inj h29
              refine go_lp ⟨true, e34.symm, ?_⟩
              refine wk_mk [some 0, some 1, some 2, some 3] rfl ?_ ?_ ?_ ?_ ?_
              · exact (fun i h => absurd h (by omega))
              · exact (.cons _ _ _ (sv_lst (by first | rfl | (simp only [push_cast, List.map_append, List.map_set, List.map_replicate]; done) | (simp only [push_cast, List.map_append, List.map_set, List.map_replicate]; rfl))) (.cons _ _ _ (sv_ptr rfl) (.cons _ _ _ (sv_bool (by first | rfl | (simp only [push_cast, List.map_append, List.map_set, List.map_replicate]; done) | (simp only [push_cast, List.map_append, List.map_set, List.map_replicate]; rfl))) (.cons _ _ _ (sv_ptr rfl) (.cons _ _ _ (sv_bool (by first | rfl | (simp only [push_cast, List.map_append, List.map_set, List.map_replicate]; done) | (simp only [push_cast, List.map_append, List.map_set, List.map_replicate]; rfl))) .nil)))))
              · exact (.cons (.box _ _ _ rfl (.cons (sc_int (by first | rfl | (simp only [push_cast, List.map_append, List.map_set, List.map_replicate]; done) | (simp only [push_cast, List.map_append, List.map_set, List.map_replicate]; rfl))) (.cons (sc_int (by first | rfl | (simp only [push_cast, List.map_append, List.map_set, List.map_replicate]; done) | (simp only [push_cast, List.map_append, List.map_set, List.map_replicate]; rfl))) (.cons (.own _ _ rfl) .nil)))) (.cons (.box _ _ _ rfl (.cons (sc_int (by first | rfl | (simp only [push_cast, List.map_append, List.map_set, List.map_replicate]; done) | (simp only [push_cast, List.map_append, List.map_set, List.map_replicate]; rfl))) (.cons (sc_int (by first | rfl | (simp only [push_cast, List.map_append, List.map_set, List.map_replicate]; done) | (simp only [push_cast, List.map_append, List.map_set, List.map_replicate]; rfl))) (.cons (.own _ _ rfl) .nil)))) (.cons (so_row rfl (by first | rfl | (simp only [push_cast, List.map_append, List.map_set, List.map_replicate]; done) | (simp only [push_cast, List.map_append, List.map_set, List.map_replicate]; rfl))) (.cons (so_row rfl (by first | rfl | (simp only [push_cast, List.map_append, List.map_set, List.map_replicate]; done) | (simp only [push_cast, List.map_append, List.map_set, List.map_replicate]; rfl))) .nil))))
              · exact by decide
              · exact by decide
          · rintro k σ ⟨x11, h35q, h35⟩
            rw [h35q] at h0
            try dsimp only [Sum.elim_inl] at h0
            refine go_wk h35 ?_
            clear h35
            refine go_cond _ rfl (fun h36 => ?_) (fun h36 => ?_)
            · replace h0 := (bif_t h36).symm.trans h0
              refine go_seq ?_
              refine go_region fun K hK => ?_
              try simp (config := { maxSteps := 4000000 }) only [push_cast, reduceIte, reduceCtorEq, Nat.reduceAdd, Nat.reduceSub, Nat.reduceMul, Nat.reduceEqDiff, Nat.reduceLT, Nat.reduceLeDiff]
              refine hK _ _ ?_
              clear hK K
              refine go_ret ?_
              refine go_out_ret ?_
              cases h0
              refine go_end_ret ?_
              exact ⟨_, [], rfl, (.cons (.c (.bool _)) .nil), by decide, .inr (by simp only [RT.cells, List.mem_cons, List.mem_singleton, List.not_mem_nil, or_false, forall_eq, forall_eq_or_imp, allOwn_int, allOwn_bool, allOwn_str, allOwn_none, eIu8_ao, eTelegram_ao, eIi64_ao, eShunt_ao, eLIi64_ao, eSidings_ao, eNeed_ao, eRoute_ao, ePlant_ao, eLockOp_ao, eB_ao, eLocking_ao, eTask_ao, eRule_ao, eEdge_ao, eCall_ao, eTrip_ao, eBooking_ao, eNet_ao, eTrain_ao, eDesk_ao, eUse_ao, eRun_ao, eT_ao, o120Trip_ao, o33LIi64_ao, implies_true, and_true, false_implies, List.map_eq_nil_iff, and_self])⟩
            · replace h0 := (bif_f h36).symm.trans h0
              refine go_skip ?_
              refine go_seq ?_
              refine go_region fun K hK => ?_
              try simp (config := { maxSteps := 4000000 }) only [push_cast, reduceIte, reduceCtorEq, Nat.reduceAdd, Nat.reduceSub, Nat.reduceMul, Nat.reduceEqDiff, Nat.reduceLT, Nat.reduceLeDiff]
              refine hK _ _ ?_
              clear hK K
              refine go_seq ?_
              refine go_region fun K hK => ?_
              try simp (config := { maxSteps := 4000000 }) only [push_cast, reduceIte, reduceCtorEq, Nat.reduceAdd, Nat.reduceSub, Nat.reduceMul, Nat.reduceEqDiff, Nat.reduceLT, Nat.reduceLeDiff]
              obtain ⟨t12, ht12, h0⟩ := bind_some' h0
              refine vops_callM (laws_markTelegram_ok ht12) [.tmp 59] [.tmp 60] (u := [3]) rfl cb26 (by simp only [lt_some, lt_none, mk_n, Nat.reduceLT]) (by simp only [push_cast, List.map_append, List.map_set, List.map_replicate]; rfl) (by decide) (by first | (simp only [push_cast, reduceIte, reduceCtorEq, Nat.reduceAdd, Nat.reduceSub, Nat.reduceMul, Nat.reduceEqDiff, Nat.reduceLT, Nat.reduceLeDiff, PV.toks, P1.toks, PC.toks]; done) | (simp only [push_cast, reduceIte, reduceCtorEq, Nat.reduceAdd, Nat.reduceSub, Nat.reduceMul, Nat.reduceEqDiff, Nat.reduceLT, Nat.reduceLeDiff, PV.toks, P1.toks, PC.toks]; decide)) (by simp only [push_cast, List.map_append, List.map_set, List.map_replicate]; rfl) (Nat.le_of_ble_eq_true rfl) (by simp only [push_cast, List.map_append, List.map_set, List.map_replicate]; rfl) rfl ?_
              try simp (config := { maxSteps := 4000000 }) only [push_cast, reduceIte, reduceCtorEq, Nat.reduceAdd, Nat.reduceSub, Nat.reduceMul, Nat.reduceEqDiff, Nat.reduceLT, Nat.reduceLeDiff]
              refine hK _ _ ?_
              clear hK K
              refine go_wk (k' := 4) (τ := mk 93 0 [(0, .c (.lst (a0.map eIu8))), (3, .c (.ptr 0 0)), (4, .c (.bool t2.2)), (6, .c (.ptr 1 0)), (9, .c (.int .i64 t12.2))] (nums 0 [.box [.int .i64 t2.1.fSeq, .int .i64 t2.1.fKind, .own 2], .box [.int .i64 t4.1.fSeq, .int .i64 t4.1.fKind, .own 3], .row 5 1 (t2.1.fBody.map eIu8), .row 5 1 (t12.1.fBody.map eIu8)])) ?_ ?_
              ·
                refine wk_mk [some 0, some 1, some 2, some 3] rfl ?_ ?_ ?_ ?_ ?_
                · exact (fun i h => absurd h (by omega))
                · exact (.cons _ _ _ (sv_lst (by first | rfl | (simp only [push_cast, List.map_append, List.map_set, List.map_replicate]; done) | (simp only [push_cast, List.map_append, List.map_set, List.map_replicate]; rfl))) (.cons _ _ _ (sv_ptr rfl) (.cons _ _ _ (sv_bool (by first | rfl | (simp only [push_cast, List.map_append, List.map_set, List.map_replicate]; done) | (simp only [push_cast, List.map_append, List.map_set, List.map_replicate]; rfl))) (.cons _ _ _ (sv_ptr rfl) (.cons _ _ _ (sv_int (by first | rfl | (simp only [push_cast, List.map_append, List.map_set, List.map_replicate]; done) | (simp only [push_cast, List.map_append, List.map_set, List.map_replicate]; rfl))) .nil)))))
                · exact (.cons (.box _ _ _ rfl (.cons (sc_int (by first | rfl | (simp only [push_cast, List.map_append, List.map_set, List.map_replicate]; done) | (simp only [push_cast, List.map_append, List.map_set, List.map_replicate]; rfl))) (.cons (sc_int (by first | rfl | (simp only [push_cast, List.map_append, List.map_set, List.map_replicate]; done) | (simp only [push_cast, List.map_append, List.map_set, List.map_replicate]; rfl))) (.cons (.own _ _ rfl) .nil)))) (.cons (.box _ _ _ rfl (.cons (sc_int (by first | rfl | (simp only [push_cast, List.map_append, List.map_set, List.map_replicate]; done) | (simp only [push_cast, List.map_append, List.map_set, List.map_replicate]; rfl))) (.cons (sc_int (by first | rfl | (simp only [push_cast, List.map_append, List.map_set, List.map_replicate]; done) | (simp only [push_cast, List.map_append, List.map_set, List.map_replicate]; rfl))) (.cons (.own _ _ rfl) .nil)))) (.cons (so_row rfl (by first | rfl | (simp only [push_cast, List.map_append, List.map_set, List.map_replicate]; done) | (simp only [push_cast, List.map_append, List.map_set, List.map_replicate]; rfl))) (.cons (so_row rfl (by first | rfl | (simp only [push_cast, List.map_append, List.map_set, List.map_replicate]; done) | (simp only [push_cast, List.map_append, List.map_set, List.map_replicate]; rfl))) .nil))))
                · exact by decide
                · exact by decide
              refine go_seq ?_
              refine go_region fun K hK => ?_
              try simp (config := { maxSteps := 4000000 }) only [push_cast, reduceIte, reduceCtorEq, Nat.reduceAdd, Nat.reduceSub, Nat.reduceMul, Nat.reduceEqDiff, Nat.reduceLT, Nat.reduceLeDiff]
              refine hK _ _ ?_
              clear hK K
              refine go_seq ?_
              refine go_region fun K hK => ?_
              try simp (config := { maxSteps := 4000000 }) only [push_cast, reduceIte, reduceCtorEq, Nat.reduceAdd, Nat.reduceSub, Nat.reduceMul, Nat.reduceEqDiff, Nat.reduceLT, Nat.reduceLeDiff]
              obtain ⟨t13, ht13, h0⟩ := bind_some' h0
              refine vops_callA (laws_heldTelegram_ok ht13) cb27 (by simp only [lt_some, lt_none, mk_n, Nat.reduceLT]) (by simp only [push_cast, List.map_append, List.map_set, List.map_replicate]; rfl) (Nat.le_of_ble_eq_true rfl) ?_
              try simp (config := { maxSteps := 4000000 }) only [push_cast, reduceIte, reduceCtorEq, Nat.reduceAdd, Nat.reduceSub, Nat.reduceMul, Nat.reduceEqDiff, Nat.reduceLT, Nat.reduceLeDiff]
              refine hK _ _ ?_
              clear hK K
              refine go_wk (k' := 4) (τ := mk 93 0 [(0, .c (.lst (a0.map eIu8))), (3, .c (.ptr 0 0)), (4, .c (.bool t2.2)), (6, .c (.ptr 1 0)), (9, .c (.int .i64 t12.2)), (10, .c (.int .i64 t13))] (nums 0 [.box [.int .i64 t2.1.fSeq, .int .i64 t2.1.fKind, .own 2], .box [.int .i64 t4.1.fSeq, .int .i64 t4.1.fKind, .own 3], .row 5 1 (t2.1.fBody.map eIu8), .row 5 1 (t12.1.fBody.map eIu8)])) ?_ ?_
              ·
                refine wk_mk [some 0, some 1, some 2, some 3] rfl ?_ ?_ ?_ ?_ ?_
                · exact (fun i h => absurd h (by omega))
                · exact (.cons _ _ _ (sv_lst (by first | rfl | (simp only [push_cast, List.map_append, List.map_set, List.map_replicate]; done) | (simp only [push_cast, List.map_append, List.map_set, List.map_replicate]; rfl))) (.cons _ _ _ (sv_ptr rfl) (.cons _ _ _ (sv_bool (by first | rfl | (simp only [push_cast, List.map_append, List.map_set, List.map_replicate]; done) | (simp only [push_cast, List.map_append, List.map_set, List.map_replicate]; rfl))) (.cons _ _ _ (sv_ptr rfl) (.cons _ _ _ (sv_int (by first | rfl | (simp only [push_cast, List.map_append, List.map_set, List.map_replicate]; done) | (simp only [push_cast, List.map_append, List.map_set, List.map_replicate]; rfl))) (.cons _ _ _ (sv_int (by first | rfl | (simp only [push_cast, List.map_append, List.map_set, List.map_replicate]; done) | (simp only [push_cast, List.map_append, List.map_set, List.map_replicate]; rfl))) .nil))))))
                · exact (.cons (.box _ _ _ rfl (.cons (sc_int (by first | rfl | (simp only [push_cast, List.map_append, List.map_set, List.map_replicate]; done) | (simp only [push_cast, List.map_append, List.map_set, List.map_replicate]; rfl))) (.cons (sc_int (by first | rfl | (simp only [push_cast, List.map_append, List.map_set, List.map_replicate]; done) | (simp only [push_cast, List.map_append, List.map_set, List.map_replicate]; rfl))) (.cons (.own _ _ rfl) .nil)))) (.cons (.box _ _ _ rfl (.cons (sc_int (by first | rfl | (simp only [push_cast, List.map_append, List.map_set, List.map_replicate]; done) | (simp only [push_cast, List.map_append, List.map_set, List.map_replicate]; rfl))) (.cons (sc_int (by first | rfl | (simp only [push_cast, List.map_append, List.map_set, List.map_replicate]; done) | (simp only [push_cast, List.map_append, List.map_set, List.map_replicate]; rfl))) (.cons (.own _ _ rfl) .nil)))) (.cons (so_row rfl (by first | rfl | (simp only [push_cast, List.map_append, List.map_set, List.map_replicate]; done) | (simp only [push_cast, List.map_append, List.map_set, List.map_replicate]; rfl))) (.cons (so_row rfl (by first | rfl | (simp only [push_cast, List.map_append, List.map_set, List.map_replicate]; done) | (simp only [push_cast, List.map_append, List.map_set, List.map_replicate]; rfl))) .nil))))
                · exact by decide
                · exact by decide
              refine go_seq ?_
              refine go_seq ?_
              refine go_region fun K hK => ?_
              try simp (config := { maxSteps := 4000000 }) only [push_cast, reduceIte, reduceCtorEq, Nat.reduceAdd, Nat.reduceSub, Nat.reduceMul, Nat.reduceEqDiff, Nat.reduceLT, Nat.reduceLeDiff]
              refine hK _ _ ?_
              clear hK K
              refine go_cond _ rfl (fun h37 => ?_) (fun h37 => ?_)
              · replace h0 := (bif_t h37).symm.trans h0
                refine go_seq ?_
                refine go_region fun K hK => ?_
                try simp (config := { maxSteps := 4000000 }) only [push_cast, reduceIte, reduceCtorEq, Nat.reduceAdd, Nat.reduceSub, Nat.reduceMul, Nat.reduceEqDiff, Nat.reduceLT, Nat.reduceLeDiff]
                refine hK _ _ ?_
                clear hK K
                refine go_ret ?_
                refine go_out_ret ?_
                cases h0
                refine go_end_ret ?_
                exact ⟨_, [], rfl, (.cons (.c (.bool _)) .nil), by decide, .inr (by simp only [RT.cells, List.mem_cons, List.mem_singleton, List.not_mem_nil, or_false, forall_eq, forall_eq_or_imp, allOwn_int, allOwn_bool, allOwn_str, allOwn_none, eIu8_ao, eTelegram_ao, eIi64_ao, eShunt_ao, eLIi64_ao, eSidings_ao, eNeed_ao, eRoute_ao, ePlant_ao, eLockOp_ao, eB_ao, eLocking_ao, eTask_ao, eRule_ao, eEdge_ao, eCall_ao, eTrip_ao, eBooking_ao, eNet_ao, eTrain_ao, eDesk_ao, eUse_ao, eRun_ao, eT_ao, o120Trip_ao, o33LIi64_ao, implies_true, and_true, false_implies, List.map_eq_nil_iff, and_self])⟩
              · replace h0 := (bif_f h37).symm.trans h0
                refine go_skip ?_
                refine go_seq ?_
                refine go_seq ?_
                refine go_region fun K hK => ?_
                try simp (config := { maxSteps := 4000000 }) only [push_cast, reduceIte, reduceCtorEq, Nat.reduceAdd, Nat.reduceSub, Nat.reduceMul, Nat.reduceEqDiff, Nat.reduceLT, Nat.reduceLeDiff]
                refine hK _ _ ?_
                clear hK K
                refine go_cond _ rfl (fun h38 => ?_) (fun h38 => ?_)
                · replace h0 := (bif_t h38).symm.trans h0
                  refine go_seq ?_
                  refine go_region fun K hK => ?_
                  try simp (config := { maxSteps := 4000000 }) only [push_cast, reduceIte, reduceCtorEq, Nat.reduceAdd, Nat.reduceSub, Nat.reduceMul, Nat.reduceEqDiff, Nat.reduceLT, Nat.reduceLeDiff]
                  refine hK _ _ ?_
                  clear hK K
                  refine go_ret ?_
                  refine go_out_ret ?_
                  cases h0
                  refine go_end_ret ?_
                  exact ⟨_, [], rfl, (.cons (.c (.bool _)) .nil), by decide, .inr (by simp only [RT.cells, List.mem_cons, List.mem_singleton, List.not_mem_nil, or_false, forall_eq, forall_eq_or_imp, allOwn_int, allOwn_bool, allOwn_str, allOwn_none, eIu8_ao, eTelegram_ao, eIi64_ao, eShunt_ao, eLIi64_ao, eSidings_ao, eNeed_ao, eRoute_ao, ePlant_ao, eLockOp_ao, eB_ao, eLocking_ao, eTask_ao, eRule_ao, eEdge_ao, eCall_ao, eTrip_ao, eBooking_ao, eNet_ao, eTrain_ao, eDesk_ao, eUse_ao, eRun_ao, eT_ao, o120Trip_ao, o33LIi64_ao, implies_true, and_true, false_implies, List.map_eq_nil_iff, and_self])⟩
                · replace h0 := (bif_f h38).symm.trans h0
                  refine go_skip ?_
                  refine go_seq ?_
                  refine go_region fun K hK => ?_
                  try simp (config := { maxSteps := 4000000 }) only [push_cast, reduceIte, reduceCtorEq, Nat.reduceAdd, Nat.reduceSub, Nat.reduceMul, Nat.reduceEqDiff, Nat.reduceLT, Nat.reduceLeDiff]
                  repeat (refine And.intro ?_ ?_; · ((repeat' apply And.intro) <;> first | assumption | omega | kernel_rfl | decide | (simp; done) | (simp only [List.length_cons, List.length_nil, List.length_append, List.length_map, List.length_set, List.length_replicate, List.length_take, List.length_drop] at *; omega)))
                  obtain ⟨t14, ht14, h0⟩ := bind_some' h0
                  refine vops_callA (laws_toByteS_ok ht14) cb21 (by simp only [lt_some, lt_none, mk_n, Nat.reduceLT]) (by simp only [push_cast, List.map_append, List.map_set, List.map_replicate]; rfl) (Nat.le_of_ble_eq_true rfl) ?_
                  try simp (config := { maxSteps := 4000000 }) only [push_cast, reduceIte, reduceCtorEq, Nat.reduceAdd, Nat.reduceSub, Nat.reduceMul, Nat.reduceEqDiff, Nat.reduceLT, Nat.reduceLeDiff]
                  repeat (refine And.intro ?_ ?_; · ((repeat' apply And.intro) <;> first | assumption | omega | kernel_rfl | decide | (simp; done) | (simp only [List.length_cons, List.length_nil, List.length_append, List.length_map, List.length_set, List.length_replicate, List.length_take, List.length_drop] at *; omega)))
                  obtain ⟨t15, ht15, h0⟩ := bind_some' h0
                  refine vops_callA (impl_Decode_ok ht15) cb22 (by simp only [lt_some, lt_none, mk_n, Nat.reduceLT]) (by simp only [push_cast, List.map_append, List.map_set, List.map_replicate]; rfl) (Nat.le_of_ble_eq_true rfl) ?_
                  try simp (config := { maxSteps := 4000000 }) only [push_cast, reduceIte, reduceCtorEq, Nat.reduceAdd, Nat.reduceSub, Nat.reduceMul, Nat.reduceEqDiff, Nat.reduceLT, Nat.reduceLeDiff]
                  repeat (refine And.intro ?_ ?_; · ((repeat' apply And.intro) <;> first | assumption | omega | kernel_rfl | decide | (simp; done) | (simp only [List.length_cons, List.length_nil, List.length_append, List.length_map, List.length_set, List.length_replicate, List.length_take, List.length_drop] at *; omega)))
                  refine hK _ _ ?_
                  clear hK K
                  refine go_wk (k' := 6) (τ := mk 93 0 [(3, .c (.ptr 0 0)), (4, .c (.bool t2.2)), (6, .c (.ptr 1 0)), (9, .c (.int .i64 t12.2)), (11, .c (.ptr 2 0)), (12, .c (.bool t15.2))] (nums 0 [.box [.int .i64 t2.1.fSeq, .int .i64 t2.1.fKind, .own 3], .box [.int .i64 t4.1.fSeq, .int .i64 t4.1.fKind, .own 4], .box [.int .i64 t15.1.fSeq, .int .i64 t15.1.fKind, .own 5], .row 5 1 (t2.1.fBody.map eIu8), .row 5 1 (t12.1.fBody.map eIu8), .row 5 1 (t15.1.fBody.map eIu8)])) ?_ ?_
                  ·
                    refine wk_mk [some 0, some 1, some 356, some 2, some 3, some 230] rfl ?_ ?_ ?_ ?_ ?_
                    · exact (fun i h => absurd h (by omega))
                    · exact (.cons _ _ _ (sv_ptr rfl) (.cons _ _ _ (sv_bool (by first | rfl | (simp only [push_cast, List.map_append, List.map_set, List.map_replicate]; done) | (simp only [push_cast, List.map_append, List.map_set, List.map_replicate]; rfl))) (.cons _ _ _ (sv_ptr rfl) (.cons _ _ _ (sv_int (by first | rfl | (simp only [push_cast, List.map_append, List.map_set, List.map_replicate]; done) | (simp only [push_cast, List.map_append, List.map_set, List.map_replicate]; rfl))) (.cons _ _ _ (sv_ptr rfl) (.cons _ _ _ (sv_bool (by first | rfl | (simp only [push_cast, List.map_append, List.map_set, List.map_replicate]; done) | (simp only [push_cast, List.map_append, List.map_set, List.map_replicate]; rfl))) .nil))))))
                    · exact (.cons (.box _ _ _ rfl (.cons (sc_int (by first | rfl | (simp only [push_cast, List.map_append, List.map_set, List.map_replicate]; done) | (simp only [push_cast, List.map_append, List.map_set, List.map_replicate]; rfl))) (.cons (sc_int (by first | rfl | (simp only [push_cast, List.map_append, List.map_set, List.map_replicate]; done) | (simp only [push_cast, List.map_append, List.map_set, List.map_replicate]; rfl))) (.cons (.own _ _ rfl) .nil)))) (.cons (.box _ _ _ rfl (.cons (sc_int (by first | rfl | (simp only [push_cast, List.map_append, List.map_set, List.map_replicate]; done) | (simp only [push_cast, List.map_append, List.map_set, List.map_replicate]; rfl))) (.cons (sc_int (by first | rfl | (simp only [push_cast, List.map_append, List.map_set, List.map_replicate]; done) | (simp only [push_cast, List.map_append, List.map_set, List.map_replicate]; rfl))) (.cons (.own _ _ rfl) .nil)))) (.cons (.box _ _ _ rfl (.cons (sc_int (by first | rfl | (simp only [push_cast, List.map_append, List.map_set, List.map_replicate]; done) | (simp only [push_cast, List.map_append, List.map_set, List.map_replicate]; rfl))) (.cons (sc_int (by first | rfl | (simp only [push_cast, List.map_append, List.map_set, List.map_replicate]; done) | (simp only [push_cast, List.map_append, List.map_set, List.map_replicate]; rfl))) (.cons (.own _ _ rfl) .nil)))) (.cons (so_row rfl (by first | rfl | (simp only [push_cast, List.map_append, List.map_set, List.map_replicate]; done) | (simp only [push_cast, List.map_append, List.map_set, List.map_replicate]; rfl))) (.cons (so_row rfl (by first | rfl | (simp only [push_cast, List.map_append, List.map_set, List.map_replicate]; done) | (simp only [push_cast, List.map_append, List.map_set, List.map_replicate]; rfl))) (.cons (so_row rfl (by first | rfl | (simp only [push_cast, List.map_append, List.map_set, List.map_replicate]; done) | (simp only [push_cast, List.map_append, List.map_set, List.map_replicate]; rfl))) .nil))))))
                    · exact by decide
                    · exact by decide
                  refine go_seq ?_
                  refine go_seq ?_
                  obtain ⟨v39, h40, h0⟩ := bind_some' h0
                  refine go_cut (fun k σ => ∃ x17 : Bool, v39 = x17 ∧ Wk k σ 2 (mk 93 0 [(6, .c (.ptr 0 0)), (9, .c (.int .i64 t12.2)), (84, .c (.bool x17))] (nums 0 [.box [.int .i64 t4.1.fSeq, .int .i64 t4.1.fKind, .own 1], .row 5 1 (t12.1.fBody.map eIu8)]))) ?_ ?_
                  ·
                    refine go_region fun K hK => ?_
                    try simp (config := { maxSteps := 4000000 }) only [push_cast, reduceIte, reduceCtorEq, Nat.reduceAdd, Nat.reduceSub, Nat.reduceMul, Nat.reduceEqDiff, Nat.reduceLT, Nat.reduceLeDiff]
                    obtain ⟨t16, ht16, h40⟩ := bind_some' h40
                    refine vops_callA (laws_eqTelegram_ok ht16) cb23 (by simp only [lt_some, lt_none, mk_n, Nat.reduceLT]) (by simp only [push_cast, List.map_append, List.map_set, List.map_replicate]; rfl) (Nat.le_of_ble_eq_true rfl) ?_
                    try simp (config := { maxSteps := 4000000 }) only [push_cast, reduceIte, reduceCtorEq, Nat.reduceAdd, Nat.reduceSub, Nat.reduceMul, Nat.reduceEqDiff, Nat.reduceLT, Nat.reduceLeDiff]
                    refine vops_if rfl (Nat.le_of_ble_eq_true rfl) (by simp only [lt_some, lt_none, mk_n, Nat.reduceLT]) (fun h41 => ?_) (fun h41 => ?_)
                    · replace h41 : _ = false := h41
                      replace h40 := (bif_f h41).symm.trans h40
                      try simp (config := { maxSteps := 4000000 }) only [push_cast, reduceIte, reduceCtorEq, Nat.reduceAdd, Nat.reduceSub, Nat.reduceMul, Nat.reduceEqDiff, Nat.reduceLT, Nat.reduceLeDiff]
                      refine hK _ _ ?_
                      clear hK K
                      have e42 := Option.some.inj h40
                      refine go_lp ⟨(!(t15.2 == t2.2)), e42.symm, ?_⟩
                      refine wk_mk [some 1, some 4] rfl ?_ ?_ ?_ ?_ ?_
                      · exact (fun i h => absurd h (by omega))
                      · exact (.cons _ _ _ (sv_ptr rfl) (.cons _ _ _ (sv_int (by first | rfl | (simp only [push_cast, List.map_append, List.map_set, List.map_replicate]; done) | (simp only [push_cast, List.map_append, List.map_set, List.map_replicate]; rfl))) (.cons _ _ _ (sv_bool (by first | rfl | (simp only [push_cast, List.map_append, List.map_set, List.map_replicate]; done) | (simp only [push_cast, List.map_append, List.map_set, List.map_replicate]; rfl))) .nil)))
                      · exact (.cons (.box _ _ _ rfl (.cons (sc_int (by first | rfl | (simp only [push_cast, List.map_append, List.map_set, List.map_replicate]; done) | (simp only [push_cast, List.map_append, List.map_set, List.map_replicate]; rfl))) (.cons (sc_int (by first | rfl | (simp only [push_cast, List.map_append, List.map_set, List.map_replicate]; done) | (simp only [push_cast, List.map_append, List.map_set, List.map_replicate]; rfl))) (.cons (.own _ _ rfl) .nil)))) (.cons (so_row rfl (by first | rfl | (simp only [push_cast, List.map_append, List.map_set, List.map_replicate]; done) | (simp only [push_cast, List.map_append, List.map_set, List.map_replicate]; rfl))) .nil))
                      · exact by decide
                      · exact by decide
                    · replace h41 : _ = true := h41
                      replace h40 := (bif_t h41).symm.trans h40
                      try simp (config := { maxSteps := 4000000 }) only [push_cast, reduceIte, reduceCtorEq, Nat.reduceAdd, Nat.reduceSub, Nat.reduceMul, Nat.reduceEqDiff, Nat.reduceLT, Nat.reduceLeDiff]
                      refine hK _ _ ?_
                      clear hK K
                      have e43 := Option.some.inj h40
                      refine go_lp ⟨true, e43.symm, ?_⟩
                      refine wk_mk [some 1, some 4] rfl ?_ ?_ ?_ ?_ ?_
                      · exact (fun i h => absurd h (by omega))
                      · exact (.cons _ _ _ (sv_ptr rfl) (.cons _ _ _ (sv_int (by first | rfl | (simp only [push_cast, List.map_append, List.map_set, List.map_replicate]; done) | (simp only [push_cast, List.map_append, List.map_set, List.map_replicate]; rfl))) (.cons _ _ _ (sv_bool (by first | rfl | (simp only [push_cast, List.map_append, List.map_set, List.map_replicate]; done) | (simp only [push_cast, List.map_append, List.map_set, List.map_replicate]; rfl))) .nil)))
                      · exact (.cons (.box _ _ _ rfl (.cons (sc_int (by first | rfl | (simp only [push_cast, List.map_append, List.map_set, List.map_replicate]; done) | (simp only [push_cast, List.map_append, List.map_set, List.map_replicate]; rfl))) (.cons (sc_int (by first | rfl | (simp only [push_cast, List.map_append, List.map_set, List.map_replicate]; done) | (simp only [push_cast, List.map_append, List.map_set, List.map_replicate]; rfl))) (.cons (.own _ _ rfl) .nil)))) (.cons (so_row rfl (by first | rfl | (simp only [push_cast, List.map_append, List.map_set, List.map_replicate]; done) | (simp only [push_cast, List.map_append, List.map_set, List.map_replicate]; rfl))) .nil))
                      · exact by decide
                      · exact by decide
                  · rintro k σ ⟨x17, h44q, h44⟩
                    rw [h44q] at h0
                    try dsimp only [Sum.elim_inl] at h0
                    refine go_wk h44 ?_
                    clear h44
                    refine go_cond _ rfl (fun h45 => ?_) (fun h45 => ?_)
                    · replace h0 := (bif_t h45).symm.trans h0
                      refine go_seq ?_
                      refine go_region fun K hK => ?_
                      try simp (config := { maxSteps := 4000000 }) only [push_cast, reduceIte, reduceCtorEq, Nat.reduceAdd, Nat.reduceSub, Nat.reduceMul, Nat.reduceEqDiff, Nat.reduceLT, Nat.reduceLeDiff]
                      refine hK _ _ ?_
                      clear hK K
                      refine go_ret ?_
                      refine go_out_ret ?_
                      cases h0
                      refine go_end_ret ?_
                      exact ⟨_, [], rfl, (.cons (.c (.bool _)) .nil), by decide, .inr (by simp only [RT.cells, List.mem_cons, List.mem_singleton, List.not_mem_nil, or_false, forall_eq, forall_eq_or_imp, allOwn_int, allOwn_bool, allOwn_str, allOwn_none, eIu8_ao, eTelegram_ao, eIi64_ao, eShunt_ao, eLIi64_ao, eSidings_ao, eNeed_ao, eRoute_ao, ePlant_ao, eLockOp_ao, eB_ao, eLocking_ao, eTask_ao, eRule_ao, eEdge_ao, eCall_ao, eTrip_ao, eBooking_ao, eNet_ao, eTrain_ao, eDesk_ao, eUse_ao, eRun_ao, eT_ao, o120Trip_ao, o33LIi64_ao, implies_true, and_true, false_implies, List.map_eq_nil_iff, and_self])⟩
                    · replace h0 := (bif_f h45).symm.trans h0
                      refine go_skip ?_
                      refine go_seq ?_
                      refine go_region fun K hK => ?_
                      try simp (config := { maxSteps := 4000000 }) only [push_cast, reduceIte, reduceCtorEq, Nat.reduceAdd, Nat.reduceSub, Nat.reduceMul, Nat.reduceEqDiff, Nat.reduceLT, Nat.reduceLeDiff]
                      refine hK _ _ ?_
                      clear hK K
                      refine go_seq ?_
                      refine go_region fun K hK => ?_
                      try simp (config := { maxSteps := 4000000 }) only [push_cast, reduceIte, reduceCtorEq, Nat.reduceAdd, Nat.reduceSub, Nat.reduceMul, Nat.reduceEqDiff, Nat.reduceLT, Nat.reduceLeDiff]
                      obtain ⟨t18, ht18, h0⟩ := bind_some' h0
                      refine vops_callA (laws_heldTelegram_ok ht18) cb27 (by simp only [lt_some, lt_none, mk_n, Nat.reduceLT]) (by simp only [push_cast, List.map_append, List.map_set, List.map_replicate]; rfl) (Nat.le_of_ble_eq_true rfl) ?_
                      try simp (config := { maxSteps := 4000000 }) only [push_cast, reduceIte, reduceCtorEq, Nat.reduceAdd, Nat.reduceSub, Nat.reduceMul, Nat.reduceEqDiff, Nat.reduceLT, Nat.reduceLeDiff]
                      refine hK _ _ ?_
                      clear hK K
                      refine go_wk (k' := 0) (τ := mk 93 0 [(9, .c (.int .i64 t12.2)), (10, .c (.int .i64 t18))] (nums 0 [])) ?_ ?_
                      ·
                        refine wk_mk [] rfl ?_ ?_ ?_ ?_ ?_
                        · exact (fun i h => absurd h (by omega))
                        · exact (.cons _ _ _ (sv_int (by first | rfl | (simp only [push_cast, List.map_append, List.map_set, List.map_replicate]; done) | (simp only [push_cast, List.map_append, List.map_set, List.map_replicate]; rfl))) (.cons _ _ _ (sv_int (by first | rfl | (simp only [push_cast, List.map_append, List.map_set, List.map_replicate]; done) | (simp only [push_cast, List.map_append, List.map_set, List.map_replicate]; rfl))) .nil))
                        · exact .nil
                        · exact by decide
                        · exact by decide
                      refine go_seq ?_
                      refine go_seq ?_
                      refine go_region fun K hK => ?_
                      try simp (config := { maxSteps := 4000000 }) only [push_cast, reduceIte, reduceCtorEq, Nat.reduceAdd, Nat.reduceSub, Nat.reduceMul, Nat.reduceEqDiff, Nat.reduceLT, Nat.reduceLeDiff]
                      refine hK _ _ ?_
                      clear hK K
                      refine go_cond _ rfl (fun h46 => ?_) (fun h46 => ?_)
                      · replace h0 := (bif_t h46).symm.trans h0
                        refine go_seq ?_
                        refine go_region fun K hK => ?_
                        try simp (config := { maxSteps := 4000000 }) only [push_cast, reduceIte, reduceCtorEq, Nat.reduceAdd, Nat.reduceSub, Nat.reduceMul, Nat.reduceEqDiff, Nat.reduceLT, Nat.reduceLeDiff]
                        refine hK _ _ ?_
                        clear hK K
                        refine go_ret ?_
                        refine go_out_ret ?_
                        cases h0
                        refine go_end_ret ?_
                        exact ⟨_, [], rfl, (.cons (.c (.bool _)) .nil), by decide, .inr (by simp only [RT.cells, List.mem_cons, List.mem_singleton, List.not_mem_nil, or_false, forall_eq, forall_eq_or_imp, allOwn_int, allOwn_bool, allOwn_str, allOwn_none, eIu8_ao, eTelegram_ao, eIi64_ao, eShunt_ao, eLIi64_ao, eSidings_ao, eNeed_ao, eRoute_ao, ePlant_ao, eLockOp_ao, eB_ao, eLocking_ao, eTask_ao, eRule_ao, eEdge_ao, eCall_ao, eTrip_ao, eBooking_ao, eNet_ao, eTrain_ao, eDesk_ao, eUse_ao, eRun_ao, eT_ao, o120Trip_ao, o33LIi64_ao, implies_true, and_true, false_implies, List.map_eq_nil_iff, and_self])⟩
                      · replace h0 := (bif_f h46).symm.trans h0
                        refine go_skip ?_
                        refine go_seq ?_
                        refine go_seq ?_
                        refine go_region fun K hK => ?_
                        try simp (config := { maxSteps := 4000000 }) only [push_cast, reduceIte, reduceCtorEq, Nat.reduceAdd, Nat.reduceSub, Nat.reduceMul, Nat.reduceEqDiff, Nat.reduceLT, Nat.reduceLeDiff]
                        refine hK _ _ ?_
                        clear hK K
                        refine go_cond _ rfl (fun h47 => ?_) (fun h47 => ?_)
                        · replace h0 := (bif_t h47).symm.trans h0
                          refine go_seq ?_
                          refine go_region fun K hK => ?_
                          try simp (config := { maxSteps := 4000000 }) only [push_cast, reduceIte, reduceCtorEq, Nat.reduceAdd, Nat.reduceSub, Nat.reduceMul, Nat.reduceEqDiff, Nat.reduceLT, Nat.reduceLeDiff]
                          refine hK _ _ ?_
                          clear hK K
                          refine go_ret ?_
                          refine go_out_ret ?_
                          cases h0
                          refine go_end_ret ?_
                          exact ⟨_, [], rfl, (.cons (.c (.bool _)) .nil), by decide, .inr (by simp only [RT.cells, List.mem_cons, List.mem_singleton, List.not_mem_nil, or_false, forall_eq, forall_eq_or_imp, allOwn_int, allOwn_bool, allOwn_str, allOwn_none, eIu8_ao, eTelegram_ao, eIi64_ao, eShunt_ao, eLIi64_ao, eSidings_ao, eNeed_ao, eRoute_ao, ePlant_ao, eLockOp_ao, eB_ao, eLocking_ao, eTask_ao, eRule_ao, eEdge_ao, eCall_ao, eTrip_ao, eBooking_ao, eNet_ao, eTrain_ao, eDesk_ao, eUse_ao, eRun_ao, eT_ao, o120Trip_ao, o33LIi64_ao, implies_true, and_true, false_implies, List.map_eq_nil_iff, and_self])⟩
                        · replace h0 := (bif_f h47).symm.trans h0
                          refine go_skip ?_
                          refine go_seq ?_
                          refine go_region fun K hK => ?_
                          try simp (config := { maxSteps := 4000000 }) only [push_cast, reduceIte, reduceCtorEq, Nat.reduceAdd, Nat.reduceSub, Nat.reduceMul, Nat.reduceEqDiff, Nat.reduceLT, Nat.reduceLeDiff]
                          refine hK _ _ ?_
                          clear hK K
                          refine go_ret ?_
                          cases h0
                          refine go_end_ret ?_
                          exact ⟨_, [], rfl, (.cons (.c (.bool _)) .nil), by decide, .inr (by simp only [RT.cells, List.mem_cons, List.mem_singleton, List.not_mem_nil, or_false, forall_eq, forall_eq_or_imp, allOwn_int, allOwn_bool, allOwn_str, allOwn_none, eIu8_ao, eTelegram_ao, eIi64_ao, eShunt_ao, eLIi64_ao, eSidings_ao, eNeed_ao, eRoute_ao, ePlant_ao, eLockOp_ao, eB_ao, eLocking_ao, eTask_ao, eRule_ao, eEdge_ao, eCall_ao, eTrip_ao, eBooking_ao, eNet_ao, eTrain_ao, eDesk_ao, eUse_ao, eRun_ao, eT_ao, o120Trip_ao, o33LIi64_ao, implies_true, and_true, false_implies, List.map_eq_nil_iff, and_self])⟩
end Go.V
namespace Go.V
open Go Go.RowKit

theorem w64 {n : Int} (h : -9223372036854775808 ≤ n ∧ n ≤ 9223372036854775807) : IntKind.i64.wrap n = n := IntWalk.i64_in n h
theorem w8 {n : Int} (h : 0 ≤ n ∧ n ≤ 255) : IntKind.u8.wrap n = n := IntWalk.u8_in n h
theorem wsucc {k : Nat} (h : k ≤ 9000000000000000000) : IntKind.i64.wrap ((k : Int) + 1) = ((k + 1 : Nat) : Int) := by rw [w64 (by omega)]; rfl
theorem wf64 {n : Int} : (Lit.int .i64 n).wf = true ↔ -9223372036854775808 ≤ n ∧ n ≤ 9223372036854775807 := by
  simp only [Lit.wf, Bool.and_eq_true, decide_eq_true_eq]; exact Iff.rfl
theorem wf8 {n : Int} : (Lit.int .u8 n).wf = true ↔ 0 ≤ n ∧ n ≤ 255 := by
  simp only [Lit.wf, Bool.and_eq_true, decide_eq_true_eq]; exact Iff.rfl
theorem w8_range (n : Int) : 0 ≤ IntKind.u8.wrap n ∧ IntKind.u8.wrap n ≤ 255 := by rw [IntKind.wrap_u8]; omega

theorem exists_min {p : Nat → Prop} (h : ∃ n, p n) : ∃ n, p n ∧ ∀ m, p m → n ≤ m := by
  obtain ⟨n, hn⟩ := h
  induction n using Nat.strongRecOn with
  | _ n ih =>
    by_cases hm : ∃ m, m < n ∧ p m
    · obtain ⟨m, h1, h2⟩ := hm
      exact ih m h1 h2
    · exact ⟨n, hn, fun m hp => Nat.le_of_not_lt fun hlt => hm ⟨m, hlt, hp⟩⟩

/-- A loop whose variable counts a list's places up. -/
theorem loop_up {σ ρ : Type} {b : σ → Option (σ ⊕ ρ)} (len : Nat) (st : Nat → σ) (out : ρ) (hs : ∀ k, k < len → b (st k) = some (.inl (st (k + 1)))) (he : b (st len) = some (.inr out)) : loop b (st 0) = some out := by
  have key : ∀ d k, k + d = len → loop b (st k) = some out := by
    intro d
    induction d with
    | zero => intro k hk; obtain rfl : k = len := by omega
              exact loop_done he
    | succ d ih => intro k hk; rw [loop_step (hs k (by omega))]; exact ih (k + 1) (by omega)
  exact key len 0 (by omega)

/-- The same, with a place at which it may stop ahead of the end. -/
theorem loop_find {σ ρ : Type} {b : σ → Option (σ ⊕ ρ)} (len : Nat) (st : Nat → σ) (out : ρ) (j : Nat) (hj : j ≤ len) (hs : ∀ k, k < j → b (st k) = some (.inl (st (k + 1)))) (he : b (st j) = some (.inr out)) : loop b (st 0) = some out :=
  loop_up j st out hs he

theorem rd_get {α : Type} [Inhabited α] {xs : List α} {k : Nat} (h : k < xs.length) : rd xs (k : Int) = xs[k] := rd_nat h
theorem take_set {α : Type} {xs : List α} {k : Nat} (v : α) (h : k < xs.length) : (xs.set k v).take (k + 1) = xs.take k ++ [v] := by
  rw [List.take_add_one]
  simp [h, List.take_set_of_le]
theorem take_snoc {α : Type} {xs : List α} {k : Nat} (h : k < xs.length) : xs.take (k + 1) = xs.take k ++ [xs[k]] := by
  rw [List.take_add_one]; simp [h]

theorem toByteS_eq (a : List Int) (h : a.length ≤ 1048576) : laws_toByteS a = some a := by
  unfold laws_toByteS
  rw [if_pos (by omega)]
  have e : loop (fun v => laws_toByteS_b0 a v.1 v.2) ((0 : Int), List.replicate (a.length : Int).toNat (0 : Int)) = some a := by
    refine loop_up a.length (fun k => ((k : Int), a.take k ++ List.replicate (a.length - k) 0)) a (fun k hk => ?_) ?_
    · simp only [laws_toByteS_b0]
      have hl : (a.take k ++ List.replicate (a.length - k) (0 : Int)).length = a.length := by simp; omega
      rw [if_pos (by simpa using hk), if_pos (by omega), if_pos (by rw [hl]; omega), w64 (by omega), rd_get hk]
      simp only [Int.toNat_natCast]
      have : (a.take k ++ List.replicate (a.length - k) (0 : Int)).set k a[k] = a.take (k + 1) ++ List.replicate (a.length - (k + 1)) 0 := by
        rw [List.set_append_right _ _ (by simp; omega), take_snoc hk]
        simp only [List.length_take, Nat.min_eq_left (Nat.le_of_lt hk), Nat.sub_self, List.append_assoc]
        congr 1
        rw [show a.length - k = (a.length - (k + 1)) + 1 by omega, List.replicate_succ]
        rfl
      rw [this]; rfl
    · simp only [laws_toByteS_b0]
      rw [if_neg (by simp)]
      simp
  rw [e]; rfl

theorem eqByteS_eq (a b : List Int) (h : a.length ≤ 9223372036854775806) : laws_eqByteS a b = some (decide (a = b)) := by
  unfold laws_eqByteS
  by_cases hl : a.length = b.length
  · rw [if_neg (by simp [hl])]
    by_cases hab : a = b
    · subst hab
      have e : loop (fun v => laws_eqByteS_b0 a a v) (0 : Int) = some (.inl ()) := by
        refine loop_up a.length (fun k => (k : Int)) _ (fun k hk => ?_) ?_
        · simp only [laws_eqByteS_b0]
          rw [if_pos (by simpa using hk), if_pos (by omega), if_pos (by omega), if_neg (by simp), w64 (by omega)]; rfl
        · simp only [laws_eqByteS_b0]
          rw [if_neg (by simp)]
      rw [e]; simp
    · have : ∃ j, ∃ hj : j < a.length, (∀ k, (hk : k < j) → a[k]'(by omega) = b[k]'(by omega)) ∧ a[j] ≠ b[j]'(by omega) := by
        have hne : ∃ j, ∃ hj : j < a.length, a[j] ≠ b[j]'(by omega) := by
          refine Classical.byContradiction fun hn => hab (List.ext_getElem hl fun i h1 h2 => ?_)
          exact Classical.byContradiction fun hne => hn ⟨i, h1, hne⟩
        obtain ⟨j, ⟨hj, hne⟩, hmin⟩ := exists_min hne
        exact ⟨j, hj, fun k hk => Classical.byContradiction fun hc => by have := hmin k ⟨by omega, hc⟩; omega, hne⟩
      obtain ⟨j, hj, hlt, hne⟩ := this
      have e : loop (fun v => laws_eqByteS_b0 a b v) (0 : Int) = some (.inr false) := by
        refine loop_up j (fun k => (k : Int)) _ (fun k hk => ?_) ?_
        · simp only [laws_eqByteS_b0]
          rw [if_pos (by simp; omega), if_pos (by omega), if_pos (by omega), if_neg (by rw [rd_get (by omega), rd_get (by omega)]; simp [hlt k hk]), w64 (by omega)]; rfl
        · simp only [laws_eqByteS_b0]
          rw [if_pos (by simpa using hj), if_pos (by omega), if_pos (by omega), if_pos (by rw [rd_get hj, rd_get (by omega)]; simpa using hne)]
      rw [e]; simp [hab]
  · rw [if_pos (by simp; omega)]
    have : a ≠ b := fun h => hl (by rw [h])
    simp [this]
end Go.V
namespace Go.V
open Go Go.RowKit

def marks8 (n : Nat) (k : Int) : List Int := (List.range n).map fun (i : Nat) => IntKind.u8.wrap (k + (i : Int))
theorem marks8_len (n : Nat) (k : Int) : (marks8 n k).length = n := by simp [marks8]
theorem marks8_get {n : Nat} {k : Int} {i : Nat} (h : i < n) : (marks8 n k)[i]'(by rw [marks8_len]; exact h) = IntKind.u8.wrap (k + i) := by simp [marks8]

theorem markByteS_eq (a : List Int) (k : Int) (h : a.length ≤ 1048576) (hk : 0 ≤ k ∧ k ≤ 1048576) : laws_markByteS a k = some (marks8 a.length k, k + a.length) := by
  unfold laws_markByteS
  have e : loop (fun v => laws_markByteS_b0 v.1 v.2.1 v.2.2) (k, (0 : Int), a) = some (k + a.length, marks8 a.length k) := by
    have := loop_up (b := fun v => laws_markByteS_b0 v.1 v.2.1 v.2.2) a.length (fun i => (k + (i : Int), (i : Int), (marks8 a.length k).take i ++ a.drop i)) (k + a.length, marks8 a.length k) (fun i hi => ?_) ?_
    · simpa using this
    · have hl : ((marks8 a.length k).take i ++ a.drop i).length = a.length := by simp [marks8_len]; omega
      simp only [laws_markByteS_b0]
      rw [if_pos (by rw [hl]; simpa using hi), if_pos (by rw [hl]; omega), w64 (by omega), w64 (by omega)]
      have : (((marks8 a.length k).take i ++ a.drop i).set i (IntKind.u8.wrap (k + (i : Int)))) = (marks8 a.length k).take (i + 1) ++ a.drop (i + 1) := by
        rw [List.set_append_right _ _ (by simp [marks8_len]; omega), take_snoc (by rw [marks8_len]; exact hi), marks8_get hi]
        simp only [List.length_take, marks8_len, Nat.min_eq_left (Nat.le_of_lt hi), Nat.sub_self, List.append_assoc]
        congr 1
        rw [List.drop_eq_getElem_cons hi]
        rfl
      simp only [Int.toNat_natCast, this]
      congr 2
      simp; omega
    · have hl : ((marks8 a.length k).take a.length ++ a.drop a.length).length = a.length := by simp [marks8_len]
      simp only [laws_markByteS_b0]
      rw [if_neg (by rw [hl]; simp)]
      simp [marks8_len, List.take_of_length_le]
  rw [e]; rfl

theorem heldByteS_eq (n : Nat) (k : Int) (h : n ≤ 1048576) (hk : 0 ≤ k ∧ k ≤ 1048576) : laws_heldByteS (marks8 n k) k = some (k + n) := by
  unfold laws_heldByteS
  have e : loop (fun v => laws_heldByteS_b0 (marks8 n k) v.1 v.2) (k, (0 : Int)) = some (.inl (k + n)) := by
    have := loop_up (b := fun v => laws_heldByteS_b0 (marks8 n k) v.1 v.2) n (fun i => (k + (i : Int), (i : Int))) (.inl (k + n)) (fun i hi => ?_) ?_
    · simpa using this
    · simp only [laws_heldByteS_b0]
      rw [if_pos (by rw [marks8_len]; simpa using hi), if_pos (by rw [marks8_len]; omega), rd_get (by rw [marks8_len]; exact hi), marks8_get hi, if_neg (by simp), w64 (by omega), w64 (by omega)]
      congr 2
      simp; omega
    · simp only [laws_heldByteS_b0]
      rw [if_neg (by rw [marks8_len]; simp)]
  rw [e]; rfl

theorem eqTelegram_eq (a b : STelegram) (h : a.fBody.length ≤ 1048576) : laws_eqTelegram a b = some (decide (a = b)) := by
  unfold laws_eqTelegram
  rw [eqByteS_eq _ _ (by omega)]
  obtain ⟨s, k, x⟩ := a
  obtain ⟨s', k', y⟩ := b
  by_cases h1 : s = s' <;> by_cases h2 : k = k' <;> by_cases h3 : x = y <;> simp [h1, h2, h3]

def okT (t : STelegram) : Prop := 0 ≤ t.fSeq ∧ t.fSeq ≤ 255 ∧ 0 ≤ t.fKind ∧ t.fKind ≤ 15 ∧ t.fBody.length ≤ 60
instance (t : STelegram) : Decidable (okT t) := by unfold okT; infer_instance
theorem telegramOk_eq (t : STelegram) : impl_TelegramOk t = some (decide (okT t)) := by
  unfold impl_TelegramOk impl_between okT
  by_cases h1 : 0 ≤ t.fSeq <;> by_cases h2 : t.fSeq ≤ 255 <;> by_cases h3 : 0 ≤ t.fKind <;> by_cases h4 : t.fKind ≤ 15 <;> by_cases h5 : (t.fBody.length : Int) ≤ 60 <;> simp [h1, h2, h3, h4, h5] <;> omega
theorem telegramOk_eq' (t : STelegram) : spec_TelegramOk t = some (decide (okT t)) := telegramOk_eq t

theorem crc_in (x : Int) : ∃ y, loop (fun v => impl_Crc8_b2 v.1 v.2) (x, (0 : Int)) = some y := by
  obtain ⟨r, hr, _⟩ := loop_inv (b := fun v => impl_Crc8_b2 v.1 v.2) (fun n (s : Int × Int) => ∃ k : Nat, k ≤ 8 ∧ n = 8 - k ∧ s.2 = k) (fun _ => True) 8 (s := (x, 0)) ⟨0, by omega, rfl, rfl⟩ (fun n s ⟨k, hk, hn, hs⟩ => by
    obtain ⟨x, i⟩ := s
    simp only at hs
    subst hs
    simp only [impl_Crc8_b2]
    by_cases h8 : k < 8
    · rw [if_pos (by simp; omega)]
      by_cases hc : 255 < IntKind.i64.wrap (x * 2)
      · rw [if_pos (by simpa using hc)]
        exact ⟨_, rfl, 8 - (k + 1), by omega, k + 1, by omega, rfl, wsucc (by omega)⟩
      · rw [if_neg (by simpa using hc)]
        exact ⟨_, rfl, 8 - (k + 1), by omega, k + 1, by omega, rfl, wsucc (by omega)⟩
    · rw [if_neg (by simp; omega)]
      exact ⟨_, rfl, trivial⟩)
  exact ⟨r, hr⟩
theorem crc_some (l : List Int) (h : l.length ≤ 3000) : ∃ c, impl_Crc8 l = some c := by
  unfold impl_Crc8
  rw [if_neg (by simp; omega)]
  obtain ⟨r, hr, _⟩ := loop_inv (b := fun v => impl_Crc8_b0 l v.1 v.2) (fun n (s : Int × Int) => ∃ k : Nat, k ≤ l.length ∧ n = l.length - k ∧ s.2 = k) (fun _ => True) l.length (s := (0, 0)) ⟨0, by omega, rfl, rfl⟩ (fun n s ⟨k, hk, hn, hs⟩ => by
    obtain ⟨x, i⟩ := s
    simp only at hs
    subst hs
    simp only [impl_Crc8_b0]
    by_cases h8 : k < l.length
    · rw [if_pos (by simpa using h8), if_pos (by omega)]
      obtain ⟨y, hy⟩ := crc_in (IntKind.i64.wrap (((BitVec.ofInt IntKind.i64.bits x ^^^ BitVec.ofInt IntKind.i64.bits (IntKind.i64.wrap (rd l k))).toNat : Int)))
      rw [hy]
      exact ⟨_, rfl, l.length - (k + 1), by omega, k + 1, by omega, rfl, wsucc (by omega)⟩
    · rw [if_neg (by simpa using h8)]
      exact ⟨_, rfl, trivial⟩)
  exact ⟨r, by rw [hr]; rfl⟩

def head3 (t : STelegram) : List Int := [IntKind.u8.wrap t.fSeq, IntKind.u8.wrap t.fKind, IntKind.u8.wrap (t.fBody.length : Int)] ++ t.fBody
noncomputable def ld (t : STelegram) : List Int := head3 t ++ [IntKind.u8.wrap ((impl_Crc8 (head3 t)).getD 0)]
theorem head3_len (t : STelegram) : (head3 t).length = 3 + t.fBody.length := by simp [head3]; omega
theorem ld_len (t : STelegram) : (ld t).length = 4 + t.fBody.length := by simp [ld, head3_len]; omega
theorem load_eq (t : STelegram) (h : t.fBody.length ≤ 60) : impl_load t = some (ld t) := by
  unfold impl_load
  obtain ⟨c, hc⟩ := crc_some (head3 t) (by rw [head3_len]; omega)
  have hl := head3_len t
  unfold head3 at hl
  simp only [List.length_append] at hl
  rw [if_pos (by omega)]
  have e : impl_Crc8 ([IntKind.u8.wrap t.fSeq, IntKind.u8.wrap t.fKind, IntKind.u8.wrap (t.fBody.length : Int)] ++ t.fBody) = some c := hc
  rw [e]
  simp only [Option.bind_some]
  rw [if_pos (by simp; omega)]
  unfold ld
  rw [hc]
  rfl

def x32 (b : Int) : Int := IntKind.u8.wrap (((BitVec.ofInt IntKind.u8.bits b ^^^ BitVec.ofInt IntKind.u8.bits (32 : Int)).toNat : Int))
def esc1 (b : Int) : List Int := if b = 126 ∨ b = 125 then [125, x32 b] else [b]
def escs (l : List Int) : List Int := l.flatMap esc1
theorem escs_snoc (l : List Int) (b : Int) : escs (l ++ [b]) = escs l ++ esc1 b := by simp [escs]
theorem esc1_len (b : Int) : 1 ≤ (esc1 b).length ∧ (esc1 b).length ≤ 2 := by unfold esc1; split <;> simp
theorem escs_len (l : List Int) : l.length ≤ (escs l).length ∧ (escs l).length ≤ 2 * l.length := by
  induction l with
  | nil => simp [escs]
  | cons b l ih =>
    have h := esc1_len b
    simp only [escs, List.flatMap_cons, List.length_append, List.length_cons] at ih ⊢
    omega

noncomputable def encT (t : STelegram) : List Int := if okT t then [126] ++ escs (ld t) ++ [126] else []
theorem encode_eq (t : STelegram) : impl_Encode t = some (encT t) := by
  unfold impl_Encode
  rw [telegramOk_eq]
  simp only [Option.bind_some]
  by_cases h : okT t
  · rw [if_neg (by simp [h]), load_eq t h.2.2.2.2]
    simp only [Option.bind_some]
    have hll := ld_len t
    have hb := h.2.2.2.2
    have e : loop (fun v => impl_Encode_b0 (ld t) v.1 v.2) ((0 : Int), [(126 : Int)]) = some ([126] ++ escs (ld t)) := by
      have := loop_up (b := fun v => impl_Encode_b0 (ld t) v.1 v.2) (ld t).length (fun k => ((k : Int), [126] ++ escs ((ld t).take k))) ([126] ++ escs (ld t)) (fun k hk => ?_) ?_
      · simpa [escs] using this
      · have hle := (escs_len ((ld t).take k)).2
        simp only [List.length_take] at hle
        simp only [impl_Encode_b0]
        rw [if_pos (by simpa using hk), if_pos (by omega), rd_get hk, w64 (by omega), take_snoc hk, escs_snoc]
        by_cases h1 : (ld t)[k] = 126
        · rw [if_pos (by simp [h1]), if_pos (by simp; omega)]
          simp [esc1, h1, x32]
        · rw [if_neg (by simp [h1])]
          by_cases h2 : (ld t)[k] = 125
          · rw [if_pos (by simp [h2]), if_pos (by simp; omega)]
            simp [esc1, h2, x32]
          · rw [if_neg (by simp [h2]), if_pos (by simp; omega)]
            simp [esc1, h1, h2]
      · simp only [impl_Encode_b0]
        rw [if_neg (by simp)]
        simp
    rw [e]
    simp only [Option.bind_some]
    have hle := (escs_len (ld t)).2
    rw [if_pos (by simp; omega)]
    simp [encT, h]
  · rw [if_pos (by simp [h])]
    simp [encT, h]
theorem encode_eq' (t : STelegram) : spec_Encode t = some (encT t) := by
  unfold spec_Encode
  rw [telegramOk_eq']
  simp only [Option.bind_some]
  by_cases h : okT t
  · rw [if_neg (by simp [h])]
    have hb := h.2.2.2.2
    have e0 : loop (fun v => spec_Encode_b0 t v.1 v.2) ((0 : Int), [IntKind.u8.wrap t.fSeq, IntKind.u8.wrap t.fKind, IntKind.u8.wrap (t.fBody.length : Int)]) = some (head3 t) := by
      have := loop_up (b := fun v => spec_Encode_b0 t v.1 v.2) t.fBody.length (fun k => ((k : Int), [IntKind.u8.wrap t.fSeq, IntKind.u8.wrap t.fKind, IntKind.u8.wrap (t.fBody.length : Int)] ++ t.fBody.take k)) (head3 t) (fun k hk => ?_) ?_
      · simpa using this
      · simp only [spec_Encode_b0]
        rw [if_pos (by simpa using hk), if_pos (by omega), rd_get hk, w64 (by omega), take_snoc hk, if_pos (by simp; omega)]
        simp
      · simp only [spec_Encode_b0]
        rw [if_neg (by simp)]
        simp [head3]
    rw [e0]
    simp only [Option.bind_some]
    obtain ⟨c, hc⟩ := crc_some (head3 t) (by rw [head3_len]; omega)
    have hc' : spec_Crc8 (head3 t) = some c := hc
    rw [hc']
    simp only [Option.bind_some]
    have hl := head3_len t
    rw [if_pos (by simp [hl]; omega)]
    have hld : head3 t ++ [IntKind.u8.wrap c] = ld t := by simp [ld, hc]
    have hll := ld_len t
    have e : loop (fun v => spec_Encode_b2 (head3 t) c v.1 v.2) ((0 : Int), [(126 : Int)]) = some ([126] ++ escs (ld t)) := by
      have := loop_up (b := fun v => spec_Encode_b2 (head3 t) c v.1 v.2) (ld t).length (fun k => ((k : Int), [126] ++ escs ((ld t).take k))) ([126] ++ escs (ld t)) (fun k hk => ?_) ?_
      · simpa [escs] using this
      · have hle := (escs_len ((ld t).take k)).2
        simp only [List.length_take] at hle
        simp only [spec_Encode_b2, hld]
        rw [if_pos (by simpa using hk), if_pos (by omega), rd_get hk, w64 (by omega), take_snoc hk, escs_snoc]
        by_cases h2 : (ld t)[k] = 125
        · rw [if_pos (by simp [h2])]
          simp only [Option.bind_some, if_true]
          rw [if_pos (by omega), if_pos (by simp; omega)]
          simp [esc1, h2, x32]
        · rw [if_neg (by simp [h2]), if_pos (by omega)]
          simp only [Option.bind_some]
          by_cases h1 : (ld t)[k] = 126
          · rw [if_pos (by simp [h1]), if_pos (by omega), if_pos (by simp; omega)]
            simp [esc1, h1, x32]
          · rw [if_neg (by simp [h1]), if_pos (by omega), if_pos (by simp; omega)]
            simp [esc1, h1, h2]
      · simp only [spec_Encode_b2, hld]
        rw [if_neg (by simp)]
        simp
    rw [e]
    simp only [Option.bind_some]
    have hle := (escs_len (ld t)).2
    rw [if_pos (by simp; omega)]
    simp [encT, h]
  · rw [if_pos (by simp [h])]
    simp [encT, h]
end Go.V
namespace Go.V
open Go Go.RowKit

/-- What stands between two flags, with each pair made one again; z: what follows it. -/
def une (z : Option Int) : List Int → List Int
  | [] => []
  | [b] => if b = 125 then (match z with | some z => [x32 z] | none => [b]) else [b]
  | b :: c :: r => if b = 125 then x32 c :: une z r else b :: une z (c :: r)
theorem une_ne (z : Option Int) {b : Int} (h : b ≠ 125) (r : List Int) : une z (b :: r) = b :: une z r := by
  cases r with
  | nil => simp [une, h]
  | cons c r => simp [une, h]
theorem une_len (z : Option Int) : ∀ l : List Int, (une z l).length ≤ l.length
  | [] => by simp [une]
  | [b] => by simp only [une]; split <;> (try split) <;> simp
  | b :: c :: r => by
    have h1 := une_len z r
    have h2 := une_len z (c :: r)
    simp only [une]
    split <;> simp at h2 ⊢ <;> omega

theorem x32_nat (n : Nat) (h : n < 256) : x32 (x32 (n : Int)) = (n : Int) ∧ 0 ≤ x32 (n : Int) ∧ x32 (n : Int) ≤ 255 := by
  refine ⟨?_, w8_range _⟩
  have : ∀ m : _root_.Fin 256, x32 (x32 ((m.val : Nat) : Int)) = ((m.val : Nat) : Int) := by decide +kernel
  exact this ⟨n, h⟩
theorem x32_x32 {b : Int} (h : 0 ≤ b ∧ b ≤ 255) : x32 (x32 b) = b := by
  obtain ⟨n, rfl⟩ := Int.eq_ofNat_of_zero_le h.1
  exact (x32_nat n (by omega)).1
theorem une_escs (z : Option Int) (l : List Int) (h : ∀ b ∈ l, 0 ≤ b ∧ b ≤ 255) : une z (escs l) = l := by
  induction l with
  | nil => simp [escs, une]
  | cons b l ih =>
    have ih := ih fun c hc => h c (by simp [hc])
    have hb := h b (by simp)
    have e : escs (b :: l) = esc1 b ++ escs l := by simp [escs]
    rw [e]
    unfold esc1
    split
    · simp [une, ih, x32_x32 hb]
    · rename_i hn
      rw [List.singleton_append, une_ne z (by omega), ih]

theorem unescape_eq (p : List Int) (h : p.length ≤ 1048576) : impl_unescape p = some (une none p) := by
  unfold impl_unescape
  obtain ⟨r, hr, hq⟩ := loop_inv (b := fun v => impl_unescape_b0 p v.1 v.2) (fun n (s : Int × List Int) => ∃ k : Nat, k ≤ p.length ∧ n = p.length - k ∧ s.1 = k ∧ s.2 ++ une none (p.drop k) = une none p ∧ s.2.length ≤ k) (fun r => r = une none p) p.length (s := (0, [])) ⟨0, by omega, rfl, rfl, by simp, by simp⟩ (fun n s hs => by
    obtain ⟨i, out⟩ := s
    obtain ⟨k, hk, hn, hi, ho, hl⟩ := hs
    simp only at hi ho hl
    subst hi
    simp only [impl_unescape_b0]
    by_cases h8 : k < p.length
    · rw [if_pos (by simpa using h8), if_pos (by omega), rd_get h8, wsucc (by omega)]
      have hd : p.drop k = p[k] :: p.drop (k + 1) := List.drop_eq_getElem_cons h8
      by_cases h1 : p[k] = 125
      · rw [if_pos (by simp [h1])]
        simp only [Option.bind_some]
        by_cases h2 : k + 1 < p.length
        · rw [if_pos (by simp; omega), if_pos (by omega), rd_get h2, if_pos (by simp; omega)]
          have hd2 : p.drop (k + 1) = p[k + 1] :: p.drop (k + 2) := List.drop_eq_getElem_cons h2
          refine ⟨_, rfl, p.length - (k + 2), by omega, k + 2, by omega, rfl, wsucc (by omega), ?_, by simp; omega⟩
          rw [← ho, hd, hd2, h1]
          simp [une, x32]
        · rw [if_neg (by simp; omega), if_pos (by omega), if_pos (by simp; omega)]
          have hd2 : p.drop (k + 1) = [] := List.drop_of_length_le (by omega)
          refine ⟨_, rfl, p.length - (k + 1), by omega, k + 1, by omega, rfl, rfl, ?_, by simp; omega⟩
          rw [← ho, hd, hd2, h1]
          simp [une]
      · rw [if_neg (by simp [h1])]
        simp only [Option.bind_some]
        rw [if_neg (by simp), if_pos (by omega), if_pos (by simp; omega)]
        refine ⟨_, rfl, p.length - (k + 1), by omega, k + 1, by omega, rfl, rfl, ?_, by simp; omega⟩
        rw [← ho, hd, une_ne none h1]
        simp
    · rw [if_neg (by simpa using h8)]
      have hd : p.drop k = [] := List.drop_of_length_le (by omega)
      refine ⟨_, rfl, ?_⟩
      rw [hd] at ho
      simpa [une] using ho)
  rw [hr, hq]; rfl

/-- What lies between the first byte and the last. -/
def mid (d : List Int) : List Int := (d.drop 1).take (d.length - 1 - 1)
theorem mid_get {d : List Int} {k : Nat} (h : k + 2 < d.length) : (mid d)[k]'(by simp [mid]; omega) = d[k + 1] := by
  simp [mid, Nat.add_comm]
theorem specLoop_eq (d : List Int) (h : d.length ≤ 1048576) : loop (fun v => spec_Decode_b0 d v.1 v.2) ((1 : Int), ([] : List Int)) = some (une (d.getLast?) (mid d)) := by
  have hml : (mid d).length = d.length - 2 := by simp [mid]; omega
  obtain ⟨r, hr, hq⟩ := loop_inv (b := fun v => spec_Decode_b0 d v.1 v.2) (fun n (s : Int × List Int) => ∃ k : Nat, (k ≤ d.length - 2 ∧ s.2 ++ une d.getLast? ((mid d).drop k) = une d.getLast? (mid d) ∨ k = d.length - 1 ∧ s.2 = une d.getLast? (mid d)) ∧ n = d.length - k ∧ s.1 = (k : Int) + 1 ∧ s.2.length ≤ k) (fun r => r = une d.getLast? (mid d)) d.length (s := (1, [])) ⟨0, .inl ⟨by omega, by simp⟩, rfl, rfl, by simp⟩ (fun n s hs => by
    obtain ⟨i, out⟩ := s
    obtain ⟨k, hk, hn, hi, hl⟩ := hs
    simp only at hi hk hl
    subst hi
    simp only [spec_Decode_b0]
    rw [w64 (n := (d.length : Int) - 1) (by omega)]
    by_cases h8 : k + 2 < d.length
    · rcases hk with ⟨hk, ho⟩ | ⟨hk, _⟩
      · have hkm : k < (mid d).length := by omega
        have hg : rd d ((k : Int) + 1) = d[k + 1] := rd_get (k := k + 1) (by omega)
        have hdk : (mid d).drop k = d[k + 1] :: (mid d).drop (k + 1) := by rw [List.drop_eq_getElem_cons hkm, mid_get h8]
        have hw : IntKind.i64.wrap ((k : Int) + 1 + 1) = ((k + 1 : Nat) : Int) + 1 := by rw [w64 (by omega)]; rfl
        rw [if_pos (by simp; omega), if_pos (by omega), hg, hw]
        by_cases h1 : d[k + 1] = 125
        · have hg2 : rd d (((k + 1 : Nat) : Int) + 1) = d[k + 2] := rd_get (k := k + 2) (by omega)
          have hw2 : IntKind.i64.wrap (((k + 1 : Nat) : Int) + 1 + 1) = ((k + 2 : Nat) : Int) + 1 := by rw [w64 (by omega)]; rfl
          rw [if_pos (by simp [h1]), if_pos (by omega), hg2, if_pos (by simp; omega), hw2]
          by_cases h2 : k + 3 < d.length
          · have hdk2 : (mid d).drop (k + 1) = d[k + 2] :: (mid d).drop (k + 2) := by rw [List.drop_eq_getElem_cons (by omega), mid_get h2]
            refine ⟨_, rfl, d.length - (k + 2), by omega, k + 2, .inl ⟨by omega, ?_⟩, rfl, rfl, by simp; omega⟩
            rw [← ho, hdk, hdk2, h1]
            simp [une, x32]
          · have hdk2 : (mid d).drop (k + 1) = [] := List.drop_of_length_le (by omega)
            refine ⟨_, rfl, d.length - (k + 2), by omega, k + 2, .inr ⟨by omega, ?_⟩, rfl, rfl, by simp; omega⟩
            have hlast : d.getLast? = some d[k + 2] := by
              rw [List.getLast?_eq_getElem?]
              have : d.length - 1 = k + 2 := by omega
              rw [this]; simp
            rw [← ho, hdk, hdk2, h1, hlast]
            simp [une, x32]
        · rw [if_neg (by simp [h1]), if_pos (by omega), if_pos (by simp; omega)]
          refine ⟨_, rfl, d.length - (k + 1), by omega, k + 1, .inl ⟨by omega, ?_⟩, rfl, rfl, by simp; omega⟩
          rw [← ho, hdk, une_ne _ h1]
          simp
      · omega
    · rw [if_neg (by simp; omega)]
      refine ⟨_, rfl, ?_⟩
      rcases hk with ⟨hk, ho⟩ | ⟨_, ho⟩
      · have hdk : (mid d).drop k = [] := List.drop_of_length_le (by omega)
        rw [hdk] at ho
        simpa [une] using ho
      · exact ho)
  rw [hr, hq]
theorem specCopy_eq (l : List Int) (h : l.length ≤ 1048576) (h4 : 4 ≤ l.length) : loop (fun v => spec_Decode_b2 l v.1 v.2) ((3 : Int), ([] : List Int)) = some ((l.drop 3).take (l.length - 1 - 3)) := by
  have := loop_up (b := fun v => spec_Decode_b2 l v.1 v.2) (l.length - 1 - 3) (fun k => ((k : Int) + 3, ((l.drop 3).take (l.length - 1 - 3)).take k)) ((l.drop 3).take (l.length - 1 - 3)) (fun k hk => ?_) ?_
  · simpa using this
  · simp only [spec_Decode_b2]
    have hg : rd l ((k : Int) + 3) = l[k + 3] := rd_get (k := k + 3) (by omega)
    have hlen : ((l.drop 3).take (l.length - 1 - 3)).length = l.length - 1 - 3 := by simp; omega
    rw [w64 (n := (l.length : Int) - 1) (by omega), if_pos (by simp; omega), if_pos (by omega), hg, if_pos (by simp; omega), take_snoc (by omega), w64 (by omega)]
    simp [Nat.add_comm]
    omega
  · simp only [spec_Decode_b2]
    rw [w64 (n := (l.length : Int) - 1) (by omega), if_neg (by simp; omega)]
    simp [List.take_take]
end Go.V
namespace Go.V
open Go Go.RowKit
def zt : STelegram := ⟨0, 0, []⟩
def tW (l : List Int) : STelegram := ⟨IntKind.i64.wrap (rd l 0), IntKind.i64.wrap (rd l 1), (l.drop 3).take (l.length - 1 - 3)⟩
/-- What a decoding of l, out of d, answers. -/
noncomputable def ans (l d : List Int) : STelegram × Bool := if l.length < 4 then (zt, false) else if okT (tW l) ∧ encT (tW l) = d then (tW l, true) else (zt, false)

theorem mem_mid {d : List Int} {b : Int} (h : b ∈ mid d) : b ∈ d := List.mem_of_mem_drop (List.mem_of_mem_take h)
theorem une_range {z : Option Int} {P : Int → Prop} (hx : ∀ b, P (x32 b)) : ∀ {l : List Int}, (∀ b ∈ l, P b) → ∀ b ∈ une z l, P b
  | [], _, b, hb => by simp [une] at hb
  | [a], h, b, hb => by
    simp only [une] at hb
    split at hb
    · split at hb
      · simp at hb; subst hb; exact hx _
      · simp at hb; subst hb; exact h _ (by simp)
    · simp at hb; subst hb; exact h _ (by simp)
  | a :: c :: r, h, b, hb => by
    simp only [une] at hb
    split at hb
    · rcases List.mem_cons.1 hb with rfl | hb
      · exact hx _
      · exact une_range hx (fun b hb => h b (by simp [hb])) b hb
    · rcases List.mem_cons.1 hb with rfl | hb
      · exact h _ (by simp)
      · exact une_range hx (fun b hb => h b (by simp only [List.mem_cons] at hb ⊢; exact .inr hb)) b hb

theorem encT_range {t : STelegram} (hb : ∀ b ∈ t.fBody, 0 ≤ b ∧ b ≤ 255) : (∀ b ∈ ld t, 0 ≤ b ∧ b ≤ 255) ∧ ∀ b ∈ encT t, 0 ≤ b ∧ b ≤ 255 := by
  have h1 : ∀ b ∈ ld t, 0 ≤ b ∧ b ≤ 255 := by
    intro b h
    simp only [ld, head3, List.mem_append, List.mem_cons, List.not_mem_nil, or_false] at h
    rcases h with ((rfl | rfl | rfl) | h) | rfl
    · exact w8_range _
    · exact w8_range _
    · exact w8_range _
    · exact hb b h
    · exact w8_range _
  refine ⟨h1, fun b h => ?_⟩
  unfold encT at h
  split at h
  · simp only [escs, List.mem_append, List.mem_cons, List.not_mem_nil, or_false, List.mem_flatMap] at h
    rcases h with (rfl | ⟨c, hc, hb⟩) | rfl
    · omega
    · unfold esc1 at hb
      split at hb
      · simp at hb
        rcases hb with rfl | rfl
        · omega
        · exact w8_range _
      · simp at hb; subst hb; exact h1 _ hc
    · omega
  · simp at h

theorem unb_inj : ∀ {a b : List Int}, (∀ x ∈ a, 0 ≤ x ∧ x ≤ 255) → (∀ x ∈ b, 0 ≤ x ∧ x ≤ 255) → unb a = unb b → a = b
  | [], [], _, _, _ => rfl
  | [], _ :: _, _, _, h => by simp [unb] at h
  | _ :: _, [], _, _, h => by simp [unb] at h
  | x :: a, y :: b, ha, hb, h => by
    simp only [unb, List.map_cons, List.cons.injEq] at h
    have h1 := ha x (by simp)
    have h2 := hb y (by simp)
    have h3 := congrArg UInt8.toNat h.1
    simp only [UInt8.toNat_ofNat'] at h3
    have e : x = y := by omega
    subst e
    congr 1
    exact unb_inj (fun z hz => ha z (by simp [hz])) (fun z hz => hb z (by simp [hz])) h.2

theorem ld_back {t : STelegram} (ht : okT t) : 4 ≤ (ld t).length ∧ tW (ld t) = t := by
  have hl := ld_len t
  refine ⟨by omega, ?_⟩
  obtain ⟨h1, h2, h3, h4, h5⟩ := ht
  unfold tW
  have e0 : rd (ld t) 0 = t.fSeq := by
    have : rd (ld t) ((0 : Nat) : Int) = (ld t)[0]'(by omega) := rd_get (by omega)
    simp only [Int.natCast_zero] at this
    rw [this]
    simp [ld, head3]
    exact w8 ⟨h1, h2⟩
  have e1 : rd (ld t) 1 = t.fKind := by
    have : rd (ld t) ((1 : Nat) : Int) = (ld t)[1]'(by omega) := rd_get (by omega)
    simp only [Int.natCast_one] at this
    rw [this]
    simp [ld, head3]
    exact w8 ⟨h3, by omega⟩
  rw [e0, e1, w64 (by omega), w64 (by omega), hl]
  have e2 : ((ld t).drop 3).take (4 + t.fBody.length - 1 - 3) = t.fBody := by
    have : 4 + t.fBody.length - 1 - 3 = t.fBody.length := by omega
    rw [this]
    simp [ld, head3]
  rw [e2]

/-- Whatever follows the last byte: the answer is the same. -/
theorem ans_une (d : List Int) (z z' : Option Int) (hd : ∀ b ∈ d, 0 ≤ b ∧ b ≤ 255) : ans (une z (mid d)) d = ans (une z' (mid d)) d := by
  have key : ∀ z : Option Int, (∃ t, okT t ∧ encT t = d ∧ (∀ b ∈ t.fBody, 0 ≤ b ∧ b ≤ 255) ∧ ans (une z (mid d)) d = (t, true)) ∨ (¬ ∃ t, okT t ∧ encT t = d ∧ ∀ b ∈ t.fBody, 0 ≤ b ∧ b ≤ 255) ∧ ans (une z (mid d)) d = (zt, false) := by
    intro z
    by_cases hx : ∃ t, okT t ∧ encT t = d ∧ ∀ b ∈ t.fBody, 0 ≤ b ∧ b ≤ 255
    · obtain ⟨t, h1, h2, h3⟩ := hx
      refine .inl ⟨t, h1, h2, h3, ?_⟩
      have hm : mid d = escs (ld t) := by
        rw [← h2]
        simp [mid, encT, h1]
      obtain ⟨h4, h5⟩ := ld_back h1
      rw [hm, une_escs z _ (encT_range h3).1]
      unfold ans
      rw [if_neg (by omega), h5, if_pos ⟨h1, h2⟩]
    · refine .inr ⟨hx, ?_⟩
      unfold ans
      split
      · rfl
      · split
        · rename_i h
          refine absurd ⟨_, h.1, h.2, ?_⟩ hx
          intro b hb
          have hb' : b ∈ une z (mid d) := List.mem_of_mem_drop (List.mem_of_mem_take hb)
          exact une_range (P := fun b => 0 ≤ b ∧ b ≤ 255) (fun b => w8_range _) (fun b hb => hd b (mem_mid hb)) b hb'
        · rfl
  rcases key z with ⟨t, h1, h2, h3, h4⟩ | ⟨h1, h2⟩ <;> rcases key z' with ⟨t', h1', h2', h3', h4'⟩ | ⟨h1', h2'⟩
  · have e1 := (ld_back h1).2
    have e2 := (ld_back h1').2
    have hm : mid d = escs (ld t) := by rw [← h2]; simp [mid, encT, h1]
    have hm' : mid d = escs (ld t') := by rw [← h2']; simp [mid, encT, h1']
    have e3 := une_escs none _ (encT_range h3).1
    have e4 := une_escs none _ (encT_range h3').1
    rw [← hm] at e3
    rw [← hm'] at e4
    have : t = t' := by rw [← e1, ← e2, ← e3, ← e4]
    rw [h4, h4', this]
  · exact absurd ⟨t, h1, h2, h3⟩ h1'
  · exact absurd ⟨t', h1', h2', h3'⟩ h1
  · rw [h2, h2']

theorem l20Same_eq (a b : List Int) (h : a.length ≤ 9223372036854775806) : spec_l20Same a b = some (decide (a = b)) := eqByteS_eq a b h

theorem encT_len {t : STelegram} : (encT t).length ≤ 130 ∧ (okT t → 6 ≤ (encT t).length) := by
  unfold encT
  split
  · rename_i h
    have h1 := escs_len (ld t)
    have h2 := ld_len t
    have h3 := h.2.2.2.2
    constructor
    · simp; omega
    · intro _; simp; omega
  · exact ⟨by simp, fun h => absurd h (by assumption)⟩

theorem specDecode_eq (d : List Int) : spec_Decode d = some (if 140 < d.length then (zt, false) else ans (une d.getLast? (mid d)) d) := by
  unfold spec_Decode
  by_cases h : 140 < d.length
  · rw [if_pos (by simp; omega), if_pos h]; rfl
  · rw [if_neg (by simp; omega), if_neg h, specLoop_eq d (by omega)]
    simp only [Option.bind_some]
    have hl := une_len d.getLast? (mid d)
    have hml : (mid d).length ≤ 140 := by simp [mid]; omega
    generalize une d.getLast? (mid d) = l at hl
    unfold ans
    by_cases h4 : l.length < 4
    · rw [if_pos (by simp; omega), if_pos h4]; rfl
    · rw [if_neg (by simp; omega), if_neg h4, if_pos (by omega), if_pos (by omega), specCopy_eq l (by omega) (by omega)]
      simp only [Option.bind_some]
      have e : (STelegram.mk (IntKind.i64.wrap (rd l 0)) (IntKind.i64.wrap (rd l 1)) ((l.drop 3).take (l.length - 1 - 3))) = tW l := rfl
      rw [e, telegramOk_eq']
      simp only [Option.bind_some]
      by_cases hk : okT (tW l)
      · rw [if_neg (by simp [hk]), encode_eq']
        simp only [Option.bind_some]
        rw [l20Same_eq _ _ (by have := (encT_len (t := tW l)).1; omega)]
        simp only [Option.bind_some]
        by_cases he : encT (tW l) = d
        · rw [if_neg (by simp [he]), if_pos ⟨hk, he⟩]
        · rw [if_pos (by simp [he]), if_neg (by simp [he])]; rfl
      · rw [if_pos (by simp [hk]), if_neg (by simp [hk])]; rfl

theorem implDecode_eq (d : List Int) (hd : ∀ b ∈ d, 0 ≤ b ∧ b ≤ 255) (hlen : d.length ≤ 1048576) : impl_Decode d = some (if d.length < 6 ∨ 130 < d.length then (zt, false) else ans (une none (mid d)) d) := by
  unfold impl_Decode
  by_cases h : d.length < 6 ∨ 130 < d.length
  · rw [if_pos h]
    by_cases h6 : d.length < 6
    · rw [if_pos (by simp; omega)]; rfl
    · rw [if_neg (by simp; omega)]
      simp only [Option.bind_some]
      rw [if_pos (by simp; omega)]; rfl
  · rw [if_neg h, if_neg (by simp; omega)]
    simp only [Option.bind_some]
    rw [if_neg (by simp; omega), w64 (n := (d.length : Int) - 1) (by omega), if_pos (by omega)]
    have em : (d.drop (1 : Int).toNat).take (((d.length : Int) - 1).toNat - (1 : Int).toNat) = mid d := by
      unfold mid
      have : ((d.length : Int) - 1).toNat - (1 : Int).toNat = d.length - 1 - 1 := by omega
      rw [this]; rfl
    have hml : (mid d).length ≤ 140 := by simp [mid]; omega
    rw [em, unescape_eq _ (by omega)]
    simp only [Option.bind_some]
    have hl := une_len none (mid d)
    have hr : ∀ b ∈ une none (mid d), 0 ≤ b ∧ b ≤ 255 := une_range (P := fun b => 0 ≤ b ∧ b ≤ 255) (fun b => w8_range _) (fun b hb => hd b (mem_mid hb))
    generalize une none (mid d) = l at hl hr
    unfold ans
    by_cases h4 : l.length < 4
    · rw [if_pos (by simp; omega), if_pos h4]; rfl
    · rw [if_neg (by simp; omega), if_neg h4, if_pos (by omega), if_pos (by omega), w64 (n := (l.length : Int) - 1) (by omega), if_pos (by omega)]
      have eb : (l.drop (3 : Int).toNat).take (((l.length : Int) - 1).toNat - (3 : Int).toNat) = (l.drop 3).take (l.length - 1 - 3) := by
        have : ((l.length : Int) - 1).toNat - (3 : Int).toNat = l.length - 1 - 3 := by omega
        rw [this]; rfl
      simp only [eb, List.nil_append]
      rw [if_pos (by simp; omega)]
      have e : (STelegram.mk (IntKind.i64.wrap (rd l 0)) (IntKind.i64.wrap (rd l 1)) ((l.drop 3).take (l.length - 1 - 3))) = tW l := rfl
      rw [e, telegramOk_eq]
      simp only [Option.bind_some]
      by_cases hk : okT (tW l)
      · rw [if_neg (by simp [hk]), encode_eq]
        simp only [Option.bind_some]
        have hbr : ∀ b ∈ (tW l).fBody, 0 ≤ b ∧ b ≤ 255 := fun b hb => hr b (List.mem_of_mem_drop (List.mem_of_mem_take hb))
        have he' : (unb (encT (tW l)) == unb d) = decide (encT (tW l) = d) := by
          by_cases he : encT (tW l) = d
          · simp [he]
          · have : unb (encT (tW l)) ≠ unb d := fun hu => he (unb_inj (encT_range hbr).2 hd hu)
            simp [he, this]
        unfold bytes_Equal
        simp only [Option.bind_some, he']
        by_cases he : encT (tW l) = d
        · rw [if_neg (by simp [he]), if_pos ⟨hk, he⟩]
        · rw [if_pos (by simp [he]), if_neg (by simp [he])]; rfl
      · rw [if_pos (by simp [hk]), if_neg (by simp [hk])]; rfl

theorem ans_out (l d : List Int) (h : d.length < 6 ∨ 130 < d.length) : ans l d = (zt, false) := by
  unfold ans
  split
  · rfl
  · split
    · rename_i hx
      have h1 := encT_len (t := tW l)
      have h2 := h1.2 hx.1
      rw [hx.2] at h1 h2
      omega
    · rfl
/-- Both decode alike. -/
theorem decode_eq (d : List Int) (hd : ∀ b ∈ d, 0 ≤ b ∧ b ≤ 255) (hlen : d.length ≤ 1048576) : ∃ r, spec_Decode d = some r ∧ impl_Decode d = some r ∧ r.1.fBody.length ≤ 1048576 := by
  have hb : ∀ l : List Int, (ans l d).1.fBody.length ≤ 1048576 := by
    intro l
    unfold ans
    split
    · simp [zt]
    · split
      · rename_i h; have := h.1.2.2.2.2; simp only; omega
      · simp [zt]
  rw [specDecode_eq d, implDecode_eq d hd hlen]
  refine ⟨_, rfl, ?_, ?_⟩
  · by_cases h1 : d.length < 6 ∨ 130 < d.length
    · rw [if_pos h1]
      split
      · rfl
      · rw [ans_out _ _ h1]
    · rw [if_neg h1, if_neg (by omega), ans_une d none d.getLast? hd]
  · split
    · simp [zt]
    · exact hb _
end Go.V
namespace Go.V
open Go Go.RowKit
theorem pure_FnExactDecode (a0 : (List Int)) (h : (a0.length ≤ 9223372036854775807 ∧ ∀ y ∈ a0, (Lit.int .u8 y).wf = true)) : laws_FnExactDecode a0 = some true := by
  unfold laws_FnExactDecode
  by_cases hl : 1048576 < a0.length
  · rw [if_pos (by simp; omega)]
  · rw [if_neg (by simp; omega)]
    have hl : a0.length ≤ 1048576 := by omega
    obtain ⟨⟨t, f⟩, h1, h2, h3⟩ := decode_eq a0 (fun b hb => wf8.1 (h.2 b hb)) hl
    simp only at h3
    have hm := markByteS_eq t.fBody 1 h3 (by omega)
    have e1 : laws_markTelegram t 1 = some (STelegram.mk t.fSeq t.fKind (marks8 t.fBody.length 1), (1 : Int) + (t.fBody.length : Int)) := by
      unfold laws_markTelegram
      rw [hm]; rfl
    have e2 : laws_heldTelegram (STelegram.mk t.fSeq t.fKind (marks8 t.fBody.length 1)) 1 = some ((1 : Int) + (t.fBody.length : Int)) := by
      unfold laws_heldTelegram
      simp only
      rw [heldByteS_eq _ _ h3 (by omega)]
      simp only [Option.bind_some]
      rw [if_neg (by simp; omega)]
    rw [toByteS_eq a0 hl]
    simp only [Option.bind_some, h1, h2, eqTelegram_eq t t h3, decide_true, Bool.not_true, Bool.false_eq_true, if_false, beq_self_eq_true, eqByteS_eq a0 a0 (by omega), markByteS_eq a0 1 hl (by omega), e1, e2]
    rw [if_neg (by simp; omega)]
    simp only [Option.bind_some, Bool.false_eq_true, if_false, decide_true, Bool.not_true]
    rw [if_neg (by simp; omega), if_neg (by simp; omega)]
end Go.V
