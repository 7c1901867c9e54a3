/- Part 4 of a proof of FnExactDecode: the machine of values and its rules, contracts of functions and plain laws. -/
import Derived.Test.YtbkepbngdcakaaaDecodeq2
set_option linter.unusedSimpArgs false
set_option linter.unusedVariables false
set_option linter.unusedSimpArgs false
set_option linter.unusedVariables false
namespace Go.V
open Go Go.RowKit Go.Proofs
set_option maxHeartbeats 4000000 in
set_option maxRecDepth 100000 in
theorem spec_Decode_ok {a0 : (List Int)} {r : (STelegram × Bool)} (h0 : spec_Decode a0 = some r) :
    OkA Try.prog 20 [.v (.sl none (a0.map eIu8))] [.a ([.int .i64 r.1.fSeq, .int .i64 r.1.fKind, .sl (some (5, 1)) (r.1.fBody.map eIu8)]), .c (.bool r.2)] false := by
  unfold spec_Decode at h0
  refine okA_of (n := 83) (rvs := [.cell 2 24, .tmp 3]) Try.func20 rfl rfl rfl (by simp) ?_
  simp only [slots, slotsM, widths, List.map_cons, List.sum_cons, List.sum_nil, Nat.reduceAdd, List.length_cons, List.length_nil, RT.width, unRs, unR, unCs, unC, putsO, putO, Cell.ro, List.map_cons, List.map_nil, List.nil_append, List.append_nil, List.cons_append]
  refine go_seq ?_
  refine go_region fun K hK => ?_
  try simp (config := { maxSteps := 4000000 }) only [push_cast, reduceIte, reduceCtorEq, Nat.reduceAdd, Nat.reduceSub, Nat.reduceMul, Nat.reduceEqDiff, Nat.reduceLT, Nat.reduceLeDiff]
  refine hK _ _ ?_
  clear hK K
  refine go_wk (k' := 1) (τ := mk 83 0 [(0, .c (.lst (a0.map eIu8))), (2, .c (.ptr 0 0))] (nums 0 [.box [.int .i64 (0 : Int), .int .i64 (0 : Int), .nil]])) ?_ ?_
  ·
    refine wk_mk [some 0] rfl ?_ ?_ ?_ ?_ ?_
    · exact (fun i h => absurd h (by omega))
    · exact (.cons _ _ _ (sv_lst (by first | rfl | (simp only [push_cast, List.map_append, List.map_set, List.map_replicate]; done) | (simp only [push_cast, List.map_append, List.map_set, List.map_replicate]; rfl))) (.cons _ _ _ (sv_ptr rfl) .nil))
    · exact (.cons (.box _ _ _ rfl (.cons (sc_int (by first | rfl | (simp only [push_cast, List.map_append, List.map_set, List.map_replicate]; done) | (simp only [push_cast, List.map_append, List.map_set, List.map_replicate]; rfl))) (.cons (sc_int (by first | rfl | (simp only [push_cast, List.map_append, List.map_set, List.map_replicate]; done) | (simp only [push_cast, List.map_append, List.map_set, List.map_replicate]; rfl))) (.cons .nil .nil)))) .nil)
    · exact by decide
    · exact by decide
  refine go_seq ?_
  refine go_seq ?_
  refine go_region fun K hK => ?_
  try simp (config := { maxSteps := 4000000 }) only [push_cast, reduceIte, reduceCtorEq, Nat.reduceAdd, Nat.reduceSub, Nat.reduceMul, Nat.reduceEqDiff, Nat.reduceLT, Nat.reduceLeDiff]
  refine hK _ _ ?_
  clear hK K
  refine go_cond _ rfl (fun h10 => ?_) (fun h10 => ?_)
  · replace h0 := (bif_t h10).symm.trans h0
    refine go_seq ?_
    refine go_region fun K hK => ?_
    try simp (config := { maxSteps := 4000000 }) only [push_cast, reduceIte, reduceCtorEq, Nat.reduceAdd, Nat.reduceSub, Nat.reduceMul, Nat.reduceEqDiff, Nat.reduceLT, Nat.reduceLeDiff]
    repeat (refine And.intro ?_ ?_; · ((repeat' apply And.intro) <;> first | assumption | omega | kernel_rfl | decide | (simp; done) | (simp only [List.length_cons, List.length_nil, List.length_append, List.length_map, List.length_set, List.length_replicate, List.length_take, List.length_drop] at *; omega)))
    refine hK _ _ ?_
    clear hK K
    refine go_wk (k' := 1) (τ := mk 83 0 [(2, .c (.ptr 0 0)), (3, .c (.bool false))] (nums 0 [.box [.int .i64 (0 : Int), .int .i64 (0 : Int), .nil]])) ?_ ?_
    ·
      refine wk_mk [some 0] rfl ?_ ?_ ?_ ?_ ?_
      · exact (fun i h => absurd h (by omega))
      · exact (.cons _ _ _ (sv_ptr rfl) (.cons _ _ _ (sv_bool (by first | rfl | (simp only [push_cast, List.map_append, List.map_set, List.map_replicate]; done) | (simp only [push_cast, List.map_append, List.map_set, List.map_replicate]; rfl))) .nil))
      · exact (.cons (.box _ _ _ rfl (.cons (sc_int (by first | rfl | (simp only [push_cast, List.map_append, List.map_set, List.map_replicate]; done) | (simp only [push_cast, List.map_append, List.map_set, List.map_replicate]; rfl))) (.cons (sc_int (by first | rfl | (simp only [push_cast, List.map_append, List.map_set, List.map_replicate]; done) | (simp only [push_cast, List.map_append, List.map_set, List.map_replicate]; rfl))) (.cons .nil .nil)))) .nil)
      · exact by decide
      · exact by decide
    refine go_ret ?_
    refine go_out_ret ?_
    cases h0
    refine go_end_ret ?_
    exact ⟨_, [], (by simp only [List.mapM_cons, List.mapM_nil, resv, push_cast, List.map_append, List.map_set, List.map_replicate]; rfl), (.cons (.a (.cons (.int _ _) (.cons (.int _ _) (.cons (.nilOwn _ _ (by decide)) .nil)))) (.cons (.c (.bool _)) .nil)), by decide, .inr (by simp only [RT.cells, List.mem_cons, List.mem_singleton, List.not_mem_nil, or_false, forall_eq, forall_eq_or_imp, allOwn_int, allOwn_bool, allOwn_str, allOwn_none, eIu8_ao, eTelegram_ao, eIi64_ao, eShunt_ao, eLIi64_ao, eSidings_ao, eNeed_ao, eRoute_ao, ePlant_ao, eLockOp_ao, eB_ao, eLocking_ao, eTask_ao, eRule_ao, eEdge_ao, eCall_ao, eTrip_ao, eBooking_ao, eNet_ao, eTrain_ao, eDesk_ao, eUse_ao, eRun_ao, eT_ao, o120Trip_ao, o33LIi64_ao, implies_true, and_true, false_implies, List.map_eq_nil_iff, and_self])⟩
  · replace h0 := (bif_f h10).symm.trans h0
    refine go_skip ?_
    refine go_seq ?_
    refine go_region fun K hK => ?_
    try simp (config := { maxSteps := 4000000 }) only [push_cast, reduceIte, reduceCtorEq, Nat.reduceAdd, Nat.reduceSub, Nat.reduceMul, Nat.reduceEqDiff, Nat.reduceLT, Nat.reduceLeDiff]
    repeat (refine And.intro ?_ ?_; · ((repeat' apply And.intro) <;> first | assumption | omega | kernel_rfl | decide | (simp; done) | (simp only [List.length_cons, List.length_nil, List.length_append, List.length_map, List.length_set, List.length_replicate, List.length_take, List.length_drop] at *; omega)))
    refine hK _ _ ?_
    clear hK K
    refine go_wk (k' := 2) (τ := mk 83 0 [(0, .c (.lst (a0.map eIu8))), (2, .c (.ptr 0 0)), (4, .c (.own 1))] (nums 0 [.box [.int .i64 (0 : Int), .int .i64 (0 : Int), .nil], .row 5 1 (([] : List Int).map eIu8)])) ?_ ?_
    ·
      refine wk_mk [some 0, some 97] rfl ?_ ?_ ?_ ?_ ?_
      · exact (fun i h => absurd h (by omega))
      · exact (.cons _ _ _ (sv_lst (by first | rfl | (simp only [push_cast, List.map_append, List.map_set, List.map_replicate]; done) | (simp only [push_cast, List.map_append, List.map_set, List.map_replicate]; rfl))) (.cons _ _ _ (sv_ptr rfl) (.cons _ _ _ (sv_own rfl) .nil)))
      · exact (.cons (.box _ _ _ rfl (.cons (sc_int (by first | rfl | (simp only [push_cast, List.map_append, List.map_set, List.map_replicate]; done) | (simp only [push_cast, List.map_append, List.map_set, List.map_replicate]; rfl))) (.cons (sc_int (by first | rfl | (simp only [push_cast, List.map_append, List.map_set, List.map_replicate]; done) | (simp only [push_cast, List.map_append, List.map_set, List.map_replicate]; rfl))) (.cons .nil .nil)))) (.cons (so_row rfl (by first | rfl | (simp only [push_cast, List.map_append, List.map_set, List.map_replicate]; done) | (simp only [push_cast, List.map_append, List.map_set, List.map_replicate]; rfl))) .nil))
      · exact by decide
      · exact by decide
    refine go_seq ?_
    refine go_seq ?_
    refine go_region fun K hK => ?_
    try simp (config := { maxSteps := 4000000 }) only [push_cast, reduceIte, reduceCtorEq, Nat.reduceAdd, Nat.reduceSub, Nat.reduceMul, Nat.reduceEqDiff, Nat.reduceLT, Nat.reduceLeDiff]
    refine hK _ _ ?_
    clear hK K
    obtain ⟨o11, h12, h0⟩ := bind_some' h0
    obtain ⟨m13, h14⟩ := loop_runs h12
    clear h12
    refine go_cut (fun k σ => ∃ x3 : (List Int), o11 = x3 ∧ Wk k σ 2 (mk 83 0 [(0, .c (.lst (a0.map eIu8))), (2, .c (.ptr 0 0)), (4, .c (.own 1))] (nums 0 [.box [.int .i64 (0 : Int), .int .i64 (0 : Int), .nil], .row 5 1 (x3.map eIu8)]))) ?_ ?_
    ·
      refine go_block (go_loop (fun n k σ => ∃ x1 : Int, ∃ x2 : (List Int), Runs (fun v => spec_Decode_b0 a0 v.1 v.2) n (x1, x2) o11 ∧ Wk k σ 2 (mk 83 0 [(0, .c (.lst (a0.map eIu8))), (2, .c (.ptr 0 0)), (4, .c (.own 1)), (5, .c (.int .i64 x1))] (nums 0 [.box [.int .i64 (0 : Int), .int .i64 (0 : Int), .nil], .row 5 1 (x2.map eIu8)]))) m13 ⟨(1 : Int), ([] : List Int), h14, ?_⟩ ?_)
      ·
        refine wk_mk [some 0, some 1] rfl ?_ ?_ ?_ ?_ ?_
        · exact (fun i h => absurd h (by omega))
        · exact (.cons _ _ _ (sv_lst (by first | rfl | (simp only [push_cast, List.map_append, List.map_set, List.map_replicate]; done) | (simp only [push_cast, List.map_append, List.map_set, List.map_replicate]; rfl))) (.cons _ _ _ (sv_ptr rfl) (.cons _ _ _ (sv_own rfl) (.cons _ _ _ (sv_int (by first | rfl | (simp only [push_cast, List.map_append, List.map_set, List.map_replicate]; done) | (simp only [push_cast, List.map_append, List.map_set, List.map_replicate]; rfl))) .nil))))
        · exact (.cons (.box _ _ _ rfl (.cons (sc_int (by first | rfl | (simp only [push_cast, List.map_append, List.map_set, List.map_replicate]; done) | (simp only [push_cast, List.map_append, List.map_set, List.map_replicate]; rfl))) (.cons (sc_int (by first | rfl | (simp only [push_cast, List.map_append, List.map_set, List.map_replicate]; done) | (simp only [push_cast, List.map_append, List.map_set, List.map_replicate]; rfl))) (.cons .nil .nil)))) (.cons (so_row rfl (by first | rfl | (simp only [push_cast, List.map_append, List.map_set, List.map_replicate]; done) | (simp only [push_cast, List.map_append, List.map_set, List.map_replicate]; rfl))) .nil))
        · exact by decide
        · exact by decide
      clear h14
      rintro n15 k16 s17 ⟨x1, x2, h18, h19⟩
      refine go_wk h19 ?_
      obtain ⟨y20, h21, h22⟩ := h18.next
      clear h19 h18
      replace h21 : spec_Decode_b0 a0 x1 x2 = some y20 := h21
      unfold spec_Decode_b0 at h21
      refine go_seq ?_
      refine go_seq ?_
      refine go_region fun K hK => ?_
      try simp (config := { maxSteps := 4000000 }) only [push_cast, reduceIte, reduceCtorEq, Nat.reduceAdd, Nat.reduceSub, Nat.reduceMul, Nat.reduceEqDiff, Nat.reduceLT, Nat.reduceLeDiff]
      refine hK _ _ ?_
      clear hK K
      refine go_cond _ rfl (fun h23 => ?_) (fun h23 => ?_)
      · replace h21 := (bif_t h23).symm.trans h21
        refine go_skip ?_
        refine go_seq ?_
        refine go_block ?_
        refine go_seq ?_
        refine go_region fun K hK => ?_
        obtain ⟨h24, h21⟩ := ite_some' h21
        try simp (config := { maxSteps := 4000000 }) only [push_cast, reduceIte, reduceCtorEq, Nat.reduceAdd, Nat.reduceSub, Nat.reduceMul, Nat.reduceEqDiff, Nat.reduceLT, Nat.reduceLeDiff, rd_some h24]
        repeat (refine And.intro ?_ ?_; · ((repeat' apply And.intro) <;> first | assumption | omega | kernel_rfl | decide | (simp; done) | (simp only [List.length_cons, List.length_nil, List.length_append, List.length_map, List.length_set, List.length_replicate, List.length_take, List.length_drop] at *; omega)))
        refine hK _ _ ?_
        clear hK K
        refine go_cond _ rfl (fun h25 => ?_) (fun h25 => ?_)
        · replace h21 := (bif_t h25).symm.trans h21
          refine go_seq ?_
          refine go_region fun K hK => ?_
          try simp (config := { maxSteps := 4000000 }) only [push_cast, reduceIte, reduceCtorEq, Nat.reduceAdd, Nat.reduceSub, Nat.reduceMul, Nat.reduceEqDiff, Nat.reduceLT, Nat.reduceLeDiff]
          refine hK _ _ ?_
          clear hK K
          refine go_region fun K hK => ?_
          obtain ⟨h26, h21⟩ := ite_some' h21
          obtain ⟨h27, h21⟩ := ite_some' h21
          try simp (config := { maxSteps := 4000000 }) only [push_cast, reduceIte, reduceCtorEq, Nat.reduceAdd, Nat.reduceSub, Nat.reduceMul, Nat.reduceEqDiff, Nat.reduceLT, Nat.reduceLeDiff, rd_some h26]
          repeat (refine And.intro ?_ ?_; · ((repeat' apply And.intro) <;> first | assumption | omega | kernel_rfl | decide | (simp; done) | (simp only [List.length_cons, List.length_nil, List.length_append, List.length_map, List.length_set, List.length_replicate, List.length_take, List.length_drop] at *; omega)))
          refine hK _ _ ?_
          clear hK K
          refine go_blk 1 ?_
          refine go_region fun K hK => ?_
          try simp (config := { maxSteps := 4000000 }) only [push_cast, reduceIte, reduceCtorEq, Nat.reduceAdd, Nat.reduceSub, Nat.reduceMul, Nat.reduceEqDiff, Nat.reduceLT, Nat.reduceLeDiff]
          refine hK _ _ ?_
          clear hK K
          have e28 := Option.some.inj h21
          rw [← e28] at h22
          obtain ⟨m29, h30, h31⟩ := h22
          refine go_lp ⟨m29, h30, (IntKind.i64.wrap ((IntKind.i64.wrap (x1 + (1 : Int))) + (1 : Int))), (x2 ++ [(IntKind.u8.wrap (((BitVec.ofInt IntKind.u8.bits (rd a0 (IntKind.i64.wrap (x1 + (1 : Int)))) ^^^ BitVec.ofInt IntKind.u8.bits (32 : Int)).toNat : Int)))]), h31, ?_⟩
          refine wk_mk [some 0, some 642] rfl ?_ ?_ ?_ ?_ ?_
          · exact (fun i h => absurd h (by omega))
          · exact (.cons _ _ _ (sv_lst (by first | rfl | (simp only [push_cast, List.map_append, List.map_set, List.map_replicate]; done) | (simp only [push_cast, List.map_append, List.map_set, List.map_replicate]; rfl))) (.cons _ _ _ (sv_ptr rfl) (.cons _ _ _ (sv_own rfl) (.cons _ _ _ (sv_int (by first | rfl | (simp only [push_cast, List.map_append, List.map_set, List.map_replicate]; done) | (simp only [push_cast, List.map_append, List.map_set, List.map_replicate]; rfl))) .nil))))
          · exact (.cons (.box _ _ _ rfl (.cons (sc_int (by first | rfl | (simp only [push_cast, List.map_append, List.map_set, List.map_replicate]; done) | (simp only [push_cast, List.map_append, List.map_set, List.map_replicate]; rfl))) (.cons (sc_int (by first | rfl | (simp only [push_cast, List.map_append, List.map_set, List.map_replicate]; done) | (simp only [push_cast, List.map_append, List.map_set, List.map_replicate]; rfl))) (.cons .nil .nil)))) (.cons (so_row rfl (by first | rfl | (simp only [push_cast, List.map_append, List.map_set, List.map_replicate]; done) | (simp only [push_cast, List.map_append, List.map_set, List.map_replicate]; rfl))) .nil))
          · exact by decide
          · exact by decide
        · replace h21 := (bif_f h25).symm.trans h21
          refine go_region fun K hK => ?_
          obtain ⟨h32, h21⟩ := ite_some' h21
          obtain ⟨h33, h21⟩ := ite_some' h21
          try simp (config := { maxSteps := 4000000 }) only [push_cast, reduceIte, reduceCtorEq, Nat.reduceAdd, Nat.reduceSub, Nat.reduceMul, Nat.reduceEqDiff, Nat.reduceLT, Nat.reduceLeDiff, rd_some h32]
          repeat (refine And.intro ?_ ?_; · ((repeat' apply And.intro) <;> first | assumption | omega | kernel_rfl | decide | (simp; done) | (simp only [List.length_cons, List.length_nil, List.length_append, List.length_map, List.length_set, List.length_replicate, List.length_take, List.length_drop] at *; omega)))
          refine hK _ _ ?_
          clear hK K
          refine go_blk 1 ?_
          refine go_region fun K hK => ?_
          try simp (config := { maxSteps := 4000000 }) only [push_cast, reduceIte, reduceCtorEq, Nat.reduceAdd, Nat.reduceSub, Nat.reduceMul, Nat.reduceEqDiff, Nat.reduceLT, Nat.reduceLeDiff]
          refine hK _ _ ?_
          clear hK K
          have e34 := Option.some.inj h21
          rw [← e34] at h22
          obtain ⟨m35, h36, h37⟩ := h22
          refine go_lp ⟨m35, h36, (IntKind.i64.wrap (x1 + (1 : Int))), (x2 ++ [(rd a0 x1)]), h37, ?_⟩
          refine wk_mk [some 0, some 514] rfl ?_ ?_ ?_ ?_ ?_
          · exact (fun i h => absurd h (by omega))
          · exact (.cons _ _ _ (sv_lst (by first | rfl | (simp only [push_cast, List.map_append, List.map_set, List.map_replicate]; done) | (simp only [push_cast, List.map_append, List.map_set, List.map_replicate]; rfl))) (.cons _ _ _ (sv_ptr rfl) (.cons _ _ _ (sv_own rfl) (.cons _ _ _ (sv_int (by first | rfl | (simp only [push_cast, List.map_append, List.map_set, List.map_replicate]; done) | (simp only [push_cast, List.map_append, List.map_set, List.map_replicate]; rfl))) .nil))))
          · exact (.cons (.box _ _ _ rfl (.cons (sc_int (by first | rfl | (simp only [push_cast, List.map_append, List.map_set, List.map_replicate]; done) | (simp only [push_cast, List.map_append, List.map_set, List.map_replicate]; rfl))) (.cons (sc_int (by first | rfl | (simp only [push_cast, List.map_append, List.map_set, List.map_replicate]; done) | (simp only [push_cast, List.map_append, List.map_set, List.map_replicate]; rfl))) (.cons .nil .nil)))) (.cons (so_row rfl (by first | rfl | (simp only [push_cast, List.map_append, List.map_set, List.map_replicate]; done) | (simp only [push_cast, List.map_append, List.map_set, List.map_replicate]; rfl))) .nil))
          · exact by decide
          · exact by decide
      · replace h21 := (bif_f h23).symm.trans h21
        refine go_exit ?_
        refine go_out ?_
        refine go_lp_out ?_
        refine go_blk_at ?_
        have e38 := Option.some.inj h21
        rw [← e38] at h22
        replace h22 : _ = _ := h22
        refine go_lp ⟨x2, h22.symm, ?_⟩
        refine wk_mk [some 0, some 1] rfl ?_ ?_ ?_ ?_ ?_
        · exact (fun i h => absurd h (by omega))
        · exact (.cons _ _ _ (sv_lst (by first | rfl | (simp only [push_cast, List.map_append, List.map_set, List.map_replicate]; done) | (simp only [push_cast, List.map_append, List.map_set, List.map_replicate]; rfl))) (.cons _ _ _ (sv_ptr rfl) (.cons _ _ _ (sv_own rfl) .nil)))
        · exact (.cons (.box _ _ _ rfl (.cons (sc_int (by first | rfl | (simp only [push_cast, List.map_append, List.map_set, List.map_replicate]; done) | (simp only [push_cast, List.map_append, List.map_set, List.map_replicate]; rfl))) (.cons (sc_int (by first | rfl | (simp only [push_cast, List.map_append, List.map_set, List.map_replicate]; done) | (simp only [push_cast, List.map_append, List.map_set, List.map_replicate]; rfl))) (.cons .nil .nil)))) (.cons (so_row rfl (by first | rfl | (simp only [push_cast, List.map_append, List.map_set, List.map_replicate]; done) | (simp only [push_cast, List.map_append, List.map_set, List.map_replicate]; rfl))) .nil))
        · exact by decide
        · exact by decide
    · rintro k σ ⟨x3, h39q, h39⟩
      rw [h39q] at h0
      try dsimp only [Sum.elim_inl] at h0
      refine go_seq ?_
      refine go_seq ?_
      refine go_wk h39 ?_
      clear h39
      refine go_region fun K hK => ?_
      try simp (config := { maxSteps := 4000000 }) only [push_cast, reduceIte, reduceCtorEq, Nat.reduceAdd, Nat.reduceSub, Nat.reduceMul, Nat.reduceEqDiff, Nat.reduceLT, Nat.reduceLeDiff]
      refine hK _ _ ?_
      clear hK K
      refine go_cond _ rfl (fun h40 => ?_) (fun h40 => ?_)
      · replace h0 := (bif_t h40).symm.trans h0
        refine go_seq ?_
        refine go_region fun K hK => ?_
        try simp (config := { maxSteps := 4000000 }) only [push_cast, reduceIte, reduceCtorEq, Nat.reduceAdd, Nat.reduceSub, Nat.reduceMul, Nat.reduceEqDiff, Nat.reduceLT, Nat.reduceLeDiff]
        repeat (refine And.intro ?_ ?_; · ((repeat' apply And.intro) <;> first | assumption | omega | kernel_rfl | decide | (simp; done) | (simp only [List.length_cons, List.length_nil, List.length_append, List.length_map, List.length_set, List.length_replicate, List.length_take, List.length_drop] at *; omega)))
        refine hK _ _ ?_
        clear hK K
        refine go_wk (k' := 1) (τ := mk 83 0 [(2, .c (.ptr 0 0)), (3, .c (.bool false))] (nums 0 [.box [.int .i64 (0 : Int), .int .i64 (0 : Int), .nil]])) ?_ ?_
        ·
          refine wk_mk [some 0] rfl ?_ ?_ ?_ ?_ ?_
          · exact (fun i h => absurd h (by omega))
          · exact (.cons _ _ _ (sv_ptr rfl) (.cons _ _ _ (sv_bool (by first | rfl | (simp only [push_cast, List.map_append, List.map_set, List.map_replicate]; done) | (simp only [push_cast, List.map_append, List.map_set, List.map_replicate]; rfl))) .nil))
          · exact (.cons (.box _ _ _ rfl (.cons (sc_int (by first | rfl | (simp only [push_cast, List.map_append, List.map_set, List.map_replicate]; done) | (simp only [push_cast, List.map_append, List.map_set, List.map_replicate]; rfl))) (.cons (sc_int (by first | rfl | (simp only [push_cast, List.map_append, List.map_set, List.map_replicate]; done) | (simp only [push_cast, List.map_append, List.map_set, List.map_replicate]; rfl))) (.cons .nil .nil)))) .nil)
          · exact by decide
          · exact by decide
        refine go_ret ?_
        refine go_out_ret ?_
        cases h0
        refine go_end_ret ?_
        exact ⟨_, [], (by simp only [List.mapM_cons, List.mapM_nil, resv, push_cast, List.map_append, List.map_set, List.map_replicate]; rfl), (.cons (.a (.cons (.int _ _) (.cons (.int _ _) (.cons (.nilOwn _ _ (by decide)) .nil)))) (.cons (.c (.bool _)) .nil)), by decide, .inr (by simp only [RT.cells, List.mem_cons, List.mem_singleton, List.not_mem_nil, or_false, forall_eq, forall_eq_or_imp, allOwn_int, allOwn_bool, allOwn_str, allOwn_none, eIu8_ao, eTelegram_ao, eIi64_ao, eShunt_ao, eLIi64_ao, eSidings_ao, eNeed_ao, eRoute_ao, ePlant_ao, eLockOp_ao, eB_ao, eLocking_ao, eTask_ao, eRule_ao, eEdge_ao, eCall_ao, eTrip_ao, eBooking_ao, eNet_ao, eTrain_ao, eDesk_ao, eUse_ao, eRun_ao, eT_ao, o120Trip_ao, o33LIi64_ao, implies_true, and_true, false_implies, List.map_eq_nil_iff, and_self])⟩
      · replace h0 := (bif_f h40).symm.trans h0
        refine go_skip ?_
        refine go_seq ?_
        refine go_draw hmix fun K hK => ?_
        obtain ⟨h41, h0⟩ := ite_some' h0
        obtain ⟨h42, h0⟩ := ite_some' h0
        try simp (config := { maxSteps := 4000000 }) only [push_cast, reduceIte, reduceCtorEq, Nat.reduceAdd, Nat.reduceSub, Nat.reduceMul, Nat.reduceEqDiff, Nat.reduceLT, Nat.reduceLeDiff, rd_some h41, rd_some h42]
        repeat (refine And.intro ?_ ?_; · ((repeat' apply And.intro) <;> first | assumption | omega | kernel_rfl | decide | (simp; done) | (simp only [List.length_cons, List.length_nil, List.length_append, List.length_map, List.length_set, List.length_replicate, List.length_take, List.length_drop] at *; omega)))
        refine hK _ _ ?_
        clear hK K
        refine go_wk (k' := 3) (τ := mk 83 0 [(0, .c (.lst (a0.map eIu8))), (2, .c (.ptr 0 0)), (4, .c (.own 1)), (6, .c (.ptr 2 0))] (nums 0 [.box [.int .i64 (0 : Int), .int .i64 (0 : Int), .nil], .row 5 1 (x3.map eIu8), .box [.int .i64 (IntKind.i64.wrap (rd x3 (0 : Int))), .int .i64 (IntKind.i64.wrap (rd x3 (1 : Int))), .nil]])) ?_ ?_
        ·
          refine wk_mk [some 0, some 1, some 386] rfl ?_ ?_ ?_ ?_ ?_
          · exact (fun i h => absurd h (by omega))
          · exact (.cons _ _ _ (sv_lst (by first | rfl | (simp only [push_cast, List.map_append, List.map_set, List.map_replicate]; done) | (simp only [push_cast, List.map_append, List.map_set, List.map_replicate]; rfl))) (.cons _ _ _ (sv_ptr rfl) (.cons _ _ _ (sv_own rfl) (.cons _ _ _ (sv_ptr rfl) .nil))))
          · exact (.cons (.box _ _ _ rfl (.cons (sc_int (by first | rfl | (simp only [push_cast, List.map_append, List.map_set, List.map_replicate]; done) | (simp only [push_cast, List.map_append, List.map_set, List.map_replicate]; rfl))) (.cons (sc_int (by first | rfl | (simp only [push_cast, List.map_append, List.map_set, List.map_replicate]; done) | (simp only [push_cast, List.map_append, List.map_set, List.map_replicate]; rfl))) (.cons .nil .nil)))) (.cons (so_row rfl (by first | rfl | (simp only [push_cast, List.map_append, List.map_set, List.map_replicate]; done) | (simp only [push_cast, List.map_append, List.map_set, List.map_replicate]; rfl))) (.cons (.box _ _ _ rfl (.cons (sc_int (by first | rfl | (simp only [push_cast, List.map_append, List.map_set, List.map_replicate]; done) | (simp only [push_cast, List.map_append, List.map_set, List.map_replicate]; rfl))) (.cons (sc_int (by first | rfl | (simp only [push_cast, List.map_append, List.map_set, List.map_replicate]; done) | (simp only [push_cast, List.map_append, List.map_set, List.map_replicate]; rfl))) (.cons .nil .nil)))) .nil)))
          · exact by decide
          · exact by decide
        refine go_seq ?_
        refine go_seq ?_
        refine go_region fun K hK => ?_
        try simp (config := { maxSteps := 4000000 }) only [push_cast, reduceIte, reduceCtorEq, Nat.reduceAdd, Nat.reduceSub, Nat.reduceMul, Nat.reduceEqDiff, Nat.reduceLT, Nat.reduceLeDiff]
        refine hK _ _ ?_
        clear hK K
        obtain ⟨o43, h44, h0⟩ := bind_some' h0
        obtain ⟨m45, h46⟩ := loop_runs h44
        clear h44
        refine go_cut (fun k σ => ∃ x6 : (List Int), o43 = x6 ∧ Wk k σ 3 (mk 83 0 [(0, .c (.lst (a0.map eIu8))), (2, .c (.ptr 0 0)), (6, .c (.ptr 1 0))] (nums 0 [.box [.int .i64 (0 : Int), .int .i64 (0 : Int), .nil], .box [.int .i64 (IntKind.i64.wrap (rd x3 (0 : Int))), .int .i64 (IntKind.i64.wrap (rd x3 (1 : Int))), .own 2], .row 5 1 (x6.map eIu8)]))) ?_ ?_
        ·
          refine go_block (go_loop (fun n k σ => ∃ x4 : Int, ∃ x5 : (List Int), Runs (fun v => spec_Decode_b2 x3 v.1 v.2) n (x4, x5) o43 ∧ Wk k σ 4 (mk 83 0 [(0, .c (.lst (a0.map eIu8))), (2, .c (.ptr 0 0)), (4, .c (.own 1)), (6, .c (.ptr 2 0)), (7, .c (.int .i64 x4))] (nums 0 [.box [.int .i64 (0 : Int), .int .i64 (0 : Int), .nil], .row 5 1 (x3.map eIu8), .box [.int .i64 (IntKind.i64.wrap (rd x3 (0 : Int))), .int .i64 (IntKind.i64.wrap (rd x3 (1 : Int))), .own 3], .row 5 1 (x5.map eIu8)]))) m45 ⟨(3 : Int), ([] : List Int), h46, ?_⟩ ?_)
          ·
            refine wk_mk [some 0, some 1, some 2, none] rfl ?_ ?_ ?_ ?_ ?_
            · exact (fun i h => absurd h (by omega))
            · exact (.cons _ _ _ (sv_lst (by first | rfl | (simp only [push_cast, List.map_append, List.map_set, List.map_replicate]; done) | (simp only [push_cast, List.map_append, List.map_set, List.map_replicate]; rfl))) (.cons _ _ _ (sv_ptr rfl) (.cons _ _ _ (sv_own rfl) (.cons _ _ _ (sv_ptr rfl) (.cons _ _ _ (sv_int (by first | rfl | (simp only [push_cast, List.map_append, List.map_set, List.map_replicate]; done) | (simp only [push_cast, List.map_append, List.map_set, List.map_replicate]; rfl))) .nil)))))
            · exact (.cons (.box _ _ _ rfl (.cons (sc_int (by first | rfl | (simp only [push_cast, List.map_append, List.map_set, List.map_replicate]; done) | (simp only [push_cast, List.map_append, List.map_set, List.map_replicate]; rfl))) (.cons (sc_int (by first | rfl | (simp only [push_cast, List.map_append, List.map_set, List.map_replicate]; done) | (simp only [push_cast, List.map_append, List.map_set, List.map_replicate]; rfl))) (.cons .nil .nil)))) (.cons (so_row rfl (by first | rfl | (simp only [push_cast, List.map_append, List.map_set, List.map_replicate]; done) | (simp only [push_cast, List.map_append, List.map_set, List.map_replicate]; rfl))) (.cons (.box _ _ _ rfl (.cons (sc_int (by first | rfl | (simp only [push_cast, List.map_append, List.map_set, List.map_replicate]; done) | (simp only [push_cast, List.map_append, List.map_set, List.map_replicate]; rfl))) (.cons (sc_int (by first | rfl | (simp only [push_cast, List.map_append, List.map_set, List.map_replicate]; done) | (simp only [push_cast, List.map_append, List.map_set, List.map_replicate]; rfl))) (.cons (.fresh _ rfl) .nil)))) (.cons (.fresh _ _ (by decide)) .nil))))
            · exact by decide
            · exact by decide
          clear h46
          rintro n47 k48 s49 ⟨x4, x5, h50, h51⟩
          refine go_wk h51 ?_
          obtain ⟨y52, h53, h54⟩ := h50.next
          clear h51 h50
          replace h53 : spec_Decode_b2 x3 x4 x5 = some y52 := h53
          unfold spec_Decode_b2 at h53
          refine go_seq ?_
          refine go_seq ?_
          refine go_region fun K hK => ?_
          try simp (config := { maxSteps := 4000000 }) only [push_cast, reduceIte, reduceCtorEq, Nat.reduceAdd, Nat.reduceSub, Nat.reduceMul, Nat.reduceEqDiff, Nat.reduceLT, Nat.reduceLeDiff]
          refine hK _ _ ?_
          clear hK K
          refine go_cond _ rfl (fun h55 => ?_) (fun h55 => ?_)
          · replace h53 := (bif_t h55).symm.trans h53
            refine go_skip ?_
            refine go_seq ?_
            refine go_block ?_
            refine go_draw hmix fun K hK => ?_
            obtain ⟨h56, h53⟩ := ite_some' h53
            obtain ⟨h57, h53⟩ := ite_some' h53
            try simp (config := { maxSteps := 4000000 }) only [push_cast, reduceIte, reduceCtorEq, Nat.reduceAdd, Nat.reduceSub, Nat.reduceMul, Nat.reduceEqDiff, Nat.reduceLT, Nat.reduceLeDiff, rd_some h56]
            repeat (refine And.intro ?_ ?_; · ((repeat' apply And.intro) <;> first | assumption | omega | kernel_rfl | decide | (simp; done) | (simp only [List.length_cons, List.length_nil, List.length_append, List.length_map, List.length_set, List.length_replicate, List.length_take, List.length_drop] at *; omega)))
            refine hK _ _ ?_
            clear hK K
            refine go_blk 3 ?_
            refine go_region fun K hK => ?_
            try simp (config := { maxSteps := 4000000 }) only [push_cast, reduceIte, reduceCtorEq, Nat.reduceAdd, Nat.reduceSub, Nat.reduceMul, Nat.reduceEqDiff, Nat.reduceLT, Nat.reduceLeDiff]
            refine hK _ _ ?_
            clear hK K
            have e58 := Option.some.inj h53
            rw [← e58] at h54
            obtain ⟨m59, h60, h61⟩ := h54
            refine go_lp ⟨m59, h60, (IntKind.i64.wrap (x4 + (1 : Int))), (x5 ++ [(rd x3 x4)]), h61, ?_⟩
            refine wk_mk [some 0, some 1, some 2, some 388] rfl ?_ ?_ ?_ ?_ ?_
            · exact (fun i h => absurd h (by omega))
            · exact (.cons _ _ _ (sv_lst (by first | rfl | (simp only [push_cast, List.map_append, List.map_set, List.map_replicate]; done) | (simp only [push_cast, List.map_append, List.map_set, List.map_replicate]; rfl))) (.cons _ _ _ (sv_ptr rfl) (.cons _ _ _ (sv_own rfl) (.cons _ _ _ (sv_ptr rfl) (.cons _ _ _ (sv_int (by first | rfl | (simp only [push_cast, List.map_append, List.map_set, List.map_replicate]; done) | (simp only [push_cast, List.map_append, List.map_set, List.map_replicate]; rfl))) .nil)))))
            · exact (.cons (.box _ _ _ rfl (.cons (sc_int (by first | rfl | (simp only [push_cast, List.map_append, List.map_set, List.map_replicate]; done) | (simp only [push_cast, List.map_append, List.map_set, List.map_replicate]; rfl))) (.cons (sc_int (by first | rfl | (simp only [push_cast, List.map_append, List.map_set, List.map_replicate]; done) | (simp only [push_cast, List.map_append, List.map_set, List.map_replicate]; rfl))) (.cons .nil .nil)))) (.cons (so_row rfl (by first | rfl | (simp only [push_cast, List.map_append, List.map_set, List.map_replicate]; done) | (simp only [push_cast, List.map_append, List.map_set, List.map_replicate]; rfl))) (.cons (.box _ _ _ rfl (.cons (sc_int (by first | rfl | (simp only [push_cast, List.map_append, List.map_set, List.map_replicate]; done) | (simp only [push_cast, List.map_append, List.map_set, List.map_replicate]; rfl))) (.cons (sc_int (by first | rfl | (simp only [push_cast, List.map_append, List.map_set, List.map_replicate]; done) | (simp only [push_cast, List.map_append, List.map_set, List.map_replicate]; rfl))) (.cons (.own _ _ rfl) .nil)))) (.cons (so_row rfl (by first | rfl | (simp only [push_cast, List.map_append, List.map_set, List.map_replicate]; done) | (simp only [push_cast, List.map_append, List.map_set, List.map_replicate]; rfl))) .nil))))
            · exact by decide
            · exact by decide
          · replace h53 := (bif_f h55).symm.trans h53
            refine go_exit ?_
            refine go_out ?_
            refine go_lp_out ?_
            refine go_blk_at ?_
            have e62 := Option.some.inj h53
            rw [← e62] at h54
            replace h54 : _ = _ := h54
            refine go_lp ⟨x5, h54.symm, ?_⟩
            refine wk_mk [some 0, some 2, some 3] rfl ?_ ?_ ?_ ?_ ?_
            · exact (fun i h => absurd h (by omega))
            · exact (.cons _ _ _ (sv_lst (by first | rfl | (simp only [push_cast, List.map_append, List.map_set, List.map_replicate]; done) | (simp only [push_cast, List.map_append, List.map_set, List.map_replicate]; rfl))) (.cons _ _ _ (sv_ptr rfl) (.cons _ _ _ (sv_ptr rfl) .nil)))
            · exact (.cons (.box _ _ _ rfl (.cons (sc_int (by first | rfl | (simp only [push_cast, List.map_append, List.map_set, List.map_replicate]; done) | (simp only [push_cast, List.map_append, List.map_set, List.map_replicate]; rfl))) (.cons (sc_int (by first | rfl | (simp only [push_cast, List.map_append, List.map_set, List.map_replicate]; done) | (simp only [push_cast, List.map_append, List.map_set, List.map_replicate]; rfl))) (.cons .nil .nil)))) (.cons (.box _ _ _ rfl (.cons (sc_int (by first | rfl | (simp only [push_cast, List.map_append, List.map_set, List.map_replicate]; done) | (simp only [push_cast, List.map_append, List.map_set, List.map_replicate]; rfl))) (.cons (sc_int (by first | rfl | (simp only [push_cast, List.map_append, List.map_set, List.map_replicate]; done) | (simp only [push_cast, List.map_append, List.map_set, List.map_replicate]; rfl))) (.cons (.own _ _ rfl) .nil)))) (.cons (so_row rfl (by first | rfl | (simp only [push_cast, List.map_append, List.map_set, List.map_replicate]; done) | (simp only [push_cast, List.map_append, List.map_set, List.map_replicate]; rfl))) .nil)))
            · exact by decide
            · exact by decide
        · rintro k σ ⟨x6, h63q, h63⟩
          rw [h63q] at h0
          try dsimp only [Sum.elim_inl] at h0
          refine go_seq ?_
          refine go_seq ?_
          refine go_wk h63 ?_
          clear h63
          refine go_region fun K hK => ?_
          try simp (config := { maxSteps := 4000000 }) only [push_cast, reduceIte, reduceCtorEq, Nat.reduceAdd, Nat.reduceSub, Nat.reduceMul, Nat.reduceEqDiff, Nat.reduceLT, Nat.reduceLeDiff]
          obtain ⟨t7, ht7, h0⟩ := bind_some' h0
          refine vops_callA (spec_TelegramOk_ok ht7) cb101 (by simp only [lt_some, lt_none, mk_n, Nat.reduceLT]) (by simp only [push_cast, List.map_append, List.map_set, List.map_replicate]; rfl) (Nat.le_of_ble_eq_true rfl) ?_
          try simp (config := { maxSteps := 4000000 }) only [push_cast, reduceIte, reduceCtorEq, Nat.reduceAdd, Nat.reduceSub, Nat.reduceMul, Nat.reduceEqDiff, Nat.reduceLT, Nat.reduceLeDiff]
          refine vops_if rfl (Nat.le_of_ble_eq_true rfl) (by simp only [lt_some, lt_none, mk_n, Nat.reduceLT]) (fun h64 => ?_) (fun h64 => ?_)
          · replace h64 : _ = false := h64
            replace h0 := (bif_f h64).symm.trans h0
            try simp (config := { maxSteps := 4000000 }) only [push_cast, reduceIte, reduceCtorEq, Nat.reduceAdd, Nat.reduceSub, Nat.reduceMul, Nat.reduceEqDiff, Nat.reduceLT, Nat.reduceLeDiff]
            obtain ⟨t8, ht8, h0⟩ := bind_some' h0
            refine vops_callA (spec_Encode_ok ht8) cb103 (by simp only [lt_some, lt_none, mk_n, Nat.reduceLT]) (by simp only [push_cast, List.map_append, List.map_set, List.map_replicate]; rfl) (Nat.le_of_ble_eq_true rfl) ?_
            try simp (config := { maxSteps := 4000000 }) only [push_cast, reduceIte, reduceCtorEq, Nat.reduceAdd, Nat.reduceSub, Nat.reduceMul, Nat.reduceEqDiff, Nat.reduceLT, Nat.reduceLeDiff]
            obtain ⟨t9, ht9, h0⟩ := bind_some' h0
            refine vops_callA (spec_l20Same_ok ht9) cb102 (by simp only [lt_some, lt_none, mk_n, Nat.reduceLT]) (by simp only [push_cast, List.map_append, List.map_set, List.map_replicate]; rfl) (Nat.le_of_ble_eq_true rfl) ?_
            try simp (config := { maxSteps := 4000000 }) only [push_cast, reduceIte, reduceCtorEq, Nat.reduceAdd, Nat.reduceSub, Nat.reduceMul, Nat.reduceEqDiff, Nat.reduceLT, Nat.reduceLeDiff]
            refine hK _ _ ?_
            clear hK K
            refine go_wk (k' := 3) (τ := mk 83 0 [(2, .c (.ptr 0 0)), (6, .c (.ptr 1 0)), (80, .c (.bool (!t9)))] (nums 0 [.box [.int .i64 (0 : Int), .int .i64 (0 : Int), .nil], .box [.int .i64 (IntKind.i64.wrap (rd x3 (0 : Int))), .int .i64 (IntKind.i64.wrap (rd x3 (1 : Int))), .own 2], .row 5 1 (x6.map eIu8)])) ?_ ?_
            ·
              refine wk_mk [some 0, some 1, some 2] rfl ?_ ?_ ?_ ?_ ?_
              · exact (fun i h => absurd h (by omega))
              · exact (.cons _ _ _ (sv_ptr rfl) (.cons _ _ _ (sv_ptr rfl) (.cons _ _ _ (sv_bool (by first | rfl | (simp only [push_cast, List.map_append, List.map_set, List.map_replicate]; done) | (simp only [push_cast, List.map_append, List.map_set, List.map_replicate]; rfl))) .nil)))
              · exact (.cons (.box _ _ _ rfl (.cons (sc_int (by first | rfl | (simp only [push_cast, List.map_append, List.map_set, List.map_replicate]; done) | (simp only [push_cast, List.map_append, List.map_set, List.map_replicate]; rfl))) (.cons (sc_int (by first | rfl | (simp only [push_cast, List.map_append, List.map_set, List.map_replicate]; done) | (simp only [push_cast, List.map_append, List.map_set, List.map_replicate]; rfl))) (.cons .nil .nil)))) (.cons (.box _ _ _ rfl (.cons (sc_int (by first | rfl | (simp only [push_cast, List.map_append, List.map_set, List.map_replicate]; done) | (simp only [push_cast, List.map_append, List.map_set, List.map_replicate]; rfl))) (.cons (sc_int (by first | rfl | (simp only [push_cast, List.map_append, List.map_set, List.map_replicate]; done) | (simp only [push_cast, List.map_append, List.map_set, List.map_replicate]; rfl))) (.cons (.own _ _ rfl) .nil)))) (.cons (so_row rfl (by first | rfl | (simp only [push_cast, List.map_append, List.map_set, List.map_replicate]; done) | (simp only [push_cast, List.map_append, List.map_set, List.map_replicate]; rfl))) .nil)))
              · exact by decide
              · exact by decide
            refine go_cond _ rfl (fun h65 => ?_) (fun h65 => ?_)
            · replace h0 := (bif_t h65).symm.trans h0
              refine go_seq ?_
              refine go_region fun K hK => ?_
              try simp (config := { maxSteps := 4000000 }) only [push_cast, reduceIte, reduceCtorEq, Nat.reduceAdd, Nat.reduceSub, Nat.reduceMul, Nat.reduceEqDiff, Nat.reduceLT, Nat.reduceLeDiff]
              repeat (refine And.intro ?_ ?_; · ((repeat' apply And.intro) <;> first | assumption | omega | kernel_rfl | decide | (simp; done) | (simp only [List.length_cons, List.length_nil, List.length_append, List.length_map, List.length_set, List.length_replicate, List.length_take, List.length_drop] at *; omega)))
              refine hK _ _ ?_
              clear hK K
              refine go_wk (k' := 1) (τ := mk 83 0 [(2, .c (.ptr 0 0)), (3, .c (.bool false))] (nums 0 [.box [.int .i64 (0 : Int), .int .i64 (0 : Int), .nil]])) ?_ ?_
              ·
                refine wk_mk [some 0] rfl ?_ ?_ ?_ ?_ ?_
                · exact (fun i h => absurd h (by omega))
                · exact (.cons _ _ _ (sv_ptr rfl) (.cons _ _ _ (sv_bool (by first | rfl | (simp only [push_cast, List.map_append, List.map_set, List.map_replicate]; done) | (simp only [push_cast, List.map_append, List.map_set, List.map_replicate]; rfl))) .nil))
                · exact (.cons (.box _ _ _ rfl (.cons (sc_int (by first | rfl | (simp only [push_cast, List.map_append, List.map_set, List.map_replicate]; done) | (simp only [push_cast, List.map_append, List.map_set, List.map_replicate]; rfl))) (.cons (sc_int (by first | rfl | (simp only [push_cast, List.map_append, List.map_set, List.map_replicate]; done) | (simp only [push_cast, List.map_append, List.map_set, List.map_replicate]; rfl))) (.cons .nil .nil)))) .nil)
                · exact by decide
                · exact by decide
              refine go_ret ?_
              refine go_out_ret ?_
              cases h0
              refine go_end_ret ?_
              exact ⟨_, [], (by simp only [List.mapM_cons, List.mapM_nil, resv, push_cast, List.map_append, List.map_set, List.map_replicate]; rfl), (.cons (.a (.cons (.int _ _) (.cons (.int _ _) (.cons (.nilOwn _ _ (by decide)) .nil)))) (.cons (.c (.bool _)) .nil)), by decide, .inr (by simp only [RT.cells, List.mem_cons, List.mem_singleton, List.not_mem_nil, or_false, forall_eq, forall_eq_or_imp, allOwn_int, allOwn_bool, allOwn_str, allOwn_none, eIu8_ao, eTelegram_ao, eIi64_ao, eShunt_ao, eLIi64_ao, eSidings_ao, eNeed_ao, eRoute_ao, ePlant_ao, eLockOp_ao, eB_ao, eLocking_ao, eTask_ao, eRule_ao, eEdge_ao, eCall_ao, eTrip_ao, eBooking_ao, eNet_ao, eTrain_ao, eDesk_ao, eUse_ao, eRun_ao, eT_ao, o120Trip_ao, o33LIi64_ao, implies_true, and_true, false_implies, List.map_eq_nil_iff, and_self])⟩
            · replace h0 := (bif_f h65).symm.trans h0
              refine go_skip ?_
              refine go_seq ?_
              refine go_region fun K hK => ?_
              try simp (config := { maxSteps := 4000000 }) only [push_cast, reduceIte, reduceCtorEq, Nat.reduceAdd, Nat.reduceSub, Nat.reduceMul, Nat.reduceEqDiff, Nat.reduceLT, Nat.reduceLeDiff]
              repeat (refine And.intro ?_ ?_; · ((repeat' apply And.intro) <;> first | assumption | omega | kernel_rfl | decide | (simp; done) | (simp only [List.length_cons, List.length_nil, List.length_append, List.length_map, List.length_set, List.length_replicate, List.length_take, List.length_drop] at *; omega)))
              refine hK _ _ ?_
              clear hK K
              refine go_wk (k' := 2) (τ := mk 83 0 [(2, .c (.ptr 0 0)), (3, .c (.bool true))] (nums 0 [.box [.int .i64 (IntKind.i64.wrap (rd x3 (0 : Int))), .int .i64 (IntKind.i64.wrap (rd x3 (1 : Int))), .own 1], .row 5 1 (x6.map eIu8)])) ?_ ?_
              ·
                refine wk_mk [some 0, some 2] rfl ?_ ?_ ?_ ?_ ?_
                · exact (fun i h => absurd h (by omega))
                · exact (.cons _ _ _ (sv_ptr rfl) (.cons _ _ _ (sv_bool (by first | rfl | (simp only [push_cast, List.map_append, List.map_set, List.map_replicate]; done) | (simp only [push_cast, List.map_append, List.map_set, List.map_replicate]; rfl))) .nil))
                · exact (.cons (.box _ _ _ rfl (.cons (sc_int (by first | rfl | (simp only [push_cast, List.map_append, List.map_set, List.map_replicate]; done) | (simp only [push_cast, List.map_append, List.map_set, List.map_replicate]; rfl))) (.cons (sc_int (by first | rfl | (simp only [push_cast, List.map_append, List.map_set, List.map_replicate]; done) | (simp only [push_cast, List.map_append, List.map_set, List.map_replicate]; rfl))) (.cons (.own _ _ rfl) .nil)))) (.cons (so_row rfl (by first | rfl | (simp only [push_cast, List.map_append, List.map_set, List.map_replicate]; done) | (simp only [push_cast, List.map_append, List.map_set, List.map_replicate]; rfl))) .nil))
                · exact by decide
                · exact by decide
              refine go_ret ?_
              cases h0
              refine go_end_ret ?_
              exact ⟨_, [1], (by simp only [List.mapM_cons, List.mapM_nil, resv, push_cast, List.map_append, List.map_set, List.map_replicate]; rfl), (.cons (.a (.cons (.int _ _) (.cons (.int _ _) (.cons (mc_own rfl (by first | rfl | (simp only [push_cast, List.map_append, List.map_set, List.map_replicate]; done) | (simp only [push_cast, List.map_append, List.map_set, List.map_replicate]; rfl))) .nil)))) (.cons (.c (.bool _)) .nil)), by decide, .inr (by simp only [RT.cells, List.mem_cons, List.mem_singleton, List.not_mem_nil, or_false, forall_eq, forall_eq_or_imp, allOwn_int, allOwn_bool, allOwn_str, allOwn_none, eIu8_ao, eTelegram_ao, eIi64_ao, eShunt_ao, eLIi64_ao, eSidings_ao, eNeed_ao, eRoute_ao, ePlant_ao, eLockOp_ao, eB_ao, eLocking_ao, eTask_ao, eRule_ao, eEdge_ao, eCall_ao, eTrip_ao, eBooking_ao, eNet_ao, eTrain_ao, eDesk_ao, eUse_ao, eRun_ao, eT_ao, o120Trip_ao, o33LIi64_ao, implies_true, and_true, false_implies, List.map_eq_nil_iff, and_self])⟩
          · replace h64 : _ = true := h64
            replace h0 := (bif_t h64).symm.trans h0
            try simp (config := { maxSteps := 4000000 }) only [push_cast, reduceIte, reduceCtorEq, Nat.reduceAdd, Nat.reduceSub, Nat.reduceMul, Nat.reduceEqDiff, Nat.reduceLT, Nat.reduceLeDiff]
            repeat (refine And.intro ?_ ?_; · ((repeat' apply And.intro) <;> first | assumption | omega | kernel_rfl | decide | (simp; done) | (simp only [List.length_cons, List.length_nil, List.length_append, List.length_map, List.length_set, List.length_replicate, List.length_take, List.length_drop] at *; omega)))
            refine hK _ _ ?_
            clear hK K
            refine go_wk (k' := 3) (τ := mk 83 0 [(2, .c (.ptr 0 0)), (6, .c (.ptr 1 0)), (80, .c (.bool true))] (nums 0 [.box [.int .i64 (0 : Int), .int .i64 (0 : Int), .nil], .box [.int .i64 (IntKind.i64.wrap (rd x3 (0 : Int))), .int .i64 (IntKind.i64.wrap (rd x3 (1 : Int))), .own 2], .row 5 1 (x6.map eIu8)])) ?_ ?_
            ·
              refine wk_mk [some 0, some 1, some 2] rfl ?_ ?_ ?_ ?_ ?_
              · exact (fun i h => absurd h (by omega))
              · exact (.cons _ _ _ (sv_ptr rfl) (.cons _ _ _ (sv_ptr rfl) (.cons _ _ _ (sv_bool (by first | rfl | (simp only [push_cast, List.map_append, List.map_set, List.map_replicate]; done) | (simp only [push_cast, List.map_append, List.map_set, List.map_replicate]; rfl))) .nil)))
              · exact (.cons (.box _ _ _ rfl (.cons (sc_int (by first | rfl | (simp only [push_cast, List.map_append, List.map_set, List.map_replicate]; done) | (simp only [push_cast, List.map_append, List.map_set, List.map_replicate]; rfl))) (.cons (sc_int (by first | rfl | (simp only [push_cast, List.map_append, List.map_set, List.map_replicate]; done) | (simp only [push_cast, List.map_append, List.map_set, List.map_replicate]; rfl))) (.cons .nil .nil)))) (.cons (.box _ _ _ rfl (.cons (sc_int (by first | rfl | (simp only [push_cast, List.map_append, List.map_set, List.map_replicate]; done) | (simp only [push_cast, List.map_append, List.map_set, List.map_replicate]; rfl))) (.cons (sc_int (by first | rfl | (simp only [push_cast, List.map_append, List.map_set, List.map_replicate]; done) | (simp only [push_cast, List.map_append, List.map_set, List.map_replicate]; rfl))) (.cons (.own _ _ rfl) .nil)))) (.cons (so_row rfl (by first | rfl | (simp only [push_cast, List.map_append, List.map_set, List.map_replicate]; done) | (simp only [push_cast, List.map_append, List.map_set, List.map_replicate]; rfl))) .nil)))
              · exact by decide
              · exact by decide
            refine go_cond true rfl (fun hb => ?_) (fun hb => nomatch hb)
            clear hb
            refine go_seq ?_
            refine go_region fun K hK => ?_
            try simp (config := { maxSteps := 4000000 }) only [push_cast, reduceIte, reduceCtorEq, Nat.reduceAdd, Nat.reduceSub, Nat.reduceMul, Nat.reduceEqDiff, Nat.reduceLT, Nat.reduceLeDiff]
            repeat (refine And.intro ?_ ?_; · ((repeat' apply And.intro) <;> first | assumption | omega | kernel_rfl | decide | (simp; done) | (simp only [List.length_cons, List.length_nil, List.length_append, List.length_map, List.length_set, List.length_replicate, List.length_take, List.length_drop] at *; omega)))
            refine hK _ _ ?_
            clear hK K
            refine go_wk (k' := 1) (τ := mk 83 0 [(2, .c (.ptr 0 0)), (3, .c (.bool false))] (nums 0 [.box [.int .i64 (0 : Int), .int .i64 (0 : Int), .nil]])) ?_ ?_
            ·
              refine wk_mk [some 0] rfl ?_ ?_ ?_ ?_ ?_
              · exact (fun i h => absurd h (by omega))
              · exact (.cons _ _ _ (sv_ptr rfl) (.cons _ _ _ (sv_bool (by first | rfl | (simp only [push_cast, List.map_append, List.map_set, List.map_replicate]; done) | (simp only [push_cast, List.map_append, List.map_set, List.map_replicate]; rfl))) .nil))
              · exact (.cons (.box _ _ _ rfl (.cons (sc_int (by first | rfl | (simp only [push_cast, List.map_append, List.map_set, List.map_replicate]; done) | (simp only [push_cast, List.map_append, List.map_set, List.map_replicate]; rfl))) (.cons (sc_int (by first | rfl | (simp only [push_cast, List.map_append, List.map_set, List.map_replicate]; done) | (simp only [push_cast, List.map_append, List.map_set, List.map_replicate]; rfl))) (.cons .nil .nil)))) .nil)
              · exact by decide
              · exact by decide
            refine go_ret ?_
            refine go_out_ret ?_
            cases h0
            refine go_end_ret ?_
            exact ⟨_, [], (by simp only [List.mapM_cons, List.mapM_nil, resv, push_cast, List.map_append, List.map_set, List.map_replicate]; rfl), (.cons (.a (.cons (.int _ _) (.cons (.int _ _) (.cons (.nilOwn _ _ (by decide)) .nil)))) (.cons (.c (.bool _)) .nil)), by decide, .inr (by simp only [RT.cells, List.mem_cons, List.mem_singleton, List.not_mem_nil, or_false, forall_eq, forall_eq_or_imp, allOwn_int, allOwn_bool, allOwn_str, allOwn_none, eIu8_ao, eTelegram_ao, eIi64_ao, eShunt_ao, eLIi64_ao, eSidings_ao, eNeed_ao, eRoute_ao, ePlant_ao, eLockOp_ao, eB_ao, eLocking_ao, eTask_ao, eRule_ao, eEdge_ao, eCall_ao, eTrip_ao, eBooking_ao, eNet_ao, eTrain_ao, eDesk_ao, eUse_ao, eRun_ao, eT_ao, o120Trip_ao, o33LIi64_ao, implies_true, and_true, false_implies, List.map_eq_nil_iff, and_self])⟩
end Go.V
set_option linter.unusedSimpArgs false
set_option linter.unusedVariables false
namespace Go.V
open Go Go.RowKit Go.Proofs
set_option maxHeartbeats 4000000 in
set_option maxRecDepth 100000 in
theorem impl_unescape_ok {a0 : (List Int)} {r : (List Int)} (h0 : impl_unescape a0 = some r) :
    OkA Try.prog 104 [.v (.sl none (a0.map eIu8))] [.c (.sl (some (5, 1)) (r.map eIu8))] false := by
  unfold impl_unescape at h0
  refine okA_of (n := 42) (rvs := [.tmp 2]) Try.func104 rfl rfl rfl (by simp) ?_
  simp only [slots, slotsM, widths, List.map_cons, List.sum_cons, List.sum_nil, Nat.reduceAdd, List.length_cons, List.length_nil, RT.width, unRs, unR, unCs, unC, putsO, putO, Cell.ro, List.map_cons, List.map_nil, List.nil_append, List.append_nil, List.cons_append]
  refine go_seq ?_
  refine go_region fun K hK => ?_
  try simp (config := { maxSteps := 4000000 }) only [push_cast, reduceIte, reduceCtorEq, Nat.reduceAdd, Nat.reduceSub, Nat.reduceMul, Nat.reduceEqDiff, Nat.reduceLT, Nat.reduceLeDiff]
  refine hK _ _ ?_
  clear hK K
  refine go_seq ?_
  refine go_region fun K hK => ?_
  try simp (config := { maxSteps := 4000000 }) only [push_cast, reduceIte, reduceCtorEq, Nat.reduceAdd, Nat.reduceSub, Nat.reduceMul, Nat.reduceEqDiff, Nat.reduceLT, Nat.reduceLeDiff]
  repeat (refine And.intro ?_ ?_; · ((repeat' apply And.intro) <;> first | assumption | omega | kernel_rfl | decide | (simp; done) | (simp only [List.length_cons, List.length_nil, List.length_append, List.length_map, List.length_set, List.length_replicate, List.length_take, List.length_drop] at *; omega)))
  refine hK _ _ ?_
  clear hK K
  refine go_wk (k' := 1) (τ := mk 42 0 [(0, .c (.lst (a0.map eIu8))), (3, .c (.own 0))] (nums 0 [.row 5 1 (([] : List Int).map eIu8)])) ?_ ?_
  ·
    refine wk_mk [some 32] rfl ?_ ?_ ?_ ?_ ?_
    · exact (fun i h => absurd h (by omega))
    · exact (.cons _ _ _ (sv_lst (by first | rfl | (simp only [push_cast, List.map_append, List.map_set, List.map_replicate]; done) | (simp only [push_cast, List.map_append, List.map_set, List.map_replicate]; rfl))) (.cons _ _ _ (sv_own rfl) .nil))
    · exact (.cons (so_row rfl (by first | rfl | (simp only [push_cast, List.map_append, List.map_set, List.map_replicate]; done) | (simp only [push_cast, List.map_append, List.map_set, List.map_replicate]; rfl))) .nil)
    · exact by decide
    · exact by decide
  refine go_seq ?_
  refine go_seq ?_
  refine go_region fun K hK => ?_
  try simp (config := { maxSteps := 4000000 }) only [push_cast, reduceIte, reduceCtorEq, Nat.reduceAdd, Nat.reduceSub, Nat.reduceMul, Nat.reduceEqDiff, Nat.reduceLT, Nat.reduceLeDiff]
  refine hK _ _ ?_
  clear hK K
  obtain ⟨o6, h7, h0⟩ := bind_some' h0
  obtain ⟨m8, h9⟩ := loop_runs h7
  clear h7
  refine go_cut (fun k σ => ∃ x5 : (List Int), o6 = x5 ∧ Wk k σ 1 (mk 42 0 [(3, .c (.own 0))] (nums 0 [.row 5 1 (x5.map eIu8)]))) ?_ ?_
  ·
    refine go_block (go_loop (fun n k σ => ∃ x2 : Int, ∃ x3 : (List Int), Runs (fun v => impl_unescape_b0 a0 v.1 v.2) n (x2, x3) o6 ∧ Wk k σ 1 (mk 42 0 [(0, .c (.lst (a0.map eIu8))), (3, .c (.own 0)), (4, .c (.int .i64 x2))] (nums 0 [.row 5 1 (x3.map eIu8)]))) m8 ⟨(0 : Int), ([] : List Int), h9, ?_⟩ ?_)
    ·
      refine wk_mk [some 0] rfl ?_ ?_ ?_ ?_ ?_
      · exact (fun i h => absurd h (by omega))
      · exact (.cons _ _ _ (sv_lst (by first | rfl | (simp only [push_cast, List.map_append, List.map_set, List.map_replicate]; done) | (simp only [push_cast, List.map_append, List.map_set, List.map_replicate]; rfl))) (.cons _ _ _ (sv_own rfl) (.cons _ _ _ (sv_int (by first | rfl | (simp only [push_cast, List.map_append, List.map_set, List.map_replicate]; done) | (simp only [push_cast, List.map_append, List.map_set, List.map_replicate]; rfl))) .nil)))
      · exact (.cons (so_row rfl (by first | rfl | (simp only [push_cast, List.map_append, List.map_set, List.map_replicate]; done) | (simp only [push_cast, List.map_append, List.map_set, List.map_replicate]; rfl))) .nil)
      · exact by decide
      · exact by decide
    clear h9
    rintro n10 k11 s12 ⟨x2, x3, h13, h14⟩
    refine go_wk h14 ?_
    obtain ⟨y15, h16, h17⟩ := h13.next
    clear h14 h13
    replace h16 : impl_unescape_b0 a0 x2 x3 = some y15 := h16
    unfold impl_unescape_b0 at h16
    refine go_seq ?_
    refine go_seq ?_
    refine go_region fun K hK => ?_
    try simp (config := { maxSteps := 4000000 }) only [push_cast, reduceIte, reduceCtorEq, Nat.reduceAdd, Nat.reduceSub, Nat.reduceMul, Nat.reduceEqDiff, Nat.reduceLT, Nat.reduceLeDiff]
    refine hK _ _ ?_
    clear hK K
    refine go_cond _ rfl (fun h18 => ?_) (fun h18 => ?_)
    · replace h16 := (bif_t h18).symm.trans h16
      refine go_skip ?_
      refine go_seq ?_
      refine go_block ?_
      refine go_seq ?_
      obtain ⟨v19, h20, h16⟩ := bind_some' h16
      refine go_cut (fun k σ => ∃ x4 : Bool, v19 = x4 ∧ Wk k σ 1 (mk 42 0 [(0, .c (.lst (a0.map eIu8))), (3, .c (.own 0)), (4, .c (.int .i64 x2)), (23, .c (.bool x4))] (nums 0 [.row 5 1 (x3.map eIu8)]))) ?_ ?_
      ·
        refine go_region fun K hK => ?_
        obtain ⟨h21, h20⟩ := ite_some' h20
        try simp (config := { maxSteps := 4000000 }) only [push_cast, reduceIte, reduceCtorEq, Nat.reduceAdd, Nat.reduceSub, Nat.reduceMul, Nat.reduceEqDiff, Nat.reduceLT, Nat.reduceLeDiff, rd_some h21]
        repeat (refine And.intro ?_ ?_; · ((repeat' apply And.intro) <;> first | assumption | omega | kernel_rfl | decide | (simp; done) | (simp only [List.length_cons, List.length_nil, List.length_append, List.length_map, List.length_set, List.length_replicate, List.length_take, List.length_drop] at *; omega)))
        refine vops_if rfl (Nat.le_of_ble_eq_true rfl) (by simp only [lt_some, lt_none, mk_n, Nat.reduceLT]) (fun h22 => ?_) (fun h22 => ?_)
        · replace h22 : _ = true := h22
          replace h20 := (bif_t h22).symm.trans h20
          try simp (config := { maxSteps := 4000000 }) only [push_cast, reduceIte, reduceCtorEq, Nat.reduceAdd, Nat.reduceSub, Nat.reduceMul, Nat.reduceEqDiff, Nat.reduceLT, Nat.reduceLeDiff]
          refine hK _ _ ?_
          clear hK K
          have e23 := Option.some.inj h20
          refine go_lp ⟨(decide ((IntKind.i64.wrap (x2 + (1 : Int))) < (a0.length : Int))), e23.symm, ?_⟩
          refine wk_mk [some 0] rfl ?_ ?_ ?_ ?_ ?_
          · exact (fun i h => absurd h (by omega))
          · exact (.cons _ _ _ (sv_lst (by first | rfl | (simp only [push_cast, List.map_append, List.map_set, List.map_replicate]; done) | (simp only [push_cast, List.map_append, List.map_set, List.map_replicate]; rfl))) (.cons _ _ _ (sv_own rfl) (.cons _ _ _ (sv_int (by first | rfl | (simp only [push_cast, List.map_append, List.map_set, List.map_replicate]; done) | (simp only [push_cast, List.map_append, List.map_set, List.map_replicate]; rfl))) (.cons _ _ _ (sv_bool (by first | rfl | (simp only [push_cast, List.map_append, List.map_set, List.map_replicate]; done) | (simp only [push_cast, List.map_append, List.map_set, List.map_replicate]; rfl))) .nil))))
          · exact (.cons (so_row rfl (by first | rfl | (simp only [push_cast, List.map_append, List.map_set, List.map_replicate]; done) | (simp only [push_cast, List.map_append, List.map_set, List.map_replicate]; rfl))) .nil)
          · exact by decide
          · exact by decide
        · replace h22 : _ = false := h22
          replace h20 := (bif_f h22).symm.trans h20
          try simp (config := { maxSteps := 4000000 }) only [push_cast, reduceIte, reduceCtorEq, Nat.reduceAdd, Nat.reduceSub, Nat.reduceMul, Nat.reduceEqDiff, Nat.reduceLT, Nat.reduceLeDiff]
          refine hK _ _ ?_
          clear hK K
          have e24 := Option.some.inj h20
          refine go_lp ⟨false, e24.symm, ?_⟩
          refine wk_mk [some 0] rfl ?_ ?_ ?_ ?_ ?_
          · exact (fun i h => absurd h (by omega))
          · exact (.cons _ _ _ (sv_lst (by first | rfl | (simp only [push_cast, List.map_append, List.map_set, List.map_replicate]; done) | (simp only [push_cast, List.map_append, List.map_set, List.map_replicate]; rfl))) (.cons _ _ _ (sv_own rfl) (.cons _ _ _ (sv_int (by first | rfl | (simp only [push_cast, List.map_append, List.map_set, List.map_replicate]; done) | (simp only [push_cast, List.map_append, List.map_set, List.map_replicate]; rfl))) (.cons _ _ _ (sv_bool (by first | rfl | (simp only [push_cast, List.map_append, List.map_set, List.map_replicate]; done) | (simp only [push_cast, List.map_append, List.map_set, List.map_replicate]; rfl))) .nil))))
          · exact (.cons (so_row rfl (by first | rfl | (simp only [push_cast, List.map_append, List.map_set, List.map_replicate]; done) | (simp only [push_cast, List.map_append, List.map_set, List.map_replicate]; rfl))) .nil)
          · exact by decide
          · exact by decide
      · rintro k σ ⟨x4, h25q, h25⟩
        rw [h25q] at h16
        try dsimp only [Sum.elim_inl] at h16
        refine go_wk h25 ?_
        clear h25
        refine go_cond _ rfl (fun h26 => ?_) (fun h26 => ?_)
        · replace h16 := (bif_t h26).symm.trans h16
          refine go_seq ?_
          refine go_region fun K hK => ?_
          try simp (config := { maxSteps := 4000000 }) only [push_cast, reduceIte, reduceCtorEq, Nat.reduceAdd, Nat.reduceSub, Nat.reduceMul, Nat.reduceEqDiff, Nat.reduceLT, Nat.reduceLeDiff]
          refine hK _ _ ?_
          clear hK K
          refine go_region fun K hK => ?_
          obtain ⟨h27, h16⟩ := ite_some' h16
          obtain ⟨h28, h16⟩ := ite_some' h16
          try simp (config := { maxSteps := 4000000 }) only [push_cast, reduceIte, reduceCtorEq, Nat.reduceAdd, Nat.reduceSub, Nat.reduceMul, Nat.reduceEqDiff, Nat.reduceLT, Nat.reduceLeDiff, rd_some h27]
          repeat (refine And.intro ?_ ?_; · ((repeat' apply And.intro) <;> first | assumption | omega | kernel_rfl | decide | (simp; done) | (simp only [List.length_cons, List.length_nil, List.length_append, List.length_map, List.length_set, List.length_replicate, List.length_take, List.length_drop] at *; omega)))
          refine hK _ _ ?_
          clear hK K
          refine go_blk 1 ?_
          refine go_region fun K hK => ?_
          try simp (config := { maxSteps := 4000000 }) only [push_cast, reduceIte, reduceCtorEq, Nat.reduceAdd, Nat.reduceSub, Nat.reduceMul, Nat.reduceEqDiff, Nat.reduceLT, Nat.reduceLeDiff]
          refine hK _ _ ?_
          clear hK K
          have e29 := Option.some.inj h16
          rw [← e29] at h17
          obtain ⟨m30, h31, h32⟩ := h17
          refine go_lp ⟨m30, h31, (IntKind.i64.wrap ((IntKind.i64.wrap (x2 + (1 : Int))) + (1 : Int))), (x3 ++ [(IntKind.u8.wrap (((BitVec.ofInt IntKind.u8.bits (rd a0 (IntKind.i64.wrap (x2 + (1 : Int)))) ^^^ BitVec.ofInt IntKind.u8.bits (32 : Int)).toNat : Int)))]), h32, ?_⟩
          refine wk_mk [some 321] rfl ?_ ?_ ?_ ?_ ?_
          · exact (fun i h => absurd h (by omega))
          · exact (.cons _ _ _ (sv_lst (by first | rfl | (simp only [push_cast, List.map_append, List.map_set, List.map_replicate]; done) | (simp only [push_cast, List.map_append, List.map_set, List.map_replicate]; rfl))) (.cons _ _ _ (sv_own rfl) (.cons _ _ _ (sv_int (by first | rfl | (simp only [push_cast, List.map_append, List.map_set, List.map_replicate]; done) | (simp only [push_cast, List.map_append, List.map_set, List.map_replicate]; rfl))) .nil)))
          · exact (.cons (so_row rfl (by first | rfl | (simp only [push_cast, List.map_append, List.map_set, List.map_replicate]; done) | (simp only [push_cast, List.map_append, List.map_set, List.map_replicate]; rfl))) .nil)
          · exact by decide
          · exact by decide
        · replace h16 := (bif_f h26).symm.trans h16
          refine go_region fun K hK => ?_
          obtain ⟨h33, h16⟩ := ite_some' h16
          obtain ⟨h34, h16⟩ := ite_some' h16
          try simp (config := { maxSteps := 4000000 }) only [push_cast, reduceIte, reduceCtorEq, Nat.reduceAdd, Nat.reduceSub, Nat.reduceMul, Nat.reduceEqDiff, Nat.reduceLT, Nat.reduceLeDiff, rd_some h33]
          repeat (refine And.intro ?_ ?_; · ((repeat' apply And.intro) <;> first | assumption | omega | kernel_rfl | decide | (simp; done) | (simp only [List.length_cons, List.length_nil, List.length_append, List.length_map, List.length_set, List.length_replicate, List.length_take, List.length_drop] at *; omega)))
          refine hK _ _ ?_
          clear hK K
          refine go_blk 1 ?_
          refine go_region fun K hK => ?_
          try simp (config := { maxSteps := 4000000 }) only [push_cast, reduceIte, reduceCtorEq, Nat.reduceAdd, Nat.reduceSub, Nat.reduceMul, Nat.reduceEqDiff, Nat.reduceLT, Nat.reduceLeDiff]
          refine hK _ _ ?_
          clear hK K
          have e35 := Option.some.inj h16
          rw [← e35] at h17
          obtain ⟨m36, h37, h38⟩ := h17
          refine go_lp ⟨m36, h37, (IntKind.i64.wrap (x2 + (1 : Int))), (x3 ++ [(rd a0 x2)]), h38, ?_⟩
          refine wk_mk [some 193] rfl ?_ ?_ ?_ ?_ ?_
          · exact (fun i h => absurd h (by omega))
          · exact (.cons _ _ _ (sv_lst (by first | rfl | (simp only [push_cast, List.map_append, List.map_set, List.map_replicate]; done) | (simp only [push_cast, List.map_append, List.map_set, List.map_replicate]; rfl))) (.cons _ _ _ (sv_own rfl) (.cons _ _ _ (sv_int (by first | rfl | (simp only [push_cast, List.map_append, List.map_set, List.map_replicate]; done) | (simp only [push_cast, List.map_append, List.map_set, List.map_replicate]; rfl))) .nil)))
          · exact (.cons (so_row rfl (by first | rfl | (simp only [push_cast, List.map_append, List.map_set, List.map_replicate]; done) | (simp only [push_cast, List.map_append, List.map_set, List.map_replicate]; rfl))) .nil)
          · exact by decide
          · exact by decide
    · replace h16 := (bif_f h18).symm.trans h16
      refine go_exit ?_
      refine go_out ?_
      refine go_lp_out ?_
      refine go_blk_at ?_
      have e39 := Option.some.inj h16
      rw [← e39] at h17
      replace h17 : _ = _ := h17
      refine go_lp ⟨x3, h17.symm, ?_⟩
      refine wk_mk [some 0] rfl ?_ ?_ ?_ ?_ ?_
      · exact (fun i h => absurd h (by omega))
      · exact (.cons _ _ _ (sv_own rfl) .nil)
      · exact (.cons (so_row rfl (by first | rfl | (simp only [push_cast, List.map_append, List.map_set, List.map_replicate]; done) | (simp only [push_cast, List.map_append, List.map_set, List.map_replicate]; rfl))) .nil)
      · exact by decide
      · exact by decide
  · rintro k σ ⟨x5, h40q, h40⟩
    rw [h40q] at h0
    try dsimp only [Sum.elim_inl] at h0
    refine go_seq ?_
    refine go_wk h40 ?_
    clear h40
    refine go_region fun K hK => ?_
    try simp (config := { maxSteps := 4000000 }) only [push_cast, reduceIte, reduceCtorEq, Nat.reduceAdd, Nat.reduceSub, Nat.reduceMul, Nat.reduceEqDiff, Nat.reduceLT, Nat.reduceLeDiff]
    refine hK _ _ ?_
    clear hK K
    refine go_ret ?_
    cases h0
    refine go_end_ret ?_
    exact ⟨_, [0], rfl, (.cons (.c (mc_own rfl (by first | rfl | (simp only [push_cast, List.map_append, List.map_set, List.map_replicate]; done) | (simp only [push_cast, List.map_append, List.map_set, List.map_replicate]; rfl)))) .nil), by decide, .inr (by simp only [RT.cells, List.mem_cons, List.mem_singleton, List.not_mem_nil, or_false, forall_eq, forall_eq_or_imp, allOwn_int, allOwn_bool, allOwn_str, allOwn_none, eIu8_ao, eTelegram_ao, eIi64_ao, eShunt_ao, eLIi64_ao, eSidings_ao, eNeed_ao, eRoute_ao, ePlant_ao, eLockOp_ao, eB_ao, eLocking_ao, eTask_ao, eRule_ao, eEdge_ao, eCall_ao, eTrip_ao, eBooking_ao, eNet_ao, eTrain_ao, eDesk_ao, eUse_ao, eRun_ao, eT_ao, o120Trip_ao, o33LIi64_ao, implies_true, and_true, false_implies, List.map_eq_nil_iff, and_self])⟩
end Go.V
set_option linter.unusedSimpArgs false
set_option linter.unusedVariables false
namespace Go.V
open Go Go.RowKit Go.Proofs
set_option maxHeartbeats 4000000 in
set_option maxRecDepth 100000 in
theorem impl_between_ok {a0 : Int} {a1 : Int} {a2 : Int} {r : Bool} (h0 : impl_between a0 a1 a2 = some r) :
    OkA Try.prog 114 [.v (.int .i64 a0), .v (.int .i64 a1), .v (.int .i64 a2)] [.c (.bool r)] false := by
  unfold impl_between at h0
  refine okA_of (n := 15) (rvs := [.tmp 6]) Try.func114 rfl rfl rfl (by simp) ?_
  simp only [slots, slotsM, widths, List.map_cons, List.sum_cons, List.sum_nil, Nat.reduceAdd, List.length_cons, List.length_nil, RT.width, unRs, unR, unCs, unC, putsO, putO, Cell.ro, List.map_cons, List.map_nil, List.nil_append, List.append_nil, List.cons_append]
  refine go_seq ?_
  refine go_region fun K hK => ?_
  try simp (config := { maxSteps := 4000000 }) only [push_cast, reduceIte, reduceCtorEq, Nat.reduceAdd, Nat.reduceSub, Nat.reduceMul, Nat.reduceEqDiff, Nat.reduceLT, Nat.reduceLeDiff]
  refine hK _ _ ?_
  clear hK K
  refine go_seq ?_
  refine go_region fun K hK => ?_
  try simp (config := { maxSteps := 4000000 }) only [push_cast, reduceIte, reduceCtorEq, Nat.reduceAdd, Nat.reduceSub, Nat.reduceMul, Nat.reduceEqDiff, Nat.reduceLT, Nat.reduceLeDiff]
  refine vops_if rfl (Nat.le_of_ble_eq_true rfl) (by simp only [lt_some, lt_none, mk_n, Nat.reduceLT]) (fun h1 => ?_) (fun h1 => ?_)
  · replace h1 : _ = true := h1
    replace h0 := (bif_t h1).symm.trans h0
    try simp (config := { maxSteps := 4000000 }) only [push_cast, reduceIte, reduceCtorEq, Nat.reduceAdd, Nat.reduceSub, Nat.reduceMul, Nat.reduceEqDiff, Nat.reduceLT, Nat.reduceLeDiff]
    refine hK _ _ ?_
    clear hK K
    refine go_ret ?_
    cases h0
    refine go_end_ret ?_
    exact ⟨_, [], rfl, (.cons (.c (.bool _)) .nil), by decide, .inr (by simp only [RT.cells, List.mem_cons, List.mem_singleton, List.not_mem_nil, or_false, forall_eq, forall_eq_or_imp, allOwn_int, allOwn_bool, allOwn_str, allOwn_none, eIu8_ao, eTelegram_ao, eIi64_ao, eShunt_ao, eLIi64_ao, eSidings_ao, eNeed_ao, eRoute_ao, ePlant_ao, eLockOp_ao, eB_ao, eLocking_ao, eTask_ao, eRule_ao, eEdge_ao, eCall_ao, eTrip_ao, eBooking_ao, eNet_ao, eTrain_ao, eDesk_ao, eUse_ao, eRun_ao, eT_ao, o120Trip_ao, o33LIi64_ao, implies_true, and_true, false_implies, List.map_eq_nil_iff, and_self])⟩
  · replace h1 : _ = false := h1
    replace h0 := (bif_f h1).symm.trans h0
    try simp (config := { maxSteps := 4000000 }) only [push_cast, reduceIte, reduceCtorEq, Nat.reduceAdd, Nat.reduceSub, Nat.reduceMul, Nat.reduceEqDiff, Nat.reduceLT, Nat.reduceLeDiff]
    refine hK _ _ ?_
    clear hK K
    refine go_ret ?_
    cases h0
    refine go_end_ret ?_
    exact ⟨_, [], rfl, (.cons (.c (.bool _)) .nil), by decide, .inr (by simp only [RT.cells, List.mem_cons, List.mem_singleton, List.not_mem_nil, or_false, forall_eq, forall_eq_or_imp, allOwn_int, allOwn_bool, allOwn_str, allOwn_none, eIu8_ao, eTelegram_ao, eIi64_ao, eShunt_ao, eLIi64_ao, eSidings_ao, eNeed_ao, eRoute_ao, ePlant_ao, eLockOp_ao, eB_ao, eLocking_ao, eTask_ao, eRule_ao, eEdge_ao, eCall_ao, eTrip_ao, eBooking_ao, eNet_ao, eTrain_ao, eDesk_ao, eUse_ao, eRun_ao, eT_ao, o120Trip_ao, o33LIi64_ao, implies_true, and_true, false_implies, List.map_eq_nil_iff, and_self])⟩
end Go.V
set_option linter.unusedSimpArgs false
set_option linter.unusedVariables false
namespace Go.V
open Go Go.RowKit Go.Proofs
set_option maxHeartbeats 4000000 in
set_option maxRecDepth 100000 in
theorem impl_TelegramOk_ok {a0 : STelegram} {r : Bool} (h0 : impl_TelegramOk a0 = some r) :
    OkA Try.prog 105 [.s (eTelegram a0)] [.c (.bool r)] false := by
  unfold impl_TelegramOk at h0
  refine okA_of (n := 17) (rvs := [.tmp 2]) Try.func105 rfl rfl rfl (by simp) ?_
  simp only [slots, slotsM, widths, List.map_cons, List.sum_cons, List.sum_nil, Nat.reduceAdd, List.length_cons, List.length_nil, RT.width, unRs, unR, unCs, unC, putsO, putO, Cell.ro, List.map_cons, List.map_nil, List.nil_append, List.append_nil, List.cons_append]
  refine go_seq ?_
  refine go_region fun K hK => ?_
  try simp (config := { maxSteps := 4000000 }) only [push_cast, reduceIte, reduceCtorEq, Nat.reduceAdd, Nat.reduceSub, Nat.reduceMul, Nat.reduceEqDiff, Nat.reduceLT, Nat.reduceLeDiff]
  refine hK _ _ ?_
  clear hK K
  refine go_wk (k' := 1) (τ := mk 17 0 [(1, .c (.ptr 0 0))] (nums 0 [.box [.int .i64 a0.fSeq, .int .i64 a0.fKind, .lst (a0.fBody.map eIu8)]])) ?_ ?_
  ·
    refine wk_mk [some 0] rfl ?_ ?_ ?_ ?_ ?_
    · exact (fun i h => absurd h (by omega))
    · exact (.cons _ _ _ (sv_ptr rfl) .nil)
    · exact (.cons (.box _ _ _ rfl (.cons (sc_int (by first | rfl | (simp only [push_cast, List.map_append, List.map_set, List.map_replicate]; done) | (simp only [push_cast, List.map_append, List.map_set, List.map_replicate]; rfl))) (.cons (sc_int (by first | rfl | (simp only [push_cast, List.map_append, List.map_set, List.map_replicate]; done) | (simp only [push_cast, List.map_append, List.map_set, List.map_replicate]; rfl))) (.cons (sc_lst (by first | rfl | (simp only [push_cast, List.map_append, List.map_set, List.map_replicate]; done) | (simp only [push_cast, List.map_append, List.map_set, List.map_replicate]; rfl))) .nil)))) .nil)
    · exact by decide
    · exact by decide
  refine go_seq ?_
  refine go_region fun K hK => ?_
  try simp (config := { maxSteps := 4000000 }) only [push_cast, reduceIte, reduceCtorEq, Nat.reduceAdd, Nat.reduceSub, Nat.reduceMul, Nat.reduceEqDiff, Nat.reduceLT, Nat.reduceLeDiff]
  obtain ⟨t1, ht1, h0⟩ := bind_some' h0
  refine vops_callA (impl_between_ok ht1) cb114 (by simp only [lt_some, lt_none, mk_n, Nat.reduceLT]) (by simp only [push_cast, List.map_append, List.map_set, List.map_replicate]; rfl) (Nat.le_of_ble_eq_true rfl) ?_
  try simp (config := { maxSteps := 4000000 }) only [push_cast, reduceIte, reduceCtorEq, Nat.reduceAdd, Nat.reduceSub, Nat.reduceMul, Nat.reduceEqDiff, Nat.reduceLT, Nat.reduceLeDiff]
  refine vops_if rfl (Nat.le_of_ble_eq_true rfl) (by simp only [lt_some, lt_none, mk_n, Nat.reduceLT]) (fun h3 => ?_) (fun h3 => ?_)
  · replace h3 : _ = true := h3
    replace h0 := (bif_t h3).symm.trans h0
    try simp (config := { maxSteps := 4000000 }) only [push_cast, reduceIte, reduceCtorEq, Nat.reduceAdd, Nat.reduceSub, Nat.reduceMul, Nat.reduceEqDiff, Nat.reduceLT, Nat.reduceLeDiff]
    obtain ⟨t2, ht2, h0⟩ := bind_some' h0
    refine vops_callA (impl_between_ok ht2) cb114 (by simp only [lt_some, lt_none, mk_n, Nat.reduceLT]) (by simp only [push_cast, List.map_append, List.map_set, List.map_replicate]; rfl) (Nat.le_of_ble_eq_true rfl) ?_
    try simp (config := { maxSteps := 4000000 }) only [push_cast, reduceIte, reduceCtorEq, Nat.reduceAdd, Nat.reduceSub, Nat.reduceMul, Nat.reduceEqDiff, Nat.reduceLT, Nat.reduceLeDiff]
    refine vops_if rfl (Nat.le_of_ble_eq_true rfl) (by simp only [lt_some, lt_none, mk_n, Nat.reduceLT]) (fun h4 => ?_) (fun h4 => ?_)
    · replace h4 : _ = true := h4
      replace h0 := (bif_t h4).symm.trans h0
      try simp (config := { maxSteps := 4000000 }) only [push_cast, reduceIte, reduceCtorEq, Nat.reduceAdd, Nat.reduceSub, Nat.reduceMul, Nat.reduceEqDiff, Nat.reduceLT, Nat.reduceLeDiff]
      refine hK _ _ ?_
      clear hK K
      refine go_wk (k' := 0) (τ := mk 17 0 [(2, .c (.bool (decide ((a0.fBody.length : Int) ≤ (60 : Int)))))] (nums 0 [])) ?_ ?_
      ·
        refine wk_mk [] rfl ?_ ?_ ?_ ?_ ?_
        · exact (fun i h => absurd h (by omega))
        · exact (.cons _ _ _ (sv_bool (by first | rfl | (simp only [push_cast, List.map_append, List.map_set, List.map_replicate]; done) | (simp only [push_cast, List.map_append, List.map_set, List.map_replicate]; rfl))) .nil)
        · exact .nil
        · exact by decide
        · exact by decide
      refine go_ret ?_
      cases h0
      refine go_end_ret ?_
      exact ⟨_, [], rfl, (.cons (.c (.bool _)) .nil), by decide, .inr (by simp only [RT.cells, List.mem_cons, List.mem_singleton, List.not_mem_nil, or_false, forall_eq, forall_eq_or_imp, allOwn_int, allOwn_bool, allOwn_str, allOwn_none, eIu8_ao, eTelegram_ao, eIi64_ao, eShunt_ao, eLIi64_ao, eSidings_ao, eNeed_ao, eRoute_ao, ePlant_ao, eLockOp_ao, eB_ao, eLocking_ao, eTask_ao, eRule_ao, eEdge_ao, eCall_ao, eTrip_ao, eBooking_ao, eNet_ao, eTrain_ao, eDesk_ao, eUse_ao, eRun_ao, eT_ao, o120Trip_ao, o33LIi64_ao, implies_true, and_true, false_implies, List.map_eq_nil_iff, and_self])⟩
    · replace h4 : _ = false := h4
      replace h0 := (bif_f h4).symm.trans h0
      try simp (config := { maxSteps := 4000000 }) only [push_cast, reduceIte, reduceCtorEq, Nat.reduceAdd, Nat.reduceSub, Nat.reduceMul, Nat.reduceEqDiff, Nat.reduceLT, Nat.reduceLeDiff]
      refine hK _ _ ?_
      clear hK K
      refine go_wk (k' := 0) (τ := mk 17 0 [(2, .c (.bool false))] (nums 0 [])) ?_ ?_
      ·
        refine wk_mk [] rfl ?_ ?_ ?_ ?_ ?_
        · exact (fun i h => absurd h (by omega))
        · exact (.cons _ _ _ (sv_bool (by first | rfl | (simp only [push_cast, List.map_append, List.map_set, List.map_replicate]; done) | (simp only [push_cast, List.map_append, List.map_set, List.map_replicate]; rfl))) .nil)
        · exact .nil
        · exact by decide
        · exact by decide
      refine go_ret ?_
      cases h0
      refine go_end_ret ?_
      exact ⟨_, [], rfl, (.cons (.c (.bool _)) .nil), by decide, .inr (by simp only [RT.cells, List.mem_cons, List.mem_singleton, List.not_mem_nil, or_false, forall_eq, forall_eq_or_imp, allOwn_int, allOwn_bool, allOwn_str, allOwn_none, eIu8_ao, eTelegram_ao, eIi64_ao, eShunt_ao, eLIi64_ao, eSidings_ao, eNeed_ao, eRoute_ao, ePlant_ao, eLockOp_ao, eB_ao, eLocking_ao, eTask_ao, eRule_ao, eEdge_ao, eCall_ao, eTrip_ao, eBooking_ao, eNet_ao, eTrain_ao, eDesk_ao, eUse_ao, eRun_ao, eT_ao, o120Trip_ao, o33LIi64_ao, implies_true, and_true, false_implies, List.map_eq_nil_iff, and_self])⟩
  · replace h3 : _ = false := h3
    replace h0 := (bif_f h3).symm.trans h0
    try simp (config := { maxSteps := 4000000 }) only [push_cast, reduceIte, reduceCtorEq, Nat.reduceAdd, Nat.reduceSub, Nat.reduceMul, Nat.reduceEqDiff, Nat.reduceLT, Nat.reduceLeDiff]
    refine hK _ _ ?_
    clear hK K
    refine go_wk (k' := 0) (τ := mk 17 0 [(2, .c (.bool false))] (nums 0 [])) ?_ ?_
    ·
      refine wk_mk [] rfl ?_ ?_ ?_ ?_ ?_
      · exact (fun i h => absurd h (by omega))
      · exact (.cons _ _ _ (sv_bool (by first | rfl | (simp only [push_cast, List.map_append, List.map_set, List.map_replicate]; done) | (simp only [push_cast, List.map_append, List.map_set, List.map_replicate]; rfl))) .nil)
      · exact .nil
      · exact by decide
      · exact by decide
    refine go_ret ?_
    cases h0
    refine go_end_ret ?_
    exact ⟨_, [], rfl, (.cons (.c (.bool _)) .nil), by decide, .inr (by simp only [RT.cells, List.mem_cons, List.mem_singleton, List.not_mem_nil, or_false, forall_eq, forall_eq_or_imp, allOwn_int, allOwn_bool, allOwn_str, allOwn_none, eIu8_ao, eTelegram_ao, eIi64_ao, eShunt_ao, eLIi64_ao, eSidings_ao, eNeed_ao, eRoute_ao, ePlant_ao, eLockOp_ao, eB_ao, eLocking_ao, eTask_ao, eRule_ao, eEdge_ao, eCall_ao, eTrip_ao, eBooking_ao, eNet_ao, eTrain_ao, eDesk_ao, eUse_ao, eRun_ao, eT_ao, o120Trip_ao, o33LIi64_ao, implies_true, and_true, false_implies, List.map_eq_nil_iff, and_self])⟩
end Go.V
set_option linter.unusedSimpArgs false
set_option linter.unusedVariables false
namespace Go.V
open Go Go.RowKit Go.Proofs
set_option maxHeartbeats 4000000 in
set_option maxRecDepth 100000 in
theorem impl_Crc8_ok {a0 : (List Int)} {r : Int} (h0 : impl_Crc8 a0 = some r) :
    OkA Try.prog 245 [.v (.sl none (a0.map eIu8))] [.c (.int .i64 r)] false := by
  unfold impl_Crc8 at h0
  refine okA_of (n := 31) (rvs := [.tmp 2]) Try.func245 rfl rfl rfl (by simp) ?_
  simp only [slots, slotsM, widths, List.map_cons, List.sum_cons, List.sum_nil, Nat.reduceAdd, List.length_cons, List.length_nil, RT.width, unRs, unR, unCs, unC, putsO, putO, Cell.ro, List.map_cons, List.map_nil, List.nil_append, List.append_nil, List.cons_append]
  refine go_seq ?_
  refine go_region fun K hK => ?_
  try simp (config := { maxSteps := 4000000 }) only [push_cast, reduceIte, reduceCtorEq, Nat.reduceAdd, Nat.reduceSub, Nat.reduceMul, Nat.reduceEqDiff, Nat.reduceLT, Nat.reduceLeDiff]
  refine hK _ _ ?_
  clear hK K
  refine go_seq ?_
  refine go_seq ?_
  refine go_region fun K hK => ?_
  try simp (config := { maxSteps := 4000000 }) only [push_cast, reduceIte, reduceCtorEq, Nat.reduceAdd, Nat.reduceSub, Nat.reduceMul, Nat.reduceEqDiff, Nat.reduceLT, Nat.reduceLeDiff]
  refine hK _ _ ?_
  clear hK K
  refine go_cond _ rfl (fun h10 => ?_) (fun h10 => ?_)
  · replace h0 := (bif_t h10).symm.trans h0
    refine go_seq ?_
    refine go_region fun K hK => ?_
    try simp (config := { maxSteps := 4000000 }) only [push_cast, reduceIte, reduceCtorEq, Nat.reduceAdd, Nat.reduceSub, Nat.reduceMul, Nat.reduceEqDiff, Nat.reduceLT, Nat.reduceLeDiff]
    refine hK _ _ ?_
    clear hK K
    refine go_ret ?_
    refine go_out_ret ?_
    cases h0
    refine go_end_ret ?_
    exact ⟨_, [], rfl, (.cons (.c (.int _ _)) .nil), by decide, .inr (by simp only [RT.cells, List.mem_cons, List.mem_singleton, List.not_mem_nil, or_false, forall_eq, forall_eq_or_imp, allOwn_int, allOwn_bool, allOwn_str, allOwn_none, eIu8_ao, eTelegram_ao, eIi64_ao, eShunt_ao, eLIi64_ao, eSidings_ao, eNeed_ao, eRoute_ao, ePlant_ao, eLockOp_ao, eB_ao, eLocking_ao, eTask_ao, eRule_ao, eEdge_ao, eCall_ao, eTrip_ao, eBooking_ao, eNet_ao, eTrain_ao, eDesk_ao, eUse_ao, eRun_ao, eT_ao, o120Trip_ao, o33LIi64_ao, implies_true, and_true, false_implies, List.map_eq_nil_iff, and_self])⟩
  · replace h0 := (bif_f h10).symm.trans h0
    refine go_skip ?_
    refine go_seq ?_
    refine go_region fun K hK => ?_
    try simp (config := { maxSteps := 4000000 }) only [push_cast, reduceIte, reduceCtorEq, Nat.reduceAdd, Nat.reduceSub, Nat.reduceMul, Nat.reduceEqDiff, Nat.reduceLT, Nat.reduceLeDiff]
    refine hK _ _ ?_
    clear hK K
    refine go_seq ?_
    refine go_seq ?_
    refine go_region fun K hK => ?_
    try simp (config := { maxSteps := 4000000 }) only [push_cast, reduceIte, reduceCtorEq, Nat.reduceAdd, Nat.reduceSub, Nat.reduceMul, Nat.reduceEqDiff, Nat.reduceLT, Nat.reduceLeDiff]
    refine hK _ _ ?_
    clear hK K
    obtain ⟨o11, h12, h0⟩ := bind_some' h0
    obtain ⟨m13, h14⟩ := loop_runs h12
    clear h12
    refine go_cut (fun k σ => ∃ x9 : Int, o11 = x9 ∧ Wk k σ 0 (mk 31 0 [(3, .c (.int .i64 x9))] (nums 0 []))) ?_ ?_
    ·
      refine go_block (go_loop (fun n k σ => ∃ x4 : Int, ∃ x5 : Int, Runs (fun v => impl_Crc8_b0 a0 v.1 v.2) n (x4, x5) o11 ∧ Wk k σ 0 (mk 31 0 [(3, .c (.int .i64 x4)), (9, .c (.lst (a0.map eIu8))), (10, .c (.int .i64 (a0.length : Int))), (11, .c (.int .i64 x5))] (nums 0 []))) m13 ⟨(0 : Int), (0 : Int), h14, ?_⟩ ?_)
      ·
        refine wk_mk [] rfl ?_ ?_ ?_ ?_ ?_
        · exact (fun i h => absurd h (by omega))
        · exact (.cons _ _ _ (sv_int (by first | rfl | (simp only [push_cast, List.map_append, List.map_set, List.map_replicate]; done) | (simp only [push_cast, List.map_append, List.map_set, List.map_replicate]; rfl))) (.cons _ _ _ (sv_lst (by first | rfl | (simp only [push_cast, List.map_append, List.map_set, List.map_replicate]; done) | (simp only [push_cast, List.map_append, List.map_set, List.map_replicate]; rfl))) (.cons _ _ _ (sv_int (by first | rfl | (simp only [push_cast, List.map_append, List.map_set, List.map_replicate]; done) | (simp only [push_cast, List.map_append, List.map_set, List.map_replicate]; rfl))) (.cons _ _ _ (sv_int (by first | rfl | (simp only [push_cast, List.map_append, List.map_set, List.map_replicate]; done) | (simp only [push_cast, List.map_append, List.map_set, List.map_replicate]; rfl))) .nil))))
        · exact .nil
        · exact by decide
        · exact by decide
      clear h14
      rintro n15 k16 s17 ⟨x4, x5, h18, h19⟩
      refine go_wk h19 ?_
      obtain ⟨y20, h21, h22⟩ := h18.next
      clear h19 h18
      replace h21 : impl_Crc8_b0 a0 x4 x5 = some y20 := h21
      unfold impl_Crc8_b0 at h21
      refine go_seq ?_
      refine go_region fun K hK => ?_
      try simp (config := { maxSteps := 4000000 }) only [push_cast, reduceIte, reduceCtorEq, Nat.reduceAdd, Nat.reduceSub, Nat.reduceMul, Nat.reduceEqDiff, Nat.reduceLT, Nat.reduceLeDiff]
      refine hK _ _ ?_
      clear hK K
      refine go_seq ?_
      refine go_cond _ rfl (fun h23 => ?_) (fun h23 => ?_)
      · replace h21 := (bif_t h23).symm.trans h21
        refine go_skip ?_
        refine go_seq ?_
        refine go_block ?_
        refine go_seq ?_
        refine go_region fun K hK => ?_
        obtain ⟨h24, h21⟩ := ite_some' h21
        try simp (config := { maxSteps := 4000000 }) only [push_cast, reduceIte, reduceCtorEq, Nat.reduceAdd, Nat.reduceSub, Nat.reduceMul, Nat.reduceEqDiff, Nat.reduceLT, Nat.reduceLeDiff, rd_some h24]
        repeat (refine And.intro ?_ ?_; · ((repeat' apply And.intro) <;> first | assumption | omega | kernel_rfl | decide | (simp; done) | (simp only [List.length_cons, List.length_nil, List.length_append, List.length_map, List.length_set, List.length_replicate, List.length_take, List.length_drop] at *; omega)))
        refine hK _ _ ?_
        clear hK K
        refine go_seq ?_
        refine go_region fun K hK => ?_
        try simp (config := { maxSteps := 4000000 }) only [push_cast, reduceIte, reduceCtorEq, Nat.reduceAdd, Nat.reduceSub, Nat.reduceMul, Nat.reduceEqDiff, Nat.reduceLT, Nat.reduceLeDiff]
        refine hK _ _ ?_
        clear hK K
        refine go_seq ?_
        refine go_region fun K hK => ?_
        try simp (config := { maxSteps := 4000000 }) only [push_cast, reduceIte, reduceCtorEq, Nat.reduceAdd, Nat.reduceSub, Nat.reduceMul, Nat.reduceEqDiff, Nat.reduceLT, Nat.reduceLeDiff]
        refine hK _ _ ?_
        clear hK K
        obtain ⟨o25, h26, h21⟩ := bind_some' h21
        obtain ⟨m27, h28⟩ := loop_runs h26
        clear h26
        refine go_cut (fun k σ => ∃ x8 : Int, o25 = x8 ∧ Wk k σ 0 (mk 31 0 [(3, .c (.int .i64 x8)), (9, .c (.lst (a0.map eIu8))), (10, .c (.int .i64 (a0.length : Int))), (11, .c (.int .i64 x5))] (nums 0 []))) ?_ ?_
        ·
          refine go_block (go_loop (fun n k σ => ∃ x6 : Int, ∃ x7 : Int, Runs (fun v => impl_Crc8_b2 v.1 v.2) n (x6, x7) o25 ∧ Wk k σ 0 (mk 31 0 [(3, .c (.int .i64 x6)), (9, .c (.lst (a0.map eIu8))), (10, .c (.int .i64 (a0.length : Int))), (11, .c (.int .i64 x5)), (19, .c (.int .i64 x7))] (nums 0 []))) m27 ⟨(IntKind.i64.wrap (((BitVec.ofInt IntKind.i64.bits x4 ^^^ BitVec.ofInt IntKind.i64.bits (IntKind.i64.wrap (rd a0 x5))).toNat : Int))), (0 : Int), h28, ?_⟩ ?_)
          ·
            refine wk_mk [] rfl ?_ ?_ ?_ ?_ ?_
            · exact (fun i h => absurd h (by omega))
            · exact (.cons _ _ _ (sv_int (by first | rfl | (simp only [push_cast, List.map_append, List.map_set, List.map_replicate]; done) | (simp only [push_cast, List.map_append, List.map_set, List.map_replicate]; rfl))) (.cons _ _ _ (sv_lst (by first | rfl | (simp only [push_cast, List.map_append, List.map_set, List.map_replicate]; done) | (simp only [push_cast, List.map_append, List.map_set, List.map_replicate]; rfl))) (.cons _ _ _ (sv_int (by first | rfl | (simp only [push_cast, List.map_append, List.map_set, List.map_replicate]; done) | (simp only [push_cast, List.map_append, List.map_set, List.map_replicate]; rfl))) (.cons _ _ _ (sv_int (by first | rfl | (simp only [push_cast, List.map_append, List.map_set, List.map_replicate]; done) | (simp only [push_cast, List.map_append, List.map_set, List.map_replicate]; rfl))) (.cons _ _ _ (sv_int (by first | rfl | (simp only [push_cast, List.map_append, List.map_set, List.map_replicate]; done) | (simp only [push_cast, List.map_append, List.map_set, List.map_replicate]; rfl))) .nil)))))
            · exact .nil
            · exact by decide
            · exact by decide
          clear h28
          rintro n29 k30 s31 ⟨x6, x7, h32, h33⟩
          refine go_wk h33 ?_
          obtain ⟨y34, h35, h36⟩ := h32.next
          clear h33 h32
          replace h35 : impl_Crc8_b2 x6 x7 = some y34 := h35
          unfold impl_Crc8_b2 at h35
          refine go_seq ?_
          refine go_region fun K hK => ?_
          try simp (config := { maxSteps := 4000000 }) only [push_cast, reduceIte, reduceCtorEq, Nat.reduceAdd, Nat.reduceSub, Nat.reduceMul, Nat.reduceEqDiff, Nat.reduceLT, Nat.reduceLeDiff]
          refine hK _ _ ?_
          clear hK K
          refine go_seq ?_
          refine go_cond _ rfl (fun h37 => ?_) (fun h37 => ?_)
          · replace h35 := (bif_t h37).symm.trans h35
            refine go_skip ?_
            refine go_seq ?_
            refine go_block ?_
            refine go_seq ?_
            refine go_region fun K hK => ?_
            try simp (config := { maxSteps := 4000000 }) only [push_cast, reduceIte, reduceCtorEq, Nat.reduceAdd, Nat.reduceSub, Nat.reduceMul, Nat.reduceEqDiff, Nat.reduceLT, Nat.reduceLeDiff]
            refine hK _ _ ?_
            clear hK K
            refine go_seq ?_
            refine go_region fun K hK => ?_
            try simp (config := { maxSteps := 4000000 }) only [push_cast, reduceIte, reduceCtorEq, Nat.reduceAdd, Nat.reduceSub, Nat.reduceMul, Nat.reduceEqDiff, Nat.reduceLT, Nat.reduceLeDiff]
            refine hK _ _ ?_
            clear hK K
            refine go_cond _ rfl (fun h38 => ?_) (fun h38 => ?_)
            · replace h35 := (bif_t h38).symm.trans h35
              refine go_region fun K hK => ?_
              try simp (config := { maxSteps := 4000000 }) only [push_cast, reduceIte, reduceCtorEq, Nat.reduceAdd, Nat.reduceSub, Nat.reduceMul, Nat.reduceEqDiff, Nat.reduceLT, Nat.reduceLeDiff]
              refine hK _ _ ?_
              clear hK K
              refine go_blk 3 ?_
              refine go_region fun K hK => ?_
              try simp (config := { maxSteps := 4000000 }) only [push_cast, reduceIte, reduceCtorEq, Nat.reduceAdd, Nat.reduceSub, Nat.reduceMul, Nat.reduceEqDiff, Nat.reduceLT, Nat.reduceLeDiff]
              refine hK _ _ ?_
              clear hK K
              have e39 := Option.some.inj h35
              rw [← e39] at h36
              obtain ⟨m40, h41, h42⟩ := h36
              refine go_lp ⟨m40, h41, (IntKind.i64.wrap (((BitVec.ofInt IntKind.i64.bits (IntKind.i64.wrap ((IntKind.i64.wrap (x6 * (2 : Int))) - (256 : Int))) ^^^ BitVec.ofInt IntKind.i64.bits (7 : Int)).toNat : Int))), (IntKind.i64.wrap (x7 + (1 : Int))), h42, ?_⟩
              refine wk_mk [] rfl ?_ ?_ ?_ ?_ ?_
              · exact (fun i h => absurd h (by omega))
              · exact (.cons _ _ _ (sv_int (by first | rfl | (simp only [push_cast, List.map_append, List.map_set, List.map_replicate]; done) | (simp only [push_cast, List.map_append, List.map_set, List.map_replicate]; rfl))) (.cons _ _ _ (sv_lst (by first | rfl | (simp only [push_cast, List.map_append, List.map_set, List.map_replicate]; done) | (simp only [push_cast, List.map_append, List.map_set, List.map_replicate]; rfl))) (.cons _ _ _ (sv_int (by first | rfl | (simp only [push_cast, List.map_append, List.map_set, List.map_replicate]; done) | (simp only [push_cast, List.map_append, List.map_set, List.map_replicate]; rfl))) (.cons _ _ _ (sv_int (by first | rfl | (simp only [push_cast, List.map_append, List.map_set, List.map_replicate]; done) | (simp only [push_cast, List.map_append, List.map_set, List.map_replicate]; rfl))) (.cons _ _ _ (sv_int (by first | rfl | (simp only [push_cast, List.map_append, List.map_set, List.map_replicate]; done) | (simp only [push_cast, List.map_append, List.map_set, List.map_replicate]; rfl))) .nil)))))
              · exact .nil
              · exact by decide
              · exact by decide
            · replace h35 := (bif_f h38).symm.trans h35
              refine go_skip ?_
              refine go_blk 3 ?_
              refine go_region fun K hK => ?_
              try simp (config := { maxSteps := 4000000 }) only [push_cast, reduceIte, reduceCtorEq, Nat.reduceAdd, Nat.reduceSub, Nat.reduceMul, Nat.reduceEqDiff, Nat.reduceLT, Nat.reduceLeDiff]
              refine hK _ _ ?_
              clear hK K
              have e43 := Option.some.inj h35
              rw [← e43] at h36
              obtain ⟨m44, h45, h46⟩ := h36
              refine go_lp ⟨m44, h45, (IntKind.i64.wrap (x6 * (2 : Int))), (IntKind.i64.wrap (x7 + (1 : Int))), h46, ?_⟩
              refine wk_mk [] rfl ?_ ?_ ?_ ?_ ?_
              · exact (fun i h => absurd h (by omega))
              · exact (.cons _ _ _ (sv_int (by first | rfl | (simp only [push_cast, List.map_append, List.map_set, List.map_replicate]; done) | (simp only [push_cast, List.map_append, List.map_set, List.map_replicate]; rfl))) (.cons _ _ _ (sv_lst (by first | rfl | (simp only [push_cast, List.map_append, List.map_set, List.map_replicate]; done) | (simp only [push_cast, List.map_append, List.map_set, List.map_replicate]; rfl))) (.cons _ _ _ (sv_int (by first | rfl | (simp only [push_cast, List.map_append, List.map_set, List.map_replicate]; done) | (simp only [push_cast, List.map_append, List.map_set, List.map_replicate]; rfl))) (.cons _ _ _ (sv_int (by first | rfl | (simp only [push_cast, List.map_append, List.map_set, List.map_replicate]; done) | (simp only [push_cast, List.map_append, List.map_set, List.map_replicate]; rfl))) (.cons _ _ _ (sv_int (by first | rfl | (simp only [push_cast, List.map_append, List.map_set, List.map_replicate]; done) | (simp only [push_cast, List.map_append, List.map_set, List.map_replicate]; rfl))) .nil)))))
              · exact .nil
              · exact by decide
              · exact by decide
          · replace h35 := (bif_f h37).symm.trans h35
            refine go_exit ?_
            refine go_out ?_
            refine go_lp_out ?_
            refine go_blk_at ?_
            have e47 := Option.some.inj h35
            rw [← e47] at h36
            replace h36 : _ = _ := h36
            refine go_lp ⟨x6, h36.symm, ?_⟩
            refine wk_mk [] rfl ?_ ?_ ?_ ?_ ?_
            · exact (fun i h => absurd h (by omega))
            · exact (.cons _ _ _ (sv_int (by first | rfl | (simp only [push_cast, List.map_append, List.map_set, List.map_replicate]; done) | (simp only [push_cast, List.map_append, List.map_set, List.map_replicate]; rfl))) (.cons _ _ _ (sv_lst (by first | rfl | (simp only [push_cast, List.map_append, List.map_set, List.map_replicate]; done) | (simp only [push_cast, List.map_append, List.map_set, List.map_replicate]; rfl))) (.cons _ _ _ (sv_int (by first | rfl | (simp only [push_cast, List.map_append, List.map_set, List.map_replicate]; done) | (simp only [push_cast, List.map_append, List.map_set, List.map_replicate]; rfl))) (.cons _ _ _ (sv_int (by first | rfl | (simp only [push_cast, List.map_append, List.map_set, List.map_replicate]; done) | (simp only [push_cast, List.map_append, List.map_set, List.map_replicate]; rfl))) .nil))))
            · exact .nil
            · exact by decide
            · exact by decide
        · rintro k σ ⟨x8, h48q, h48⟩
          rw [h48q] at h21
          try dsimp only [Sum.elim_inl] at h21
          refine go_blk 1 ?_
          refine go_wk h48 ?_
          clear h48
          refine go_region fun K hK => ?_
          try simp (config := { maxSteps := 4000000 }) only [push_cast, reduceIte, reduceCtorEq, Nat.reduceAdd, Nat.reduceSub, Nat.reduceMul, Nat.reduceEqDiff, Nat.reduceLT, Nat.reduceLeDiff]
          refine hK _ _ ?_
          clear hK K
          have e49 := Option.some.inj h21
          rw [← e49] at h22
          obtain ⟨m50, h51, h52⟩ := h22
          refine go_lp ⟨m50, h51, x8, (IntKind.i64.wrap (x5 + (1 : Int))), h52, ?_⟩
          refine wk_mk [] rfl ?_ ?_ ?_ ?_ ?_
          · exact (fun i h => absurd h (by omega))
          · exact (.cons _ _ _ (sv_int (by first | rfl | (simp only [push_cast, List.map_append, List.map_set, List.map_replicate]; done) | (simp only [push_cast, List.map_append, List.map_set, List.map_replicate]; rfl))) (.cons _ _ _ (sv_lst (by first | rfl | (simp only [push_cast, List.map_append, List.map_set, List.map_replicate]; done) | (simp only [push_cast, List.map_append, List.map_set, List.map_replicate]; rfl))) (.cons _ _ _ (sv_int (by first | rfl | (simp only [push_cast, List.map_append, List.map_set, List.map_replicate]; done) | (simp only [push_cast, List.map_append, List.map_set, List.map_replicate]; rfl))) (.cons _ _ _ (sv_int (by first | rfl | (simp only [push_cast, List.map_append, List.map_set, List.map_replicate]; done) | (simp only [push_cast, List.map_append, List.map_set, List.map_replicate]; rfl))) .nil))))
          · exact .nil
          · exact by decide
          · exact by decide
      · replace h21 := (bif_f h23).symm.trans h21
        refine go_exit ?_
        refine go_out ?_
        refine go_lp_out ?_
        refine go_blk_at ?_
        have e53 := Option.some.inj h21
        rw [← e53] at h22
        replace h22 : _ = _ := h22
        refine go_lp ⟨x4, h22.symm, ?_⟩
        refine wk_mk [] rfl ?_ ?_ ?_ ?_ ?_
        · exact (fun i h => absurd h (by omega))
        · exact (.cons _ _ _ (sv_int (by first | rfl | (simp only [push_cast, List.map_append, List.map_set, List.map_replicate]; done) | (simp only [push_cast, List.map_append, List.map_set, List.map_replicate]; rfl))) .nil)
        · exact .nil
        · exact by decide
        · exact by decide
    · rintro k σ ⟨x9, h54q, h54⟩
      rw [h54q] at h0
      try dsimp only [Sum.elim_inl] at h0
      refine go_seq ?_
      refine go_wk h54 ?_
      clear h54
      refine go_region fun K hK => ?_
      try simp (config := { maxSteps := 4000000 }) only [push_cast, reduceIte, reduceCtorEq, Nat.reduceAdd, Nat.reduceSub, Nat.reduceMul, Nat.reduceEqDiff, Nat.reduceLT, Nat.reduceLeDiff]
      refine hK _ _ ?_
      clear hK K
      refine go_ret ?_
      cases h0
      refine go_end_ret ?_
      exact ⟨_, [], rfl, (.cons (.c (.int _ _)) .nil), by decide, .inr (by simp only [RT.cells, List.mem_cons, List.mem_singleton, List.not_mem_nil, or_false, forall_eq, forall_eq_or_imp, allOwn_int, allOwn_bool, allOwn_str, allOwn_none, eIu8_ao, eTelegram_ao, eIi64_ao, eShunt_ao, eLIi64_ao, eSidings_ao, eNeed_ao, eRoute_ao, ePlant_ao, eLockOp_ao, eB_ao, eLocking_ao, eTask_ao, eRule_ao, eEdge_ao, eCall_ao, eTrip_ao, eBooking_ao, eNet_ao, eTrain_ao, eDesk_ao, eUse_ao, eRun_ao, eT_ao, o120Trip_ao, o33LIi64_ao, implies_true, and_true, false_implies, List.map_eq_nil_iff, and_self])⟩
end Go.V
set_option linter.unusedSimpArgs false
set_option linter.unusedVariables false
namespace Go.V
open Go Go.RowKit Go.Proofs
set_option maxHeartbeats 4000000 in
set_option maxRecDepth 100000 in
theorem impl_load_ok {a0 : STelegram} {r : (List Int)} (h0 : impl_load a0 = some r) :
    OkA Try.prog 187 [.s (eTelegram a0)] [.c (.sl (some (5, 1)) (r.map eIu8))] false := by
  unfold impl_load at h0
  refine okA_of (n := 24) (rvs := [.tmp 2]) Try.func187 rfl rfl rfl (by simp) ?_
  simp only [slots, slotsM, widths, List.map_cons, List.sum_cons, List.sum_nil, Nat.reduceAdd, List.length_cons, List.length_nil, RT.width, unRs, unR, unCs, unC, putsO, putO, Cell.ro, List.map_cons, List.map_nil, List.nil_append, List.append_nil, List.cons_append]
  refine go_seq ?_
  refine go_region fun K hK => ?_
  try simp (config := { maxSteps := 4000000 }) only [push_cast, reduceIte, reduceCtorEq, Nat.reduceAdd, Nat.reduceSub, Nat.reduceMul, Nat.reduceEqDiff, Nat.reduceLT, Nat.reduceLeDiff]
  refine hK _ _ ?_
  clear hK K
  refine go_wk (k' := 1) (τ := mk 24 0 [(1, .c (.ptr 0 0))] (nums 0 [.box [.int .i64 a0.fSeq, .int .i64 a0.fKind, .lst (a0.fBody.map eIu8)]])) ?_ ?_
  ·
    refine wk_mk [some 0] rfl ?_ ?_ ?_ ?_ ?_
    · exact (fun i h => absurd h (by omega))
    · exact (.cons _ _ _ (sv_ptr rfl) .nil)
    · exact (.cons (.box _ _ _ rfl (.cons (sc_int (by first | rfl | (simp only [push_cast, List.map_append, List.map_set, List.map_replicate]; done) | (simp only [push_cast, List.map_append, List.map_set, List.map_replicate]; rfl))) (.cons (sc_int (by first | rfl | (simp only [push_cast, List.map_append, List.map_set, List.map_replicate]; done) | (simp only [push_cast, List.map_append, List.map_set, List.map_replicate]; rfl))) (.cons (sc_lst (by first | rfl | (simp only [push_cast, List.map_append, List.map_set, List.map_replicate]; done) | (simp only [push_cast, List.map_append, List.map_set, List.map_replicate]; rfl))) .nil)))) .nil)
    · exact by decide
    · exact by decide
  refine go_seq ?_
  refine go_region fun K hK => ?_
  obtain ⟨h2, h0⟩ := ite_some' h0
  try simp (config := { maxSteps := 4000000 }) only [push_cast, reduceIte, reduceCtorEq, Nat.reduceAdd, Nat.reduceSub, Nat.reduceMul, Nat.reduceEqDiff, Nat.reduceLT, Nat.reduceLeDiff]
  repeat (refine And.intro ?_ ?_; · ((repeat' apply And.intro) <;> first | assumption | omega | kernel_rfl | decide | (simp; done) | (simp only [List.length_cons, List.length_nil, List.length_append, List.length_map, List.length_set, List.length_replicate, List.length_take, List.length_drop] at *; omega)))
  refine hK _ _ ?_
  clear hK K
  refine go_wk (k' := 1) (τ := mk 24 0 [(3, .c (.own 0))] (nums 0 [.row 5 1 (([(IntKind.u8.wrap a0.fSeq), (IntKind.u8.wrap a0.fKind), (IntKind.u8.wrap (a0.fBody.length : Int))] ++ a0.fBody).map eIu8)])) ?_ ?_
  ·
    refine wk_mk [some 417] rfl ?_ ?_ ?_ ?_ ?_
    · exact (fun i h => absurd h (by omega))
    · exact (.cons _ _ _ (sv_own rfl) .nil)
    · exact (.cons (so_row rfl (by first | rfl | (simp only [push_cast, List.map_append, List.map_set, List.map_replicate]; done) | (simp only [push_cast, List.map_append, List.map_set, List.map_replicate]; rfl))) .nil)
    · exact by decide
    · exact by decide
  refine go_seq ?_
  refine go_region fun K hK => ?_
  try simp (config := { maxSteps := 4000000 }) only [push_cast, reduceIte, reduceCtorEq, Nat.reduceAdd, Nat.reduceSub, Nat.reduceMul, Nat.reduceEqDiff, Nat.reduceLT, Nat.reduceLeDiff]
  repeat (refine And.intro ?_ ?_; · ((repeat' apply And.intro) <;> first | assumption | omega | kernel_rfl | decide | (simp; done) | (simp only [List.length_cons, List.length_nil, List.length_append, List.length_map, List.length_set, List.length_replicate, List.length_take, List.length_drop] at *; omega)))
  obtain ⟨t1, ht1, h0⟩ := bind_some' h0
  refine vops_callA (impl_Crc8_ok ht1) cb245 (by simp only [lt_some, lt_none, mk_n, Nat.reduceLT]) (by simp only [push_cast, List.map_append, List.map_set, List.map_replicate]; rfl) (Nat.le_of_ble_eq_true rfl) ?_
  obtain ⟨h3, h0⟩ := ite_some' h0
  try simp (config := { maxSteps := 4000000 }) only [push_cast, reduceIte, reduceCtorEq, Nat.reduceAdd, Nat.reduceSub, Nat.reduceMul, Nat.reduceEqDiff, Nat.reduceLT, Nat.reduceLeDiff]
  repeat (refine And.intro ?_ ?_; · ((repeat' apply And.intro) <;> first | assumption | omega | kernel_rfl | decide | (simp; done) | (simp only [List.length_cons, List.length_nil, List.length_append, List.length_map, List.length_set, List.length_replicate, List.length_take, List.length_drop] at *; omega)))
  refine hK _ _ ?_
  clear hK K
  refine go_wk (k' := 1) (τ := mk 24 0 [(2, .c (.own 0))] (nums 0 [.row 5 1 ((([(IntKind.u8.wrap a0.fSeq), (IntKind.u8.wrap a0.fKind), (IntKind.u8.wrap (a0.fBody.length : Int))] ++ a0.fBody) ++ [(IntKind.u8.wrap t1)]).map eIu8)])) ?_ ?_
  ·
    refine wk_mk [some 161] rfl ?_ ?_ ?_ ?_ ?_
    · exact (fun i h => absurd h (by omega))
    · exact (.cons _ _ _ (sv_own rfl) .nil)
    · exact (.cons (so_row rfl (by first | rfl | (simp only [push_cast, List.map_append, List.map_set, List.map_replicate]; done) | (simp only [push_cast, List.map_append, List.map_set, List.map_replicate]; rfl))) .nil)
    · exact by decide
    · exact by decide
  refine go_ret ?_
  cases h0
  refine go_end_ret ?_
  exact ⟨_, [0], rfl, (.cons (.c (mc_own rfl (by first | rfl | (simp only [push_cast, List.map_append, List.map_set, List.map_replicate]; done) | (simp only [push_cast, List.map_append, List.map_set, List.map_replicate]; rfl)))) .nil), by decide, .inr (by simp only [RT.cells, List.mem_cons, List.mem_singleton, List.not_mem_nil, or_false, forall_eq, forall_eq_or_imp, allOwn_int, allOwn_bool, allOwn_str, allOwn_none, eIu8_ao, eTelegram_ao, eIi64_ao, eShunt_ao, eLIi64_ao, eSidings_ao, eNeed_ao, eRoute_ao, ePlant_ao, eLockOp_ao, eB_ao, eLocking_ao, eTask_ao, eRule_ao, eEdge_ao, eCall_ao, eTrip_ao, eBooking_ao, eNet_ao, eTrain_ao, eDesk_ao, eUse_ao, eRun_ao, eT_ao, o120Trip_ao, o33LIi64_ao, implies_true, and_true, false_implies, List.map_eq_nil_iff, and_self])⟩
end Go.V
set_option linter.unusedSimpArgs false
set_option linter.unusedVariables false
namespace Go.V
open Go Go.RowKit Go.Proofs
set_option maxHeartbeats 4000000 in
set_option maxRecDepth 100000 in
theorem impl_Encode_ok {a0 : STelegram} {r : (List Int)} (h0 : impl_Encode a0 = some r) :
    OkA Try.prog 107 [.s (eTelegram a0)] [.c (.sl (some (5, 1)) (r.map eIu8))] false := by
  unfold impl_Encode at h0
  refine okA_of (n := 36) (rvs := [.tmp 2]) Try.func107 rfl rfl rfl (by simp) ?_
  simp only [slots, slotsM, widths, List.map_cons, List.sum_cons, List.sum_nil, Nat.reduceAdd, List.length_cons, List.length_nil, RT.width, unRs, unR, unCs, unC, putsO, putO, Cell.ro, List.map_cons, List.map_nil, List.nil_append, List.append_nil, List.cons_append]
  refine go_seq ?_
  refine go_region fun K hK => ?_
  try simp (config := { maxSteps := 4000000 }) only [push_cast, reduceIte, reduceCtorEq, Nat.reduceAdd, Nat.reduceSub, Nat.reduceMul, Nat.reduceEqDiff, Nat.reduceLT, Nat.reduceLeDiff]
  refine hK _ _ ?_
  clear hK K
  refine go_wk (k' := 1) (τ := mk 36 0 [(1, .c (.ptr 0 0))] (nums 0 [.box [.int .i64 a0.fSeq, .int .i64 a0.fKind, .lst (a0.fBody.map eIu8)]])) ?_ ?_
  ·
    refine wk_mk [some 0] rfl ?_ ?_ ?_ ?_ ?_
    · exact (fun i h => absurd h (by omega))
    · exact (.cons _ _ _ (sv_ptr rfl) .nil)
    · exact (.cons (.box _ _ _ rfl (.cons (sc_int (by first | rfl | (simp only [push_cast, List.map_append, List.map_set, List.map_replicate]; done) | (simp only [push_cast, List.map_append, List.map_set, List.map_replicate]; rfl))) (.cons (sc_int (by first | rfl | (simp only [push_cast, List.map_append, List.map_set, List.map_replicate]; done) | (simp only [push_cast, List.map_append, List.map_set, List.map_replicate]; rfl))) (.cons (sc_lst (by first | rfl | (simp only [push_cast, List.map_append, List.map_set, List.map_replicate]; done) | (simp only [push_cast, List.map_append, List.map_set, List.map_replicate]; rfl))) .nil)))) .nil)
    · exact by decide
    · exact by decide
  refine go_seq ?_
  refine go_seq ?_
  refine go_region fun K hK => ?_
  try simp (config := { maxSteps := 4000000 }) only [push_cast, reduceIte, reduceCtorEq, Nat.reduceAdd, Nat.reduceSub, Nat.reduceMul, Nat.reduceEqDiff, Nat.reduceLT, Nat.reduceLeDiff]
  obtain ⟨t1, ht1, h0⟩ := bind_some' h0
  refine vops_callA (impl_TelegramOk_ok ht1) cb105 (by simp only [lt_some, lt_none, mk_n, Nat.reduceLT]) (by simp only [push_cast, List.map_append, List.map_set, List.map_replicate]; rfl) (Nat.le_of_ble_eq_true rfl) ?_
  try simp (config := { maxSteps := 4000000 }) only [push_cast, reduceIte, reduceCtorEq, Nat.reduceAdd, Nat.reduceSub, Nat.reduceMul, Nat.reduceEqDiff, Nat.reduceLT, Nat.reduceLeDiff]
  refine hK _ _ ?_
  clear hK K
  refine go_wk (k' := 1) (τ := mk 36 0 [(1, .c (.ptr 0 0)), (8, .c (.bool (!t1)))] (nums 0 [.box [.int .i64 a0.fSeq, .int .i64 a0.fKind, .lst (a0.fBody.map eIu8)]])) ?_ ?_
  ·
    refine wk_mk [some 0] rfl ?_ ?_ ?_ ?_ ?_
    · exact (fun i h => absurd h (by omega))
    · exact (.cons _ _ _ (sv_ptr rfl) (.cons _ _ _ (sv_bool (by first | rfl | (simp only [push_cast, List.map_append, List.map_set, List.map_replicate]; done) | (simp only [push_cast, List.map_append, List.map_set, List.map_replicate]; rfl))) .nil))
    · exact (.cons (.box _ _ _ rfl (.cons (sc_int (by first | rfl | (simp only [push_cast, List.map_append, List.map_set, List.map_replicate]; done) | (simp only [push_cast, List.map_append, List.map_set, List.map_replicate]; rfl))) (.cons (sc_int (by first | rfl | (simp only [push_cast, List.map_append, List.map_set, List.map_replicate]; done) | (simp only [push_cast, List.map_append, List.map_set, List.map_replicate]; rfl))) (.cons (sc_lst (by first | rfl | (simp only [push_cast, List.map_append, List.map_set, List.map_replicate]; done) | (simp only [push_cast, List.map_append, List.map_set, List.map_replicate]; rfl))) .nil)))) .nil)
    · exact by decide
    · exact by decide
  refine go_cond _ rfl (fun h6 => ?_) (fun h6 => ?_)
  · replace h0 := (bif_t h6).symm.trans h0
    refine go_seq ?_
    refine go_region fun K hK => ?_
    try simp (config := { maxSteps := 4000000 }) only [push_cast, reduceIte, reduceCtorEq, Nat.reduceAdd, Nat.reduceSub, Nat.reduceMul, Nat.reduceEqDiff, Nat.reduceLT, Nat.reduceLeDiff]
    refine hK _ _ ?_
    clear hK K
    refine go_ret ?_
    refine go_out_ret ?_
    cases h0
    refine go_end_ret ?_
    exact ⟨_, [], rfl, (.cons (.c (.nilOwn _ _ (by decide))) .nil), by decide, .inr (by simp only [RT.cells, List.mem_cons, List.mem_singleton, List.not_mem_nil, or_false, forall_eq, forall_eq_or_imp, allOwn_int, allOwn_bool, allOwn_str, allOwn_none, eIu8_ao, eTelegram_ao, eIi64_ao, eShunt_ao, eLIi64_ao, eSidings_ao, eNeed_ao, eRoute_ao, ePlant_ao, eLockOp_ao, eB_ao, eLocking_ao, eTask_ao, eRule_ao, eEdge_ao, eCall_ao, eTrip_ao, eBooking_ao, eNet_ao, eTrain_ao, eDesk_ao, eUse_ao, eRun_ao, eT_ao, o120Trip_ao, o33LIi64_ao, implies_true, and_true, false_implies, List.map_eq_nil_iff, and_self])⟩
  · replace h0 := (bif_f h6).symm.trans h0
    refine go_skip ?_
    refine go_seq ?_
    refine go_region fun K hK => ?_
    try simp (config := { maxSteps := 4000000 }) only [push_cast, reduceIte, reduceCtorEq, Nat.reduceAdd, Nat.reduceSub, Nat.reduceMul, Nat.reduceEqDiff, Nat.reduceLT, Nat.reduceLeDiff]
    repeat (refine And.intro ?_ ?_; · ((repeat' apply And.intro) <;> first | assumption | omega | kernel_rfl | decide | (simp; done) | (simp only [List.length_cons, List.length_nil, List.length_append, List.length_map, List.length_set, List.length_replicate, List.length_take, List.length_drop] at *; omega)))
    refine hK _ _ ?_
    clear hK K
    refine go_wk (k' := 2) (τ := mk 36 0 [(1, .c (.ptr 0 0)), (3, .c (.own 1))] (nums 0 [.box [.int .i64 a0.fSeq, .int .i64 a0.fKind, .lst (a0.fBody.map eIu8)], .row 5 1 (([(126 : Int)]).map eIu8)])) ?_ ?_
    ·
      refine wk_mk [some 0, some 1] rfl ?_ ?_ ?_ ?_ ?_
      · exact (fun i h => absurd h (by omega))
      · exact (.cons _ _ _ (sv_ptr rfl) (.cons _ _ _ (sv_own rfl) .nil))
      · exact (.cons (.box _ _ _ rfl (.cons (sc_int (by first | rfl | (simp only [push_cast, List.map_append, List.map_set, List.map_replicate]; done) | (simp only [push_cast, List.map_append, List.map_set, List.map_replicate]; rfl))) (.cons (sc_int (by first | rfl | (simp only [push_cast, List.map_append, List.map_set, List.map_replicate]; done) | (simp only [push_cast, List.map_append, List.map_set, List.map_replicate]; rfl))) (.cons (sc_lst (by first | rfl | (simp only [push_cast, List.map_append, List.map_set, List.map_replicate]; done) | (simp only [push_cast, List.map_append, List.map_set, List.map_replicate]; rfl))) .nil)))) (.cons (so_row rfl (by first | rfl | (simp only [push_cast, List.map_append, List.map_set, List.map_replicate]; done) | (simp only [push_cast, List.map_append, List.map_set, List.map_replicate]; rfl))) .nil))
      · exact by decide
      · exact by decide
    refine go_seq ?_
    refine go_seq ?_
    refine go_region fun K hK => ?_
    try simp (config := { maxSteps := 4000000 }) only [push_cast, reduceIte, reduceCtorEq, Nat.reduceAdd, Nat.reduceSub, Nat.reduceMul, Nat.reduceEqDiff, Nat.reduceLT, Nat.reduceLeDiff]
    obtain ⟨t2, ht2, h0⟩ := bind_some' h0
    refine vops_callA (impl_load_ok ht2) cb187 (by simp only [lt_some, lt_none, mk_n, Nat.reduceLT]) (by simp only [push_cast, List.map_append, List.map_set, List.map_replicate]; rfl) (Nat.le_of_ble_eq_true rfl) ?_
    try simp (config := { maxSteps := 4000000 }) only [push_cast, reduceIte, reduceCtorEq, Nat.reduceAdd, Nat.reduceSub, Nat.reduceMul, Nat.reduceEqDiff, Nat.reduceLT, Nat.reduceLeDiff]
    refine hK _ _ ?_
    clear hK K
    refine go_wk (k' := 2) (τ := mk 36 0 [(3, .c (.own 0)), (11, .c (.own 1)), (12, .c (.int .i64 (t2.length : Int))), (13, .c (.int .i64 (0 : Int)))] (nums 0 [.row 5 1 (([(126 : Int)]).map eIu8), .row 5 1 (t2.map eIu8)])) ?_ ?_
    ·
      refine wk_mk [some 1, some 34] rfl ?_ ?_ ?_ ?_ ?_
      · exact (fun i h => absurd h (by omega))
      · exact (.cons _ _ _ (sv_own rfl) (.cons _ _ _ (sv_own rfl) (.cons _ _ _ (sv_int (by first | rfl | (simp only [push_cast, List.map_append, List.map_set, List.map_replicate]; done) | (simp only [push_cast, List.map_append, List.map_set, List.map_replicate]; rfl))) (.cons _ _ _ (sv_int (by first | rfl | (simp only [push_cast, List.map_append, List.map_set, List.map_replicate]; done) | (simp only [push_cast, List.map_append, List.map_set, List.map_replicate]; rfl))) .nil))))
      · exact (.cons (so_row rfl (by first | rfl | (simp only [push_cast, List.map_append, List.map_set, List.map_replicate]; done) | (simp only [push_cast, List.map_append, List.map_set, List.map_replicate]; rfl))) (.cons (so_row rfl (by first | rfl | (simp only [push_cast, List.map_append, List.map_set, List.map_replicate]; done) | (simp only [push_cast, List.map_append, List.map_set, List.map_replicate]; rfl))) .nil))
      · exact by decide
      · exact by decide
    obtain ⟨o7, h8, h0⟩ := bind_some' h0
    obtain ⟨m9, h10⟩ := loop_runs h8
    clear h8
    refine go_cut (fun k σ => ∃ x5 : (List Int), o7 = x5 ∧ Wk k σ 1 (mk 36 0 [(3, .c (.own 0))] (nums 0 [.row 5 1 (x5.map eIu8)]))) ?_ ?_
    ·
      refine go_block (go_loop (fun n k σ => ∃ x3 : Int, ∃ x4 : (List Int), Runs (fun v => impl_Encode_b0 t2 v.1 v.2) n (x3, x4) o7 ∧ Wk k σ 2 (mk 36 0 [(3, .c (.own 0)), (11, .c (.own 1)), (12, .c (.int .i64 (t2.length : Int))), (13, .c (.int .i64 x3))] (nums 0 [.row 5 1 (x4.map eIu8), .row 5 1 (t2.map eIu8)]))) m9 ⟨(0 : Int), [(126 : Int)], h10, ?_⟩ ?_)
      ·
        refine wk_mk [some 0, some 1] rfl ?_ ?_ ?_ ?_ ?_
        · exact (fun i h => absurd h (by omega))
        · exact (.cons _ _ _ (sv_own rfl) (.cons _ _ _ (sv_own rfl) (.cons _ _ _ (sv_int (by first | rfl | (simp only [push_cast, List.map_append, List.map_set, List.map_replicate]; done) | (simp only [push_cast, List.map_append, List.map_set, List.map_replicate]; rfl))) (.cons _ _ _ (sv_int (by first | rfl | (simp only [push_cast, List.map_append, List.map_set, List.map_replicate]; done) | (simp only [push_cast, List.map_append, List.map_set, List.map_replicate]; rfl))) .nil))))
        · exact (.cons (so_row rfl (by first | rfl | (simp only [push_cast, List.map_append, List.map_set, List.map_replicate]; done) | (simp only [push_cast, List.map_append, List.map_set, List.map_replicate]; rfl))) (.cons (so_row rfl (by first | rfl | (simp only [push_cast, List.map_append, List.map_set, List.map_replicate]; done) | (simp only [push_cast, List.map_append, List.map_set, List.map_replicate]; rfl))) .nil))
        · exact by decide
        · exact by decide
      clear h10
      rintro n11 k12 s13 ⟨x3, x4, h14, h15⟩
      refine go_wk h15 ?_
      obtain ⟨y16, h17, h18⟩ := h14.next
      clear h15 h14
      replace h17 : impl_Encode_b0 t2 x3 x4 = some y16 := h17
      unfold impl_Encode_b0 at h17
      refine go_seq ?_
      refine go_region fun K hK => ?_
      try simp (config := { maxSteps := 4000000 }) only [push_cast, reduceIte, reduceCtorEq, Nat.reduceAdd, Nat.reduceSub, Nat.reduceMul, Nat.reduceEqDiff, Nat.reduceLT, Nat.reduceLeDiff]
      refine hK _ _ ?_
      clear hK K
      refine go_seq ?_
      refine go_cond _ rfl (fun h19 => ?_) (fun h19 => ?_)
      · replace h17 := (bif_t h19).symm.trans h17
        refine go_skip ?_
        refine go_seq ?_
        refine go_block ?_
        refine go_seq ?_
        refine go_region fun K hK => ?_
        obtain ⟨h20, h17⟩ := ite_some' h17
        try simp (config := { maxSteps := 4000000 }) only [push_cast, reduceIte, reduceCtorEq, Nat.reduceAdd, Nat.reduceSub, Nat.reduceMul, Nat.reduceEqDiff, Nat.reduceLT, Nat.reduceLeDiff, rd_some h20]
        repeat (refine And.intro ?_ ?_; · ((repeat' apply And.intro) <;> first | assumption | omega | kernel_rfl | decide | (simp; done) | (simp only [List.length_cons, List.length_nil, List.length_append, List.length_map, List.length_set, List.length_replicate, List.length_take, List.length_drop] at *; omega)))
        refine hK _ _ ?_
        clear hK K
        refine go_seq ?_
        refine go_region fun K hK => ?_
        try simp (config := { maxSteps := 4000000 }) only [push_cast, reduceIte, reduceCtorEq, Nat.reduceAdd, Nat.reduceSub, Nat.reduceMul, Nat.reduceEqDiff, Nat.reduceLT, Nat.reduceLeDiff]
        refine vops_if rfl (Nat.le_of_ble_eq_true rfl) (by simp only [lt_some, lt_none, mk_n, Nat.reduceLT]) (fun h21 => ?_) (fun h21 => ?_)
        · replace h21 : _ = false := h21
          replace h17 := (bif_f h21).symm.trans h17
          try simp (config := { maxSteps := 4000000 }) only [push_cast, reduceIte, reduceCtorEq, Nat.reduceAdd, Nat.reduceSub, Nat.reduceMul, Nat.reduceEqDiff, Nat.reduceLT, Nat.reduceLeDiff]
          refine hK _ _ ?_
          clear hK K
          refine go_cond _ rfl (fun h22 => ?_) (fun h22 => ?_)
          · replace h17 := (bif_t h22).symm.trans h17
            refine go_region fun K hK => ?_
            obtain ⟨h23, h17⟩ := ite_some' h17
            try simp (config := { maxSteps := 4000000 }) only [push_cast, reduceIte, reduceCtorEq, Nat.reduceAdd, Nat.reduceSub, Nat.reduceMul, Nat.reduceEqDiff, Nat.reduceLT, Nat.reduceLeDiff]
            repeat (refine And.intro ?_ ?_; · ((repeat' apply And.intro) <;> first | assumption | omega | kernel_rfl | decide | (simp; done) | (simp only [List.length_cons, List.length_nil, List.length_append, List.length_map, List.length_set, List.length_replicate, List.length_take, List.length_drop] at *; omega)))
            refine hK _ _ ?_
            clear hK K
            refine go_blk 1 ?_
            refine go_region fun K hK => ?_
            try simp (config := { maxSteps := 4000000 }) only [push_cast, reduceIte, reduceCtorEq, Nat.reduceAdd, Nat.reduceSub, Nat.reduceMul, Nat.reduceEqDiff, Nat.reduceLT, Nat.reduceLeDiff]
            refine hK _ _ ?_
            clear hK K
            have e24 := Option.some.inj h17
            rw [← e24] at h18
            obtain ⟨m25, h26, h27⟩ := h18
            refine go_lp ⟨m25, h26, (IntKind.i64.wrap (x3 + (1 : Int))), (x4 ++ [(125 : Int), (IntKind.u8.wrap (((BitVec.ofInt IntKind.u8.bits (rd t2 x3) ^^^ BitVec.ofInt IntKind.u8.bits (32 : Int)).toNat : Int)))]), h27, ?_⟩
            refine wk_mk [some 450, some 1] rfl ?_ ?_ ?_ ?_ ?_
            · exact (fun i h => absurd h (by omega))
            · exact (.cons _ _ _ (sv_own rfl) (.cons _ _ _ (sv_own rfl) (.cons _ _ _ (sv_int (by first | rfl | (simp only [push_cast, List.map_append, List.map_set, List.map_replicate]; done) | (simp only [push_cast, List.map_append, List.map_set, List.map_replicate]; rfl))) (.cons _ _ _ (sv_int (by first | rfl | (simp only [push_cast, List.map_append, List.map_set, List.map_replicate]; done) | (simp only [push_cast, List.map_append, List.map_set, List.map_replicate]; rfl))) .nil))))
            · exact (.cons (so_row rfl (by first | rfl | (simp only [push_cast, List.map_append, List.map_set, List.map_replicate]; done) | (simp only [push_cast, List.map_append, List.map_set, List.map_replicate]; rfl))) (.cons (so_row rfl (by first | rfl | (simp only [push_cast, List.map_append, List.map_set, List.map_replicate]; done) | (simp only [push_cast, List.map_append, List.map_set, List.map_replicate]; rfl))) .nil))
            · exact by decide
            · exact by decide
          · replace h17 := (bif_f h22).symm.trans h17
            refine go_region fun K hK => ?_
            obtain ⟨h28, h17⟩ := ite_some' h17
            try simp (config := { maxSteps := 4000000 }) only [push_cast, reduceIte, reduceCtorEq, Nat.reduceAdd, Nat.reduceSub, Nat.reduceMul, Nat.reduceEqDiff, Nat.reduceLT, Nat.reduceLeDiff]
            repeat (refine And.intro ?_ ?_; · ((repeat' apply And.intro) <;> first | assumption | omega | kernel_rfl | decide | (simp; done) | (simp only [List.length_cons, List.length_nil, List.length_append, List.length_map, List.length_set, List.length_replicate, List.length_take, List.length_drop] at *; omega)))
            refine hK _ _ ?_
            clear hK K
            refine go_blk 1 ?_
            refine go_region fun K hK => ?_
            try simp (config := { maxSteps := 4000000 }) only [push_cast, reduceIte, reduceCtorEq, Nat.reduceAdd, Nat.reduceSub, Nat.reduceMul, Nat.reduceEqDiff, Nat.reduceLT, Nat.reduceLeDiff]
            refine hK _ _ ?_
            clear hK K
            have e29 := Option.some.inj h17
            rw [← e29] at h18
            obtain ⟨m30, h31, h32⟩ := h18
            refine go_lp ⟨m30, h31, (IntKind.i64.wrap (x3 + (1 : Int))), (x4 ++ [(rd t2 x3)]), h32, ?_⟩
            refine wk_mk [some 418, some 1] rfl ?_ ?_ ?_ ?_ ?_
            · exact (fun i h => absurd h (by omega))
            · exact (.cons _ _ _ (sv_own rfl) (.cons _ _ _ (sv_own rfl) (.cons _ _ _ (sv_int (by first | rfl | (simp only [push_cast, List.map_append, List.map_set, List.map_replicate]; done) | (simp only [push_cast, List.map_append, List.map_set, List.map_replicate]; rfl))) (.cons _ _ _ (sv_int (by first | rfl | (simp only [push_cast, List.map_append, List.map_set, List.map_replicate]; done) | (simp only [push_cast, List.map_append, List.map_set, List.map_replicate]; rfl))) .nil))))
            · exact (.cons (so_row rfl (by first | rfl | (simp only [push_cast, List.map_append, List.map_set, List.map_replicate]; done) | (simp only [push_cast, List.map_append, List.map_set, List.map_replicate]; rfl))) (.cons (so_row rfl (by first | rfl | (simp only [push_cast, List.map_append, List.map_set, List.map_replicate]; done) | (simp only [push_cast, List.map_append, List.map_set, List.map_replicate]; rfl))) .nil))
            · exact by decide
            · exact by decide
        · replace h21 : _ = true := h21
          replace h17 := (bif_t h21).symm.trans h17
          try simp (config := { maxSteps := 4000000 }) only [push_cast, reduceIte, reduceCtorEq, Nat.reduceAdd, Nat.reduceSub, Nat.reduceMul, Nat.reduceEqDiff, Nat.reduceLT, Nat.reduceLeDiff]
          refine hK _ _ ?_
          clear hK K
          refine go_cond true rfl (fun hb => ?_) (fun hb => nomatch hb)
          clear hb
          refine go_region fun K hK => ?_
          obtain ⟨h33, h17⟩ := ite_some' h17
          try simp (config := { maxSteps := 4000000 }) only [push_cast, reduceIte, reduceCtorEq, Nat.reduceAdd, Nat.reduceSub, Nat.reduceMul, Nat.reduceEqDiff, Nat.reduceLT, Nat.reduceLeDiff]
          repeat (refine And.intro ?_ ?_; · ((repeat' apply And.intro) <;> first | assumption | omega | kernel_rfl | decide | (simp; done) | (simp only [List.length_cons, List.length_nil, List.length_append, List.length_map, List.length_set, List.length_replicate, List.length_take, List.length_drop] at *; omega)))
          refine hK _ _ ?_
          clear hK K
          refine go_blk 1 ?_
          refine go_region fun K hK => ?_
          try simp (config := { maxSteps := 4000000 }) only [push_cast, reduceIte, reduceCtorEq, Nat.reduceAdd, Nat.reduceSub, Nat.reduceMul, Nat.reduceEqDiff, Nat.reduceLT, Nat.reduceLeDiff]
          refine hK _ _ ?_
          clear hK K
          have e34 := Option.some.inj h17
          rw [← e34] at h18
          obtain ⟨m35, h36, h37⟩ := h18
          refine go_lp ⟨m35, h36, (IntKind.i64.wrap (x3 + (1 : Int))), (x4 ++ [(125 : Int), (IntKind.u8.wrap (((BitVec.ofInt IntKind.u8.bits (rd t2 x3) ^^^ BitVec.ofInt IntKind.u8.bits (32 : Int)).toNat : Int)))]), h37, ?_⟩
          refine wk_mk [some 450, some 1] rfl ?_ ?_ ?_ ?_ ?_
          · exact (fun i h => absurd h (by omega))
          · exact (.cons _ _ _ (sv_own rfl) (.cons _ _ _ (sv_own rfl) (.cons _ _ _ (sv_int (by first | rfl | (simp only [push_cast, List.map_append, List.map_set, List.map_replicate]; done) | (simp only [push_cast, List.map_append, List.map_set, List.map_replicate]; rfl))) (.cons _ _ _ (sv_int (by first | rfl | (simp only [push_cast, List.map_append, List.map_set, List.map_replicate]; done) | (simp only [push_cast, List.map_append, List.map_set, List.map_replicate]; rfl))) .nil))))
          · exact (.cons (so_row rfl (by first | rfl | (simp only [push_cast, List.map_append, List.map_set, List.map_replicate]; done) | (simp only [push_cast, List.map_append, List.map_set, List.map_replicate]; rfl))) (.cons (so_row rfl (by first | rfl | (simp only [push_cast, List.map_append, List.map_set, List.map_replicate]; done) | (simp only [push_cast, List.map_append, List.map_set, List.map_replicate]; rfl))) .nil))
          · exact by decide
          · exact by decide
      · replace h17 := (bif_f h19).symm.trans h17
        refine go_exit ?_
        refine go_out ?_
        refine go_lp_out ?_
        refine go_blk_at ?_
        have e38 := Option.some.inj h17
        rw [← e38] at h18
        replace h18 : _ = _ := h18
        refine go_lp ⟨x4, h18.symm, ?_⟩
        refine wk_mk [some 0] rfl ?_ ?_ ?_ ?_ ?_
        · exact (fun i h => absurd h (by omega))
        · exact (.cons _ _ _ (sv_own rfl) .nil)
        · exact (.cons (so_row rfl (by first | rfl | (simp only [push_cast, List.map_append, List.map_set, List.map_replicate]; done) | (simp only [push_cast, List.map_append, List.map_set, List.map_replicate]; rfl))) .nil)
        · exact by decide
        · exact by decide
    · rintro k σ ⟨x5, h39q, h39⟩
      rw [h39q] at h0
      try dsimp only [Sum.elim_inl] at h0
      refine go_seq ?_
      refine go_wk h39 ?_
      clear h39
      refine go_region fun K hK => ?_
      obtain ⟨h40, h0⟩ := ite_some' h0
      try simp (config := { maxSteps := 4000000 }) only [push_cast, reduceIte, reduceCtorEq, Nat.reduceAdd, Nat.reduceSub, Nat.reduceMul, Nat.reduceEqDiff, Nat.reduceLT, Nat.reduceLeDiff]
      repeat (refine And.intro ?_ ?_; · ((repeat' apply And.intro) <;> first | assumption | omega | kernel_rfl | decide | (simp; done) | (simp only [List.length_cons, List.length_nil, List.length_append, List.length_map, List.length_set, List.length_replicate, List.length_take, List.length_drop] at *; omega)))
      refine hK _ _ ?_
      clear hK K
      refine go_wk (k' := 1) (τ := mk 36 0 [(2, .c (.own 0))] (nums 0 [.row 5 1 ((x5 ++ [(126 : Int)]).map eIu8)])) ?_ ?_
      ·
        refine wk_mk [some 65] rfl ?_ ?_ ?_ ?_ ?_
        · exact (fun i h => absurd h (by omega))
        · exact (.cons _ _ _ (sv_own rfl) .nil)
        · exact (.cons (so_row rfl (by first | rfl | (simp only [push_cast, List.map_append, List.map_set, List.map_replicate]; done) | (simp only [push_cast, List.map_append, List.map_set, List.map_replicate]; rfl))) .nil)
        · exact by decide
        · exact by decide
      refine go_ret ?_
      cases h0
      refine go_end_ret ?_
      exact ⟨_, [0], rfl, (.cons (.c (mc_own rfl (by first | rfl | (simp only [push_cast, List.map_append, List.map_set, List.map_replicate]; done) | (simp only [push_cast, List.map_append, List.map_set, List.map_replicate]; rfl)))) .nil), by decide, .inr (by simp only [RT.cells, List.mem_cons, List.mem_singleton, List.not_mem_nil, or_false, forall_eq, forall_eq_or_imp, allOwn_int, allOwn_bool, allOwn_str, allOwn_none, eIu8_ao, eTelegram_ao, eIi64_ao, eShunt_ao, eLIi64_ao, eSidings_ao, eNeed_ao, eRoute_ao, ePlant_ao, eLockOp_ao, eB_ao, eLocking_ao, eTask_ao, eRule_ao, eEdge_ao, eCall_ao, eTrip_ao, eBooking_ao, eNet_ao, eTrain_ao, eDesk_ao, eUse_ao, eRun_ao, eT_ao, o120Trip_ao, o33LIi64_ao, implies_true, and_true, false_implies, List.map_eq_nil_iff, and_self])⟩
end Go.V
set_option linter.unusedSimpArgs false
set_option linter.unusedVariables false
namespace Go.V
open Go Go.RowKit Go.Proofs
set_option maxHeartbeats 4000000 in
set_option maxRecDepth 100000 in
theorem bytes_Equal_ok {a0 : (List Int)} {a1 : (List Int)} {r : Bool} (h0 : bytes_Equal a0 a1 = some r) :
    OkA Try.prog 106 [.v (.sl none (a0.map eIu8)), .v (.sl none (a1.map eIu8))] [.c (.bool r)] false := by
  unfold bytes_Equal at h0
  refine okA_of (n := 10) (rvs := [.tmp 4]) Try.func106 rfl rfl rfl (by simp) ?_
  simp only [slots, slotsM, widths, List.map_cons, List.sum_cons, List.sum_nil, Nat.reduceAdd, List.length_cons, List.length_nil, RT.width, unRs, unR, unCs, unC, putsO, putO, Cell.ro, List.map_cons, List.map_nil, List.nil_append, List.append_nil, List.cons_append]
  refine go_seq ?_
  refine go_region fun K hK => ?_
  try simp (config := { maxSteps := 4000000 }) only [push_cast, reduceIte, reduceCtorEq, Nat.reduceAdd, Nat.reduceSub, Nat.reduceMul, Nat.reduceEqDiff, Nat.reduceLT, Nat.reduceLeDiff]
  refine hK _ _ ?_
  clear hK K
  refine go_seq ?_
  refine go_region fun K hK => ?_
  try simp (config := { maxSteps := 4000000 }) only [push_cast, reduceIte, reduceCtorEq, Nat.reduceAdd, Nat.reduceSub, Nat.reduceMul, Nat.reduceEqDiff, Nat.reduceLT, Nat.reduceLeDiff]
  refine hK _ _ ?_
  clear hK K
  refine go_ret ?_
  cases h0
  refine go_end_ret ?_
  exact ⟨_, [], rfl, (.cons (.c (.bool _)) .nil), by decide, .inr (by simp only [RT.cells, List.mem_cons, List.mem_singleton, List.not_mem_nil, or_false, forall_eq, forall_eq_or_imp, allOwn_int, allOwn_bool, allOwn_str, allOwn_none, eIu8_ao, eTelegram_ao, eIi64_ao, eShunt_ao, eLIi64_ao, eSidings_ao, eNeed_ao, eRoute_ao, ePlant_ao, eLockOp_ao, eB_ao, eLocking_ao, eTask_ao, eRule_ao, eEdge_ao, eCall_ao, eTrip_ao, eBooking_ao, eNet_ao, eTrain_ao, eDesk_ao, eUse_ao, eRun_ao, eT_ao, o120Trip_ao, o33LIi64_ao, implies_true, and_true, false_implies, List.map_eq_nil_iff, and_self])⟩
end Go.V
set_option linter.unusedSimpArgs false
set_option linter.unusedVariables false
namespace Go.V
open Go Go.RowKit Go.Proofs
set_option maxHeartbeats 4000000 in
set_option maxRecDepth 100000 in
theorem impl_Decode_ok {a0 : (List Int)} {r : (STelegram × Bool)} (h0 : impl_Decode a0 = some r) :
    OkA Try.prog 22 [.v (.sl none (a0.map eIu8))] [.a ([.int .i64 r.1.fSeq, .int .i64 r.1.fKind, .sl (some (5, 1)) (r.1.fBody.map eIu8)]), .c (.bool r.2)] false := by
  unfold impl_Decode at h0
  refine okA_of (n := 53) (rvs := [.cell 2 24, .tmp 3]) Try.func22 rfl rfl rfl (by simp) ?_
  simp only [slots, slotsM, widths, List.map_cons, List.sum_cons, List.sum_nil, Nat.reduceAdd, List.length_cons, List.length_nil, RT.width, unRs, unR, unCs, unC, putsO, putO, Cell.ro, List.map_cons, List.map_nil, List.nil_append, List.append_nil, List.cons_append]
  refine go_seq ?_
  refine go_region fun K hK => ?_
  try simp (config := { maxSteps := 4000000 }) only [push_cast, reduceIte, reduceCtorEq, Nat.reduceAdd, Nat.reduceSub, Nat.reduceMul, Nat.reduceEqDiff, Nat.reduceLT, Nat.reduceLeDiff]
  refine hK _ _ ?_
  clear hK K
  refine go_wk (k' := 1) (τ := mk 53 0 [(0, .c (.lst (a0.map eIu8))), (2, .c (.ptr 0 0))] (nums 0 [.box [.int .i64 (0 : Int), .int .i64 (0 : Int), .nil]])) ?_ ?_
  ·
    refine wk_mk [some 0] rfl ?_ ?_ ?_ ?_ ?_
    · exact (fun i h => absurd h (by omega))
    · exact (.cons _ _ _ (sv_lst (by first | rfl | (simp only [push_cast, List.map_append, List.map_set, List.map_replicate]; done) | (simp only [push_cast, List.map_append, List.map_set, List.map_replicate]; rfl))) (.cons _ _ _ (sv_ptr rfl) .nil))
    · exact (.cons (.box _ _ _ rfl (.cons (sc_int (by first | rfl | (simp only [push_cast, List.map_append, List.map_set, List.map_replicate]; done) | (simp only [push_cast, List.map_append, List.map_set, List.map_replicate]; rfl))) (.cons (sc_int (by first | rfl | (simp only [push_cast, List.map_append, List.map_set, List.map_replicate]; done) | (simp only [push_cast, List.map_append, List.map_set, List.map_replicate]; rfl))) (.cons .nil .nil)))) .nil)
    · exact by decide
    · exact by decide
  refine go_seq ?_
  refine go_seq ?_
  obtain ⟨v6, h7, h0⟩ := bind_some' h0
  refine go_cut (fun k σ => ∃ x1 : Bool, v6 = x1 ∧ Wk k σ 1 (mk 53 0 [(0, .c (.lst (a0.map eIu8))), (2, .c (.ptr 0 0)), (13, .c (.bool x1))] (nums 0 [.box [.int .i64 (0 : Int), .int .i64 (0 : Int), .nil]]))) ?_ ?_
  ·
    refine go_region fun K hK => ?_
    try simp (config := { maxSteps := 4000000 }) only [push_cast, reduceIte, reduceCtorEq, Nat.reduceAdd, Nat.reduceSub, Nat.reduceMul, Nat.reduceEqDiff, Nat.reduceLT, Nat.reduceLeDiff]
    refine vops_if rfl (Nat.le_of_ble_eq_true rfl) (by simp only [lt_some, lt_none, mk_n, Nat.reduceLT]) (fun h8 => ?_) (fun h8 => ?_)
    · replace h8 : _ = false := h8
      replace h7 := (bif_f h8).symm.trans h7
      try simp (config := { maxSteps := 4000000 }) only [push_cast, reduceIte, reduceCtorEq, Nat.reduceAdd, Nat.reduceSub, Nat.reduceMul, Nat.reduceEqDiff, Nat.reduceLT, Nat.reduceLeDiff]
      refine hK _ _ ?_
      clear hK K
      have e9 := Option.some.inj h7
      refine go_lp ⟨(decide ((130 : Int) < (a0.length : Int))), e9.symm, ?_⟩
      refine wk_mk [some 0] rfl ?_ ?_ ?_ ?_ ?_
      · exact (fun i h => absurd h (by omega))
      · exact (.cons _ _ _ (sv_lst (by first | rfl | (simp only [push_cast, List.map_append, List.map_set, List.map_replicate]; done) | (simp only [push_cast, List.map_append, List.map_set, List.map_replicate]; rfl))) (.cons _ _ _ (sv_ptr rfl) (.cons _ _ _ (sv_bool (by first | rfl | (simp only [push_cast, List.map_append, List.map_set, List.map_replicate]; done) | (simp only [push_cast, List.map_append, List.map_set, List.map_replicate]; rfl))) .nil)))
      · exact (.cons (.box _ _ _ rfl (.cons (sc_int (by first | rfl | (simp only [push_cast, List.map_append, List.map_set, List.map_replicate]; done) | (simp only [push_cast, List.map_append, List.map_set, List.map_replicate]; rfl))) (.cons (sc_int (by first | rfl | (simp only [push_cast, List.map_append, List.map_set, List.map_replicate]; done) | (simp only [push_cast, List.map_append, List.map_set, List.map_replicate]; rfl))) (.cons .nil .nil)))) .nil)
      · exact by decide
      · exact by decide
    · replace h8 : _ = true := h8
      replace h7 := (bif_t h8).symm.trans h7
      try simp (config := { maxSteps := 4000000 }) only [push_cast, reduceIte, reduceCtorEq, Nat.reduceAdd, Nat.reduceSub, Nat.reduceMul, Nat.reduceEqDiff, Nat.reduceLT, Nat.reduceLeDiff]
      refine hK _ _ ?_
      clear hK K
      have e10 := Option.some.inj h7
      refine go_lp ⟨true, e10.symm, ?_⟩
      refine wk_mk [some 0] rfl ?_ ?_ ?_ ?_ ?_
      · exact (fun i h => absurd h (by omega))
      · exact (.cons _ _ _ (sv_lst (by first | rfl | (simp only [push_cast, List.map_append, List.map_set, List.map_replicate]; done) | (simp only [push_cast, List.map_append, List.map_set, List.map_replicate]; rfl))) (.cons _ _ _ (sv_ptr rfl) (.cons _ _ _ (sv_bool (by first | rfl | (simp only [push_cast, List.map_append, List.map_set, List.map_replicate]; done) | (simp only [push_cast, List.map_append, List.map_set, List.map_replicate]; rfl))) .nil)))
      · exact (.cons (.box _ _ _ rfl (.cons (sc_int (by first | rfl | (simp only [push_cast, List.map_append, List.map_set, List.map_replicate]; done) | (simp only [push_cast, List.map_append, List.map_set, List.map_replicate]; rfl))) (.cons (sc_int (by first | rfl | (simp only [push_cast, List.map_append, List.map_set, List.map_replicate]; done) | (simp only [push_cast, List.map_append, List.map_set, List.map_replicate]; rfl))) (.cons .nil .nil)))) .nil)
      · exact by decide
      · exact by decide
  · rintro k σ ⟨x1, h11q, h11⟩
    rw [h11q] at h0
    try dsimp only [Sum.elim_inl] at h0
    refine go_wk h11 ?_
    clear h11
    refine go_cond _ rfl (fun h12 => ?_) (fun h12 => ?_)
    · replace h0 := (bif_t h12).symm.trans h0
      refine go_seq ?_
      refine go_region fun K hK => ?_
      try simp (config := { maxSteps := 4000000 }) only [push_cast, reduceIte, reduceCtorEq, Nat.reduceAdd, Nat.reduceSub, Nat.reduceMul, Nat.reduceEqDiff, Nat.reduceLT, Nat.reduceLeDiff]
      repeat (refine And.intro ?_ ?_; · ((repeat' apply And.intro) <;> first | assumption | omega | kernel_rfl | decide | (simp; done) | (simp only [List.length_cons, List.length_nil, List.length_append, List.length_map, List.length_set, List.length_replicate, List.length_take, List.length_drop] at *; omega)))
      refine hK _ _ ?_
      clear hK K
      refine go_wk (k' := 1) (τ := mk 53 0 [(2, .c (.ptr 0 0)), (3, .c (.bool false))] (nums 0 [.box [.int .i64 (0 : Int), .int .i64 (0 : Int), .nil]])) ?_ ?_
      ·
        refine wk_mk [some 0] rfl ?_ ?_ ?_ ?_ ?_
        · exact (fun i h => absurd h (by omega))
        · exact (.cons _ _ _ (sv_ptr rfl) (.cons _ _ _ (sv_bool (by first | rfl | (simp only [push_cast, List.map_append, List.map_set, List.map_replicate]; done) | (simp only [push_cast, List.map_append, List.map_set, List.map_replicate]; rfl))) .nil))
        · exact (.cons (.box _ _ _ rfl (.cons (sc_int (by first | rfl | (simp only [push_cast, List.map_append, List.map_set, List.map_replicate]; done) | (simp only [push_cast, List.map_append, List.map_set, List.map_replicate]; rfl))) (.cons (sc_int (by first | rfl | (simp only [push_cast, List.map_append, List.map_set, List.map_replicate]; done) | (simp only [push_cast, List.map_append, List.map_set, List.map_replicate]; rfl))) (.cons .nil .nil)))) .nil)
        · exact by decide
        · exact by decide
      refine go_ret ?_
      refine go_out_ret ?_
      cases h0
      refine go_end_ret ?_
      exact ⟨_, [], (by simp only [List.mapM_cons, List.mapM_nil, resv, push_cast, List.map_append, List.map_set, List.map_replicate]; rfl), (.cons (.a (.cons (.int _ _) (.cons (.int _ _) (.cons (.nilOwn _ _ (by decide)) .nil)))) (.cons (.c (.bool _)) .nil)), by decide, .inr (by simp only [RT.cells, List.mem_cons, List.mem_singleton, List.not_mem_nil, or_false, forall_eq, forall_eq_or_imp, allOwn_int, allOwn_bool, allOwn_str, allOwn_none, eIu8_ao, eTelegram_ao, eIi64_ao, eShunt_ao, eLIi64_ao, eSidings_ao, eNeed_ao, eRoute_ao, ePlant_ao, eLockOp_ao, eB_ao, eLocking_ao, eTask_ao, eRule_ao, eEdge_ao, eCall_ao, eTrip_ao, eBooking_ao, eNet_ao, eTrain_ao, eDesk_ao, eUse_ao, eRun_ao, eT_ao, o120Trip_ao, o33LIi64_ao, implies_true, and_true, false_implies, List.map_eq_nil_iff, and_self])⟩
    · replace h0 := (bif_f h12).symm.trans h0
      refine go_skip ?_
      refine go_seq ?_
      refine go_region fun K hK => ?_
      obtain ⟨h13, h0⟩ := ite_some' h0
      try simp (config := { maxSteps := 4000000 }) only [push_cast, reduceIte, reduceCtorEq, Nat.reduceAdd, Nat.reduceSub, Nat.reduceMul, Nat.reduceEqDiff, Nat.reduceLT, Nat.reduceLeDiff]
      repeat (refine And.intro ?_ ?_; · ((repeat' apply And.intro) <;> first | assumption | omega | kernel_rfl | decide | (simp; done) | (simp only [List.length_cons, List.length_nil, List.length_append, List.length_map, List.length_set, List.length_replicate, List.length_take, List.length_drop] at *; omega)))
      obtain ⟨t2, ht2, h0⟩ := bind_some' h0
      refine vops_callA (impl_unescape_ok ht2) cb104 (by simp only [lt_some, lt_none, mk_n, Nat.reduceLT]) (by simp only [push_cast, List.map_append, List.map_set, List.map_replicate]; rfl) (Nat.le_of_ble_eq_true rfl) ?_
      try simp (config := { maxSteps := 4000000 }) only [push_cast, reduceIte, reduceCtorEq, Nat.reduceAdd, Nat.reduceSub, Nat.reduceMul, Nat.reduceEqDiff, Nat.reduceLT, Nat.reduceLeDiff]
      refine hK _ _ ?_
      clear hK K
      refine go_wk (k' := 2) (τ := mk 53 0 [(0, .c (.lst (a0.map eIu8))), (2, .c (.ptr 0 0)), (4, .c (.own 1))] (nums 0 [.box [.int .i64 (0 : Int), .int .i64 (0 : Int), .nil], .row 5 1 (t2.map eIu8)])) ?_ ?_
      ·
        refine wk_mk [some 0, some 161] rfl ?_ ?_ ?_ ?_ ?_
        · exact (fun i h => absurd h (by omega))
        · exact (.cons _ _ _ (sv_lst (by first | rfl | (simp only [push_cast, List.map_append, List.map_set, List.map_replicate]; done) | (simp only [push_cast, List.map_append, List.map_set, List.map_replicate]; rfl))) (.cons _ _ _ (sv_ptr rfl) (.cons _ _ _ (sv_own rfl) .nil)))
        · exact (.cons (.box _ _ _ rfl (.cons (sc_int (by first | rfl | (simp only [push_cast, List.map_append, List.map_set, List.map_replicate]; done) | (simp only [push_cast, List.map_append, List.map_set, List.map_replicate]; rfl))) (.cons (sc_int (by first | rfl | (simp only [push_cast, List.map_append, List.map_set, List.map_replicate]; done) | (simp only [push_cast, List.map_append, List.map_set, List.map_replicate]; rfl))) (.cons .nil .nil)))) (.cons (so_row rfl (by first | rfl | (simp only [push_cast, List.map_append, List.map_set, List.map_replicate]; done) | (simp only [push_cast, List.map_append, List.map_set, List.map_replicate]; rfl))) .nil))
        · exact by decide
        · exact by decide
      refine go_seq ?_
      refine go_seq ?_
      refine go_region fun K hK => ?_
      try simp (config := { maxSteps := 4000000 }) only [push_cast, reduceIte, reduceCtorEq, Nat.reduceAdd, Nat.reduceSub, Nat.reduceMul, Nat.reduceEqDiff, Nat.reduceLT, Nat.reduceLeDiff]
      refine hK _ _ ?_
      clear hK K
      refine go_cond _ rfl (fun h14 => ?_) (fun h14 => ?_)
      · replace h0 := (bif_t h14).symm.trans h0
        refine go_seq ?_
        refine go_region fun K hK => ?_
        try simp (config := { maxSteps := 4000000 }) only [push_cast, reduceIte, reduceCtorEq, Nat.reduceAdd, Nat.reduceSub, Nat.reduceMul, Nat.reduceEqDiff, Nat.reduceLT, Nat.reduceLeDiff]
        repeat (refine And.intro ?_ ?_; · ((repeat' apply And.intro) <;> first | assumption | omega | kernel_rfl | decide | (simp; done) | (simp only [List.length_cons, List.length_nil, List.length_append, List.length_map, List.length_set, List.length_replicate, List.length_take, List.length_drop] at *; omega)))
        refine hK _ _ ?_
        clear hK K
        refine go_wk (k' := 1) (τ := mk 53 0 [(2, .c (.ptr 0 0)), (3, .c (.bool false))] (nums 0 [.box [.int .i64 (0 : Int), .int .i64 (0 : Int), .nil]])) ?_ ?_
        ·
          refine wk_mk [some 0] rfl ?_ ?_ ?_ ?_ ?_
          · exact (fun i h => absurd h (by omega))
          · exact (.cons _ _ _ (sv_ptr rfl) (.cons _ _ _ (sv_bool (by first | rfl | (simp only [push_cast, List.map_append, List.map_set, List.map_replicate]; done) | (simp only [push_cast, List.map_append, List.map_set, List.map_replicate]; rfl))) .nil))
          · exact (.cons (.box _ _ _ rfl (.cons (sc_int (by first | rfl | (simp only [push_cast, List.map_append, List.map_set, List.map_replicate]; done) | (simp only [push_cast, List.map_append, List.map_set, List.map_replicate]; rfl))) (.cons (sc_int (by first | rfl | (simp only [push_cast, List.map_append, List.map_set, List.map_replicate]; done) | (simp only [push_cast, List.map_append, List.map_set, List.map_replicate]; rfl))) (.cons .nil .nil)))) .nil)
          · exact by decide
          · exact by decide
        refine go_ret ?_
        refine go_out_ret ?_
        cases h0
        refine go_end_ret ?_
        exact ⟨_, [], (by simp only [List.mapM_cons, List.mapM_nil, resv, push_cast, List.map_append, List.map_set, List.map_replicate]; rfl), (.cons (.a (.cons (.int _ _) (.cons (.int _ _) (.cons (.nilOwn _ _ (by decide)) .nil)))) (.cons (.c (.bool _)) .nil)), by decide, .inr (by simp only [RT.cells, List.mem_cons, List.mem_singleton, List.not_mem_nil, or_false, forall_eq, forall_eq_or_imp, allOwn_int, allOwn_bool, allOwn_str, allOwn_none, eIu8_ao, eTelegram_ao, eIi64_ao, eShunt_ao, eLIi64_ao, eSidings_ao, eNeed_ao, eRoute_ao, ePlant_ao, eLockOp_ao, eB_ao, eLocking_ao, eTask_ao, eRule_ao, eEdge_ao, eCall_ao, eTrip_ao, eBooking_ao, eNet_ao, eTrain_ao, eDesk_ao, eUse_ao, eRun_ao, eT_ao, o120Trip_ao, o33LIi64_ao, implies_true, and_true, false_implies, List.map_eq_nil_iff, and_self])⟩
      · replace h0 := (bif_f h14).symm.trans h0
        refine go_skip ?_
        refine go_seq ?_
        refine go_draw hmix fun K hK => ?_
        obtain ⟨h15, h0⟩ := ite_some' h0
        obtain ⟨h16, h0⟩ := ite_some' h0
        obtain ⟨h17, h0⟩ := ite_some' h0
        obtain ⟨h18, h0⟩ := ite_some' h0
        try simp (config := { maxSteps := 4000000 }) only [push_cast, reduceIte, reduceCtorEq, Nat.reduceAdd, Nat.reduceSub, Nat.reduceMul, Nat.reduceEqDiff, Nat.reduceLT, Nat.reduceLeDiff, rd_some h15, rd_some h16]
        repeat (refine And.intro ?_ ?_; · ((repeat' apply And.intro) <;> first | assumption | omega | kernel_rfl | decide | (simp; done) | (simp only [List.length_cons, List.length_nil, List.length_append, List.length_map, List.length_set, List.length_replicate, List.length_take, List.length_drop] at *; omega)))
        refine hK _ _ ?_
        clear hK K
        refine go_wk (k' := 3) (τ := mk 53 0 [(0, .c (.lst (a0.map eIu8))), (2, .c (.ptr 0 0)), (5, .c (.ptr 1 0))] (nums 0 [.box [.int .i64 (0 : Int), .int .i64 (0 : Int), .nil], .box [.int .i64 (IntKind.i64.wrap (rd t2 (0 : Int))), .int .i64 (IntKind.i64.wrap (rd t2 (1 : Int))), .own 2], .row 5 1 ((([] : List Int) ++ ((t2.drop (3 : Int).toNat).take ((IntKind.i64.wrap ((t2.length : Int) - (1 : Int))).toNat - (3 : Int).toNat))).map eIu8)])) ?_ ?_
        ·
          refine wk_mk [some 0, some 610, some 546] rfl ?_ ?_ ?_ ?_ ?_
          · exact (fun i h => absurd h (by omega))
          · exact (.cons _ _ _ (sv_lst (by first | rfl | (simp only [push_cast, List.map_append, List.map_set, List.map_replicate]; done) | (simp only [push_cast, List.map_append, List.map_set, List.map_replicate]; rfl))) (.cons _ _ _ (sv_ptr rfl) (.cons _ _ _ (sv_ptr rfl) .nil)))
          · exact (.cons (.box _ _ _ rfl (.cons (sc_int (by first | rfl | (simp only [push_cast, List.map_append, List.map_set, List.map_replicate]; done) | (simp only [push_cast, List.map_append, List.map_set, List.map_replicate]; rfl))) (.cons (sc_int (by first | rfl | (simp only [push_cast, List.map_append, List.map_set, List.map_replicate]; done) | (simp only [push_cast, List.map_append, List.map_set, List.map_replicate]; rfl))) (.cons .nil .nil)))) (.cons (.box _ _ _ rfl (.cons (sc_int (by first | rfl | (simp only [push_cast, List.map_append, List.map_set, List.map_replicate]; done) | (simp only [push_cast, List.map_append, List.map_set, List.map_replicate]; rfl))) (.cons (sc_int (by first | rfl | (simp only [push_cast, List.map_append, List.map_set, List.map_replicate]; done) | (simp only [push_cast, List.map_append, List.map_set, List.map_replicate]; rfl))) (.cons (.own _ _ rfl) .nil)))) (.cons (so_row rfl (by first | rfl | (simp only [push_cast, List.map_append, List.map_set, List.map_replicate]; done) | (simp only [push_cast, List.map_append, List.map_set, List.map_replicate]; rfl))) .nil)))
          · exact by decide
          · exact by decide
        refine go_seq ?_
        refine go_seq ?_
        refine go_region fun K hK => ?_
        try simp (config := { maxSteps := 4000000 }) only [push_cast, reduceIte, reduceCtorEq, Nat.reduceAdd, Nat.reduceSub, Nat.reduceMul, Nat.reduceEqDiff, Nat.reduceLT, Nat.reduceLeDiff]
        obtain ⟨t3, ht3, h0⟩ := bind_some' h0
        refine vops_callA (impl_TelegramOk_ok ht3) cb105 (by simp only [lt_some, lt_none, mk_n, Nat.reduceLT]) (by simp only [push_cast, List.map_append, List.map_set, List.map_replicate]; rfl) (Nat.le_of_ble_eq_true rfl) ?_
        try simp (config := { maxSteps := 4000000 }) only [push_cast, reduceIte, reduceCtorEq, Nat.reduceAdd, Nat.reduceSub, Nat.reduceMul, Nat.reduceEqDiff, Nat.reduceLT, Nat.reduceLeDiff]
        refine vops_if rfl (Nat.le_of_ble_eq_true rfl) (by simp only [lt_some, lt_none, mk_n, Nat.reduceLT]) (fun h19 => ?_) (fun h19 => ?_)
        · replace h19 : _ = false := h19
          replace h0 := (bif_f h19).symm.trans h0
          try simp (config := { maxSteps := 4000000 }) only [push_cast, reduceIte, reduceCtorEq, Nat.reduceAdd, Nat.reduceSub, Nat.reduceMul, Nat.reduceEqDiff, Nat.reduceLT, Nat.reduceLeDiff]
          obtain ⟨t4, ht4, h0⟩ := bind_some' h0
          refine vops_callA (impl_Encode_ok ht4) cb107 (by simp only [lt_some, lt_none, mk_n, Nat.reduceLT]) (by simp only [push_cast, List.map_append, List.map_set, List.map_replicate]; rfl) (Nat.le_of_ble_eq_true rfl) ?_
          try simp (config := { maxSteps := 4000000 }) only [push_cast, reduceIte, reduceCtorEq, Nat.reduceAdd, Nat.reduceSub, Nat.reduceMul, Nat.reduceEqDiff, Nat.reduceLT, Nat.reduceLeDiff]
          obtain ⟨t5, ht5, h0⟩ := bind_some' h0
          refine vops_callA (bytes_Equal_ok ht5) cb106 (by simp only [lt_some, lt_none, mk_n, Nat.reduceLT]) (by simp only [push_cast, List.map_append, List.map_set, List.map_replicate]; rfl) (Nat.le_of_ble_eq_true rfl) ?_
          try simp (config := { maxSteps := 4000000 }) only [push_cast, reduceIte, reduceCtorEq, Nat.reduceAdd, Nat.reduceSub, Nat.reduceMul, Nat.reduceEqDiff, Nat.reduceLT, Nat.reduceLeDiff]
          refine hK _ _ ?_
          clear hK K
          refine go_wk (k' := 3) (τ := mk 53 0 [(2, .c (.ptr 0 0)), (5, .c (.ptr 1 0)), (50, .c (.bool (!t5)))] (nums 0 [.box [.int .i64 (0 : Int), .int .i64 (0 : Int), .nil], .box [.int .i64 (IntKind.i64.wrap (rd t2 (0 : Int))), .int .i64 (IntKind.i64.wrap (rd t2 (1 : Int))), .own 2], .row 5 1 ((([] : List Int) ++ ((t2.drop (3 : Int).toNat).take ((IntKind.i64.wrap ((t2.length : Int) - (1 : Int))).toNat - (3 : Int).toNat))).map eIu8)])) ?_ ?_
          ·
            refine wk_mk [some 0, some 1, some 2] rfl ?_ ?_ ?_ ?_ ?_
            · exact (fun i h => absurd h (by omega))
            · exact (.cons _ _ _ (sv_ptr rfl) (.cons _ _ _ (sv_ptr rfl) (.cons _ _ _ (sv_bool (by first | rfl | (simp only [push_cast, List.map_append, List.map_set, List.map_replicate]; done) | (simp only [push_cast, List.map_append, List.map_set, List.map_replicate]; rfl))) .nil)))
            · exact (.cons (.box _ _ _ rfl (.cons (sc_int (by first | rfl | (simp only [push_cast, List.map_append, List.map_set, List.map_replicate]; done) | (simp only [push_cast, List.map_append, List.map_set, List.map_replicate]; rfl))) (.cons (sc_int (by first | rfl | (simp only [push_cast, List.map_append, List.map_set, List.map_replicate]; done) | (simp only [push_cast, List.map_append, List.map_set, List.map_replicate]; rfl))) (.cons .nil .nil)))) (.cons (.box _ _ _ rfl (.cons (sc_int (by first | rfl | (simp only [push_cast, List.map_append, List.map_set, List.map_replicate]; done) | (simp only [push_cast, List.map_append, List.map_set, List.map_replicate]; rfl))) (.cons (sc_int (by first | rfl | (simp only [push_cast, List.map_append, List.map_set, List.map_replicate]; done) | (simp only [push_cast, List.map_append, List.map_set, List.map_replicate]; rfl))) (.cons (.own _ _ rfl) .nil)))) (.cons (so_row rfl (by first | rfl | (simp only [push_cast, List.map_append, List.map_set, List.map_replicate]; done) | (simp only [push_cast, List.map_append, List.map_set, List.map_replicate]; rfl))) .nil)))
            · exact by decide
            · exact by decide
          refine go_cond _ rfl (fun h20 => ?_) (fun h20 => ?_)
          · replace h0 := (bif_t h20).symm.trans h0
            refine go_seq ?_
            refine go_region fun K hK => ?_
            try simp (config := { maxSteps := 4000000 }) only [push_cast, reduceIte, reduceCtorEq, Nat.reduceAdd, Nat.reduceSub, Nat.reduceMul, Nat.reduceEqDiff, Nat.reduceLT, Nat.reduceLeDiff]
            repeat (refine And.intro ?_ ?_; · ((repeat' apply And.intro) <;> first | assumption | omega | kernel_rfl | decide | (simp; done) | (simp only [List.length_cons, List.length_nil, List.length_append, List.length_map, List.length_set, List.length_replicate, List.length_take, List.length_drop] at *; omega)))
            refine hK _ _ ?_
            clear hK K
            refine go_wk (k' := 1) (τ := mk 53 0 [(2, .c (.ptr 0 0)), (3, .c (.bool false))] (nums 0 [.box [.int .i64 (0 : Int), .int .i64 (0 : Int), .nil]])) ?_ ?_
            ·
              refine wk_mk [some 0] rfl ?_ ?_ ?_ ?_ ?_
              · exact (fun i h => absurd h (by omega))
              · exact (.cons _ _ _ (sv_ptr rfl) (.cons _ _ _ (sv_bool (by first | rfl | (simp only [push_cast, List.map_append, List.map_set, List.map_replicate]; done) | (simp only [push_cast, List.map_append, List.map_set, List.map_replicate]; rfl))) .nil))
              · exact (.cons (.box _ _ _ rfl (.cons (sc_int (by first | rfl | (simp only [push_cast, List.map_append, List.map_set, List.map_replicate]; done) | (simp only [push_cast, List.map_append, List.map_set, List.map_replicate]; rfl))) (.cons (sc_int (by first | rfl | (simp only [push_cast, List.map_append, List.map_set, List.map_replicate]; done) | (simp only [push_cast, List.map_append, List.map_set, List.map_replicate]; rfl))) (.cons .nil .nil)))) .nil)
              · exact by decide
              · exact by decide
            refine go_ret ?_
            refine go_out_ret ?_
            cases h0
            refine go_end_ret ?_
            exact ⟨_, [], (by simp only [List.mapM_cons, List.mapM_nil, resv, push_cast, List.map_append, List.map_set, List.map_replicate]; rfl), (.cons (.a (.cons (.int _ _) (.cons (.int _ _) (.cons (.nilOwn _ _ (by decide)) .nil)))) (.cons (.c (.bool _)) .nil)), by decide, .inr (by simp only [RT.cells, List.mem_cons, List.mem_singleton, List.not_mem_nil, or_false, forall_eq, forall_eq_or_imp, allOwn_int, allOwn_bool, allOwn_str, allOwn_none, eIu8_ao, eTelegram_ao, eIi64_ao, eShunt_ao, eLIi64_ao, eSidings_ao, eNeed_ao, eRoute_ao, ePlant_ao, eLockOp_ao, eB_ao, eLocking_ao, eTask_ao, eRule_ao, eEdge_ao, eCall_ao, eTrip_ao, eBooking_ao, eNet_ao, eTrain_ao, eDesk_ao, eUse_ao, eRun_ao, eT_ao, o120Trip_ao, o33LIi64_ao, implies_true, and_true, false_implies, List.map_eq_nil_iff, and_self])⟩
          · replace h0 := (bif_f h20).symm.trans h0
            refine go_skip ?_
            refine go_seq ?_
            refine go_region fun K hK => ?_
            try simp (config := { maxSteps := 4000000 }) only [push_cast, reduceIte, reduceCtorEq, Nat.reduceAdd, Nat.reduceSub, Nat.reduceMul, Nat.reduceEqDiff, Nat.reduceLT, Nat.reduceLeDiff]
            repeat (refine And.intro ?_ ?_; · ((repeat' apply And.intro) <;> first | assumption | omega | kernel_rfl | decide | (simp; done) | (simp only [List.length_cons, List.length_nil, List.length_append, List.length_map, List.length_set, List.length_replicate, List.length_take, List.length_drop] at *; omega)))
            refine hK _ _ ?_
            clear hK K
            refine go_wk (k' := 2) (τ := mk 53 0 [(2, .c (.ptr 0 0)), (3, .c (.bool true))] (nums 0 [.box [.int .i64 (IntKind.i64.wrap (rd t2 (0 : Int))), .int .i64 (IntKind.i64.wrap (rd t2 (1 : Int))), .own 1], .row 5 1 ((([] : List Int) ++ ((t2.drop (3 : Int).toNat).take ((IntKind.i64.wrap ((t2.length : Int) - (1 : Int))).toNat - (3 : Int).toNat))).map eIu8)])) ?_ ?_
            ·
              refine wk_mk [some 0, some 2] rfl ?_ ?_ ?_ ?_ ?_
              · exact (fun i h => absurd h (by omega))
              · exact (.cons _ _ _ (sv_ptr rfl) (.cons _ _ _ (sv_bool (by first | rfl | (simp only [push_cast, List.map_append, List.map_set, List.map_replicate]; done) | (simp only [push_cast, List.map_append, List.map_set, List.map_replicate]; rfl))) .nil))
              · exact (.cons (.box _ _ _ rfl (.cons (sc_int (by first | rfl | (simp only [push_cast, List.map_append, List.map_set, List.map_replicate]; done) | (simp only [push_cast, List.map_append, List.map_set, List.map_replicate]; rfl))) (.cons (sc_int (by first | rfl | (simp only [push_cast, List.map_append, List.map_set, List.map_replicate]; done) | (simp only [push_cast, List.map_append, List.map_set, List.map_replicate]; rfl))) (.cons (.own _ _ rfl) .nil)))) (.cons (so_row rfl (by first | rfl | (simp only [push_cast, List.map_append, List.map_set, List.map_replicate]; done) | (simp only [push_cast, List.map_append, List.map_set, List.map_replicate]; rfl))) .nil))
              · exact by decide
              · exact by decide
            refine go_ret ?_
            cases h0
            refine go_end_ret ?_
            exact ⟨_, [1], (by simp only [List.mapM_cons, List.mapM_nil, resv, push_cast, List.map_append, List.map_set, List.map_replicate]; rfl), (.cons (.a (.cons (.int _ _) (.cons (.int _ _) (.cons (mc_own rfl (by first | rfl | (simp only [push_cast, List.map_append, List.map_set, List.map_replicate]; done) | (simp only [push_cast, List.map_append, List.map_set, List.map_replicate]; rfl))) .nil)))) (.cons (.c (.bool _)) .nil)), by decide, .inr (by simp only [RT.cells, List.mem_cons, List.mem_singleton, List.not_mem_nil, or_false, forall_eq, forall_eq_or_imp, allOwn_int, allOwn_bool, allOwn_str, allOwn_none, eIu8_ao, eTelegram_ao, eIi64_ao, eShunt_ao, eLIi64_ao, eSidings_ao, eNeed_ao, eRoute_ao, ePlant_ao, eLockOp_ao, eB_ao, eLocking_ao, eTask_ao, eRule_ao, eEdge_ao, eCall_ao, eTrip_ao, eBooking_ao, eNet_ao, eTrain_ao, eDesk_ao, eUse_ao, eRun_ao, eT_ao, o120Trip_ao, o33LIi64_ao, implies_true, and_true, false_implies, List.map_eq_nil_iff, and_self])⟩
        · replace h19 : _ = true := h19
          replace h0 := (bif_t h19).symm.trans h0
          try simp (config := { maxSteps := 4000000 }) only [push_cast, reduceIte, reduceCtorEq, Nat.reduceAdd, Nat.reduceSub, Nat.reduceMul, Nat.reduceEqDiff, Nat.reduceLT, Nat.reduceLeDiff]
          repeat (refine And.intro ?_ ?_; · ((repeat' apply And.intro) <;> first | assumption | omega | kernel_rfl | decide | (simp; done) | (simp only [List.length_cons, List.length_nil, List.length_append, List.length_map, List.length_set, List.length_replicate, List.length_take, List.length_drop] at *; omega)))
          refine hK _ _ ?_
          clear hK K
          refine go_wk (k' := 3) (τ := mk 53 0 [(2, .c (.ptr 0 0)), (5, .c (.ptr 1 0)), (50, .c (.bool true))] (nums 0 [.box [.int .i64 (0 : Int), .int .i64 (0 : Int), .nil], .box [.int .i64 (IntKind.i64.wrap (rd t2 (0 : Int))), .int .i64 (IntKind.i64.wrap (rd t2 (1 : Int))), .own 2], .row 5 1 ((([] : List Int) ++ ((t2.drop (3 : Int).toNat).take ((IntKind.i64.wrap ((t2.length : Int) - (1 : Int))).toNat - (3 : Int).toNat))).map eIu8)])) ?_ ?_
          ·
            refine wk_mk [some 0, some 1, some 2] rfl ?_ ?_ ?_ ?_ ?_
            · exact (fun i h => absurd h (by omega))
            · exact (.cons _ _ _ (sv_ptr rfl) (.cons _ _ _ (sv_ptr rfl) (.cons _ _ _ (sv_bool (by first | rfl | (simp only [push_cast, List.map_append, List.map_set, List.map_replicate]; done) | (simp only [push_cast, List.map_append, List.map_set, List.map_replicate]; rfl))) .nil)))
            · exact (.cons (.box _ _ _ rfl (.cons (sc_int (by first | rfl | (simp only [push_cast, List.map_append, List.map_set, List.map_replicate]; done) | (simp only [push_cast, List.map_append, List.map_set, List.map_replicate]; rfl))) (.cons (sc_int (by first | rfl | (simp only [push_cast, List.map_append, List.map_set, List.map_replicate]; done) | (simp only [push_cast, List.map_append, List.map_set, List.map_replicate]; rfl))) (.cons .nil .nil)))) (.cons (.box _ _ _ rfl (.cons (sc_int (by first | rfl | (simp only [push_cast, List.map_append, List.map_set, List.map_replicate]; done) | (simp only [push_cast, List.map_append, List.map_set, List.map_replicate]; rfl))) (.cons (sc_int (by first | rfl | (simp only [push_cast, List.map_append, List.map_set, List.map_replicate]; done) | (simp only [push_cast, List.map_append, List.map_set, List.map_replicate]; rfl))) (.cons (.own _ _ rfl) .nil)))) (.cons (so_row rfl (by first | rfl | (simp only [push_cast, List.map_append, List.map_set, List.map_replicate]; done) | (simp only [push_cast, List.map_append, List.map_set, List.map_replicate]; rfl))) .nil)))
            · exact by decide
            · exact by decide
          refine go_cond true rfl (fun hb => ?_) (fun hb => nomatch hb)
          clear hb
          refine go_seq ?_
          refine go_region fun K hK => ?_
          try simp (config := { maxSteps := 4000000 }) only [push_cast, reduceIte, reduceCtorEq, Nat.reduceAdd, Nat.reduceSub, Nat.reduceMul, Nat.reduceEqDiff, Nat.reduceLT, Nat.reduceLeDiff]
          repeat (refine And.intro ?_ ?_; · ((repeat' apply And.intro) <;> first | assumption | omega | kernel_rfl | decide | (simp; done) | (simp only [List.length_cons, List.length_nil, List.length_append, List.length_map, List.length_set, List.length_replicate, List.length_take, List.length_drop] at *; omega)))
          refine hK _ _ ?_
          clear hK K
          refine go_wk (k' := 1) (τ := mk 53 0 [(2, .c (.ptr 0 0)), (3, .c (.bool false))] (nums 0 [.box [.int .i64 (0 : Int), .int .i64 (0 : Int), .nil]])) ?_ ?_
          ·
            refine wk_mk [some 0] rfl ?_ ?_ ?_ ?_ ?_
            · exact (fun i h => absurd h (by omega))
            · exact (.cons _ _ _ (sv_ptr rfl) (.cons _ _ _ (sv_bool (by first | rfl | (simp only [push_cast, List.map_append, List.map_set, List.map_replicate]; done) | (simp only [push_cast, List.map_append, List.map_set, List.map_replicate]; rfl))) .nil))
            · exact (.cons (.box _ _ _ rfl (.cons (sc_int (by first | rfl | (simp only [push_cast, List.map_append, List.map_set, List.map_replicate]; done) | (simp only [push_cast, List.map_append, List.map_set, List.map_replicate]; rfl))) (.cons (sc_int (by first | rfl | (simp only [push_cast, List.map_append, List.map_set, List.map_replicate]; done) | (simp only [push_cast, List.map_append, List.map_set, List.map_replicate]; rfl))) (.cons .nil .nil)))) .nil)
            · exact by decide
            · exact by decide
          refine go_ret ?_
          refine go_out_ret ?_
          cases h0
          refine go_end_ret ?_
          exact ⟨_, [], (by simp only [List.mapM_cons, List.mapM_nil, resv, push_cast, List.map_append, List.map_set, List.map_replicate]; rfl), (.cons (.a (.cons (.int _ _) (.cons (.int _ _) (.cons (.nilOwn _ _ (by decide)) .nil)))) (.cons (.c (.bool _)) .nil)), by decide, .inr (by simp only [RT.cells, List.mem_cons, List.mem_singleton, List.not_mem_nil, or_false, forall_eq, forall_eq_or_imp, allOwn_int, allOwn_bool, allOwn_str, allOwn_none, eIu8_ao, eTelegram_ao, eIi64_ao, eShunt_ao, eLIi64_ao, eSidings_ao, eNeed_ao, eRoute_ao, ePlant_ao, eLockOp_ao, eB_ao, eLocking_ao, eTask_ao, eRule_ao, eEdge_ao, eCall_ao, eTrip_ao, eBooking_ao, eNet_ao, eTrain_ao, eDesk_ao, eUse_ao, eRun_ao, eT_ao, o120Trip_ao, o33LIi64_ao, implies_true, and_true, false_implies, List.map_eq_nil_iff, and_self])⟩
end Go.V
set_option linter.unusedSimpArgs false
set_option linter.unusedVariables false
namespace Go.V
open Go Go.RowKit Go.Proofs
set_option maxHeartbeats 4000000 in
set_option maxRecDepth 100000 in
theorem laws_eqByteS_ok {a0 : (List Int)} {a1 : (List Int)} {r : Bool} (h0 : laws_eqByteS a0 a1 = some r) :
    OkA Try.prog 24 [.v (.sl none (a0.map eIu8)), .v (.sl none (a1.map eIu8))] [.c (.bool r)] false := by
  unfold laws_eqByteS at h0
  refine okA_of (n := 26) (rvs := [.tmp 4]) Try.func24 rfl rfl rfl (by simp) ?_
  simp only [slots, slotsM, widths, List.map_cons, List.sum_cons, List.sum_nil, Nat.reduceAdd, List.length_cons, List.length_nil, RT.width, unRs, unR, unCs, unC, putsO, putO, Cell.ro, List.map_cons, List.map_nil, List.nil_append, List.append_nil, List.cons_append]
  refine go_seq ?_
  refine go_region fun K hK => ?_
  try simp (config := { maxSteps := 4000000 }) only [push_cast, reduceIte, reduceCtorEq, Nat.reduceAdd, Nat.reduceSub, Nat.reduceMul, Nat.reduceEqDiff, Nat.reduceLT, Nat.reduceLeDiff]
  refine hK _ _ ?_
  clear hK K
  refine go_seq ?_
  refine go_seq ?_
  refine go_region fun K hK => ?_
  try simp (config := { maxSteps := 4000000 }) only [push_cast, reduceIte, reduceCtorEq, Nat.reduceAdd, Nat.reduceSub, Nat.reduceMul, Nat.reduceEqDiff, Nat.reduceLT, Nat.reduceLeDiff]
  refine hK _ _ ?_
  clear hK K
  refine go_cond _ rfl (fun h2 => ?_) (fun h2 => ?_)
  · replace h0 := (bif_t h2).symm.trans h0
    refine go_seq ?_
    refine go_region fun K hK => ?_
    try simp (config := { maxSteps := 4000000 }) only [push_cast, reduceIte, reduceCtorEq, Nat.reduceAdd, Nat.reduceSub, Nat.reduceMul, Nat.reduceEqDiff, Nat.reduceLT, Nat.reduceLeDiff]
    refine hK _ _ ?_
    clear hK K
    refine go_ret ?_
    refine go_out_ret ?_
    cases h0
    refine go_end_ret ?_
    exact ⟨_, [], rfl, (.cons (.c (.bool _)) .nil), by decide, .inr (by simp only [RT.cells, List.mem_cons, List.mem_singleton, List.not_mem_nil, or_false, forall_eq, forall_eq_or_imp, allOwn_int, allOwn_bool, allOwn_str, allOwn_none, eIu8_ao, eTelegram_ao, eIi64_ao, eShunt_ao, eLIi64_ao, eSidings_ao, eNeed_ao, eRoute_ao, ePlant_ao, eLockOp_ao, eB_ao, eLocking_ao, eTask_ao, eRule_ao, eEdge_ao, eCall_ao, eTrip_ao, eBooking_ao, eNet_ao, eTrain_ao, eDesk_ao, eUse_ao, eRun_ao, eT_ao, o120Trip_ao, o33LIi64_ao, implies_true, and_true, false_implies, List.map_eq_nil_iff, and_self])⟩
  · replace h0 := (bif_f h2).symm.trans h0
    refine go_skip ?_
    refine go_seq ?_
    refine go_seq ?_
    refine go_region fun K hK => ?_
    try simp (config := { maxSteps := 4000000 }) only [push_cast, reduceIte, reduceCtorEq, Nat.reduceAdd, Nat.reduceSub, Nat.reduceMul, Nat.reduceEqDiff, Nat.reduceLT, Nat.reduceLeDiff]
    refine hK _ _ ?_
    clear hK K
    obtain ⟨o3, h4, h0⟩ := bind_some' h0
    obtain ⟨m5, h6⟩ := loop_runs h4
    clear h4
    refine go_cut (fun k σ => o3 = .inl () ∧ Wk k σ 0 (mk 26 0 [] (nums 0 []))) ?_ ?_
    ·
      refine go_block (go_loop (fun n k σ => ∃ x1 : Int, Runs (fun v => laws_eqByteS_b0 a0 a1 v) n x1 o3 ∧ Wk k σ 0 (mk 26 0 [(0, .c (.lst (a0.map eIu8))), (1, .c (.lst (a1.map eIu8))), (5, .c (.int .i64 x1))] (nums 0 []))) m5 ⟨(0 : Int), h6, ?_⟩ ?_)
      ·
        refine wk_mk [] rfl ?_ ?_ ?_ ?_ ?_
        · exact (fun i h => absurd h (by omega))
        · exact (.cons _ _ _ (sv_lst (by first | rfl | (simp only [push_cast, List.map_append, List.map_set, List.map_replicate]; done) | (simp only [push_cast, List.map_append, List.map_set, List.map_replicate]; rfl))) (.cons _ _ _ (sv_lst (by first | rfl | (simp only [push_cast, List.map_append, List.map_set, List.map_replicate]; done) | (simp only [push_cast, List.map_append, List.map_set, List.map_replicate]; rfl))) (.cons _ _ _ (sv_int (by first | rfl | (simp only [push_cast, List.map_append, List.map_set, List.map_replicate]; done) | (simp only [push_cast, List.map_append, List.map_set, List.map_replicate]; rfl))) .nil)))
        · exact .nil
        · exact by decide
        · exact by decide
      clear h6
      rintro n7 k8 s9 ⟨x1, h10, h11⟩
      refine go_wk h11 ?_
      obtain ⟨y12, h13, h14⟩ := h10.next
      clear h11 h10
      replace h13 : laws_eqByteS_b0 a0 a1 x1 = some y12 := h13
      unfold laws_eqByteS_b0 at h13
      refine go_seq ?_
      refine go_seq ?_
      refine go_region fun K hK => ?_
      try simp (config := { maxSteps := 4000000 }) only [push_cast, reduceIte, reduceCtorEq, Nat.reduceAdd, Nat.reduceSub, Nat.reduceMul, Nat.reduceEqDiff, Nat.reduceLT, Nat.reduceLeDiff]
      refine hK _ _ ?_
      clear hK K
      refine go_cond _ rfl (fun h15 => ?_) (fun h15 => ?_)
      · replace h13 := (bif_t h15).symm.trans h13
        refine go_skip ?_
        refine go_seq ?_
        refine go_block ?_
        refine go_seq ?_
        refine go_draw hmix fun K hK => ?_
        obtain ⟨h16, h13⟩ := ite_some' h13
        obtain ⟨h17, h13⟩ := ite_some' h13
        try simp (config := { maxSteps := 4000000 }) only [push_cast, reduceIte, reduceCtorEq, Nat.reduceAdd, Nat.reduceSub, Nat.reduceMul, Nat.reduceEqDiff, Nat.reduceLT, Nat.reduceLeDiff, rd_some h16, rd_some h17]
        repeat (refine And.intro ?_ ?_; · ((repeat' apply And.intro) <;> first | assumption | omega | kernel_rfl | decide | (simp; done) | (simp only [List.length_cons, List.length_nil, List.length_append, List.length_map, List.length_set, List.length_replicate, List.length_take, List.length_drop] at *; omega)))
        refine hK _ _ ?_
        clear hK K
        refine go_cond _ rfl (fun h18 => ?_) (fun h18 => ?_)
        · replace h13 := (bif_t h18).symm.trans h13
          refine go_seq ?_
          refine go_region fun K hK => ?_
          try simp (config := { maxSteps := 4000000 }) only [push_cast, reduceIte, reduceCtorEq, Nat.reduceAdd, Nat.reduceSub, Nat.reduceMul, Nat.reduceEqDiff, Nat.reduceLT, Nat.reduceLeDiff]
          refine hK _ _ ?_
          clear hK K
          refine go_ret ?_
          refine go_blk_ret ?_
          refine go_out_ret ?_
          refine go_lp_ret ?_
          refine go_blk_ret ?_
          refine go_lp_ret ?_
          refine go_out_ret ?_
          have e19 := Option.some.inj h13
          rw [← e19] at h14
          replace h14 : _ = _ := h14
          rw [← h14] at h0
          replace h0 : some _ = some _ := h0
          cases h0
          refine go_end_ret ?_
          exact ⟨_, [], rfl, (.cons (.c (.bool _)) .nil), by decide, .inr (by simp only [RT.cells, List.mem_cons, List.mem_singleton, List.not_mem_nil, or_false, forall_eq, forall_eq_or_imp, allOwn_int, allOwn_bool, allOwn_str, allOwn_none, eIu8_ao, eTelegram_ao, eIi64_ao, eShunt_ao, eLIi64_ao, eSidings_ao, eNeed_ao, eRoute_ao, ePlant_ao, eLockOp_ao, eB_ao, eLocking_ao, eTask_ao, eRule_ao, eEdge_ao, eCall_ao, eTrip_ao, eBooking_ao, eNet_ao, eTrain_ao, eDesk_ao, eUse_ao, eRun_ao, eT_ao, o120Trip_ao, o33LIi64_ao, implies_true, and_true, false_implies, List.map_eq_nil_iff, and_self])⟩
        · replace h13 := (bif_f h18).symm.trans h13
          refine go_skip ?_
          refine go_blk 1 ?_
          refine go_region fun K hK => ?_
          try simp (config := { maxSteps := 4000000 }) only [push_cast, reduceIte, reduceCtorEq, Nat.reduceAdd, Nat.reduceSub, Nat.reduceMul, Nat.reduceEqDiff, Nat.reduceLT, Nat.reduceLeDiff]
          refine hK _ _ ?_
          clear hK K
          have e20 := Option.some.inj h13
          rw [← e20] at h14
          obtain ⟨m21, h22, h23⟩ := h14
          refine go_lp ⟨m21, h22, (IntKind.i64.wrap (x1 + (1 : Int))), h23, ?_⟩
          refine wk_mk [] rfl ?_ ?_ ?_ ?_ ?_
          · exact (fun i h => absurd h (by omega))
          · exact (.cons _ _ _ (sv_lst (by first | rfl | (simp only [push_cast, List.map_append, List.map_set, List.map_replicate]; done) | (simp only [push_cast, List.map_append, List.map_set, List.map_replicate]; rfl))) (.cons _ _ _ (sv_lst (by first | rfl | (simp only [push_cast, List.map_append, List.map_set, List.map_replicate]; done) | (simp only [push_cast, List.map_append, List.map_set, List.map_replicate]; rfl))) (.cons _ _ _ (sv_int (by first | rfl | (simp only [push_cast, List.map_append, List.map_set, List.map_replicate]; done) | (simp only [push_cast, List.map_append, List.map_set, List.map_replicate]; rfl))) .nil)))
          · exact .nil
          · exact by decide
          · exact by decide
      · replace h13 := (bif_f h15).symm.trans h13
        refine go_exit ?_
        refine go_out ?_
        refine go_lp_out ?_
        refine go_blk_at ?_
        have e24 := Option.some.inj h13
        rw [← e24] at h14
        replace h14 : _ = _ := h14
        refine go_lp ⟨h14.symm, ?_⟩
        refine wk_mk [] rfl ?_ ?_ ?_ ?_ ?_
        · exact (fun i h => absurd h (by omega))
        · exact .nil
        · exact .nil
        · exact by decide
        · exact by decide
    · rintro k σ ⟨h25q, h25⟩
      rw [h25q] at h0
      try dsimp only [Sum.elim_inl] at h0
      refine go_seq ?_
      refine go_wk h25 ?_
      clear h25
      refine go_region fun K hK => ?_
      try simp (config := { maxSteps := 4000000 }) only [push_cast, reduceIte, reduceCtorEq, Nat.reduceAdd, Nat.reduceSub, Nat.reduceMul, Nat.reduceEqDiff, Nat.reduceLT, Nat.reduceLeDiff]
      refine hK _ _ ?_
      clear hK K
      refine go_ret ?_
      cases h0
      refine go_end_ret ?_
      exact ⟨_, [], rfl, (.cons (.c (.bool _)) .nil), by decide, .inr (by simp only [RT.cells, List.mem_cons, List.mem_singleton, List.not_mem_nil, or_false, forall_eq, forall_eq_or_imp, allOwn_int, allOwn_bool, allOwn_str, allOwn_none, eIu8_ao, eTelegram_ao, eIi64_ao, eShunt_ao, eLIi64_ao, eSidings_ao, eNeed_ao, eRoute_ao, ePlant_ao, eLockOp_ao, eB_ao, eLocking_ao, eTask_ao, eRule_ao, eEdge_ao, eCall_ao, eTrip_ao, eBooking_ao, eNet_ao, eTrain_ao, eDesk_ao, eUse_ao, eRun_ao, eT_ao, o120Trip_ao, o33LIi64_ao, implies_true, and_true, false_implies, List.map_eq_nil_iff, and_self])⟩
end Go.V
set_option linter.unusedSimpArgs false
set_option linter.unusedVariables false
namespace Go.V
open Go Go.RowKit Go.Proofs
set_option maxHeartbeats 4000000 in
set_option maxRecDepth 100000 in
theorem laws_eqTelegram_ok {a0 : STelegram} {a1 : STelegram} {r : Bool} (h0 : laws_eqTelegram a0 a1 = some r) :
    OkA Try.prog 23 [.s (eTelegram a0), .s (eTelegram a1)] [.c (.bool r)] false := by
  unfold laws_eqTelegram at h0
  refine okA_of (n := 21) (rvs := [.tmp 4]) Try.func23 rfl rfl rfl (by simp) ?_
  simp only [slots, slotsM, widths, List.map_cons, List.sum_cons, List.sum_nil, Nat.reduceAdd, List.length_cons, List.length_nil, RT.width, unRs, unR, unCs, unC, putsO, putO, Cell.ro, List.map_cons, List.map_nil, List.nil_append, List.append_nil, List.cons_append]
  refine go_seq ?_
  refine go_region fun K hK => ?_
  try simp (config := { maxSteps := 4000000 }) only [push_cast, reduceIte, reduceCtorEq, Nat.reduceAdd, Nat.reduceSub, Nat.reduceMul, Nat.reduceEqDiff, Nat.reduceLT, Nat.reduceLeDiff]
  refine hK _ _ ?_
  clear hK K
  refine go_wk (k' := 2) (τ := mk 21 0 [(2, .c (.ptr 0 0)), (3, .c (.ptr 1 0))] (nums 0 [.box [.int .i64 a0.fSeq, .int .i64 a0.fKind, .lst (a0.fBody.map eIu8)], .box [.int .i64 a1.fSeq, .int .i64 a1.fKind, .lst (a1.fBody.map eIu8)]])) ?_ ?_
  ·
    refine wk_mk [some 0, some 32] rfl ?_ ?_ ?_ ?_ ?_
    · exact (fun i h => absurd h (by omega))
    · exact (.cons _ _ _ (sv_ptr rfl) (.cons _ _ _ (sv_ptr rfl) .nil))
    · exact (.cons (.box _ _ _ rfl (.cons (sc_int (by first | rfl | (simp only [push_cast, List.map_append, List.map_set, List.map_replicate]; done) | (simp only [push_cast, List.map_append, List.map_set, List.map_replicate]; rfl))) (.cons (sc_int (by first | rfl | (simp only [push_cast, List.map_append, List.map_set, List.map_replicate]; done) | (simp only [push_cast, List.map_append, List.map_set, List.map_replicate]; rfl))) (.cons (sc_lst (by first | rfl | (simp only [push_cast, List.map_append, List.map_set, List.map_replicate]; done) | (simp only [push_cast, List.map_append, List.map_set, List.map_replicate]; rfl))) .nil)))) (.cons (.box _ _ _ rfl (.cons (sc_int (by first | rfl | (simp only [push_cast, List.map_append, List.map_set, List.map_replicate]; done) | (simp only [push_cast, List.map_append, List.map_set, List.map_replicate]; rfl))) (.cons (sc_int (by first | rfl | (simp only [push_cast, List.map_append, List.map_set, List.map_replicate]; done) | (simp only [push_cast, List.map_append, List.map_set, List.map_replicate]; rfl))) (.cons (sc_lst (by first | rfl | (simp only [push_cast, List.map_append, List.map_set, List.map_replicate]; done) | (simp only [push_cast, List.map_append, List.map_set, List.map_replicate]; rfl))) .nil)))) .nil))
    · exact by decide
    · exact by decide
  refine go_seq ?_
  refine go_seq ?_
  refine go_region fun K hK => ?_
  try simp (config := { maxSteps := 4000000 }) only [push_cast, reduceIte, reduceCtorEq, Nat.reduceAdd, Nat.reduceSub, Nat.reduceMul, Nat.reduceEqDiff, Nat.reduceLT, Nat.reduceLeDiff]
  refine hK _ _ ?_
  clear hK K
  refine go_cond _ rfl (fun h2 => ?_) (fun h2 => ?_)
  · replace h0 := (bif_t h2).symm.trans h0
    refine go_seq ?_
    refine go_region fun K hK => ?_
    try simp (config := { maxSteps := 4000000 }) only [push_cast, reduceIte, reduceCtorEq, Nat.reduceAdd, Nat.reduceSub, Nat.reduceMul, Nat.reduceEqDiff, Nat.reduceLT, Nat.reduceLeDiff]
    refine hK _ _ ?_
    clear hK K
    refine go_ret ?_
    refine go_out_ret ?_
    cases h0
    refine go_end_ret ?_
    exact ⟨_, [], rfl, (.cons (.c (.bool _)) .nil), by decide, .inr (by simp only [RT.cells, List.mem_cons, List.mem_singleton, List.not_mem_nil, or_false, forall_eq, forall_eq_or_imp, allOwn_int, allOwn_bool, allOwn_str, allOwn_none, eIu8_ao, eTelegram_ao, eIi64_ao, eShunt_ao, eLIi64_ao, eSidings_ao, eNeed_ao, eRoute_ao, ePlant_ao, eLockOp_ao, eB_ao, eLocking_ao, eTask_ao, eRule_ao, eEdge_ao, eCall_ao, eTrip_ao, eBooking_ao, eNet_ao, eTrain_ao, eDesk_ao, eUse_ao, eRun_ao, eT_ao, o120Trip_ao, o33LIi64_ao, implies_true, and_true, false_implies, List.map_eq_nil_iff, and_self])⟩
  · replace h0 := (bif_f h2).symm.trans h0
    refine go_skip ?_
    refine go_seq ?_
    refine go_seq ?_
    refine go_region fun K hK => ?_
    try simp (config := { maxSteps := 4000000 }) only [push_cast, reduceIte, reduceCtorEq, Nat.reduceAdd, Nat.reduceSub, Nat.reduceMul, Nat.reduceEqDiff, Nat.reduceLT, Nat.reduceLeDiff]
    refine hK _ _ ?_
    clear hK K
    refine go_cond _ rfl (fun h3 => ?_) (fun h3 => ?_)
    · replace h0 := (bif_t h3).symm.trans h0
      refine go_seq ?_
      refine go_region fun K hK => ?_
      try simp (config := { maxSteps := 4000000 }) only [push_cast, reduceIte, reduceCtorEq, Nat.reduceAdd, Nat.reduceSub, Nat.reduceMul, Nat.reduceEqDiff, Nat.reduceLT, Nat.reduceLeDiff]
      refine hK _ _ ?_
      clear hK K
      refine go_ret ?_
      refine go_out_ret ?_
      cases h0
      refine go_end_ret ?_
      exact ⟨_, [], rfl, (.cons (.c (.bool _)) .nil), by decide, .inr (by simp only [RT.cells, List.mem_cons, List.mem_singleton, List.not_mem_nil, or_false, forall_eq, forall_eq_or_imp, allOwn_int, allOwn_bool, allOwn_str, allOwn_none, eIu8_ao, eTelegram_ao, eIi64_ao, eShunt_ao, eLIi64_ao, eSidings_ao, eNeed_ao, eRoute_ao, ePlant_ao, eLockOp_ao, eB_ao, eLocking_ao, eTask_ao, eRule_ao, eEdge_ao, eCall_ao, eTrip_ao, eBooking_ao, eNet_ao, eTrain_ao, eDesk_ao, eUse_ao, eRun_ao, eT_ao, o120Trip_ao, o33LIi64_ao, implies_true, and_true, false_implies, List.map_eq_nil_iff, and_self])⟩
    · replace h0 := (bif_f h3).symm.trans h0
      refine go_skip ?_
      refine go_seq ?_
      refine go_seq ?_
      refine go_region fun K hK => ?_
      try simp (config := { maxSteps := 4000000 }) only [push_cast, reduceIte, reduceCtorEq, Nat.reduceAdd, Nat.reduceSub, Nat.reduceMul, Nat.reduceEqDiff, Nat.reduceLT, Nat.reduceLeDiff]
      obtain ⟨t1, ht1, h0⟩ := bind_some' h0
      refine vops_callA (laws_eqByteS_ok ht1) cb24 (by simp only [lt_some, lt_none, mk_n, Nat.reduceLT]) (by simp only [push_cast, List.map_append, List.map_set, List.map_replicate]; rfl) (Nat.le_of_ble_eq_true rfl) ?_
      try simp (config := { maxSteps := 4000000 }) only [push_cast, reduceIte, reduceCtorEq, Nat.reduceAdd, Nat.reduceSub, Nat.reduceMul, Nat.reduceEqDiff, Nat.reduceLT, Nat.reduceLeDiff]
      refine hK _ _ ?_
      clear hK K
      refine go_wk (k' := 0) (τ := mk 21 0 [(20, .c (.bool (!t1)))] (nums 0 [])) ?_ ?_
      ·
        refine wk_mk [] rfl ?_ ?_ ?_ ?_ ?_
        · exact (fun i h => absurd h (by omega))
        · exact (.cons _ _ _ (sv_bool (by first | rfl | (simp only [push_cast, List.map_append, List.map_set, List.map_replicate]; done) | (simp only [push_cast, List.map_append, List.map_set, List.map_replicate]; rfl))) .nil)
        · exact .nil
        · exact by decide
        · exact by decide
      refine go_cond _ rfl (fun h4 => ?_) (fun h4 => ?_)
      · replace h0 := (bif_t h4).symm.trans h0
        refine go_seq ?_
        refine go_region fun K hK => ?_
        try simp (config := { maxSteps := 4000000 }) only [push_cast, reduceIte, reduceCtorEq, Nat.reduceAdd, Nat.reduceSub, Nat.reduceMul, Nat.reduceEqDiff, Nat.reduceLT, Nat.reduceLeDiff]
        refine hK _ _ ?_
        clear hK K
        refine go_ret ?_
        refine go_out_ret ?_
        cases h0
        refine go_end_ret ?_
        exact ⟨_, [], rfl, (.cons (.c (.bool _)) .nil), by decide, .inr (by simp only [RT.cells, List.mem_cons, List.mem_singleton, List.not_mem_nil, or_false, forall_eq, forall_eq_or_imp, allOwn_int, allOwn_bool, allOwn_str, allOwn_none, eIu8_ao, eTelegram_ao, eIi64_ao, eShunt_ao, eLIi64_ao, eSidings_ao, eNeed_ao, eRoute_ao, ePlant_ao, eLockOp_ao, eB_ao, eLocking_ao, eTask_ao, eRule_ao, eEdge_ao, eCall_ao, eTrip_ao, eBooking_ao, eNet_ao, eTrain_ao, eDesk_ao, eUse_ao, eRun_ao, eT_ao, o120Trip_ao, o33LIi64_ao, implies_true, and_true, false_implies, List.map_eq_nil_iff, and_self])⟩
      · replace h0 := (bif_f h4).symm.trans h0
        refine go_skip ?_
        refine go_seq ?_
        refine go_region fun K hK => ?_
        try simp (config := { maxSteps := 4000000 }) only [push_cast, reduceIte, reduceCtorEq, Nat.reduceAdd, Nat.reduceSub, Nat.reduceMul, Nat.reduceEqDiff, Nat.reduceLT, Nat.reduceLeDiff]
        refine hK _ _ ?_
        clear hK K
        refine go_ret ?_
        cases h0
        refine go_end_ret ?_
        exact ⟨_, [], rfl, (.cons (.c (.bool _)) .nil), by decide, .inr (by simp only [RT.cells, List.mem_cons, List.mem_singleton, List.not_mem_nil, or_false, forall_eq, forall_eq_or_imp, allOwn_int, allOwn_bool, allOwn_str, allOwn_none, eIu8_ao, eTelegram_ao, eIi64_ao, eShunt_ao, eLIi64_ao, eSidings_ao, eNeed_ao, eRoute_ao, ePlant_ao, eLockOp_ao, eB_ao, eLocking_ao, eTask_ao, eRule_ao, eEdge_ao, eCall_ao, eTrip_ao, eBooking_ao, eNet_ao, eTrain_ao, eDesk_ao, eUse_ao, eRun_ao, eT_ao, o120Trip_ao, o33LIi64_ao, implies_true, and_true, false_implies, List.map_eq_nil_iff, and_self])⟩
end Go.V
set_option linter.unusedSimpArgs false
set_option linter.unusedVariables false
namespace Go.V
open Go Go.RowKit Go.Proofs
set_option maxHeartbeats 4000000 in
set_option maxRecDepth 100000 in
theorem laws_markByteS_ok {a0 : (List Int)} {a1 : Int} {r : ((List Int) × Int)} (h0 : laws_markByteS a0 a1 = some r) :
    OkM Try.prog 25 [.c (.sl (some (5, 1)) (a0.map eIu8))] [.v (.int .i64 a1)] [.c (.sl (some (5, 1)) (r.1.map eIu8))] [.c (.int .i64 r.2)] := by
  unfold laws_markByteS at h0
  refine okM_of2 (n := 20) (rvs := [.tmp 4]) Try.func25 rfl rfl rfl (by simp) ?_
  simp only [slots, slotsM, widths, List.map_cons, List.sum_cons, List.sum_nil, Nat.reduceAdd, List.length_cons, List.length_nil, RT.width, unRs, unR, unCs, unC, putsO, putO, Cell.ro, List.map_cons, List.map_nil, List.nil_append, List.append_nil, List.cons_append]
  refine go_seq ?_
  refine go_region fun K hK => ?_
  try simp (config := { maxSteps := 4000000 }) only [push_cast, reduceIte, reduceCtorEq, Nat.reduceAdd, Nat.reduceSub, Nat.reduceMul, Nat.reduceEqDiff, Nat.reduceLT, Nat.reduceLeDiff]
  refine hK _ _ ?_
  clear hK K
  refine go_seq ?_
  refine go_seq ?_
  refine go_region fun K hK => ?_
  try simp (config := { maxSteps := 4000000 }) only [push_cast, reduceIte, reduceCtorEq, Nat.reduceAdd, Nat.reduceSub, Nat.reduceMul, Nat.reduceEqDiff, Nat.reduceLT, Nat.reduceLeDiff]
  refine hK _ _ ?_
  clear hK K
  obtain ⟨o6, h7, h0⟩ := bind_some' h0
  obtain ⟨m8, h9⟩ := loop_runs h7
  clear h7
  refine go_cut (fun k σ => ∃ x4 : Int, ∃ x5 : (List Int), o6 = (x4, x5) ∧ Wk k σ 1 (mk 20 1 [(1, .c (.int .i64 x4))] (nums 0 [.row 5 1 (x5.map eIu8)]))) ?_ ?_
  ·
    refine go_block (go_loop (fun n k σ => ∃ x1 : Int, ∃ x2 : Int, ∃ x3 : (List Int), Runs (fun v => laws_markByteS_b0 v.1 v.2.1 v.2.2) n (x1, x2, x3) o6 ∧ Wk k σ 1 (mk 20 1 [(0, .c (.own 0)), (1, .c (.int .i64 x1)), (5, .c (.int .i64 x2))] (nums 0 [.row 5 1 (x3.map eIu8)]))) m8 ⟨a1, (0 : Int), a0, h9, ?_⟩ ?_)
    ·
      refine wk_mk [some 0] rfl ?_ ?_ ?_ ?_ ?_
      · exact (anch (Nat.le_of_ble_eq_true rfl) (by decide))
      · exact (.cons _ _ _ (sv_own rfl) (.cons _ _ _ (sv_int (by first | rfl | (simp only [push_cast, List.map_append, List.map_set, List.map_replicate]; done) | (simp only [push_cast, List.map_append, List.map_set, List.map_replicate]; rfl))) (.cons _ _ _ (sv_int (by first | rfl | (simp only [push_cast, List.map_append, List.map_set, List.map_replicate]; done) | (simp only [push_cast, List.map_append, List.map_set, List.map_replicate]; rfl))) .nil)))
      · exact (.cons (so_row rfl (by first | rfl | (simp only [push_cast, List.map_append, List.map_set, List.map_replicate]; done) | (simp only [push_cast, List.map_append, List.map_set, List.map_replicate]; rfl))) .nil)
      · exact by decide
      · exact by decide
    clear h9
    rintro n10 k11 s12 ⟨x1, x2, x3, h13, h14⟩
    refine go_wk h14 ?_
    obtain ⟨y15, h16, h17⟩ := h13.next
    clear h14 h13
    replace h16 : laws_markByteS_b0 x1 x2 x3 = some y15 := h16
    unfold laws_markByteS_b0 at h16
    refine go_seq ?_
    refine go_seq ?_
    refine go_region fun K hK => ?_
    try simp (config := { maxSteps := 4000000 }) only [push_cast, reduceIte, reduceCtorEq, Nat.reduceAdd, Nat.reduceSub, Nat.reduceMul, Nat.reduceEqDiff, Nat.reduceLT, Nat.reduceLeDiff]
    refine hK _ _ ?_
    clear hK K
    refine go_cond _ rfl (fun h18 => ?_) (fun h18 => ?_)
    · replace h16 := (bif_t h18).symm.trans h16
      refine go_skip ?_
      refine go_seq ?_
      refine go_block ?_
      refine go_seq ?_
      refine go_region fun K hK => ?_
      obtain ⟨h19, h16⟩ := ite_some' h16
      try simp (config := { maxSteps := 4000000 }) only [push_cast, reduceIte, reduceCtorEq, Nat.reduceAdd, Nat.reduceSub, Nat.reduceMul, Nat.reduceEqDiff, Nat.reduceLT, Nat.reduceLeDiff, rd_some h19]
      repeat (refine And.intro ?_ ?_; · ((repeat' apply And.intro) <;> first | assumption | omega | kernel_rfl | decide | (simp; done) | (simp only [List.length_cons, List.length_nil, List.length_append, List.length_map, List.length_set, List.length_replicate, List.length_take, List.length_drop] at *; omega)))
      refine hK _ _ ?_
      clear hK K
      refine go_wk (k' := 1) (τ := mk 20 1 [(0, .c (.own 0)), (1, .c (.int .i64 x1)), (5, .c (.int .i64 x2))] (nums 0 [.row 5 1 ((x3.set x2.toNat (IntKind.u8.wrap x1)).map eIu8)])) ?_ ?_
      ·
        refine wk_mk [some 0] rfl ?_ ?_ ?_ ?_ ?_
        · exact (anch (Nat.le_of_ble_eq_true rfl) (by decide))
        · exact (.cons _ _ _ (sv_own rfl) (.cons _ _ _ (sv_int (by first | rfl | (simp only [push_cast, List.map_append, List.map_set, List.map_replicate]; done) | (simp only [push_cast, List.map_append, List.map_set, List.map_replicate]; rfl))) (.cons _ _ _ (sv_int (by first | rfl | (simp only [push_cast, List.map_append, List.map_set, List.map_replicate]; done) | (simp only [push_cast, List.map_append, List.map_set, List.map_replicate]; rfl))) .nil)))
        · exact (.cons (so_row rfl (by first | rfl | (simp only [push_cast, List.map_append, List.map_set, List.map_replicate]; done) | (simp only [push_cast, List.map_append, List.map_set, List.map_replicate]; rfl))) .nil)
        · exact by decide
        · exact by decide
      refine go_region fun K hK => ?_
      try simp (config := { maxSteps := 4000000 }) only [push_cast, reduceIte, reduceCtorEq, Nat.reduceAdd, Nat.reduceSub, Nat.reduceMul, Nat.reduceEqDiff, Nat.reduceLT, Nat.reduceLeDiff]
      refine hK _ _ ?_
      clear hK K
      refine go_blk 1 ?_
      refine go_region fun K hK => ?_
      try simp (config := { maxSteps := 4000000 }) only [push_cast, reduceIte, reduceCtorEq, Nat.reduceAdd, Nat.reduceSub, Nat.reduceMul, Nat.reduceEqDiff, Nat.reduceLT, Nat.reduceLeDiff]
      refine hK _ _ ?_
      clear hK K
      have e20 := Option.some.inj h16
      rw [← e20] at h17
      obtain ⟨m21, h22, h23⟩ := h17
      refine go_lp ⟨m21, h22, (IntKind.i64.wrap (x1 + (1 : Int))), (IntKind.i64.wrap (x2 + (1 : Int))), (x3.set x2.toNat (IntKind.u8.wrap x1)), h23, ?_⟩
      refine wk_mk [some 0] rfl ?_ ?_ ?_ ?_ ?_
      · exact (anch (Nat.le_of_ble_eq_true rfl) (by decide))
      · exact (.cons _ _ _ (sv_own rfl) (.cons _ _ _ (sv_int (by first | rfl | (simp only [push_cast, List.map_append, List.map_set, List.map_replicate]; done) | (simp only [push_cast, List.map_append, List.map_set, List.map_replicate]; rfl))) (.cons _ _ _ (sv_int (by first | rfl | (simp only [push_cast, List.map_append, List.map_set, List.map_replicate]; done) | (simp only [push_cast, List.map_append, List.map_set, List.map_replicate]; rfl))) .nil)))
      · exact (.cons (so_row rfl (by first | rfl | (simp only [push_cast, List.map_append, List.map_set, List.map_replicate]; done) | (simp only [push_cast, List.map_append, List.map_set, List.map_replicate]; rfl))) .nil)
      · exact by decide
      · exact by decide
    · replace h16 := (bif_f h18).symm.trans h16
      refine go_exit ?_
      refine go_out ?_
      refine go_lp_out ?_
      refine go_blk_at ?_
      have e24 := Option.some.inj h16
      rw [← e24] at h17
      replace h17 : _ = _ := h17
      refine go_lp ⟨x1, x3, h17.symm, ?_⟩
      refine wk_mk [some 0] rfl ?_ ?_ ?_ ?_ ?_
      · exact (anch (Nat.le_of_ble_eq_true rfl) (by decide))
      · exact (.cons _ _ _ (sv_int (by first | rfl | (simp only [push_cast, List.map_append, List.map_set, List.map_replicate]; done) | (simp only [push_cast, List.map_append, List.map_set, List.map_replicate]; rfl))) .nil)
      · exact (.cons (so_row rfl (by first | rfl | (simp only [push_cast, List.map_append, List.map_set, List.map_replicate]; done) | (simp only [push_cast, List.map_append, List.map_set, List.map_replicate]; rfl))) .nil)
      · exact by decide
      · exact by decide
  · rintro k σ ⟨x4, x5, h25q, h25⟩
    rw [h25q] at h0
    try dsimp only [Sum.elim_inl] at h0
    refine go_seq ?_
    refine go_wk h25 ?_
    clear h25
    refine go_region fun K hK => ?_
    try simp (config := { maxSteps := 4000000 }) only [push_cast, reduceIte, reduceCtorEq, Nat.reduceAdd, Nat.reduceSub, Nat.reduceMul, Nat.reduceEqDiff, Nat.reduceLT, Nat.reduceLeDiff]
    refine hK _ _ ?_
    clear hK K
    refine go_ret ?_
    cases h0
    refine go_end_ret ?_
    exact ⟨_, [], [0], rfl, (.cons (.c (.int _ _)) .nil), (.cons (.c (mk_own rfl (by first | rfl | (simp only [push_cast, List.map_append, List.map_set, List.map_replicate]; done) | (simp only [push_cast, List.map_append, List.map_set, List.map_replicate]; rfl)) (Nat.le_of_ble_eq_true rfl))) .nil), by decide⟩
end Go.V
set_option linter.unusedSimpArgs false
set_option linter.unusedVariables false
namespace Go.V
open Go Go.RowKit Go.Proofs
set_option maxHeartbeats 4000000 in
set_option maxRecDepth 100000 in
theorem laws_markTelegram_ok {a0 : STelegram} {a1 : Int} {r : (STelegram × Int)} (h0 : laws_markTelegram a0 a1 = some r) :
    OkM Try.prog 26 [.a ([.int .i64 a0.fSeq, .int .i64 a0.fKind, .sl (some (5, 1)) (a0.fBody.map eIu8)])] [.v (.int .i64 a1)] [.a ([.int .i64 r.1.fSeq, .int .i64 r.1.fKind, .sl (some (5, 1)) (r.1.fBody.map eIu8)])] [.c (.int .i64 r.2)] := by
  unfold laws_markTelegram at h0
  refine okM_of2 (n := 10) (rvs := [.tmp 4]) Try.func26 rfl rfl rfl (by simp) ?_
  simp only [slots, slotsM, widths, List.map_cons, List.sum_cons, List.sum_nil, Nat.reduceAdd, List.length_cons, List.length_nil, RT.width, unRs, unR, unCs, unC, putsO, putO, Cell.ro, List.map_cons, List.map_nil, List.nil_append, List.append_nil, List.cons_append]
  refine go_seq ?_
  refine go_region fun K hK => ?_
  try simp (config := { maxSteps := 4000000 }) only [push_cast, reduceIte, reduceCtorEq, Nat.reduceAdd, Nat.reduceSub, Nat.reduceMul, Nat.reduceEqDiff, Nat.reduceLT, Nat.reduceLeDiff]
  refine hK _ _ ?_
  clear hK K
  refine go_wk (k' := 4) (τ := mk 10 3 [(1, .c (.int .i64 a1)), (2, .c (.ptr 3 0))] (nums 0 [.gone, .gone, .row 5 1 (a0.fBody.map eIu8), .box [.int .i64 a0.fSeq, .int .i64 a0.fKind, .own 2]])) ?_ ?_
  ·
    refine wk_mk [some 0, some 1, some 2, some 3] rfl ?_ ?_ ?_ ?_ ?_
    · exact (anch (Nat.le_of_ble_eq_true rfl) (by decide))
    · exact (.cons _ _ _ (sv_int (by first | rfl | (simp only [push_cast, List.map_append, List.map_set, List.map_replicate]; done) | (simp only [push_cast, List.map_append, List.map_set, List.map_replicate]; rfl))) (.cons _ _ _ (sv_ptr rfl) .nil))
    · exact (.cons (.gone _ rfl) (.cons (.gone _ rfl) (.cons (so_row rfl (by first | rfl | (simp only [push_cast, List.map_append, List.map_set, List.map_replicate]; done) | (simp only [push_cast, List.map_append, List.map_set, List.map_replicate]; rfl))) (.cons (.box _ _ _ rfl (.cons (sc_int (by first | rfl | (simp only [push_cast, List.map_append, List.map_set, List.map_replicate]; done) | (simp only [push_cast, List.map_append, List.map_set, List.map_replicate]; rfl))) (.cons (sc_int (by first | rfl | (simp only [push_cast, List.map_append, List.map_set, List.map_replicate]; done) | (simp only [push_cast, List.map_append, List.map_set, List.map_replicate]; rfl))) (.cons (.own _ _ rfl) .nil)))) .nil))))
    · exact by decide
    · exact by decide
  refine go_seq ?_
  refine go_region fun K hK => ?_
  try simp (config := { maxSteps := 4000000 }) only [push_cast, reduceIte, reduceCtorEq, Nat.reduceAdd, Nat.reduceSub, Nat.reduceMul, Nat.reduceEqDiff, Nat.reduceLT, Nat.reduceLeDiff]
  obtain ⟨t1, ht1, h0⟩ := bind_some' h0
  refine vops_callM (laws_markByteS_ok ht1) [.tmp 6] [.tmp 7] (u := [2]) rfl cb25 (by simp only [lt_some, lt_none, mk_n, Nat.reduceLT]) (by simp only [push_cast, List.map_append, List.map_set, List.map_replicate]; rfl) (by decide) (by first | (simp only [push_cast, reduceIte, reduceCtorEq, Nat.reduceAdd, Nat.reduceSub, Nat.reduceMul, Nat.reduceEqDiff, Nat.reduceLT, Nat.reduceLeDiff, PV.toks, P1.toks, PC.toks]; done) | (simp only [push_cast, reduceIte, reduceCtorEq, Nat.reduceAdd, Nat.reduceSub, Nat.reduceMul, Nat.reduceEqDiff, Nat.reduceLT, Nat.reduceLeDiff, PV.toks, P1.toks, PC.toks]; decide)) (by simp only [push_cast, List.map_append, List.map_set, List.map_replicate]; rfl) (Nat.le_of_ble_eq_true rfl) (by simp only [push_cast, List.map_append, List.map_set, List.map_replicate]; rfl) rfl ?_
  try simp (config := { maxSteps := 4000000 }) only [push_cast, reduceIte, reduceCtorEq, Nat.reduceAdd, Nat.reduceSub, Nat.reduceMul, Nat.reduceEqDiff, Nat.reduceLT, Nat.reduceLeDiff]
  refine hK _ _ ?_
  clear hK K
  refine go_wk (k' := 3) (τ := mk 10 3 [(1, .c (.int .i64 t1.2))] (nums 0 [.gone, .gone, .row 5 1 (t1.1.map eIu8)])) ?_ ?_
  ·
    refine wk_mk [some 0, some 1, some 2] rfl ?_ ?_ ?_ ?_ ?_
    · exact (anch (Nat.le_of_ble_eq_true rfl) (by decide))
    · exact (.cons _ _ _ (sv_int (by first | rfl | (simp only [push_cast, List.map_append, List.map_set, List.map_replicate]; done) | (simp only [push_cast, List.map_append, List.map_set, List.map_replicate]; rfl))) .nil)
    · exact (.cons (.gone _ rfl) (.cons (.gone _ rfl) (.cons (so_row rfl (by first | rfl | (simp only [push_cast, List.map_append, List.map_set, List.map_replicate]; done) | (simp only [push_cast, List.map_append, List.map_set, List.map_replicate]; rfl))) .nil)))
    · exact by decide
    · exact by decide
  refine go_seq ?_
  refine go_region fun K hK => ?_
  try simp (config := { maxSteps := 4000000 }) only [push_cast, reduceIte, reduceCtorEq, Nat.reduceAdd, Nat.reduceSub, Nat.reduceMul, Nat.reduceEqDiff, Nat.reduceLT, Nat.reduceLeDiff]
  refine hK _ _ ?_
  clear hK K
  refine go_ret ?_
  cases h0
  refine go_end_ret ?_
  exact ⟨_, [], [2], rfl, (.cons (.c (.int _ _)) .nil), (.cons (.a (.cons (.int _ _) (.cons (.int _ _) (.cons (mk_own rfl (by first | rfl | (simp only [push_cast, List.map_append, List.map_set, List.map_replicate]; done) | (simp only [push_cast, List.map_append, List.map_set, List.map_replicate]; rfl)) (Nat.le_of_ble_eq_true rfl)) .nil)))) .nil), by decide⟩
end Go.V
set_option linter.unusedSimpArgs false
set_option linter.unusedVariables false
namespace Go.V
open Go Go.RowKit Go.Proofs
set_option maxHeartbeats 4000000 in
set_option maxRecDepth 100000 in
theorem laws_heldByteS_ok {a0 : (List Int)} {a1 : Int} {r : Int} (h0 : laws_heldByteS a0 a1 = some r) :
    OkA Try.prog 108 [.v (.sl none (a0.map eIu8)), .v (.int .i64 a1)] [.c (.int .i64 r)] false := by
  unfold laws_heldByteS at h0
  refine okA_of (n := 22) (rvs := [.tmp 4]) Try.func108 rfl rfl rfl (by simp) ?_
  simp only [slots, slotsM, widths, List.map_cons, List.sum_cons, List.sum_nil, Nat.reduceAdd, List.length_cons, List.length_nil, RT.width, unRs, unR, unCs, unC, putsO, putO, Cell.ro, List.map_cons, List.map_nil, List.nil_append, List.append_nil, List.cons_append]
  refine go_seq ?_
  refine go_region fun K hK => ?_
  try simp (config := { maxSteps := 4000000 }) only [push_cast, reduceIte, reduceCtorEq, Nat.reduceAdd, Nat.reduceSub, Nat.reduceMul, Nat.reduceEqDiff, Nat.reduceLT, Nat.reduceLeDiff]
  refine hK _ _ ?_
  clear hK K
  refine go_seq ?_
  refine go_seq ?_
  refine go_region fun K hK => ?_
  try simp (config := { maxSteps := 4000000 }) only [push_cast, reduceIte, reduceCtorEq, Nat.reduceAdd, Nat.reduceSub, Nat.reduceMul, Nat.reduceEqDiff, Nat.reduceLT, Nat.reduceLeDiff]
  refine hK _ _ ?_
  clear hK K
  obtain ⟨o4, h5, h0⟩ := bind_some' h0
  obtain ⟨m6, h7⟩ := loop_runs h5
  clear h5
  refine go_cut (fun k σ => ∃ x3 : Int, o4 = .inl x3 ∧ Wk k σ 0 (mk 22 0 [(1, .c (.int .i64 x3))] (nums 0 []))) ?_ ?_
  ·
    refine go_block (go_loop (fun n k σ => ∃ x1 : Int, ∃ x2 : Int, Runs (fun v => laws_heldByteS_b0 a0 v.1 v.2) n (x1, x2) o4 ∧ Wk k σ 0 (mk 22 0 [(0, .c (.lst (a0.map eIu8))), (1, .c (.int .i64 x1)), (5, .c (.int .i64 x2))] (nums 0 []))) m6 ⟨a1, (0 : Int), h7, ?_⟩ ?_)
    ·
      refine wk_mk [] rfl ?_ ?_ ?_ ?_ ?_
      · exact (fun i h => absurd h (by omega))
      · exact (.cons _ _ _ (sv_lst (by first | rfl | (simp only [push_cast, List.map_append, List.map_set, List.map_replicate]; done) | (simp only [push_cast, List.map_append, List.map_set, List.map_replicate]; rfl))) (.cons _ _ _ (sv_int (by first | rfl | (simp only [push_cast, List.map_append, List.map_set, List.map_replicate]; done) | (simp only [push_cast, List.map_append, List.map_set, List.map_replicate]; rfl))) (.cons _ _ _ (sv_int (by first | rfl | (simp only [push_cast, List.map_append, List.map_set, List.map_replicate]; done) | (simp only [push_cast, List.map_append, List.map_set, List.map_replicate]; rfl))) .nil)))
      · exact .nil
      · exact by decide
      · exact by decide
    clear h7
    rintro n8 k9 s10 ⟨x1, x2, h11, h12⟩
    refine go_wk h12 ?_
    obtain ⟨y13, h14, h15⟩ := h11.next
    clear h12 h11
    replace h14 : laws_heldByteS_b0 a0 x1 x2 = some y13 := h14
    unfold laws_heldByteS_b0 at h14
    refine go_seq ?_
    refine go_seq ?_
    refine go_region fun K hK => ?_
    try simp (config := { maxSteps := 4000000 }) only [push_cast, reduceIte, reduceCtorEq, Nat.reduceAdd, Nat.reduceSub, Nat.reduceMul, Nat.reduceEqDiff, Nat.reduceLT, Nat.reduceLeDiff]
    refine hK _ _ ?_
    clear hK K
    refine go_cond _ rfl (fun h16 => ?_) (fun h16 => ?_)
    · replace h14 := (bif_t h16).symm.trans h14
      refine go_skip ?_
      refine go_seq ?_
      refine go_block ?_
      refine go_seq ?_
      refine go_seq ?_
      refine go_region fun K hK => ?_
      obtain ⟨h17, h14⟩ := ite_some' h14
      try simp (config := { maxSteps := 4000000 }) only [push_cast, reduceIte, reduceCtorEq, Nat.reduceAdd, Nat.reduceSub, Nat.reduceMul, Nat.reduceEqDiff, Nat.reduceLT, Nat.reduceLeDiff, rd_some h17]
      repeat (refine And.intro ?_ ?_; · ((repeat' apply And.intro) <;> first | assumption | omega | kernel_rfl | decide | (simp; done) | (simp only [List.length_cons, List.length_nil, List.length_append, List.length_map, List.length_set, List.length_replicate, List.length_take, List.length_drop] at *; omega)))
      refine hK _ _ ?_
      clear hK K
      refine go_cond _ rfl (fun h18 => ?_) (fun h18 => ?_)
      · replace h14 := (bif_t h18).symm.trans h14
        refine go_seq ?_
        refine go_region fun K hK => ?_
        try simp (config := { maxSteps := 4000000 }) only [push_cast, reduceIte, reduceCtorEq, Nat.reduceAdd, Nat.reduceSub, Nat.reduceMul, Nat.reduceEqDiff, Nat.reduceLT, Nat.reduceLeDiff]
        refine hK _ _ ?_
        clear hK K
        refine go_ret ?_
        refine go_out_ret ?_
        refine go_blk_ret ?_
        refine go_out_ret ?_
        refine go_lp_ret ?_
        refine go_blk_ret ?_
        refine go_lp_ret ?_
        refine go_out_ret ?_
        have e19 := Option.some.inj h14
        rw [← e19] at h15
        replace h15 : _ = _ := h15
        rw [← h15] at h0
        replace h0 : some _ = some _ := h0
        cases h0
        refine go_end_ret ?_
        exact ⟨_, [], rfl, (.cons (.c (.int _ _)) .nil), by decide, .inr (by simp only [RT.cells, List.mem_cons, List.mem_singleton, List.not_mem_nil, or_false, forall_eq, forall_eq_or_imp, allOwn_int, allOwn_bool, allOwn_str, allOwn_none, eIu8_ao, eTelegram_ao, eIi64_ao, eShunt_ao, eLIi64_ao, eSidings_ao, eNeed_ao, eRoute_ao, ePlant_ao, eLockOp_ao, eB_ao, eLocking_ao, eTask_ao, eRule_ao, eEdge_ao, eCall_ao, eTrip_ao, eBooking_ao, eNet_ao, eTrain_ao, eDesk_ao, eUse_ao, eRun_ao, eT_ao, o120Trip_ao, o33LIi64_ao, implies_true, and_true, false_implies, List.map_eq_nil_iff, and_self])⟩
      · replace h14 := (bif_f h18).symm.trans h14
        refine go_skip ?_
        refine go_region fun K hK => ?_
        try simp (config := { maxSteps := 4000000 }) only [push_cast, reduceIte, reduceCtorEq, Nat.reduceAdd, Nat.reduceSub, Nat.reduceMul, Nat.reduceEqDiff, Nat.reduceLT, Nat.reduceLeDiff]
        refine hK _ _ ?_
        clear hK K
        refine go_blk 1 ?_
        refine go_region fun K hK => ?_
        try simp (config := { maxSteps := 4000000 }) only [push_cast, reduceIte, reduceCtorEq, Nat.reduceAdd, Nat.reduceSub, Nat.reduceMul, Nat.reduceEqDiff, Nat.reduceLT, Nat.reduceLeDiff]
        refine hK _ _ ?_
        clear hK K
        have e20 := Option.some.inj h14
        rw [← e20] at h15
        obtain ⟨m21, h22, h23⟩ := h15
        refine go_lp ⟨m21, h22, (IntKind.i64.wrap (x1 + (1 : Int))), (IntKind.i64.wrap (x2 + (1 : Int))), h23, ?_⟩
        refine wk_mk [] rfl ?_ ?_ ?_ ?_ ?_
        · exact (fun i h => absurd h (by omega))
        · exact (.cons _ _ _ (sv_lst (by first | rfl | (simp only [push_cast, List.map_append, List.map_set, List.map_replicate]; done) | (simp only [push_cast, List.map_append, List.map_set, List.map_replicate]; rfl))) (.cons _ _ _ (sv_int (by first | rfl | (simp only [push_cast, List.map_append, List.map_set, List.map_replicate]; done) | (simp only [push_cast, List.map_append, List.map_set, List.map_replicate]; rfl))) (.cons _ _ _ (sv_int (by first | rfl | (simp only [push_cast, List.map_append, List.map_set, List.map_replicate]; done) | (simp only [push_cast, List.map_append, List.map_set, List.map_replicate]; rfl))) .nil)))
        · exact .nil
        · exact by decide
        · exact by decide
    · replace h14 := (bif_f h16).symm.trans h14
      refine go_exit ?_
      refine go_out ?_
      refine go_lp_out ?_
      refine go_blk_at ?_
      have e24 := Option.some.inj h14
      rw [← e24] at h15
      replace h15 : _ = _ := h15
      refine go_lp ⟨x1, h15.symm, ?_⟩
      refine wk_mk [] rfl ?_ ?_ ?_ ?_ ?_
      · exact (fun i h => absurd h (by omega))
      · exact (.cons _ _ _ (sv_int (by first | rfl | (simp only [push_cast, List.map_append, List.map_set, List.map_replicate]; done) | (simp only [push_cast, List.map_append, List.map_set, List.map_replicate]; rfl))) .nil)
      · exact .nil
      · exact by decide
      · exact by decide
  · rintro k σ ⟨x3, h25q, h25⟩
    rw [h25q] at h0
    try dsimp only [Sum.elim_inl] at h0
    refine go_seq ?_
    refine go_wk h25 ?_
    clear h25
    refine go_region fun K hK => ?_
    try simp (config := { maxSteps := 4000000 }) only [push_cast, reduceIte, reduceCtorEq, Nat.reduceAdd, Nat.reduceSub, Nat.reduceMul, Nat.reduceEqDiff, Nat.reduceLT, Nat.reduceLeDiff]
    refine hK _ _ ?_
    clear hK K
    refine go_ret ?_
    cases h0
    refine go_end_ret ?_
    exact ⟨_, [], rfl, (.cons (.c (.int _ _)) .nil), by decide, .inr (by simp only [RT.cells, List.mem_cons, List.mem_singleton, List.not_mem_nil, or_false, forall_eq, forall_eq_or_imp, allOwn_int, allOwn_bool, allOwn_str, allOwn_none, eIu8_ao, eTelegram_ao, eIi64_ao, eShunt_ao, eLIi64_ao, eSidings_ao, eNeed_ao, eRoute_ao, ePlant_ao, eLockOp_ao, eB_ao, eLocking_ao, eTask_ao, eRule_ao, eEdge_ao, eCall_ao, eTrip_ao, eBooking_ao, eNet_ao, eTrain_ao, eDesk_ao, eUse_ao, eRun_ao, eT_ao, o120Trip_ao, o33LIi64_ao, implies_true, and_true, false_implies, List.map_eq_nil_iff, and_self])⟩
end Go.V
set_option linter.unusedSimpArgs false
set_option linter.unusedVariables false
namespace Go.V
open Go Go.RowKit Go.Proofs
set_option maxHeartbeats 4000000 in
set_option maxRecDepth 100000 in
theorem laws_heldTelegram_ok {a0 : STelegram} {a1 : Int} {r : Int} (h0 : laws_heldTelegram a0 a1 = some r) :
    OkA Try.prog 27 [.s (eTelegram a0), .v (.int .i64 a1)] [.c (.int .i64 r)] false := by
  unfold laws_heldTelegram at h0
  refine okA_of (n := 12) (rvs := [.tmp 4]) Try.func27 rfl rfl rfl (by simp) ?_
  simp only [slots, slotsM, widths, List.map_cons, List.sum_cons, List.sum_nil, Nat.reduceAdd, List.length_cons, List.length_nil, RT.width, unRs, unR, unCs, unC, putsO, putO, Cell.ro, List.map_cons, List.map_nil, List.nil_append, List.append_nil, List.cons_append]
  refine go_seq ?_
  refine go_region fun K hK => ?_
  try simp (config := { maxSteps := 4000000 }) only [push_cast, reduceIte, reduceCtorEq, Nat.reduceAdd, Nat.reduceSub, Nat.reduceMul, Nat.reduceEqDiff, Nat.reduceLT, Nat.reduceLeDiff]
  refine hK _ _ ?_
  clear hK K
  refine go_wk (k' := 1) (τ := mk 12 0 [(1, .c (.int .i64 a1)), (2, .c (.ptr 0 0))] (nums 0 [.box [.int .i64 a0.fSeq, .int .i64 a0.fKind, .lst (a0.fBody.map eIu8)]])) ?_ ?_
  ·
    refine wk_mk [some 0] rfl ?_ ?_ ?_ ?_ ?_
    · exact (fun i h => absurd h (by omega))
    · exact (.cons _ _ _ (sv_int (by first | rfl | (simp only [push_cast, List.map_append, List.map_set, List.map_replicate]; done) | (simp only [push_cast, List.map_append, List.map_set, List.map_replicate]; rfl))) (.cons _ _ _ (sv_ptr rfl) .nil))
    · exact (.cons (.box _ _ _ rfl (.cons (sc_int (by first | rfl | (simp only [push_cast, List.map_append, List.map_set, List.map_replicate]; done) | (simp only [push_cast, List.map_append, List.map_set, List.map_replicate]; rfl))) (.cons (sc_int (by first | rfl | (simp only [push_cast, List.map_append, List.map_set, List.map_replicate]; done) | (simp only [push_cast, List.map_append, List.map_set, List.map_replicate]; rfl))) (.cons (sc_lst (by first | rfl | (simp only [push_cast, List.map_append, List.map_set, List.map_replicate]; done) | (simp only [push_cast, List.map_append, List.map_set, List.map_replicate]; rfl))) .nil)))) .nil)
    · exact by decide
    · exact by decide
  refine go_seq ?_
  refine go_region fun K hK => ?_
  try simp (config := { maxSteps := 4000000 }) only [push_cast, reduceIte, reduceCtorEq, Nat.reduceAdd, Nat.reduceSub, Nat.reduceMul, Nat.reduceEqDiff, Nat.reduceLT, Nat.reduceLeDiff]
  obtain ⟨t1, ht1, h0⟩ := bind_some' h0
  refine vops_callA (laws_heldByteS_ok ht1) cb108 (by simp only [lt_some, lt_none, mk_n, Nat.reduceLT]) (by simp only [push_cast, List.map_append, List.map_set, List.map_replicate]; rfl) (Nat.le_of_ble_eq_true rfl) ?_
  try simp (config := { maxSteps := 4000000 }) only [push_cast, reduceIte, reduceCtorEq, Nat.reduceAdd, Nat.reduceSub, Nat.reduceMul, Nat.reduceEqDiff, Nat.reduceLT, Nat.reduceLeDiff]
  refine hK _ _ ?_
  clear hK K
  refine go_wk (k' := 0) (τ := mk 12 0 [(1, .c (.int .i64 t1))] (nums 0 [])) ?_ ?_
  ·
    refine wk_mk [] rfl ?_ ?_ ?_ ?_ ?_
    · exact (fun i h => absurd h (by omega))
    · exact (.cons _ _ _ (sv_int (by first | rfl | (simp only [push_cast, List.map_append, List.map_set, List.map_replicate]; done) | (simp only [push_cast, List.map_append, List.map_set, List.map_replicate]; rfl))) .nil)
    · exact .nil
    · exact by decide
    · exact by decide
  refine go_seq ?_
  refine go_seq ?_
  refine go_region fun K hK => ?_
  try simp (config := { maxSteps := 4000000 }) only [push_cast, reduceIte, reduceCtorEq, Nat.reduceAdd, Nat.reduceSub, Nat.reduceMul, Nat.reduceEqDiff, Nat.reduceLT, Nat.reduceLeDiff]
  refine hK _ _ ?_
  clear hK K
  refine go_cond _ rfl (fun h2 => ?_) (fun h2 => ?_)
  · replace h0 := (bif_t h2).symm.trans h0
    refine go_seq ?_
    refine go_region fun K hK => ?_
    try simp (config := { maxSteps := 4000000 }) only [push_cast, reduceIte, reduceCtorEq, Nat.reduceAdd, Nat.reduceSub, Nat.reduceMul, Nat.reduceEqDiff, Nat.reduceLT, Nat.reduceLeDiff]
    refine hK _ _ ?_
    clear hK K
    refine go_ret ?_
    refine go_out_ret ?_
    cases h0
    refine go_end_ret ?_
    exact ⟨_, [], rfl, (.cons (.c (.int _ _)) .nil), by decide, .inr (by simp only [RT.cells, List.mem_cons, List.mem_singleton, List.not_mem_nil, or_false, forall_eq, forall_eq_or_imp, allOwn_int, allOwn_bool, allOwn_str, allOwn_none, eIu8_ao, eTelegram_ao, eIi64_ao, eShunt_ao, eLIi64_ao, eSidings_ao, eNeed_ao, eRoute_ao, ePlant_ao, eLockOp_ao, eB_ao, eLocking_ao, eTask_ao, eRule_ao, eEdge_ao, eCall_ao, eTrip_ao, eBooking_ao, eNet_ao, eTrain_ao, eDesk_ao, eUse_ao, eRun_ao, eT_ao, o120Trip_ao, o33LIi64_ao, implies_true, and_true, false_implies, List.map_eq_nil_iff, and_self])⟩
  · replace h0 := (bif_f h2).symm.trans h0
    refine go_skip ?_
    refine go_seq ?_
    refine go_region fun K hK => ?_
    try simp (config := { maxSteps := 4000000 }) only [push_cast, reduceIte, reduceCtorEq, Nat.reduceAdd, Nat.reduceSub, Nat.reduceMul, Nat.reduceEqDiff, Nat.reduceLT, Nat.reduceLeDiff]
    refine hK _ _ ?_
    clear hK K
    refine go_ret ?_
    cases h0
    refine go_end_ret ?_
    exact ⟨_, [], rfl, (.cons (.c (.int _ _)) .nil), by decide, .inr (by simp only [RT.cells, List.mem_cons, List.mem_singleton, List.not_mem_nil, or_false, forall_eq, forall_eq_or_imp, allOwn_int, allOwn_bool, allOwn_str, allOwn_none, eIu8_ao, eTelegram_ao, eIi64_ao, eShunt_ao, eLIi64_ao, eSidings_ao, eNeed_ao, eRoute_ao, ePlant_ao, eLockOp_ao, eB_ao, eLocking_ao, eTask_ao, eRule_ao, eEdge_ao, eCall_ao, eTrip_ao, eBooking_ao, eNet_ao, eTrain_ao, eDesk_ao, eUse_ao, eRun_ao, eT_ao, o120Trip_ao, o33LIi64_ao, implies_true, and_true, false_implies, List.map_eq_nil_iff, and_self])⟩
end Go.V
