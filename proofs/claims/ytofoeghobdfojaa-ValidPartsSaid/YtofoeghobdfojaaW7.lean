/- Part 7 of the library of this proof. -/
import Derived.Test.YtofoeghobdfojaaW6
set_option linter.all false
/- Contracts: the code's Count. -/
namespace Go.Vc
open Go.Proofs

set_option maxRecDepth 100000 in
theorem countv_c (l : List Nd) (hl : Fine l) : PFun Try.prog 11 [encNs l] (.tup [.agg (countR l).1.cells, vI (countR l).2]) := fun σ => by
  have hl0 := hl
  obtain ⟨hl1, hl2⟩ := hl
  rw [← countS_eq l hl0]
  refine Contract.of_runs Try.func11 e11 k11 (by simp [c11]) ?_
  refine Runs.mix 7 ?_
  (refine Runs.of_step Orc.nothing 300 ?_; simp -implicitDefEqProofs only [s_r_nil, Ret_one, Ret_two, Ret_three, Ret_none, Ret_cell_one, Ret_cell_two, onSome_some, s_r_stop, s_r_inBlock, s_r_ops_nil, s_r_skip, s_r_seq, s_r_block, s_r_exit, exR_some, s_r_ret, s_r_loop, s_r_reg, s_r_dreg, s_d_nil, s_r_cond, cR_t, cR_f, cR_dec, s_r_ins, insR_0, insR_1, insR_2, insR_3, insR_4, callR_some, callR_none, callV_eq, callD_some, callD_none, contR_some, storeR_some, s_d_ins, insD_0, insD_1, insD_2, insD_3, contD_some, storeD_some, s_r_gins, gR_tup, gR_tt, gR_ff, gR_tf, gR_ft, gR_dec_t, gR_dec_f, s_d_gins, gD_tup, gD_tt, gD_ff, gD_tf, gD_ft, gD_dec_t, gD_dec_f, putO_nothing, putO_lo, putO_hi, mix_get, putO_some, putO_none, lit_t, lit_c, ev_t, ev_c, okind, vpre, vpure, binV_int, binV_str, binPre_int, binPre_str, intBin, intPre, strBin, strPre, popTo, argSlots, lenV_own, lenV_sl, lenV_nils, lenV_str, fldV, fldAV, subCells, idxAV_own, idxVV, idxAAV, idxSV, loadV_ptr, loadV_rp_agg, loadV_rp_int, sliceV, sliceSV, boundV, szIs, storeOp, storeS, setRowV, eff, extV, buildV, splice, eqSV, fitsL, eqCells, eqCell, minmaxV, binBV, nilCheckV, bytesV, V.cells, V.stays, upd_same, upd_upd, true_implies, false_implies, implies_true, keepS_eq, List.getD_cons_zero, List.getD_cons_succ, List.getD_nil, List.map_cons, List.map_nil, List.length_cons, List.length_nil, List.drop_succ_cons, List.drop_zero, List.take_succ_cons, List.take_zero, List.set_cons_zero, List.set_cons_succ, List.append_nil, List.nil_append, List.cons_append, List.all_cons, List.all_nil, List.getElem?_cons_zero, List.getElem?_cons_succ, List.contains_cons, List.contains_nil, Option.isSome_some, Option.map_some, Option.map_none, true_and, and_true, and_self, Int.reduceEq, Int.reduceNe, Int.reduceLT, Int.reduceLE, Int.reduceGT, Int.reduceGE, Nat.reduceEqDiff, Nat.reduceAdd, Nat.reduceMul, Nat.reduceLeDiff, Nat.reduceSub, Nat.reduceLT, Nat.reduceBEq, Nat.zero_add, Nat.add_zero, ↓reduceIte, reduceCtorEq, ← decide_not, Bool.not_true, Bool.not_false, Bool.false_eq_true, Bool.or_true, Bool.true_or, Bool.or_false, Bool.false_or, Bool.true_and, Bool.and_true, Bool.and_self, decide_true, decide_false, decide_eq_true_eq, Orc.nothing, c11])
  refine effR_new fun idR σ1 s1 aR fR => ?_
  simp -implicitDefEqProofs only [s_r_nil, Ret_one, Ret_two, Ret_three, Ret_none, Ret_cell_one, Ret_cell_two, onSome_some, s_r_stop, s_r_inBlock, s_r_ops_nil, s_r_skip, s_r_seq, s_r_block, s_r_exit, exR_some, s_r_ret, s_r_loop, s_r_reg, s_r_dreg, s_d_nil, s_r_cond, cR_t, cR_f, cR_dec, s_r_ins, insR_0, insR_1, insR_2, insR_3, insR_4, callR_some, callR_none, callV_eq, callD_some, callD_none, contR_some, storeR_some, s_d_ins, insD_0, insD_1, insD_2, insD_3, contD_some, storeD_some, s_r_gins, gR_tup, gR_tt, gR_ff, gR_tf, gR_ft, gR_dec_t, gR_dec_f, s_d_gins, gD_tup, gD_tt, gD_ff, gD_tf, gD_ft, gD_dec_t, gD_dec_f, putO_nothing, putO_lo, putO_hi, mix_get, putO_some, putO_none, lit_t, lit_c, ev_t, ev_c, okind, vpre, vpure, binV_int, binV_str, binPre_int, binPre_str, intBin, intPre, strBin, strPre, popTo, argSlots, lenV_own, lenV_sl, lenV_nils, lenV_str, fldV, fldAV, subCells, idxAV_own, idxVV, idxAAV, idxSV, loadV_ptr, loadV_rp_agg, loadV_rp_int, sliceV, sliceSV, boundV, szIs, storeOp, storeS, setRowV, eff, extV, buildV, splice, eqSV, fitsL, eqCells, eqCell, minmaxV, binBV, nilCheckV, bytesV, V.cells, V.stays, upd_same, upd_upd, true_implies, false_implies, implies_true, keepS_eq, List.getD_cons_zero, List.getD_cons_succ, List.getD_nil, List.map_cons, List.map_nil, List.length_cons, List.length_nil, List.drop_succ_cons, List.drop_zero, List.take_succ_cons, List.take_zero, List.set_cons_zero, List.set_cons_succ, List.append_nil, List.nil_append, List.cons_append, List.all_cons, List.all_nil, List.getElem?_cons_zero, List.getElem?_cons_succ, List.contains_cons, List.contains_nil, Option.isSome_some, Option.map_some, Option.map_none, true_and, and_true, and_self, Int.reduceEq, Int.reduceNe, Int.reduceLT, Int.reduceLE, Int.reduceGT, Int.reduceGE, Nat.reduceEqDiff, Nat.reduceAdd, Nat.reduceMul, Nat.reduceLeDiff, Nat.reduceSub, Nat.reduceLT, Nat.reduceBEq, Nat.zero_add, Nat.add_zero, ↓reduceIte, reduceCtorEq, ← decide_not, Bool.not_true, Bool.not_false, Bool.false_eq_true, Bool.or_true, Bool.true_or, Bool.or_false, Bool.false_or, Bool.true_and, Bool.and_true, Bool.and_self, decide_true, decide_false, decide_eq_true_eq, aR]
  refine Runs.pcall rfl rfl rfl (isv_c l hl0 _) ?_
  (refine Runs.of_step Orc.nothing 300 ?_; simp -implicitDefEqProofs only [s_r_nil, Ret_one, Ret_two, Ret_three, Ret_none, Ret_cell_one, Ret_cell_two, onSome_some, s_r_stop, s_r_inBlock, s_r_ops_nil, s_r_skip, s_r_seq, s_r_block, s_r_exit, exR_some, s_r_ret, s_r_loop, s_r_reg, s_r_dreg, s_d_nil, s_r_cond, cR_t, cR_f, cR_dec, s_r_ins, insR_0, insR_1, insR_2, insR_3, insR_4, callR_some, callR_none, callV_eq, callD_some, callD_none, contR_some, storeR_some, s_d_ins, insD_0, insD_1, insD_2, insD_3, contD_some, storeD_some, s_r_gins, gR_tup, gR_tt, gR_ff, gR_tf, gR_ft, gR_dec_t, gR_dec_f, s_d_gins, gD_tup, gD_tt, gD_ff, gD_tf, gD_ft, gD_dec_t, gD_dec_f, putO_nothing, putO_lo, putO_hi, mix_get, putO_some, putO_none, lit_t, lit_c, ev_t, ev_c, okind, vpre, vpure, binV_int, binV_str, binPre_int, binPre_str, intBin, intPre, strBin, strPre, popTo, argSlots, lenV_own, lenV_sl, lenV_nils, lenV_str, fldV, fldAV, subCells, idxAV_own, idxVV, idxAAV, idxSV, loadV_ptr, loadV_rp_agg, loadV_rp_int, sliceV, sliceSV, boundV, szIs, storeOp, storeS, setRowV, eff, extV, buildV, splice, eqSV, fitsL, eqCells, eqCell, minmaxV, binBV, nilCheckV, bytesV, V.cells, V.stays, upd_same, upd_upd, true_implies, false_implies, implies_true, keepS_eq, List.getD_cons_zero, List.getD_cons_succ, List.getD_nil, List.map_cons, List.map_nil, List.length_cons, List.length_nil, List.drop_succ_cons, List.drop_zero, List.take_succ_cons, List.take_zero, List.set_cons_zero, List.set_cons_succ, List.append_nil, List.nil_append, List.cons_append, List.all_cons, List.all_nil, List.getElem?_cons_zero, List.getElem?_cons_succ, List.contains_cons, List.contains_nil, Option.isSome_some, Option.map_some, Option.map_none, true_and, and_true, and_self, Int.reduceEq, Int.reduceNe, Int.reduceLT, Int.reduceLE, Int.reduceGT, Int.reduceGE, Nat.reduceEqDiff, Nat.reduceAdd, Nat.reduceMul, Nat.reduceLeDiff, Nat.reduceSub, Nat.reduceLT, Nat.reduceBEq, Nat.zero_add, Nat.add_zero, ↓reduceIte, reduceCtorEq, ← decide_not, Bool.not_true, Bool.not_false, Bool.false_eq_true, Bool.or_true, Bool.true_or, Bool.or_false, Bool.false_or, Bool.true_and, Bool.and_true, Bool.and_self, decide_true, decide_false, decide_eq_true_eq, Orc.nothing, cR_b, aR])
  refine And.intro (fun hf => ?_) (fun hf => ?_)
  · simp only [Bool.not_eq_eq_eq_not, Bool.not_true] at hf
    refine RetV.pure (s1.updK fR) ?_
    simp [countS, hf, Sm.cells]
  · simp only [Bool.not_eq_eq_eq_not, Bool.not_false] at hf
    refine effR_new fun id4 σ2 s2 a4 f4 => ?_
    have nR4 := ne_new aR f4
    have aR := s2 _ _ aR
    have g4 : σ id4 = none := s1.none f4
    have hKR : SubStore (upd σ idR ⟨31, 4, [.agg Sm.zero.cells]⟩) σ2 := (s1.trans s2).putK aR
    have k4 : upd σ idR ⟨31, 4, [.agg Sm.zero.cells]⟩ id4 = none := upd_none.2 ⟨nR4.symm, g4⟩
    simp -implicitDefEqProofs only [s_r_nil, Ret_one, Ret_two, Ret_three, Ret_none, Ret_cell_one, Ret_cell_two, onSome_some, s_r_stop, s_r_inBlock, s_r_ops_nil, s_r_skip, s_r_seq, s_r_block, s_r_exit, exR_some, s_r_ret, s_r_loop, s_r_reg, s_r_dreg, s_d_nil, s_r_cond, cR_t, cR_f, cR_dec, s_r_ins, insR_0, insR_1, insR_2, insR_3, insR_4, callR_some, callR_none, callV_eq, callD_some, callD_none, contR_some, storeR_some, s_d_ins, insD_0, insD_1, insD_2, insD_3, contD_some, storeD_some, s_r_gins, gR_tup, gR_tt, gR_ff, gR_tf, gR_ft, gR_dec_t, gR_dec_f, s_d_gins, gD_tup, gD_tt, gD_ff, gD_tf, gD_ft, gD_dec_t, gD_dec_f, putO_nothing, putO_lo, putO_hi, mix_get, putO_some, putO_none, lit_t, lit_c, ev_t, ev_c, okind, vpre, vpure, binV_int, binV_str, binPre_int, binPre_str, intBin, intPre, strBin, strPre, popTo, argSlots, lenV_own, lenV_sl, lenV_nils, lenV_str, fldV, fldAV, subCells, idxAV_own, idxVV, idxAAV, idxSV, loadV_ptr, loadV_rp_agg, loadV_rp_int, sliceV, sliceSV, boundV, szIs, storeOp, storeS, setRowV, eff, extV, buildV, splice, eqSV, fitsL, eqCells, eqCell, minmaxV, binBV, nilCheckV, bytesV, V.cells, V.stays, upd_same, upd_upd, true_implies, false_implies, implies_true, keepS_eq, List.getD_cons_zero, List.getD_cons_succ, List.getD_nil, List.map_cons, List.map_nil, List.length_cons, List.length_nil, List.drop_succ_cons, List.drop_zero, List.take_succ_cons, List.take_zero, List.set_cons_zero, List.set_cons_succ, List.append_nil, List.nil_append, List.cons_append, List.all_cons, List.all_nil, List.getElem?_cons_zero, List.getElem?_cons_succ, List.contains_cons, List.contains_nil, Option.isSome_some, Option.map_some, Option.map_none, true_and, and_true, and_self, Int.reduceEq, Int.reduceNe, Int.reduceLT, Int.reduceLE, Int.reduceGT, Int.reduceGE, Nat.reduceEqDiff, Nat.reduceAdd, Nat.reduceMul, Nat.reduceLeDiff, Nat.reduceSub, Nat.reduceLT, Nat.reduceBEq, Nat.zero_add, Nat.add_zero, ↓reduceIte, reduceCtorEq, ← decide_not, Bool.not_true, Bool.not_false, Bool.false_eq_true, Bool.or_true, Bool.true_or, Bool.or_false, Bool.false_or, Bool.true_and, Bool.and_true, Bool.and_self, decide_true, decide_false, decide_eq_true_eq, lenV_encNs]
    refine Runs.loop (fun m st => ∃ (i : Nat) (v : V), i ≤ l.length ∧ m = l.length - i ∧ SubStore (upd σ idR ⟨31, 4, [.agg Sm.zero.cells]⟩) st.σ ∧ st.σ id4 = some (sumsRow (foldS l i).1 v) ∧
      (∀ o, EndsV (upd (upd σ idR ⟨31, 4, [.agg Sm.zero.cells]⟩) id4 o) st.σ v (foldS l i).2 i) ∧ st.s 2 = .ptr idR 0 0 ∧ st.s 4 = .ptr id4 0 0 ∧ st.s 11 = encNs l ∧ st.s 12 = vI l.length ∧ st.s 13 = vI i) l.length ?_ ?_
    · exact ⟨0, .nils, by omega, by omega, hKR, a4, fun o => .inl ⟨rfl, rfl⟩, rfl, rfl, rfl, rfl, rfl⟩
    · rintro m ⟨s, σ'⟩ ⟨i, v, hi, rfl, hsub, h4s, hE, h2, h4, h11, h12, h13⟩
      simp only at hsub h4s hE h2 h4 h11 h12 h13
      obtain ⟨e1, e2, e3, e4⟩ := foldS_foldR l hl0 hf i hi
      have hok : l.all Nd.ok = true ∧ rowsB l 0 l.length = true := by simpa [isB] using hf
      have hRs : σ' idR = some ⟨31, 4, [.agg Sm.zero.cells]⟩ := hsub idR _ upd_same
      refine Runs.mix 7 ?_
      (refine Runs.of_step Orc.nothing 300 ?_; simp -implicitDefEqProofs only [s_r_nil, Ret_one, Ret_two, Ret_three, Ret_none, Ret_cell_one, Ret_cell_two, onSome_some, s_r_stop, s_r_inBlock, s_r_ops_nil, s_r_skip, s_r_seq, s_r_block, s_r_exit, exR_some, s_r_ret, s_r_loop, s_r_reg, s_r_dreg, s_d_nil, s_r_cond, cR_t, cR_f, cR_dec, s_r_ins, insR_0, insR_1, insR_2, insR_3, insR_4, callR_some, callR_none, callV_eq, callD_some, callD_none, contR_some, storeR_some, s_d_ins, insD_0, insD_1, insD_2, insD_3, contD_some, storeD_some, s_r_gins, gR_tup, gR_tt, gR_ff, gR_tf, gR_ft, gR_dec_t, gR_dec_f, s_d_gins, gD_tup, gD_tt, gD_ff, gD_tf, gD_ft, gD_dec_t, gD_dec_f, putO_nothing, putO_lo, putO_hi, mix_get, putO_some, putO_none, lit_t, lit_c, ev_t, ev_c, okind, vpre, vpure, binV_int, binV_str, binPre_int, binPre_str, intBin, intPre, strBin, strPre, popTo, argSlots, lenV_own, lenV_sl, lenV_nils, lenV_str, fldV, fldAV, subCells, idxAV_own, idxVV, idxAAV, idxSV, loadV_ptr, loadV_rp_agg, loadV_rp_int, sliceV, sliceSV, boundV, szIs, storeOp, storeS, setRowV, eff, extV, buildV, splice, eqSV, fitsL, eqCells, eqCell, minmaxV, binBV, nilCheckV, bytesV, V.cells, V.stays, upd_same, upd_upd, true_implies, false_implies, implies_true, keepS_eq, List.getD_cons_zero, List.getD_cons_succ, List.getD_nil, List.map_cons, List.map_nil, List.length_cons, List.length_nil, List.drop_succ_cons, List.drop_zero, List.take_succ_cons, List.take_zero, List.set_cons_zero, List.set_cons_succ, List.append_nil, List.nil_append, List.cons_append, List.all_cons, List.all_nil, List.getElem?_cons_zero, List.getElem?_cons_succ, List.contains_cons, List.contains_nil, Option.isSome_some, Option.map_some, Option.map_none, true_and, and_true, and_self, Int.reduceEq, Int.reduceNe, Int.reduceLT, Int.reduceLE, Int.reduceGT, Int.reduceGE, Nat.reduceEqDiff, Nat.reduceAdd, Nat.reduceMul, Nat.reduceLeDiff, Nat.reduceSub, Nat.reduceLT, Nat.reduceBEq, Nat.zero_add, Nat.add_zero, ↓reduceIte, reduceCtorEq, ← decide_not, Bool.not_true, Bool.not_false, Bool.false_eq_true, Bool.or_true, Bool.true_or, Bool.or_false, Bool.false_or, Bool.true_and, Bool.and_true, Bool.and_self, decide_true, decide_false, decide_eq_true_eq, Orc.nothing, h2, h4, h11, h12, h13, h4s, sumsRow, hRs, Sm.zero, Sm.cells])
      refine And.intro (fun hlt => ?_) (fun hge => ?_)
      · have hlt' : i < l.length := by omega
        have hx := (List.all_eq_true.1 hok.1) _ (List.getElem_mem hlt')
        have hxw := hl2 _ (List.getElem_mem hlt')
        obtain ⟨z1, z2, z3⟩ := rowsB_size l (l.length + 1) 0 l.length (by omega) (by omega) hok.2 i (by omega) hlt' hlt'
        have hstep : foldS l (i + 1) = nodeS i l[i] (foldS l i).1 (foldS l i).2 := by simp [foldS, hlt']
        generalize hxe : l[i] = x at *
        simp -implicitDefEqProofs only [s_r_nil, Ret_one, Ret_two, Ret_three, Ret_none, Ret_cell_one, Ret_cell_two, onSome_some, s_r_stop, s_r_inBlock, s_r_ops_nil, s_r_skip, s_r_seq, s_r_block, s_r_exit, exR_some, s_r_ret, s_r_loop, s_r_reg, s_r_dreg, s_d_nil, s_r_cond, cR_t, cR_f, cR_dec, s_r_ins, insR_0, insR_1, insR_2, insR_3, insR_4, callR_some, callR_none, callV_eq, callD_some, callD_none, contR_some, storeR_some, s_d_ins, insD_0, insD_1, insD_2, insD_3, contD_some, storeD_some, s_r_gins, gR_tup, gR_tt, gR_ff, gR_tf, gR_ft, gR_dec_t, gR_dec_f, s_d_gins, gD_tup, gD_tt, gD_ff, gD_tf, gD_ft, gD_dec_t, gD_dec_f, putO_nothing, putO_lo, putO_hi, mix_get, putO_some, putO_none, lit_t, lit_c, ev_t, ev_c, okind, vpre, vpure, binV_int, binV_str, binPre_int, binPre_str, intBin, intPre, strBin, strPre, popTo, argSlots, lenV_own, lenV_sl, lenV_nils, lenV_str, fldV, fldAV, subCells, idxAV_own, idxVV, idxAAV, idxSV, loadV_ptr, loadV_rp_agg, loadV_rp_int, sliceV, sliceSV, boundV, szIs, storeOp, storeS, setRowV, eff, extV, buildV, splice, eqSV, fitsL, eqCells, eqCell, minmaxV, binBV, nilCheckV, bytesV, V.cells, V.stays, upd_same, upd_upd, true_implies, false_implies, implies_true, keepS_eq, List.getD_cons_zero, List.getD_cons_succ, List.getD_nil, List.map_cons, List.map_nil, List.length_cons, List.length_nil, List.drop_succ_cons, List.drop_zero, List.take_succ_cons, List.take_zero, List.set_cons_zero, List.set_cons_succ, List.append_nil, List.nil_append, List.cons_append, List.all_cons, List.all_nil, List.getElem?_cons_zero, List.getElem?_cons_succ, List.contains_cons, List.contains_nil, Option.isSome_some, Option.map_some, Option.map_none, true_and, and_true, and_self, Int.reduceEq, Int.reduceNe, Int.reduceLT, Int.reduceLE, Int.reduceGT, Int.reduceGE, Nat.reduceEqDiff, Nat.reduceAdd, Nat.reduceMul, Nat.reduceLeDiff, Nat.reduceSub, Nat.reduceLT, Nat.reduceBEq, Nat.zero_add, Nat.add_zero, ↓reduceIte, reduceCtorEq, ← decide_not, Bool.not_true, Bool.not_false, Bool.false_eq_true, Bool.or_true, Bool.true_or, Bool.or_false, Bool.false_or, Bool.true_and, Bool.and_true, Bool.and_self, decide_true, decide_false, decide_eq_true_eq, idxAV_encNs hlt', hxe, h2, h4, h11, h12, h13, Nd.cells]
        refine effR_new fun id6 σ6 s6 a6 f6 => ?_
        have n64 : id6 ≠ id4 := by rintro rfl; rw [h4s] at f6; cases f6
        have n6R : id6 ≠ idR := by rintro rfl; rw [hRs] at f6; cases f6
        have g6 : upd σ idR ⟨31, 4, [.agg Sm.zero.cells]⟩ id6 = none := hsub.none f6
        simp -implicitDefEqProofs only [s_r_nil, Ret_one, Ret_two, Ret_three, Ret_none, Ret_cell_one, Ret_cell_two, onSome_some, s_r_stop, s_r_inBlock, s_r_ops_nil, s_r_skip, s_r_seq, s_r_block, s_r_exit, exR_some, s_r_ret, s_r_loop, s_r_reg, s_r_dreg, s_d_nil, s_r_cond, cR_t, cR_f, cR_dec, s_r_ins, insR_0, insR_1, insR_2, insR_3, insR_4, callR_some, callR_none, callV_eq, callD_some, callD_none, contR_some, storeR_some, s_d_ins, insD_0, insD_1, insD_2, insD_3, contD_some, storeD_some, s_r_gins, gR_tup, gR_tt, gR_ff, gR_tf, gR_ft, gR_dec_t, gR_dec_f, s_d_gins, gD_tup, gD_tt, gD_ff, gD_tf, gD_ft, gD_dec_t, gD_dec_f, putO_nothing, putO_lo, putO_hi, mix_get, putO_some, putO_none, lit_t, lit_c, ev_t, ev_c, okind, vpre, vpure, binV_int, binV_str, binPre_int, binPre_str, intBin, intPre, strBin, strPre, popTo, argSlots, lenV_own, lenV_sl, lenV_nils, lenV_str, fldV, fldAV, subCells, idxAV_own, idxVV, idxAAV, idxSV, loadV_ptr, loadV_rp_agg, loadV_rp_int, sliceV, sliceSV, boundV, szIs, storeOp, storeS, setRowV, eff, extV, buildV, splice, eqSV, fitsL, eqCells, eqCell, minmaxV, binBV, nilCheckV, bytesV, V.cells, V.stays, upd_same, upd_upd, true_implies, false_implies, implies_true, keepS_eq, List.getD_cons_zero, List.getD_cons_succ, List.getD_nil, List.map_cons, List.map_nil, List.length_cons, List.length_nil, List.drop_succ_cons, List.drop_zero, List.take_succ_cons, List.take_zero, List.set_cons_zero, List.set_cons_succ, List.append_nil, List.nil_append, List.cons_append, List.all_cons, List.all_nil, List.getElem?_cons_zero, List.getElem?_cons_succ, List.contains_cons, List.contains_nil, Option.isSome_some, Option.map_some, Option.map_none, true_and, and_true, and_self, Int.reduceEq, Int.reduceNe, Int.reduceLT, Int.reduceLE, Int.reduceGT, Int.reduceGE, Nat.reduceEqDiff, Nat.reduceAdd, Nat.reduceMul, Nat.reduceLeDiff, Nat.reduceSub, Nat.reduceLT, Nat.reduceBEq, Nat.zero_add, Nat.add_zero, ↓reduceIte, reduceCtorEq, ← decide_not, Bool.not_true, Bool.not_false, Bool.false_eq_true, Bool.or_true, Bool.true_or, Bool.or_false, Bool.false_or, Bool.true_and, Bool.and_true, Bool.and_self, decide_true, decide_false, decide_eq_true_eq, a6, h2, h4, h11, h12, h13]
        have hsub6 := hsub.trans s6
        have hcall := (node_c (K := upd σ idR ⟨31, 4, [.agg Sm.zero.cells]⟩) (σ := upd σ6 id6 ⟨28, 20, [encN x]⟩) (i := i) (x := x) (s := (foldS l i).1) (B := i) (hsub6.updK g6) k4 ((upd_ne n64.symm).trans (s6 _ _ h4s))
          (fun o => ((hE o).new (s6.updK f6) f6 (o := ⟨0, 0, []⟩)).less ((SubStore.refl _).updK (upd_none.2 ⟨n64, g6⟩))) (by omega) (by omega) (by rw [e1]; exact e3) (by rw [e1]) hx hxw (by omega))
        simp only [encN, Nd.cells] at hcall
        refine Runs.call rfl rfl rfl (by simp -implicitDefEqProofs only [s_r_nil, Ret_one, Ret_two, Ret_three, Ret_none, Ret_cell_one, Ret_cell_two, onSome_some, s_r_stop, s_r_inBlock, s_r_ops_nil, s_r_skip, s_r_seq, s_r_block, s_r_exit, exR_some, s_r_ret, s_r_loop, s_r_reg, s_r_dreg, s_d_nil, s_r_cond, cR_t, cR_f, cR_dec, s_r_ins, insR_0, insR_1, insR_2, insR_3, insR_4, callR_some, callR_none, callV_eq, callD_some, callD_none, contR_some, storeR_some, effR_some, s_d_ins, insD_0, insD_1, insD_2, insD_3, contD_some, storeD_some, effD_some, s_r_gins, gR_tup, gR_tt, gR_ff, gR_tf, gR_ft, gR_dec_t, gR_dec_f, s_d_gins, gD_tup, gD_tt, gD_ff, gD_tf, gD_ft, gD_dec_t, gD_dec_f, putO_nothing, putO_lo, putO_hi, mix_get, putO_some, putO_none, lit_t, lit_c, ev_t, ev_c, okind, vpre, vpure, binV_int, binV_str, binPre_int, binPre_str, intBin, intPre, strBin, strPre, popTo, argSlots, lenV_own, lenV_sl, lenV_nils, lenV_str, fldV, fldAV, subCells, idxAV_own, idxVV, idxAAV, idxSV, loadV_ptr, loadV_rp_agg, loadV_rp_int, sliceV, sliceSV, boundV, szIs, storeOp, storeS, setRowV, eff, extV, buildV, splice, eqSV, fitsL, eqCells, eqCell, minmaxV, binBV, nilCheckV, bytesV, V.cells, V.stays, upd_same, upd_upd, true_implies, false_implies, implies_true, keepS_eq, List.getD_cons_zero, List.getD_cons_succ, List.getD_nil, List.map_cons, List.map_nil, List.length_cons, List.length_nil, List.drop_succ_cons, List.drop_zero, List.take_succ_cons, List.take_zero, List.set_cons_zero, List.set_cons_succ, List.append_nil, List.nil_append, List.cons_append, List.all_cons, List.all_nil, List.getElem?_cons_zero, List.getElem?_cons_succ, List.contains_cons, List.contains_nil, Option.isSome_some, Option.map_some, Option.map_none, true_and, and_true, and_self, Int.reduceEq, Int.reduceNe, Int.reduceLT, Int.reduceLE, Int.reduceGT, Int.reduceGE, Nat.reduceEqDiff, Nat.reduceAdd, Nat.reduceMul, Nat.reduceLeDiff, Nat.reduceSub, Nat.reduceLT, Nat.reduceBEq, Nat.zero_add, Nat.add_zero, ↓reduceIte, reduceCtorEq, ← decide_not, Bool.not_true, Bool.not_false, Bool.false_eq_true, Bool.or_true, Bool.true_or, Bool.or_false, Bool.false_or, Bool.true_and, Bool.and_true, Bool.and_self, decide_true, decide_false, decide_eq_true_eq, h4]; exact hcall) ?_
        · rintro r σ7 ⟨rfl, hK7, v', h4', hE'⟩
          (refine Runs.of_step Orc.nothing 300 ?_; simp -implicitDefEqProofs only [s_r_nil, Ret_one, Ret_two, Ret_three, Ret_none, Ret_cell_one, Ret_cell_two, onSome_some, s_r_stop, s_r_inBlock, s_r_ops_nil, s_r_skip, s_r_seq, s_r_block, s_r_exit, exR_some, s_r_ret, s_r_loop, s_r_reg, s_r_dreg, s_d_nil, s_r_cond, cR_t, cR_f, cR_dec, s_r_ins, insR_0, insR_1, insR_2, insR_3, insR_4, callR_some, callR_none, callV_eq, callD_some, callD_none, contR_some, storeR_some, effR_some, s_d_ins, insD_0, insD_1, insD_2, insD_3, contD_some, storeD_some, effD_some, s_r_gins, gR_tup, gR_tt, gR_ff, gR_tf, gR_ft, gR_dec_t, gR_dec_f, s_d_gins, gD_tup, gD_tt, gD_ff, gD_tf, gD_ft, gD_dec_t, gD_dec_f, putO_nothing, putO_lo, putO_hi, mix_get, putO_some, putO_none, lit_t, lit_c, ev_t, ev_c, okind, vpre, vpure, binV_int, binV_str, binPre_int, binPre_str, intBin, intPre, strBin, strPre, popTo, argSlots, lenV_own, lenV_sl, lenV_nils, lenV_str, fldV, fldAV, subCells, idxAV_own, idxVV, idxAAV, idxSV, loadV_ptr, loadV_rp_agg, loadV_rp_int, sliceV, sliceSV, boundV, szIs, storeOp, storeS, setRowV, eff, extV, buildV, splice, eqSV, fitsL, eqCells, eqCell, minmaxV, binBV, nilCheckV, bytesV, V.cells, V.stays, upd_same, upd_upd, true_implies, false_implies, implies_true, keepS_eq, List.getD_cons_zero, List.getD_cons_succ, List.getD_nil, List.map_cons, List.map_nil, List.length_cons, List.length_nil, List.drop_succ_cons, List.drop_zero, List.take_succ_cons, List.take_zero, List.set_cons_zero, List.set_cons_succ, List.append_nil, List.nil_append, List.cons_append, List.all_cons, List.all_nil, List.getElem?_cons_zero, List.getElem?_cons_succ, List.contains_cons, List.contains_nil, Option.isSome_some, Option.map_some, Option.map_none, true_and, and_true, and_self, Int.reduceEq, Int.reduceNe, Int.reduceLT, Int.reduceLE, Int.reduceGT, Int.reduceGE, Nat.reduceEqDiff, Nat.reduceAdd, Nat.reduceMul, Nat.reduceLeDiff, Nat.reduceSub, Nat.reduceLT, Nat.reduceBEq, Nat.zero_add, Nat.add_zero, ↓reduceIte, reduceCtorEq, ← decide_not, Bool.not_true, Bool.not_false, Bool.false_eq_true, Bool.or_true, Bool.true_or, Bool.or_false, Bool.false_or, Bool.true_and, Bool.and_true, Bool.and_self, decide_true, decide_false, decide_eq_true_eq, Orc.nothing, h2, h4, h11, h12, h13])
          refine ⟨inR_i64 (by omega) (by omega), _, ?_, i + 1, v', by omega, rfl, hK7, ?_, ?_, ?_⟩
          · omega
          · rw [hstep, h4']; rfl
          · intro o; rw [hstep]; exact hE' o
          · simp
      · have hie : i = l.length := by omega
        subst hie
        refine RetV.pure ((((SubStore.refl σ).updK fR).trans hsub).updK fR) ?_
        simp [countS, hf, Sm.cells]
end Go.Vc
/- Contracts: the code's Check. -/
namespace Go.Vc
open Go.Proofs

theorem cast2 : ((2 : Nat) : Int) = 2 := rfl
theorem cast3 : ((3 : Nat) : Int) = 3 := rfl
theorem cast4 : ((4 : Nat) : Int) = 4 := rfl

set_option maxRecDepth 100000 in
theorem checkv_c (l : List Nd) (hl : Fine l) : PFun Try.prog 15 [encNs l] (vI (checkR l)) := fun σ => by
  refine Contract.of_runs Try.func15 e15 k15 (by simp [c15]) ?_
  refine Runs.mix 8 ?_
  (refine Runs.of_step Orc.nothing 300 ?_; simp -implicitDefEqProofs only [s_r_nil, Ret_one, Ret_two, Ret_three, Ret_none, Ret_cell_one, Ret_cell_two, onSome_some, s_r_stop, s_r_inBlock, s_r_ops_nil, s_r_skip, s_r_seq, s_r_block, s_r_exit, exR_some, s_r_ret, s_r_loop, s_r_reg, s_r_dreg, s_d_nil, s_r_cond, cR_t, cR_f, cR_dec, s_r_ins, insR_0, insR_1, insR_2, insR_3, insR_4, callR_some, callR_none, callV_eq, callD_some, callD_none, contR_some, storeR_some, s_d_ins, insD_0, insD_1, insD_2, insD_3, contD_some, storeD_some, s_r_gins, gR_tup, gR_tt, gR_ff, gR_tf, gR_ft, gR_dec_t, gR_dec_f, s_d_gins, gD_tup, gD_tt, gD_ff, gD_tf, gD_ft, gD_dec_t, gD_dec_f, putO_nothing, putO_lo, putO_hi, mix_get, putO_some, putO_none, lit_t, lit_c, ev_t, ev_c, okind, vpre, vpure, binV_int, binV_str, binPre_int, binPre_str, intBin, intPre, strBin, strPre, popTo, argSlots, lenV_own, lenV_sl, lenV_nils, lenV_str, fldV, fldAV, subCells, idxAV_own, idxVV, idxAAV, idxSV, loadV_ptr, loadV_rp_agg, loadV_rp_int, sliceV, sliceSV, boundV, szIs, storeOp, storeS, setRowV, eff, extV, buildV, splice, eqSV, fitsL, eqCells, eqCell, minmaxV, binBV, nilCheckV, bytesV, V.cells, V.stays, upd_same, upd_upd, true_implies, false_implies, implies_true, keepS_eq, List.getD_cons_zero, List.getD_cons_succ, List.getD_nil, List.map_cons, List.map_nil, List.length_cons, List.length_nil, List.drop_succ_cons, List.drop_zero, List.take_succ_cons, List.take_zero, List.set_cons_zero, List.set_cons_succ, List.append_nil, List.nil_append, List.cons_append, List.all_cons, List.all_nil, List.getElem?_cons_zero, List.getElem?_cons_succ, List.contains_cons, List.contains_nil, Option.isSome_some, Option.map_some, Option.map_none, true_and, and_true, and_self, Int.reduceEq, Int.reduceNe, Int.reduceLT, Int.reduceLE, Int.reduceGT, Int.reduceGE, Nat.reduceEqDiff, Nat.reduceAdd, Nat.reduceMul, Nat.reduceLeDiff, Nat.reduceSub, Nat.reduceLT, Nat.reduceBEq, Nat.zero_add, Nat.add_zero, ↓reduceIte, reduceCtorEq, ← decide_not, Bool.not_true, Bool.not_false, Bool.false_eq_true, Bool.or_true, Bool.true_or, Bool.or_false, Bool.false_or, Bool.true_and, Bool.and_true, Bool.and_self, decide_true, decide_false, decide_eq_true_eq, Orc.nothing, c15])
  refine Runs.pcall rfl rfl rfl (countv_c l hl _) ?_
  (refine Runs.of_step Orc.nothing 300 ?_; simp -implicitDefEqProofs only [s_r_nil, Ret_one, Ret_two, Ret_three, Ret_none, Ret_cell_one, Ret_cell_two, onSome_some, s_r_stop, s_r_inBlock, s_r_ops_nil, s_r_skip, s_r_seq, s_r_block, s_r_exit, exR_some, s_r_ret, s_r_loop, s_r_reg, s_r_dreg, s_d_nil, s_r_cond, cR_t, cR_f, cR_dec, s_r_ins, insR_0, insR_1, insR_2, insR_3, insR_4, callR_some, callR_none, callV_eq, callD_some, callD_none, contR_some, storeR_some, s_d_ins, insD_0, insD_1, insD_2, insD_3, contD_some, storeD_some, s_r_gins, gR_tup, gR_tt, gR_ff, gR_tf, gR_ft, gR_dec_t, gR_dec_f, s_d_gins, gD_tup, gD_tt, gD_ff, gD_tf, gD_ft, gD_dec_t, gD_dec_f, putO_nothing, putO_lo, putO_hi, mix_get, putO_some, putO_none, lit_t, lit_c, ev_t, ev_c, okind, vpre, vpure, binV_int, binV_str, binPre_int, binPre_str, intBin, intPre, strBin, strPre, popTo, argSlots, lenV_own, lenV_sl, lenV_nils, lenV_str, fldV, fldAV, subCells, idxAV_own, idxVV, idxAAV, idxSV, loadV_ptr, loadV_rp_agg, loadV_rp_int, sliceV, sliceSV, boundV, szIs, storeOp, storeS, setRowV, eff, extV, buildV, splice, eqSV, fitsL, eqCells, eqCell, minmaxV, binBV, nilCheckV, bytesV, V.cells, V.stays, upd_same, upd_upd, true_implies, false_implies, implies_true, keepS_eq, List.getD_cons_zero, List.getD_cons_succ, List.getD_nil, List.map_cons, List.map_nil, List.length_cons, List.length_nil, List.drop_succ_cons, List.drop_zero, List.take_succ_cons, List.take_zero, List.set_cons_zero, List.set_cons_succ, List.append_nil, List.nil_append, List.cons_append, List.all_cons, List.all_nil, List.getElem?_cons_zero, List.getElem?_cons_succ, List.contains_cons, List.contains_nil, Option.isSome_some, Option.map_some, Option.map_none, true_and, and_true, and_self, Int.reduceEq, Int.reduceNe, Int.reduceLT, Int.reduceLE, Int.reduceGT, Int.reduceGE, Nat.reduceEqDiff, Nat.reduceAdd, Nat.reduceMul, Nat.reduceLeDiff, Nat.reduceSub, Nat.reduceLT, Nat.reduceBEq, Nat.zero_add, Nat.add_zero, ↓reduceIte, reduceCtorEq, ← decide_not, Bool.not_true, Bool.not_false, Bool.false_eq_true, Bool.or_true, Bool.true_or, Bool.or_false, Bool.false_or, Bool.true_and, Bool.and_true, Bool.and_self, decide_true, decide_false, decide_eq_true_eq, Orc.nothing, Sm.cells])
  refine effR_new fun id3 σ1 s1 a3 f3 => ?_
  have hsub := fun o => s1.updK f3 (o := o)
  simp -implicitDefEqProofs only [s_r_nil, Ret_one, Ret_two, Ret_three, Ret_none, Ret_cell_one, Ret_cell_two, onSome_some, s_r_stop, s_r_inBlock, s_r_ops_nil, s_r_skip, s_r_seq, s_r_block, s_r_exit, exR_some, s_r_ret, s_r_loop, s_r_reg, s_r_dreg, s_d_nil, s_r_cond, cR_t, cR_f, cR_dec, s_r_ins, insR_0, insR_1, insR_2, insR_3, insR_4, callR_some, callR_none, callV_eq, callD_some, callD_none, contR_some, storeR_some, s_d_ins, insD_0, insD_1, insD_2, insD_3, contD_some, storeD_some, s_r_gins, gR_tup, gR_tt, gR_ff, gR_tf, gR_ft, gR_dec_t, gR_dec_f, s_d_gins, gD_tup, gD_tt, gD_ff, gD_tf, gD_ft, gD_dec_t, gD_dec_f, putO_nothing, putO_lo, putO_hi, mix_get, putO_some, putO_none, lit_t, lit_c, ev_t, ev_c, okind, vpre, vpure, binV_int, binV_str, binPre_int, binPre_str, intBin, intPre, strBin, strPre, popTo, argSlots, lenV_own, lenV_sl, lenV_nils, lenV_str, fldV, fldAV, subCells, idxAV_own, idxVV, idxAAV, idxSV, loadV_ptr, loadV_rp_agg, loadV_rp_int, sliceV, sliceSV, boundV, szIs, storeOp, storeS, setRowV, eff, extV, buildV, splice, eqSV, fitsL, eqCells, eqCell, minmaxV, binBV, nilCheckV, bytesV, V.cells, V.stays, upd_same, upd_upd, true_implies, false_implies, implies_true, keepS_eq, List.getD_cons_zero, List.getD_cons_succ, List.getD_nil, List.map_cons, List.map_nil, List.length_cons, List.length_nil, List.drop_succ_cons, List.drop_zero, List.take_succ_cons, List.take_zero, List.set_cons_zero, List.set_cons_succ, List.append_nil, List.nil_append, List.cons_append, List.all_cons, List.all_nil, List.getElem?_cons_zero, List.getElem?_cons_succ, List.contains_cons, List.contains_nil, Option.isSome_some, Option.map_some, Option.map_none, true_and, and_true, and_self, Int.reduceEq, Int.reduceNe, Int.reduceLT, Int.reduceLE, Int.reduceGT, Int.reduceGE, Nat.reduceEqDiff, Nat.reduceAdd, Nat.reduceMul, Nat.reduceLeDiff, Nat.reduceSub, Nat.reduceLT, Nat.reduceBEq, Nat.zero_add, Nat.add_zero, ↓reduceIte, reduceCtorEq, ← decide_not, Bool.not_true, Bool.not_false, Bool.false_eq_true, Bool.or_true, Bool.true_or, Bool.or_false, Bool.false_or, Bool.true_and, Bool.and_true, Bool.and_self, decide_true, decide_false, decide_eq_true_eq, a3]
  have hc : (countR l).2 = if isB l then 0 else 4 := by unfold countR; split <;> rfl
  refine And.intro (fun h => ?_) (fun h => ?_)
  · refine RetV.pure (hsub _) ?_
    have : isB l = false := by
      rw [hc] at h
      cases hb : isB l <;> simp_all
    simp [checkR, this, hc]
  · have hb : isB l = true := by
      rw [hc] at h
      cases hb : isB l <;> simp_all
    have hR : checkR l = if (countR l).1.depth > 16 ∨ (countR l).1.pieces > 2000 ∨ (countR l).1.nodes > 2000 ∨ (countR l).1.heights > 1099511627776 then 2 else 0 := by
      simp only [checkR, hb, if_true]
    generalize (countR l).1 = sm at *
    refine effR_new fun id5 σ2 s2 a5 f5 => ?_
    have hs2 := (hsub _).trans s2
    have g5 : σ id5 = none := (hsub _).none f5
    simp -implicitDefEqProofs only [s_r_nil, Ret_one, Ret_two, Ret_three, Ret_none, Ret_cell_one, Ret_cell_two, onSome_some, s_r_stop, s_r_inBlock, s_r_ops_nil, s_r_skip, s_r_seq, s_r_block, s_r_exit, exR_some, s_r_ret, s_r_loop, s_r_reg, s_r_dreg, s_d_nil, s_r_cond, cR_t, cR_f, cR_dec, s_r_ins, insR_0, insR_1, insR_2, insR_3, insR_4, callR_some, callR_none, callV_eq, callD_some, callD_none, contR_some, storeR_some, s_d_ins, insD_0, insD_1, insD_2, insD_3, contD_some, storeD_some, s_r_gins, gR_tup, gR_tt, gR_ff, gR_tf, gR_ft, gR_dec_t, gR_dec_f, s_d_gins, gD_tup, gD_tt, gD_ff, gD_tf, gD_ft, gD_dec_t, gD_dec_f, putO_nothing, putO_lo, putO_hi, mix_get, putO_some, putO_none, lit_t, lit_c, ev_t, ev_c, okind, vpre, vpure, binV_int, binV_str, binPre_int, binPre_str, intBin, intPre, strBin, strPre, popTo, argSlots, lenV_own, lenV_sl, lenV_nils, lenV_str, fldV, fldAV, subCells, idxAV_own, idxVV, idxAAV, idxSV, loadV_ptr, loadV_rp_agg, loadV_rp_int, sliceV, sliceSV, boundV, szIs, storeOp, storeS, setRowV, eff, extV, buildV, splice, eqSV, fitsL, eqCells, eqCell, minmaxV, binBV, nilCheckV, bytesV, V.cells, V.stays, upd_same, upd_upd, true_implies, false_implies, implies_true, keepS_eq, List.getD_cons_zero, List.getD_cons_succ, List.getD_nil, List.map_cons, List.map_nil, List.length_cons, List.length_nil, List.drop_succ_cons, List.drop_zero, List.take_succ_cons, List.take_zero, List.set_cons_zero, List.set_cons_succ, List.append_nil, List.nil_append, List.cons_append, List.all_cons, List.all_nil, List.getElem?_cons_zero, List.getElem?_cons_succ, List.contains_cons, List.contains_nil, Option.isSome_some, Option.map_some, Option.map_none, true_and, and_true, and_self, Int.reduceEq, Int.reduceNe, Int.reduceLT, Int.reduceLE, Int.reduceGT, Int.reduceGE, Nat.reduceEqDiff, Nat.reduceAdd, Nat.reduceMul, Nat.reduceLeDiff, Nat.reduceSub, Nat.reduceLT, Nat.reduceBEq, Nat.zero_add, Nat.add_zero, ↓reduceIte, reduceCtorEq, ← decide_not, Bool.not_true, Bool.not_false, Bool.false_eq_true, Bool.or_true, Bool.true_or, Bool.or_false, Bool.false_or, Bool.true_and, Bool.and_true, Bool.and_self, decide_true, decide_false, decide_eq_true_eq, a5]
    refine Runs.loop (fun m st => ∃ (i : Nat), i ≤ 4 ∧ m = 4 - i ∧ st.σ = upd σ2 id5 ⟨67, 4, [.agg sm.cells]⟩ ∧ (0 < i → sm.depth ≤ 16) ∧ (1 < i → sm.pieces ≤ 2000) ∧ (2 < i → sm.nodes ≤ 2000) ∧ (3 < i → sm.heights ≤ 1099511627776) ∧
      st.s 5 = .ptr id5 0 0 ∧ st.s 25 = .agg [vI 16, vI 2000, vI 2000, vI 1099511627776] ∧ st.s 26 = vI i) 4 ?_ ?_
    · exact ⟨0, by omega, by omega, rfl, by omega, by omega, by omega, by omega, rfl, rfl, rfl⟩
    · rintro m ⟨s, σ'⟩ ⟨i, hi, rfl, hσ, p1, p2, p3, p4, h5, h25, h26⟩
      simp only at hσ h5 h25 h26
      subst hσ
      have hi' : i = 0 ∨ i = 1 ∨ i = 2 ∨ i = 3 ∨ i = 4 := by omega
      have hend : ∀ (p : Prop), p → p := fun _ h => h
      rcases hi' with rfl | rfl | rfl | rfl | rfl
      · refine Runs.mix 8 ?_
        (refine Runs.of_step Orc.nothing 300 ?_; simp -implicitDefEqProofs only [s_r_nil, Ret_one, Ret_two, Ret_three, Ret_none, Ret_cell_one, Ret_cell_two, onSome_some, s_r_stop, s_r_inBlock, s_r_ops_nil, s_r_skip, s_r_seq, s_r_block, s_r_exit, exR_some, s_r_ret, s_r_loop, s_r_reg, s_r_dreg, s_d_nil, s_r_cond, cR_t, cR_f, cR_dec, s_r_ins, insR_0, insR_1, insR_2, insR_3, insR_4, callR_some, callR_none, callV_eq, callD_some, callD_none, contR_some, storeR_some, effR_some, s_d_ins, insD_0, insD_1, insD_2, insD_3, contD_some, storeD_some, effD_some, s_r_gins, gR_tup, gR_tt, gR_ff, gR_tf, gR_ft, gR_dec_t, gR_dec_f, s_d_gins, gD_tup, gD_tt, gD_ff, gD_tf, gD_ft, gD_dec_t, gD_dec_f, putO_nothing, putO_lo, putO_hi, mix_get, putO_some, putO_none, lit_t, lit_c, ev_t, ev_c, okind, vpre, vpure, binV_int, binV_str, binPre_int, binPre_str, intBin, intPre, strBin, strPre, popTo, argSlots, lenV_own, lenV_sl, lenV_nils, lenV_str, fldV, fldAV, subCells, idxAV_own, idxVV, idxAAV, idxSV, loadV_ptr, loadV_rp_agg, loadV_rp_int, sliceV, sliceSV, boundV, szIs, storeOp, storeS, setRowV, eff, extV, buildV, splice, eqSV, fitsL, eqCells, eqCell, minmaxV, binBV, nilCheckV, bytesV, V.cells, V.stays, upd_same, upd_upd, true_implies, false_implies, implies_true, keepS_eq, List.getD_cons_zero, List.getD_cons_succ, List.getD_nil, List.map_cons, List.map_nil, List.length_cons, List.length_nil, List.drop_succ_cons, List.drop_zero, List.take_succ_cons, List.take_zero, List.set_cons_zero, List.set_cons_succ, List.append_nil, List.nil_append, List.cons_append, List.all_cons, List.all_nil, List.getElem?_cons_zero, List.getElem?_cons_succ, List.contains_cons, List.contains_nil, Option.isSome_some, Option.map_some, Option.map_none, true_and, and_true, and_self, Int.reduceEq, Int.reduceNe, Int.reduceLT, Int.reduceLE, Int.reduceGT, Int.reduceGE, Nat.reduceEqDiff, Nat.reduceAdd, Nat.reduceMul, Nat.reduceLeDiff, Nat.reduceSub, Nat.reduceLT, Nat.reduceBEq, Nat.zero_add, Nat.add_zero, ↓reduceIte, reduceCtorEq, ← decide_not, Bool.not_true, Bool.not_false, Bool.false_eq_true, Bool.or_true, Bool.true_or, Bool.or_false, Bool.false_or, Bool.true_and, Bool.and_true, Bool.and_self, decide_true, decide_false, decide_eq_true_eq, Orc.nothing, h5, h25, h26, Sm.cells, Int.ofNat_zero, Int.natCast_zero, cast2, cast3, cast4, Int.toNat_zero, Int.reduceToNat, Nat.zero_mul])
        refine And.intro (fun g => ?_) (fun g => ?_)
        · refine RetV.pure (hs2.updK g5) ?_
          rw [hR, if_pos]
          omega
        · refine ⟨inR_i64 (by omega) (by omega), _, ?_, 1, by omega, rfl, ?_, ?_, ?_, ?_, rfl⟩ <;> omega
      · refine Runs.mix 8 ?_
        (refine Runs.of_step Orc.nothing 300 ?_; simp -implicitDefEqProofs only [s_r_nil, Ret_one, Ret_two, Ret_three, Ret_none, Ret_cell_one, Ret_cell_two, onSome_some, s_r_stop, s_r_inBlock, s_r_ops_nil, s_r_skip, s_r_seq, s_r_block, s_r_exit, exR_some, s_r_ret, s_r_loop, s_r_reg, s_r_dreg, s_d_nil, s_r_cond, cR_t, cR_f, cR_dec, s_r_ins, insR_0, insR_1, insR_2, insR_3, insR_4, callR_some, callR_none, callV_eq, callD_some, callD_none, contR_some, storeR_some, effR_some, s_d_ins, insD_0, insD_1, insD_2, insD_3, contD_some, storeD_some, effD_some, s_r_gins, gR_tup, gR_tt, gR_ff, gR_tf, gR_ft, gR_dec_t, gR_dec_f, s_d_gins, gD_tup, gD_tt, gD_ff, gD_tf, gD_ft, gD_dec_t, gD_dec_f, putO_nothing, putO_lo, putO_hi, mix_get, putO_some, putO_none, lit_t, lit_c, ev_t, ev_c, okind, vpre, vpure, binV_int, binV_str, binPre_int, binPre_str, intBin, intPre, strBin, strPre, popTo, argSlots, lenV_own, lenV_sl, lenV_nils, lenV_str, fldV, fldAV, subCells, idxAV_own, idxVV, idxAAV, idxSV, loadV_ptr, loadV_rp_agg, loadV_rp_int, sliceV, sliceSV, boundV, szIs, storeOp, storeS, setRowV, eff, extV, buildV, splice, eqSV, fitsL, eqCells, eqCell, minmaxV, binBV, nilCheckV, bytesV, V.cells, V.stays, upd_same, upd_upd, true_implies, false_implies, implies_true, keepS_eq, List.getD_cons_zero, List.getD_cons_succ, List.getD_nil, List.map_cons, List.map_nil, List.length_cons, List.length_nil, List.drop_succ_cons, List.drop_zero, List.take_succ_cons, List.take_zero, List.set_cons_zero, List.set_cons_succ, List.append_nil, List.nil_append, List.cons_append, List.all_cons, List.all_nil, List.getElem?_cons_zero, List.getElem?_cons_succ, List.contains_cons, List.contains_nil, Option.isSome_some, Option.map_some, Option.map_none, true_and, and_true, and_self, Int.reduceEq, Int.reduceNe, Int.reduceLT, Int.reduceLE, Int.reduceGT, Int.reduceGE, Nat.reduceEqDiff, Nat.reduceAdd, Nat.reduceMul, Nat.reduceLeDiff, Nat.reduceSub, Nat.reduceLT, Nat.reduceBEq, Nat.zero_add, Nat.add_zero, ↓reduceIte, reduceCtorEq, ← decide_not, Bool.not_true, Bool.not_false, Bool.false_eq_true, Bool.or_true, Bool.true_or, Bool.or_false, Bool.false_or, Bool.true_and, Bool.and_true, Bool.and_self, decide_true, decide_false, decide_eq_true_eq, Orc.nothing, h5, h25, h26, Sm.cells, Int.ofNat_zero, Int.natCast_zero, Int.natCast_one, Int.toNat_one, cast2, cast3, cast4, Int.toNat_zero, Int.reduceToNat, Nat.zero_mul, Nat.reduceMul])
        refine And.intro (fun g => ?_) (fun g => ?_)
        · refine RetV.pure (hs2.updK g5) ?_
          rw [hR, if_pos]
          omega
        · refine ⟨inR_i64 (by omega) (by omega), _, ?_, 2, by omega, rfl, ?_, ?_, ?_, ?_, rfl⟩ <;> omega
      · refine Runs.mix 8 ?_
        (refine Runs.of_step Orc.nothing 300 ?_; simp -implicitDefEqProofs only [s_r_nil, Ret_one, Ret_two, Ret_three, Ret_none, Ret_cell_one, Ret_cell_two, onSome_some, s_r_stop, s_r_inBlock, s_r_ops_nil, s_r_skip, s_r_seq, s_r_block, s_r_exit, exR_some, s_r_ret, s_r_loop, s_r_reg, s_r_dreg, s_d_nil, s_r_cond, cR_t, cR_f, cR_dec, s_r_ins, insR_0, insR_1, insR_2, insR_3, insR_4, callR_some, callR_none, callV_eq, callD_some, callD_none, contR_some, storeR_some, effR_some, s_d_ins, insD_0, insD_1, insD_2, insD_3, contD_some, storeD_some, effD_some, s_r_gins, gR_tup, gR_tt, gR_ff, gR_tf, gR_ft, gR_dec_t, gR_dec_f, s_d_gins, gD_tup, gD_tt, gD_ff, gD_tf, gD_ft, gD_dec_t, gD_dec_f, putO_nothing, putO_lo, putO_hi, mix_get, putO_some, putO_none, lit_t, lit_c, ev_t, ev_c, okind, vpre, vpure, binV_int, binV_str, binPre_int, binPre_str, intBin, intPre, strBin, strPre, popTo, argSlots, lenV_own, lenV_sl, lenV_nils, lenV_str, fldV, fldAV, subCells, idxAV_own, idxVV, idxAAV, idxSV, loadV_ptr, loadV_rp_agg, loadV_rp_int, sliceV, sliceSV, boundV, szIs, storeOp, storeS, setRowV, eff, extV, buildV, splice, eqSV, fitsL, eqCells, eqCell, minmaxV, binBV, nilCheckV, bytesV, V.cells, V.stays, upd_same, upd_upd, true_implies, false_implies, implies_true, keepS_eq, List.getD_cons_zero, List.getD_cons_succ, List.getD_nil, List.map_cons, List.map_nil, List.length_cons, List.length_nil, List.drop_succ_cons, List.drop_zero, List.take_succ_cons, List.take_zero, List.set_cons_zero, List.set_cons_succ, List.append_nil, List.nil_append, List.cons_append, List.all_cons, List.all_nil, List.getElem?_cons_zero, List.getElem?_cons_succ, List.contains_cons, List.contains_nil, Option.isSome_some, Option.map_some, Option.map_none, true_and, and_true, and_self, Int.reduceEq, Int.reduceNe, Int.reduceLT, Int.reduceLE, Int.reduceGT, Int.reduceGE, Nat.reduceEqDiff, Nat.reduceAdd, Nat.reduceMul, Nat.reduceLeDiff, Nat.reduceSub, Nat.reduceLT, Nat.reduceBEq, Nat.zero_add, Nat.add_zero, ↓reduceIte, reduceCtorEq, ← decide_not, Bool.not_true, Bool.not_false, Bool.false_eq_true, Bool.or_true, Bool.true_or, Bool.or_false, Bool.false_or, Bool.true_and, Bool.and_true, Bool.and_self, decide_true, decide_false, decide_eq_true_eq, Orc.nothing, h5, h25, h26, Sm.cells, Int.ofNat_zero, Int.natCast_zero, Int.natCast_one, Int.toNat_one, cast2, cast3, cast4, Int.toNat_zero, Int.reduceToNat, Nat.zero_mul, Nat.reduceMul])
        refine And.intro (fun g => ?_) (fun g => ?_)
        · refine RetV.pure (hs2.updK g5) ?_
          rw [hR, if_pos]
          omega
        · refine ⟨inR_i64 (by omega) (by omega), _, ?_, 3, by omega, rfl, ?_, ?_, ?_, ?_, rfl⟩ <;> omega
      · refine Runs.mix 8 ?_
        (refine Runs.of_step Orc.nothing 300 ?_; simp -implicitDefEqProofs only [s_r_nil, Ret_one, Ret_two, Ret_three, Ret_none, Ret_cell_one, Ret_cell_two, onSome_some, s_r_stop, s_r_inBlock, s_r_ops_nil, s_r_skip, s_r_seq, s_r_block, s_r_exit, exR_some, s_r_ret, s_r_loop, s_r_reg, s_r_dreg, s_d_nil, s_r_cond, cR_t, cR_f, cR_dec, s_r_ins, insR_0, insR_1, insR_2, insR_3, insR_4, callR_some, callR_none, callV_eq, callD_some, callD_none, contR_some, storeR_some, effR_some, s_d_ins, insD_0, insD_1, insD_2, insD_3, contD_some, storeD_some, effD_some, s_r_gins, gR_tup, gR_tt, gR_ff, gR_tf, gR_ft, gR_dec_t, gR_dec_f, s_d_gins, gD_tup, gD_tt, gD_ff, gD_tf, gD_ft, gD_dec_t, gD_dec_f, putO_nothing, putO_lo, putO_hi, mix_get, putO_some, putO_none, lit_t, lit_c, ev_t, ev_c, okind, vpre, vpure, binV_int, binV_str, binPre_int, binPre_str, intBin, intPre, strBin, strPre, popTo, argSlots, lenV_own, lenV_sl, lenV_nils, lenV_str, fldV, fldAV, subCells, idxAV_own, idxVV, idxAAV, idxSV, loadV_ptr, loadV_rp_agg, loadV_rp_int, sliceV, sliceSV, boundV, szIs, storeOp, storeS, setRowV, eff, extV, buildV, splice, eqSV, fitsL, eqCells, eqCell, minmaxV, binBV, nilCheckV, bytesV, V.cells, V.stays, upd_same, upd_upd, true_implies, false_implies, implies_true, keepS_eq, List.getD_cons_zero, List.getD_cons_succ, List.getD_nil, List.map_cons, List.map_nil, List.length_cons, List.length_nil, List.drop_succ_cons, List.drop_zero, List.take_succ_cons, List.take_zero, List.set_cons_zero, List.set_cons_succ, List.append_nil, List.nil_append, List.cons_append, List.all_cons, List.all_nil, List.getElem?_cons_zero, List.getElem?_cons_succ, List.contains_cons, List.contains_nil, Option.isSome_some, Option.map_some, Option.map_none, true_and, and_true, and_self, Int.reduceEq, Int.reduceNe, Int.reduceLT, Int.reduceLE, Int.reduceGT, Int.reduceGE, Nat.reduceEqDiff, Nat.reduceAdd, Nat.reduceMul, Nat.reduceLeDiff, Nat.reduceSub, Nat.reduceLT, Nat.reduceBEq, Nat.zero_add, Nat.add_zero, ↓reduceIte, reduceCtorEq, ← decide_not, Bool.not_true, Bool.not_false, Bool.false_eq_true, Bool.or_true, Bool.true_or, Bool.or_false, Bool.false_or, Bool.true_and, Bool.and_true, Bool.and_self, decide_true, decide_false, decide_eq_true_eq, Orc.nothing, h5, h25, h26, Sm.cells, Int.ofNat_zero, Int.natCast_zero, Int.natCast_one, Int.toNat_one, cast2, cast3, cast4, Int.toNat_zero, Int.reduceToNat, Nat.zero_mul, Nat.reduceMul])
        refine And.intro (fun g => ?_) (fun g => ?_)
        · refine RetV.pure (hs2.updK g5) ?_
          rw [hR, if_pos]
          omega
        · refine ⟨inR_i64 (by omega) (by omega), _, ?_, 4, by omega, rfl, ?_, ?_, ?_, ?_, rfl⟩ <;> omega
      · refine Runs.mix 8 ?_
        (refine Runs.of_step Orc.nothing 300 ?_; simp -implicitDefEqProofs only [s_r_nil, Ret_one, Ret_two, Ret_three, Ret_none, Ret_cell_one, Ret_cell_two, onSome_some, s_r_stop, s_r_inBlock, s_r_ops_nil, s_r_skip, s_r_seq, s_r_block, s_r_exit, exR_some, s_r_ret, s_r_loop, s_r_reg, s_r_dreg, s_d_nil, s_r_cond, cR_t, cR_f, cR_dec, s_r_ins, insR_0, insR_1, insR_2, insR_3, insR_4, callR_some, callR_none, callV_eq, callD_some, callD_none, contR_some, storeR_some, effR_some, s_d_ins, insD_0, insD_1, insD_2, insD_3, contD_some, storeD_some, effD_some, s_r_gins, gR_tup, gR_tt, gR_ff, gR_tf, gR_ft, gR_dec_t, gR_dec_f, s_d_gins, gD_tup, gD_tt, gD_ff, gD_tf, gD_ft, gD_dec_t, gD_dec_f, putO_nothing, putO_lo, putO_hi, mix_get, putO_some, putO_none, lit_t, lit_c, ev_t, ev_c, okind, vpre, vpure, binV_int, binV_str, binPre_int, binPre_str, intBin, intPre, strBin, strPre, popTo, argSlots, lenV_own, lenV_sl, lenV_nils, lenV_str, fldV, fldAV, subCells, idxAV_own, idxVV, idxAAV, idxSV, loadV_ptr, loadV_rp_agg, loadV_rp_int, sliceV, sliceSV, boundV, szIs, storeOp, storeS, setRowV, eff, extV, buildV, splice, eqSV, fitsL, eqCells, eqCell, minmaxV, binBV, nilCheckV, bytesV, V.cells, V.stays, upd_same, upd_upd, true_implies, false_implies, implies_true, keepS_eq, List.getD_cons_zero, List.getD_cons_succ, List.getD_nil, List.map_cons, List.map_nil, List.length_cons, List.length_nil, List.drop_succ_cons, List.drop_zero, List.take_succ_cons, List.take_zero, List.set_cons_zero, List.set_cons_succ, List.append_nil, List.nil_append, List.cons_append, List.all_cons, List.all_nil, List.getElem?_cons_zero, List.getElem?_cons_succ, List.contains_cons, List.contains_nil, Option.isSome_some, Option.map_some, Option.map_none, true_and, and_true, and_self, Int.reduceEq, Int.reduceNe, Int.reduceLT, Int.reduceLE, Int.reduceGT, Int.reduceGE, Nat.reduceEqDiff, Nat.reduceAdd, Nat.reduceMul, Nat.reduceLeDiff, Nat.reduceSub, Nat.reduceLT, Nat.reduceBEq, Nat.zero_add, Nat.add_zero, ↓reduceIte, reduceCtorEq, ← decide_not, Bool.not_true, Bool.not_false, Bool.false_eq_true, Bool.or_true, Bool.true_or, Bool.or_false, Bool.false_or, Bool.true_and, Bool.and_true, Bool.and_self, decide_true, decide_false, decide_eq_true_eq, Orc.nothing, h5, h25, h26, Sm.cells, Int.ofNat_zero, Int.natCast_zero, Int.natCast_one, cast2, cast3, cast4, Int.toNat_zero, Int.reduceToNat, Nat.zero_mul])
        refine RetV.pure (hs2.updK g5) ?_
        rw [hR, if_neg]
        omega
end Go.Vc
/- Contracts: nodes in memory of their own. -/
namespace Go.Vc
open Go.Proofs

theorem s_zero {P : Program} {O : Orc P} {n : Nat} {k : List It} {st : St} {Q : St → Prop} : step P O n 0 (.r k) st Q = Runs P n k st Q := rfl

theorem Wk.nils {σ σ' : Store} (sz : Nat) : Wk σ σ' .nils (.sl sz []) := by
  intro μ w0 w ow0 x hs hr
  simp only [Rep] at hr ⊢
  exact ⟨none, 0, by simpa using hr, by simp, .inl trivial⟩

theorem loadV_rp_encI (σ : Store) (l : List Int) : loadV σ false 1 (.rp (encI l)) = some (encI l) := rfl

theorem encI_cells (l : List Int) : (encI l).cells = [encI l] := rfl
theorem encI_stays (l : List Int) : (encI l).stays = true := rfl

/-- a row that is made, or none yet -/
def OutV (K σ : Store) (e sz : Nat) (v : V) (rows : List V) : Prop := (v = .nils ∧ rows = []) ∨ ∃ id, v = .own id 0 rows.length ∧ σ id = some ⟨e, sz, rows⟩ ∧ K id = none

set_option maxRecDepth 100000 in
theorem own_c (l : List Nd) (hl : l.length ≤ 10000 ∧ ∀ x ∈ l, x.words.length ≤ 1000000000) : PFun Try.prog 10 [encNs l] (encNs l) := fun σ => by
  obtain ⟨hl1, hl2⟩ := hl
  refine Contract.of_runs Try.func10 e10 k10 (by simp [c10]) ?_
  refine Runs.mix 6 ?_
  (refine Runs.of_step Orc.nothing 300 ?_; simp -implicitDefEqProofs only [s_r_nil, Ret_one, Ret_two, Ret_three, Ret_none, Ret_cell_one, Ret_cell_two, onSome_some, s_r_stop, s_r_inBlock, s_r_ops_nil, s_r_skip, s_r_seq, s_r_block, s_r_exit, exR_some, s_r_ret, s_r_loop, s_r_reg, s_r_dreg, s_d_nil, s_r_cond, cR_t, cR_f, cR_dec, s_r_ins, insR_0, insR_1, insR_2, insR_3, insR_4, callR_some, callR_none, callV_eq, callD_some, callD_none, contR_some, storeR_some, effR_some, s_d_ins, insD_0, insD_1, insD_2, insD_3, contD_some, storeD_some, effD_some, s_r_gins, gR_tup, gR_tt, gR_ff, gR_tf, gR_ft, gR_dec_t, gR_dec_f, s_d_gins, gD_tup, gD_tt, gD_ff, gD_tf, gD_ft, gD_dec_t, gD_dec_f, putO_nothing, putO_lo, putO_hi, mix_get, putO_some, putO_none, lit_t, lit_c, ev_t, ev_c, okind, vpre, vpure, binV_int, binV_str, binPre_int, binPre_str, intBin, intPre, strBin, strPre, popTo, argSlots, lenV_own, lenV_sl, lenV_nils, lenV_str, fldV, fldAV, subCells, idxAV_own, idxVV, idxAAV, idxSV, loadV_ptr, loadV_rp_agg, loadV_rp_int, sliceV, sliceSV, boundV, szIs, storeOp, storeS, setRowV, eff, extV, buildV, splice, eqSV, fitsL, eqCells, eqCell, minmaxV, binBV, nilCheckV, bytesV, V.cells, V.stays, upd_same, upd_upd, true_implies, false_implies, implies_true, keepS_eq, List.getD_cons_zero, List.getD_cons_succ, List.getD_nil, List.map_cons, List.map_nil, List.length_cons, List.length_nil, List.drop_succ_cons, List.drop_zero, List.take_succ_cons, List.take_zero, List.set_cons_zero, List.set_cons_succ, List.append_nil, List.nil_append, List.cons_append, List.all_cons, List.all_nil, List.getElem?_cons_zero, List.getElem?_cons_succ, List.contains_cons, List.contains_nil, Option.isSome_some, Option.map_some, Option.map_none, true_and, and_true, and_self, Int.reduceEq, Int.reduceNe, Int.reduceLT, Int.reduceLE, Int.reduceGT, Int.reduceGE, Nat.reduceEqDiff, Nat.reduceAdd, Nat.reduceMul, Nat.reduceLeDiff, Nat.reduceSub, Nat.reduceLT, Nat.reduceBEq, Nat.zero_add, Nat.add_zero, ↓reduceIte, reduceCtorEq, ← decide_not, Bool.not_true, Bool.not_false, Bool.false_eq_true, Bool.or_true, Bool.true_or, Bool.or_false, Bool.false_or, Bool.true_and, Bool.and_true, Bool.and_self, decide_true, decide_false, decide_eq_true_eq, Orc.nothing, c10])
  refine Runs.loop (fun m st => ∃ i : Nat, i ≤ l.length ∧ m = l.length - i ∧ SubStore σ st.σ ∧ OutV σ st.σ 28 20 (st.s 3) ((l.take i).map encN) ∧ st.s 0 = encNs l ∧ st.s 4 = vI i) l.length ?_ ?_
  · exact ⟨0, by omega, by omega, SubStore.refl σ, .inl ⟨rfl, rfl⟩, rfl, rfl⟩
  · rintro m ⟨s, σ'⟩ ⟨i, hi, rfl, hsub, hout, h0, h4⟩
    simp only at hsub hout h0 h4
    rcases hout with ⟨h3, hr0⟩ | ⟨id, h3, hrow, hnew⟩
    · refine Runs.mix 6 ?_
      (refine Runs.of_step Orc.nothing 30 ?_; simp -implicitDefEqProofs only [s_r_nil, Ret_one, Ret_two, Ret_three, Ret_none, Ret_cell_one, Ret_cell_two, onSome_some, s_r_stop, s_r_inBlock, s_r_ops_nil, s_r_skip, s_r_seq, s_r_block, s_r_exit, exR_some, s_r_ret, s_r_loop, s_r_reg, s_r_dreg, s_d_nil, s_r_cond, cR_t, cR_f, cR_dec, s_r_ins, insR_0, insR_1, insR_2, insR_3, insR_4, callR_some, callR_none, callV_eq, callD_some, callD_none, contR_some, storeR_some, s_d_ins, insD_0, insD_1, insD_2, insD_3, contD_some, storeD_some, s_r_gins, gR_tup, gR_tt, gR_ff, gR_tf, gR_ft, gR_dec_t, gR_dec_f, s_d_gins, gD_tup, gD_tt, gD_ff, gD_tf, gD_ft, gD_dec_t, gD_dec_f, putO_nothing, putO_lo, putO_hi, mix_get, putO_some, putO_none, lit_t, lit_c, ev_t, ev_c, okind, vpre, vpure, binV_int, binV_str, binPre_int, binPre_str, intBin, intPre, strBin, strPre, popTo, argSlots, lenV_own, lenV_sl, lenV_nils, lenV_str, fldV, fldAV, subCells, idxAV_own, idxVV, idxAAV, idxSV, loadV_ptr, loadV_rp_agg, loadV_rp_int, sliceV, sliceSV, boundV, szIs, storeOp, storeS, setRowV, eff, extV, buildV, splice, eqSV, fitsL, eqCells, eqCell, minmaxV, binBV, nilCheckV, bytesV, V.cells, V.stays, upd_same, upd_upd, true_implies, false_implies, implies_true, keepS_eq, List.getD_cons_zero, List.getD_cons_succ, List.getD_nil, List.map_cons, List.map_nil, List.length_cons, List.length_nil, List.drop_succ_cons, List.drop_zero, List.take_succ_cons, List.take_zero, List.set_cons_zero, List.set_cons_succ, List.append_nil, List.nil_append, List.cons_append, List.all_cons, List.all_nil, List.getElem?_cons_zero, List.getElem?_cons_succ, List.contains_cons, List.contains_nil, Option.isSome_some, Option.map_some, Option.map_none, true_and, and_true, and_self, Int.reduceEq, Int.reduceNe, Int.reduceLT, Int.reduceLE, Int.reduceGT, Int.reduceGE, Nat.reduceEqDiff, Nat.reduceAdd, Nat.reduceMul, Nat.reduceLeDiff, Nat.reduceSub, Nat.reduceLT, Nat.reduceBEq, Nat.zero_add, Nat.add_zero, ↓reduceIte, reduceCtorEq, ← decide_not, Bool.not_true, Bool.not_false, Bool.false_eq_true, Bool.or_true, Bool.true_or, Bool.or_false, Bool.false_or, Bool.true_and, Bool.and_true, Bool.and_self, decide_true, decide_false, decide_eq_true_eq, s_zero, Orc.nothing, h0, h3, h4, lenV_encNs])
      refine And.intro (fun hlt => ?_) (fun hge => ?_)
      · have hlt' : i < l.length := by omega
        have hxw : l[i].words.length ≤ 1000000000 := hl2 _ (List.getElem_mem hlt')
        have htk : (l.take (i + 1)).map encN = (l.take i).map encN ++ [encN l[i]] := by rw [List.take_succ_eq_append_getElem hlt', List.map_append]; rfl
        generalize hxe : l[i] = x at *
        simp -implicitDefEqProofs only [s_r_nil, Ret_one, Ret_two, Ret_three, Ret_none, Ret_cell_one, Ret_cell_two, onSome_some, s_r_stop, s_r_inBlock, s_r_ops_nil, s_r_skip, s_r_seq, s_r_block, s_r_exit, exR_some, s_r_ret, s_r_loop, s_r_reg, s_r_dreg, s_d_nil, s_r_cond, cR_t, cR_f, cR_dec, s_r_ins, insR_0, insR_1, insR_2, insR_3, insR_4, callR_some, callR_none, callV_eq, callD_some, callD_none, contR_some, storeR_some, s_d_ins, insD_0, insD_1, insD_2, insD_3, contD_some, storeD_some, s_r_gins, gR_tup, gR_tt, gR_ff, gR_tf, gR_ft, gR_dec_t, gR_dec_f, s_d_gins, gD_tup, gD_tt, gD_ff, gD_tf, gD_ft, gD_dec_t, gD_dec_f, putO_nothing, putO_lo, putO_hi, mix_get, putO_some, putO_none, lit_t, lit_c, ev_t, ev_c, okind, vpre, vpure, binV_int, binV_str, binPre_int, binPre_str, intBin, intPre, strBin, strPre, popTo, argSlots, lenV_own, lenV_sl, lenV_nils, lenV_str, fldV, fldAV, subCells, idxAV_own, idxVV, idxAAV, idxSV, loadV_ptr, loadV_rp_agg, loadV_rp_int, sliceV, sliceSV, boundV, szIs, storeOp, storeS, setRowV, eff, extV, buildV, splice, eqSV, fitsL, eqCells, eqCell, minmaxV, binBV, nilCheckV, bytesV, V.cells, V.stays, upd_same, upd_upd, true_implies, false_implies, implies_true, keepS_eq, List.getD_cons_zero, List.getD_cons_succ, List.getD_nil, List.map_cons, List.map_nil, List.length_cons, List.length_nil, List.drop_succ_cons, List.drop_zero, List.take_succ_cons, List.take_zero, List.set_cons_zero, List.set_cons_succ, List.append_nil, List.nil_append, List.cons_append, List.all_cons, List.all_nil, List.getElem?_cons_zero, List.getElem?_cons_succ, List.contains_cons, List.contains_nil, Option.isSome_some, Option.map_some, Option.map_none, true_and, and_true, and_self, Int.reduceEq, Int.reduceNe, Int.reduceLT, Int.reduceLE, Int.reduceGT, Int.reduceGE, Nat.reduceEqDiff, Nat.reduceAdd, Nat.reduceMul, Nat.reduceLeDiff, Nat.reduceSub, Nat.reduceLT, Nat.reduceBEq, Nat.zero_add, Nat.add_zero, ↓reduceIte, reduceCtorEq, ← decide_not, Bool.not_true, Bool.not_false, Bool.false_eq_true, Bool.or_true, Bool.true_or, Bool.or_false, Bool.false_or, Bool.true_and, Bool.and_true, Bool.and_self, decide_true, decide_false, decide_eq_true_eq, idxAV_encNs hlt', hxe, Nd.cells, h0, h3, h4, s_zero]
        refine effR_new fun id5 σ1 s1 a5 f5 => ?_
        simp -implicitDefEqProofs only [s_r_nil, Ret_one, Ret_two, Ret_three, Ret_none, Ret_cell_one, Ret_cell_two, onSome_some, s_r_stop, s_r_inBlock, s_r_ops_nil, s_r_skip, s_r_seq, s_r_block, s_r_exit, exR_some, s_r_ret, s_r_loop, s_r_reg, s_r_dreg, s_d_nil, s_r_cond, cR_t, cR_f, cR_dec, s_r_ins, insR_0, insR_1, insR_2, insR_3, insR_4, callR_some, callR_none, callV_eq, callD_some, callD_none, contR_some, storeR_some, s_d_ins, insD_0, insD_1, insD_2, insD_3, contD_some, storeD_some, s_r_gins, gR_tup, gR_tt, gR_ff, gR_tf, gR_ft, gR_dec_t, gR_dec_f, s_d_gins, gD_tup, gD_tt, gD_ff, gD_tf, gD_ft, gD_dec_t, gD_dec_f, putO_nothing, putO_lo, putO_hi, mix_get, putO_some, putO_none, lit_t, lit_c, ev_t, ev_c, okind, vpre, vpure, binV_int, binV_str, binPre_int, binPre_str, intBin, intPre, strBin, strPre, popTo, argSlots, lenV_own, lenV_sl, lenV_nils, lenV_str, fldV, fldAV, subCells, idxAV_own, idxVV, idxAAV, idxSV, loadV_ptr, loadV_rp_agg, loadV_rp_int, sliceV, sliceSV, boundV, szIs, storeOp, storeS, setRowV, eff, extV, buildV, splice, eqSV, fitsL, eqCells, eqCell, minmaxV, binBV, nilCheckV, bytesV, V.cells, V.stays, upd_same, upd_upd, true_implies, false_implies, implies_true, keepS_eq, List.getD_cons_zero, List.getD_cons_succ, List.getD_nil, List.map_cons, List.map_nil, List.length_cons, List.length_nil, List.drop_succ_cons, List.drop_zero, List.take_succ_cons, List.take_zero, List.set_cons_zero, List.set_cons_succ, List.append_nil, List.nil_append, List.cons_append, List.all_cons, List.all_nil, List.getElem?_cons_zero, List.getElem?_cons_succ, List.contains_cons, List.contains_nil, Option.isSome_some, Option.map_some, Option.map_none, true_and, and_true, and_self, Int.reduceEq, Int.reduceNe, Int.reduceLT, Int.reduceLE, Int.reduceGT, Int.reduceGE, Nat.reduceEqDiff, Nat.reduceAdd, Nat.reduceMul, Nat.reduceLeDiff, Nat.reduceSub, Nat.reduceLT, Nat.reduceBEq, Nat.zero_add, Nat.add_zero, ↓reduceIte, reduceCtorEq, ← decide_not, Bool.not_true, Bool.not_false, Bool.false_eq_true, Bool.or_true, Bool.true_or, Bool.or_false, Bool.false_or, Bool.true_and, Bool.and_true, Bool.and_self, decide_true, decide_false, decide_eq_true_eq, a5, h0, h3, h4, s_zero]
        refine effR_new fun id16 σ2 s2 a16 f16 => ?_
        have a5 := s2 id5 _ upd_same
        have n5 : id5 ≠ id16 := by rintro rfl; rw [upd_same] at f16; cases f16
        have hs : srcRows σ2 1 (encI x.words) = some (x.words.map vI) := by simp [encI, srcRows]
        have hd : dstRows σ2 3 1 (.own id16 0 0) = some ([], some id16) := by
          simp only [dstRows, a16]
          rw [if_pos (by simp)]
          simp
        have hb : x.words.length * 9 ≤ 140737488355328 := by omega
        simp -implicitDefEqProofs only [s_r_nil, Ret_one, Ret_two, Ret_three, Ret_none, Ret_cell_one, Ret_cell_two, onSome_some, s_r_stop, s_r_inBlock, s_r_ops_nil, s_r_skip, s_r_seq, s_r_block, s_r_exit, exR_some, s_r_ret, s_r_loop, s_r_reg, s_r_dreg, s_d_nil, s_r_cond, cR_t, cR_f, cR_dec, s_r_ins, insR_0, insR_1, insR_2, insR_3, insR_4, callR_some, callR_none, callV_eq, callD_some, callD_none, contR_some, storeR_some, s_d_ins, insD_0, insD_1, insD_2, insD_3, contD_some, storeD_some, s_r_gins, gR_tup, gR_tt, gR_ff, gR_tf, gR_ft, gR_dec_t, gR_dec_f, s_d_gins, gD_tup, gD_tt, gD_ff, gD_tf, gD_ft, gD_dec_t, gD_dec_f, putO_nothing, putO_lo, putO_hi, mix_get, putO_some, putO_none, lit_t, lit_c, ev_t, ev_c, okind, vpre, vpure, binV_int, binV_str, binPre_int, binPre_str, intBin, intPre, strBin, strPre, popTo, argSlots, lenV_own, lenV_sl, lenV_nils, lenV_str, fldV, fldAV, subCells, idxAV_own, idxVV, idxAAV, idxSV, loadV_ptr, loadV_rp_agg, loadV_rp_int, sliceV, sliceSV, boundV, szIs, storeOp, storeS, setRowV, eff, extV, buildV, splice, eqSV, fitsL, eqCells, eqCell, minmaxV, binBV, nilCheckV, bytesV, V.cells, V.stays, upd_same, upd_upd, true_implies, false_implies, implies_true, keepS_eq, List.getD_cons_zero, List.getD_cons_succ, List.getD_nil, List.map_cons, List.map_nil, List.length_cons, List.length_nil, List.drop_succ_cons, List.drop_zero, List.take_succ_cons, List.take_zero, List.set_cons_zero, List.set_cons_succ, List.append_nil, List.nil_append, List.cons_append, List.all_cons, List.all_nil, List.getElem?_cons_zero, List.getElem?_cons_succ, List.contains_cons, List.contains_nil, Option.isSome_some, Option.map_some, Option.map_none, true_and, and_true, and_self, Int.reduceEq, Int.reduceNe, Int.reduceLT, Int.reduceLE, Int.reduceGT, Int.reduceGE, Nat.reduceEqDiff, Nat.reduceAdd, Nat.reduceMul, Nat.reduceLeDiff, Nat.reduceSub, Nat.reduceLT, Nat.reduceBEq, Nat.zero_add, Nat.add_zero, ↓reduceIte, reduceCtorEq, ← decide_not, Bool.not_true, Bool.not_false, Bool.false_eq_true, Bool.or_true, Bool.true_or, Bool.or_false, Bool.false_or, Bool.true_and, Bool.and_true, Bool.and_self, decide_true, decide_false, decide_eq_true_eq, idxAV_encNs hlt', hxe, loadV_rp_encI, Nd.cells, hs, hd, hb, delO, List.length_map, Nat.zero_add, h0, h3, h4, s_zero]
        refine effR_app fun id22 σ3 s3 a22 f22 => ?_
        have a5 := s3 id5 _ (by rw [del_ne n5]; exact a5)
        have n522 : id5 ≠ id22 := by rintro rfl; rw [s2 id5 _ upd_same] at f22; cases f22
        simp -implicitDefEqProofs only [s_r_nil, Ret_one, Ret_two, Ret_three, Ret_none, Ret_cell_one, Ret_cell_two, onSome_some, s_r_stop, s_r_inBlock, s_r_ops_nil, s_r_skip, s_r_seq, s_r_block, s_r_exit, exR_some, s_r_ret, s_r_loop, s_r_reg, s_r_dreg, s_d_nil, s_r_cond, cR_t, cR_f, cR_dec, s_r_ins, insR_0, insR_1, insR_2, insR_3, insR_4, callR_some, callR_none, callV_eq, callD_some, callD_none, contR_some, storeR_some, s_d_ins, insD_0, insD_1, insD_2, insD_3, contD_some, storeD_some, s_r_gins, gR_tup, gR_tt, gR_ff, gR_tf, gR_ft, gR_dec_t, gR_dec_f, s_d_gins, gD_tup, gD_tt, gD_ff, gD_tf, gD_ft, gD_dec_t, gD_dec_f, putO_nothing, putO_lo, putO_hi, mix_get, putO_some, putO_none, lit_t, lit_c, ev_t, ev_c, okind, vpre, vpure, binV_int, binV_str, binPre_int, binPre_str, intBin, intPre, strBin, strPre, popTo, argSlots, lenV_own, lenV_sl, lenV_nils, lenV_str, fldV, fldAV, subCells, idxAV_own, idxVV, idxAAV, idxSV, loadV_ptr, loadV_rp_agg, loadV_rp_int, sliceV, sliceSV, boundV, szIs, storeOp, storeS, setRowV, eff, extV, buildV, splice, eqSV, fitsL, eqCells, eqCell, minmaxV, binBV, nilCheckV, bytesV, V.cells, V.stays, upd_same, upd_upd, true_implies, false_implies, implies_true, keepS_eq, List.getD_cons_zero, List.getD_cons_succ, List.getD_nil, List.map_cons, List.map_nil, List.length_cons, List.length_nil, List.drop_succ_cons, List.drop_zero, List.take_succ_cons, List.take_zero, List.set_cons_zero, List.set_cons_succ, List.append_nil, List.nil_append, List.cons_append, List.all_cons, List.all_nil, List.getElem?_cons_zero, List.getElem?_cons_succ, List.contains_cons, List.contains_nil, Option.isSome_some, Option.map_some, Option.map_none, true_and, and_true, and_self, Int.reduceEq, Int.reduceNe, Int.reduceLT, Int.reduceLE, Int.reduceGT, Int.reduceGE, Nat.reduceEqDiff, Nat.reduceAdd, Nat.reduceMul, Nat.reduceLeDiff, Nat.reduceSub, Nat.reduceLT, Nat.reduceBEq, Nat.zero_add, Nat.add_zero, ↓reduceIte, reduceCtorEq, ← decide_not, Bool.not_true, Bool.not_false, Bool.false_eq_true, Bool.or_true, Bool.true_or, Bool.or_false, Bool.false_or, Bool.true_and, Bool.and_true, Bool.and_self, decide_true, decide_false, decide_eq_true_eq, s_zero]
        refine Runs.freeze [0, 3, 4, 5] 22 id22 0 x.words.length (SubStore.of_del σ3 id22) a22 (by simp [del]) rfl (by simp) ?_
        have a5' : del σ3 id22 id5 = _ := (del_ne n522).trans a5
        have hfold : List.take x.words.length (List.map vI x.words) = List.map vI x.words := List.take_of_length_le (by simp)
        have hs3 : SubStore σ (del σ3 id22) := (((((hsub.trans s1).updK (hsub.none f5)).trans s2).delK ((hsub.trans s1).updK (hsub.none f5) |>.none f16)).trans s3).delK (((hsub.trans s1).updK (hsub.none f5)).trans s2 |>.none f22)
        (refine Runs.of_step Orc.nothing 300 ?_; simp -implicitDefEqProofs only [s_r_nil, Ret_one, Ret_two, Ret_three, Ret_none, Ret_cell_one, Ret_cell_two, onSome_some, s_r_stop, s_r_inBlock, s_r_ops_nil, s_r_skip, s_r_seq, s_r_block, s_r_exit, exR_some, s_r_ret, s_r_loop, s_r_reg, s_r_dreg, s_d_nil, s_r_cond, cR_t, cR_f, cR_dec, s_r_ins, insR_0, insR_1, insR_2, insR_3, insR_4, callR_some, callR_none, callV_eq, callD_some, callD_none, contR_some, storeR_some, s_d_ins, insD_0, insD_1, insD_2, insD_3, contD_some, storeD_some, s_r_gins, gR_tup, gR_tt, gR_ff, gR_tf, gR_ft, gR_dec_t, gR_dec_f, s_d_gins, gD_tup, gD_tt, gD_ff, gD_tf, gD_ft, gD_dec_t, gD_dec_f, putO_nothing, putO_lo, putO_hi, mix_get, putO_some, putO_none, lit_t, lit_c, ev_t, ev_c, okind, vpre, vpure, binV_int, binV_str, binPre_int, binPre_str, intBin, intPre, strBin, strPre, popTo, argSlots, lenV_own, lenV_sl, lenV_nils, lenV_str, fldV, fldAV, subCells, idxAV_own, idxVV, idxAAV, idxSV, loadV_ptr, loadV_rp_agg, loadV_rp_int, sliceV, sliceSV, boundV, szIs, storeOp, storeS, setRowV, eff, extV, buildV, splice, eqSV, fitsL, eqCells, eqCell, minmaxV, binBV, nilCheckV, bytesV, V.cells, V.stays, upd_same, upd_upd, true_implies, false_implies, implies_true, keepS_eq, List.getD_cons_zero, List.getD_cons_succ, List.getD_nil, List.map_cons, List.map_nil, List.length_cons, List.length_nil, List.drop_succ_cons, List.drop_zero, List.take_succ_cons, List.take_zero, List.set_cons_zero, List.set_cons_succ, List.append_nil, List.nil_append, List.cons_append, List.all_cons, List.all_nil, List.getElem?_cons_zero, List.getElem?_cons_succ, List.contains_cons, List.contains_nil, Option.isSome_some, Option.map_some, Option.map_none, true_and, and_true, and_self, Int.reduceEq, Int.reduceNe, Int.reduceLT, Int.reduceLE, Int.reduceGT, Int.reduceGE, Nat.reduceEqDiff, Nat.reduceAdd, Nat.reduceMul, Nat.reduceLeDiff, Nat.reduceSub, Nat.reduceLT, Nat.reduceBEq, Nat.zero_add, Nat.add_zero, ↓reduceIte, reduceCtorEq, ← decide_not, Bool.not_true, Bool.not_false, Bool.false_eq_true, Bool.or_true, Bool.true_or, Bool.or_false, Bool.false_or, Bool.true_and, Bool.and_true, Bool.and_self, decide_true, decide_false, decide_eq_true_eq, Orc.nothing, a5', hfold, h0, h3, h4])
        refine effR_new fun id26 σ4 s4 a26 f26 => ?_
        have hs2 : srcRows σ4 20 (.own id26 0 1) = some [encN x] := by
          simp only [srcRows, a26]
          rw [if_pos (by simp)]
          simp [encN, Nd.cells, encI]
        have hs4 := (hs3.updK (hsub.none f5)).trans s4
        have hd2 : dstRows σ4 28 20 .nils = some ([], none) := rfl
        simp -implicitDefEqProofs only [s_r_nil, Ret_one, Ret_two, Ret_three, Ret_none, Ret_cell_one, Ret_cell_two, onSome_some, s_r_stop, s_r_inBlock, s_r_ops_nil, s_r_skip, s_r_seq, s_r_block, s_r_exit, exR_some, s_r_ret, s_r_loop, s_r_reg, s_r_dreg, s_d_nil, s_r_cond, cR_t, cR_f, cR_dec, s_r_ins, insR_0, insR_1, insR_2, insR_3, insR_4, callR_some, callR_none, callV_eq, callD_some, callD_none, contR_some, storeR_some, s_d_ins, insD_0, insD_1, insD_2, insD_3, contD_some, storeD_some, s_r_gins, gR_tup, gR_tt, gR_ff, gR_tf, gR_ft, gR_dec_t, gR_dec_f, s_d_gins, gD_tup, gD_tt, gD_ff, gD_tf, gD_ft, gD_dec_t, gD_dec_f, putO_nothing, putO_lo, putO_hi, mix_get, putO_some, putO_none, lit_t, lit_c, ev_t, ev_c, okind, vpre, vpure, binV_int, binV_str, binPre_int, binPre_str, intBin, intPre, strBin, strPre, popTo, argSlots, lenV_own, lenV_sl, lenV_nils, lenV_str, fldV, fldAV, subCells, idxAV_own, idxVV, idxAAV, idxSV, loadV_ptr, loadV_rp_agg, loadV_rp_int, sliceV, sliceSV, boundV, szIs, storeOp, storeS, setRowV, eff, extV, buildV, splice, eqSV, fitsL, eqCells, eqCell, minmaxV, binBV, nilCheckV, bytesV, V.cells, V.stays, upd_same, upd_upd, true_implies, false_implies, implies_true, keepS_eq, List.getD_cons_zero, List.getD_cons_succ, List.getD_nil, List.map_cons, List.map_nil, List.length_cons, List.length_nil, List.drop_succ_cons, List.drop_zero, List.take_succ_cons, List.take_zero, List.set_cons_zero, List.set_cons_succ, List.append_nil, List.nil_append, List.cons_append, List.all_cons, List.all_nil, List.getElem?_cons_zero, List.getElem?_cons_succ, List.contains_cons, List.contains_nil, Option.isSome_some, Option.map_some, Option.map_none, true_and, and_true, and_self, Int.reduceEq, Int.reduceNe, Int.reduceLT, Int.reduceLE, Int.reduceGT, Int.reduceGE, Nat.reduceEqDiff, Nat.reduceAdd, Nat.reduceMul, Nat.reduceLeDiff, Nat.reduceSub, Nat.reduceLT, Nat.reduceBEq, Nat.zero_add, Nat.add_zero, ↓reduceIte, reduceCtorEq, ← decide_not, Bool.not_true, Bool.not_false, Bool.false_eq_true, Bool.or_true, Bool.true_or, Bool.or_false, Bool.false_or, Bool.true_and, Bool.and_true, Bool.and_self, decide_true, decide_false, decide_eq_true_eq, hs2, hd2, delO, Nat.reduceLeDiff, h0, h3, h4]
        refine effR_new fun id27 σ5 s5 a27 f27 => ?_
        simp -implicitDefEqProofs only [s_r_nil, Ret_one, Ret_two, Ret_three, Ret_none, Ret_cell_one, Ret_cell_two, onSome_some, s_r_stop, s_r_inBlock, s_r_ops_nil, s_r_skip, s_r_seq, s_r_block, s_r_exit, exR_some, s_r_ret, s_r_loop, s_r_reg, s_r_dreg, s_d_nil, s_r_cond, cR_t, cR_f, cR_dec, s_r_ins, insR_0, insR_1, insR_2, insR_3, insR_4, callR_some, callR_none, callV_eq, callD_some, callD_none, contR_some, storeR_some, s_d_ins, insD_0, insD_1, insD_2, insD_3, contD_some, storeD_some, s_r_gins, gR_tup, gR_tt, gR_ff, gR_tf, gR_ft, gR_dec_t, gR_dec_f, s_d_gins, gD_tup, gD_tt, gD_ff, gD_tf, gD_ft, gD_dec_t, gD_dec_f, putO_nothing, putO_lo, putO_hi, mix_get, putO_some, putO_none, lit_t, lit_c, ev_t, ev_c, okind, vpre, vpure, binV_int, binV_str, binPre_int, binPre_str, intBin, intPre, strBin, strPre, popTo, argSlots, lenV_own, lenV_sl, lenV_nils, lenV_str, fldV, fldAV, subCells, idxAV_own, idxVV, idxAAV, idxSV, loadV_ptr, loadV_rp_agg, loadV_rp_int, sliceV, sliceSV, boundV, szIs, storeOp, storeS, setRowV, eff, extV, buildV, splice, eqSV, fitsL, eqCells, eqCell, minmaxV, binBV, nilCheckV, bytesV, V.cells, V.stays, upd_same, upd_upd, true_implies, false_implies, implies_true, keepS_eq, List.getD_cons_zero, List.getD_cons_succ, List.getD_nil, List.map_cons, List.map_nil, List.length_cons, List.length_nil, List.drop_succ_cons, List.drop_zero, List.take_succ_cons, List.take_zero, List.set_cons_zero, List.set_cons_succ, List.append_nil, List.nil_append, List.cons_append, List.all_cons, List.all_nil, List.getElem?_cons_zero, List.getElem?_cons_succ, List.contains_cons, List.contains_nil, Option.isSome_some, Option.map_some, Option.map_none, true_and, and_true, and_self, Int.reduceEq, Int.reduceNe, Int.reduceLT, Int.reduceLE, Int.reduceGT, Int.reduceGE, Nat.reduceEqDiff, Nat.reduceAdd, Nat.reduceMul, Nat.reduceLeDiff, Nat.reduceSub, Nat.reduceLT, Nat.reduceBEq, Nat.zero_add, Nat.add_zero, ↓reduceIte, reduceCtorEq, ← decide_not, Bool.not_true, Bool.not_false, Bool.false_eq_true, Bool.or_true, Bool.true_or, Bool.or_false, Bool.false_or, Bool.true_and, Bool.and_true, Bool.and_self, decide_true, decide_false, decide_eq_true_eq, h0, h3, h4]
        refine ⟨inR_i64 (by omega) (by omega), _, ?_, i + 1, by omega, rfl, hs4.trans s5, .inr ⟨id27, ?_, ?_, hs4.none f27⟩, by simp⟩
        · omega
        · rw [htk, hr0]; rfl
        · rw [htk, hr0, a27]; rfl
      · have hie : i = l.length := by omega
        subst hie
        rw [List.take_length] at hr0
        refine ⟨_, σ, hsub, Wk.nils 20, ?_, rfl⟩
        rw [encNs, hr0]
    · have hln : (l.take i).length = i := by simp; omega
      have hln2 : ((l.take i).map encN).length = i := by simpa using hln
      rw [hln2] at h3
      refine Runs.mix 6 ?_
      (refine Runs.of_step Orc.nothing 30 ?_; simp -implicitDefEqProofs only [s_r_nil, Ret_one, Ret_two, Ret_three, Ret_none, Ret_cell_one, Ret_cell_two, onSome_some, s_r_stop, s_r_inBlock, s_r_ops_nil, s_r_skip, s_r_seq, s_r_block, s_r_exit, exR_some, s_r_ret, s_r_loop, s_r_reg, s_r_dreg, s_d_nil, s_r_cond, cR_t, cR_f, cR_dec, s_r_ins, insR_0, insR_1, insR_2, insR_3, insR_4, callR_some, callR_none, callV_eq, callD_some, callD_none, contR_some, storeR_some, s_d_ins, insD_0, insD_1, insD_2, insD_3, contD_some, storeD_some, s_r_gins, gR_tup, gR_tt, gR_ff, gR_tf, gR_ft, gR_dec_t, gR_dec_f, s_d_gins, gD_tup, gD_tt, gD_ff, gD_tf, gD_ft, gD_dec_t, gD_dec_f, putO_nothing, putO_lo, putO_hi, mix_get, putO_some, putO_none, lit_t, lit_c, ev_t, ev_c, okind, vpre, vpure, binV_int, binV_str, binPre_int, binPre_str, intBin, intPre, strBin, strPre, popTo, argSlots, lenV_own, lenV_sl, lenV_nils, lenV_str, fldV, fldAV, subCells, idxAV_own, idxVV, idxAAV, idxSV, loadV_ptr, loadV_rp_agg, loadV_rp_int, sliceV, sliceSV, boundV, szIs, storeOp, storeS, setRowV, eff, extV, buildV, splice, eqSV, fitsL, eqCells, eqCell, minmaxV, binBV, nilCheckV, bytesV, V.cells, V.stays, upd_same, upd_upd, true_implies, false_implies, implies_true, keepS_eq, List.getD_cons_zero, List.getD_cons_succ, List.getD_nil, List.map_cons, List.map_nil, List.length_cons, List.length_nil, List.drop_succ_cons, List.drop_zero, List.take_succ_cons, List.take_zero, List.set_cons_zero, List.set_cons_succ, List.append_nil, List.nil_append, List.cons_append, List.all_cons, List.all_nil, List.getElem?_cons_zero, List.getElem?_cons_succ, List.contains_cons, List.contains_nil, Option.isSome_some, Option.map_some, Option.map_none, true_and, and_true, and_self, Int.reduceEq, Int.reduceNe, Int.reduceLT, Int.reduceLE, Int.reduceGT, Int.reduceGE, Nat.reduceEqDiff, Nat.reduceAdd, Nat.reduceMul, Nat.reduceLeDiff, Nat.reduceSub, Nat.reduceLT, Nat.reduceBEq, Nat.zero_add, Nat.add_zero, ↓reduceIte, reduceCtorEq, ← decide_not, Bool.not_true, Bool.not_false, Bool.false_eq_true, Bool.or_true, Bool.true_or, Bool.or_false, Bool.false_or, Bool.true_and, Bool.and_true, Bool.and_self, decide_true, decide_false, decide_eq_true_eq, s_zero, Orc.nothing, h0, h3, h4, lenV_encNs])
      refine And.intro (fun hlt => ?_) (fun hge => ?_)
      · have hlt' : i < l.length := by omega
        have hxw : l[i].words.length ≤ 1000000000 := hl2 _ (List.getElem_mem hlt')
        have htk : (l.take (i + 1)).map encN = (l.take i).map encN ++ [encN l[i]] := by rw [List.take_succ_eq_append_getElem hlt', List.map_append]; rfl
        have hidlen : i ≤ 1000000000 := by omega
        generalize hxe : l[i] = x at *
        simp -implicitDefEqProofs only [s_r_nil, Ret_one, Ret_two, Ret_three, Ret_none, Ret_cell_one, Ret_cell_two, onSome_some, s_r_stop, s_r_inBlock, s_r_ops_nil, s_r_skip, s_r_seq, s_r_block, s_r_exit, exR_some, s_r_ret, s_r_loop, s_r_reg, s_r_dreg, s_d_nil, s_r_cond, cR_t, cR_f, cR_dec, s_r_ins, insR_0, insR_1, insR_2, insR_3, insR_4, callR_some, callR_none, callV_eq, callD_some, callD_none, contR_some, storeR_some, s_d_ins, insD_0, insD_1, insD_2, insD_3, contD_some, storeD_some, s_r_gins, gR_tup, gR_tt, gR_ff, gR_tf, gR_ft, gR_dec_t, gR_dec_f, s_d_gins, gD_tup, gD_tt, gD_ff, gD_tf, gD_ft, gD_dec_t, gD_dec_f, putO_nothing, putO_lo, putO_hi, mix_get, putO_some, putO_none, lit_t, lit_c, ev_t, ev_c, okind, vpre, vpure, binV_int, binV_str, binPre_int, binPre_str, intBin, intPre, strBin, strPre, popTo, argSlots, lenV_own, lenV_sl, lenV_nils, lenV_str, fldV, fldAV, subCells, idxAV_own, idxVV, idxAAV, idxSV, loadV_ptr, loadV_rp_agg, loadV_rp_int, sliceV, sliceSV, boundV, szIs, storeOp, storeS, setRowV, eff, extV, buildV, splice, eqSV, fitsL, eqCells, eqCell, minmaxV, binBV, nilCheckV, bytesV, V.cells, V.stays, upd_same, upd_upd, true_implies, false_implies, implies_true, keepS_eq, List.getD_cons_zero, List.getD_cons_succ, List.getD_nil, List.map_cons, List.map_nil, List.length_cons, List.length_nil, List.drop_succ_cons, List.drop_zero, List.take_succ_cons, List.take_zero, List.set_cons_zero, List.set_cons_succ, List.append_nil, List.nil_append, List.cons_append, List.all_cons, List.all_nil, List.getElem?_cons_zero, List.getElem?_cons_succ, List.contains_cons, List.contains_nil, Option.isSome_some, Option.map_some, Option.map_none, true_and, and_true, and_self, Int.reduceEq, Int.reduceNe, Int.reduceLT, Int.reduceLE, Int.reduceGT, Int.reduceGE, Nat.reduceEqDiff, Nat.reduceAdd, Nat.reduceMul, Nat.reduceLeDiff, Nat.reduceSub, Nat.reduceLT, Nat.reduceBEq, Nat.zero_add, Nat.add_zero, ↓reduceIte, reduceCtorEq, ← decide_not, Bool.not_true, Bool.not_false, Bool.false_eq_true, Bool.or_true, Bool.true_or, Bool.or_false, Bool.false_or, Bool.true_and, Bool.and_true, Bool.and_self, decide_true, decide_false, decide_eq_true_eq, idxAV_encNs hlt', hxe, Nd.cells, h0, h3, h4, s_zero]
        refine effR_new fun id5 σ1 s1 a5 f5 => ?_
        simp -implicitDefEqProofs only [s_r_nil, Ret_one, Ret_two, Ret_three, Ret_none, Ret_cell_one, Ret_cell_two, onSome_some, s_r_stop, s_r_inBlock, s_r_ops_nil, s_r_skip, s_r_seq, s_r_block, s_r_exit, exR_some, s_r_ret, s_r_loop, s_r_reg, s_r_dreg, s_d_nil, s_r_cond, cR_t, cR_f, cR_dec, s_r_ins, insR_0, insR_1, insR_2, insR_3, insR_4, callR_some, callR_none, callV_eq, callD_some, callD_none, contR_some, storeR_some, s_d_ins, insD_0, insD_1, insD_2, insD_3, contD_some, storeD_some, s_r_gins, gR_tup, gR_tt, gR_ff, gR_tf, gR_ft, gR_dec_t, gR_dec_f, s_d_gins, gD_tup, gD_tt, gD_ff, gD_tf, gD_ft, gD_dec_t, gD_dec_f, putO_nothing, putO_lo, putO_hi, mix_get, putO_some, putO_none, lit_t, lit_c, ev_t, ev_c, okind, vpre, vpure, binV_int, binV_str, binPre_int, binPre_str, intBin, intPre, strBin, strPre, popTo, argSlots, lenV_own, lenV_sl, lenV_nils, lenV_str, fldV, fldAV, subCells, idxAV_own, idxVV, idxAAV, idxSV, loadV_ptr, loadV_rp_agg, loadV_rp_int, sliceV, sliceSV, boundV, szIs, storeOp, storeS, setRowV, eff, extV, buildV, splice, eqSV, fitsL, eqCells, eqCell, minmaxV, binBV, nilCheckV, bytesV, V.cells, V.stays, upd_same, upd_upd, true_implies, false_implies, implies_true, keepS_eq, List.getD_cons_zero, List.getD_cons_succ, List.getD_nil, List.map_cons, List.map_nil, List.length_cons, List.length_nil, List.drop_succ_cons, List.drop_zero, List.take_succ_cons, List.take_zero, List.set_cons_zero, List.set_cons_succ, List.append_nil, List.nil_append, List.cons_append, List.all_cons, List.all_nil, List.getElem?_cons_zero, List.getElem?_cons_succ, List.contains_cons, List.contains_nil, Option.isSome_some, Option.map_some, Option.map_none, true_and, and_true, and_self, Int.reduceEq, Int.reduceNe, Int.reduceLT, Int.reduceLE, Int.reduceGT, Int.reduceGE, Nat.reduceEqDiff, Nat.reduceAdd, Nat.reduceMul, Nat.reduceLeDiff, Nat.reduceSub, Nat.reduceLT, Nat.reduceBEq, Nat.zero_add, Nat.add_zero, ↓reduceIte, reduceCtorEq, ← decide_not, Bool.not_true, Bool.not_false, Bool.false_eq_true, Bool.or_true, Bool.true_or, Bool.or_false, Bool.false_or, Bool.true_and, Bool.and_true, Bool.and_self, decide_true, decide_false, decide_eq_true_eq, a5, h0, h3, h4, s_zero]
        refine effR_new fun id16 σ2 s2 a16 f16 => ?_
        have a5 := s2 id5 _ upd_same
        have n5 : id5 ≠ id16 := by rintro rfl; rw [upd_same] at f16; cases f16
        have hs : srcRows σ2 1 (encI x.words) = some (x.words.map vI) := by simp [encI, srcRows]
        have hd : dstRows σ2 3 1 (.own id16 0 0) = some ([], some id16) := by
          simp only [dstRows, a16]
          rw [if_pos (by simp)]
          simp
        have hb : x.words.length * 9 ≤ 140737488355328 := by omega
        simp -implicitDefEqProofs only [s_r_nil, Ret_one, Ret_two, Ret_three, Ret_none, Ret_cell_one, Ret_cell_two, onSome_some, s_r_stop, s_r_inBlock, s_r_ops_nil, s_r_skip, s_r_seq, s_r_block, s_r_exit, exR_some, s_r_ret, s_r_loop, s_r_reg, s_r_dreg, s_d_nil, s_r_cond, cR_t, cR_f, cR_dec, s_r_ins, insR_0, insR_1, insR_2, insR_3, insR_4, callR_some, callR_none, callV_eq, callD_some, callD_none, contR_some, storeR_some, s_d_ins, insD_0, insD_1, insD_2, insD_3, contD_some, storeD_some, s_r_gins, gR_tup, gR_tt, gR_ff, gR_tf, gR_ft, gR_dec_t, gR_dec_f, s_d_gins, gD_tup, gD_tt, gD_ff, gD_tf, gD_ft, gD_dec_t, gD_dec_f, putO_nothing, putO_lo, putO_hi, mix_get, putO_some, putO_none, lit_t, lit_c, ev_t, ev_c, okind, vpre, vpure, binV_int, binV_str, binPre_int, binPre_str, intBin, intPre, strBin, strPre, popTo, argSlots, lenV_own, lenV_sl, lenV_nils, lenV_str, fldV, fldAV, subCells, idxAV_own, idxVV, idxAAV, idxSV, loadV_ptr, loadV_rp_agg, loadV_rp_int, sliceV, sliceSV, boundV, szIs, storeOp, storeS, setRowV, eff, extV, buildV, splice, eqSV, fitsL, eqCells, eqCell, minmaxV, binBV, nilCheckV, bytesV, V.cells, V.stays, upd_same, upd_upd, true_implies, false_implies, implies_true, keepS_eq, List.getD_cons_zero, List.getD_cons_succ, List.getD_nil, List.map_cons, List.map_nil, List.length_cons, List.length_nil, List.drop_succ_cons, List.drop_zero, List.take_succ_cons, List.take_zero, List.set_cons_zero, List.set_cons_succ, List.append_nil, List.nil_append, List.cons_append, List.all_cons, List.all_nil, List.getElem?_cons_zero, List.getElem?_cons_succ, List.contains_cons, List.contains_nil, Option.isSome_some, Option.map_some, Option.map_none, true_and, and_true, and_self, Int.reduceEq, Int.reduceNe, Int.reduceLT, Int.reduceLE, Int.reduceGT, Int.reduceGE, Nat.reduceEqDiff, Nat.reduceAdd, Nat.reduceMul, Nat.reduceLeDiff, Nat.reduceSub, Nat.reduceLT, Nat.reduceBEq, Nat.zero_add, Nat.add_zero, ↓reduceIte, reduceCtorEq, ← decide_not, Bool.not_true, Bool.not_false, Bool.false_eq_true, Bool.or_true, Bool.true_or, Bool.or_false, Bool.false_or, Bool.true_and, Bool.and_true, Bool.and_self, decide_true, decide_false, decide_eq_true_eq, idxAV_encNs hlt', hxe, loadV_rp_encI, Nd.cells, hs, hd, hb, delO, List.length_map, Nat.zero_add, h0, h3, h4, s_zero]
        refine effR_app fun id22 σ3 s3 a22 f22 => ?_
        have a5 := s3 id5 _ (by rw [del_ne n5]; exact a5)
        have n522 : id5 ≠ id22 := by rintro rfl; rw [s2 id5 _ upd_same] at f22; cases f22
        simp -implicitDefEqProofs only [s_r_nil, Ret_one, Ret_two, Ret_three, Ret_none, Ret_cell_one, Ret_cell_two, onSome_some, s_r_stop, s_r_inBlock, s_r_ops_nil, s_r_skip, s_r_seq, s_r_block, s_r_exit, exR_some, s_r_ret, s_r_loop, s_r_reg, s_r_dreg, s_d_nil, s_r_cond, cR_t, cR_f, cR_dec, s_r_ins, insR_0, insR_1, insR_2, insR_3, insR_4, callR_some, callR_none, callV_eq, callD_some, callD_none, contR_some, storeR_some, s_d_ins, insD_0, insD_1, insD_2, insD_3, contD_some, storeD_some, s_r_gins, gR_tup, gR_tt, gR_ff, gR_tf, gR_ft, gR_dec_t, gR_dec_f, s_d_gins, gD_tup, gD_tt, gD_ff, gD_tf, gD_ft, gD_dec_t, gD_dec_f, putO_nothing, putO_lo, putO_hi, mix_get, putO_some, putO_none, lit_t, lit_c, ev_t, ev_c, okind, vpre, vpure, binV_int, binV_str, binPre_int, binPre_str, intBin, intPre, strBin, strPre, popTo, argSlots, lenV_own, lenV_sl, lenV_nils, lenV_str, fldV, fldAV, subCells, idxAV_own, idxVV, idxAAV, idxSV, loadV_ptr, loadV_rp_agg, loadV_rp_int, sliceV, sliceSV, boundV, szIs, storeOp, storeS, setRowV, eff, extV, buildV, splice, eqSV, fitsL, eqCells, eqCell, minmaxV, binBV, nilCheckV, bytesV, V.cells, V.stays, upd_same, upd_upd, true_implies, false_implies, implies_true, keepS_eq, List.getD_cons_zero, List.getD_cons_succ, List.getD_nil, List.map_cons, List.map_nil, List.length_cons, List.length_nil, List.drop_succ_cons, List.drop_zero, List.take_succ_cons, List.take_zero, List.set_cons_zero, List.set_cons_succ, List.append_nil, List.nil_append, List.cons_append, List.all_cons, List.all_nil, List.getElem?_cons_zero, List.getElem?_cons_succ, List.contains_cons, List.contains_nil, Option.isSome_some, Option.map_some, Option.map_none, true_and, and_true, and_self, Int.reduceEq, Int.reduceNe, Int.reduceLT, Int.reduceLE, Int.reduceGT, Int.reduceGE, Nat.reduceEqDiff, Nat.reduceAdd, Nat.reduceMul, Nat.reduceLeDiff, Nat.reduceSub, Nat.reduceLT, Nat.reduceBEq, Nat.zero_add, Nat.add_zero, ↓reduceIte, reduceCtorEq, ← decide_not, Bool.not_true, Bool.not_false, Bool.false_eq_true, Bool.or_true, Bool.true_or, Bool.or_false, Bool.false_or, Bool.true_and, Bool.and_true, Bool.and_self, decide_true, decide_false, decide_eq_true_eq, s_zero]
        refine Runs.freeze [0, 3, 4, 5] 22 id22 0 x.words.length (SubStore.of_del σ3 id22) a22 (by simp [del]) rfl (by simp) ?_
        have a5' : del σ3 id22 id5 = _ := (del_ne n522).trans a5
        have hfold : List.take x.words.length (List.map vI x.words) = List.map vI x.words := List.take_of_length_le (by simp)
        have hs3 : SubStore σ (del σ3 id22) := (((((hsub.trans s1).updK (hsub.none f5)).trans s2).delK ((hsub.trans s1).updK (hsub.none f5) |>.none f16)).trans s3).delK (((hsub.trans s1).updK (hsub.none f5)).trans s2 |>.none f22)
        (refine Runs.of_step Orc.nothing 300 ?_; simp -implicitDefEqProofs only [s_r_nil, Ret_one, Ret_two, Ret_three, Ret_none, Ret_cell_one, Ret_cell_two, onSome_some, s_r_stop, s_r_inBlock, s_r_ops_nil, s_r_skip, s_r_seq, s_r_block, s_r_exit, exR_some, s_r_ret, s_r_loop, s_r_reg, s_r_dreg, s_d_nil, s_r_cond, cR_t, cR_f, cR_dec, s_r_ins, insR_0, insR_1, insR_2, insR_3, insR_4, callR_some, callR_none, callV_eq, callD_some, callD_none, contR_some, storeR_some, s_d_ins, insD_0, insD_1, insD_2, insD_3, contD_some, storeD_some, s_r_gins, gR_tup, gR_tt, gR_ff, gR_tf, gR_ft, gR_dec_t, gR_dec_f, s_d_gins, gD_tup, gD_tt, gD_ff, gD_tf, gD_ft, gD_dec_t, gD_dec_f, putO_nothing, putO_lo, putO_hi, mix_get, putO_some, putO_none, lit_t, lit_c, ev_t, ev_c, okind, vpre, vpure, binV_int, binV_str, binPre_int, binPre_str, intBin, intPre, strBin, strPre, popTo, argSlots, lenV_own, lenV_sl, lenV_nils, lenV_str, fldV, fldAV, subCells, idxAV_own, idxVV, idxAAV, idxSV, loadV_ptr, loadV_rp_agg, loadV_rp_int, sliceV, sliceSV, boundV, szIs, storeOp, storeS, setRowV, eff, extV, buildV, splice, eqSV, fitsL, eqCells, eqCell, minmaxV, binBV, nilCheckV, bytesV, V.cells, V.stays, upd_same, upd_upd, true_implies, false_implies, implies_true, keepS_eq, List.getD_cons_zero, List.getD_cons_succ, List.getD_nil, List.map_cons, List.map_nil, List.length_cons, List.length_nil, List.drop_succ_cons, List.drop_zero, List.take_succ_cons, List.take_zero, List.set_cons_zero, List.set_cons_succ, List.append_nil, List.nil_append, List.cons_append, List.all_cons, List.all_nil, List.getElem?_cons_zero, List.getElem?_cons_succ, List.contains_cons, List.contains_nil, Option.isSome_some, Option.map_some, Option.map_none, true_and, and_true, and_self, Int.reduceEq, Int.reduceNe, Int.reduceLT, Int.reduceLE, Int.reduceGT, Int.reduceGE, Nat.reduceEqDiff, Nat.reduceAdd, Nat.reduceMul, Nat.reduceLeDiff, Nat.reduceSub, Nat.reduceLT, Nat.reduceBEq, Nat.zero_add, Nat.add_zero, ↓reduceIte, reduceCtorEq, ← decide_not, Bool.not_true, Bool.not_false, Bool.false_eq_true, Bool.or_true, Bool.true_or, Bool.or_false, Bool.false_or, Bool.true_and, Bool.and_true, Bool.and_self, decide_true, decide_false, decide_eq_true_eq, Orc.nothing, a5', hfold, h0, h3, h4])
        refine effR_new fun id26 σ4 s4 a26 f26 => ?_
        have hs2 : srcRows σ4 20 (.own id26 0 1) = some [encN x] := by
          simp only [srcRows, a26]
          rw [if_pos (by simp)]
          simp [encN, Nd.cells, encI]
        have hs4 := (hs3.updK (hsub.none f5)).trans s4
        have e1 := s1 id _ hrow
        have n5i : id ≠ id5 := ne_new hrow f5
        have e2 := s2 id _ ((upd_ne n5i).trans e1)
        have n16i : id ≠ id16 := ne_new ((upd_ne n5i).trans e1) f16
        have n22i : id ≠ id22 := ne_new e2 f22
        have e3 := s3 id _ ((del_ne n16i).trans e2)
        have e4 := s4 id _ ((upd_ne n5i).trans ((del_ne n22i).trans e3))
        have hd2 : dstRows σ4 28 20 (.own id 0 i) = some ((l.take i).map encN, some id) := by
          simp only [dstRows, e4]
          rw [if_pos ⟨trivial, trivial, trivial, by rw [hln2]; exact Nat.le_refl _⟩, List.take_of_length_le (by rw [hln2]; exact Nat.le_refl _)]
        have hb2 : (i + 1) * 177 ≤ 140737488355328 := by omega
        simp -implicitDefEqProofs only [s_r_nil, Ret_one, Ret_two, Ret_three, Ret_none, Ret_cell_one, Ret_cell_two, onSome_some, s_r_stop, s_r_inBlock, s_r_ops_nil, s_r_skip, s_r_seq, s_r_block, s_r_exit, exR_some, s_r_ret, s_r_loop, s_r_reg, s_r_dreg, s_d_nil, s_r_cond, cR_t, cR_f, cR_dec, s_r_ins, insR_0, insR_1, insR_2, insR_3, insR_4, callR_some, callR_none, callV_eq, callD_some, callD_none, contR_some, storeR_some, s_d_ins, insD_0, insD_1, insD_2, insD_3, contD_some, storeD_some, s_r_gins, gR_tup, gR_tt, gR_ff, gR_tf, gR_ft, gR_dec_t, gR_dec_f, s_d_gins, gD_tup, gD_tt, gD_ff, gD_tf, gD_ft, gD_dec_t, gD_dec_f, putO_nothing, putO_lo, putO_hi, mix_get, putO_some, putO_none, lit_t, lit_c, ev_t, ev_c, okind, vpre, vpure, binV_int, binV_str, binPre_int, binPre_str, intBin, intPre, strBin, strPre, popTo, argSlots, lenV_own, lenV_sl, lenV_nils, lenV_str, fldV, fldAV, subCells, idxAV_own, idxVV, idxAAV, idxSV, loadV_ptr, loadV_rp_agg, loadV_rp_int, sliceV, sliceSV, boundV, szIs, storeOp, storeS, setRowV, eff, extV, buildV, splice, eqSV, fitsL, eqCells, eqCell, minmaxV, binBV, nilCheckV, bytesV, V.cells, V.stays, upd_same, upd_upd, true_implies, false_implies, implies_true, keepS_eq, List.getD_cons_zero, List.getD_cons_succ, List.getD_nil, List.map_cons, List.map_nil, List.length_cons, List.length_nil, List.drop_succ_cons, List.drop_zero, List.take_succ_cons, List.take_zero, List.set_cons_zero, List.set_cons_succ, List.append_nil, List.nil_append, List.cons_append, List.all_cons, List.all_nil, List.getElem?_cons_zero, List.getElem?_cons_succ, List.contains_cons, List.contains_nil, Option.isSome_some, Option.map_some, Option.map_none, true_and, and_true, and_self, Int.reduceEq, Int.reduceNe, Int.reduceLT, Int.reduceLE, Int.reduceGT, Int.reduceGE, Nat.reduceEqDiff, Nat.reduceAdd, Nat.reduceMul, Nat.reduceLeDiff, Nat.reduceSub, Nat.reduceLT, Nat.reduceBEq, Nat.zero_add, Nat.add_zero, ↓reduceIte, reduceCtorEq, ← decide_not, Bool.not_true, Bool.not_false, Bool.false_eq_true, Bool.or_true, Bool.true_or, Bool.or_false, Bool.false_or, Bool.true_and, Bool.and_true, Bool.and_self, decide_true, decide_false, decide_eq_true_eq, hs2, hd2, delO, hln2, hb2, h0, h3, h4]
        refine effR_app fun id27 σ5 s5 a27 f27 => ?_
        simp -implicitDefEqProofs only [s_r_nil, Ret_one, Ret_two, Ret_three, Ret_none, Ret_cell_one, Ret_cell_two, onSome_some, s_r_stop, s_r_inBlock, s_r_ops_nil, s_r_skip, s_r_seq, s_r_block, s_r_exit, exR_some, s_r_ret, s_r_loop, s_r_reg, s_r_dreg, s_d_nil, s_r_cond, cR_t, cR_f, cR_dec, s_r_ins, insR_0, insR_1, insR_2, insR_3, insR_4, callR_some, callR_none, callV_eq, callD_some, callD_none, contR_some, storeR_some, s_d_ins, insD_0, insD_1, insD_2, insD_3, contD_some, storeD_some, s_r_gins, gR_tup, gR_tt, gR_ff, gR_tf, gR_ft, gR_dec_t, gR_dec_f, s_d_gins, gD_tup, gD_tt, gD_ff, gD_tf, gD_ft, gD_dec_t, gD_dec_f, putO_nothing, putO_lo, putO_hi, mix_get, putO_some, putO_none, lit_t, lit_c, ev_t, ev_c, okind, vpre, vpure, binV_int, binV_str, binPre_int, binPre_str, intBin, intPre, strBin, strPre, popTo, argSlots, lenV_own, lenV_sl, lenV_nils, lenV_str, fldV, fldAV, subCells, idxAV_own, idxVV, idxAAV, idxSV, loadV_ptr, loadV_rp_agg, loadV_rp_int, sliceV, sliceSV, boundV, szIs, storeOp, storeS, setRowV, eff, extV, buildV, splice, eqSV, fitsL, eqCells, eqCell, minmaxV, binBV, nilCheckV, bytesV, V.cells, V.stays, upd_same, upd_upd, true_implies, false_implies, implies_true, keepS_eq, List.getD_cons_zero, List.getD_cons_succ, List.getD_nil, List.map_cons, List.map_nil, List.length_cons, List.length_nil, List.drop_succ_cons, List.drop_zero, List.take_succ_cons, List.take_zero, List.set_cons_zero, List.set_cons_succ, List.append_nil, List.nil_append, List.cons_append, List.all_cons, List.all_nil, List.getElem?_cons_zero, List.getElem?_cons_succ, List.contains_cons, List.contains_nil, Option.isSome_some, Option.map_some, Option.map_none, true_and, and_true, and_self, Int.reduceEq, Int.reduceNe, Int.reduceLT, Int.reduceLE, Int.reduceGT, Int.reduceGE, Nat.reduceEqDiff, Nat.reduceAdd, Nat.reduceMul, Nat.reduceLeDiff, Nat.reduceSub, Nat.reduceLT, Nat.reduceBEq, Nat.zero_add, Nat.add_zero, ↓reduceIte, reduceCtorEq, ← decide_not, Bool.not_true, Bool.not_false, Bool.false_eq_true, Bool.or_true, Bool.true_or, Bool.or_false, Bool.false_or, Bool.true_and, Bool.and_true, Bool.and_self, decide_true, decide_false, decide_eq_true_eq, h0, h3, h4]
        refine ⟨inR_i64 (by omega) (by omega), _, ?_, i + 1, by omega, rfl, (hs4.delK hnew).trans s5, .inr ⟨id27, ?_, ?_, hs4.none f27⟩, by simp⟩
        · omega
        · rw [htk]; simp; omega
        · rw [htk]; exact a27
      · have hie : i = l.length := by omega
        subst hie
        rw [List.take_length] at hrow
        refine ⟨_, σ, hsub, Wk.own hsub hrow hnew (by simp), ?_, rfl⟩
        simp only [List.drop_zero, encNs]
        rw [List.take_of_length_le (by simp)]
end Go.Vc
/- Contracts: are two nodes the same, two rows of them? -/
namespace Go.Vc
open Go.Proofs

theorem styEq (s t : Sty) : (decide (s.top = t.top) && (decide (s.bottom = t.bottom) && (decide (s.padTop = t.padTop) && (decide (s.padBottom = t.padBottom) && (decide (s.inset = t.inset) && (decide (s.orphans = t.orphans) && (decide (s.widows = t.widows) && (decide (s.head = t.head) &&
    (decide (s.before = t.before) && (decide (s.after = t.after) && (decide (s.inside = t.inside) && decide (s.clear = t.clear)))))))))))) = decide (s = t) := by
  rw [Bool.eq_iff_iff]
  cases s; cases t
  simp

set_option maxRecDepth 100000 in
theorem one5_c (a b : Nd) (ha : a.words.length ≤ 200000000000000) (hb : b.words.length ≤ 200000000000000) : PFun Try.prog 38 [encN a, encN b] (.bool (decide (a = b))) := fun σ => by
  refine Contract.of_runs Try.func38 e38 k38 (by simp [c38]) ?_
  refine Runs.mix 6 ?_
  (refine Runs.of_step Orc.nothing 300 ?_; simp -implicitDefEqProofs only [s_r_nil, Ret_one, Ret_two, Ret_three, Ret_none, Ret_cell_one, Ret_cell_two, onSome_some, s_r_stop, s_r_inBlock, s_r_ops_nil, s_r_skip, s_r_seq, s_r_block, s_r_exit, exR_some, s_r_ret, s_r_loop, s_r_reg, s_r_dreg, s_d_nil, s_r_cond, cR_t, cR_f, cR_dec, s_r_ins, insR_0, insR_1, insR_2, insR_3, insR_4, callR_some, callR_none, callV_eq, callD_some, callD_none, contR_some, storeR_some, s_d_ins, insD_0, insD_1, insD_2, insD_3, contD_some, storeD_some, s_r_gins, gR_tup, gR_tt, gR_ff, gR_tf, gR_ft, gR_dec_t, gR_dec_f, s_d_gins, gD_tup, gD_tt, gD_ff, gD_tf, gD_ft, gD_dec_t, gD_dec_f, putO_nothing, putO_lo, putO_hi, mix_get, putO_some, putO_none, lit_t, lit_c, ev_t, ev_c, okind, vpre, vpure, binV_int, binV_str, binPre_int, binPre_str, intBin, intPre, strBin, strPre, popTo, argSlots, lenV_own, lenV_sl, lenV_nils, lenV_str, fldV, fldAV, subCells, idxAV_own, idxVV, idxAAV, idxSV, loadV_ptr, loadV_rp_agg, loadV_rp_int, sliceV, sliceSV, boundV, szIs, storeOp, storeS, setRowV, eff, extV, buildV, splice, eqSV, fitsL, eqCells, eqCell, minmaxV, binBV, nilCheckV, bytesV, V.cells, V.stays, upd_same, upd_upd, true_implies, false_implies, implies_true, keepS_eq, List.getD_cons_zero, List.getD_cons_succ, List.getD_nil, List.map_cons, List.map_nil, List.length_cons, List.length_nil, List.drop_succ_cons, List.drop_zero, List.take_succ_cons, List.take_zero, List.set_cons_zero, List.set_cons_succ, List.append_nil, List.nil_append, List.cons_append, List.all_cons, List.all_nil, List.getElem?_cons_zero, List.getElem?_cons_succ, List.contains_cons, List.contains_nil, Option.isSome_some, Option.map_some, Option.map_none, true_and, and_true, and_self, Int.reduceEq, Int.reduceNe, Int.reduceLT, Int.reduceLE, Int.reduceGT, Int.reduceGE, Nat.reduceEqDiff, Nat.reduceAdd, Nat.reduceMul, Nat.reduceLeDiff, Nat.reduceSub, Nat.reduceLT, Nat.reduceBEq, Nat.zero_add, Nat.add_zero, ↓reduceIte, reduceCtorEq, ← decide_not, Bool.not_true, Bool.not_false, Bool.false_eq_true, Bool.or_true, Bool.true_or, Bool.or_false, Bool.false_or, Bool.true_and, Bool.and_true, Bool.and_self, decide_true, decide_false, decide_eq_true_eq, Orc.nothing, c38, encN, Nd.cells])
  refine effR_new fun id2 σ1 s1 a2 f2 => ?_
  simp -implicitDefEqProofs only [s_r_nil, Ret_one, Ret_two, Ret_three, Ret_none, Ret_cell_one, Ret_cell_two, onSome_some, s_r_stop, s_r_inBlock, s_r_ops_nil, s_r_skip, s_r_seq, s_r_block, s_r_exit, exR_some, s_r_ret, s_r_loop, s_r_reg, s_r_dreg, s_d_nil, s_r_cond, cR_t, cR_f, cR_dec, s_r_ins, insR_0, insR_1, insR_2, insR_3, insR_4, callR_some, callR_none, callV_eq, callD_some, callD_none, contR_some, storeR_some, s_d_ins, insD_0, insD_1, insD_2, insD_3, contD_some, storeD_some, s_r_gins, gR_tup, gR_tt, gR_ff, gR_tf, gR_ft, gR_dec_t, gR_dec_f, s_d_gins, gD_tup, gD_tt, gD_ff, gD_tf, gD_ft, gD_dec_t, gD_dec_f, putO_nothing, putO_lo, putO_hi, mix_get, putO_some, putO_none, lit_t, lit_c, ev_t, ev_c, okind, vpre, vpure, binV_int, binV_str, binPre_int, binPre_str, intBin, intPre, strBin, strPre, popTo, argSlots, lenV_own, lenV_sl, lenV_nils, lenV_str, fldV, fldAV, subCells, idxAV_own, idxVV, idxAAV, idxSV, loadV_ptr, loadV_rp_agg, loadV_rp_int, sliceV, sliceSV, boundV, szIs, storeOp, storeS, setRowV, eff, extV, buildV, splice, eqSV, fitsL, eqCells, eqCell, minmaxV, binBV, nilCheckV, bytesV, V.cells, V.stays, upd_same, upd_upd, true_implies, false_implies, implies_true, keepS_eq, List.getD_cons_zero, List.getD_cons_succ, List.getD_nil, List.map_cons, List.map_nil, List.length_cons, List.length_nil, List.drop_succ_cons, List.drop_zero, List.take_succ_cons, List.take_zero, List.set_cons_zero, List.set_cons_succ, List.append_nil, List.nil_append, List.cons_append, List.all_cons, List.all_nil, List.getElem?_cons_zero, List.getElem?_cons_succ, List.contains_cons, List.contains_nil, Option.isSome_some, Option.map_some, Option.map_none, true_and, and_true, and_self, Int.reduceEq, Int.reduceNe, Int.reduceLT, Int.reduceLE, Int.reduceGT, Int.reduceGE, Nat.reduceEqDiff, Nat.reduceAdd, Nat.reduceMul, Nat.reduceLeDiff, Nat.reduceSub, Nat.reduceLT, Nat.reduceBEq, Nat.zero_add, Nat.add_zero, ↓reduceIte, reduceCtorEq, ← decide_not, Bool.not_true, Bool.not_false, Bool.false_eq_true, Bool.or_true, Bool.true_or, Bool.or_false, Bool.false_or, Bool.true_and, Bool.and_true, Bool.and_self, decide_true, decide_false, decide_eq_true_eq, a2]
  refine effR_new fun id3 σ2 s2 a3 f3 => ?_
  have n23 := ne_new a2 f3
  have a2 := s2 _ _ a2
  have hs := s1.trans s2
  simp -implicitDefEqProofs only [s_r_nil, Ret_one, Ret_two, Ret_three, Ret_none, Ret_cell_one, Ret_cell_two, onSome_some, s_r_stop, s_r_inBlock, s_r_ops_nil, s_r_skip, s_r_seq, s_r_block, s_r_exit, exR_some, s_r_ret, s_r_loop, s_r_reg, s_r_dreg, s_d_nil, s_r_cond, cR_t, cR_f, cR_dec, s_r_ins, insR_0, insR_1, insR_2, insR_3, insR_4, callR_some, callR_none, callV_eq, callD_some, callD_none, contR_some, storeR_some, s_d_ins, insD_0, insD_1, insD_2, insD_3, contD_some, storeD_some, s_r_gins, gR_tup, gR_tt, gR_ff, gR_tf, gR_ft, gR_dec_t, gR_dec_f, s_d_gins, gD_tup, gD_tt, gD_ff, gD_tf, gD_ft, gD_dec_t, gD_dec_f, putO_nothing, putO_lo, putO_hi, mix_get, putO_some, putO_none, lit_t, lit_c, ev_t, ev_c, okind, vpre, vpure, binV_int, binV_str, binPre_int, binPre_str, intBin, intPre, strBin, strPre, popTo, argSlots, lenV_own, lenV_sl, lenV_nils, lenV_str, fldV, fldAV, subCells, idxAV_own, idxVV, idxAAV, idxSV, loadV_ptr, loadV_rp_agg, loadV_rp_int, sliceV, sliceSV, boundV, szIs, storeOp, storeS, setRowV, eff, extV, buildV, splice, eqSV, fitsL, eqCells, eqCell, minmaxV, binBV, nilCheckV, bytesV, V.cells, V.stays, upd_same, upd_upd, true_implies, false_implies, implies_true, keepS_eq, List.getD_cons_zero, List.getD_cons_succ, List.getD_nil, List.map_cons, List.map_nil, List.length_cons, List.length_nil, List.drop_succ_cons, List.drop_zero, List.take_succ_cons, List.take_zero, List.set_cons_zero, List.set_cons_succ, List.append_nil, List.nil_append, List.cons_append, List.all_cons, List.all_nil, List.getElem?_cons_zero, List.getElem?_cons_succ, List.contains_cons, List.contains_nil, Option.isSome_some, Option.map_some, Option.map_none, true_and, and_true, and_self, Int.reduceEq, Int.reduceNe, Int.reduceLT, Int.reduceLE, Int.reduceGT, Int.reduceGE, Nat.reduceEqDiff, Nat.reduceAdd, Nat.reduceMul, Nat.reduceLeDiff, Nat.reduceSub, Nat.reduceLT, Nat.reduceBEq, Nat.zero_add, Nat.add_zero, ↓reduceIte, reduceCtorEq, ← decide_not, Bool.not_true, Bool.not_false, Bool.false_eq_true, Bool.or_true, Bool.true_or, Bool.or_false, Bool.false_or, Bool.true_and, Bool.and_true, Bool.and_self, decide_true, decide_false, decide_eq_true_eq, a2, a3, styEq, lenV_encI]
  refine And.intro (fun c1 => And.intro (fun c2 => And.intro (fun c3 => And.intro (fun c4 => And.intro (fun c5 => And.intro (fun c6 => And.intro (fun c7 => And.intro (fun c8 => And.intro (fun c9 => ?_) (fun c9 => ?_)) (fun c8 => ?_)) (fun c7 => ?_)) (fun c6 => ?_)) (fun c5 => ?_)) (fun c4 => ?_)) (fun c3 => ?_)) (fun c2 => ?_)) (fun c1 => ?_)
  case refine_2 =>
    have hl : a.words.length = b.words.length := by
      have : (a.words.length : Int) = b.words.length := by simpa using c9
      omega
    have hab : a = b ↔ a.words = b.words := by
      constructor
      · rintro rfl; rfl
      · intro hw
        cases a; cases b
        simp_all
    refine Runs.loop (fun m st => ∃ i : Nat, i ≤ a.words.length ∧ m = a.words.length - i ∧ a.words.take i = b.words.take i ∧ st.σ = σ2 ∧ st.s 2 = .ptr id2 0 0 ∧ st.s 3 = .ptr id3 0 0 ∧ st.s 5 = vI i) a.words.length ?_ ?_
    · exact ⟨0, by omega, by omega, rfl, rfl, rfl, rfl, rfl⟩
    · rintro m ⟨s, σ'⟩ ⟨i, hi, rfl, ht, hσ, h2, h3, h5⟩
      simp only at hσ h2 h3 h5
      subst hσ
      refine Runs.mix 6 ?_
      (refine Runs.of_step Orc.nothing 300 ?_; simp -implicitDefEqProofs only [s_r_nil, Ret_one, Ret_two, Ret_three, Ret_none, Ret_cell_one, Ret_cell_two, onSome_some, s_r_stop, s_r_inBlock, s_r_ops_nil, s_r_skip, s_r_seq, s_r_block, s_r_exit, exR_some, s_r_ret, s_r_loop, s_r_reg, s_r_dreg, s_d_nil, s_r_cond, cR_t, cR_f, cR_dec, s_r_ins, insR_0, insR_1, insR_2, insR_3, insR_4, callR_some, callR_none, callV_eq, callD_some, callD_none, contR_some, storeR_some, effR_some, s_d_ins, insD_0, insD_1, insD_2, insD_3, contD_some, storeD_some, effD_some, s_r_gins, gR_tup, gR_tt, gR_ff, gR_tf, gR_ft, gR_dec_t, gR_dec_f, s_d_gins, gD_tup, gD_tt, gD_ff, gD_tf, gD_ft, gD_dec_t, gD_dec_f, putO_nothing, putO_lo, putO_hi, mix_get, putO_some, putO_none, lit_t, lit_c, ev_t, ev_c, okind, vpre, vpure, binV_int, binV_str, binPre_int, binPre_str, intBin, intPre, strBin, strPre, popTo, argSlots, lenV_own, lenV_sl, lenV_nils, lenV_str, fldV, fldAV, subCells, idxAV_own, idxVV, idxAAV, idxSV, loadV_ptr, loadV_rp_agg, loadV_rp_int, sliceV, sliceSV, boundV, szIs, storeOp, storeS, setRowV, eff, extV, buildV, splice, eqSV, fitsL, eqCells, eqCell, minmaxV, binBV, nilCheckV, bytesV, V.cells, V.stays, upd_same, upd_upd, true_implies, false_implies, implies_true, keepS_eq, List.getD_cons_zero, List.getD_cons_succ, List.getD_nil, List.map_cons, List.map_nil, List.length_cons, List.length_nil, List.drop_succ_cons, List.drop_zero, List.take_succ_cons, List.take_zero, List.set_cons_zero, List.set_cons_succ, List.append_nil, List.nil_append, List.cons_append, List.all_cons, List.all_nil, List.getElem?_cons_zero, List.getElem?_cons_succ, List.contains_cons, List.contains_nil, Option.isSome_some, Option.map_some, Option.map_none, true_and, and_true, and_self, Int.reduceEq, Int.reduceNe, Int.reduceLT, Int.reduceLE, Int.reduceGT, Int.reduceGE, Nat.reduceEqDiff, Nat.reduceAdd, Nat.reduceMul, Nat.reduceLeDiff, Nat.reduceSub, Nat.reduceLT, Nat.reduceBEq, Nat.zero_add, Nat.add_zero, ↓reduceIte, reduceCtorEq, ← decide_not, Bool.not_true, Bool.not_false, Bool.false_eq_true, Bool.or_true, Bool.true_or, Bool.or_false, Bool.false_or, Bool.true_and, Bool.and_true, Bool.and_self, decide_true, decide_false, decide_eq_true_eq, Orc.nothing, h2, h3, h5, a2, a3, lenV_encI])
      refine And.intro (fun hlt => ?_) (fun hge => ?_)
      · have hlt' : i < a.words.length := by omega
        have hlt2 : i < b.words.length := by omega
        simp -implicitDefEqProofs only [s_r_nil, Ret_one, Ret_two, Ret_three, Ret_none, Ret_cell_one, Ret_cell_two, onSome_some, s_r_stop, s_r_inBlock, s_r_ops_nil, s_r_skip, s_r_seq, s_r_block, s_r_exit, exR_some, s_r_ret, s_r_loop, s_r_reg, s_r_dreg, s_d_nil, s_r_cond, cR_t, cR_f, cR_dec, s_r_ins, insR_0, insR_1, insR_2, insR_3, insR_4, callR_some, callR_none, callV_eq, callD_some, callD_none, contR_some, storeR_some, effR_some, s_d_ins, insD_0, insD_1, insD_2, insD_3, contD_some, storeD_some, effD_some, s_r_gins, gR_tup, gR_tt, gR_ff, gR_tf, gR_ft, gR_dec_t, gR_dec_f, s_d_gins, gD_tup, gD_tt, gD_ff, gD_tf, gD_ft, gD_dec_t, gD_dec_f, putO_nothing, putO_lo, putO_hi, mix_get, putO_some, putO_none, lit_t, lit_c, ev_t, ev_c, okind, vpre, vpure, binV_int, binV_str, binPre_int, binPre_str, intBin, intPre, strBin, strPre, popTo, argSlots, lenV_own, lenV_sl, lenV_nils, lenV_str, fldV, fldAV, subCells, idxAV_own, idxVV, idxAAV, idxSV, loadV_ptr, loadV_rp_agg, loadV_rp_int, sliceV, sliceSV, boundV, szIs, storeOp, storeS, setRowV, eff, extV, buildV, splice, eqSV, fitsL, eqCells, eqCell, minmaxV, binBV, nilCheckV, bytesV, V.cells, V.stays, upd_same, upd_upd, true_implies, false_implies, implies_true, keepS_eq, List.getD_cons_zero, List.getD_cons_succ, List.getD_nil, List.map_cons, List.map_nil, List.length_cons, List.length_nil, List.drop_succ_cons, List.drop_zero, List.take_succ_cons, List.take_zero, List.set_cons_zero, List.set_cons_succ, List.append_nil, List.nil_append, List.cons_append, List.all_cons, List.all_nil, List.getElem?_cons_zero, List.getElem?_cons_succ, List.contains_cons, List.contains_nil, Option.isSome_some, Option.map_some, Option.map_none, true_and, and_true, and_self, Int.reduceEq, Int.reduceNe, Int.reduceLT, Int.reduceLE, Int.reduceGT, Int.reduceGE, Nat.reduceEqDiff, Nat.reduceAdd, Nat.reduceMul, Nat.reduceLeDiff, Nat.reduceSub, Nat.reduceLT, Nat.reduceBEq, Nat.zero_add, Nat.add_zero, ↓reduceIte, reduceCtorEq, ← decide_not, Bool.not_true, Bool.not_false, Bool.false_eq_true, Bool.or_true, Bool.true_or, Bool.or_false, Bool.false_or, Bool.true_and, Bool.and_true, Bool.and_self, decide_true, decide_false, decide_eq_true_eq, idxAV_encI hlt', idxAV_encI hlt2, a2, a3, h2, h3, h5]
        refine And.intro (fun hd => ?_) (fun hd => ?_)
        · refine RetV.pure hs ?_
          rw [V.bool.injEq]; symm
          rw [decide_eq_false_iff_not, hab]
          intro hw
          apply hd
          simp [hw]
        · refine ⟨inR_i64 (by omega) (by omega), _, ?_, i + 1, by omega, rfl, ?_, ?_⟩
          · omega
          · rw [List.take_succ_eq_append_getElem hlt', List.take_succ_eq_append_getElem hlt2, ht]
            have : a.words[i] = b.words[i] := by simpa using hd
            rw [this]
          · simp
      · have hie : i = a.words.length := by omega
        refine RetV.pure hs ?_
        rw [V.bool.injEq]; symm
        rw [decide_eq_true_eq, hab]
        rw [hie, List.take_length] at ht
        rw [ht, hl, List.take_length]
  all_goals (refine RetV.pure hs ?_; rw [V.bool.injEq]; symm; rw [decide_eq_false_iff_not]; rintro rfl; simp at *)

/-- a node's numbers, read -/
def ndOf : V → Option Nd
  | .agg [.int .i64 a0, .int .i64 a1, .int .i64 a2, .int .i64 a3, .int .i64 a4, .int .i64 a5, .int .i64 a6, .int .i64 a7, .int .i64 a8, .int .i64 a9, .int .i64 a10, .int .i64 a11, .int .i64 a12, .int .i64 a13, .int .i64 a14, .int .i64 a15, .sl 1 rows, .int .i64 a17, .int .i64 a18, .int .i64 a19] =>
    (intsOf rows).bind fun ws => if ws.length ≤ 200000000000000 then some ⟨a0, a1, ⟨a2, a3, a4, a5, a6, a7, a8, a9, a10, a11, a12, a13⟩, a14, a15, ws, a17, a18, a19⟩ else none
  | _ => none
theorem ndOf_eq {v : V} {x : Nd} (h : ndOf v = some x) : v = encN x ∧ x.words.length ≤ 200000000000000 := by
  unfold ndOf at h
  split at h
  · rw [Option.bind_eq_some_iff] at h
    obtain ⟨ws, h1, h2⟩ := h
    split at h2
    · rename_i hw
      simp only [Option.some.injEq] at h2
      subst h2
      rw [intsOf_eq h1]
      exact ⟨rfl, hw⟩
    · cases h2
  · cases h
theorem ndOf_enc {x : Nd} (hw : x.words.length ≤ 200000000000000) : ndOf (.agg [.int .i64 x.kind, .int .i64 x.size, .int .i64 x.st.top, .int .i64 x.st.bottom, .int .i64 x.st.padTop, .int .i64 x.st.padBottom, .int .i64 x.st.inset, .int .i64 x.st.orphans, .int .i64 x.st.widows, .int .i64 x.st.head, .int .i64 x.st.before, .int .i64 x.st.after, .int .i64 x.st.inside, .int .i64 x.st.clear, .int .i64 x.line, .int .i64 x.space, encI x.words, .int .i64 x.side, .int .i64 x.w, .int .i64 x.h]) = some x := by
  show ((intsOf (x.words.map vI)).bind fun ws => if ws.length ≤ 200000000000000 then some (Nd.mk x.kind x.size ⟨x.st.top, x.st.bottom, x.st.padTop, x.st.padBottom, x.st.inset, x.st.orphans, x.st.widows, x.st.head, x.st.before, x.st.after, x.st.inside, x.st.clear⟩ x.line x.space ws x.side x.w x.h) else none) = _
  rw [intsOf_map, Option.bind_some, if_pos hw]

def o22 (f : FuncId) (args : List V) : Option V := if f = 38 then (match args with
  | [v, u] => (ndOf v).bind fun x => (ndOf u).bind fun y => some (.bool (decide (x = y)))
  | _ => none) else none
def O22 : Orc Try.prog where
  get f args _ := o22 f args
  ok f args σ v h := by
    unfold o22 at h
    split at h
    · rename_i hf
      subst hf
      split at h
      · rw [Option.bind_eq_some_iff] at h
        obtain ⟨x, h1, h2⟩ := h
        rw [Option.bind_eq_some_iff] at h2
        obtain ⟨y, h3, h4⟩ := h2
        simp only [Option.some.injEq] at h4
        subst h4
        obtain ⟨rfl, hx⟩ := ndOf_eq h1
        obtain ⟨rfl, hy⟩ := ndOf_eq h3
        exact one5_c x y hx hy σ
      · cases h
    · cases h
theorem O22_38 (v u : V) (σ : Store) : O22.get 38 [v, u] σ = (ndOf v).bind fun x => (ndOf u).bind fun y => some (.bool (decide (x = y))) := rfl

set_option maxRecDepth 100000 in
theorem same5_c (a b : List Nd) (ha : Fine a) (hb : Fine b) : PFun Try.prog 17 [encNs a, encNs b] (.bool (decide (a = b))) := fun σ => by
  refine Contract.of_runs Try.func17 e17 k17 (by simp [c17]) ?_
  refine Runs.mix 6 ?_
  (refine Runs.of_step Orc.nothing 300 ?_; simp -implicitDefEqProofs only [s_r_nil, Ret_one, Ret_two, Ret_three, Ret_none, Ret_cell_one, Ret_cell_two, onSome_some, s_r_stop, s_r_inBlock, s_r_ops_nil, s_r_skip, s_r_seq, s_r_block, s_r_exit, exR_some, s_r_ret, s_r_loop, s_r_reg, s_r_dreg, s_d_nil, s_r_cond, cR_t, cR_f, cR_dec, s_r_ins, insR_0, insR_1, insR_2, insR_3, insR_4, callR_some, callR_none, callV_eq, callD_some, callD_none, contR_some, storeR_some, effR_some, s_d_ins, insD_0, insD_1, insD_2, insD_3, contD_some, storeD_some, effD_some, s_r_gins, gR_tup, gR_tt, gR_ff, gR_tf, gR_ft, gR_dec_t, gR_dec_f, s_d_gins, gD_tup, gD_tt, gD_ff, gD_tf, gD_ft, gD_dec_t, gD_dec_f, putO_nothing, putO_lo, putO_hi, mix_get, putO_some, putO_none, lit_t, lit_c, ev_t, ev_c, okind, vpre, vpure, binV_int, binV_str, binPre_int, binPre_str, intBin, intPre, strBin, strPre, popTo, argSlots, lenV_own, lenV_sl, lenV_nils, lenV_str, fldV, fldAV, subCells, idxAV_own, idxVV, idxAAV, idxSV, loadV_ptr, loadV_rp_agg, loadV_rp_int, sliceV, sliceSV, boundV, szIs, storeOp, storeS, setRowV, eff, extV, buildV, splice, eqSV, fitsL, eqCells, eqCell, minmaxV, binBV, nilCheckV, bytesV, V.cells, V.stays, upd_same, upd_upd, true_implies, false_implies, implies_true, keepS_eq, List.getD_cons_zero, List.getD_cons_succ, List.getD_nil, List.map_cons, List.map_nil, List.length_cons, List.length_nil, List.drop_succ_cons, List.drop_zero, List.take_succ_cons, List.take_zero, List.set_cons_zero, List.set_cons_succ, List.append_nil, List.nil_append, List.cons_append, List.all_cons, List.all_nil, List.getElem?_cons_zero, List.getElem?_cons_succ, List.contains_cons, List.contains_nil, Option.isSome_some, Option.map_some, Option.map_none, true_and, and_true, and_self, Int.reduceEq, Int.reduceNe, Int.reduceLT, Int.reduceLE, Int.reduceGT, Int.reduceGE, Nat.reduceEqDiff, Nat.reduceAdd, Nat.reduceMul, Nat.reduceLeDiff, Nat.reduceSub, Nat.reduceLT, Nat.reduceBEq, Nat.zero_add, Nat.add_zero, ↓reduceIte, reduceCtorEq, ← decide_not, Bool.not_true, Bool.not_false, Bool.false_eq_true, Bool.or_true, Bool.true_or, Bool.or_false, Bool.false_or, Bool.true_and, Bool.and_true, Bool.and_self, decide_true, decide_false, decide_eq_true_eq, Orc.nothing, c17, lenV_encNs])
  refine And.intro (fun hl => ?_) (fun hl => ?_)
  · refine RetV.same ?_
    rw [V.bool.injEq]; symm
    rw [decide_eq_false_iff_not]
    rintro rfl
    simp at hl
  · have hl : a.length = b.length := by
      have : (a.length : Int) = b.length := by simpa using hl
      omega
    refine Runs.loop (fun m st => ∃ i : Nat, i ≤ a.length ∧ m = a.length - i ∧ a.take i = b.take i ∧ st.σ = σ ∧ st.s 0 = encNs a ∧ st.s 1 = encNs b ∧ st.s 5 = vI i) a.length ?_ ?_
    · exact ⟨0, by omega, by omega, rfl, rfl, rfl, rfl, rfl⟩
    · rintro m ⟨s, σ'⟩ ⟨i, hi, rfl, ht, hσ, h0, h1, h5⟩
      simp only at hσ h0 h1 h5
      subst hσ
      have hal := ha.1
      refine Runs.mix 6 ?_
      (refine Runs.of_step O22 300 ?_; simp -implicitDefEqProofs only [s_r_nil, Ret_one, Ret_two, Ret_three, Ret_none, Ret_cell_one, Ret_cell_two, onSome_some, s_r_stop, s_r_inBlock, s_r_ops_nil, s_r_skip, s_r_seq, s_r_block, s_r_exit, exR_some, s_r_ret, s_r_loop, s_r_reg, s_r_dreg, s_d_nil, s_r_cond, cR_t, cR_f, cR_dec, s_r_ins, insR_0, insR_1, insR_2, insR_3, insR_4, callR_some, callR_none, callV_eq, callD_some, callD_none, contR_some, storeR_some, effR_some, s_d_ins, insD_0, insD_1, insD_2, insD_3, contD_some, storeD_some, effD_some, s_r_gins, gR_tup, gR_tt, gR_ff, gR_tf, gR_ft, gR_dec_t, gR_dec_f, s_d_gins, gD_tup, gD_tt, gD_ff, gD_tf, gD_ft, gD_dec_t, gD_dec_f, putO_nothing, putO_lo, putO_hi, mix_get, putO_some, putO_none, lit_t, lit_c, ev_t, ev_c, okind, vpre, vpure, binV_int, binV_str, binPre_int, binPre_str, intBin, intPre, strBin, strPre, popTo, argSlots, lenV_own, lenV_sl, lenV_nils, lenV_str, fldV, fldAV, subCells, idxAV_own, idxVV, idxAAV, idxSV, loadV_ptr, loadV_rp_agg, loadV_rp_int, sliceV, sliceSV, boundV, szIs, storeOp, storeS, setRowV, eff, extV, buildV, splice, eqSV, fitsL, eqCells, eqCell, minmaxV, binBV, nilCheckV, bytesV, V.cells, V.stays, upd_same, upd_upd, true_implies, false_implies, implies_true, keepS_eq, List.getD_cons_zero, List.getD_cons_succ, List.getD_nil, List.map_cons, List.map_nil, List.length_cons, List.length_nil, List.drop_succ_cons, List.drop_zero, List.take_succ_cons, List.take_zero, List.set_cons_zero, List.set_cons_succ, List.append_nil, List.nil_append, List.cons_append, List.all_cons, List.all_nil, List.getElem?_cons_zero, List.getElem?_cons_succ, List.contains_cons, List.contains_nil, Option.isSome_some, Option.map_some, Option.map_none, true_and, and_true, and_self, Int.reduceEq, Int.reduceNe, Int.reduceLT, Int.reduceLE, Int.reduceGT, Int.reduceGE, Nat.reduceEqDiff, Nat.reduceAdd, Nat.reduceMul, Nat.reduceLeDiff, Nat.reduceSub, Nat.reduceLT, Nat.reduceBEq, Nat.zero_add, Nat.add_zero, ↓reduceIte, reduceCtorEq, ← decide_not, Bool.not_true, Bool.not_false, Bool.false_eq_true, Bool.or_true, Bool.true_or, Bool.or_false, Bool.false_or, Bool.true_and, Bool.and_true, Bool.and_self, decide_true, decide_false, decide_eq_true_eq, h0, h1, h5, lenV_encNs])
      refine And.intro (fun hlt => ?_) (fun hge => ?_)
      · have hlt' : i < a.length := by omega
        have hlt2 : i < b.length := by omega
        have hx := ha.2 _ (List.getElem_mem hlt')
        have hy := hb.2 _ (List.getElem_mem hlt2)
        have hta := List.take_succ_eq_append_getElem hlt'
        have htb := List.take_succ_eq_append_getElem hlt2
        have hxe : a[i]? = some a[i] := by simp [hlt']
        have hye : b[i]? = some b[i] := by simp [hlt2]
        generalize hxg : a[i] = x at *
        generalize hyg : b[i] = y at *
        simp -implicitDefEqProofs only [s_r_nil, Ret_one, Ret_two, Ret_three, Ret_none, Ret_cell_one, Ret_cell_two, onSome_some, s_r_stop, s_r_inBlock, s_r_ops_nil, s_r_skip, s_r_seq, s_r_block, s_r_exit, exR_some, s_r_ret, s_r_loop, s_r_reg, s_r_dreg, s_d_nil, s_r_cond, cR_t, cR_f, cR_dec, s_r_ins, insR_0, insR_1, insR_2, insR_3, insR_4, callR_some, callR_none, callV_eq, callD_some, callD_none, contR_some, storeR_some, effR_some, s_d_ins, insD_0, insD_1, insD_2, insD_3, contD_some, storeD_some, effD_some, s_r_gins, gR_tup, gR_tt, gR_ff, gR_tf, gR_ft, gR_dec_t, gR_dec_f, s_d_gins, gD_tup, gD_tt, gD_ff, gD_tf, gD_ft, gD_dec_t, gD_dec_f, putO_nothing, putO_lo, putO_hi, mix_get, putO_some, putO_none, lit_t, lit_c, ev_t, ev_c, okind, vpre, vpure, binV_int, binV_str, binPre_int, binPre_str, intBin, intPre, strBin, strPre, popTo, argSlots, lenV_own, lenV_sl, lenV_nils, lenV_str, fldV, fldAV, subCells, idxAV_own, idxVV, idxAAV, idxSV, loadV_ptr, loadV_rp_agg, loadV_rp_int, sliceV, sliceSV, boundV, szIs, storeOp, storeS, setRowV, eff, extV, buildV, splice, eqSV, fitsL, eqCells, eqCell, minmaxV, binBV, nilCheckV, bytesV, V.cells, V.stays, upd_same, upd_upd, true_implies, false_implies, implies_true, keepS_eq, List.getD_cons_zero, List.getD_cons_succ, List.getD_nil, List.map_cons, List.map_nil, List.length_cons, List.length_nil, List.drop_succ_cons, List.drop_zero, List.take_succ_cons, List.take_zero, List.set_cons_zero, List.set_cons_succ, List.append_nil, List.nil_append, List.cons_append, List.all_cons, List.all_nil, List.getElem?_cons_zero, List.getElem?_cons_succ, List.contains_cons, List.contains_nil, Option.isSome_some, Option.map_some, Option.map_none, true_and, and_true, and_self, Int.reduceEq, Int.reduceNe, Int.reduceLT, Int.reduceLE, Int.reduceGT, Int.reduceGE, Nat.reduceEqDiff, Nat.reduceAdd, Nat.reduceMul, Nat.reduceLeDiff, Nat.reduceSub, Nat.reduceLT, Nat.reduceBEq, Nat.zero_add, Nat.add_zero, ↓reduceIte, reduceCtorEq, ← decide_not, Bool.not_true, Bool.not_false, Bool.false_eq_true, Bool.or_true, Bool.true_or, Bool.or_false, Bool.false_or, Bool.true_and, Bool.and_true, Bool.and_self, decide_true, decide_false, decide_eq_true_eq, idxAV_encNs hlt', idxAV_encNs hlt2, hxg, hyg, Nd.cells, O22_38, ndOf_enc hx, ndOf_enc hy, Option.bind_some, h0, h1, h5]
        refine And.intro (fun hd => ?_) (fun hd => ?_)
        · refine RetV.same ?_
          rw [V.bool.injEq]; symm
          rw [decide_eq_false_iff_not]
          rintro rfl
          rw [hxe] at hye
          simp at hye
          exact hd hye
        · refine ⟨inR_i64 (by omega) (by omega), _, ?_, i + 1, by omega, rfl, ?_, ?_⟩
          · omega
          · rw [hta, htb, ht]
            have : x = y := by simpa using hd
            rw [this]
          · simp
      · have hie : i = a.length := by omega
        refine RetV.same ?_
        rw [V.bool.injEq]; symm
        rw [decide_eq_true_eq]
        rw [hie, List.take_length] at ht
        rw [ht, hl, List.take_length]
end Go.Vc
/- Contracts: ValidCounts. -/
namespace Go.Vc
open Go.Proofs

/-- what is known of one more call -/
def Orc.add {P : Program} (O : Orc P) (dec : ∀ a b : List V, Decidable (a = b)) (f0 : FuncId) (args0 : List V) (v0 : V) (h : PFun P f0 args0 v0) : Orc P where
  get f args σ := if f = f0 then (match dec args args0 with
    | .isTrue _ => some v0
    | .isFalse _ => O.get f args σ) else O.get f args σ
  ok f args σ v hv := by
    split at hv
    · rename_i hf
      split at hv
      · rename_i ha _
        simp only [Option.some.injEq] at hv
        subst hf ha hv
        exact h σ
      · exact O.ok _ _ _ _ hv
    · exact O.ok _ _ _ _ hv
theorem Orc.add_get {P : Program} (O : Orc P) (dec : ∀ a b : List V, Decidable (a = b)) (f0 : FuncId) (args0 : List V) (v0 : V) (h : PFun P f0 args0 v0) (σ : Store) :
    (O.add dec f0 args0 v0 h).get f0 args0 σ = some v0 := by
  simp only [Orc.add, if_true]
  split
  · rfl
  · rename_i h _; exact absurd rfl h
theorem Orc.add_ne {P : Program} (O : Orc P) (dec : ∀ a b : List V, Decidable (a = b)) (f0 : FuncId) (args0 : List V) (v0 : V) (h : PFun P f0 args0 v0) (σ : Store) (f : FuncId) (args : List V) (hf : f ≠ f0) :
    (O.add dec f0 args0 v0 h).get f args σ = O.get f args σ := by
  simp only [Orc.add, if_neg hf]

set_option maxRecDepth 100000 in
theorem validCounts_c (l : List Nd) : PFun Try.prog 3 [encNs l] (.bool true) := fun σ => by
  refine Contract.of_runs Try.func3 e3 k3 (by simp [c3]) ?_
  refine Runs.mix 9 ?_
  let dec : ∀ a b : List V, Decidable (a = b) := fun a b => Classical.propDecidable _
  (refine Runs.of_step (Orc.nothing.add dec 9 [] (.bool true) awake_c) 300 ?_; simp -implicitDefEqProofs only [s_r_nil, Ret_one, Ret_two, Ret_three, Ret_none, Ret_cell_one, Ret_cell_two, onSome_some, s_r_stop, s_r_inBlock, s_r_ops_nil, s_r_skip, s_r_seq, s_r_block, s_r_exit, exR_some, s_r_ret, s_r_loop, s_r_reg, s_r_dreg, s_d_nil, s_r_cond, cR_t, cR_f, cR_dec, s_r_ins, insR_0, insR_1, insR_2, insR_3, insR_4, callR_some, callR_none, callV_eq, callD_some, callD_none, contR_some, storeR_some, s_d_ins, insD_0, insD_1, insD_2, insD_3, contD_some, storeD_some, s_r_gins, gR_tup, gR_tt, gR_ff, gR_tf, gR_ft, gR_dec_t, gR_dec_f, s_d_gins, gD_tup, gD_tt, gD_ff, gD_tf, gD_ft, gD_dec_t, gD_dec_f, putO_nothing, putO_lo, putO_hi, mix_get, putO_some, putO_none, lit_t, lit_c, ev_t, ev_c, okind, vpre, vpure, binV_int, binV_str, binPre_int, binPre_str, intBin, intPre, strBin, strPre, popTo, argSlots, lenV_own, lenV_sl, lenV_nils, lenV_str, fldV, fldAV, subCells, idxAV_own, idxVV, idxAAV, idxSV, loadV_ptr, loadV_rp_agg, loadV_rp_int, sliceV, sliceSV, boundV, szIs, storeOp, storeS, setRowV, eff, extV, buildV, splice, eqSV, fitsL, eqCells, eqCell, minmaxV, binBV, nilCheckV, bytesV, V.cells, V.stays, upd_same, upd_upd, true_implies, false_implies, implies_true, keepS_eq, List.getD_cons_zero, List.getD_cons_succ, List.getD_nil, List.map_cons, List.map_nil, List.length_cons, List.length_nil, List.drop_succ_cons, List.drop_zero, List.take_succ_cons, List.take_zero, List.set_cons_zero, List.set_cons_succ, List.append_nil, List.nil_append, List.cons_append, List.all_cons, List.all_nil, List.getElem?_cons_zero, List.getElem?_cons_succ, List.contains_cons, List.contains_nil, Option.isSome_some, Option.map_some, Option.map_none, true_and, and_true, and_self, Int.reduceEq, Int.reduceNe, Int.reduceLT, Int.reduceLE, Int.reduceGT, Int.reduceGE, Nat.reduceEqDiff, Nat.reduceAdd, Nat.reduceMul, Nat.reduceLeDiff, Nat.reduceSub, Nat.reduceLT, Nat.reduceBEq, Nat.zero_add, Nat.add_zero, ↓reduceIte, reduceCtorEq, ← decide_not, Bool.not_true, Bool.not_false, Bool.false_eq_true, Bool.or_true, Bool.true_or, Bool.or_false, Bool.false_or, Bool.true_and, Bool.and_true, Bool.and_self, decide_true, decide_false, decide_eq_true_eq, c3, lenV_encNs, Orc.add_get])
  have hbig : RetV (.bool true) σ fun r σ' => r = .bool true ∧ σ' = σ := RetV.same rfl
  refine And.intro (fun g1 => And.intro (fun g2 => And.intro (fun g3 => hbig) (fun g3 => ?_)) (fun g2 => hbig)) (fun g1 => And.intro (fun g3 => hbig) (fun g3 => ?_))
  all_goals
    have hl1 : l.length ≤ 2100 := by omega
    refine Runs.loop (fun m st => ∃ i : Nat, i ≤ l.length ∧ m = l.length - i ∧ (∀ x ∈ l.take i, x.words.length ≤ 3000) ∧ st.σ = σ ∧ st.s 0 = encNs l ∧ st.s 3 = vI i) l.length ?_ ?_
    · exact ⟨0, by omega, by omega, by simp, rfl, rfl, rfl⟩
    · rintro m ⟨s, σ'⟩ ⟨i, hi, rfl, hp, hσ, h0, h3⟩
      simp only at h0 h3 hσ
      subst hσ
      by_cases hlt : i < l.length
      · refine Runs.mix 9 ?_
        have hlt2 : (i : Int) < l.length := by omega
        (refine Runs.of_step (Orc.nothing.add dec 9 [] (.bool true) awake_c) 300 ?_; simp -implicitDefEqProofs only [s_r_nil, Ret_one, Ret_two, Ret_three, Ret_none, Ret_cell_one, Ret_cell_two, onSome_some, s_r_stop, s_r_inBlock, s_r_ops_nil, s_r_skip, s_r_seq, s_r_block, s_r_exit, exR_some, s_r_ret, s_r_loop, s_r_reg, s_r_dreg, s_d_nil, s_r_cond, cR_t, cR_f, cR_dec, s_r_ins, insR_0, insR_1, insR_2, insR_3, insR_4, callR_some, callR_none, callV_eq, callD_some, callD_none, contR_some, storeR_some, s_d_ins, insD_0, insD_1, insD_2, insD_3, contD_some, storeD_some, s_r_gins, gR_tup, gR_tt, gR_ff, gR_tf, gR_ft, gR_dec_t, gR_dec_f, s_d_gins, gD_tup, gD_tt, gD_ff, gD_tf, gD_ft, gD_dec_t, gD_dec_f, putO_nothing, putO_lo, putO_hi, mix_get, putO_some, putO_none, lit_t, lit_c, ev_t, ev_c, okind, vpre, vpure, binV_int, binV_str, binPre_int, binPre_str, intBin, intPre, strBin, strPre, popTo, argSlots, lenV_own, lenV_sl, lenV_nils, lenV_str, fldV, fldAV, subCells, idxAV_own, idxVV, idxAAV, idxSV, loadV_ptr, loadV_rp_agg, loadV_rp_int, sliceV, sliceSV, boundV, szIs, storeOp, storeS, setRowV, eff, extV, buildV, splice, eqSV, fitsL, eqCells, eqCell, minmaxV, binBV, nilCheckV, bytesV, V.cells, V.stays, upd_same, upd_upd, true_implies, false_implies, implies_true, keepS_eq, List.getD_cons_zero, List.getD_cons_succ, List.getD_nil, List.map_cons, List.map_nil, List.length_cons, List.length_nil, List.drop_succ_cons, List.drop_zero, List.take_succ_cons, List.take_zero, List.set_cons_zero, List.set_cons_succ, List.append_nil, List.nil_append, List.cons_append, List.all_cons, List.all_nil, List.getElem?_cons_zero, List.getElem?_cons_succ, List.contains_cons, List.contains_nil, Option.isSome_some, Option.map_some, Option.map_none, true_and, and_true, and_self, Int.reduceEq, Int.reduceNe, Int.reduceLT, Int.reduceLE, Int.reduceGT, Int.reduceGE, Nat.reduceEqDiff, Nat.reduceAdd, Nat.reduceMul, Nat.reduceLeDiff, Nat.reduceSub, Nat.reduceLT, Nat.reduceBEq, Nat.zero_add, Nat.add_zero, ↓reduceIte, reduceCtorEq, ← decide_not, Bool.not_true, Bool.not_false, Bool.false_eq_true, Bool.or_true, Bool.true_or, Bool.or_false, Bool.false_or, Bool.true_and, Bool.and_true, Bool.and_self, decide_true, decide_false, decide_eq_true_eq, Orc.add_get, h0, h3, lenV_encNs, hlt2, idxAV_encNs hlt, Nd.cells, loadV_rp_encI, lenV_encI])
        refine And.intro (fun g => hbig) (fun g => ⟨inR_i64 (by omega) (by omega), _, ?_, i + 1, by omega, rfl, ?_, by simp⟩)
        · omega
        · intro x hx
          rw [List.take_succ_eq_append_getElem hlt, List.mem_append] at hx
          rcases hx with hx | hx
          · exact hp x hx
          · simp at hx; subst hx; omega
      · have hie : i = l.length := by omega
        subst hie
        rw [List.take_length] at hp
        have hF : Fine l := ⟨by omega, fun x hx => by have := hp x hx; omega⟩
        have hS : l.length ≤ 10000 ∧ ∀ x ∈ l, x.words.length ≤ 1000000000 := ⟨by omega, fun x hx => by have := hp x hx; omega⟩
        have hlt2 : ¬ ((l.length : Int) < l.length) := by omega
        refine Runs.mix 9 ?_
        (refine Runs.of_step (((((((((Orc.nothing.add dec 9 [] (.bool true) awake_c).add dec 10 [encNs l] _ (own_c l hS)).add dec 11 [encNs l] _ (countv_c l hF)).add dec 12 [encNs l] _ (count_c l hF)).add dec 13 [encNs l] _ (isv_c l hF)).add dec 14 [encNs l] _ (is_c l hF)).add dec 15 [encNs l] _ (checkv_c l hF)).add dec 16 [encNs l] _ (check_c l hF)).add dec 17 [encNs l, encNs l] _ (same5_c l l hF hF)) 300 ?_; simp -implicitDefEqProofs only [s_r_nil, Ret_one, Ret_two, Ret_three, Ret_none, Ret_cell_one, Ret_cell_two, onSome_some, s_r_stop, s_r_inBlock, s_r_ops_nil, s_r_skip, s_r_seq, s_r_block, s_r_exit, exR_some, s_r_ret, s_r_loop, s_r_reg, s_r_dreg, s_d_nil, s_r_cond, cR_t, cR_f, cR_dec, s_r_ins, insR_0, insR_1, insR_2, insR_3, insR_4, callR_some, callR_none, callV_eq, callD_some, callD_none, contR_some, storeR_some, s_d_ins, insD_0, insD_1, insD_2, insD_3, contD_some, storeD_some, s_r_gins, gR_tup, gR_tt, gR_ff, gR_tf, gR_ft, gR_dec_t, gR_dec_f, s_d_gins, gD_tup, gD_tt, gD_ff, gD_tf, gD_ft, gD_dec_t, gD_dec_f, putO_nothing, putO_lo, putO_hi, mix_get, putO_some, putO_none, lit_t, lit_c, ev_t, ev_c, okind, vpre, vpure, binV_int, binV_str, binPre_int, binPre_str, intBin, intPre, strBin, strPre, popTo, argSlots, lenV_own, lenV_sl, lenV_nils, lenV_str, fldV, fldAV, subCells, idxAV_own, idxVV, idxAAV, idxSV, loadV_ptr, loadV_rp_agg, loadV_rp_int, sliceV, sliceSV, boundV, szIs, storeOp, storeS, setRowV, eff, extV, buildV, splice, eqSV, fitsL, eqCells, eqCell, minmaxV, binBV, nilCheckV, bytesV, V.cells, V.stays, upd_same, upd_upd, true_implies, false_implies, implies_true, keepS_eq, List.getD_cons_zero, List.getD_cons_succ, List.getD_nil, List.map_cons, List.map_nil, List.length_cons, List.length_nil, List.drop_succ_cons, List.drop_zero, List.take_succ_cons, List.take_zero, List.set_cons_zero, List.set_cons_succ, List.append_nil, List.nil_append, List.cons_append, List.all_cons, List.all_nil, List.getElem?_cons_zero, List.getElem?_cons_succ, List.contains_cons, List.contains_nil, Option.isSome_some, Option.map_some, Option.map_none, true_and, and_true, and_self, Int.reduceEq, Int.reduceNe, Int.reduceLT, Int.reduceLE, Int.reduceGT, Int.reduceGE, Nat.reduceEqDiff, Nat.reduceAdd, Nat.reduceMul, Nat.reduceLeDiff, Nat.reduceSub, Nat.reduceLT, Nat.reduceBEq, Nat.zero_add, Nat.add_zero, ↓reduceIte, reduceCtorEq, ← decide_not, Bool.not_true, Bool.not_false, Bool.false_eq_true, Bool.or_true, Bool.true_or, Bool.or_false, Bool.false_or, Bool.true_and, Bool.and_true, Bool.and_self, decide_true, decide_false, decide_eq_true_eq, Orc.add_get, Orc.add_ne, ne_eq, not_false_eq_true, h0, h3, hlt2, lenV_encNs])
        refine effR_new fun id5 σ1 s1 a5 f5 => ?_
        simp -implicitDefEqProofs only [s_r_nil, Ret_one, Ret_two, Ret_three, Ret_none, Ret_cell_one, Ret_cell_two, onSome_some, s_r_stop, s_r_inBlock, s_r_ops_nil, s_r_skip, s_r_seq, s_r_block, s_r_exit, exR_some, s_r_ret, s_r_loop, s_r_reg, s_r_dreg, s_d_nil, s_r_cond, cR_t, cR_f, cR_dec, s_r_ins, insR_0, insR_1, insR_2, insR_3, insR_4, callR_some, callR_none, callV_eq, callD_some, callD_none, contR_some, storeR_some, s_d_ins, insD_0, insD_1, insD_2, insD_3, contD_some, storeD_some, s_r_gins, gR_tup, gR_tt, gR_ff, gR_tf, gR_ft, gR_dec_t, gR_dec_f, s_d_gins, gD_tup, gD_tt, gD_ff, gD_tf, gD_ft, gD_dec_t, gD_dec_f, putO_nothing, putO_lo, putO_hi, mix_get, putO_some, putO_none, lit_t, lit_c, ev_t, ev_c, okind, vpre, vpure, binV_int, binV_str, binPre_int, binPre_str, intBin, intPre, strBin, strPre, popTo, argSlots, lenV_own, lenV_sl, lenV_nils, lenV_str, fldV, fldAV, subCells, idxAV_own, idxVV, idxAAV, idxSV, loadV_ptr, loadV_rp_agg, loadV_rp_int, sliceV, sliceSV, boundV, szIs, storeOp, storeS, setRowV, eff, extV, buildV, splice, eqSV, fitsL, eqCells, eqCell, minmaxV, binBV, nilCheckV, bytesV, V.cells, V.stays, upd_same, upd_upd, true_implies, false_implies, implies_true, keepS_eq, List.getD_cons_zero, List.getD_cons_succ, List.getD_nil, List.map_cons, List.map_nil, List.length_cons, List.length_nil, List.drop_succ_cons, List.drop_zero, List.take_succ_cons, List.take_zero, List.set_cons_zero, List.set_cons_succ, List.append_nil, List.nil_append, List.cons_append, List.all_cons, List.all_nil, List.getElem?_cons_zero, List.getElem?_cons_succ, List.contains_cons, List.contains_nil, Option.isSome_some, Option.map_some, Option.map_none, true_and, and_true, and_self, Int.reduceEq, Int.reduceNe, Int.reduceLT, Int.reduceLE, Int.reduceGT, Int.reduceGE, Nat.reduceEqDiff, Nat.reduceAdd, Nat.reduceMul, Nat.reduceLeDiff, Nat.reduceSub, Nat.reduceLT, Nat.reduceBEq, Nat.zero_add, Nat.add_zero, ↓reduceIte, reduceCtorEq, ← decide_not, Bool.not_true, Bool.not_false, Bool.false_eq_true, Bool.or_true, Bool.true_or, Bool.or_false, Bool.false_or, Bool.true_and, Bool.and_true, Bool.and_self, decide_true, decide_false, decide_eq_true_eq, a5, Sm.cells, h0, lenV_encNs, Orc.add_get, Orc.add_ne, ne_eq, not_false_eq_true]
        refine effR_new fun id7 σ2 s2 a7 f7 => ?_
        have a5 := s2 id5 _ upd_same
        have n57 : id5 ≠ id7 := by rintro rfl; rw [upd_same] at f7; cases f7
        simp -implicitDefEqProofs only [s_r_nil, Ret_one, Ret_two, Ret_three, Ret_none, Ret_cell_one, Ret_cell_two, onSome_some, s_r_stop, s_r_inBlock, s_r_ops_nil, s_r_skip, s_r_seq, s_r_block, s_r_exit, exR_some, s_r_ret, s_r_loop, s_r_reg, s_r_dreg, s_d_nil, s_r_cond, cR_t, cR_f, cR_dec, s_r_ins, insR_0, insR_1, insR_2, insR_3, insR_4, callR_some, callR_none, callV_eq, callD_some, callD_none, contR_some, storeR_some, s_d_ins, insD_0, insD_1, insD_2, insD_3, contD_some, storeD_some, s_r_gins, gR_tup, gR_tt, gR_ff, gR_tf, gR_ft, gR_dec_t, gR_dec_f, s_d_gins, gD_tup, gD_tt, gD_ff, gD_tf, gD_ft, gD_dec_t, gD_dec_f, putO_nothing, putO_lo, putO_hi, mix_get, putO_some, putO_none, lit_t, lit_c, ev_t, ev_c, okind, vpre, vpure, binV_int, binV_str, binPre_int, binPre_str, intBin, intPre, strBin, strPre, popTo, argSlots, lenV_own, lenV_sl, lenV_nils, lenV_str, fldV, fldAV, subCells, idxAV_own, idxVV, idxAAV, idxSV, loadV_ptr, loadV_rp_agg, loadV_rp_int, sliceV, sliceSV, boundV, szIs, storeOp, storeS, setRowV, eff, extV, buildV, splice, eqSV, fitsL, eqCells, eqCell, minmaxV, binBV, nilCheckV, bytesV, V.cells, V.stays, upd_same, upd_upd, true_implies, false_implies, implies_true, keepS_eq, List.getD_cons_zero, List.getD_cons_succ, List.getD_nil, List.map_cons, List.map_nil, List.length_cons, List.length_nil, List.drop_succ_cons, List.drop_zero, List.take_succ_cons, List.take_zero, List.set_cons_zero, List.set_cons_succ, List.append_nil, List.nil_append, List.cons_append, List.all_cons, List.all_nil, List.getElem?_cons_zero, List.getElem?_cons_succ, List.contains_cons, List.contains_nil, Option.isSome_some, Option.map_some, Option.map_none, true_and, and_true, and_self, Int.reduceEq, Int.reduceNe, Int.reduceLT, Int.reduceLE, Int.reduceGT, Int.reduceGE, Nat.reduceEqDiff, Nat.reduceAdd, Nat.reduceMul, Nat.reduceLeDiff, Nat.reduceSub, Nat.reduceLT, Nat.reduceBEq, Nat.zero_add, Nat.add_zero, ↓reduceIte, reduceCtorEq, ← decide_not, Bool.not_true, Bool.not_false, Bool.false_eq_true, Bool.or_true, Bool.true_or, Bool.or_false, Bool.false_or, Bool.true_and, Bool.and_true, Bool.and_self, decide_true, decide_false, decide_eq_true_eq, a5, a7, upd_ne n57, Sm.cells, h0, lenV_encNs, Orc.add_get, Orc.add_ne, ne_eq, not_false_eq_true, beq_self_eq_true]
        have g5 := s1.updK f5 (o := ⟨31, 4, [.agg (countR l).1.cells]⟩)
        exact RetV.pure ((g5.trans s2).updK (g5.none f7)) rfl
end Go.Vc
/- What an argument of nodes is. -/
namespace Go.Vc
open Go.Proofs

set_option maxRecDepth 100000 in
theorem maps_of {α : Type} {f : α → V} {p : α → Prop} : ∀ {rows : List V}, (∀ r ∈ rows, ∃ x, r = f x ∧ p x) → ∃ l : List α, rows = l.map f ∧ ∀ x ∈ l, p x
  | [], _ => ⟨[], rfl, by simp⟩
  | r :: rs, h => by
    obtain ⟨x, rfl, hx⟩ := h r (by simp)
    obtain ⟨l, rfl, hl⟩ := maps_of fun q hq => h q (List.mem_cons_of_mem _ hq)
    exact ⟨x :: l, rfl, by simpa using ⟨hx, hl⟩⟩

def inI (m : Int) : Prop := -9223372036854775808 ≤ m ∧ m ≤ 9223372036854775807
def Sty.inI (s : Sty) : Prop := Vc.inI s.top ∧ Vc.inI s.bottom ∧ Vc.inI s.padTop ∧ Vc.inI s.padBottom ∧ Vc.inI s.inset ∧ Vc.inI s.orphans ∧ Vc.inI s.widows ∧ Vc.inI s.head ∧ Vc.inI s.before ∧ Vc.inI s.after ∧ Vc.inI s.inside ∧ Vc.inI s.clear
/-- a node that is read -/
def Nd.real (x : Nd) : Prop := (Vc.inI x.kind ∧ Vc.inI x.size ∧ x.st.inI ∧ Vc.inI x.line ∧ Vc.inI x.space ∧ Vc.inI x.side ∧ Vc.inI x.w ∧ Vc.inI x.h) ∧ x.words.length ≤ 17592186043904 ∧ ∀ n ∈ x.words, Vc.inI n

section
variable {P : Program} {n : Nat} {t : TypeId} {vs : List V}
set_option maxRecDepth 100000 in
theorem shpC_int {k : IntKind} (ht : P.underlying t = some (.int k)) (h : ShpC P (n + 1) t vs) : ∃ m, vs = [.int k m] ∧ (Lit.int k m).wf = true := by
  simpa only [ShpC, ht] using h
set_option maxRecDepth 100000 in
theorem shpC_string (ht : P.underlying t = some .string) (h : ShpC P (n + 1) t vs) : ∃ s : List UInt8, vs = [.str s] ∧ s.length ≤ reachBytes := by
  simpa only [ShpC, ht] using h
set_option maxRecDepth 100000 in
theorem shpC_slice {e : TypeId} (ht : P.underlying t = some (.slice e)) (h : ShpC P (n + 1) t vs) : ∃ rows, vs = [.sl (P.cellsOf e) rows] ∧ rows.length * P.bytesOf e ≤ reachBytes ∧ ∀ r ∈ rows, ∃ cs, ShpC P n e cs ∧ r = rowOf (aggT P e) cs := by
  simpa only [ShpC, ht] using h
set_option maxRecDepth 100000 in
theorem shpC_struct {fs : Array Field} (ht : P.underlying t = some (.struct fs)) (h : ShpC P (n + 1) t vs) : ShpFs (ShpC P n) fs.toList vs := by
  simpa only [ShpC, ht] using h
end
set_option maxRecDepth 100000 in
theorem cells_3 : Try.prog.cellsOf 3 = 1 := by kernel_rfl
set_option maxRecDepth 100000 in
theorem cells_28 : Try.prog.cellsOf 28 = 20 := by kernel_rfl
set_option maxRecDepth 100000 in
theorem agg_3 : aggT Try.prog 3 = false := by kernel_rfl
set_option maxRecDepth 100000 in
theorem agg_22 : aggT Try.prog 22 = false := by kernel_rfl
set_option maxRecDepth 100000 in
theorem agg_28 : aggT Try.prog 28 = true := by kernel_rfl

theorem bytes_3 : Try.prog.bytesOf 3 = 8 := by kernel_rfl
theorem bytes_28 : Try.prog.bytesOf 28 = 176 := by kernel_rfl
set_option maxRecDepth 100000 in
theorem shp_int {n : Nat} {vs : List V} (h : ShpC Try.prog (n + 1) 3 vs) : ∃ m, vs = [vI m] ∧ inI m := by
  obtain ⟨m, h, hw⟩ := shpC_int Try.underlying3 h
  exact ⟨m, h, by simp [Lit.wf, IntKind.min, IntKind.max, IntKind.signed, IntKind.bits] at hw; unfold inI; omega⟩
set_option maxRecDepth 100000 in
theorem shp_ints {n : Nat} {vs : List V} (h : ShpC Try.prog (n + 2) 26 vs) : ∃ l, vs = [encI l] ∧ l.length ≤ 17592186043904 ∧ ∀ n ∈ l, inI n := by
  obtain ⟨rows, rfl, hl, h⟩ := shpC_slice Try.underlying26 h
  obtain ⟨l, rfl, hp⟩ := maps_of (f := vI) (p := inI) fun r hr => by
    obtain ⟨cs, hc, rfl⟩ := h r hr
    obtain ⟨m, rfl, hm⟩ := shp_int hc
    exact ⟨m, by rw [agg_3]; rfl, hm⟩
  rw [bytes_3] at hl
  simp only [List.length_map, reachBytes] at hl
  exact ⟨l, by rw [cells_3]; rfl, by omega, hp⟩
set_option maxRecDepth 100000 in
theorem shp_style {n : Nat} {vs : List V} (h : ShpC Try.prog (n + 2) 25 vs) : ∃ s : Sty, vs = s.cells ∧ s.inI := by
  replace h := shpC_struct Try.underlying25 h
  simp only [ShpFs] at h
  obtain ⟨_, _, rfl, h1, _, _, rfl, h2, _, _, rfl, h3, _, _, rfl, h4, _, _, rfl, h5, _, _, rfl, h6, _, _, rfl, h7, _, _, rfl, h8, _, _, rfl, h9, _, _, rfl, h10, _, _, rfl, h11, _, _, rfl, h12, rfl⟩ := h
  obtain ⟨m1, rfl, g1⟩ := shp_int h1
  obtain ⟨m2, rfl, g2⟩ := shp_int h2
  obtain ⟨m3, rfl, g3⟩ := shp_int h3
  obtain ⟨m4, rfl, g4⟩ := shp_int h4
  obtain ⟨m5, rfl, g5⟩ := shp_int h5
  obtain ⟨m6, rfl, g6⟩ := shp_int h6
  obtain ⟨m7, rfl, g7⟩ := shp_int h7
  obtain ⟨m8, rfl, g8⟩ := shp_int h8
  obtain ⟨m9, rfl, g9⟩ := shp_int h9
  obtain ⟨m10, rfl, g10⟩ := shp_int h10
  obtain ⟨m11, rfl, g11⟩ := shp_int h11
  obtain ⟨m12, rfl, g12⟩ := shp_int h12
  exact ⟨⟨m1, m2, m3, m4, m5, m6, m7, m8, m9, m10, m11, m12⟩, rfl, g1, g2, g3, g4, g5, g6, g7, g8, g9, g10, g11, g12⟩
set_option maxRecDepth 100000 in
theorem shp_node {n : Nat} {vs : List V} (h : ShpC Try.prog (n + 3) 28 vs) : ∃ x : Nd, vs = x.cells ∧ x.real := by
  replace h := shpC_struct Try.underlying28 h
  simp only [ShpFs] at h
  obtain ⟨_, _, rfl, h1, _, _, rfl, h2, _, _, rfl, h3, _, _, rfl, h4, _, _, rfl, h5, _, _, rfl, h6, _, _, rfl, h7, _, _, rfl, h8, _, _, rfl, h9, rfl⟩ := h
  obtain ⟨m1, rfl, g1⟩ := shp_int h1
  obtain ⟨m2, rfl, g2⟩ := shp_int h2
  obtain ⟨s, rfl, g3⟩ := shp_style h3
  obtain ⟨m4, rfl, g4⟩ := shp_int h4
  obtain ⟨m5, rfl, g5⟩ := shp_int h5
  obtain ⟨ws, rfl, g6, g6'⟩ := shp_ints h6
  obtain ⟨m7, rfl, g7⟩ := shp_int h7
  obtain ⟨m8, rfl, g8⟩ := shp_int h8
  obtain ⟨m9, rfl, g9⟩ := shp_int h9
  exact ⟨⟨m1, m2, s, m4, m5, ws, m7, m8, m9⟩, rfl, ⟨g1, g2, g3, g4, g5, g7, g8, g9⟩, g6, g6'⟩
set_option maxRecDepth 100000 in
theorem shp_nodes {n : Nat} {vs : List V} (h : ShpC Try.prog (n + 4) 22 vs) : ∃ l, vs = [encNs l] ∧ l.length ≤ 800000000000 ∧ ∀ x ∈ l, x.real := by
  obtain ⟨rows, rfl, hl, h⟩ := shpC_slice Try.underlying22 h
  obtain ⟨l, rfl, hp⟩ := maps_of (f := encN) (p := Nd.real) fun r hr => by
    obtain ⟨cs, hc, rfl⟩ := h r hr
    obtain ⟨x, rfl, hx⟩ := shp_node hc
    exact ⟨x, by rw [agg_28]; rfl, hx⟩
  rw [bytes_28] at hl
  simp only [List.length_map, reachBytes] at hl
  exact ⟨l, by rw [cells_28]; rfl, by omega, hp⟩
set_option maxRecDepth 100000 in
theorem arg_nodes {n : Nat} {vs : List V} (h : ShpC Try.prog (n + 4) 22 vs) : ∃ l, argOf Try.prog 22 vs = encNs l ∧ l.length ≤ 800000000000 ∧ ∀ x ∈ l, x.real := by
  obtain ⟨l, rfl, h1, h2⟩ := shp_nodes h
  exact ⟨l, by unfold argOf; rw [agg_22]; rfl, h1, h2⟩
end Go.Vc
/- Two documents, one behind the other; a node's inner nodes: the plain side. -/
namespace Go.Vc
open Go.Proofs

/-! ### rows within rows: windows -/
theorem rowsB_window (l : List Nd) (s k : Nat) : ∀ (m a e : Nat), e - a < m → e ≤ k → s + e ≤ l.length → rowsB ((l.drop s).take k) a e = rowsB l (s + a) (s + e)
  | 0, _, _, h, _, _ => by omega
  | m + 1, a, e, hm, hk, he => by
    rw [rowsB, rowsB]
    by_cases hae : a < e
    · rw [dif_pos hae, dif_pos (by omega)]
      have hg : ((l.drop s).take k)[a]? = l[s + a]? := by rw [List.getElem?_take, if_pos (by omega), List.getElem?_drop]
      rw [hg]
      cases hx : l[s + a]? with
      | none => rfl
      | some x =>
        simp only
        by_cases hc : 1 ≤ x.size ∧ x.size ≤ (e : Int) - a
        · rw [dif_pos hc, dif_pos (by omega)]
          rw [rowsB_window l s k m (a + 1) (a + x.size.toNat) (by omega) (by omega) (by omega), rowsB_window l s k m (a + x.size.toNat) e (by omega) hk he]
          rw [show s + (a + 1) = s + a + 1 by omega, show s + (a + x.size.toNat) = s + a + x.size.toNat by omega]
        · rw [dif_neg hc, dif_neg (by omega)]
    · rw [dif_neg hae, dif_neg (by omega)]

theorem rowsB_join (l : List Nd) : ∀ (m a e f : Nat), e - a < m → a ≤ e → e ≤ f → rowsB l a e = true → rowsB l e f = true → rowsB l a f = true
  | 0, _, _, _, h, _, _, _, _ => by omega
  | m + 1, a, e, f, hm, hae, hef, h1, h2 => by
    rcases Nat.lt_or_ge a e with h | h
    · rw [rowsB, dif_pos h] at h1
      rw [rowsB, dif_pos (by omega)]
      cases hx : l[a]? with
      | none => rw [hx] at h1; simp at h1
      | some x =>
        rw [hx] at h1
        simp only at h1 ⊢
        split at h1
        · rename_i hc
          rw [dif_pos (by omega)]
          simp only [Bool.and_eq_true] at h1 ⊢
          exact ⟨h1.1, rowsB_join l m (a + x.size.toNat) e f (by omega) (by omega) hef h1.2 h2⟩
        · cases h1
    · have : a = e := by omega
      subst this; exact h2

theorem rowsB_inner (l : List Nd) : ∀ (m a e : Nat), e - a < m → e ≤ l.length → rowsB l a e = true → ∀ k, a ≤ k → (h : k < e) → (h2 : k < l.length) → rowsB l (k + 1) (k + l[k].size.toNat) = true
  | 0, _, _, h, _, _ => by omega
  | m + 1, a, e, hm, he, hr => by
    intro k hk hke h2
    have hae : a < e := by omega
    have ha : a < l.length := by omega
    rw [rowsB, dif_pos hae] at hr
    have hga : l[a]? = some l[a] := by simp [ha]
    rw [hga] at hr
    simp only at hr
    split at hr
    · rename_i hx
      simp only [Bool.and_eq_true] at hr
      obtain ⟨⟨h3, h4⟩, h5⟩ := hr
      by_cases hka : k = a
      · subst hka; exact h4
      · by_cases hin : k < a + l[a].size.toNat
        · exact rowsB_inner l m (a + 1) (a + l[a].size.toNat) (by omega) (by omega) h4 k (by omega) hin h2
        · exact rowsB_inner l m (a + l[a].size.toNat) e (by omega) he h5 k (by omega) hke h2
    · cases hr

theorem isB_append {a b : List Nd} (ha : isB a = true) (hb : isB b = true) : isB (a ++ b) = true := by
  simp only [isB, Bool.and_eq_true] at ha hb ⊢
  refine ⟨by rw [List.all_append, ha.1, hb.1]; rfl, ?_⟩
  have h1 := rowsB_window (a ++ b) 0 a.length (a.length + 1) 0 a.length (by omega) (by omega) (by simp)
  have h2 := rowsB_window (a ++ b) a.length b.length (b.length + 1) 0 b.length (by omega) (by omega) (by simp)
  simp only [List.drop_zero, List.take_left, Nat.zero_add] at h1
  simp only [List.drop_left, List.take_length, Nat.add_zero] at h2
  rw [List.length_append]
  exact rowsB_join (a ++ b) (a.length + 1) 0 a.length (a.length + b.length) (by omega) (by omega) (by omega) (by rw [← h1]; exact ha.2) (by rw [← h2]; exact hb.2)

theorem isB_window {l : List Nd} (h : isB l = true) {s e : Nat} (hse : s ≤ e) (he : e ≤ l.length) (hr : rowsB l s e = true) : isB ((l.drop s).take (e - s)) = true := by
  simp only [isB, Bool.and_eq_true] at h ⊢
  have hlen : ((l.drop s).take (e - s)).length = e - s := by simp; omega
  refine ⟨List.all_eq_true.2 fun x hx => List.all_eq_true.1 h.1 x (List.mem_of_mem_drop (List.mem_of_mem_take hx)), ?_⟩
  rw [hlen]
  have := rowsB_window l s (e - s) (e - s + 1) 0 (e - s) (by omega) (by omega) (by omega)
  rw [this, Nat.add_zero, show s + (e - s) = e by omega]
  exact hr

/-! ### sums -/
def hof (x : Nd) : Int := if x.kind = 1 then x.st.top + x.st.bottom + x.st.padTop + x.st.padBottom + x.st.head else if x.kind = 2 then x.line * x.words.length else x.h
def pof (x : Nd) : Int := if x.kind = 1 then 0 else if x.kind = 2 then x.words.length else 1
def hsum : List Nd → Int
  | [] => 0
  | x :: l => hof x + hsum l
def psum : List Nd → Int
  | [] => 0
  | x :: l => pof x + psum l
theorem hsum_append (a b : List Nd) : hsum (a ++ b) = hsum a + hsum b := by
  induction a with
  | nil => simp [hsum]
  | cons x a ih => simp only [List.cons_append, hsum, ih]; omega
theorem psum_append (a b : List Nd) : psum (a ++ b) = psum a + psum b := by
  induction a with
  | nil => simp [psum]
  | cons x a ih => simp only [List.cons_append, psum, ih]; omega
theorem hof_nonneg {x : Nd} (h : x.ok = true) : 0 ≤ hof x := by
  obtain ⟨p1, p2, p3, p4, p5, p6⟩ := ok_numbers h
  unfold hof
  split
  · rename_i hk
    obtain ⟨q1, q2, q3, q4, q5⟩ := p6 hk
    omega
  · split
    · exact Int.mul_nonneg p2 (by omega)
    · exact p4
theorem hsum_nonneg {l : List Nd} (h : l.all Nd.ok = true) : 0 ≤ hsum l := by
  induction l with
  | nil => simp [hsum]
  | cons x l ih =>
    simp only [List.all_cons, Bool.and_eq_true] at h
    have := hof_nonneg h.1
    have := ih h.2
    simp only [hsum]; omega

/-- the greatest depth, of the first nodes -/
def dm (l : List Nd) : Nat → Int
  | 0 => 0
  | i + 1 => match l[i]? with
    | some x => if x.kind = 1 then max (dm l i) (depthTo l i (i + 1)) else dm l i
    | none => dm l i
theorem dm_nonneg (l : List Nd) : ∀ i, 0 ≤ dm l i
  | 0 => by simp [dm]
  | i + 1 => by
    have := dm_nonneg l i
    simp only [dm]
    split
    · split <;> omega
    · omega

theorem oneR_hof {l : List Nd} {i : Nat} {x : Nd} {s : Sm} (hx : x.ok = true) (hs : 0 ≤ s.heights ∧ s.heights ≤ 1099511627777) : (oneR l i x s).heights = min (s.heights + hof x) 1099511627777 ∧ (oneR l i x s).pieces = s.pieces + pof x ∧
    (oneR l i x s).depth = (if x.kind = 1 then max s.depth (depthTo l i (i + 1)) else s.depth) ∧ (oneR l i x s).nodes = s.nodes := by
  obtain ⟨p1, p2, p3, p4, p5, p6⟩ := ok_numbers hx
  unfold oneR hof pof
  by_cases hk : x.kind = 1
  · obtain ⟨q1, q2, q3, q4, q5⟩ := p6 hk
    simp only [hk, if_true, plusB]
    refine ⟨by omega, by omega, trivial, trivial⟩
  · by_cases hk2 : x.kind = 2
    · rw [if_neg hk, if_pos hk2, if_neg hk, if_pos hk2, if_neg hk, if_pos hk2, if_neg hk]
      simp only []
      refine ⟨addN_eq hs p2 _, trivial, trivial, trivial⟩
    · rw [if_neg hk, if_neg hk2, if_neg hk, if_neg hk2, if_neg hk, if_neg hk2, if_neg hk]
      exact ⟨rfl, rfl, rfl, rfl⟩

theorem foldR_sums (l : List Nd) (hok : l.all Nd.ok = true) : ∀ i, i ≤ l.length → (foldR l ⟨0, 0, l.length, 0⟩ i) = ⟨dm l i, psum (l.take i), l.length, min (hsum (l.take i)) 1099511627777⟩
  | 0, _ => by simp [foldR, dm, psum, hsum]; omega
  | i + 1, hi => by
    have ih := foldR_sums l hok i (by omega)
    have hg : l[i]? = some l[i] := by simp [show i < l.length by omega]
    have hx := List.all_eq_true.1 hok _ (List.getElem_mem (show i < l.length by omega))
    have ht : l.take (i + 1) = l.take i ++ [l[i]] := List.take_succ_eq_append_getElem (by omega)
    have hn : 0 ≤ hsum (l.take i) := hsum_nonneg (List.all_eq_true.2 fun x hx => List.all_eq_true.1 hok x (List.mem_of_mem_take hx))
    have hh := hof_nonneg hx
    simp only [foldR, hg, ih]
    obtain ⟨g1, g2, g3, g4⟩ := oneR_hof (l := l) (i := i) (s := ⟨dm l i, psum (l.take i), l.length, min (hsum (l.take i)) 1099511627777⟩) hx ⟨by simp only; omega, by simp only; omega⟩
    generalize oneR l i l[i] ⟨dm l i, psum (l.take i), l.length, min (hsum (l.take i)) 1099511627777⟩ = r at *
    obtain ⟨r1, r2, r3, r4⟩ := r
    simp only at g1 g2 g3 g4
    subst g1 g2 g3 g4
    simp only [dm, hg, ht, psum_append, hsum_append, psum, hsum, Sm.mk.injEq, Int.add_zero, true_and]
    omega

theorem countR_sums {l : List Nd} (h : isB l = true) : countR l = (⟨dm l l.length, psum l, l.length, min (hsum l) 1099511627777⟩, 0) := by
  have hok : l.all Nd.ok = true ∧ rowsB l 0 l.length = true := by simpa [isB] using h
  unfold countR
  rw [if_pos h, foldR_sums l hok.1 l.length (Nat.le_refl _), List.take_length]
theorem countR_not {l : List Nd} (h : isB l = false) : countR l = (⟨0, 0, 0, 0⟩, 4) := by
  unfold countR
  rw [h]; rfl

/-! ### depths -/
theorem depthTo_congr {l l' : List Nd} {i : Nat} : ∀ k, (∀ j, j < k → l[j]? = l'[j]?) → depthTo l i k = depthTo l' i k
  | 0, _ => rfl
  | k + 1, h => by
    simp only [depthTo]
    rw [depthTo_congr k (fun j hj => h j (by omega)), h k (by omega)]
theorem dm_congr {l l' : List Nd} : ∀ i, (∀ j, j < i → l[j]? = l'[j]?) → dm l i = dm l' i
  | 0, _ => rfl
  | i + 1, h => by
    simp only [dm]
    rw [dm_congr i (fun j hj => h j (by omega)), h i (by omega), depthTo_congr (i + 1) h]

/-- behind a document, nothing of it is around -/
theorem depthTo_behind (a b : List Nd) (ha : isB a = true) (j : Nat) : ∀ k, depthTo (a ++ b) (a.length + j) (a.length + k) = depthTo b j k := by
  have hok : a.all Nd.ok = true ∧ rowsB a 0 a.length = true := by simpa [isB] using ha
  have h0 : ∀ k, k ≤ a.length → depthTo (a ++ b) (a.length + j) k = 0 := by
    intro k
    induction k with
    | zero => intro _; rfl
    | succ k ih =>
      intro hk
      obtain ⟨z1, z2, z3⟩ := rowsB_size a (a.length + 1) 0 a.length (by omega) (by omega) hok.2 k (by omega) (by omega) (by omega)
      have hg : (a ++ b)[k]? = some a[k] := by rw [List.getElem?_append_left (by omega)]; simp [show k < a.length by omega]
      simp only [depthTo, ih (by omega), hg]
      rw [if_neg (by omega)]
      rfl
  intro k
  induction k with
  | zero => simpa [depthTo] using h0 a.length (Nat.le_refl _)
  | succ k ih =>
    have hg : (a ++ b)[a.length + k]? = b[k]? := by rw [List.getElem?_append_right (by omega)]; congr 1; omega
    rw [← Nat.add_assoc]
    simp only [depthTo, ih, hg]
    congr 1
    cases b[k]? with
    | none => rfl
    | some y =>
      simp only
      by_cases hc : y.kind = 1 ∧ (j : Int) < k + y.size
      · rw [if_pos hc, if_pos ⟨hc.1, by omega⟩]
      · rw [if_neg hc, if_neg (fun h => hc ⟨h.1, by omega⟩)]
theorem dm_behind (a b : List Nd) (ha : isB a = true) : ∀ j, dm (a ++ b) (a.length + j) = max (dm a a.length) (dm b j)
  | 0 => by
    have := dm_nonneg a a.length
    rw [Nat.add_zero, dm_congr (l := a ++ b) (l' := a) a.length (fun j hj => List.getElem?_append_left hj)]
    simp only [dm]; omega
  | j + 1 => by
    have ih := dm_behind a b ha j
    have hg : (a ++ b)[a.length + j]? = b[j]? := by rw [List.getElem?_append_right (by omega)]; congr 1; omega
    have hd := depthTo_behind a b ha j (j + 1)
    rw [← Nat.add_assoc] at hd ⊢
    simp only [dm, hg, ih]
    cases b[j]? with
    | none => rfl
    | some y =>
      simp only
      split
      · rw [hd]; omega
      · rfl

theorem countR_append {a b : List Nd} (ha : isB a = true) (hb : isB b = true) : countR (a ++ b) = (⟨max (countR a).1.depth (countR b).1.depth, (countR a).1.pieces + (countR b).1.pieces, (countR a).1.nodes + (countR b).1.nodes,
    min ((countR a).1.heights + (countR b).1.heights) 1099511627777⟩, 0) := by
  rw [countR_sums (isB_append ha hb), countR_sums ha, countR_sums hb]
  have h1 : a.all Nd.ok = true ∧ rowsB a 0 a.length = true := by simpa [isB] using ha
  have h2 : b.all Nd.ok = true ∧ rowsB b 0 b.length = true := by simpa [isB] using hb
  have g1 := hsum_nonneg h1.1
  have g2 := hsum_nonneg h2.1
  simp only [List.length_append, dm_behind a b ha, psum_append, hsum_append, Prod.mk.injEq, Sm.mk.injEq, and_true, true_and, Int.natCast_add]
  omega

/-! ### a block and what is within -/
theorem depthTo_within (x : Nd) (l : List Nd) (hk : x.kind = 1) (hs : x.size = l.length + 1) (j : Nat) (hj : j < l.length) : ∀ k, depthTo (x :: l) (j + 1) (k + 1) = 1 + depthTo l j k
  | 0 => by
    simp only [depthTo, List.getElem?_cons_zero]
    rw [if_pos ⟨hk, by omega⟩]; rfl
  | k + 1 => by
    have ih := depthTo_within x l hk hs j hj k
    rw [depthTo, ih, depthTo, List.getElem?_cons_succ, Int.add_assoc]
    congr 1
    congr 1
    cases l[k]? with
    | none => rfl
    | some y =>
      simp only
      by_cases hc : y.kind = 1 ∧ (j : Int) < k + y.size
      · rw [if_pos hc, if_pos ⟨hc.1, by omega⟩]
      · rw [if_neg hc, if_neg (fun h => hc ⟨h.1, by omega⟩)]
theorem dm_within (x : Nd) (l : List Nd) (hk : x.kind = 1) (hs : x.size = l.length + 1) : ∀ j, j ≤ l.length → dm (x :: l) (j + 1) = 1 + dm l j
  | 0, _ => by
    simp only [dm, depthTo, List.getElem?_cons_zero, hk, if_true]
    rw [if_pos ⟨trivial, by omega⟩]; rfl
  | j + 1, hj => by
    have ih := dm_within x l hk hs j (by omega)
    have hd := depthTo_within x l hk hs j (by omega) (j + 1)
    rw [dm, List.getElem?_cons_succ, ih, dm]
    cases l[j]? with
    | none => rfl
    | some y =>
      simp only
      split
      · rw [hd]; omega
      · rfl

/-- a node and all within it, and what is within -/
theorem countR_within {l : List Nd} (h : isB l = true) {i : Nat} (hi : i < l.length) : isB ((l.drop (i + 1)).take (l[i].size.toNat - 1)) = true ∧ isB ((l.drop i).take l[i].size.toNat) = true ∧
    (l[i].kind = 1 → (countR ((l.drop i).take l[i].size.toNat)).1.depth = (countR ((l.drop (i + 1)).take (l[i].size.toNat - 1))).1.depth + 1) ∧
    (countR ((l.drop i).take l[i].size.toNat)).1.nodes = (countR ((l.drop (i + 1)).take (l[i].size.toNat - 1))).1.nodes + 1 ∧
    (countR ((l.drop (i + 1)).take (l[i].size.toNat - 1))).1.heights ≤ (countR ((l.drop i).take l[i].size.toNat)).1.heights := by
  have hok : l.all Nd.ok = true ∧ rowsB l 0 l.length = true := by simpa [isB] using h
  obtain ⟨z1, z2, z3⟩ := rowsB_size l (l.length + 1) 0 l.length (by omega) (by omega) hok.2 i (by omega) hi hi
  have hin := rowsB_inner l (l.length + 1) 0 l.length (by omega) (by omega) hok.2 i (by omega) hi hi
  have hx := List.all_eq_true.1 hok.1 _ (List.getElem_mem hi)
  have hd : l.drop i = l[i] :: l.drop (i + 1) := List.drop_eq_getElem_cons hi
  have hg : l[i]? = some l[i] := by simp [hi]
  generalize l[i] = x at *
  have hall : (l.drop i).take x.size.toNat = x :: (l.drop (i + 1)).take (x.size.toNat - 1) := by
    rw [hd, show x.size.toNat = (x.size.toNat - 1) + 1 by omega, List.take_succ_cons]
    simp
  have h1 : isB ((l.drop (i + 1)).take (x.size.toNat - 1)) = true := by
    have := isB_window h (s := i + 1) (e := i + x.size.toNat) (by omega) (by omega) hin
    rwa [show i + x.size.toNat - (i + 1) = x.size.toNat - 1 by omega] at this
  have hrow : rowsB l i (i + x.size.toNat) = true := by
    rw [rowsB, dif_pos (by omega), hg]
    simp only
    rw [dif_pos (by omega), hin, rowsB_nil]
    simp only [Bool.and_true, Bool.or_eq_true, decide_eq_true_eq]
    exact z3
  have h2 : isB ((l.drop i).take x.size.toNat) = true := by
    have := isB_window h (s := i) (e := i + x.size.toNat) (by omega) (by omega) hrow
    rwa [show i + x.size.toNat - i = x.size.toNat by omega] at this
  refine ⟨h1, h2, ?_⟩
  rw [countR_sums h1, countR_sums h2, hall]
  have hlen : ((l.drop (i + 1)).take (x.size.toNat - 1)).length = x.size.toNat - 1 := by simp; omega
  have hn : 0 ≤ hsum ((l.drop (i + 1)).take (x.size.toNat - 1)) := by
    have := h1
    simp only [isB, Bool.and_eq_true] at this
    exact hsum_nonneg this.1
  have hh := hof_nonneg hx
  generalize (l.drop (i + 1)).take (x.size.toNat - 1) = t at *
  refine ⟨fun hk => ?_, ?_, ?_⟩
  · simp only [List.length_cons]
    rw [dm_within x t hk (by omega) t.length (Nat.le_refl _)]
    omega
  · simp
  · simp only [hsum]
    omega
end Go.Vc
/- Contracts: ValidParts. -/
namespace Go.Vc
open Go.Proofs

/-! ### a call with borrowed rows, once more -/
def V.flat : V → Bool
  | .agg vs => vs.all V.lone
  | v => v.lone
def V.flats : V → Bool
  | .tup vs => vs.all V.flat
  | v => v.flat
theorem RepAll.lone {μ μ' : Mu} {ow ow' : Nat → Prop} {w w' : World} : ∀ {vs : List V} {l : List Value}, vs.all V.lone = true → RepAll μ ow w vs l → RepAll μ' ow' w' vs l
  | [], l, _, h => by simpa [RepAll] using h
  | v :: vs, l, hv, h => by
    simp only [List.all_cons, Bool.and_eq_true] at hv
    simp only [RepAll] at h ⊢
    obtain ⟨x, xs, rfl, h1, h2⟩ := h
    exact ⟨x, xs, rfl, Rep.lone hv.1 h1, RepAll.lone hv.2 h2⟩
theorem Rep.flat {μ μ' : Mu} {ow ow' : Nat → Prop} {w w' : World} {v : V} {x : Value} (hv : v.flat = true) (h : Rep μ ow w v x) : Rep μ' ow' w' v x := by
  cases v <;> try exact Rep.lone hv h
  rename_i vs
  simp only [Rep] at h ⊢
  obtain ⟨vals, rfl, h1, h2⟩ := h
  exact ⟨vals, rfl, RepAll.lone hv h1, h2⟩
theorem RepAll.flat {μ μ' : Mu} {ow ow' : Nat → Prop} {w w' : World} : ∀ {vs : List V} {l : List Value}, vs.all V.flat = true → RepAll μ ow w vs l → RepAll μ' ow' w' vs l
  | [], l, _, h => by simpa [RepAll] using h
  | v :: vs, l, hv, h => by
    simp only [List.all_cons, Bool.and_eq_true] at hv
    simp only [RepAll] at h ⊢
    obtain ⟨x, xs, rfl, h1, h2⟩ := h
    exact ⟨x, xs, rfl, Rep.flat hv.1 h1, RepAll.flat hv.2 h2⟩
theorem Rep.flats {μ μ' : Mu} {ow ow' : Nat → Prop} {w w' : World} {v : V} {x : Value} (hv : v.flats = true) (h : Rep μ ow w v x) : Rep μ' ow' w' v x := by
  cases v <;> try exact Rep.flat hv h
  rename_i vs
  simp only [Rep] at h ⊢
  obtain ⟨vals, rfl, h1⟩ := h
  exact ⟨vals, rfl, RepAll.flat hv h1⟩

theorem PFun.lend {P : Program} {f : FuncId} {args args' : List V} {v : V} {σ : Store} (hw : WkL σ nost args args') (h : PFun P f args' v) (hv : v.flats = true) :
    Contract P f args σ fun r σ' => r = v ∧ σ' = σ := by
  refine ⟨(h nost).1, ?_⟩
  intro μ w vals hs hr
  have hs0 : Sat w (Owned μ nost) μ nost w := by
    have := hs.drop (nost_sub σ)
    exact ⟨Nat.le_refl _, rfl, rfl, rfl, fun _ _ _ => rfl, this.fin, this.inj, this.obj, fun b hb _ => hb⟩
  refine ((h nost).2 μ w vals hs0 (WkL.all hs hw hr)).mono ?_
  rintro e w' ⟨r, σ', μ', val, rfl, ⟨rfl, rfl⟩, hle, hs', hrep⟩
  have hno : ∀ b, ¬ Owned μ nost b := fun b ⟨_, _, _, _, h, _⟩ => by simp [nost] at h
  have hsame : ∀ b, b < w.heap.size → w'.heap[b]? = w.heap[b]? := fun b hb => hs'.same b hb (hno b)
  have hborn : ∀ id o, σ id = some o → μ' id = μ id := fun id o ho => hle id (fun e => by
    have := hs.obj id o ho; rw [e] at this; exact this)
  have hown : ∀ b, Owned μ' σ b → Owned μ σ b := fun b ⟨id, o, sz, cap, h1, h2⟩ => ⟨id, o, sz, cap, h1, hborn id o h1 ▸ h2⟩
  have hk : Keeps (Owned μ σ) (Owned μ' σ) w w' := fun b hb hn => ⟨fun ho => hn (hown b ho), hsame b hb⟩
  refine ⟨_, σ, μ', val, rfl, ⟨rfl, rfl⟩, hle, ?_, Rep.flats hv hrep⟩
  refine ⟨hs'.size, hs'.os, hs'.tape, hs'.output, fun b hb _ => hsame b hb, hs'.fin, ?_, ?_, fun b hb _ => hown b hb⟩
  · intro id id' o o' b sz cap sz' cap' h1 h2 h3 h4
    exact hs.inj id id' o o' b sz cap sz' cap' h1 h2 (hborn id o h1 ▸ h3) (hborn id' o' h2 ▸ h4)
  · intro id o ho
    rw [hborn id o ho]
    refine (hs.obj id o ho).mono hle hk hs'.size fun b sz cap hp => hsame b ?_
    exact Owned.lt hs ⟨id, o, sz, cap, ho, hp⟩

/-! ### what Count answers, and the examples -/
def ndsOf : List V → Option (List Nd)
  | [] => some []
  | v :: vs => match ndOf v, ndsOf vs with
    | some x, some l => some (x :: l)
    | _, _ => none
theorem ndsOf_eq : ∀ {vs : List V} {l : List Nd}, ndsOf vs = some l → vs = l.map encN ∧ ∀ x ∈ l, x.words.length ≤ 200000000000000
  | [], l, h => by simp only [ndsOf, Option.some.injEq] at h; subst h; simp
  | v :: vs, l, h => by
    simp only [ndsOf] at h
    split at h
    · rename_i x l' h1 h2
      simp only [Option.some.injEq] at h; subst h
      obtain ⟨rfl, g1⟩ := ndOf_eq h1
      obtain ⟨rfl, g2⟩ := ndsOf_eq h2
      exact ⟨rfl, by simpa using ⟨g1, g2⟩⟩
    · cases h
theorem ndsOf_enc : ∀ {l : List Nd}, (∀ x ∈ l, x.words.length ≤ 200000000000000) → ndsOf (l.map encN) = some l
  | [], _ => rfl
  | x :: l, h => by
    have h1 : ndOf (encN x) = some x := ndOf_enc (h x (by simp))
    have h2 := ndsOf_enc (l := l) fun y hy => h y (by simp [hy])
    simp only [List.map_cons, ndsOf, h1, h2]

def o26 (f : FuncId) (args : List V) : Option V := if f = 11 then (match args with
  | [.sl 20 rows] => (ndsOf rows).bind fun l => if l.length ≤ 10000 then some (.tup [.agg (countR l).1.cells, vI (countR l).2]) else none
  | _ => none) else if f = 9 then (match args with
  | [] => some (.bool true)
  | _ => none) else none
def O26 : Orc Try.prog where
  get f args _ := o26 f args
  ok f args σ v h := by
    unfold o26 at h
    split at h
    · rename_i hf
      subst hf
      split at h
      · rw [Option.bind_eq_some_iff] at h
        obtain ⟨l, h1, h2⟩ := h
        split at h2
        · rename_i hl
          simp only [Option.some.injEq] at h2
          subst h2
          obtain ⟨rfl, g⟩ := ndsOf_eq h1
          exact countv_c l ⟨hl, g⟩ σ
        · cases h2
      · cases h
    · split at h
      · rename_i hf
        subst hf
        split at h
        · simp only [Option.some.injEq] at h; subst h; exact awake_c σ
        · cases h
      · cases h
theorem O26_11 {l : List Nd} (hl : Fine l) (σ : Store) : O26.get 11 [encNs l] σ = some (.tup [.agg (countR l).1.cells, vI (countR l).2]) := by
  show ((ndsOf (l.map encN)).bind fun l => if l.length ≤ 10000 then some (V.tup [V.agg (countR l).1.cells, vI (countR l).2]) else none) = _
  rw [ndsOf_enc hl.2, Option.bind_some, if_pos hl.1]
theorem O26_own (id off n : Nat) (σ : Store) : O26.get 11 [.own id off n] σ = none := rfl
theorem O26_9 (σ : Store) : O26.get 9 [] σ = some (.bool true) := rfl
theorem sl_window (l : List Nd) (s k : Nat) : V.sl 20 (List.take k (List.drop s (List.map encN l))) = encNs ((l.drop s).take k) := by
  simp [encNs, List.map_take, List.map_drop]

theorem countR_fine {l : List Nd} (hF : Fine l) (h : isB l = true) : (countR l).1.fine l.length ∧ (countR l).1.nodes = l.length := by
  have f := (foldS_foldR l hF h l.length (Nat.le_refl _)).2.2
  have e : (countR l).1 = foldR l ⟨0, 0, l.length, 0⟩ l.length := by unfold countR; rw [if_pos h]
  rw [e]; exact f
theorem Fine.window {l : List Nd} (h : Fine l) (s k : Nat) : Fine ((l.drop s).take k) :=
  ⟨by have := h.1; simp; omega, fun x hx => h.2 x (List.mem_of_mem_drop (List.mem_of_mem_take hx))⟩
theorem sliceV_encNs {σ : Store} {l : List Nd} {s e : Int} (h1 : 0 ≤ s) (h2 : s ≤ e) (h3 : e ≤ l.length) :
    sliceV σ 20 (encNs l) (some (.int .i64 s)) (some (.int .i64 e)) none = some (encNs ((l.drop s.toNat).take (e.toNat - s.toNat))) := by
  simp only [encNs, sliceV, boundV, List.length_map]
  rw [if_pos ⟨h1, h2, h3, Int.le_refl _, trivial⟩]
  simp [List.map_take, List.map_drop]

set_option maxRecDepth 100000 in
theorem validParts_c (a b : List Nd) (ha : ∀ x ∈ a, x.words.length ≤ 200000000000000) (hb : ∀ x ∈ b, x.words.length ≤ 200000000000000) : PFun Try.prog 4 [encNs a, encNs b] (.bool true) := fun σ => by
  refine Contract.of_runs Try.func4 e4 k4 (by simp [c4]) ?_
  refine Runs.mix 17 ?_
  by_cases h1 : (a.length : Int) > 200
  · (refine Runs.of_step O26 300 ?_; simp -implicitDefEqProofs only [s_r_nil, Ret_one, Ret_two, Ret_three, Ret_none, Ret_cell_one, Ret_cell_two, onSome_some, s_r_stop, s_r_inBlock, s_r_ops_nil, s_r_skip, s_r_seq, s_r_block, s_r_exit, exR_some, s_r_ret, s_r_loop, s_r_reg, s_r_dreg, s_d_nil, s_r_cond, cR_t, cR_f, cR_dec, s_r_ins, insR_0, insR_1, insR_2, insR_3, insR_4, callR_some, callR_none, callV_eq, callD_some, callD_none, contR_some, storeR_some, s_d_ins, insD_0, insD_1, insD_2, insD_3, contD_some, storeD_some, s_r_gins, gR_tup, gR_tt, gR_ff, gR_tf, gR_ft, gR_dec_t, gR_dec_f, s_d_gins, gD_tup, gD_tt, gD_ff, gD_tf, gD_ft, gD_dec_t, gD_dec_f, putO_nothing, putO_lo, putO_hi, mix_get, putO_some, putO_none, lit_t, lit_c, ev_t, ev_c, okind, vpre, vpure, binV_int, binV_str, binPre_int, binPre_str, intBin, intPre, strBin, strPre, popTo, argSlots, lenV_own, lenV_sl, lenV_nils, lenV_str, fldV, fldAV, subCells, idxAV_own, idxVV, idxAAV, idxSV, loadV_ptr, loadV_rp_agg, loadV_rp_int, sliceV, sliceSV, boundV, szIs, storeOp, storeS, setRowV, eff, extV, buildV, splice, eqSV, fitsL, eqCells, eqCell, minmaxV, binBV, nilCheckV, bytesV, V.cells, V.stays, upd_same, upd_upd, true_implies, false_implies, implies_true, keepS_eq, List.getD_cons_zero, List.getD_cons_succ, List.getD_nil, List.map_cons, List.map_nil, List.length_cons, List.length_nil, List.drop_succ_cons, List.drop_zero, List.take_succ_cons, List.take_zero, List.set_cons_zero, List.set_cons_succ, List.append_nil, List.nil_append, List.cons_append, List.all_cons, List.all_nil, List.getElem?_cons_zero, List.getElem?_cons_succ, List.contains_cons, List.contains_nil, Option.isSome_some, Option.map_some, Option.map_none, true_and, and_true, and_self, Int.reduceEq, Int.reduceNe, Int.reduceLT, Int.reduceLE, Int.reduceGT, Int.reduceGE, Nat.reduceEqDiff, Nat.reduceAdd, Nat.reduceMul, Nat.reduceLeDiff, Nat.reduceSub, Nat.reduceLT, Nat.reduceBEq, Nat.zero_add, Nat.add_zero, ↓reduceIte, reduceCtorEq, ← decide_not, Bool.not_true, Bool.not_false, Bool.false_eq_true, Bool.or_true, Bool.true_or, Bool.or_false, Bool.false_or, Bool.true_and, Bool.and_true, Bool.and_self, decide_true, decide_false, decide_eq_true_eq, c4, lenV_encNs, h1, O26_9])
    exact RetV.same rfl
  by_cases h2 : (b.length : Int) > 200
  · (refine Runs.of_step O26 300 ?_; simp -implicitDefEqProofs only [s_r_nil, Ret_one, Ret_two, Ret_three, Ret_none, Ret_cell_one, Ret_cell_two, onSome_some, s_r_stop, s_r_inBlock, s_r_ops_nil, s_r_skip, s_r_seq, s_r_block, s_r_exit, exR_some, s_r_ret, s_r_loop, s_r_reg, s_r_dreg, s_d_nil, s_r_cond, cR_t, cR_f, cR_dec, s_r_ins, insR_0, insR_1, insR_2, insR_3, insR_4, callR_some, callR_none, callV_eq, callD_some, callD_none, contR_some, storeR_some, s_d_ins, insD_0, insD_1, insD_2, insD_3, contD_some, storeD_some, s_r_gins, gR_tup, gR_tt, gR_ff, gR_tf, gR_ft, gR_dec_t, gR_dec_f, s_d_gins, gD_tup, gD_tt, gD_ff, gD_tf, gD_ft, gD_dec_t, gD_dec_f, putO_nothing, putO_lo, putO_hi, mix_get, putO_some, putO_none, lit_t, lit_c, ev_t, ev_c, okind, vpre, vpure, binV_int, binV_str, binPre_int, binPre_str, intBin, intPre, strBin, strPre, popTo, argSlots, lenV_own, lenV_sl, lenV_nils, lenV_str, fldV, fldAV, subCells, idxAV_own, idxVV, idxAAV, idxSV, loadV_ptr, loadV_rp_agg, loadV_rp_int, sliceV, sliceSV, boundV, szIs, storeOp, storeS, setRowV, eff, extV, buildV, splice, eqSV, fitsL, eqCells, eqCell, minmaxV, binBV, nilCheckV, bytesV, V.cells, V.stays, upd_same, upd_upd, true_implies, false_implies, implies_true, keepS_eq, List.getD_cons_zero, List.getD_cons_succ, List.getD_nil, List.map_cons, List.map_nil, List.length_cons, List.length_nil, List.drop_succ_cons, List.drop_zero, List.take_succ_cons, List.take_zero, List.set_cons_zero, List.set_cons_succ, List.append_nil, List.nil_append, List.cons_append, List.all_cons, List.all_nil, List.getElem?_cons_zero, List.getElem?_cons_succ, List.contains_cons, List.contains_nil, Option.isSome_some, Option.map_some, Option.map_none, true_and, and_true, and_self, Int.reduceEq, Int.reduceNe, Int.reduceLT, Int.reduceLE, Int.reduceGT, Int.reduceGE, Nat.reduceEqDiff, Nat.reduceAdd, Nat.reduceMul, Nat.reduceLeDiff, Nat.reduceSub, Nat.reduceLT, Nat.reduceBEq, Nat.zero_add, Nat.add_zero, ↓reduceIte, reduceCtorEq, ← decide_not, Bool.not_true, Bool.not_false, Bool.false_eq_true, Bool.or_true, Bool.true_or, Bool.or_false, Bool.false_or, Bool.true_and, Bool.and_true, Bool.and_self, decide_true, decide_false, decide_eq_true_eq, c4, lenV_encNs, h1, h2, O26_9])
    exact RetV.same rfl
  have hFa : Fine a := ⟨by omega, ha⟩
  have hFb : Fine b := ⟨by omega, hb⟩
  (refine Runs.of_step O26 300 ?_; simp -implicitDefEqProofs only [s_r_nil, Ret_one, Ret_two, Ret_three, Ret_none, Ret_cell_one, Ret_cell_two, onSome_some, s_r_stop, s_r_inBlock, s_r_ops_nil, s_r_skip, s_r_seq, s_r_block, s_r_exit, exR_some, s_r_ret, s_r_loop, s_r_reg, s_r_dreg, s_d_nil, s_r_cond, cR_t, cR_f, cR_dec, s_r_ins, insR_0, insR_1, insR_2, insR_3, insR_4, callR_some, callR_none, callV_eq, callD_some, callD_none, contR_some, storeR_some, s_d_ins, insD_0, insD_1, insD_2, insD_3, contD_some, storeD_some, s_r_gins, gR_tup, gR_tt, gR_ff, gR_tf, gR_ft, gR_dec_t, gR_dec_f, s_d_gins, gD_tup, gD_tt, gD_ff, gD_tf, gD_ft, gD_dec_t, gD_dec_f, putO_nothing, putO_lo, putO_hi, mix_get, putO_some, putO_none, lit_t, lit_c, ev_t, ev_c, okind, vpre, vpure, binV_int, binV_str, binPre_int, binPre_str, intBin, intPre, strBin, strPre, popTo, argSlots, lenV_own, lenV_sl, lenV_nils, lenV_str, fldV, fldAV, subCells, idxAV_own, idxVV, idxAAV, idxSV, loadV_ptr, loadV_rp_agg, loadV_rp_int, sliceV, sliceSV, boundV, szIs, storeOp, storeS, setRowV, eff, extV, buildV, splice, eqSV, fitsL, eqCells, eqCell, minmaxV, binBV, nilCheckV, bytesV, V.cells, V.stays, upd_same, upd_upd, true_implies, false_implies, implies_true, keepS_eq, List.getD_cons_zero, List.getD_cons_succ, List.getD_nil, List.map_cons, List.map_nil, List.length_cons, List.length_nil, List.drop_succ_cons, List.drop_zero, List.take_succ_cons, List.take_zero, List.set_cons_zero, List.set_cons_succ, List.append_nil, List.nil_append, List.cons_append, List.all_cons, List.all_nil, List.getElem?_cons_zero, List.getElem?_cons_succ, List.contains_cons, List.contains_nil, Option.isSome_some, Option.map_some, Option.map_none, true_and, and_true, and_self, Int.reduceEq, Int.reduceNe, Int.reduceLT, Int.reduceLE, Int.reduceGT, Int.reduceGE, Nat.reduceEqDiff, Nat.reduceAdd, Nat.reduceMul, Nat.reduceLeDiff, Nat.reduceSub, Nat.reduceLT, Nat.reduceBEq, Nat.zero_add, Nat.add_zero, ↓reduceIte, reduceCtorEq, ← decide_not, Bool.not_true, Bool.not_false, Bool.false_eq_true, Bool.or_true, Bool.true_or, Bool.or_false, Bool.false_or, Bool.true_and, Bool.and_true, Bool.and_self, decide_true, decide_false, decide_eq_true_eq, c4, lenV_encNs, h1, h2, O26_9, O26_11 hFa, O26_11 hFb, O26_own, Sm.cells])
  refine effR_new fun id5 σ1 s1 a5 f5 => ?_
  simp -implicitDefEqProofs only [s_r_nil, Ret_one, Ret_two, Ret_three, Ret_none, Ret_cell_one, Ret_cell_two, onSome_some, s_r_stop, s_r_inBlock, s_r_ops_nil, s_r_skip, s_r_seq, s_r_block, s_r_exit, exR_some, s_r_ret, s_r_loop, s_r_reg, s_r_dreg, s_d_nil, s_r_cond, cR_t, cR_f, cR_dec, s_r_ins, insR_0, insR_1, insR_2, insR_3, insR_4, callR_some, callR_none, callV_eq, callD_some, callD_none, contR_some, storeR_some, s_d_ins, insD_0, insD_1, insD_2, insD_3, contD_some, storeD_some, s_r_gins, gR_tup, gR_tt, gR_ff, gR_tf, gR_ft, gR_dec_t, gR_dec_f, s_d_gins, gD_tup, gD_tt, gD_ff, gD_tf, gD_ft, gD_dec_t, gD_dec_f, putO_nothing, putO_lo, putO_hi, mix_get, putO_some, putO_none, lit_t, lit_c, ev_t, ev_c, okind, vpre, vpure, binV_int, binV_str, binPre_int, binPre_str, intBin, intPre, strBin, strPre, popTo, argSlots, lenV_own, lenV_sl, lenV_nils, lenV_str, fldV, fldAV, subCells, idxAV_own, idxVV, idxAAV, idxSV, loadV_ptr, loadV_rp_agg, loadV_rp_int, sliceV, sliceSV, boundV, szIs, storeOp, storeS, setRowV, eff, extV, buildV, splice, eqSV, fitsL, eqCells, eqCell, minmaxV, binBV, nilCheckV, bytesV, V.cells, V.stays, upd_same, upd_upd, true_implies, false_implies, implies_true, keepS_eq, List.getD_cons_zero, List.getD_cons_succ, List.getD_nil, List.map_cons, List.map_nil, List.length_cons, List.length_nil, List.drop_succ_cons, List.drop_zero, List.take_succ_cons, List.take_zero, List.set_cons_zero, List.set_cons_succ, List.append_nil, List.nil_append, List.cons_append, List.all_cons, List.all_nil, List.getElem?_cons_zero, List.getElem?_cons_succ, List.contains_cons, List.contains_nil, Option.isSome_some, Option.map_some, Option.map_none, true_and, and_true, and_self, Int.reduceEq, Int.reduceNe, Int.reduceLT, Int.reduceLE, Int.reduceGT, Int.reduceGE, Nat.reduceEqDiff, Nat.reduceAdd, Nat.reduceMul, Nat.reduceLeDiff, Nat.reduceSub, Nat.reduceLT, Nat.reduceBEq, Nat.zero_add, Nat.add_zero, ↓reduceIte, reduceCtorEq, ← decide_not, Bool.not_true, Bool.not_false, Bool.false_eq_true, Bool.or_true, Bool.true_or, Bool.or_false, Bool.false_or, Bool.true_and, Bool.and_true, Bool.and_self, decide_true, decide_false, decide_eq_true_eq, a5, lenV_encNs, O26_11 hFa, O26_11 hFb, O26_own, Sm.cells]
  refine effR_new fun id7 σ2 s2 a7 f7 => ?_
  simp -implicitDefEqProofs only [s_r_nil, Ret_one, Ret_two, Ret_three, Ret_none, Ret_cell_one, Ret_cell_two, onSome_some, s_r_stop, s_r_inBlock, s_r_ops_nil, s_r_skip, s_r_seq, s_r_block, s_r_exit, exR_some, s_r_ret, s_r_loop, s_r_reg, s_r_dreg, s_d_nil, s_r_cond, cR_t, cR_f, cR_dec, s_r_ins, insR_0, insR_1, insR_2, insR_3, insR_4, callR_some, callR_none, callV_eq, callD_some, callD_none, contR_some, storeR_some, s_d_ins, insD_0, insD_1, insD_2, insD_3, contD_some, storeD_some, s_r_gins, gR_tup, gR_tt, gR_ff, gR_tf, gR_ft, gR_dec_t, gR_dec_f, s_d_gins, gD_tup, gD_tt, gD_ff, gD_tf, gD_ft, gD_dec_t, gD_dec_f, putO_nothing, putO_lo, putO_hi, mix_get, putO_some, putO_none, lit_t, lit_c, ev_t, ev_c, okind, vpre, vpure, binV_int, binV_str, binPre_int, binPre_str, intBin, intPre, strBin, strPre, popTo, argSlots, lenV_own, lenV_sl, lenV_nils, lenV_str, fldV, fldAV, subCells, idxAV_own, idxVV, idxAAV, idxSV, loadV_ptr, loadV_rp_agg, loadV_rp_int, sliceV, sliceSV, boundV, szIs, storeOp, storeS, setRowV, eff, extV, buildV, splice, eqSV, fitsL, eqCells, eqCell, minmaxV, binBV, nilCheckV, bytesV, V.cells, V.stays, upd_same, upd_upd, true_implies, false_implies, implies_true, keepS_eq, List.getD_cons_zero, List.getD_cons_succ, List.getD_nil, List.map_cons, List.map_nil, List.length_cons, List.length_nil, List.drop_succ_cons, List.drop_zero, List.take_succ_cons, List.take_zero, List.set_cons_zero, List.set_cons_succ, List.append_nil, List.nil_append, List.cons_append, List.all_cons, List.all_nil, List.getElem?_cons_zero, List.getElem?_cons_succ, List.contains_cons, List.contains_nil, Option.isSome_some, Option.map_some, Option.map_none, true_and, and_true, and_self, Int.reduceEq, Int.reduceNe, Int.reduceLT, Int.reduceLE, Int.reduceGT, Int.reduceGE, Nat.reduceEqDiff, Nat.reduceAdd, Nat.reduceMul, Nat.reduceLeDiff, Nat.reduceSub, Nat.reduceLT, Nat.reduceBEq, Nat.zero_add, Nat.add_zero, ↓reduceIte, reduceCtorEq, ← decide_not, Bool.not_true, Bool.not_false, Bool.false_eq_true, Bool.or_true, Bool.true_or, Bool.or_false, Bool.false_or, Bool.true_and, Bool.and_true, Bool.and_self, decide_true, decide_false, decide_eq_true_eq, a7, lenV_encNs, O26_11 hFa, O26_11 hFb, O26_own, Sm.cells]
  refine effR_new fun id37 σ3 s3 a37 f37 => ?_
  have n57 : id5 ≠ id7 := by rintro rfl; rw [upd_same] at f7; cases f7
  have g7 : σ id7 = none := (s1.updK f5).none f7
  have hσL : SubStore σ (upd (upd σ id5 ⟨31, 4, [.agg (countR a).1.cells]⟩) id7 ⟨31, 4, [.agg (countR b).1.cells]⟩) := ((SubStore.refl σ).updK f5).updK g7
  have hL3 : SubStore (upd (upd σ id5 ⟨31, 4, [.agg (countR a).1.cells]⟩) id7 ⟨31, 4, [.agg (countR b).1.cells]⟩) σ3 :=
    ((((s1.updK f5).trans s2).updK g7).trans s3).putK (s3 id5 _ ((upd_ne n57).trans (s2 id5 _ upd_same))) |>.putK (s3 id7 _ upd_same)
  have hL5 : upd (upd σ id5 ⟨31, 4, [.agg (countR a).1.cells]⟩) id7 ⟨31, 4, [.agg (countR b).1.cells]⟩ id5 = some ⟨31, 4, [.agg (countR a).1.cells]⟩ := (upd_ne n57).trans upd_same
  have hL7 : upd (upd σ id5 ⟨31, 4, [.agg (countR a).1.cells]⟩) id7 ⟨31, 4, [.agg (countR b).1.cells]⟩ id7 = some ⟨31, 4, [.agg (countR b).1.cells]⟩ := upd_same
  have f37' : upd (upd σ id5 ⟨31, 4, [.agg (countR a).1.cells]⟩) id7 ⟨31, 4, [.agg (countR b).1.cells]⟩ id37 = none := by
    obtain ⟨q1, q2⟩ := upd_none.1 f37
    refine upd_none.2 ⟨q1, upd_none.2 ⟨?_, ((s1.updK f5).trans s2).none q2⟩⟩
    rintro rfl
    rw [s2 _ _ upd_same] at q2
    cases q2
  generalize upd (upd σ id5 ⟨31, 4, [.agg (countR a).1.cells]⟩) id7 ⟨31, 4, [.agg (countR b).1.cells]⟩ = L at *
  have hd37 : dstRows σ3 28 20 (.own id37 0 0) = some ([], some id37) := by
    simp only [dstRows, a37]
    rw [if_pos (by simp)]
    simp
  have hsa : ∀ σ, srcRows σ 20 (encNs a) = some (a.map encN) := fun σ => by simp [encNs, srcRows]
  have hsb : ∀ σ, srcRows σ 20 (encNs b) = some (b.map encN) := fun σ => by simp [encNs, srcRows]
  have hb1 : a.length * 177 ≤ 140737488355328 := by omega
  have hb2 : (a.length + b.length) * 177 ≤ 140737488355328 := by omega
  simp -implicitDefEqProofs only [s_r_nil, Ret_one, Ret_two, Ret_three, Ret_none, Ret_cell_one, Ret_cell_two, onSome_some, s_r_stop, s_r_inBlock, s_r_ops_nil, s_r_skip, s_r_seq, s_r_block, s_r_exit, exR_some, s_r_ret, s_r_loop, s_r_reg, s_r_dreg, s_d_nil, s_r_cond, cR_t, cR_f, cR_dec, s_r_ins, insR_0, insR_1, insR_2, insR_3, insR_4, callR_some, callR_none, callV_eq, callD_some, callD_none, contR_some, storeR_some, s_d_ins, insD_0, insD_1, insD_2, insD_3, contD_some, storeD_some, s_r_gins, gR_tup, gR_tt, gR_ff, gR_tf, gR_ft, gR_dec_t, gR_dec_f, s_d_gins, gD_tup, gD_tt, gD_ff, gD_tf, gD_ft, gD_dec_t, gD_dec_f, putO_nothing, putO_lo, putO_hi, mix_get, putO_some, putO_none, lit_t, lit_c, ev_t, ev_c, okind, vpre, vpure, binV_int, binV_str, binPre_int, binPre_str, intBin, intPre, strBin, strPre, popTo, argSlots, lenV_own, lenV_sl, lenV_nils, lenV_str, fldV, fldAV, subCells, idxAV_own, idxVV, idxAAV, idxSV, loadV_ptr, loadV_rp_agg, loadV_rp_int, sliceV, sliceSV, boundV, szIs, storeOp, storeS, setRowV, eff, extV, buildV, splice, eqSV, fitsL, eqCells, eqCell, minmaxV, binBV, nilCheckV, bytesV, V.cells, V.stays, upd_same, upd_upd, true_implies, false_implies, implies_true, keepS_eq, List.getD_cons_zero, List.getD_cons_succ, List.getD_nil, List.map_cons, List.map_nil, List.length_cons, List.length_nil, List.drop_succ_cons, List.drop_zero, List.take_succ_cons, List.take_zero, List.set_cons_zero, List.set_cons_succ, List.append_nil, List.nil_append, List.cons_append, List.all_cons, List.all_nil, List.getElem?_cons_zero, List.getElem?_cons_succ, List.contains_cons, List.contains_nil, Option.isSome_some, Option.map_some, Option.map_none, true_and, and_true, and_self, Int.reduceEq, Int.reduceNe, Int.reduceLT, Int.reduceLE, Int.reduceGT, Int.reduceGE, Nat.reduceEqDiff, Nat.reduceAdd, Nat.reduceMul, Nat.reduceLeDiff, Nat.reduceSub, Nat.reduceLT, Nat.reduceBEq, Nat.zero_add, Nat.add_zero, ↓reduceIte, reduceCtorEq, ← decide_not, Bool.not_true, Bool.not_false, Bool.false_eq_true, Bool.or_true, Bool.true_or, Bool.or_false, Bool.false_or, Bool.true_and, Bool.and_true, Bool.and_self, decide_true, decide_false, decide_eq_true_eq, hd37, hsa, hb1, delO, List.length_map, Nat.zero_add]
  refine effR_app fun id39 σ4 s4 a39 f39 => ?_
  have hL4 := (hL3.delK f37').trans s4
  have f39' : L id39 = none := hL3.none f39
  have hd39 : dstRows σ4 28 20 (.own id39 0 a.length) = some (a.map encN, some id39) := by
    simp only [dstRows, a39]
    rw [if_pos (by simp), List.take_of_length_le (by simp)]
  simp -implicitDefEqProofs only [s_r_nil, Ret_one, Ret_two, Ret_three, Ret_none, Ret_cell_one, Ret_cell_two, onSome_some, s_r_stop, s_r_inBlock, s_r_ops_nil, s_r_skip, s_r_seq, s_r_block, s_r_exit, exR_some, s_r_ret, s_r_loop, s_r_reg, s_r_dreg, s_d_nil, s_r_cond, cR_t, cR_f, cR_dec, s_r_ins, insR_0, insR_1, insR_2, insR_3, insR_4, callR_some, callR_none, callV_eq, callD_some, callD_none, contR_some, storeR_some, s_d_ins, insD_0, insD_1, insD_2, insD_3, contD_some, storeD_some, s_r_gins, gR_tup, gR_tt, gR_ff, gR_tf, gR_ft, gR_dec_t, gR_dec_f, s_d_gins, gD_tup, gD_tt, gD_ff, gD_tf, gD_ft, gD_dec_t, gD_dec_f, putO_nothing, putO_lo, putO_hi, mix_get, putO_some, putO_none, lit_t, lit_c, ev_t, ev_c, okind, vpre, vpure, binV_int, binV_str, binPre_int, binPre_str, intBin, intPre, strBin, strPre, popTo, argSlots, lenV_own, lenV_sl, lenV_nils, lenV_str, fldV, fldAV, subCells, idxAV_own, idxVV, idxAAV, idxSV, loadV_ptr, loadV_rp_agg, loadV_rp_int, sliceV, sliceSV, boundV, szIs, storeOp, storeS, setRowV, eff, extV, buildV, splice, eqSV, fitsL, eqCells, eqCell, minmaxV, binBV, nilCheckV, bytesV, V.cells, V.stays, upd_same, upd_upd, true_implies, false_implies, implies_true, keepS_eq, List.getD_cons_zero, List.getD_cons_succ, List.getD_nil, List.map_cons, List.map_nil, List.length_cons, List.length_nil, List.drop_succ_cons, List.drop_zero, List.take_succ_cons, List.take_zero, List.set_cons_zero, List.set_cons_succ, List.append_nil, List.nil_append, List.cons_append, List.all_cons, List.all_nil, List.getElem?_cons_zero, List.getElem?_cons_succ, List.contains_cons, List.contains_nil, Option.isSome_some, Option.map_some, Option.map_none, true_and, and_true, and_self, Int.reduceEq, Int.reduceNe, Int.reduceLT, Int.reduceLE, Int.reduceGT, Int.reduceGE, Nat.reduceEqDiff, Nat.reduceAdd, Nat.reduceMul, Nat.reduceLeDiff, Nat.reduceSub, Nat.reduceLT, Nat.reduceBEq, Nat.zero_add, Nat.add_zero, ↓reduceIte, reduceCtorEq, ← decide_not, Bool.not_true, Bool.not_false, Bool.false_eq_true, Bool.or_true, Bool.true_or, Bool.or_false, Bool.false_or, Bool.true_and, Bool.and_true, Bool.and_self, decide_true, decide_false, decide_eq_true_eq, hd39, hsb, hb2, delO, List.length_map, O26_own]
  refine effR_app fun id41 σ5 s5 a41 f41 => ?_
  have hL5' := (hL4.delK f39').trans s5
  simp -implicitDefEqProofs only [s_r_nil, Ret_one, Ret_two, Ret_three, Ret_none, Ret_cell_one, Ret_cell_two, onSome_some, s_r_stop, s_r_inBlock, s_r_ops_nil, s_r_skip, s_r_seq, s_r_block, s_r_exit, exR_some, s_r_ret, s_r_loop, s_r_reg, s_r_dreg, s_d_nil, s_r_cond, cR_t, cR_f, cR_dec, s_r_ins, insR_0, insR_1, insR_2, insR_3, insR_4, callR_some, callR_none, callV_eq, callD_some, callD_none, contR_some, storeR_some, s_d_ins, insD_0, insD_1, insD_2, insD_3, contD_some, storeD_some, s_r_gins, gR_tup, gR_tt, gR_ff, gR_tf, gR_ft, gR_dec_t, gR_dec_f, s_d_gins, gD_tup, gD_tt, gD_ff, gD_tf, gD_ft, gD_dec_t, gD_dec_f, putO_nothing, putO_lo, putO_hi, mix_get, putO_some, putO_none, lit_t, lit_c, ev_t, ev_c, okind, vpre, vpure, binV_int, binV_str, binPre_int, binPre_str, intBin, intPre, strBin, strPre, popTo, argSlots, lenV_own, lenV_sl, lenV_nils, lenV_str, fldV, fldAV, subCells, idxAV_own, idxVV, idxAAV, idxSV, loadV_ptr, loadV_rp_agg, loadV_rp_int, sliceV, sliceSV, boundV, szIs, storeOp, storeS, setRowV, eff, extV, buildV, splice, eqSV, fitsL, eqCells, eqCell, minmaxV, binBV, nilCheckV, bytesV, V.cells, V.stays, upd_same, upd_upd, true_implies, false_implies, implies_true, keepS_eq, List.getD_cons_zero, List.getD_cons_succ, List.getD_nil, List.map_cons, List.map_nil, List.length_cons, List.length_nil, List.drop_succ_cons, List.drop_zero, List.take_succ_cons, List.take_zero, List.set_cons_zero, List.set_cons_succ, List.append_nil, List.nil_append, List.cons_append, List.all_cons, List.all_nil, List.getElem?_cons_zero, List.getElem?_cons_succ, List.contains_cons, List.contains_nil, Option.isSome_some, Option.map_some, Option.map_none, true_and, and_true, and_self, Int.reduceEq, Int.reduceNe, Int.reduceLT, Int.reduceLE, Int.reduceGT, Int.reduceGE, Nat.reduceEqDiff, Nat.reduceAdd, Nat.reduceMul, Nat.reduceLeDiff, Nat.reduceSub, Nat.reduceLT, Nat.reduceBEq, Nat.zero_add, Nat.add_zero, ↓reduceIte, reduceCtorEq, ← decide_not, Bool.not_true, Bool.not_false, Bool.false_eq_true, Bool.or_true, Bool.true_or, Bool.or_false, Bool.false_or, Bool.true_and, Bool.and_true, Bool.and_self, decide_true, decide_false, decide_eq_true_eq, O26_own]
  have hFab : Fine (a ++ b) := ⟨by simp; omega, fun x hx => by rcases List.mem_append.1 hx with h | h; exact ha x h; exact hb x h⟩
  have hwk : Wk σ5 nost (.own id41 0 (a.length + b.length)) (encNs (a ++ b)) := by
    have := Wk.own (off := 0) (len := a.length + b.length) (nost_sub σ5) a41 rfl (by simp)
    rw [List.drop_zero, List.take_of_length_le (by simp), ← List.map_append] at this
    exact this
  refine Runs.pcall rfl rfl rfl (PFun.lend (args' := [encNs (a ++ b)]) ⟨hwk, trivial⟩ (countv_c (a ++ b) hFab) rfl) ?_
  (refine Runs.of_step O26 300 ?_; simp -implicitDefEqProofs only [s_r_nil, Ret_one, Ret_two, Ret_three, Ret_none, Ret_cell_one, Ret_cell_two, onSome_some, s_r_stop, s_r_inBlock, s_r_ops_nil, s_r_skip, s_r_seq, s_r_block, s_r_exit, exR_some, s_r_ret, s_r_loop, s_r_reg, s_r_dreg, s_d_nil, s_r_cond, cR_t, cR_f, cR_dec, s_r_ins, insR_0, insR_1, insR_2, insR_3, insR_4, callR_some, callR_none, callV_eq, callD_some, callD_none, contR_some, storeR_some, s_d_ins, insD_0, insD_1, insD_2, insD_3, contD_some, storeD_some, s_r_gins, gR_tup, gR_tt, gR_ff, gR_tf, gR_ft, gR_dec_t, gR_dec_f, s_d_gins, gD_tup, gD_tt, gD_ff, gD_tf, gD_ft, gD_dec_t, gD_dec_f, putO_nothing, putO_lo, putO_hi, mix_get, putO_some, putO_none, lit_t, lit_c, ev_t, ev_c, okind, vpre, vpure, binV_int, binV_str, binPre_int, binPre_str, intBin, intPre, strBin, strPre, popTo, argSlots, lenV_own, lenV_sl, lenV_nils, lenV_str, fldV, fldAV, subCells, idxAV_own, idxVV, idxAAV, idxSV, loadV_ptr, loadV_rp_agg, loadV_rp_int, sliceV, sliceSV, boundV, szIs, storeOp, storeS, setRowV, eff, extV, buildV, splice, eqSV, fitsL, eqCells, eqCell, minmaxV, binBV, nilCheckV, bytesV, V.cells, V.stays, upd_same, upd_upd, true_implies, false_implies, implies_true, keepS_eq, List.getD_cons_zero, List.getD_cons_succ, List.getD_nil, List.map_cons, List.map_nil, List.length_cons, List.length_nil, List.drop_succ_cons, List.drop_zero, List.take_succ_cons, List.take_zero, List.set_cons_zero, List.set_cons_succ, List.append_nil, List.nil_append, List.cons_append, List.all_cons, List.all_nil, List.getElem?_cons_zero, List.getElem?_cons_succ, List.contains_cons, List.contains_nil, Option.isSome_some, Option.map_some, Option.map_none, true_and, and_true, and_self, Int.reduceEq, Int.reduceNe, Int.reduceLT, Int.reduceLE, Int.reduceGT, Int.reduceGE, Nat.reduceEqDiff, Nat.reduceAdd, Nat.reduceMul, Nat.reduceLeDiff, Nat.reduceSub, Nat.reduceLT, Nat.reduceBEq, Nat.zero_add, Nat.add_zero, ↓reduceIte, reduceCtorEq, ← decide_not, Bool.not_true, Bool.not_false, Bool.false_eq_true, Bool.or_true, Bool.true_or, Bool.or_false, Bool.false_or, Bool.true_and, Bool.and_true, Bool.and_self, decide_true, decide_false, decide_eq_true_eq, Sm.cells])
  refine effR_new fun id9 σ6 s6 a9 f9 => ?_
  have f9' : L id9 = none := hL5'.none f9
  have hL6 := (hL5'.trans s6).updK f9' (o := ⟨31, 4, [.agg (countR (a ++ b)).1.cells]⟩)
  have a5 := hL6 id5 _ hL5
  have a7 := hL6 id7 _ hL7
  simp only [Sm.cells] at a5 a7
  have hret : ∀ σx, SubStore L σx → RetV (.bool true) σx fun r σ' => r = .bool true ∧ σ' = σ := fun σx h => RetV.pure (hσL.trans h) rfl
  by_cases hA : isB a = true
  · by_cases hB : isB b = true
    · have ea : (countR a).2 = 0 := by rw [countR_sums hA]
      have eb : (countR b).2 = 0 := by rw [countR_sums hB]
      simp -implicitDefEqProofs only [s_r_nil, Ret_one, Ret_two, Ret_three, Ret_none, Ret_cell_one, Ret_cell_two, onSome_some, s_r_stop, s_r_inBlock, s_r_ops_nil, s_r_skip, s_r_seq, s_r_block, s_r_exit, exR_some, s_r_ret, s_r_loop, s_r_reg, s_r_dreg, s_d_nil, s_r_cond, cR_t, cR_f, cR_dec, s_r_ins, insR_0, insR_1, insR_2, insR_3, insR_4, callR_some, callR_none, callV_eq, callD_some, callD_none, contR_some, storeR_some, s_d_ins, insD_0, insD_1, insD_2, insD_3, contD_some, storeD_some, s_r_gins, gR_tup, gR_tt, gR_ff, gR_tf, gR_ft, gR_dec_t, gR_dec_f, s_d_gins, gD_tup, gD_tt, gD_ff, gD_tf, gD_ft, gD_dec_t, gD_dec_f, putO_nothing, putO_lo, putO_hi, mix_get, putO_some, putO_none, lit_t, lit_c, ev_t, ev_c, okind, vpre, vpure, binV_int, binV_str, binPre_int, binPre_str, intBin, intPre, strBin, strPre, popTo, argSlots, lenV_own, lenV_sl, lenV_nils, lenV_str, fldV, fldAV, subCells, idxAV_own, idxVV, idxAAV, idxSV, loadV_ptr, loadV_rp_agg, loadV_rp_int, sliceV, sliceSV, boundV, szIs, storeOp, storeS, setRowV, eff, extV, buildV, splice, eqSV, fitsL, eqCells, eqCell, minmaxV, binBV, nilCheckV, bytesV, V.cells, V.stays, upd_same, upd_upd, true_implies, false_implies, implies_true, keepS_eq, List.getD_cons_zero, List.getD_cons_succ, List.getD_nil, List.map_cons, List.map_nil, List.length_cons, List.length_nil, List.drop_succ_cons, List.drop_zero, List.take_succ_cons, List.take_zero, List.set_cons_zero, List.set_cons_succ, List.append_nil, List.nil_append, List.cons_append, List.all_cons, List.all_nil, List.getElem?_cons_zero, List.getElem?_cons_succ, List.contains_cons, List.contains_nil, Option.isSome_some, Option.map_some, Option.map_none, true_and, and_true, and_self, Int.reduceEq, Int.reduceNe, Int.reduceLT, Int.reduceLE, Int.reduceGT, Int.reduceGE, Nat.reduceEqDiff, Nat.reduceAdd, Nat.reduceMul, Nat.reduceLeDiff, Nat.reduceSub, Nat.reduceLT, Nat.reduceBEq, Nat.zero_add, Nat.add_zero, ↓reduceIte, reduceCtorEq, ← decide_not, Bool.not_true, Bool.not_false, Bool.false_eq_true, Bool.or_true, Bool.true_or, Bool.or_false, Bool.false_or, Bool.true_and, Bool.and_true, Bool.and_self, decide_true, decide_false, decide_eq_true_eq, a9, ea, eb, a5, a7, O26_9, Sm.cells]
      have fa := countR_fine hFa hA
      have fb := countR_fine hFb hB
      obtain ⟨⟨⟨fa1, fa2⟩, ⟨fa3, fa4⟩, fa5, fa6⟩, fa7⟩ := fa
      obtain ⟨⟨⟨fb1, fb2⟩, ⟨fb3, fb4⟩, fb5, fb6⟩, fb7⟩ := fb
      refine ⟨inR_i64 (by omega) (by omega), inR_i64 (by omega) (by omega), inR_i64 (by omega) (by omega), ?_⟩
      refine effR_new fun id11 σ7 s7 a11 f11 => ?_
      have f11' : L id11 = none := hL6.none f11
      have hL7' := (hL6.trans s7).updK f11' (o := ⟨31, 4, [.agg [vI (if (countR b).1.depth > (countR a).1.depth then (countR b).1.depth else (countR a).1.depth), vI ((countR a).1.pieces + (countR b).1.pieces), vI ((countR a).1.nodes + (countR b).1.nodes), vI (if 1099511627777 < (countR a).1.heights + (countR b).1.heights then 1099511627777 else (countR a).1.heights + (countR b).1.heights)]]⟩)
      have n911 : id9 ≠ id11 := by rintro rfl; rw [upd_same] at f11; cases f11
      have hmax : (if (countR b).1.depth > (countR a).1.depth then (countR b).1.depth else (countR a).1.depth) = max (countR a).1.depth (countR b).1.depth := by split <;> omega
      have hmin : (if 1099511627777 < (countR a).1.heights + (countR b).1.heights then 1099511627777 else (countR a).1.heights + (countR b).1.heights) = min ((countR a).1.heights + (countR b).1.heights) 1099511627777 := by split <;> omega
      have hab := countR_append hA hB
      have a9' := s7 id9 _ upd_same
      rw [hab] at a9'
      rw [hmax, hmin] at hL7'
      simp -implicitDefEqProofs only [s_r_nil, Ret_one, Ret_two, Ret_three, Ret_none, Ret_cell_one, Ret_cell_two, onSome_some, s_r_stop, s_r_inBlock, s_r_ops_nil, s_r_skip, s_r_seq, s_r_block, s_r_exit, exR_some, s_r_ret, s_r_loop, s_r_reg, s_r_dreg, s_d_nil, s_r_cond, cR_t, cR_f, cR_dec, s_r_ins, insR_0, insR_1, insR_2, insR_3, insR_4, callR_some, callR_none, callV_eq, callD_some, callD_none, contR_some, storeR_some, s_d_ins, insD_0, insD_1, insD_2, insD_3, contD_some, storeD_some, s_r_gins, gR_tup, gR_tt, gR_ff, gR_tf, gR_ft, gR_dec_t, gR_dec_f, s_d_gins, gD_tup, gD_tt, gD_ff, gD_tf, gD_ft, gD_dec_t, gD_dec_f, putO_nothing, putO_lo, putO_hi, mix_get, putO_some, putO_none, lit_t, lit_c, ev_t, ev_c, okind, vpre, vpure, binV_int, binV_str, binPre_int, binPre_str, intBin, intPre, strBin, strPre, popTo, argSlots, lenV_own, lenV_sl, lenV_nils, lenV_str, fldV, fldAV, subCells, idxAV_own, idxVV, idxAAV, idxSV, loadV_ptr, loadV_rp_agg, loadV_rp_int, sliceV, sliceSV, boundV, szIs, storeOp, storeS, setRowV, eff, extV, buildV, splice, eqSV, fitsL, eqCells, eqCell, minmaxV, binBV, nilCheckV, bytesV, V.cells, V.stays, upd_same, upd_upd, true_implies, false_implies, implies_true, keepS_eq, List.getD_cons_zero, List.getD_cons_succ, List.getD_nil, List.map_cons, List.map_nil, List.length_cons, List.length_nil, List.drop_succ_cons, List.drop_zero, List.take_succ_cons, List.take_zero, List.set_cons_zero, List.set_cons_succ, List.append_nil, List.nil_append, List.cons_append, List.all_cons, List.all_nil, List.getElem?_cons_zero, List.getElem?_cons_succ, List.contains_cons, List.contains_nil, Option.isSome_some, Option.map_some, Option.map_none, true_and, and_true, and_self, Int.reduceEq, Int.reduceNe, Int.reduceLT, Int.reduceLE, Int.reduceGT, Int.reduceGE, Nat.reduceEqDiff, Nat.reduceAdd, Nat.reduceMul, Nat.reduceLeDiff, Nat.reduceSub, Nat.reduceLT, Nat.reduceBEq, Nat.zero_add, Nat.add_zero, ↓reduceIte, reduceCtorEq, ← decide_not, Bool.not_true, Bool.not_false, Bool.false_eq_true, Bool.or_true, Bool.true_or, Bool.or_false, Bool.false_or, Bool.true_and, Bool.and_true, Bool.and_self, decide_true, decide_false, decide_eq_true_eq, a9', a11, hmax, hmin, hab, upd_ne n911, lenV_encNs, Sm.cells]
      refine Runs.loop (fun m st => ∃ i : Nat, i ≤ a.length ∧ m = a.length - i ∧ SubStore L st.σ ∧ st.s 0 = encNs a ∧ st.s 12 = vI i) a.length ?_ ?_
      · exact ⟨0, by omega, by omega, hL7', rfl, rfl⟩
      · rintro m ⟨s, σ'⟩ ⟨i, hi, rfl, hsub, h0, h12⟩
        simp only at hsub h0 h12
        refine Runs.mix 17 ?_
        by_cases hlt : i < a.length
        · obtain ⟨w1, w2, w3, w4, w5⟩ := countR_within hA hlt
          have hok : a.all Nd.ok = true ∧ rowsB a 0 a.length = true := by simpa [isB] using hA
          obtain ⟨z1, z2, z3⟩ := rowsB_size a (a.length + 1) 0 a.length (by omega) (by omega) hok.2 i (by omega) hlt hlt
          have e1 := countR_sums w1
          have e2 := countR_sums w2
          have e1' : (countR ((a.drop (i + 1)).take (a[i].size.toNat - 1))).2 = 0 := by rw [e1]
          have e2' : (countR ((a.drop i).take a[i].size.toNat)).2 = 0 := by rw [e2]
          have hF1 := hFa.window (i + 1) (a[i].size.toNat - 1)
          have hF2 := hFa.window i a[i].size.toNat
          obtain ⟨⟨⟨fc1, fc2⟩, ⟨fc3, fc4⟩, fc5, fc6⟩, fc7⟩ := countR_fine hF1 w1
          obtain ⟨⟨⟨fd1, fd2⟩, ⟨fd3, fd4⟩, fd5, fd6⟩, fd7⟩ := countR_fine hF2 w2
          have hl1 : ((a.drop (i + 1)).take (a[i].size.toNat - 1)).length ≤ 200 := by simp; omega
          generalize hxe : a[i] = x at *
          have hlt2 : (i : Int) < a.length := by omega
          have hz1 : ¬ x.size < 1 := by omega
          have hz2 : ¬ x.size > (a.length : Int) - i := by omega
          have r1 : inR .i64 ((a.length : Int) - i) := inR_i64 (by omega) (by omega)
          have r2 : inR .i64 ((i : Int) + 1) := inR_i64 (by omega) (by omega)
          have r3 : inR .i64 ((i : Int) + x.size) := inR_i64 (by omega) (by omega)
          have hsl1 : ∀ σ, sliceV σ 20 (encNs a) (some (.int .i64 ((i : Int) + 1))) (some (.int .i64 ((i : Int) + x.size))) none = some (encNs ((a.drop (i + 1)).take (x.size.toNat - 1))) := by
            intro σ
            rw [sliceV_encNs (by omega) (by omega) (by omega), show ((i : Int) + 1).toNat = i + 1 by omega, show ((i : Int) + x.size).toNat - (i + 1) = x.size.toNat - 1 by omega]
          have hsl2 : ∀ σ, sliceV σ 20 (encNs a) (some (.int .i64 (i : Int))) (some (.int .i64 ((i : Int) + x.size))) none = some (encNs ((a.drop i).take x.size.toNat)) := by
            intro σ
            rw [sliceV_encNs (by omega) (by omega) (by omega), show ((i : Int)).toNat = i by omega, show ((i : Int) + x.size).toNat - i = x.size.toNat by omega]
          (refine Runs.of_step O26 300 ?_; simp -implicitDefEqProofs only [s_r_nil, Ret_one, Ret_two, Ret_three, Ret_none, Ret_cell_one, Ret_cell_two, onSome_some, s_r_stop, s_r_inBlock, s_r_ops_nil, s_r_skip, s_r_seq, s_r_block, s_r_exit, exR_some, s_r_ret, s_r_loop, s_r_reg, s_r_dreg, s_d_nil, s_r_cond, cR_t, cR_f, cR_dec, s_r_ins, insR_0, insR_1, insR_2, insR_3, insR_4, callR_some, callR_none, callV_eq, callD_some, callD_none, contR_some, storeR_some, s_d_ins, insD_0, insD_1, insD_2, insD_3, contD_some, storeD_some, s_r_gins, gR_tup, gR_tt, gR_ff, gR_tf, gR_ft, gR_dec_t, gR_dec_f, s_d_gins, gD_tup, gD_tt, gD_ff, gD_tf, gD_ft, gD_dec_t, gD_dec_f, putO_nothing, putO_lo, putO_hi, mix_get, putO_some, putO_none, lit_t, lit_c, ev_t, ev_c, okind, vpre, vpure, binV_int, binV_str, binPre_int, binPre_str, intBin, intPre, strBin, strPre, popTo, argSlots, lenV_own, lenV_sl, lenV_nils, lenV_str, fldV, fldAV, subCells, idxAV_own, idxVV, idxAAV, idxSV, loadV_ptr, loadV_rp_agg, loadV_rp_int, sliceSV, boundV, szIs, storeOp, storeS, setRowV, eff, extV, buildV, splice, eqSV, fitsL, eqCells, eqCell, minmaxV, binBV, nilCheckV, bytesV, V.cells, V.stays, upd_same, upd_upd, true_implies, false_implies, implies_true, keepS_eq, List.getD_cons_zero, List.getD_cons_succ, List.getD_nil, List.map_cons, List.map_nil, List.length_cons, List.length_nil, List.drop_succ_cons, List.drop_zero, List.take_succ_cons, List.take_zero, List.set_cons_zero, List.set_cons_succ, List.append_nil, List.nil_append, List.cons_append, List.all_cons, List.all_nil, List.getElem?_cons_zero, List.getElem?_cons_succ, List.contains_cons, List.contains_nil, Option.isSome_some, Option.map_some, Option.map_none, true_and, and_true, and_self, Int.reduceEq, Int.reduceNe, Int.reduceLT, Int.reduceLE, Int.reduceGT, Int.reduceGE, Nat.reduceEqDiff, Nat.reduceAdd, Nat.reduceMul, Nat.reduceLeDiff, Nat.reduceSub, Nat.reduceLT, Nat.reduceBEq, Nat.zero_add, Nat.add_zero, ↓reduceIte, reduceCtorEq, ← decide_not, Bool.not_true, Bool.not_false, Bool.false_eq_true, Bool.or_true, Bool.true_or, Bool.or_false, Bool.false_or, Bool.true_and, Bool.and_true, Bool.and_self, decide_true, decide_false, decide_eq_true_eq, h0, h12, lenV_encNs, hlt2, idxAV_encNs hlt, hxe, Nd.cells, hz1, hz2, r1, r2, r3, hsl1, hsl2, O26_11 hF1, O26_11 hF2, Sm.cells])
          refine effR_new fun id13 σ8 s8 a13 f13 => ?_
          have f13' : L id13 = none := hsub.none f13
          simp -implicitDefEqProofs only [s_r_nil, Ret_one, Ret_two, Ret_three, Ret_none, Ret_cell_one, Ret_cell_two, onSome_some, s_r_stop, s_r_inBlock, s_r_ops_nil, s_r_skip, s_r_seq, s_r_block, s_r_exit, exR_some, s_r_ret, s_r_loop, s_r_reg, s_r_dreg, s_d_nil, s_r_cond, cR_t, cR_f, cR_dec, s_r_ins, insR_0, insR_1, insR_2, insR_3, insR_4, callR_some, callR_none, callV_eq, callD_some, callD_none, contR_some, storeR_some, s_d_ins, insD_0, insD_1, insD_2, insD_3, contD_some, storeD_some, s_r_gins, gR_tup, gR_tt, gR_ff, gR_tf, gR_ft, gR_dec_t, gR_dec_f, s_d_gins, gD_tup, gD_tt, gD_ff, gD_tf, gD_ft, gD_dec_t, gD_dec_f, putO_nothing, putO_lo, putO_hi, mix_get, putO_some, putO_none, lit_t, lit_c, ev_t, ev_c, okind, vpre, vpure, binV_int, binV_str, binPre_int, binPre_str, intBin, intPre, strBin, strPre, popTo, argSlots, lenV_own, lenV_sl, lenV_nils, lenV_str, fldV, fldAV, subCells, idxAV_own, idxVV, idxAAV, idxSV, loadV_ptr, loadV_rp_agg, loadV_rp_int, sliceSV, boundV, szIs, storeOp, storeS, setRowV, eff, extV, buildV, splice, eqSV, fitsL, eqCells, eqCell, minmaxV, binBV, nilCheckV, bytesV, V.cells, V.stays, upd_same, upd_upd, true_implies, false_implies, implies_true, keepS_eq, List.getD_cons_zero, List.getD_cons_succ, List.getD_nil, List.map_cons, List.map_nil, List.length_cons, List.length_nil, List.drop_succ_cons, List.drop_zero, List.take_succ_cons, List.take_zero, List.set_cons_zero, List.set_cons_succ, List.append_nil, List.nil_append, List.cons_append, List.all_cons, List.all_nil, List.getElem?_cons_zero, List.getElem?_cons_succ, List.contains_cons, List.contains_nil, Option.isSome_some, Option.map_some, Option.map_none, true_and, and_true, and_self, Int.reduceEq, Int.reduceNe, Int.reduceLT, Int.reduceLE, Int.reduceGT, Int.reduceGE, Nat.reduceEqDiff, Nat.reduceAdd, Nat.reduceMul, Nat.reduceLeDiff, Nat.reduceSub, Nat.reduceLT, Nat.reduceBEq, Nat.zero_add, Nat.add_zero, ↓reduceIte, reduceCtorEq, ← decide_not, Bool.not_true, Bool.not_false, Bool.false_eq_true, Bool.or_true, Bool.true_or, Bool.or_false, Bool.false_or, Bool.true_and, Bool.and_true, Bool.and_self, decide_true, decide_false, decide_eq_true_eq, a13, h0, h12, lenV_encNs, hlt2, idxAV_encNs hlt, hxe, Nd.cells, hz1, hz2, r1, r2, r3, hsl1, hsl2, O26_11 hF1, O26_11 hF2, Sm.cells]
          refine effR_new fun id15 σ9 s9 a15 f15 => ?_
          have n1315 : id13 ≠ id15 := by rintro rfl; rw [upd_same] at f15; cases f15
          have hs8 := ((hsub.trans s8).updK f13' (o := ⟨31, 4, [.agg (countR ((a.drop (i + 1)).take (x.size.toNat - 1))).1.cells]⟩))
          have f15' : L id15 = none := hs8.none f15
          have a13 := s9 id13 _ upd_same
          have hs9 := (hs8.trans s9).updK f15' (o := ⟨31, 4, [.agg (countR ((a.drop i).take x.size.toNat)).1.cells]⟩)
          have r4 : inR .i64 ((countR ((a.drop (i + 1)).take (x.size.toNat - 1))).1.depth + 1) := inR_i64 (by omega) (by omega)
          have r5 : inR .i64 ((countR ((a.drop (i + 1)).take (x.size.toNat - 1))).1.nodes + 1) := inR_i64 (by omega) (by omega)
          have hh : ¬ (countR ((a.drop i).take x.size.toNat)).1.heights < (countR ((a.drop (i + 1)).take (x.size.toNat - 1))).1.heights := by omega
          have hne : ∀ n : Int, (n ≠ n) = False := by simp
          by_cases hk : x.kind = 1
          · simp -implicitDefEqProofs only [s_r_nil, Ret_one, Ret_two, Ret_three, Ret_none, Ret_cell_one, Ret_cell_two, onSome_some, s_r_stop, s_r_inBlock, s_r_ops_nil, s_r_skip, s_r_seq, s_r_block, s_r_exit, exR_some, s_r_ret, s_r_loop, s_r_reg, s_r_dreg, s_d_nil, s_r_cond, cR_t, cR_f, cR_dec, s_r_ins, insR_0, insR_1, insR_2, insR_3, insR_4, callR_some, callR_none, callV_eq, callD_some, callD_none, contR_some, storeR_some, s_d_ins, insD_0, insD_1, insD_2, insD_3, contD_some, storeD_some, s_r_gins, gR_tup, gR_tt, gR_ff, gR_tf, gR_ft, gR_dec_t, gR_dec_f, s_d_gins, gD_tup, gD_tt, gD_ff, gD_tf, gD_ft, gD_dec_t, gD_dec_f, putO_nothing, putO_lo, putO_hi, mix_get, putO_some, putO_none, lit_t, lit_c, ev_t, ev_c, okind, vpre, vpure, binV_int, binV_str, binPre_int, binPre_str, intBin, intPre, strBin, strPre, popTo, argSlots, lenV_own, lenV_sl, lenV_nils, lenV_str, fldV, fldAV, subCells, idxAV_own, idxVV, idxAAV, idxSV, loadV_ptr, loadV_rp_agg, loadV_rp_int, sliceV, sliceSV, boundV, szIs, storeOp, storeS, setRowV, eff, extV, buildV, splice, eqSV, fitsL, eqCells, eqCell, minmaxV, binBV, nilCheckV, bytesV, V.cells, V.stays, upd_same, upd_upd, true_implies, false_implies, implies_true, keepS_eq, List.getD_cons_zero, List.getD_cons_succ, List.getD_nil, List.map_cons, List.map_nil, List.length_cons, List.length_nil, List.drop_succ_cons, List.drop_zero, List.take_succ_cons, List.take_zero, List.set_cons_zero, List.set_cons_succ, List.append_nil, List.nil_append, List.cons_append, List.all_cons, List.all_nil, List.getElem?_cons_zero, List.getElem?_cons_succ, List.contains_cons, List.contains_nil, Option.isSome_some, Option.map_some, Option.map_none, true_and, and_true, and_self, Int.reduceEq, Int.reduceNe, Int.reduceLT, Int.reduceLE, Int.reduceGT, Int.reduceGE, Nat.reduceEqDiff, Nat.reduceAdd, Nat.reduceMul, Nat.reduceLeDiff, Nat.reduceSub, Nat.reduceLT, Nat.reduceBEq, Nat.zero_add, Nat.add_zero, ↓reduceIte, reduceCtorEq, ← decide_not, Bool.not_true, Bool.not_false, Bool.false_eq_true, Bool.or_true, Bool.true_or, Bool.or_false, Bool.false_or, Bool.true_and, Bool.and_true, Bool.and_self, decide_true, decide_false, decide_eq_true_eq, a13, a15, upd_ne n1315, e1', e2', hk, w3 hk, w4, hh, hne, r2, r4, r5, h0, h12, lenV_encNs, idxAV_encNs hlt, hxe, Nd.cells, Sm.cells]
            exact ⟨_, by omega, i + 1, by omega, rfl, (hs8.trans s9).updK f15', by simp⟩
          · simp -implicitDefEqProofs only [s_r_nil, Ret_one, Ret_two, Ret_three, Ret_none, Ret_cell_one, Ret_cell_two, onSome_some, s_r_stop, s_r_inBlock, s_r_ops_nil, s_r_skip, s_r_seq, s_r_block, s_r_exit, exR_some, s_r_ret, s_r_loop, s_r_reg, s_r_dreg, s_d_nil, s_r_cond, cR_t, cR_f, cR_dec, s_r_ins, insR_0, insR_1, insR_2, insR_3, insR_4, callR_some, callR_none, callV_eq, callD_some, callD_none, contR_some, storeR_some, s_d_ins, insD_0, insD_1, insD_2, insD_3, contD_some, storeD_some, s_r_gins, gR_tup, gR_tt, gR_ff, gR_tf, gR_ft, gR_dec_t, gR_dec_f, s_d_gins, gD_tup, gD_tt, gD_ff, gD_tf, gD_ft, gD_dec_t, gD_dec_f, putO_nothing, putO_lo, putO_hi, mix_get, putO_some, putO_none, lit_t, lit_c, ev_t, ev_c, okind, vpre, vpure, binV_int, binV_str, binPre_int, binPre_str, intBin, intPre, strBin, strPre, popTo, argSlots, lenV_own, lenV_sl, lenV_nils, lenV_str, fldV, fldAV, subCells, idxAV_own, idxVV, idxAAV, idxSV, loadV_ptr, loadV_rp_agg, loadV_rp_int, sliceV, sliceSV, boundV, szIs, storeOp, storeS, setRowV, eff, extV, buildV, splice, eqSV, fitsL, eqCells, eqCell, minmaxV, binBV, nilCheckV, bytesV, V.cells, V.stays, upd_same, upd_upd, true_implies, false_implies, implies_true, keepS_eq, List.getD_cons_zero, List.getD_cons_succ, List.getD_nil, List.map_cons, List.map_nil, List.length_cons, List.length_nil, List.drop_succ_cons, List.drop_zero, List.take_succ_cons, List.take_zero, List.set_cons_zero, List.set_cons_succ, List.append_nil, List.nil_append, List.cons_append, List.all_cons, List.all_nil, List.getElem?_cons_zero, List.getElem?_cons_succ, List.contains_cons, List.contains_nil, Option.isSome_some, Option.map_some, Option.map_none, true_and, and_true, and_self, Int.reduceEq, Int.reduceNe, Int.reduceLT, Int.reduceLE, Int.reduceGT, Int.reduceGE, Nat.reduceEqDiff, Nat.reduceAdd, Nat.reduceMul, Nat.reduceLeDiff, Nat.reduceSub, Nat.reduceLT, Nat.reduceBEq, Nat.zero_add, Nat.add_zero, ↓reduceIte, reduceCtorEq, ← decide_not, Bool.not_true, Bool.not_false, Bool.false_eq_true, Bool.or_true, Bool.true_or, Bool.or_false, Bool.false_or, Bool.true_and, Bool.and_true, Bool.and_self, decide_true, decide_false, decide_eq_true_eq, a13, a15, upd_ne n1315, e1', e2', hk, w4, hh, hne, r2, r4, r5, h0, h12, lenV_encNs, idxAV_encNs hlt, hxe, Nd.cells, Sm.cells]
            exact ⟨_, by omega, i + 1, by omega, rfl, (hs8.trans s9).updK f15', by simp⟩
        · have hlt2 : ¬ (i : Int) < a.length := by omega
          (refine Runs.of_step O26 300 ?_; simp -implicitDefEqProofs only [s_r_nil, Ret_one, Ret_two, Ret_three, Ret_none, Ret_cell_one, Ret_cell_two, onSome_some, s_r_stop, s_r_inBlock, s_r_ops_nil, s_r_skip, s_r_seq, s_r_block, s_r_exit, exR_some, s_r_ret, s_r_loop, s_r_reg, s_r_dreg, s_d_nil, s_r_cond, cR_t, cR_f, cR_dec, s_r_ins, insR_0, insR_1, insR_2, insR_3, insR_4, callR_some, callR_none, callV_eq, callD_some, callD_none, contR_some, storeR_some, s_d_ins, insD_0, insD_1, insD_2, insD_3, contD_some, storeD_some, s_r_gins, gR_tup, gR_tt, gR_ff, gR_tf, gR_ft, gR_dec_t, gR_dec_f, s_d_gins, gD_tup, gD_tt, gD_ff, gD_tf, gD_ft, gD_dec_t, gD_dec_f, putO_nothing, putO_lo, putO_hi, mix_get, putO_some, putO_none, lit_t, lit_c, ev_t, ev_c, okind, vpre, vpure, binV_int, binV_str, binPre_int, binPre_str, intBin, intPre, strBin, strPre, popTo, argSlots, lenV_own, lenV_sl, lenV_nils, lenV_str, fldV, fldAV, subCells, idxAV_own, idxVV, idxAAV, idxSV, loadV_ptr, loadV_rp_agg, loadV_rp_int, sliceV, sliceSV, boundV, szIs, storeOp, storeS, setRowV, eff, extV, buildV, splice, eqSV, fitsL, eqCells, eqCell, minmaxV, binBV, nilCheckV, bytesV, V.cells, V.stays, upd_same, upd_upd, true_implies, false_implies, implies_true, keepS_eq, List.getD_cons_zero, List.getD_cons_succ, List.getD_nil, List.map_cons, List.map_nil, List.length_cons, List.length_nil, List.drop_succ_cons, List.drop_zero, List.take_succ_cons, List.take_zero, List.set_cons_zero, List.set_cons_succ, List.append_nil, List.nil_append, List.cons_append, List.all_cons, List.all_nil, List.getElem?_cons_zero, List.getElem?_cons_succ, List.contains_cons, List.contains_nil, Option.isSome_some, Option.map_some, Option.map_none, true_and, and_true, and_self, Int.reduceEq, Int.reduceNe, Int.reduceLT, Int.reduceLE, Int.reduceGT, Int.reduceGE, Nat.reduceEqDiff, Nat.reduceAdd, Nat.reduceMul, Nat.reduceLeDiff, Nat.reduceSub, Nat.reduceLT, Nat.reduceBEq, Nat.zero_add, Nat.add_zero, ↓reduceIte, reduceCtorEq, ← decide_not, Bool.not_true, Bool.not_false, Bool.false_eq_true, Bool.or_true, Bool.true_or, Bool.or_false, Bool.false_or, Bool.true_and, Bool.and_true, Bool.and_self, decide_true, decide_false, decide_eq_true_eq, h0, h12, lenV_encNs, hlt2, O26_9])
          exact hret _ hsub
    · have hB' : isB b = false := by simpa using hB
      have ea : (countR a).2 = 0 := by rw [countR_sums hA]
      have cb := countR_not hB'
      simp -implicitDefEqProofs only [s_r_nil, Ret_one, Ret_two, Ret_three, Ret_none, Ret_cell_one, Ret_cell_two, onSome_some, s_r_stop, s_r_inBlock, s_r_ops_nil, s_r_skip, s_r_seq, s_r_block, s_r_exit, exR_some, s_r_ret, s_r_loop, s_r_reg, s_r_dreg, s_d_nil, s_r_cond, cR_t, cR_f, cR_dec, s_r_ins, insR_0, insR_1, insR_2, insR_3, insR_4, callR_some, callR_none, callV_eq, callD_some, callD_none, contR_some, storeR_some, s_d_ins, insD_0, insD_1, insD_2, insD_3, contD_some, storeD_some, s_r_gins, gR_tup, gR_tt, gR_ff, gR_tf, gR_ft, gR_dec_t, gR_dec_f, s_d_gins, gD_tup, gD_tt, gD_ff, gD_tf, gD_ft, gD_dec_t, gD_dec_f, putO_nothing, putO_lo, putO_hi, mix_get, putO_some, putO_none, lit_t, lit_c, ev_t, ev_c, okind, vpre, vpure, binV_int, binV_str, binPre_int, binPre_str, intBin, intPre, strBin, strPre, popTo, argSlots, lenV_own, lenV_sl, lenV_nils, lenV_str, fldV, fldAV, subCells, idxAV_own, idxVV, idxAAV, idxSV, loadV_ptr, loadV_rp_agg, loadV_rp_int, sliceV, sliceSV, boundV, szIs, storeOp, storeS, setRowV, eff, extV, buildV, splice, eqSV, fitsL, eqCells, eqCell, minmaxV, binBV, nilCheckV, bytesV, V.cells, V.stays, upd_same, upd_upd, true_implies, false_implies, implies_true, keepS_eq, List.getD_cons_zero, List.getD_cons_succ, List.getD_nil, List.map_cons, List.map_nil, List.length_cons, List.length_nil, List.drop_succ_cons, List.drop_zero, List.take_succ_cons, List.take_zero, List.set_cons_zero, List.set_cons_succ, List.append_nil, List.nil_append, List.cons_append, List.all_cons, List.all_nil, List.getElem?_cons_zero, List.getElem?_cons_succ, List.contains_cons, List.contains_nil, Option.isSome_some, Option.map_some, Option.map_none, true_and, and_true, and_self, Int.reduceEq, Int.reduceNe, Int.reduceLT, Int.reduceLE, Int.reduceGT, Int.reduceGE, Nat.reduceEqDiff, Nat.reduceAdd, Nat.reduceMul, Nat.reduceLeDiff, Nat.reduceSub, Nat.reduceLT, Nat.reduceBEq, Nat.zero_add, Nat.add_zero, ↓reduceIte, reduceCtorEq, ← decide_not, Bool.not_true, Bool.not_false, Bool.false_eq_true, Bool.or_true, Bool.true_or, Bool.or_false, Bool.false_or, Bool.true_and, Bool.and_true, Bool.and_self, decide_true, decide_false, decide_eq_true_eq, a9, ea, cb, a5, a7, O26_9, Sm.cells]
      exact hret _ hL6
  · have hA' : isB a = false := by simpa using hA
    have ca := countR_not hA'
    by_cases hB : isB b = true
    · have eb : (countR b).2 = 0 := by rw [countR_sums hB]
      simp -implicitDefEqProofs only [s_r_nil, Ret_one, Ret_two, Ret_three, Ret_none, Ret_cell_one, Ret_cell_two, onSome_some, s_r_stop, s_r_inBlock, s_r_ops_nil, s_r_skip, s_r_seq, s_r_block, s_r_exit, exR_some, s_r_ret, s_r_loop, s_r_reg, s_r_dreg, s_d_nil, s_r_cond, cR_t, cR_f, cR_dec, s_r_ins, insR_0, insR_1, insR_2, insR_3, insR_4, callR_some, callR_none, callV_eq, callD_some, callD_none, contR_some, storeR_some, s_d_ins, insD_0, insD_1, insD_2, insD_3, contD_some, storeD_some, s_r_gins, gR_tup, gR_tt, gR_ff, gR_tf, gR_ft, gR_dec_t, gR_dec_f, s_d_gins, gD_tup, gD_tt, gD_ff, gD_tf, gD_ft, gD_dec_t, gD_dec_f, putO_nothing, putO_lo, putO_hi, mix_get, putO_some, putO_none, lit_t, lit_c, ev_t, ev_c, okind, vpre, vpure, binV_int, binV_str, binPre_int, binPre_str, intBin, intPre, strBin, strPre, popTo, argSlots, lenV_own, lenV_sl, lenV_nils, lenV_str, fldV, fldAV, subCells, idxAV_own, idxVV, idxAAV, idxSV, loadV_ptr, loadV_rp_agg, loadV_rp_int, sliceV, sliceSV, boundV, szIs, storeOp, storeS, setRowV, eff, extV, buildV, splice, eqSV, fitsL, eqCells, eqCell, minmaxV, binBV, nilCheckV, bytesV, V.cells, V.stays, upd_same, upd_upd, true_implies, false_implies, implies_true, keepS_eq, List.getD_cons_zero, List.getD_cons_succ, List.getD_nil, List.map_cons, List.map_nil, List.length_cons, List.length_nil, List.drop_succ_cons, List.drop_zero, List.take_succ_cons, List.take_zero, List.set_cons_zero, List.set_cons_succ, List.append_nil, List.nil_append, List.cons_append, List.all_cons, List.all_nil, List.getElem?_cons_zero, List.getElem?_cons_succ, List.contains_cons, List.contains_nil, Option.isSome_some, Option.map_some, Option.map_none, true_and, and_true, and_self, Int.reduceEq, Int.reduceNe, Int.reduceLT, Int.reduceLE, Int.reduceGT, Int.reduceGE, Nat.reduceEqDiff, Nat.reduceAdd, Nat.reduceMul, Nat.reduceLeDiff, Nat.reduceSub, Nat.reduceLT, Nat.reduceBEq, Nat.zero_add, Nat.add_zero, ↓reduceIte, reduceCtorEq, ← decide_not, Bool.not_true, Bool.not_false, Bool.false_eq_true, Bool.or_true, Bool.true_or, Bool.or_false, Bool.false_or, Bool.true_and, Bool.and_true, Bool.and_self, decide_true, decide_false, decide_eq_true_eq, a9, ca, eb, a5, a7, O26_9, Sm.cells]
      exact hret _ hL6
    · have hB' : isB b = false := by simpa using hB
      have cb := countR_not hB'
      simp -implicitDefEqProofs only [s_r_nil, Ret_one, Ret_two, Ret_three, Ret_none, Ret_cell_one, Ret_cell_two, onSome_some, s_r_stop, s_r_inBlock, s_r_ops_nil, s_r_skip, s_r_seq, s_r_block, s_r_exit, exR_some, s_r_ret, s_r_loop, s_r_reg, s_r_dreg, s_d_nil, s_r_cond, cR_t, cR_f, cR_dec, s_r_ins, insR_0, insR_1, insR_2, insR_3, insR_4, callR_some, callR_none, callV_eq, callD_some, callD_none, contR_some, storeR_some, s_d_ins, insD_0, insD_1, insD_2, insD_3, contD_some, storeD_some, s_r_gins, gR_tup, gR_tt, gR_ff, gR_tf, gR_ft, gR_dec_t, gR_dec_f, s_d_gins, gD_tup, gD_tt, gD_ff, gD_tf, gD_ft, gD_dec_t, gD_dec_f, putO_nothing, putO_lo, putO_hi, mix_get, putO_some, putO_none, lit_t, lit_c, ev_t, ev_c, okind, vpre, vpure, binV_int, binV_str, binPre_int, binPre_str, intBin, intPre, strBin, strPre, popTo, argSlots, lenV_own, lenV_sl, lenV_nils, lenV_str, fldV, fldAV, subCells, idxAV_own, idxVV, idxAAV, idxSV, loadV_ptr, loadV_rp_agg, loadV_rp_int, sliceV, sliceSV, boundV, szIs, storeOp, storeS, setRowV, eff, extV, buildV, splice, eqSV, fitsL, eqCells, eqCell, minmaxV, binBV, nilCheckV, bytesV, V.cells, V.stays, upd_same, upd_upd, true_implies, false_implies, implies_true, keepS_eq, List.getD_cons_zero, List.getD_cons_succ, List.getD_nil, List.map_cons, List.map_nil, List.length_cons, List.length_nil, List.drop_succ_cons, List.drop_zero, List.take_succ_cons, List.take_zero, List.set_cons_zero, List.set_cons_succ, List.append_nil, List.nil_append, List.cons_append, List.all_cons, List.all_nil, List.getElem?_cons_zero, List.getElem?_cons_succ, List.contains_cons, List.contains_nil, Option.isSome_some, Option.map_some, Option.map_none, true_and, and_true, and_self, Int.reduceEq, Int.reduceNe, Int.reduceLT, Int.reduceLE, Int.reduceGT, Int.reduceGE, Nat.reduceEqDiff, Nat.reduceAdd, Nat.reduceMul, Nat.reduceLeDiff, Nat.reduceSub, Nat.reduceLT, Nat.reduceBEq, Nat.zero_add, Nat.add_zero, ↓reduceIte, reduceCtorEq, ← decide_not, Bool.not_true, Bool.not_false, Bool.false_eq_true, Bool.or_true, Bool.true_or, Bool.or_false, Bool.false_or, Bool.true_and, Bool.and_true, Bool.and_self, decide_true, decide_false, decide_eq_true_eq, a9, ca, cb, a5, a7, O26_9, Sm.cells]
      exact hret _ hL6
end Go.Vc
