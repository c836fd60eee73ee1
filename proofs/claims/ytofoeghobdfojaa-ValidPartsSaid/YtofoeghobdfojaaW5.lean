/- Part 5 of the library of this proof. -/
import Derived.Test.YtofoeghobdfojaaW4
set_option linter.all false
/- Contracts: the small functions of the answer to the layer valid. -/
namespace Go.Vc
open Go.Proofs

abbrev vI (n : Int) : V := .int .i64 n

theorem from_c (n a b : Int) : PFun Try.prog 67 [vI n, vI a, vI b] (.bool (decide (n ≥ a ∧ n ≤ b))) := fun σ => by
  refine Contract.of_runs Try.func67 e67 k67 (by simp [c67]) ?_
  (refine Runs.of_step Orc.nothing 300 ?_; simp -implicitDefEqProofs only [s_r_nil, Ret_one, Ret_two, Ret_three, Ret_none, Ret_cell_one, Ret_cell_two, onSome_some, s_r_stop, s_r_inBlock, s_r_ops_nil, s_r_skip, s_r_seq, s_r_block, s_r_exit, exR_some, s_r_ret, s_r_loop, s_r_reg, s_r_dreg, s_d_nil, s_r_cond, cR_t, cR_f, cR_dec, s_r_ins, insR_0, insR_1, insR_2, insR_3, insR_4, callR_some, callR_none, callV_eq, callD_some, callD_none, contR_some, storeR_some, effR_some, s_d_ins, insD_0, insD_1, insD_2, insD_3, contD_some, storeD_some, effD_some, s_r_gins, gR_tup, gR_tt, gR_ff, gR_tf, gR_ft, gR_dec_t, gR_dec_f, s_d_gins, gD_tup, gD_tt, gD_ff, gD_tf, gD_ft, gD_dec_t, gD_dec_f, putO_nothing, putO_lo, putO_hi, mix_get, putO_some, putO_none, lit_t, lit_c, ev_t, ev_c, okind, vpre, vpure, binV_int, binV_str, binPre_int, binPre_str, intBin, intPre, strBin, strPre, popTo, argSlots, lenV_own, lenV_sl, lenV_nils, lenV_str, fldV, fldAV, subCells, idxAV_own, idxVV, idxAAV, idxSV, loadV_ptr, loadV_rp_agg, loadV_rp_int, sliceV, sliceSV, boundV, szIs, storeOp, storeS, setRowV, eff, extV, buildV, splice, eqSV, fitsL, eqCells, eqCell, minmaxV, binBV, nilCheckV, bytesV, V.cells, V.stays, upd_same, upd_upd, true_implies, false_implies, implies_true, keepS_eq, List.getD_cons_zero, List.getD_cons_succ, List.getD_nil, List.map_cons, List.map_nil, List.length_cons, List.length_nil, List.drop_succ_cons, List.drop_zero, List.take_succ_cons, List.take_zero, List.set_cons_zero, List.set_cons_succ, List.append_nil, List.nil_append, List.cons_append, List.all_cons, List.all_nil, List.getElem?_cons_zero, List.getElem?_cons_succ, List.contains_cons, List.contains_nil, Option.isSome_some, Option.map_some, Option.map_none, true_and, and_true, and_self, Int.reduceEq, Int.reduceNe, Int.reduceLT, Int.reduceLE, Int.reduceGT, Int.reduceGE, Nat.reduceEqDiff, Nat.reduceAdd, Nat.reduceMul, Nat.reduceLeDiff, Nat.reduceSub, Nat.reduceLT, Nat.reduceBEq, Nat.zero_add, Nat.add_zero, ↓reduceIte, reduceCtorEq, ← decide_not, Bool.not_true, Bool.not_false, Bool.false_eq_true, Bool.or_true, Bool.true_or, Bool.or_false, Bool.false_or, Bool.true_and, Bool.and_true, Bool.and_self, decide_true, decide_false, decide_eq_true_eq, Orc.nothing, c67])
  constructor <;> intro h <;> exact RetV.same (by simp [h])

theorem plus_c (a b : Int) (h1 : 0 ≤ a ∧ a ≤ 1099511627777) (h2 : -1000000000000000000 ≤ b ∧ b ≤ 9000000000000000000) : PFun Try.prog 34 [vI a, vI b] (vI (min (a + b) 1099511627777)) := fun σ => by
  refine Contract.of_runs Try.func34 e34 k34 (by simp [c34]) ?_
  (refine Runs.of_step Orc.nothing 300 ?_; simp -implicitDefEqProofs only [s_r_nil, Ret_one, Ret_two, Ret_three, Ret_none, Ret_cell_one, Ret_cell_two, onSome_some, s_r_stop, s_r_inBlock, s_r_ops_nil, s_r_skip, s_r_seq, s_r_block, s_r_exit, exR_some, s_r_ret, s_r_loop, s_r_reg, s_r_dreg, s_d_nil, s_r_cond, cR_t, cR_f, cR_dec, s_r_ins, insR_0, insR_1, insR_2, insR_3, insR_4, callR_some, callR_none, callV_eq, callD_some, callD_none, contR_some, storeR_some, effR_some, s_d_ins, insD_0, insD_1, insD_2, insD_3, contD_some, storeD_some, effD_some, s_r_gins, gR_tup, gR_tt, gR_ff, gR_tf, gR_ft, gR_dec_t, gR_dec_f, s_d_gins, gD_tup, gD_tt, gD_ff, gD_tf, gD_ft, gD_dec_t, gD_dec_f, putO_nothing, putO_lo, putO_hi, mix_get, putO_some, putO_none, lit_t, lit_c, ev_t, ev_c, okind, vpre, vpure, binV_int, binV_str, binPre_int, binPre_str, intBin, intPre, strBin, strPre, popTo, argSlots, lenV_own, lenV_sl, lenV_nils, lenV_str, fldV, fldAV, subCells, idxAV_own, idxVV, idxAAV, idxSV, loadV_ptr, loadV_rp_agg, loadV_rp_int, sliceV, sliceSV, boundV, szIs, storeOp, storeS, setRowV, eff, extV, buildV, splice, eqSV, fitsL, eqCells, eqCell, minmaxV, binBV, nilCheckV, bytesV, V.cells, V.stays, upd_same, upd_upd, true_implies, false_implies, implies_true, keepS_eq, List.getD_cons_zero, List.getD_cons_succ, List.getD_nil, List.map_cons, List.map_nil, List.length_cons, List.length_nil, List.drop_succ_cons, List.drop_zero, List.take_succ_cons, List.take_zero, List.set_cons_zero, List.set_cons_succ, List.append_nil, List.nil_append, List.cons_append, List.all_cons, List.all_nil, List.getElem?_cons_zero, List.getElem?_cons_succ, List.contains_cons, List.contains_nil, Option.isSome_some, Option.map_some, Option.map_none, true_and, and_true, and_self, Int.reduceEq, Int.reduceNe, Int.reduceLT, Int.reduceLE, Int.reduceGT, Int.reduceGE, Nat.reduceEqDiff, Nat.reduceAdd, Nat.reduceMul, Nat.reduceLeDiff, Nat.reduceSub, Nat.reduceLT, Nat.reduceBEq, Nat.zero_add, Nat.add_zero, ↓reduceIte, reduceCtorEq, ← decide_not, Bool.not_true, Bool.not_false, Bool.false_eq_true, Bool.or_true, Bool.true_or, Bool.or_false, Bool.false_or, Bool.true_and, Bool.and_true, Bool.and_self, decide_true, decide_false, decide_eq_true_eq, Orc.nothing, c34])
  refine ⟨inR_i64 (by omega) (by omega), ?_⟩
  exact RetV.same (by simp only [vI, V.int.injEq, true_and]; omega)
end Go.Vc
/- Contracts: slices.IndexFunc, and what asks it. -/
namespace Go.Vc
open Go.Proofs

/-- where the first one is, or -1 -/
def firstI (p : Int → Bool) : List Int → Int
  | [] => -1
  | x :: l => if p x then 0 else if firstI p l < 0 then -1 else firstI p l + 1

/-- so, behind some that are not -/
def firstAt (p : Int → Bool) (i : Nat) (l : List Int) : Int := if firstI p l < 0 then -1 else firstI p l + i

theorem firstI_ge (p : Int → Bool) : ∀ l, -1 ≤ firstI p l
  | [] => by simp [firstI]
  | x :: l => by
    have := firstI_ge p l
    simp only [firstI]
    split
    · omega
    · split <;> omega

theorem firstI_at (p : Int → Bool) (l : List Int) : firstI p l = firstAt p 0 l := by
  have := firstI_ge p l
  unfold firstAt
  split <;> omega

theorem indexFunc_c {σ : Store} {sv : V} {l : List Int} {f : FuncId} {caps : List V} {p : Int → Bool} (hr : Reads σ 1 false sv (l.map vI)) (hl : l.length ≤ 200000000000000)
    (hf : ∀ n ∈ l, Contract Try.prog f (vI n :: caps) σ fun r σ' => r = .bool (p n) ∧ σ' = σ) :
    Contract Try.prog 88 [sv, .fn f caps] σ fun r σ' => r = vI (firstI p l) ∧ σ' = σ := by
  have hlen : lenV false sv = some (vI (l.length : Int)) := by simpa using hr.1
  refine Contract.of_runs Try.func88 e88 k88 (by simp [c88]) ?_
  (refine Runs.of_step Orc.nothing 300 ?_; simp -implicitDefEqProofs only [s_r_nil, Ret_one, Ret_two, Ret_three, Ret_none, Ret_cell_one, Ret_cell_two, onSome_some, s_r_stop, s_r_inBlock, s_r_ops_nil, s_r_skip, s_r_seq, s_r_block, s_r_exit, exR_some, s_r_ret, s_r_loop, s_r_reg, s_r_dreg, s_d_nil, s_r_cond, cR_t, cR_f, cR_dec, s_r_ins, insR_0, insR_1, insR_2, insR_3, insR_4, callR_some, callR_none, callV_eq, callD_some, callD_none, contR_some, storeR_some, effR_some, s_d_ins, insD_0, insD_1, insD_2, insD_3, contD_some, storeD_some, effD_some, s_r_gins, gR_tup, gR_tt, gR_ff, gR_tf, gR_ft, gR_dec_t, gR_dec_f, s_d_gins, gD_tup, gD_tt, gD_ff, gD_tf, gD_ft, gD_dec_t, gD_dec_f, putO_nothing, putO_lo, putO_hi, mix_get, putO_some, putO_none, lit_t, lit_c, ev_t, ev_c, okind, vpre, vpure, binV_int, binV_str, binPre_int, binPre_str, intBin, intPre, strBin, strPre, popTo, argSlots, lenV_own, lenV_sl, lenV_nils, lenV_str, fldV, fldAV, subCells, idxAV_own, idxVV, idxAAV, idxSV, loadV_ptr, loadV_rp_agg, loadV_rp_int, sliceV, sliceSV, boundV, szIs, storeOp, storeS, setRowV, eff, extV, buildV, splice, eqSV, fitsL, eqCells, eqCell, minmaxV, binBV, nilCheckV, bytesV, V.cells, V.stays, upd_same, upd_upd, true_implies, false_implies, implies_true, keepS_eq, List.getD_cons_zero, List.getD_cons_succ, List.getD_nil, List.map_cons, List.map_nil, List.length_cons, List.length_nil, List.drop_succ_cons, List.drop_zero, List.take_succ_cons, List.take_zero, List.set_cons_zero, List.set_cons_succ, List.append_nil, List.nil_append, List.cons_append, List.all_cons, List.all_nil, List.getElem?_cons_zero, List.getElem?_cons_succ, List.contains_cons, List.contains_nil, Option.isSome_some, Option.map_some, Option.map_none, true_and, and_true, and_self, Int.reduceEq, Int.reduceNe, Int.reduceLT, Int.reduceLE, Int.reduceGT, Int.reduceGE, Nat.reduceEqDiff, Nat.reduceAdd, Nat.reduceMul, Nat.reduceLeDiff, Nat.reduceSub, Nat.reduceLT, Nat.reduceBEq, Nat.zero_add, Nat.add_zero, ↓reduceIte, reduceCtorEq, ← decide_not, Bool.not_true, Bool.not_false, Bool.false_eq_true, Bool.or_true, Bool.true_or, Bool.or_false, Bool.false_or, Bool.true_and, Bool.and_true, Bool.and_self, decide_true, decide_false, decide_eq_true_eq, Orc.nothing, c88, hlen])
  refine Runs.loop (fun m st => ∃ i : Nat, i ≤ l.length ∧ m = l.length - i ∧ firstI p l = firstAt p i (l.drop i) ∧ st.σ = σ ∧ st.s 0 = sv ∧ st.s 1 = .fn f caps ∧ st.s 7 = vI l.length ∧ st.s 8 = vI i) l.length ?_ ?_
  · exact ⟨0, by omega, by omega, firstI_at p l, rfl, rfl, rfl, rfl, rfl⟩
  · rintro m ⟨s, σ'⟩ ⟨i, hi, rfl, hp, hσ, h0, h1, h7, h8⟩
    simp only at h0 h1 h7 h8 hσ
    subst hσ
    (refine Runs.of_step Orc.nothing 300 ?_; simp -implicitDefEqProofs only [s_r_nil, Ret_one, Ret_two, Ret_three, Ret_none, Ret_cell_one, Ret_cell_two, onSome_some, s_r_stop, s_r_inBlock, s_r_ops_nil, s_r_skip, s_r_seq, s_r_block, s_r_exit, exR_some, s_r_ret, s_r_loop, s_r_reg, s_r_dreg, s_d_nil, s_r_cond, cR_t, cR_f, cR_dec, s_r_ins, insR_0, insR_1, insR_2, insR_3, insR_4, callR_some, callR_none, callV_eq, callD_some, callD_none, contR_some, storeR_some, effR_some, s_d_ins, insD_0, insD_1, insD_2, insD_3, contD_some, storeD_some, effD_some, s_r_gins, gR_tup, gR_tt, gR_ff, gR_tf, gR_ft, gR_dec_t, gR_dec_f, s_d_gins, gD_tup, gD_tt, gD_ff, gD_tf, gD_ft, gD_dec_t, gD_dec_f, putO_nothing, putO_lo, putO_hi, mix_get, putO_some, putO_none, lit_t, lit_c, ev_t, ev_c, okind, vpre, vpure, binV_int, binV_str, binPre_int, binPre_str, intBin, intPre, strBin, strPre, popTo, argSlots, lenV_own, lenV_sl, lenV_nils, lenV_str, fldV, fldAV, subCells, idxAV_own, idxVV, idxAAV, idxSV, loadV_ptr, loadV_rp_agg, loadV_rp_int, sliceV, sliceSV, boundV, szIs, storeOp, storeS, setRowV, eff, extV, buildV, splice, eqSV, fitsL, eqCells, eqCell, minmaxV, binBV, nilCheckV, bytesV, V.cells, V.stays, upd_same, upd_upd, true_implies, false_implies, implies_true, keepS_eq, List.getD_cons_zero, List.getD_cons_succ, List.getD_nil, List.map_cons, List.map_nil, List.length_cons, List.length_nil, List.drop_succ_cons, List.drop_zero, List.take_succ_cons, List.take_zero, List.set_cons_zero, List.set_cons_succ, List.append_nil, List.nil_append, List.cons_append, List.all_cons, List.all_nil, List.getElem?_cons_zero, List.getElem?_cons_succ, List.contains_cons, List.contains_nil, Option.isSome_some, Option.map_some, Option.map_none, true_and, and_true, and_self, Int.reduceEq, Int.reduceNe, Int.reduceLT, Int.reduceLE, Int.reduceGT, Int.reduceGE, Nat.reduceEqDiff, Nat.reduceAdd, Nat.reduceMul, Nat.reduceLeDiff, Nat.reduceSub, Nat.reduceLT, Nat.reduceBEq, Nat.zero_add, Nat.add_zero, ↓reduceIte, reduceCtorEq, ← decide_not, Bool.not_true, Bool.not_false, Bool.false_eq_true, Bool.or_true, Bool.true_or, Bool.or_false, Bool.false_or, Bool.true_and, Bool.and_true, Bool.and_self, decide_true, decide_false, decide_eq_true_eq, Orc.nothing, h0, h1, h7, h8])
    constructor
    · intro hlt
      have hlt' : i < l.length := by omega
      have hd : l.drop i = l[i] :: l.drop (i + 1) := List.drop_eq_getElem_cons hlt'
      obtain ⟨pp, e1, e2⟩ := hr.2 i (vI l[i]) (by simp [hlt'])
      simp -implicitDefEqProofs only [s_r_nil, Ret_one, Ret_two, Ret_three, Ret_none, Ret_cell_one, Ret_cell_two, onSome_some, s_r_stop, s_r_inBlock, s_r_ops_nil, s_r_skip, s_r_seq, s_r_block, s_r_exit, exR_some, s_r_ret, s_r_loop, s_r_reg, s_r_dreg, s_d_nil, s_r_cond, cR_t, cR_f, cR_dec, s_r_ins, insR_0, insR_1, insR_2, insR_3, insR_4, callR_some, callR_none, callV_eq, callD_some, callD_none, contR_some, storeR_some, effR_some, s_d_ins, insD_0, insD_1, insD_2, insD_3, contD_some, storeD_some, effD_some, s_r_gins, gR_tup, gR_tt, gR_ff, gR_tf, gR_ft, gR_dec_t, gR_dec_f, s_d_gins, gD_tup, gD_tt, gD_ff, gD_tf, gD_ft, gD_dec_t, gD_dec_f, putO_nothing, putO_lo, putO_hi, mix_get, putO_some, putO_none, lit_t, lit_c, ev_t, ev_c, okind, vpre, vpure, binV_int, binV_str, binPre_int, binPre_str, intBin, intPre, strBin, strPre, popTo, argSlots, lenV_own, lenV_sl, lenV_nils, lenV_str, fldV, fldAV, subCells, idxAV_own, idxVV, idxAAV, idxSV, loadV_ptr, loadV_rp_agg, loadV_rp_int, sliceV, sliceSV, boundV, szIs, storeOp, storeS, setRowV, eff, extV, buildV, splice, eqSV, fitsL, eqCells, eqCell, minmaxV, binBV, nilCheckV, bytesV, V.cells, V.stays, upd_same, upd_upd, true_implies, false_implies, implies_true, keepS_eq, List.getD_cons_zero, List.getD_cons_succ, List.getD_nil, List.map_cons, List.map_nil, List.length_cons, List.length_nil, List.drop_succ_cons, List.drop_zero, List.take_succ_cons, List.take_zero, List.set_cons_zero, List.set_cons_succ, List.append_nil, List.nil_append, List.cons_append, List.all_cons, List.all_nil, List.getElem?_cons_zero, List.getElem?_cons_succ, List.contains_cons, List.contains_nil, Option.isSome_some, Option.map_some, Option.map_none, true_and, and_true, and_self, Int.reduceEq, Int.reduceNe, Int.reduceLT, Int.reduceLE, Int.reduceGT, Int.reduceGE, Nat.reduceEqDiff, Nat.reduceAdd, Nat.reduceMul, Nat.reduceLeDiff, Nat.reduceSub, Nat.reduceLT, Nat.reduceBEq, Nat.zero_add, Nat.add_zero, ↓reduceIte, reduceCtorEq, ← decide_not, Bool.not_true, Bool.not_false, Bool.false_eq_true, Bool.or_true, Bool.true_or, Bool.or_false, Bool.false_or, Bool.true_and, Bool.and_true, Bool.and_self, decide_true, decide_false, decide_eq_true_eq, e1, e2, s_r_stop]
      refine Runs.pcall rfl rfl rfl (hf l[i] (List.getElem_mem hlt')) ?_
      (refine Runs.of_step Orc.nothing 300 ?_; simp -implicitDefEqProofs only [s_r_nil, Ret_one, Ret_two, Ret_three, Ret_none, Ret_cell_one, Ret_cell_two, onSome_some, s_r_stop, s_r_inBlock, s_r_ops_nil, s_r_skip, s_r_seq, s_r_block, s_r_exit, exR_some, s_r_ret, s_r_loop, s_r_reg, s_r_dreg, s_d_nil, s_r_cond, cR_t, cR_f, cR_dec, s_r_ins, insR_0, insR_1, insR_2, insR_3, insR_4, callR_some, callR_none, callV_eq, callD_some, callD_none, contR_some, storeR_some, effR_some, s_d_ins, insD_0, insD_1, insD_2, insD_3, contD_some, storeD_some, effD_some, s_r_gins, gR_tup, gR_tt, gR_ff, gR_tf, gR_ft, gR_dec_t, gR_dec_f, s_d_gins, gD_tup, gD_tt, gD_ff, gD_tf, gD_ft, gD_dec_t, gD_dec_f, putO_nothing, putO_lo, putO_hi, mix_get, putO_some, putO_none, lit_t, lit_c, ev_t, ev_c, okind, vpre, vpure, binV_int, binV_str, binPre_int, binPre_str, intBin, intPre, strBin, strPre, popTo, argSlots, lenV_own, lenV_sl, lenV_nils, lenV_str, fldV, fldAV, subCells, idxAV_own, idxVV, idxAAV, idxSV, loadV_ptr, loadV_rp_agg, loadV_rp_int, sliceV, sliceSV, boundV, szIs, storeOp, storeS, setRowV, eff, extV, buildV, splice, eqSV, fitsL, eqCells, eqCell, minmaxV, binBV, nilCheckV, bytesV, V.cells, V.stays, upd_same, upd_upd, true_implies, false_implies, implies_true, keepS_eq, List.getD_cons_zero, List.getD_cons_succ, List.getD_nil, List.map_cons, List.map_nil, List.length_cons, List.length_nil, List.drop_succ_cons, List.drop_zero, List.take_succ_cons, List.take_zero, List.set_cons_zero, List.set_cons_succ, List.append_nil, List.nil_append, List.cons_append, List.all_cons, List.all_nil, List.getElem?_cons_zero, List.getElem?_cons_succ, List.contains_cons, List.contains_nil, Option.isSome_some, Option.map_some, Option.map_none, true_and, and_true, and_self, Int.reduceEq, Int.reduceNe, Int.reduceLT, Int.reduceLE, Int.reduceGT, Int.reduceGE, Nat.reduceEqDiff, Nat.reduceAdd, Nat.reduceMul, Nat.reduceLeDiff, Nat.reduceSub, Nat.reduceLT, Nat.reduceBEq, Nat.zero_add, Nat.add_zero, ↓reduceIte, reduceCtorEq, ← decide_not, Bool.not_true, Bool.not_false, Bool.false_eq_true, Bool.or_true, Bool.true_or, Bool.or_false, Bool.false_or, Bool.true_and, Bool.and_true, Bool.and_self, decide_true, decide_false, decide_eq_true_eq, Orc.nothing, h0, h1, h7, h8])
      cases hpx : p l[i]
      · simp -implicitDefEqProofs only [s_r_nil, Ret_one, Ret_two, Ret_three, Ret_none, Ret_cell_one, Ret_cell_two, onSome_some, s_r_stop, s_r_inBlock, s_r_ops_nil, s_r_skip, s_r_seq, s_r_block, s_r_exit, exR_some, s_r_ret, s_r_loop, s_r_reg, s_r_dreg, s_d_nil, s_r_cond, cR_t, cR_f, cR_dec, s_r_ins, insR_0, insR_1, insR_2, insR_3, insR_4, callR_some, callR_none, callV_eq, callD_some, callD_none, contR_some, storeR_some, effR_some, s_d_ins, insD_0, insD_1, insD_2, insD_3, contD_some, storeD_some, effD_some, s_r_gins, gR_tup, gR_tt, gR_ff, gR_tf, gR_ft, gR_dec_t, gR_dec_f, s_d_gins, gD_tup, gD_tt, gD_ff, gD_tf, gD_ft, gD_dec_t, gD_dec_f, putO_nothing, putO_lo, putO_hi, mix_get, putO_some, putO_none, lit_t, lit_c, ev_t, ev_c, okind, vpre, vpure, binV_int, binV_str, binPre_int, binPre_str, intBin, intPre, strBin, strPre, popTo, argSlots, lenV_own, lenV_sl, lenV_nils, lenV_str, fldV, fldAV, subCells, idxAV_own, idxVV, idxAAV, idxSV, loadV_ptr, loadV_rp_agg, loadV_rp_int, sliceV, sliceSV, boundV, szIs, storeOp, storeS, setRowV, eff, extV, buildV, splice, eqSV, fitsL, eqCells, eqCell, minmaxV, binBV, nilCheckV, bytesV, V.cells, V.stays, upd_same, upd_upd, true_implies, false_implies, implies_true, keepS_eq, List.getD_cons_zero, List.getD_cons_succ, List.getD_nil, List.map_cons, List.map_nil, List.length_cons, List.length_nil, List.drop_succ_cons, List.drop_zero, List.take_succ_cons, List.take_zero, List.set_cons_zero, List.set_cons_succ, List.append_nil, List.nil_append, List.cons_append, List.all_cons, List.all_nil, List.getElem?_cons_zero, List.getElem?_cons_succ, List.contains_cons, List.contains_nil, Option.isSome_some, Option.map_some, Option.map_none, true_and, and_true, and_self, Int.reduceEq, Int.reduceNe, Int.reduceLT, Int.reduceLE, Int.reduceGT, Int.reduceGE, Nat.reduceEqDiff, Nat.reduceAdd, Nat.reduceMul, Nat.reduceLeDiff, Nat.reduceSub, Nat.reduceLT, Nat.reduceBEq, Nat.zero_add, Nat.add_zero, ↓reduceIte, reduceCtorEq, ← decide_not, Bool.not_true, Bool.not_false, Bool.false_eq_true, Bool.or_true, Bool.true_or, Bool.or_false, Bool.false_or, Bool.true_and, Bool.and_true, Bool.and_self, decide_true, decide_false, decide_eq_true_eq, h8]
        refine ⟨inR_i64 (by omega) (by omega), _, ?_, i + 1, by omega, rfl, ?_, h0, h1, h7, ?_⟩
        · omega
        · rw [hp, hd]
          simp only [firstAt, firstI, hpx, Bool.false_eq_true, if_false]
          have := firstI_ge p (l.drop (i + 1))
          repeat' split
          all_goals omega
        · simp
      · simp -implicitDefEqProofs only [s_r_nil, Ret_one, Ret_two, Ret_three, Ret_none, Ret_cell_one, Ret_cell_two, onSome_some, s_r_stop, s_r_inBlock, s_r_ops_nil, s_r_skip, s_r_seq, s_r_block, s_r_exit, exR_some, s_r_ret, s_r_loop, s_r_reg, s_r_dreg, s_d_nil, s_r_cond, cR_t, cR_f, cR_dec, s_r_ins, insR_0, insR_1, insR_2, insR_3, insR_4, callR_some, callR_none, callV_eq, callD_some, callD_none, contR_some, storeR_some, effR_some, s_d_ins, insD_0, insD_1, insD_2, insD_3, contD_some, storeD_some, effD_some, s_r_gins, gR_tup, gR_tt, gR_ff, gR_tf, gR_ft, gR_dec_t, gR_dec_f, s_d_gins, gD_tup, gD_tt, gD_ff, gD_tf, gD_ft, gD_dec_t, gD_dec_f, putO_nothing, putO_lo, putO_hi, mix_get, putO_some, putO_none, lit_t, lit_c, ev_t, ev_c, okind, vpre, vpure, binV_int, binV_str, binPre_int, binPre_str, intBin, intPre, strBin, strPre, popTo, argSlots, lenV_own, lenV_sl, lenV_nils, lenV_str, fldV, fldAV, subCells, idxAV_own, idxVV, idxAAV, idxSV, loadV_ptr, loadV_rp_agg, loadV_rp_int, sliceV, sliceSV, boundV, szIs, storeOp, storeS, setRowV, eff, extV, buildV, splice, eqSV, fitsL, eqCells, eqCell, minmaxV, binBV, nilCheckV, bytesV, V.cells, V.stays, upd_same, upd_upd, true_implies, false_implies, implies_true, keepS_eq, List.getD_cons_zero, List.getD_cons_succ, List.getD_nil, List.map_cons, List.map_nil, List.length_cons, List.length_nil, List.drop_succ_cons, List.drop_zero, List.take_succ_cons, List.take_zero, List.set_cons_zero, List.set_cons_succ, List.append_nil, List.nil_append, List.cons_append, List.all_cons, List.all_nil, List.getElem?_cons_zero, List.getElem?_cons_succ, List.contains_cons, List.contains_nil, Option.isSome_some, Option.map_some, Option.map_none, true_and, and_true, and_self, Int.reduceEq, Int.reduceNe, Int.reduceLT, Int.reduceLE, Int.reduceGT, Int.reduceGE, Nat.reduceEqDiff, Nat.reduceAdd, Nat.reduceMul, Nat.reduceLeDiff, Nat.reduceSub, Nat.reduceLT, Nat.reduceBEq, Nat.zero_add, Nat.add_zero, ↓reduceIte, reduceCtorEq, ← decide_not, Bool.not_true, Bool.not_false, Bool.false_eq_true, Bool.or_true, Bool.true_or, Bool.or_false, Bool.false_or, Bool.true_and, Bool.and_true, Bool.and_self, decide_true, decide_false, decide_eq_true_eq]
        refine RetV.same ?_
        rw [hp, hd]
        simp [firstAt, firstI, hpx]
    · intro hge
      have : i = l.length := by omega
      refine RetV.same ?_
      rw [hp, this, List.drop_length]
      rfl
end Go.Vc
/- Contracts: a style's numbers, a node's numbers, as the answer holds them. -/
namespace Go.Vc
open Go.Proofs

structure Sty where
  (top bottom padTop padBottom inset orphans widows head before after inside clear : Int)
deriving DecidableEq

def Sty.cells (s : Sty) : List V := [vI s.top, vI s.bottom, vI s.padTop, vI s.padBottom, vI s.inset, vI s.orphans, vI s.widows, vI s.head, vI s.before, vI s.after, vI s.inside, vI s.clear]

structure Nd where
  (kind size : Int)
  (st : Sty)
  (line space : Int)
  (words : List Int)
  (side w h : Int)
deriving DecidableEq

def encI (l : List Int) : V := .sl 1 (l.map vI)
def Nd.cells (x : Nd) : List V := [vI x.kind, vI x.size, vI x.st.top, vI x.st.bottom, vI x.st.padTop, vI x.st.padBottom, vI x.st.inset, vI x.st.orphans, vI x.st.widows, vI x.st.head, vI x.st.before, vI x.st.after, vI x.st.inside, vI x.st.clear,
  vI x.line, vI x.space, encI x.words, vI x.side, vI x.w, vI x.h]
def encN (x : Nd) : V := .agg x.cells

def mx : Int := 1099511627776
def isFrom (n a b : Int) : Bool := decide (n ≥ a ∧ n ≤ b)

def Sty.ok (s : Sty) : Bool := isFrom s.top 0 mx && isFrom s.bottom 0 mx && isFrom s.padTop 0 mx && isFrom s.padBottom 0 mx && isFrom s.inset 0 mx && isFrom s.orphans 1 mx && isFrom s.widows 1 mx && isFrom s.head 0 mx &&
  isFrom s.before 0 4 && isFrom s.after 0 4 && isFrom s.inside 0 1 && isFrom s.clear 0 3

/-- what 'from' answers -/
def o1 (f : FuncId) (args : List V) : Option V := if f = 67 then (match args with
  | [.int .i64 n, .int .i64 a, .int .i64 b] => some (.bool (decide (n ≥ a ∧ n ≤ b)))
  | _ => none) else none
def O1 : Orc Try.prog where
  get f args _ := o1 f args
  ok f args σ v h := by
    unfold o1 at h
    split at h
    · rename_i hf
      subst hf
      split at h
      · simp only [Option.some.injEq] at h
        subst h
        exact from_c _ _ _ σ
      · cases h
    · cases h
theorem O1_67 (n a b : Int) (σ : Store) : O1.get 67 [.int .i64 n, .int .i64 a, .int .i64 b] σ = some (.bool (decide (n ≥ a ∧ n ≤ b))) := rfl

set_option maxRecDepth 100000 in
theorem block_c (s : Sty) : PFun Try.prog 66 [.agg s.cells] (.bool s.ok) := fun σ => by
  refine Contract.of_runs Try.func66 e66 k66 (by simp [c66]) ?_
  refine Runs.mix 4 ?_
  (refine Runs.of_step O1 300 ?_; simp -implicitDefEqProofs only [s_r_nil, Ret_one, Ret_two, Ret_three, Ret_none, Ret_cell_one, Ret_cell_two, onSome_some, s_r_stop, s_r_inBlock, s_r_ops_nil, s_r_skip, s_r_seq, s_r_block, s_r_exit, exR_some, s_r_ret, s_r_loop, s_r_reg, s_r_dreg, s_d_nil, s_r_cond, cR_t, cR_f, cR_dec, s_r_ins, insR_0, insR_1, insR_2, insR_3, insR_4, callR_some, callR_none, callV_eq, callD_some, callD_none, contR_some, storeR_some, effR_some, s_d_ins, insD_0, insD_1, insD_2, insD_3, contD_some, storeD_some, effD_some, s_r_gins, gR_tup, gR_tt, gR_ff, gR_tf, gR_ft, gR_dec_t, gR_dec_f, s_d_gins, gD_tup, gD_tt, gD_ff, gD_tf, gD_ft, gD_dec_t, gD_dec_f, putO_nothing, putO_lo, putO_hi, mix_get, putO_some, putO_none, lit_t, lit_c, ev_t, ev_c, okind, vpre, vpure, binV_int, binV_str, binPre_int, binPre_str, intBin, intPre, strBin, strPre, popTo, argSlots, lenV_own, lenV_sl, lenV_nils, lenV_str, fldV, fldAV, subCells, idxAV_own, idxVV, idxAAV, idxSV, loadV_ptr, loadV_rp_agg, loadV_rp_int, sliceV, sliceSV, boundV, szIs, storeOp, storeS, setRowV, eff, extV, buildV, splice, eqSV, fitsL, eqCells, eqCell, minmaxV, binBV, nilCheckV, bytesV, V.cells, V.stays, upd_same, upd_upd, true_implies, false_implies, implies_true, keepS_eq, List.getD_cons_zero, List.getD_cons_succ, List.getD_nil, List.map_cons, List.map_nil, List.length_cons, List.length_nil, List.drop_succ_cons, List.drop_zero, List.take_succ_cons, List.take_zero, List.set_cons_zero, List.set_cons_succ, List.append_nil, List.nil_append, List.cons_append, List.all_cons, List.all_nil, List.getElem?_cons_zero, List.getElem?_cons_succ, List.contains_cons, List.contains_nil, Option.isSome_some, Option.map_some, Option.map_none, true_and, and_true, and_self, Int.reduceEq, Int.reduceNe, Int.reduceLT, Int.reduceLE, Int.reduceGT, Int.reduceGE, Nat.reduceEqDiff, Nat.reduceAdd, Nat.reduceMul, Nat.reduceLeDiff, Nat.reduceSub, Nat.reduceLT, Nat.reduceBEq, Nat.zero_add, Nat.add_zero, ↓reduceIte, reduceCtorEq, ← decide_not, Bool.not_true, Bool.not_false, Bool.false_eq_true, Bool.or_true, Bool.true_or, Bool.or_false, Bool.false_or, Bool.true_and, Bool.and_true, Bool.and_self, decide_true, decide_false, decide_eq_true_eq, c66, Sty.cells, O1_67])
  intro id hid
  repeat' (first
    | with_reducible refine And.intro (fun h => ?_) (fun h => ?_)
    | with_reducible refine RetV.pure ((SubStore.refl σ).upd hid) ?_)
  all_goals simp -implicitDefEqProofs only [s_r_nil, Ret_one, Ret_two, Ret_three, Ret_none, Ret_cell_one, Ret_cell_two, onSome_some, s_r_stop, s_r_inBlock, s_r_ops_nil, s_r_skip, s_r_seq, s_r_block, s_r_exit, exR_some, s_r_ret, s_r_loop, s_r_reg, s_r_dreg, s_d_nil, s_r_cond, cR_t, cR_f, cR_dec, s_r_ins, insR_0, insR_1, insR_2, insR_3, insR_4, callR_some, callR_none, callV_eq, callD_some, callD_none, contR_some, storeR_some, effR_some, s_d_ins, insD_0, insD_1, insD_2, insD_3, contD_some, storeD_some, effD_some, s_r_gins, gR_tup, gR_tt, gR_ff, gR_tf, gR_ft, gR_dec_t, gR_dec_f, s_d_gins, gD_tup, gD_tt, gD_ff, gD_tf, gD_ft, gD_dec_t, gD_dec_f, putO_nothing, putO_lo, putO_hi, mix_get, putO_some, putO_none, lit_t, lit_c, ev_t, ev_c, okind, vpre, vpure, binV_int, binV_str, binPre_int, binPre_str, intBin, intPre, strBin, strPre, popTo, argSlots, lenV_own, lenV_sl, lenV_nils, lenV_str, fldV, fldAV, subCells, idxAV_own, idxVV, idxAAV, idxSV, loadV_ptr, loadV_rp_agg, loadV_rp_int, sliceV, sliceSV, boundV, szIs, storeOp, storeS, setRowV, eff, extV, buildV, splice, eqSV, fitsL, eqCells, eqCell, minmaxV, binBV, nilCheckV, bytesV, V.cells, V.stays, upd_same, upd_upd, true_implies, false_implies, implies_true, keepS_eq, List.getD_cons_zero, List.getD_cons_succ, List.getD_nil, List.map_cons, List.map_nil, List.length_cons, List.length_nil, List.drop_succ_cons, List.drop_zero, List.take_succ_cons, List.take_zero, List.set_cons_zero, List.set_cons_succ, List.append_nil, List.nil_append, List.cons_append, List.all_cons, List.all_nil, List.getElem?_cons_zero, List.getElem?_cons_succ, List.contains_cons, List.contains_nil, Option.isSome_some, Option.map_some, Option.map_none, true_and, and_true, and_self, Int.reduceEq, Int.reduceNe, Int.reduceLT, Int.reduceLE, Int.reduceGT, Int.reduceGE, Nat.reduceEqDiff, Nat.reduceAdd, Nat.reduceMul, Nat.reduceLeDiff, Nat.reduceSub, Nat.reduceLT, Nat.reduceBEq, Nat.zero_add, Nat.add_zero, ↓reduceIte, reduceCtorEq, ← decide_not, Bool.not_true, Bool.not_false, Bool.false_eq_true, Bool.or_true, Bool.true_or, Bool.or_false, Bool.false_or, Bool.true_and, Bool.and_true, Bool.and_self, decide_true, decide_false, decide_eq_true_eq, Sty.ok, isFrom, mx, V.bool.injEq]
  all_goals (rw [Bool.eq_iff_iff]; simp [*])
end Go.Vc
/- Contracts: a node's numbers, as the answer holds them. -/
namespace Go.Vc
open Go.Proofs

def Sty.zero : Sty := ⟨0, 0, 0, 0, 0, 0, 0, 0, 0, 0, 0, 0⟩

def Nd.ok (x : Nd) : Bool :=
  if x.kind = 1 then x.st.ok && decide (x.line = 0) && decide (x.space = 0) && decide (x.words.length = 0) && decide (x.side = 0) && decide (x.w = 0) && decide (x.h = 0)
  else if x.st ≠ Sty.zero then false
  else if x.kind = 2 then x.words.all (isFrom · 1 mx) && decide (0 < x.words.length) && isFrom x.line 1 mx && isFrom x.space 0 mx && decide (x.side = 0) && decide (x.w = 0) && decide (x.h = 0)
  else decide (x.line = 0) && decide (x.space = 0) && decide (x.words.length = 0) && isFrom x.w 1 mx && isFrom x.h 1 mx &&
    (decide (x.kind = 3) && decide (x.side = 0) || decide (x.kind = 4) && isFrom x.side 1 2)

/-- and what 'block' answers -/
def o4 (f : FuncId) (args : List V) : Option V := if f = 67 then (match args with
  | [.int .i64 n, .int .i64 a, .int .i64 b] => some (.bool (decide (n ≥ a ∧ n ≤ b)))
  | _ => none) else if f = 66 then (match args with
  | [.agg [.int .i64 a, .int .i64 b, .int .i64 c, .int .i64 d, .int .i64 e, .int .i64 f, .int .i64 g, .int .i64 h, .int .i64 i, .int .i64 j, .int .i64 k, .int .i64 l]] => some (.bool (Sty.ok ⟨a, b, c, d, e, f, g, h, i, j, k, l⟩))
  | _ => none) else none
def O4 : Orc Try.prog where
  get f args _ := o4 f args
  ok f args σ v h := by
    unfold o4 at h
    split at h
    · rename_i hf
      subst hf
      split at h
      · simp only [Option.some.injEq] at h
        subst h
        exact from_c _ _ _ σ
      · cases h
    · split at h
      · rename_i hf
        subst hf
        split at h
        · simp only [Option.some.injEq] at h
          subst h
          exact block_c ⟨_, _, _, _, _, _, _, _, _, _, _, _⟩ σ
        · cases h
      · cases h
theorem O4_67 (n a b : Int) (σ : Store) : O4.get 67 [.int .i64 n, .int .i64 a, .int .i64 b] σ = some (.bool (decide (n ≥ a ∧ n ≤ b))) := rfl
theorem O4_66 (a b c d e f g h i j k l : Int) (σ : Store) : O4.get 66 [.agg [.int .i64 a, .int .i64 b, .int .i64 c, .int .i64 d, .int .i64 e, .int .i64 f, .int .i64 g, .int .i64 h, .int .i64 i, .int .i64 j, .int .i64 k, .int .i64 l]] σ =
  some (.bool (Sty.ok ⟨a, b, c, d, e, f, g, h, i, j, k, l⟩)) := rfl

theorem lenV_encI (l : List Int) : lenV false (encI l) = some (.int .i64 l.length) := by simp [encI, lenV]

theorem dec_true (b : Bool) : V.bool b = V.bool (decide (b = true)) := by cases b <;> rfl

theorem all_take (p : Int → Bool) (l : List Int) (i : Nat) (h : i < l.length) : (l.take (i + 1)).all p = ((l.take i).all p && p l[i]) := by
  rw [List.take_succ_eq_append_getElem h, List.all_append]
  simp

theorem idxAV_encI {σ : Store} {l : List Int} {i : Nat} (h : i < l.length) : idxAV σ 1 (encI l) (.int .i64 i) = some (.rp (.int .i64 l[i])) := by
  simp [encI, idxAV, h]

set_option maxRecDepth 100000 in
theorem one_c (x : Nd) (hl : x.words.length ≤ 200000000000000) : PFun Try.prog 36 [encN x] (.bool x.ok) := fun σ => by
  refine Contract.of_runs Try.func36 e36 k36 (by simp [c36]) ?_
  refine Runs.mix 5 ?_
  (refine Runs.of_step O4 300 ?_; simp -implicitDefEqProofs only [s_r_nil, Ret_one, Ret_two, Ret_three, Ret_none, Ret_cell_one, Ret_cell_two, onSome_some, s_r_stop, s_r_inBlock, s_r_ops_nil, s_r_skip, s_r_seq, s_r_block, s_r_exit, exR_some, s_r_ret, s_r_loop, s_r_reg, s_r_dreg, s_d_nil, s_r_cond, cR_t, cR_f, cR_dec, s_r_ins, insR_0, insR_1, insR_2, insR_3, insR_4, callR_some, callR_none, callV_eq, callD_some, callD_none, contR_some, storeR_some, effR_some, s_d_ins, insD_0, insD_1, insD_2, insD_3, contD_some, storeD_some, effD_some, s_r_gins, gR_tup, gR_tt, gR_ff, gR_tf, gR_ft, gR_dec_t, gR_dec_f, s_d_gins, gD_tup, gD_tt, gD_ff, gD_tf, gD_ft, gD_dec_t, gD_dec_f, putO_nothing, putO_lo, putO_hi, mix_get, putO_some, putO_none, lit_t, lit_c, ev_t, ev_c, okind, vpre, vpure, binV_int, binV_str, binPre_int, binPre_str, intBin, intPre, strBin, strPre, popTo, argSlots, lenV_own, lenV_sl, lenV_nils, lenV_str, fldV, fldAV, subCells, idxAV_own, idxVV, idxAAV, idxSV, loadV_ptr, loadV_rp_agg, loadV_rp_int, sliceV, sliceSV, boundV, szIs, storeOp, storeS, setRowV, eff, extV, buildV, splice, eqSV, fitsL, eqCells, eqCell, minmaxV, binBV, nilCheckV, bytesV, V.cells, V.stays, upd_same, upd_upd, true_implies, false_implies, implies_true, keepS_eq, List.getD_cons_zero, List.getD_cons_succ, List.getD_nil, List.map_cons, List.map_nil, List.length_cons, List.length_nil, List.drop_succ_cons, List.drop_zero, List.take_succ_cons, List.take_zero, List.set_cons_zero, List.set_cons_succ, List.append_nil, List.nil_append, List.cons_append, List.all_cons, List.all_nil, List.getElem?_cons_zero, List.getElem?_cons_succ, List.contains_cons, List.contains_nil, Option.isSome_some, Option.map_some, Option.map_none, true_and, and_true, and_self, Int.reduceEq, Int.reduceNe, Int.reduceLT, Int.reduceLE, Int.reduceGT, Int.reduceGE, Nat.reduceEqDiff, Nat.reduceAdd, Nat.reduceMul, Nat.reduceLeDiff, Nat.reduceSub, Nat.reduceLT, Nat.reduceBEq, Nat.zero_add, Nat.add_zero, ↓reduceIte, reduceCtorEq, ← decide_not, Bool.not_true, Bool.not_false, Bool.false_eq_true, Bool.or_true, Bool.true_or, Bool.or_false, Bool.false_or, Bool.true_and, Bool.and_true, Bool.and_self, decide_true, decide_false, decide_eq_true_eq, c36, encN, Nd.cells, O4_67, O4_66, cR_b, dec_true (Sty.ok _), lenV_encI])
  intro id hid
  have hsub := (SubStore.refl σ).upd hid (o := ⟨28, 20, [encN x]⟩)
  have hz : x.st = Sty.zero ↔ (x.st.top = 0 ∧ x.st.bottom = 0 ∧ x.st.padTop = 0 ∧ x.st.padBottom = 0 ∧ x.st.inset = 0 ∧ x.st.orphans = 0 ∧ x.st.widows = 0 ∧ x.st.head = 0 ∧ x.st.before = 0 ∧ x.st.after = 0 ∧ x.st.inside = 0 ∧ x.st.clear = 0) := by
    cases h : x.st; simp [Sty.zero]
  refine And.intro (fun hk => ?_) (fun hk => And.intro (fun hs => ?_) (fun hs => And.intro (fun hk2 => ?_) (fun hk2 => ?_)))
  · have hok : x.ok = (x.st.ok && decide (x.line = 0) && decide (x.space = 0) && decide (x.words.length = 0) && decide (x.side = 0) && decide (x.w = 0) && decide (x.h = 0)) := by simp [Nd.ok, hk]
    rw [hok]
    repeat' (first
      | with_reducible refine And.intro (fun h => ?_) (fun h => ?_)
      | with_reducible refine RetV.pure ((SubStore.refl σ).upd hid) ?_)
    all_goals simp -implicitDefEqProofs only [s_r_nil, Ret_one, Ret_two, Ret_three, Ret_none, Ret_cell_one, Ret_cell_two, onSome_some, s_r_stop, s_r_inBlock, s_r_ops_nil, s_r_skip, s_r_seq, s_r_block, s_r_exit, exR_some, s_r_ret, s_r_loop, s_r_reg, s_r_dreg, s_d_nil, s_r_cond, cR_t, cR_f, cR_dec, s_r_ins, insR_0, insR_1, insR_2, insR_3, insR_4, callR_some, callR_none, callV_eq, callD_some, callD_none, contR_some, storeR_some, effR_some, s_d_ins, insD_0, insD_1, insD_2, insD_3, contD_some, storeD_some, effD_some, s_r_gins, gR_tup, gR_tt, gR_ff, gR_tf, gR_ft, gR_dec_t, gR_dec_f, s_d_gins, gD_tup, gD_tt, gD_ff, gD_tf, gD_ft, gD_dec_t, gD_dec_f, putO_nothing, putO_lo, putO_hi, mix_get, putO_some, putO_none, lit_t, lit_c, ev_t, ev_c, okind, vpre, vpure, binV_int, binV_str, binPre_int, binPre_str, intBin, intPre, strBin, strPre, popTo, argSlots, lenV_own, lenV_sl, lenV_nils, lenV_str, fldV, fldAV, subCells, idxAV_own, idxVV, idxAAV, idxSV, loadV_ptr, loadV_rp_agg, loadV_rp_int, sliceV, sliceSV, boundV, szIs, storeOp, storeS, setRowV, eff, extV, buildV, splice, eqSV, fitsL, eqCells, eqCell, minmaxV, binBV, nilCheckV, bytesV, V.cells, V.stays, upd_same, upd_upd, true_implies, false_implies, implies_true, keepS_eq, List.getD_cons_zero, List.getD_cons_succ, List.getD_nil, List.map_cons, List.map_nil, List.length_cons, List.length_nil, List.drop_succ_cons, List.drop_zero, List.take_succ_cons, List.take_zero, List.set_cons_zero, List.set_cons_succ, List.append_nil, List.nil_append, List.cons_append, List.all_cons, List.all_nil, List.getElem?_cons_zero, List.getElem?_cons_succ, List.contains_cons, List.contains_nil, Option.isSome_some, Option.map_some, Option.map_none, true_and, and_true, and_self, Int.reduceEq, Int.reduceNe, Int.reduceLT, Int.reduceLE, Int.reduceGT, Int.reduceGE, Nat.reduceEqDiff, Nat.reduceAdd, Nat.reduceMul, Nat.reduceLeDiff, Nat.reduceSub, Nat.reduceLT, Nat.reduceBEq, Nat.zero_add, Nat.add_zero, ↓reduceIte, reduceCtorEq, ← decide_not, Bool.not_true, Bool.not_false, Bool.false_eq_true, Bool.or_true, Bool.true_or, Bool.or_false, Bool.false_or, Bool.true_and, Bool.and_true, Bool.and_self, decide_true, decide_false, decide_eq_true_eq, V.bool.injEq]
    all_goals (rw [Bool.eq_iff_iff]; simp_all)
  · refine RetV.pure hsub ?_
    have : x.st ≠ Sty.zero := by rw [Ne, hz]; simp at hs; intro h; simp_all
    have h1 : x.kind ≠ 1 := by simpa using hk
    simp [Nd.ok, h1, this]
  · have hst : x.st = Sty.zero := by rw [hz]; simp at hs; simp_all
    have hok : x.ok = (x.words.all (isFrom · 1 mx) && decide (0 < x.words.length) && isFrom x.line 1 mx && isFrom x.space 0 mx && decide (x.side = 0) && decide (x.w = 0) && decide (x.h = 0)) := by simp [Nd.ok, hk2, hst]
    refine Runs.loop (fun m st => ∃ i : Nat, i ≤ x.words.length ∧ m = x.words.length - i ∧ (x.words.take i).all (isFrom · 1 mx) = true ∧ st.σ = upd σ id ⟨28, 20, [encN x]⟩ ∧ st.s 1 = .ptr id 0 0 ∧ st.s 3 = vI mx ∧ st.s 4 = vI i) x.words.length ?_ ?_
    · exact ⟨0, by omega, by omega, by simp, rfl, rfl, rfl, rfl⟩
    · rintro m ⟨s, σ'⟩ ⟨i, hi, rfl, hp, hσ, h1, h3, h4⟩
      simp only at h1 h3 h4 hσ
      subst hσ
      refine Runs.mix 5 ?_
      (refine Runs.of_step O4 300 ?_; simp -implicitDefEqProofs only [s_r_nil, Ret_one, Ret_two, Ret_three, Ret_none, Ret_cell_one, Ret_cell_two, onSome_some, s_r_stop, s_r_inBlock, s_r_ops_nil, s_r_skip, s_r_seq, s_r_block, s_r_exit, exR_some, s_r_ret, s_r_loop, s_r_reg, s_r_dreg, s_d_nil, s_r_cond, cR_t, cR_f, cR_dec, s_r_ins, insR_0, insR_1, insR_2, insR_3, insR_4, callR_some, callR_none, callV_eq, callD_some, callD_none, contR_some, storeR_some, effR_some, s_d_ins, insD_0, insD_1, insD_2, insD_3, contD_some, storeD_some, effD_some, s_r_gins, gR_tup, gR_tt, gR_ff, gR_tf, gR_ft, gR_dec_t, gR_dec_f, s_d_gins, gD_tup, gD_tt, gD_ff, gD_tf, gD_ft, gD_dec_t, gD_dec_f, putO_nothing, putO_lo, putO_hi, mix_get, putO_some, putO_none, lit_t, lit_c, ev_t, ev_c, okind, vpre, vpure, binV_int, binV_str, binPre_int, binPre_str, intBin, intPre, strBin, strPre, popTo, argSlots, lenV_own, lenV_sl, lenV_nils, lenV_str, fldV, fldAV, subCells, idxAV_own, idxVV, idxAAV, idxSV, loadV_ptr, loadV_rp_agg, loadV_rp_int, sliceV, sliceSV, boundV, szIs, storeOp, storeS, setRowV, eff, extV, buildV, splice, eqSV, fitsL, eqCells, eqCell, minmaxV, binBV, nilCheckV, bytesV, V.cells, V.stays, upd_same, upd_upd, true_implies, false_implies, implies_true, keepS_eq, List.getD_cons_zero, List.getD_cons_succ, List.getD_nil, List.map_cons, List.map_nil, List.length_cons, List.length_nil, List.drop_succ_cons, List.drop_zero, List.take_succ_cons, List.take_zero, List.set_cons_zero, List.set_cons_succ, List.append_nil, List.nil_append, List.cons_append, List.all_cons, List.all_nil, List.getElem?_cons_zero, List.getElem?_cons_succ, List.contains_cons, List.contains_nil, Option.isSome_some, Option.map_some, Option.map_none, true_and, and_true, and_self, Int.reduceEq, Int.reduceNe, Int.reduceLT, Int.reduceLE, Int.reduceGT, Int.reduceGE, Nat.reduceEqDiff, Nat.reduceAdd, Nat.reduceMul, Nat.reduceLeDiff, Nat.reduceSub, Nat.reduceLT, Nat.reduceBEq, Nat.zero_add, Nat.add_zero, ↓reduceIte, reduceCtorEq, ← decide_not, Bool.not_true, Bool.not_false, Bool.false_eq_true, Bool.or_true, Bool.true_or, Bool.or_false, Bool.false_or, Bool.true_and, Bool.and_true, Bool.and_self, decide_true, decide_false, decide_eq_true_eq, h1, h3, h4, encN, Nd.cells, O4_67, cR_b, lenV_encI, mx])
      refine And.intro (fun hlt => ?_) (fun hge => ?_)
      · have hlt' : i < x.words.length := by omega
        have ht := all_take (isFrom · 1 mx) x.words i hlt'
        rw [hp, Bool.true_and] at ht
        simp -implicitDefEqProofs only [s_r_nil, Ret_one, Ret_two, Ret_three, Ret_none, Ret_cell_one, Ret_cell_two, onSome_some, s_r_stop, s_r_inBlock, s_r_ops_nil, s_r_skip, s_r_seq, s_r_block, s_r_exit, exR_some, s_r_ret, s_r_loop, s_r_reg, s_r_dreg, s_d_nil, s_r_cond, cR_t, cR_f, cR_dec, s_r_ins, insR_0, insR_1, insR_2, insR_3, insR_4, callR_some, callR_none, callV_eq, callD_some, callD_none, contR_some, storeR_some, effR_some, s_d_ins, insD_0, insD_1, insD_2, insD_3, contD_some, storeD_some, effD_some, s_r_gins, gR_tup, gR_tt, gR_ff, gR_tf, gR_ft, gR_dec_t, gR_dec_f, s_d_gins, gD_tup, gD_tt, gD_ff, gD_tf, gD_ft, gD_dec_t, gD_dec_f, putO_nothing, putO_lo, putO_hi, mix_get, putO_some, putO_none, lit_t, lit_c, ev_t, ev_c, okind, vpre, vpure, binV_int, binV_str, binPre_int, binPre_str, intBin, intPre, strBin, strPre, popTo, argSlots, lenV_own, lenV_sl, lenV_nils, lenV_str, fldV, fldAV, subCells, idxAV_own, idxVV, idxAAV, idxSV, loadV_ptr, loadV_rp_agg, loadV_rp_int, sliceV, sliceSV, boundV, szIs, storeOp, storeS, setRowV, eff, extV, buildV, splice, eqSV, fitsL, eqCells, eqCell, minmaxV, binBV, nilCheckV, bytesV, V.cells, V.stays, upd_same, upd_upd, true_implies, false_implies, implies_true, keepS_eq, List.getD_cons_zero, List.getD_cons_succ, List.getD_nil, List.map_cons, List.map_nil, List.length_cons, List.length_nil, List.drop_succ_cons, List.drop_zero, List.take_succ_cons, List.take_zero, List.set_cons_zero, List.set_cons_succ, List.append_nil, List.nil_append, List.cons_append, List.all_cons, List.all_nil, List.getElem?_cons_zero, List.getElem?_cons_succ, List.contains_cons, List.contains_nil, Option.isSome_some, Option.map_some, Option.map_none, true_and, and_true, and_self, Int.reduceEq, Int.reduceNe, Int.reduceLT, Int.reduceLE, Int.reduceGT, Int.reduceGE, Nat.reduceEqDiff, Nat.reduceAdd, Nat.reduceMul, Nat.reduceLeDiff, Nat.reduceSub, Nat.reduceLT, Nat.reduceBEq, Nat.zero_add, Nat.add_zero, ↓reduceIte, reduceCtorEq, ← decide_not, Bool.not_true, Bool.not_false, Bool.false_eq_true, Bool.or_true, Bool.true_or, Bool.or_false, Bool.false_or, Bool.true_and, Bool.and_true, Bool.and_self, decide_true, decide_false, decide_eq_true_eq, idxAV_encI hlt', O4_67, h1, h3, h4, mx, cR_b]
        refine And.intro (fun hw => ?_) (fun hw => ?_)
        · refine RetV.pure ((SubStore.refl σ).upd hid) ?_
          have hw' : isFrom x.words[i] 1 mx = false := by simp at hw; simp [isFrom, mx]; omega
          rw [hok]
          have : (x.words.all (isFrom · 1 mx)) = false := by
            rw [List.all_eq_false]
            exact ⟨_, List.getElem_mem hlt', by simp [hw']⟩
          simp [this]
        · have hw' : isFrom x.words[i] 1 mx = true := by simp at hw; simp [isFrom, mx]; omega
          refine ⟨inR_i64 (by omega) (by omega), _, ?_, i + 1, by omega, rfl, ?_, ?_⟩
          · omega
          · rw [← mx, ht]; exact hw'
          · simp
      · have hi' : i = x.words.length := by simp at hge; omega
        subst hi'
        rw [List.take_length] at hp
        rw [hok, hp]
        repeat' (first
          | with_reducible refine And.intro (fun h => ?_) (fun h => ?_)
          | with_reducible refine RetV.pure ((SubStore.refl σ).upd hid) ?_)
        all_goals try simp -implicitDefEqProofs only [s_r_nil, Ret_one, Ret_two, Ret_three, Ret_none, Ret_cell_one, Ret_cell_two, onSome_some, s_r_stop, s_r_inBlock, s_r_ops_nil, s_r_skip, s_r_seq, s_r_block, s_r_exit, exR_some, s_r_ret, s_r_loop, s_r_reg, s_r_dreg, s_d_nil, s_r_cond, cR_t, cR_f, cR_dec, s_r_ins, insR_0, insR_1, insR_2, insR_3, insR_4, callR_some, callR_none, callV_eq, callD_some, callD_none, contR_some, storeR_some, effR_some, s_d_ins, insD_0, insD_1, insD_2, insD_3, contD_some, storeD_some, effD_some, s_r_gins, gR_tup, gR_tt, gR_ff, gR_tf, gR_ft, gR_dec_t, gR_dec_f, s_d_gins, gD_tup, gD_tt, gD_ff, gD_tf, gD_ft, gD_dec_t, gD_dec_f, putO_nothing, putO_lo, putO_hi, mix_get, putO_some, putO_none, lit_t, lit_c, ev_t, ev_c, okind, vpre, vpure, binV_int, binV_str, binPre_int, binPre_str, intBin, intPre, strBin, strPre, popTo, argSlots, lenV_own, lenV_sl, lenV_nils, lenV_str, fldV, fldAV, subCells, idxAV_own, idxVV, idxAAV, idxSV, loadV_ptr, loadV_rp_agg, loadV_rp_int, sliceV, sliceSV, boundV, szIs, storeOp, storeS, setRowV, eff, extV, buildV, splice, eqSV, fitsL, eqCells, eqCell, minmaxV, binBV, nilCheckV, bytesV, V.cells, V.stays, upd_same, upd_upd, true_implies, false_implies, implies_true, keepS_eq, List.getD_cons_zero, List.getD_cons_succ, List.getD_nil, List.map_cons, List.map_nil, List.length_cons, List.length_nil, List.drop_succ_cons, List.drop_zero, List.take_succ_cons, List.take_zero, List.set_cons_zero, List.set_cons_succ, List.append_nil, List.nil_append, List.cons_append, List.all_cons, List.all_nil, List.getElem?_cons_zero, List.getElem?_cons_succ, List.contains_cons, List.contains_nil, Option.isSome_some, Option.map_some, Option.map_none, true_and, and_true, and_self, Int.reduceEq, Int.reduceNe, Int.reduceLT, Int.reduceLE, Int.reduceGT, Int.reduceGE, Nat.reduceEqDiff, Nat.reduceAdd, Nat.reduceMul, Nat.reduceLeDiff, Nat.reduceSub, Nat.reduceLT, Nat.reduceBEq, Nat.zero_add, Nat.add_zero, ↓reduceIte, reduceCtorEq, ← decide_not, Bool.not_true, Bool.not_false, Bool.false_eq_true, Bool.or_true, Bool.true_or, Bool.or_false, Bool.false_or, Bool.true_and, Bool.and_true, Bool.and_self, decide_true, decide_false, decide_eq_true_eq, V.bool.injEq]
        all_goals (rw [Bool.eq_iff_iff]; simp_all [isFrom, mx] <;> omega)
  · have hst : x.st = Sty.zero := by rw [hz]; simp at hs; simp_all
    have h1 : x.kind ≠ 1 := by simpa using hk
    have hok : x.ok = (decide (x.line = 0) && decide (x.space = 0) && decide (x.words.length = 0) && isFrom x.w 1 mx && isFrom x.h 1 mx &&
      (decide (x.kind = 3) && decide (x.side = 0) || decide (x.kind = 4) && isFrom x.side 1 2)) := by have h2 : x.kind ≠ 2 := (by simpa using hk2); simp [Nd.ok, h1, h2, hst]
    rw [hok]
    repeat' (first
      | with_reducible refine And.intro (fun h => ?_) (fun h => ?_)
      | with_reducible refine RetV.pure ((SubStore.refl σ).upd hid) ?_)
    all_goals try simp -implicitDefEqProofs only [s_r_nil, Ret_one, Ret_two, Ret_three, Ret_none, Ret_cell_one, Ret_cell_two, onSome_some, s_r_stop, s_r_inBlock, s_r_ops_nil, s_r_skip, s_r_seq, s_r_block, s_r_exit, exR_some, s_r_ret, s_r_loop, s_r_reg, s_r_dreg, s_d_nil, s_r_cond, cR_t, cR_f, cR_dec, s_r_ins, insR_0, insR_1, insR_2, insR_3, insR_4, callR_some, callR_none, callV_eq, callD_some, callD_none, contR_some, storeR_some, effR_some, s_d_ins, insD_0, insD_1, insD_2, insD_3, contD_some, storeD_some, effD_some, s_r_gins, gR_tup, gR_tt, gR_ff, gR_tf, gR_ft, gR_dec_t, gR_dec_f, s_d_gins, gD_tup, gD_tt, gD_ff, gD_tf, gD_ft, gD_dec_t, gD_dec_f, putO_nothing, putO_lo, putO_hi, mix_get, putO_some, putO_none, lit_t, lit_c, ev_t, ev_c, okind, vpre, vpure, binV_int, binV_str, binPre_int, binPre_str, intBin, intPre, strBin, strPre, popTo, argSlots, lenV_own, lenV_sl, lenV_nils, lenV_str, fldV, fldAV, subCells, idxAV_own, idxVV, idxAAV, idxSV, loadV_ptr, loadV_rp_agg, loadV_rp_int, sliceV, sliceSV, boundV, szIs, storeOp, storeS, setRowV, eff, extV, buildV, splice, eqSV, fitsL, eqCells, eqCell, minmaxV, binBV, nilCheckV, bytesV, V.cells, V.stays, upd_same, upd_upd, true_implies, false_implies, implies_true, keepS_eq, List.getD_cons_zero, List.getD_cons_succ, List.getD_nil, List.map_cons, List.map_nil, List.length_cons, List.length_nil, List.drop_succ_cons, List.drop_zero, List.take_succ_cons, List.take_zero, List.set_cons_zero, List.set_cons_succ, List.append_nil, List.nil_append, List.cons_append, List.all_cons, List.all_nil, List.getElem?_cons_zero, List.getElem?_cons_succ, List.contains_cons, List.contains_nil, Option.isSome_some, Option.map_some, Option.map_none, true_and, and_true, and_self, Int.reduceEq, Int.reduceNe, Int.reduceLT, Int.reduceLE, Int.reduceGT, Int.reduceGE, Nat.reduceEqDiff, Nat.reduceAdd, Nat.reduceMul, Nat.reduceLeDiff, Nat.reduceSub, Nat.reduceLT, Nat.reduceBEq, Nat.zero_add, Nat.add_zero, ↓reduceIte, reduceCtorEq, ← decide_not, Bool.not_true, Bool.not_false, Bool.false_eq_true, Bool.or_true, Bool.true_or, Bool.or_false, Bool.false_or, Bool.true_and, Bool.and_true, Bool.and_self, decide_true, decide_false, decide_eq_true_eq, V.bool.injEq]
    all_goals (rw [Bool.eq_iff_iff]; simp_all [isFrom, mx] <;> omega)
end Go.Vc
/- Contracts: rows within rows, as the answer holds them. -/
namespace Go.Vc
open Go.Proofs

def encNs (l : List Nd) : V := .sl 20 (l.map encN)
theorem lenV_encNs (l : List Nd) : lenV false (encNs l) = some (.int .i64 l.length) := by simp [encNs, lenV]
theorem idxAV_encNs {σ : Store} {l : List Nd} {i : Nat} (h : i < l.length) : idxAV σ 20 (encNs l) (.int .i64 i) = some (.rp (.agg (Nd.cells l[i]))) := by
  simp [encNs, idxAV, h, encN]

def rowsB (l : List Nd) (a e : Nat) : Bool :=
  if _h : a < e then
    match l[a]? with
    | none => false
    | some x => if _hx : 1 ≤ x.size ∧ x.size ≤ (e : Int) - a then
        (decide (x.kind = 1) || decide (x.size ≤ 1)) && rowsB l (a + 1) (a + x.size.toNat) && rowsB l (a + x.size.toNat) e else false
  else true
termination_by e - a
decreasing_by all_goals omega

set_option maxRecDepth 100000 in
theorem rows_c (l : List Nd) (hl : l.length ≤ 1000000000000) : ∀ (m a e : Nat), e - a < m → a ≤ e → e ≤ l.length → PFun Try.prog 37 [encNs l, vI a, vI e] (.bool (rowsB l a e))
  | 0, _, _, h, _, _ => by omega
  | m + 1, a, e, hm, hae, he => fun σ => by
    refine Contract.of_runs Try.func37 e37 k37 (by simp [c37]) ?_
    refine Runs.mix 8 ?_
    (refine Runs.of_step Orc.nothing 300 ?_; simp -implicitDefEqProofs only [s_r_nil, Ret_one, Ret_two, Ret_three, Ret_none, Ret_cell_one, Ret_cell_two, onSome_some, s_r_stop, s_r_inBlock, s_r_ops_nil, s_r_skip, s_r_seq, s_r_block, s_r_exit, exR_some, s_r_ret, s_r_loop, s_r_reg, s_r_dreg, s_d_nil, s_r_cond, cR_t, cR_f, cR_dec, s_r_ins, insR_0, insR_1, insR_2, insR_3, insR_4, callR_some, callR_none, callV_eq, callD_some, callD_none, contR_some, storeR_some, effR_some, s_d_ins, insD_0, insD_1, insD_2, insD_3, contD_some, storeD_some, effD_some, s_r_gins, gR_tup, gR_tt, gR_ff, gR_tf, gR_ft, gR_dec_t, gR_dec_f, s_d_gins, gD_tup, gD_tt, gD_ff, gD_tf, gD_ft, gD_dec_t, gD_dec_f, putO_nothing, putO_lo, putO_hi, mix_get, putO_some, putO_none, lit_t, lit_c, ev_t, ev_c, okind, vpre, vpure, binV_int, binV_str, binPre_int, binPre_str, intBin, intPre, strBin, strPre, popTo, argSlots, lenV_own, lenV_sl, lenV_nils, lenV_str, fldV, fldAV, subCells, idxAV_own, idxVV, idxAAV, idxSV, loadV_ptr, loadV_rp_agg, loadV_rp_int, sliceV, sliceSV, boundV, szIs, storeOp, storeS, setRowV, eff, extV, buildV, splice, eqSV, fitsL, eqCells, eqCell, minmaxV, binBV, nilCheckV, bytesV, V.cells, V.stays, upd_same, upd_upd, true_implies, false_implies, implies_true, keepS_eq, List.getD_cons_zero, List.getD_cons_succ, List.getD_nil, List.map_cons, List.map_nil, List.length_cons, List.length_nil, List.drop_succ_cons, List.drop_zero, List.take_succ_cons, List.take_zero, List.set_cons_zero, List.set_cons_succ, List.append_nil, List.nil_append, List.cons_append, List.all_cons, List.all_nil, List.getElem?_cons_zero, List.getElem?_cons_succ, List.contains_cons, List.contains_nil, Option.isSome_some, Option.map_some, Option.map_none, true_and, and_true, and_self, Int.reduceEq, Int.reduceNe, Int.reduceLT, Int.reduceLE, Int.reduceGT, Int.reduceGE, Nat.reduceEqDiff, Nat.reduceAdd, Nat.reduceMul, Nat.reduceLeDiff, Nat.reduceSub, Nat.reduceLT, Nat.reduceBEq, Nat.zero_add, Nat.add_zero, ↓reduceIte, reduceCtorEq, ← decide_not, Bool.not_true, Bool.not_false, Bool.false_eq_true, Bool.or_true, Bool.true_or, Bool.or_false, Bool.false_or, Bool.true_and, Bool.and_true, Bool.and_self, decide_true, decide_false, decide_eq_true_eq, Orc.nothing, c37])
    refine Runs.loop (fun mm st => ∃ b : Nat, a ≤ b ∧ b ≤ e ∧ mm = e - b ∧ rowsB l a e = rowsB l b e ∧ SubStore σ st.σ ∧ st.s 0 = encNs l ∧ st.s 1 = vI b ∧ st.s 2 = vI e) (e - a) ?_ ?_
    · exact ⟨a, by omega, by omega, rfl, rfl, SubStore.refl σ, rfl, rfl, rfl⟩
    · rintro mm ⟨s, σ'⟩ ⟨b, hab, hbe, rfl, hr, hsub, h0, h1, h2⟩
      simp only at h0 h1 h2 hsub
      refine Runs.mix 8 ?_
      (refine Runs.of_step Orc.nothing 300 ?_; simp -implicitDefEqProofs only [s_r_nil, Ret_one, Ret_two, Ret_three, Ret_none, Ret_cell_one, Ret_cell_two, onSome_some, s_r_stop, s_r_inBlock, s_r_ops_nil, s_r_skip, s_r_seq, s_r_block, s_r_exit, exR_some, s_r_ret, s_r_loop, s_r_reg, s_r_dreg, s_d_nil, s_r_cond, cR_t, cR_f, cR_dec, s_r_ins, insR_0, insR_1, insR_2, insR_3, insR_4, callR_some, callR_none, callV_eq, callD_some, callD_none, contR_some, storeR_some, effR_some, s_d_ins, insD_0, insD_1, insD_2, insD_3, contD_some, storeD_some, effD_some, s_r_gins, gR_tup, gR_tt, gR_ff, gR_tf, gR_ft, gR_dec_t, gR_dec_f, s_d_gins, gD_tup, gD_tt, gD_ff, gD_tf, gD_ft, gD_dec_t, gD_dec_f, putO_nothing, putO_lo, putO_hi, mix_get, putO_some, putO_none, lit_t, lit_c, ev_t, ev_c, okind, vpre, vpure, binV_int, binV_str, binPre_int, binPre_str, intBin, intPre, strBin, strPre, popTo, argSlots, lenV_own, lenV_sl, lenV_nils, lenV_str, fldV, fldAV, subCells, idxAV_own, idxVV, idxAAV, idxSV, loadV_ptr, loadV_rp_agg, loadV_rp_int, sliceV, sliceSV, boundV, szIs, storeOp, storeS, setRowV, eff, extV, buildV, splice, eqSV, fitsL, eqCells, eqCell, minmaxV, binBV, nilCheckV, bytesV, V.cells, V.stays, upd_same, upd_upd, true_implies, false_implies, implies_true, keepS_eq, List.getD_cons_zero, List.getD_cons_succ, List.getD_nil, List.map_cons, List.map_nil, List.length_cons, List.length_nil, List.drop_succ_cons, List.drop_zero, List.take_succ_cons, List.take_zero, List.set_cons_zero, List.set_cons_succ, List.append_nil, List.nil_append, List.cons_append, List.all_cons, List.all_nil, List.getElem?_cons_zero, List.getElem?_cons_succ, List.contains_cons, List.contains_nil, Option.isSome_some, Option.map_some, Option.map_none, true_and, and_true, and_self, Int.reduceEq, Int.reduceNe, Int.reduceLT, Int.reduceLE, Int.reduceGT, Int.reduceGE, Nat.reduceEqDiff, Nat.reduceAdd, Nat.reduceMul, Nat.reduceLeDiff, Nat.reduceSub, Nat.reduceLT, Nat.reduceBEq, Nat.zero_add, Nat.add_zero, ↓reduceIte, reduceCtorEq, ← decide_not, Bool.not_true, Bool.not_false, Bool.false_eq_true, Bool.or_true, Bool.true_or, Bool.or_false, Bool.false_or, Bool.true_and, Bool.and_true, Bool.and_self, decide_true, decide_false, decide_eq_true_eq, Orc.nothing, h0, h1, h2, cR_b, Nd.cells])
      refine And.intro (fun hlt => ?_) (fun hge => ?_)
      · have hlt' : b < l.length := by simp at hlt; omega
        simp -implicitDefEqProofs only [s_r_nil, Ret_one, Ret_two, Ret_three, Ret_none, Ret_cell_one, Ret_cell_two, onSome_some, s_r_stop, s_r_inBlock, s_r_ops_nil, s_r_skip, s_r_seq, s_r_block, s_r_exit, exR_some, s_r_ret, s_r_loop, s_r_reg, s_r_dreg, s_d_nil, s_r_cond, cR_t, cR_f, cR_dec, s_r_ins, insR_0, insR_1, insR_2, insR_3, insR_4, callR_some, callR_none, callV_eq, callD_some, callD_none, contR_some, storeR_some, effR_some, s_d_ins, insD_0, insD_1, insD_2, insD_3, contD_some, storeD_some, effD_some, s_r_gins, gR_tup, gR_tt, gR_ff, gR_tf, gR_ft, gR_dec_t, gR_dec_f, s_d_gins, gD_tup, gD_tt, gD_ff, gD_tf, gD_ft, gD_dec_t, gD_dec_f, putO_nothing, putO_lo, putO_hi, mix_get, putO_some, putO_none, lit_t, lit_c, ev_t, ev_c, okind, vpre, vpure, binV_int, binV_str, binPre_int, binPre_str, intBin, intPre, strBin, strPre, popTo, argSlots, lenV_own, lenV_sl, lenV_nils, lenV_str, fldV, fldAV, subCells, idxAV_own, idxVV, idxAAV, idxSV, loadV_ptr, loadV_rp_agg, loadV_rp_int, sliceV, sliceSV, boundV, szIs, storeOp, storeS, setRowV, eff, extV, buildV, splice, eqSV, fitsL, eqCells, eqCell, minmaxV, binBV, nilCheckV, bytesV, V.cells, V.stays, upd_same, upd_upd, true_implies, false_implies, implies_true, keepS_eq, List.getD_cons_zero, List.getD_cons_succ, List.getD_nil, List.map_cons, List.map_nil, List.length_cons, List.length_nil, List.drop_succ_cons, List.drop_zero, List.take_succ_cons, List.take_zero, List.set_cons_zero, List.set_cons_succ, List.append_nil, List.nil_append, List.cons_append, List.all_cons, List.all_nil, List.getElem?_cons_zero, List.getElem?_cons_succ, List.contains_cons, List.contains_nil, Option.isSome_some, Option.map_some, Option.map_none, true_and, and_true, and_self, Int.reduceEq, Int.reduceNe, Int.reduceLT, Int.reduceLE, Int.reduceGT, Int.reduceGE, Nat.reduceEqDiff, Nat.reduceAdd, Nat.reduceMul, Nat.reduceLeDiff, Nat.reduceSub, Nat.reduceLT, Nat.reduceBEq, Nat.zero_add, Nat.add_zero, ↓reduceIte, reduceCtorEq, ← decide_not, Bool.not_true, Bool.not_false, Bool.false_eq_true, Bool.or_true, Bool.true_or, Bool.or_false, Bool.false_or, Bool.true_and, Bool.and_true, Bool.and_self, decide_true, decide_false, decide_eq_true_eq, idxAV_encNs hlt', h0, h1, h2, cR_b, Nd.cells]
        intro id hid
        have hsub' := hsub.upd hid (o := ⟨28, 20, [.agg (Nd.cells l[b])]⟩)
        have hb : l[b]? = some l[b] := by simp [hlt']
        have hlt2 : b < e := by simp at hlt; omega
        have hR : rowsB l b e = if _hx : 1 ≤ l[b].size ∧ l[b].size ≤ (e : Int) - b then
          (decide (l[b].kind = 1) || decide (l[b].size ≤ 1)) && rowsB l (b + 1) (b + l[b].size.toNat) && rowsB l (b + l[b].size.toNat) e else false := by
          rw [rowsB, dif_pos hlt2, hb]
        refine And.intro (fun hs => ?_) (fun hs => ?_)
        · refine ⟨inR_i64 (by omega) (by omega), And.intro (fun hs2 => ?_) (fun hs2 => ?_)⟩
          · have hx : 1 ≤ l[b].size ∧ l[b].size ≤ (e : Int) - b := by simp at hs hs2; omega
            rw [dif_pos hx] at hR
            have ih := rows_c l hl m (b + 1) (b + l[b].size.toNat) (by omega) (by omega) (by omega)
            have e2 : ((b + l[b].size.toNat : Nat) : Int) = b + l[b].size := by omega
            rw [e2, Int.natCast_add, Int.natCast_one] at ih
            refine And.intro (fun hk => And.intro (fun hs3 => ?_) (fun hs3 => ?_)) (fun hk => ?_)
            · refine ⟨inR_i64 (by omega) (by omega), inR_i64 (by omega) (by omega), ?_⟩
              refine Runs.pcall rfl rfl rfl (ih _) ?_
              (refine Runs.of_step Orc.nothing 300 ?_; simp -implicitDefEqProofs only [s_r_nil, Ret_one, Ret_two, Ret_three, Ret_none, Ret_cell_one, Ret_cell_two, onSome_some, s_r_stop, s_r_inBlock, s_r_ops_nil, s_r_skip, s_r_seq, s_r_block, s_r_exit, exR_some, s_r_ret, s_r_loop, s_r_reg, s_r_dreg, s_d_nil, s_r_cond, cR_t, cR_f, cR_dec, s_r_ins, insR_0, insR_1, insR_2, insR_3, insR_4, callR_some, callR_none, callV_eq, callD_some, callD_none, contR_some, storeR_some, effR_some, s_d_ins, insD_0, insD_1, insD_2, insD_3, contD_some, storeD_some, effD_some, s_r_gins, gR_tup, gR_tt, gR_ff, gR_tf, gR_ft, gR_dec_t, gR_dec_f, s_d_gins, gD_tup, gD_tt, gD_ff, gD_tf, gD_ft, gD_dec_t, gD_dec_f, putO_nothing, putO_lo, putO_hi, mix_get, putO_some, putO_none, lit_t, lit_c, ev_t, ev_c, okind, vpre, vpure, binV_int, binV_str, binPre_int, binPre_str, intBin, intPre, strBin, strPre, popTo, argSlots, lenV_own, lenV_sl, lenV_nils, lenV_str, fldV, fldAV, subCells, idxAV_own, idxVV, idxAAV, idxSV, loadV_ptr, loadV_rp_agg, loadV_rp_int, sliceV, sliceSV, boundV, szIs, storeOp, storeS, setRowV, eff, extV, buildV, splice, eqSV, fitsL, eqCells, eqCell, minmaxV, binBV, nilCheckV, bytesV, V.cells, V.stays, upd_same, upd_upd, true_implies, false_implies, implies_true, keepS_eq, List.getD_cons_zero, List.getD_cons_succ, List.getD_nil, List.map_cons, List.map_nil, List.length_cons, List.length_nil, List.drop_succ_cons, List.drop_zero, List.take_succ_cons, List.take_zero, List.set_cons_zero, List.set_cons_succ, List.append_nil, List.nil_append, List.cons_append, List.all_cons, List.all_nil, List.getElem?_cons_zero, List.getElem?_cons_succ, List.contains_cons, List.contains_nil, Option.isSome_some, Option.map_some, Option.map_none, true_and, and_true, and_self, Int.reduceEq, Int.reduceNe, Int.reduceLT, Int.reduceLE, Int.reduceGT, Int.reduceGE, Nat.reduceEqDiff, Nat.reduceAdd, Nat.reduceMul, Nat.reduceLeDiff, Nat.reduceSub, Nat.reduceLT, Nat.reduceBEq, Nat.zero_add, Nat.add_zero, ↓reduceIte, reduceCtorEq, ← decide_not, Bool.not_true, Bool.not_false, Bool.false_eq_true, Bool.or_true, Bool.true_or, Bool.or_false, Bool.false_or, Bool.true_and, Bool.and_true, Bool.and_self, decide_true, decide_false, decide_eq_true_eq, Orc.nothing, h0, h1, h2, cR_b, Nd.cells])
              refine And.intro (fun hf => ?_) (fun hf => ?_)
              · refine RetV.pure hsub' ?_
                simp only [Bool.not_eq_eq_eq_not, Bool.not_true] at hf
                rw [hr, hR, hf]; simp
              · simp only [Bool.not_eq_eq_eq_not, Bool.not_false] at hf
                refine ⟨inR_i64 (by omega) (by omega), _, ?_, b + l[b].size.toNat, by omega, by omega, rfl, ?_, hsub', ?_⟩
                · omega
                · rw [hr, hR, hf]; simp; omega
                · rw [e2]
            · refine RetV.pure hsub' ?_
              rw [hr, hR]
              have : ¬ l[b].size ≤ 1 := by omega
              simp [hk, this]
            · refine ⟨inR_i64 (by omega) (by omega), inR_i64 (by omega) (by omega), ?_⟩
              refine Runs.pcall rfl rfl rfl (ih _) ?_
              (refine Runs.of_step Orc.nothing 300 ?_; simp -implicitDefEqProofs only [s_r_nil, Ret_one, Ret_two, Ret_three, Ret_none, Ret_cell_one, Ret_cell_two, onSome_some, s_r_stop, s_r_inBlock, s_r_ops_nil, s_r_skip, s_r_seq, s_r_block, s_r_exit, exR_some, s_r_ret, s_r_loop, s_r_reg, s_r_dreg, s_d_nil, s_r_cond, cR_t, cR_f, cR_dec, s_r_ins, insR_0, insR_1, insR_2, insR_3, insR_4, callR_some, callR_none, callV_eq, callD_some, callD_none, contR_some, storeR_some, effR_some, s_d_ins, insD_0, insD_1, insD_2, insD_3, contD_some, storeD_some, effD_some, s_r_gins, gR_tup, gR_tt, gR_ff, gR_tf, gR_ft, gR_dec_t, gR_dec_f, s_d_gins, gD_tup, gD_tt, gD_ff, gD_tf, gD_ft, gD_dec_t, gD_dec_f, putO_nothing, putO_lo, putO_hi, mix_get, putO_some, putO_none, lit_t, lit_c, ev_t, ev_c, okind, vpre, vpure, binV_int, binV_str, binPre_int, binPre_str, intBin, intPre, strBin, strPre, popTo, argSlots, lenV_own, lenV_sl, lenV_nils, lenV_str, fldV, fldAV, subCells, idxAV_own, idxVV, idxAAV, idxSV, loadV_ptr, loadV_rp_agg, loadV_rp_int, sliceV, sliceSV, boundV, szIs, storeOp, storeS, setRowV, eff, extV, buildV, splice, eqSV, fitsL, eqCells, eqCell, minmaxV, binBV, nilCheckV, bytesV, V.cells, V.stays, upd_same, upd_upd, true_implies, false_implies, implies_true, keepS_eq, List.getD_cons_zero, List.getD_cons_succ, List.getD_nil, List.map_cons, List.map_nil, List.length_cons, List.length_nil, List.drop_succ_cons, List.drop_zero, List.take_succ_cons, List.take_zero, List.set_cons_zero, List.set_cons_succ, List.append_nil, List.nil_append, List.cons_append, List.all_cons, List.all_nil, List.getElem?_cons_zero, List.getElem?_cons_succ, List.contains_cons, List.contains_nil, Option.isSome_some, Option.map_some, Option.map_none, true_and, and_true, and_self, Int.reduceEq, Int.reduceNe, Int.reduceLT, Int.reduceLE, Int.reduceGT, Int.reduceGE, Nat.reduceEqDiff, Nat.reduceAdd, Nat.reduceMul, Nat.reduceLeDiff, Nat.reduceSub, Nat.reduceLT, Nat.reduceBEq, Nat.zero_add, Nat.add_zero, ↓reduceIte, reduceCtorEq, ← decide_not, Bool.not_true, Bool.not_false, Bool.false_eq_true, Bool.or_true, Bool.true_or, Bool.or_false, Bool.false_or, Bool.true_and, Bool.and_true, Bool.and_self, decide_true, decide_false, decide_eq_true_eq, Orc.nothing, h0, h1, h2, cR_b, Nd.cells])
              refine And.intro (fun hf => ?_) (fun hf => ?_)
              · refine RetV.pure hsub' ?_
                simp only [Bool.not_eq_eq_eq_not, Bool.not_true] at hf
                rw [hr, hR, hf]; simp
              · simp only [Bool.not_eq_eq_eq_not, Bool.not_false] at hf
                refine ⟨inR_i64 (by omega) (by omega), _, ?_, b + l[b].size.toNat, by omega, by omega, rfl, ?_, hsub', ?_⟩
                · omega
                · rw [hr, hR, hf]; simp; omega
                · rw [e2]
          · refine RetV.pure hsub' ?_
            rw [hr, hR, dif_neg (by omega)]
        · refine RetV.pure hsub' ?_
          rw [hr, hR, dif_neg (by omega)]
      · have : b = e := by simp at hge; omega
        subst this
        refine RetV.pure hsub ?_
        rw [hr, rowsB]
        simp
end Go.Vc
/- Contracts: the answer's Is. -/
namespace Go.Vc
open Go.Proofs

/-- nodes of a size that can be gone through -/
def Fine (l : List Nd) : Prop := l.length ≤ 10000 ∧ ∀ x ∈ l, x.words.length ≤ 200000000000000

theorem nall_take {α : Type} (p : α → Bool) (l : List α) (i : Nat) (h : i < l.length) : (l.take (i + 1)).all p = ((l.take i).all p && p l[i]) := by
  rw [List.take_succ_eq_append_getElem h, List.all_append]
  simp

def isB (l : List Nd) : Bool := l.all Nd.ok && rowsB l 0 l.length

theorem loadV_rp_node (σ : Store) (x : Nd) : loadV σ true 20 (.rp (.agg x.cells)) = some (encN x) := rfl

set_option maxRecDepth 100000 in
theorem is_c (l : List Nd) (hl : Fine l) : PFun Try.prog 14 [encNs l] (.bool (isB l)) := fun σ => by
  obtain ⟨hl1, hl2⟩ := hl
  refine Contract.of_runs Try.func14 e14 k14 (by simp [c14]) ?_
  refine Runs.mix 4 ?_
  (refine Runs.of_step Orc.nothing 300 ?_; simp -implicitDefEqProofs only [s_r_nil, Ret_one, Ret_two, Ret_three, Ret_none, Ret_cell_one, Ret_cell_two, onSome_some, s_r_stop, s_r_inBlock, s_r_ops_nil, s_r_skip, s_r_seq, s_r_block, s_r_exit, exR_some, s_r_ret, s_r_loop, s_r_reg, s_r_dreg, s_d_nil, s_r_cond, cR_t, cR_f, cR_dec, s_r_ins, insR_0, insR_1, insR_2, insR_3, insR_4, callR_some, callR_none, callV_eq, callD_some, callD_none, contR_some, storeR_some, effR_some, s_d_ins, insD_0, insD_1, insD_2, insD_3, contD_some, storeD_some, effD_some, s_r_gins, gR_tup, gR_tt, gR_ff, gR_tf, gR_ft, gR_dec_t, gR_dec_f, s_d_gins, gD_tup, gD_tt, gD_ff, gD_tf, gD_ft, gD_dec_t, gD_dec_f, putO_nothing, putO_lo, putO_hi, mix_get, putO_some, putO_none, lit_t, lit_c, ev_t, ev_c, okind, vpre, vpure, binV_int, binV_str, binPre_int, binPre_str, intBin, intPre, strBin, strPre, popTo, argSlots, lenV_own, lenV_sl, lenV_nils, lenV_str, fldV, fldAV, subCells, idxAV_own, idxVV, idxAAV, idxSV, loadV_ptr, loadV_rp_agg, loadV_rp_int, sliceV, sliceSV, boundV, szIs, storeOp, storeS, setRowV, eff, extV, buildV, splice, eqSV, fitsL, eqCells, eqCell, minmaxV, binBV, nilCheckV, bytesV, V.cells, V.stays, upd_same, upd_upd, true_implies, false_implies, implies_true, keepS_eq, List.getD_cons_zero, List.getD_cons_succ, List.getD_nil, List.map_cons, List.map_nil, List.length_cons, List.length_nil, List.drop_succ_cons, List.drop_zero, List.take_succ_cons, List.take_zero, List.set_cons_zero, List.set_cons_succ, List.append_nil, List.nil_append, List.cons_append, List.all_cons, List.all_nil, List.getElem?_cons_zero, List.getElem?_cons_succ, List.contains_cons, List.contains_nil, Option.isSome_some, Option.map_some, Option.map_none, true_and, and_true, and_self, Int.reduceEq, Int.reduceNe, Int.reduceLT, Int.reduceLE, Int.reduceGT, Int.reduceGE, Nat.reduceEqDiff, Nat.reduceAdd, Nat.reduceMul, Nat.reduceLeDiff, Nat.reduceSub, Nat.reduceLT, Nat.reduceBEq, Nat.zero_add, Nat.add_zero, ↓reduceIte, reduceCtorEq, ← decide_not, Bool.not_true, Bool.not_false, Bool.false_eq_true, Bool.or_true, Bool.true_or, Bool.or_false, Bool.false_or, Bool.true_and, Bool.and_true, Bool.and_self, decide_true, decide_false, decide_eq_true_eq, Orc.nothing, c14])
  refine Runs.loop (fun m st => ∃ i : Nat, i ≤ l.length ∧ m = l.length - i ∧ (l.take i).all Nd.ok = true ∧ st.σ = σ ∧ st.s 0 = encNs l ∧ st.s 3 = vI i) l.length ?_ ?_
  · exact ⟨0, by omega, by omega, by simp, rfl, rfl, rfl⟩
  · rintro m ⟨s, σ'⟩ ⟨i, hi, rfl, hp, hσ, h0, h3⟩
    simp only at h0 h3 hσ
    subst hσ
    refine Runs.mix 4 ?_
    (refine Runs.of_step Orc.nothing 300 ?_; simp -implicitDefEqProofs only [s_r_nil, Ret_one, Ret_two, Ret_three, Ret_none, Ret_cell_one, Ret_cell_two, onSome_some, s_r_stop, s_r_inBlock, s_r_ops_nil, s_r_skip, s_r_seq, s_r_block, s_r_exit, exR_some, s_r_ret, s_r_loop, s_r_reg, s_r_dreg, s_d_nil, s_r_cond, cR_t, cR_f, cR_dec, s_r_ins, insR_0, insR_1, insR_2, insR_3, insR_4, callR_some, callR_none, callV_eq, callD_some, callD_none, contR_some, storeR_some, effR_some, s_d_ins, insD_0, insD_1, insD_2, insD_3, contD_some, storeD_some, effD_some, s_r_gins, gR_tup, gR_tt, gR_ff, gR_tf, gR_ft, gR_dec_t, gR_dec_f, s_d_gins, gD_tup, gD_tt, gD_ff, gD_tf, gD_ft, gD_dec_t, gD_dec_f, putO_nothing, putO_lo, putO_hi, mix_get, putO_some, putO_none, lit_t, lit_c, ev_t, ev_c, okind, vpre, vpure, binV_int, binV_str, binPre_int, binPre_str, intBin, intPre, strBin, strPre, popTo, argSlots, lenV_own, lenV_sl, lenV_nils, lenV_str, fldV, fldAV, subCells, idxAV_own, idxVV, idxAAV, idxSV, loadV_ptr, loadV_rp_agg, loadV_rp_int, sliceV, sliceSV, boundV, szIs, storeOp, storeS, setRowV, eff, extV, buildV, splice, eqSV, fitsL, eqCells, eqCell, minmaxV, binBV, nilCheckV, bytesV, V.cells, V.stays, upd_same, upd_upd, true_implies, false_implies, implies_true, keepS_eq, List.getD_cons_zero, List.getD_cons_succ, List.getD_nil, List.map_cons, List.map_nil, List.length_cons, List.length_nil, List.drop_succ_cons, List.drop_zero, List.take_succ_cons, List.take_zero, List.set_cons_zero, List.set_cons_succ, List.append_nil, List.nil_append, List.cons_append, List.all_cons, List.all_nil, List.getElem?_cons_zero, List.getElem?_cons_succ, List.contains_cons, List.contains_nil, Option.isSome_some, Option.map_some, Option.map_none, true_and, and_true, and_self, Int.reduceEq, Int.reduceNe, Int.reduceLT, Int.reduceLE, Int.reduceGT, Int.reduceGE, Nat.reduceEqDiff, Nat.reduceAdd, Nat.reduceMul, Nat.reduceLeDiff, Nat.reduceSub, Nat.reduceLT, Nat.reduceBEq, Nat.zero_add, Nat.add_zero, ↓reduceIte, reduceCtorEq, ← decide_not, Bool.not_true, Bool.not_false, Bool.false_eq_true, Bool.or_true, Bool.true_or, Bool.or_false, Bool.false_or, Bool.true_and, Bool.and_true, Bool.and_self, decide_true, decide_false, decide_eq_true_eq, Orc.nothing, h0, h3, cR_b, lenV_encNs])
    refine And.intro (fun hlt => ?_) (fun hge => ?_)
    · have hlt' : i < l.length := by simp at hlt; omega
      have ht := nall_take Nd.ok l i hlt'
      rw [hp, Bool.true_and] at ht
      simp -implicitDefEqProofs only [s_r_nil, Ret_one, Ret_two, Ret_three, Ret_none, Ret_cell_one, Ret_cell_two, onSome_some, s_r_stop, s_r_inBlock, s_r_ops_nil, s_r_skip, s_r_seq, s_r_block, s_r_exit, exR_some, s_r_ret, s_r_loop, s_r_reg, s_r_dreg, s_d_nil, s_r_cond, cR_t, cR_f, cR_dec, s_r_ins, insR_0, insR_1, insR_2, insR_3, insR_4, callR_some, callR_none, callV_eq, callD_some, callD_none, contR_some, storeR_some, effR_some, s_d_ins, insD_0, insD_1, insD_2, insD_3, contD_some, storeD_some, effD_some, s_r_gins, gR_tup, gR_tt, gR_ff, gR_tf, gR_ft, gR_dec_t, gR_dec_f, s_d_gins, gD_tup, gD_tt, gD_ff, gD_tf, gD_ft, gD_dec_t, gD_dec_f, putO_nothing, putO_lo, putO_hi, mix_get, putO_some, putO_none, lit_t, lit_c, ev_t, ev_c, okind, vpre, vpure, binV_int, binV_str, binPre_int, binPre_str, intBin, intPre, strBin, strPre, popTo, argSlots, lenV_own, lenV_sl, lenV_nils, lenV_str, fldV, fldAV, subCells, idxAV_own, idxVV, idxAAV, idxSV, loadV_ptr, loadV_rp_agg, loadV_rp_int, sliceV, sliceSV, boundV, szIs, storeOp, storeS, setRowV, eff, extV, buildV, splice, eqSV, fitsL, eqCells, eqCell, minmaxV, binBV, nilCheckV, bytesV, V.cells, V.stays, upd_same, upd_upd, true_implies, false_implies, implies_true, keepS_eq, List.getD_cons_zero, List.getD_cons_succ, List.getD_nil, List.map_cons, List.map_nil, List.length_cons, List.length_nil, List.drop_succ_cons, List.drop_zero, List.take_succ_cons, List.take_zero, List.set_cons_zero, List.set_cons_succ, List.append_nil, List.nil_append, List.cons_append, List.all_cons, List.all_nil, List.getElem?_cons_zero, List.getElem?_cons_succ, List.contains_cons, List.contains_nil, Option.isSome_some, Option.map_some, Option.map_none, true_and, and_true, and_self, Int.reduceEq, Int.reduceNe, Int.reduceLT, Int.reduceLE, Int.reduceGT, Int.reduceGE, Nat.reduceEqDiff, Nat.reduceAdd, Nat.reduceMul, Nat.reduceLeDiff, Nat.reduceSub, Nat.reduceLT, Nat.reduceBEq, Nat.zero_add, Nat.add_zero, ↓reduceIte, reduceCtorEq, ← decide_not, Bool.not_true, Bool.not_false, Bool.false_eq_true, Bool.or_true, Bool.true_or, Bool.or_false, Bool.false_or, Bool.true_and, Bool.and_true, Bool.and_self, decide_true, decide_false, decide_eq_true_eq, idxAV_encNs hlt', loadV_rp_node, h0, h3, cR_b]
      refine Runs.pcall rfl rfl rfl (one_c l[i] (by have := hl2 _ (List.getElem_mem hlt'); omega) _) ?_
      (refine Runs.of_step Orc.nothing 300 ?_; simp -implicitDefEqProofs only [s_r_nil, Ret_one, Ret_two, Ret_three, Ret_none, Ret_cell_one, Ret_cell_two, onSome_some, s_r_stop, s_r_inBlock, s_r_ops_nil, s_r_skip, s_r_seq, s_r_block, s_r_exit, exR_some, s_r_ret, s_r_loop, s_r_reg, s_r_dreg, s_d_nil, s_r_cond, cR_t, cR_f, cR_dec, s_r_ins, insR_0, insR_1, insR_2, insR_3, insR_4, callR_some, callR_none, callV_eq, callD_some, callD_none, contR_some, storeR_some, effR_some, s_d_ins, insD_0, insD_1, insD_2, insD_3, contD_some, storeD_some, effD_some, s_r_gins, gR_tup, gR_tt, gR_ff, gR_tf, gR_ft, gR_dec_t, gR_dec_f, s_d_gins, gD_tup, gD_tt, gD_ff, gD_tf, gD_ft, gD_dec_t, gD_dec_f, putO_nothing, putO_lo, putO_hi, mix_get, putO_some, putO_none, lit_t, lit_c, ev_t, ev_c, okind, vpre, vpure, binV_int, binV_str, binPre_int, binPre_str, intBin, intPre, strBin, strPre, popTo, argSlots, lenV_own, lenV_sl, lenV_nils, lenV_str, fldV, fldAV, subCells, idxAV_own, idxVV, idxAAV, idxSV, loadV_ptr, loadV_rp_agg, loadV_rp_int, sliceV, sliceSV, boundV, szIs, storeOp, storeS, setRowV, eff, extV, buildV, splice, eqSV, fitsL, eqCells, eqCell, minmaxV, binBV, nilCheckV, bytesV, V.cells, V.stays, upd_same, upd_upd, true_implies, false_implies, implies_true, keepS_eq, List.getD_cons_zero, List.getD_cons_succ, List.getD_nil, List.map_cons, List.map_nil, List.length_cons, List.length_nil, List.drop_succ_cons, List.drop_zero, List.take_succ_cons, List.take_zero, List.set_cons_zero, List.set_cons_succ, List.append_nil, List.nil_append, List.cons_append, List.all_cons, List.all_nil, List.getElem?_cons_zero, List.getElem?_cons_succ, List.contains_cons, List.contains_nil, Option.isSome_some, Option.map_some, Option.map_none, true_and, and_true, and_self, Int.reduceEq, Int.reduceNe, Int.reduceLT, Int.reduceLE, Int.reduceGT, Int.reduceGE, Nat.reduceEqDiff, Nat.reduceAdd, Nat.reduceMul, Nat.reduceLeDiff, Nat.reduceSub, Nat.reduceLT, Nat.reduceBEq, Nat.zero_add, Nat.add_zero, ↓reduceIte, reduceCtorEq, ← decide_not, Bool.not_true, Bool.not_false, Bool.false_eq_true, Bool.or_true, Bool.true_or, Bool.or_false, Bool.false_or, Bool.true_and, Bool.and_true, Bool.and_self, decide_true, decide_false, decide_eq_true_eq, Orc.nothing, h0, h3, cR_b])
      refine And.intro (fun hf => ?_) (fun hf => ?_)
      · simp only [Bool.not_eq_eq_eq_not, Bool.not_true] at hf
        refine RetV.same ?_
        have : l.all Nd.ok = false := by
          rw [List.all_eq_false]
          exact ⟨_, List.getElem_mem hlt', by simp [hf]⟩
        simp [isB, this]
      · simp only [Bool.not_eq_eq_eq_not, Bool.not_false] at hf
        refine ⟨inR_i64 (by omega) (by omega), _, ?_, i + 1, by omega, rfl, ?_, ?_⟩
        · omega
        · rw [ht]; exact hf
        · simp
    · have hi' : i = l.length := by simp at hge; omega
      subst hi'
      rw [List.take_length] at hp
      have hr := rows_c l (by omega) (l.length + 1) 0 l.length (by omega) (by omega) (by omega)
      refine Runs.pcall rfl rfl rfl (hr _) ?_
      (refine Runs.of_step Orc.nothing 300 ?_; simp -implicitDefEqProofs only [s_r_nil, Ret_one, Ret_two, Ret_three, Ret_none, Ret_cell_one, Ret_cell_two, onSome_some, s_r_stop, s_r_inBlock, s_r_ops_nil, s_r_skip, s_r_seq, s_r_block, s_r_exit, exR_some, s_r_ret, s_r_loop, s_r_reg, s_r_dreg, s_d_nil, s_r_cond, cR_t, cR_f, cR_dec, s_r_ins, insR_0, insR_1, insR_2, insR_3, insR_4, callR_some, callR_none, callV_eq, callD_some, callD_none, contR_some, storeR_some, effR_some, s_d_ins, insD_0, insD_1, insD_2, insD_3, contD_some, storeD_some, effD_some, s_r_gins, gR_tup, gR_tt, gR_ff, gR_tf, gR_ft, gR_dec_t, gR_dec_f, s_d_gins, gD_tup, gD_tt, gD_ff, gD_tf, gD_ft, gD_dec_t, gD_dec_f, putO_nothing, putO_lo, putO_hi, mix_get, putO_some, putO_none, lit_t, lit_c, ev_t, ev_c, okind, vpre, vpure, binV_int, binV_str, binPre_int, binPre_str, intBin, intPre, strBin, strPre, popTo, argSlots, lenV_own, lenV_sl, lenV_nils, lenV_str, fldV, fldAV, subCells, idxAV_own, idxVV, idxAAV, idxSV, loadV_ptr, loadV_rp_agg, loadV_rp_int, sliceV, sliceSV, boundV, szIs, storeOp, storeS, setRowV, eff, extV, buildV, splice, eqSV, fitsL, eqCells, eqCell, minmaxV, binBV, nilCheckV, bytesV, V.cells, V.stays, upd_same, upd_upd, true_implies, false_implies, implies_true, keepS_eq, List.getD_cons_zero, List.getD_cons_succ, List.getD_nil, List.map_cons, List.map_nil, List.length_cons, List.length_nil, List.drop_succ_cons, List.drop_zero, List.take_succ_cons, List.take_zero, List.set_cons_zero, List.set_cons_succ, List.append_nil, List.nil_append, List.cons_append, List.all_cons, List.all_nil, List.getElem?_cons_zero, List.getElem?_cons_succ, List.contains_cons, List.contains_nil, Option.isSome_some, Option.map_some, Option.map_none, true_and, and_true, and_self, Int.reduceEq, Int.reduceNe, Int.reduceLT, Int.reduceLE, Int.reduceGT, Int.reduceGE, Nat.reduceEqDiff, Nat.reduceAdd, Nat.reduceMul, Nat.reduceLeDiff, Nat.reduceSub, Nat.reduceLT, Nat.reduceBEq, Nat.zero_add, Nat.add_zero, ↓reduceIte, reduceCtorEq, ← decide_not, Bool.not_true, Bool.not_false, Bool.false_eq_true, Bool.or_true, Bool.true_or, Bool.or_false, Bool.false_or, Bool.true_and, Bool.and_true, Bool.and_self, decide_true, decide_false, decide_eq_true_eq, Orc.nothing, h0, h3, cR_b])
      refine RetV.same ?_
      simp [isB, hp]
end Go.Vc
/- Contracts: the answer's Count: what it comes to, and the plain facts on rows within rows. -/
namespace Go.Vc
open Go.Proofs

theorem rowsB_size (l : List Nd) : ∀ (m a e : Nat), e - a < m → e ≤ l.length → rowsB l a e = true → ∀ k, a ≤ k → (h : k < e) → (h2 : k < l.length) → 1 ≤ l[k].size ∧ l[k].size ≤ (e : Int) - k ∧ (l[k].kind = 1 ∨ l[k].size ≤ 1)
  | 0, _, _, h, _, _ => by omega
  | m + 1, a, e, hm, he, hr => by
    intro k hk hke h2
    have hae : a < e := by omega
    have ha : a < l.length := by omega
    rw [rowsB, dif_pos hae] at hr
    have hga : l[a]? = some l[a] := by simp [ha]
    rw [hga] at hr
    simp only at hr
    split at hr
    · rename_i hx
      simp only [Bool.and_eq_true, Bool.or_eq_true, decide_eq_true_eq] at hr
      obtain ⟨⟨h3, h4⟩, h5⟩ := hr
      by_cases hka : k = a
      · subst hka; exact ⟨hx.1, hx.2, h3⟩
      · by_cases hin : k < a + l[a].size.toNat
        · obtain ⟨g1, g2, g3⟩ := rowsB_size l m (a + 1) (a + l[a].size.toNat) (by omega) (by omega) h4 k (by omega) hin h2
          exact ⟨g1, by omega, g3⟩
        · exact rowsB_size l m (a + l[a].size.toNat) e (by omega) he h5 k (by omega) hke h2
    · cases hr

structure Sm where
  (depth pieces nodes heights : Int)
deriving DecidableEq
def Sm.cells (s : Sm) : List V := [vI s.depth, vI s.pieces, vI s.nodes, vI s.heights]

def plusB (a b : Int) : Int := min (a + b) 1099511627777

/-- how many of the first nodes are blocks around the node at a place -/
def depthTo (l : List Nd) (i : Nat) : Nat → Int
  | 0 => 0
  | k + 1 => depthTo l i k + (match l[k]? with
    | some y => if y.kind = 1 ∧ (i : Int) < k + y.size then 1 else 0
    | none => 0)
def addN (a b : Int) : Nat → Int
  | 0 => a
  | n + 1 => plusB (addN a b n) b

def oneR (l : List Nd) (i : Nat) (x : Nd) (s : Sm) : Sm :=
  if x.kind = 1 then { s with depth := max s.depth (depthTo l i (i + 1)), heights := plusB (plusB (plusB (plusB (plusB s.heights x.st.top) x.st.bottom) x.st.padTop) x.st.padBottom) x.st.head }
  else if x.kind = 2 then { s with pieces := s.pieces + x.words.length, heights := addN s.heights x.line x.words.length }
  else { s with pieces := s.pieces + 1, heights := plusB s.heights x.h }

def foldR (l : List Nd) (s : Sm) : Nat → Sm
  | 0 => s
  | i + 1 => match l[i]? with
    | some x => oneR l i x (foldR l s i)
    | none => foldR l s i

def countR (l : List Nd) : Sm × Int := if isB l then (foldR l ⟨0, 0, l.length, 0⟩ l.length, 0) else (⟨0, 0, 0, 0⟩, 4)

/-- what 'plus' answers -/
def o7 (f : FuncId) (args : List V) : Option V := if f = 34 then (match args with
  | [.int .i64 a, .int .i64 b] => if (0 ≤ a ∧ a ≤ 1099511627777) ∧ (0 ≤ b ∧ b ≤ 1099511627777) then some (.int .i64 (plusB a b)) else none
  | _ => none) else none
def O7 : Orc Try.prog where
  get f args _ := o7 f args
  ok f args σ v h := by
    unfold o7 at h
    split at h
    · rename_i hf
      subst hf
      split at h
      · split at h
        · rename_i hc
          simp only [Option.some.injEq] at h
          subst h
          exact plus_c _ _ hc.1 ⟨by omega, by omega⟩ σ
        · cases h
      · cases h
    · cases h
theorem O7_34 (a b : Int) (σ : Store) (h1 : 0 ≤ a ∧ a ≤ 1099511627777) (h2 : 0 ≤ b ∧ b ≤ 1099511627777) : O7.get 34 [.int .i64 a, .int .i64 b] σ = some (.int .i64 (plusB a b)) := by
  have : O7.get 34 [.int .i64 a, .int .i64 b] σ = if (0 ≤ a ∧ a ≤ 1099511627777) ∧ (0 ≤ b ∧ b ≤ 1099511627777) then some (V.int .i64 (plusB a b)) else none := rfl
  rw [this, if_pos ⟨h1, h2⟩]

theorem plusB_in {a b : Int} (h1 : 0 ≤ a ∧ a ≤ 1099511627777) (h2 : 0 ≤ b) : 0 ≤ plusB a b ∧ plusB a b ≤ 1099511627777 := by
  unfold plusB; omega
theorem addN_in {a b : Int} (h1 : 0 ≤ a ∧ a ≤ 1099511627777) (h2 : 0 ≤ b) : ∀ n, 0 ≤ addN a b n ∧ addN a b n ≤ 1099511627777
  | 0 => h1
  | n + 1 => plusB_in (addN_in h1 h2 n) h2

theorem depthTo_in (l : List Nd) (i : Nat) : ∀ k, 0 ≤ depthTo l i k ∧ depthTo l i k ≤ k
  | 0 => by simp [depthTo]
  | k + 1 => by
    have := depthTo_in l i k
    simp only [depthTo]
    split
    · split <;> omega
    · omega

/-- a node's numbers, of one that is so -/
theorem ok_numbers {x : Nd} (h : x.ok = true) : (x.kind = 1 ∨ x.kind = 2 ∨ x.kind = 3 ∨ x.kind = 4) ∧ 0 ≤ x.line ∧ x.line ≤ mx ∧ 0 ≤ x.h ∧ x.h ≤ mx ∧
    (x.kind = 1 → (0 ≤ x.st.top ∧ x.st.top ≤ mx) ∧ (0 ≤ x.st.bottom ∧ x.st.bottom ≤ mx) ∧ (0 ≤ x.st.padTop ∧ x.st.padTop ≤ mx) ∧ (0 ≤ x.st.padBottom ∧ x.st.padBottom ≤ mx) ∧ (0 ≤ x.st.head ∧ x.st.head ≤ mx)) := by
  unfold Nd.ok at h
  split at h
  · rename_i hk
    simp only [Sty.ok, isFrom, Bool.and_eq_true, decide_eq_true_eq] at h ⊢; simp only [mx] at h ⊢
    refine ⟨.inl hk, by omega, by omega, by omega, by omega, fun _ => ?_⟩
    omega
  · split at h
    · cases h
    · split at h
      · rename_i h1 _ hk
        simp only [isFrom, Bool.and_eq_true, decide_eq_true_eq] at h ⊢; simp only [mx] at h ⊢
        exact ⟨.inr (.inl hk), by omega, by omega, by omega, by omega, fun e => absurd e h1⟩
      · rename_i h1 _ _
        simp only [isFrom, Bool.and_eq_true, Bool.or_eq_true, decide_eq_true_eq] at h ⊢; simp only [mx] at h ⊢
        exact ⟨by omega, by omega, by omega, by omega, by omega, fun e => absurd e h1⟩

def Sm.fine (s : Sm) (k : Int) : Prop := (0 ≤ s.depth ∧ s.depth ≤ k) ∧ (0 ≤ s.pieces ∧ s.pieces ≤ k * 200000000000000) ∧ (0 ≤ s.heights ∧ s.heights ≤ 1099511627777)
theorem oneR_fine {l : List Nd} {i : Nat} {x : Nd} {s : Sm} (hx : x.ok = true) (hw : x.words.length ≤ 200000000000000) (h : s.fine i) : (oneR l i x s).fine (i + 1) := by
  obtain ⟨h1, h2, h3⟩ := h
  obtain ⟨g1, g2, g3, g4, g5, g6⟩ := ok_numbers hx
  unfold oneR
  split
  · rename_i hk
    obtain ⟨a1, a2, a3, a4, a5⟩ := g6 hk
    have hd := depthTo_in l i (i + 1)
    refine ⟨?_, ?_, plusB_in (plusB_in (plusB_in (plusB_in (plusB_in h3 a1.1) a2.1) a3.1) a4.1) a5.1⟩
    · simp only; omega
    · simp only; omega
  · split
    · refine ⟨?_, ?_, addN_in h3 g2 _⟩
      · simp only; omega
      · simp only; omega
    · refine ⟨?_, ?_, plusB_in h3 g4⟩
      · simp only; omega
      · simp only; omega
end Go.Vc
/- Contracts: the answer's Count. -/
namespace Go.Vc
open Go.Proofs

def Sm.zero : Sm := ⟨0, 0, 0, 0⟩

set_option maxRecDepth 100000 in
theorem count_c (l : List Nd) (hl : Fine l) : PFun Try.prog 12 [encNs l] (.tup [.agg (countR l).1.cells, vI (countR l).2]) := fun σ => by
  have hl0 := hl
  obtain ⟨hl1, hl2⟩ := hl
  refine Contract.of_runs Try.func12 e12 k12 (by simp [c12]) ?_
  refine Runs.mix 10 ?_
  (refine Runs.of_step Orc.nothing 300 ?_; simp -implicitDefEqProofs only [s_r_nil, Ret_one, Ret_two, Ret_three, Ret_none, Ret_cell_one, Ret_cell_two, onSome_some, s_r_stop, s_r_inBlock, s_r_ops_nil, s_r_skip, s_r_seq, s_r_block, s_r_exit, exR_some, s_r_ret, s_r_loop, s_r_reg, s_r_dreg, s_d_nil, s_r_cond, cR_t, cR_f, cR_dec, s_r_ins, insR_0, insR_1, insR_2, insR_3, insR_4, callR_some, callR_none, callV_eq, callD_some, callD_none, contR_some, storeR_some, effR_some, s_d_ins, insD_0, insD_1, insD_2, insD_3, contD_some, storeD_some, effD_some, s_r_gins, gR_tup, gR_tt, gR_ff, gR_tf, gR_ft, gR_dec_t, gR_dec_f, s_d_gins, gD_tup, gD_tt, gD_ff, gD_tf, gD_ft, gD_dec_t, gD_dec_f, putO_nothing, putO_lo, putO_hi, mix_get, putO_some, putO_none, lit_t, lit_c, ev_t, ev_c, okind, vpre, vpure, binV_int, binV_str, binPre_int, binPre_str, intBin, intPre, strBin, strPre, popTo, argSlots, lenV_own, lenV_sl, lenV_nils, lenV_str, fldV, fldAV, subCells, idxAV_own, idxVV, idxAAV, idxSV, loadV_ptr, loadV_rp_agg, loadV_rp_int, sliceV, sliceSV, boundV, szIs, storeOp, storeS, setRowV, eff, extV, buildV, splice, eqSV, fitsL, eqCells, eqCell, minmaxV, binBV, nilCheckV, bytesV, V.cells, V.stays, upd_same, upd_upd, true_implies, false_implies, implies_true, keepS_eq, List.getD_cons_zero, List.getD_cons_succ, List.getD_nil, List.map_cons, List.map_nil, List.length_cons, List.length_nil, List.drop_succ_cons, List.drop_zero, List.take_succ_cons, List.take_zero, List.set_cons_zero, List.set_cons_succ, List.append_nil, List.nil_append, List.cons_append, List.all_cons, List.all_nil, List.getElem?_cons_zero, List.getElem?_cons_succ, List.contains_cons, List.contains_nil, Option.isSome_some, Option.map_some, Option.map_none, true_and, and_true, and_self, Int.reduceEq, Int.reduceNe, Int.reduceLT, Int.reduceLE, Int.reduceGT, Int.reduceGE, Nat.reduceEqDiff, Nat.reduceAdd, Nat.reduceMul, Nat.reduceLeDiff, Nat.reduceSub, Nat.reduceLT, Nat.reduceBEq, Nat.zero_add, Nat.add_zero, ↓reduceIte, reduceCtorEq, ← decide_not, Bool.not_true, Bool.not_false, Bool.false_eq_true, Bool.or_true, Bool.true_or, Bool.or_false, Bool.false_or, Bool.true_and, Bool.and_true, Bool.and_self, decide_true, decide_false, decide_eq_true_eq, Orc.nothing, c12])
  intro idR hidR
  have hsub1 := (SubStore.refl σ).upd hidR (o := ⟨31, 4, [.agg Sm.zero.cells]⟩)
  refine Runs.pcall rfl rfl rfl (is_c l hl0 _) ?_
  (refine Runs.of_step Orc.nothing 300 ?_; simp -implicitDefEqProofs only [s_r_nil, Ret_one, Ret_two, Ret_three, Ret_none, Ret_cell_one, Ret_cell_two, onSome_some, s_r_stop, s_r_inBlock, s_r_ops_nil, s_r_skip, s_r_seq, s_r_block, s_r_exit, exR_some, s_r_ret, s_r_loop, s_r_reg, s_r_dreg, s_d_nil, s_r_cond, cR_t, cR_f, cR_dec, s_r_ins, insR_0, insR_1, insR_2, insR_3, insR_4, callR_some, callR_none, callV_eq, callD_some, callD_none, contR_some, storeR_some, effR_some, s_d_ins, insD_0, insD_1, insD_2, insD_3, contD_some, storeD_some, effD_some, s_r_gins, gR_tup, gR_tt, gR_ff, gR_tf, gR_ft, gR_dec_t, gR_dec_f, s_d_gins, gD_tup, gD_tt, gD_ff, gD_tf, gD_ft, gD_dec_t, gD_dec_f, putO_nothing, putO_lo, putO_hi, mix_get, putO_some, putO_none, lit_t, lit_c, ev_t, ev_c, okind, vpre, vpure, binV_int, binV_str, binPre_int, binPre_str, intBin, intPre, strBin, strPre, popTo, argSlots, lenV_own, lenV_sl, lenV_nils, lenV_str, fldV, fldAV, subCells, idxAV_own, idxVV, idxAAV, idxSV, loadV_ptr, loadV_rp_agg, loadV_rp_int, sliceV, sliceSV, boundV, szIs, storeOp, storeS, setRowV, eff, extV, buildV, splice, eqSV, fitsL, eqCells, eqCell, minmaxV, binBV, nilCheckV, bytesV, V.cells, V.stays, upd_same, upd_upd, true_implies, false_implies, implies_true, keepS_eq, List.getD_cons_zero, List.getD_cons_succ, List.getD_nil, List.map_cons, List.map_nil, List.length_cons, List.length_nil, List.drop_succ_cons, List.drop_zero, List.take_succ_cons, List.take_zero, List.set_cons_zero, List.set_cons_succ, List.append_nil, List.nil_append, List.cons_append, List.all_cons, List.all_nil, List.getElem?_cons_zero, List.getElem?_cons_succ, List.contains_cons, List.contains_nil, Option.isSome_some, Option.map_some, Option.map_none, true_and, and_true, and_self, Int.reduceEq, Int.reduceNe, Int.reduceLT, Int.reduceLE, Int.reduceGT, Int.reduceGE, Nat.reduceEqDiff, Nat.reduceAdd, Nat.reduceMul, Nat.reduceLeDiff, Nat.reduceSub, Nat.reduceLT, Nat.reduceBEq, Nat.zero_add, Nat.add_zero, ↓reduceIte, reduceCtorEq, ← decide_not, Bool.not_true, Bool.not_false, Bool.false_eq_true, Bool.or_true, Bool.true_or, Bool.or_false, Bool.false_or, Bool.true_and, Bool.and_true, Bool.and_self, decide_true, decide_false, decide_eq_true_eq, Orc.nothing, cR_b, lenV_encNs])
  refine And.intro (fun hf => ?_) (fun hf => ?_)
  · simp only [Bool.not_eq_eq_eq_not, Bool.not_true] at hf
    refine RetV.pure hsub1 ?_
    simp [countR, hf, Sm.cells]
  · simp only [Bool.not_eq_eq_eq_not, Bool.not_false] at hf
    intro id4 hid4
    have hne : id4 ≠ idR := by rintro rfl; simp [upd_same] at hid4
    have hid4' : σ id4 = none := by rw [upd_ne hne] at hid4; exact hid4
    refine Runs.loop (fun m st => ∃ i : Nat, i ≤ l.length ∧ m = l.length - i ∧ SubStore σ st.σ ∧ st.σ idR = some ⟨31, 4, [.agg Sm.zero.cells]⟩ ∧
      st.σ id4 = some ⟨31, 4, [.agg (foldR l ⟨0, 0, l.length, 0⟩ i).cells]⟩ ∧ st.s 0 = encNs l ∧ st.s 2 = .ptr idR 0 0 ∧ st.s 4 = .ptr id4 0 0 ∧ st.s 5 = vI i ∧ (foldR l ⟨0, 0, l.length, 0⟩ i).fine i) l.length ?_ ?_
    · refine ⟨0, by omega, by omega, ?_, ?_, ?_, rfl, rfl, rfl, rfl, by simp [foldR, Sm.fine]⟩
      · exact ((SubStore.refl σ).upd hidR).upd hid4
      · simp only [upd_ne hne.symm, upd_same]; rfl
      · simp only [upd_same]; rfl
    · rintro m ⟨s, σ'⟩ ⟨i, hi, rfl, hsub, hR, h4s, h0, h2, h4, h5, hfine⟩
      simp only at hsub hR h4s h0 h2 h4 h5
      have hok : l.all Nd.ok = true ∧ rowsB l 0 l.length = true := by simpa [isB] using hf
      generalize hsm : foldR l ⟨0, 0, l.length, 0⟩ i = sm at *
      refine Runs.mix 10 ?_
      (refine Runs.of_step O7 300 ?_; simp -implicitDefEqProofs only [s_r_nil, Ret_one, Ret_two, Ret_three, Ret_none, Ret_cell_one, Ret_cell_two, onSome_some, s_r_stop, s_r_inBlock, s_r_ops_nil, s_r_skip, s_r_seq, s_r_block, s_r_exit, exR_some, s_r_ret, s_r_loop, s_r_reg, s_r_dreg, s_d_nil, s_r_cond, cR_t, cR_f, cR_dec, s_r_ins, insR_0, insR_1, insR_2, insR_3, insR_4, callR_some, callR_none, callV_eq, callD_some, callD_none, contR_some, storeR_some, effR_some, s_d_ins, insD_0, insD_1, insD_2, insD_3, contD_some, storeD_some, effD_some, s_r_gins, gR_tup, gR_tt, gR_ff, gR_tf, gR_ft, gR_dec_t, gR_dec_f, s_d_gins, gD_tup, gD_tt, gD_ff, gD_tf, gD_ft, gD_dec_t, gD_dec_f, putO_nothing, putO_lo, putO_hi, mix_get, putO_some, putO_none, lit_t, lit_c, ev_t, ev_c, okind, vpre, vpure, binV_int, binV_str, binPre_int, binPre_str, intBin, intPre, strBin, strPre, popTo, argSlots, lenV_own, lenV_sl, lenV_nils, lenV_str, fldV, fldAV, subCells, idxAV_own, idxVV, idxAAV, idxSV, loadV_ptr, loadV_rp_agg, loadV_rp_int, sliceV, sliceSV, boundV, szIs, storeOp, storeS, setRowV, eff, extV, buildV, splice, eqSV, fitsL, eqCells, eqCell, minmaxV, binBV, nilCheckV, bytesV, V.cells, V.stays, upd_same, upd_upd, true_implies, false_implies, implies_true, keepS_eq, List.getD_cons_zero, List.getD_cons_succ, List.getD_nil, List.map_cons, List.map_nil, List.length_cons, List.length_nil, List.drop_succ_cons, List.drop_zero, List.take_succ_cons, List.take_zero, List.set_cons_zero, List.set_cons_succ, List.append_nil, List.nil_append, List.cons_append, List.all_cons, List.all_nil, List.getElem?_cons_zero, List.getElem?_cons_succ, List.contains_cons, List.contains_nil, Option.isSome_some, Option.map_some, Option.map_none, true_and, and_true, and_self, Int.reduceEq, Int.reduceNe, Int.reduceLT, Int.reduceLE, Int.reduceGT, Int.reduceGE, Nat.reduceEqDiff, Nat.reduceAdd, Nat.reduceMul, Nat.reduceLeDiff, Nat.reduceSub, Nat.reduceLT, Nat.reduceBEq, Nat.zero_add, Nat.add_zero, ↓reduceIte, reduceCtorEq, ← decide_not, Bool.not_true, Bool.not_false, Bool.false_eq_true, Bool.or_true, Bool.true_or, Bool.or_false, Bool.false_or, Bool.true_and, Bool.and_true, Bool.and_self, decide_true, decide_false, decide_eq_true_eq, h0, h2, h4, h5, h4s, hR, cR_b, lenV_encNs, Sm.cells])
      refine And.intro (fun hlt => ?_) (fun hge => ?_)
      · have hlt' : i < l.length := by simp at hlt; omega
        have hx := (List.all_eq_true.1 hok.1) _ (List.getElem_mem hlt')
        generalize hxe : l[i] = x at *
        simp -implicitDefEqProofs only [s_r_nil, Ret_one, Ret_two, Ret_three, Ret_none, Ret_cell_one, Ret_cell_two, onSome_some, s_r_stop, s_r_inBlock, s_r_ops_nil, s_r_skip, s_r_seq, s_r_block, s_r_exit, exR_some, s_r_ret, s_r_loop, s_r_reg, s_r_dreg, s_d_nil, s_r_cond, cR_t, cR_f, cR_dec, s_r_ins, insR_0, insR_1, insR_2, insR_3, insR_4, callR_some, callR_none, callV_eq, callD_some, callD_none, contR_some, storeR_some, effR_some, s_d_ins, insD_0, insD_1, insD_2, insD_3, contD_some, storeD_some, effD_some, s_r_gins, gR_tup, gR_tt, gR_ff, gR_tf, gR_ft, gR_dec_t, gR_dec_f, s_d_gins, gD_tup, gD_tt, gD_ff, gD_tf, gD_ft, gD_dec_t, gD_dec_f, putO_nothing, putO_lo, putO_hi, mix_get, putO_some, putO_none, lit_t, lit_c, ev_t, ev_c, okind, vpre, vpure, binV_int, binV_str, binPre_int, binPre_str, intBin, intPre, strBin, strPre, popTo, argSlots, lenV_own, lenV_sl, lenV_nils, lenV_str, fldV, fldAV, subCells, idxAV_own, idxVV, idxAAV, idxSV, loadV_ptr, loadV_rp_agg, loadV_rp_int, sliceV, sliceSV, boundV, szIs, storeOp, storeS, setRowV, eff, extV, buildV, splice, eqSV, fitsL, eqCells, eqCell, minmaxV, binBV, nilCheckV, bytesV, V.cells, V.stays, upd_same, upd_upd, true_implies, false_implies, implies_true, keepS_eq, List.getD_cons_zero, List.getD_cons_succ, List.getD_nil, List.map_cons, List.map_nil, List.length_cons, List.length_nil, List.drop_succ_cons, List.drop_zero, List.take_succ_cons, List.take_zero, List.set_cons_zero, List.set_cons_succ, List.append_nil, List.nil_append, List.cons_append, List.all_cons, List.all_nil, List.getElem?_cons_zero, List.getElem?_cons_succ, List.contains_cons, List.contains_nil, Option.isSome_some, Option.map_some, Option.map_none, true_and, and_true, and_self, Int.reduceEq, Int.reduceNe, Int.reduceLT, Int.reduceLE, Int.reduceGT, Int.reduceGE, Nat.reduceEqDiff, Nat.reduceAdd, Nat.reduceMul, Nat.reduceLeDiff, Nat.reduceSub, Nat.reduceLT, Nat.reduceBEq, Nat.zero_add, Nat.add_zero, ↓reduceIte, reduceCtorEq, ← decide_not, Bool.not_true, Bool.not_false, Bool.false_eq_true, Bool.or_true, Bool.true_or, Bool.or_false, Bool.false_or, Bool.true_and, Bool.and_true, Bool.and_self, decide_true, decide_false, decide_eq_true_eq, idxAV_encNs hlt', hxe, loadV_rp_node, h0, h2, h4, h5, cR_b, Nd.cells, lenV_encI, h4s]
        have hstep : foldR l ⟨0, 0, l.length, 0⟩ (i + 1) = oneR l i x sm := by simp [foldR, hlt', hxe, hsm]
        intro id6 hid6
        have n64 : id6 ≠ id4 := by rintro rfl; rw [h4s] at hid6; cases hid6
        have n6R : id6 ≠ idR := by rintro rfl; rw [hR] at hid6; cases hid6
        have hsub6 := hsub.upd hid6 (o := ⟨28, 20, [.agg x.cells]⟩)
        obtain ⟨p1, p2, p3, p4, p5, p6⟩ := ok_numbers hx
        have hfine0 := hfine
        obtain ⟨f1, f2, f3⟩ := hfine
        have hxw : x.words.length ≤ 200000000000000 := hl2 x (hxe ▸ List.getElem_mem hlt')
        refine And.intro (fun hk => ?_) (fun hk => ?_)
        · have hk1 : x.kind = 1 := by simpa using hk
          obtain ⟨q1, q2, q3, q4, q5⟩ := p6 hk1
          refine Runs.loop (fun mm st => ∃ k : Nat, k ≤ i + 1 ∧ mm = i + 1 - k ∧ st.σ = upd σ' id6 ⟨28, 20, [.agg x.cells]⟩ ∧
            st.s 0 = encNs l ∧ st.s 2 = .ptr idR 0 0 ∧ st.s 4 = .ptr id4 0 0 ∧ st.s 5 = vI i ∧ st.s 6 = .ptr id6 0 0 ∧ st.s 7 = vI (depthTo l i k) ∧ st.s 8 = vI k) (i + 1) ?_ ?_
          · exact ⟨0, by omega, by omega, by rfl, h0, h2, h4, h5, rfl, rfl, rfl⟩
          · rintro mm ⟨s, σ''⟩ ⟨k, hki, rfl, hσ, h0, h2, h4, h5, h6, h7, h8⟩
            simp only at hσ h0 h2 h4 h5 h6 h7 h8
            subst hσ
            have hdt := depthTo_in l i k
            refine Runs.mix 10 ?_
            (refine Runs.of_step O7 300 ?_; simp -implicitDefEqProofs only [s_r_nil, Ret_one, Ret_two, Ret_three, Ret_none, Ret_cell_one, Ret_cell_two, onSome_some, s_r_stop, s_r_inBlock, s_r_ops_nil, s_r_skip, s_r_seq, s_r_block, s_r_exit, exR_some, s_r_ret, s_r_loop, s_r_reg, s_r_dreg, s_d_nil, s_r_cond, cR_t, cR_f, cR_dec, s_r_ins, insR_0, insR_1, insR_2, insR_3, insR_4, callR_some, callR_none, callV_eq, callD_some, callD_none, contR_some, storeR_some, effR_some, s_d_ins, insD_0, insD_1, insD_2, insD_3, contD_some, storeD_some, effD_some, s_r_gins, gR_tup, gR_tt, gR_ff, gR_tf, gR_ft, gR_dec_t, gR_dec_f, s_d_gins, gD_tup, gD_tt, gD_ff, gD_tf, gD_ft, gD_dec_t, gD_dec_f, putO_nothing, putO_lo, putO_hi, mix_get, putO_some, putO_none, lit_t, lit_c, ev_t, ev_c, okind, vpre, vpure, binV_int, binV_str, binPre_int, binPre_str, intBin, intPre, strBin, strPre, popTo, argSlots, lenV_own, lenV_sl, lenV_nils, lenV_str, fldV, fldAV, subCells, idxAV_own, idxVV, idxAAV, idxSV, loadV_ptr, loadV_rp_agg, loadV_rp_int, sliceV, sliceSV, boundV, szIs, storeOp, storeS, setRowV, eff, extV, buildV, splice, eqSV, fitsL, eqCells, eqCell, minmaxV, binBV, nilCheckV, bytesV, V.cells, V.stays, upd_same, upd_upd, true_implies, false_implies, implies_true, keepS_eq, List.getD_cons_zero, List.getD_cons_succ, List.getD_nil, List.map_cons, List.map_nil, List.length_cons, List.length_nil, List.drop_succ_cons, List.drop_zero, List.take_succ_cons, List.take_zero, List.set_cons_zero, List.set_cons_succ, List.append_nil, List.nil_append, List.cons_append, List.all_cons, List.all_nil, List.getElem?_cons_zero, List.getElem?_cons_succ, List.contains_cons, List.contains_nil, Option.isSome_some, Option.map_some, Option.map_none, true_and, and_true, and_self, Int.reduceEq, Int.reduceNe, Int.reduceLT, Int.reduceLE, Int.reduceGT, Int.reduceGE, Nat.reduceEqDiff, Nat.reduceAdd, Nat.reduceMul, Nat.reduceLeDiff, Nat.reduceSub, Nat.reduceLT, Nat.reduceBEq, Nat.zero_add, Nat.add_zero, ↓reduceIte, reduceCtorEq, ← decide_not, Bool.not_true, Bool.not_false, Bool.false_eq_true, Bool.or_true, Bool.true_or, Bool.or_false, Bool.false_or, Bool.true_and, Bool.and_true, Bool.and_self, decide_true, decide_false, decide_eq_true_eq, h0, h2, h4, h5, h6, h7, h8, cR_b, lenV_encNs])
            refine And.intro (fun hlt2 => ?_) (fun hge2 => ?_)
            · have hlt2' : k < l.length := by simp at hlt2; omega
              have hki2 : k ≤ i := by simp at hlt2; omega
              obtain ⟨z1, z2, z3⟩ := rowsB_size l (l.length + 1) 0 l.length (by omega) (by omega) hok.2 k (by omega) hlt2' hlt2'
              have hdk : depthTo l i (k + 1) = depthTo l i k + (if l[k].kind = 1 ∧ (i : Int) < k + l[k].size then 1 else 0) := by simp [depthTo, hlt2']
              simp -implicitDefEqProofs only [s_r_nil, Ret_one, Ret_two, Ret_three, Ret_none, Ret_cell_one, Ret_cell_two, onSome_some, s_r_stop, s_r_inBlock, s_r_ops_nil, s_r_skip, s_r_seq, s_r_block, s_r_exit, exR_some, s_r_ret, s_r_loop, s_r_reg, s_r_dreg, s_d_nil, s_r_cond, cR_t, cR_f, cR_dec, s_r_ins, insR_0, insR_1, insR_2, insR_3, insR_4, callR_some, callR_none, callV_eq, callD_some, callD_none, contR_some, storeR_some, effR_some, s_d_ins, insD_0, insD_1, insD_2, insD_3, contD_some, storeD_some, effD_some, s_r_gins, gR_tup, gR_tt, gR_ff, gR_tf, gR_ft, gR_dec_t, gR_dec_f, s_d_gins, gD_tup, gD_tt, gD_ff, gD_tf, gD_ft, gD_dec_t, gD_dec_f, putO_nothing, putO_lo, putO_hi, mix_get, putO_some, putO_none, lit_t, lit_c, ev_t, ev_c, okind, vpre, vpure, binV_int, binV_str, binPre_int, binPre_str, intBin, intPre, strBin, strPre, popTo, argSlots, lenV_own, lenV_sl, lenV_nils, lenV_str, fldV, fldAV, subCells, idxAV_own, idxVV, idxAAV, idxSV, loadV_ptr, loadV_rp_agg, loadV_rp_int, sliceV, sliceSV, boundV, szIs, storeOp, storeS, setRowV, eff, extV, buildV, splice, eqSV, fitsL, eqCells, eqCell, minmaxV, binBV, nilCheckV, bytesV, V.cells, V.stays, upd_same, upd_upd, true_implies, false_implies, implies_true, keepS_eq, List.getD_cons_zero, List.getD_cons_succ, List.getD_nil, List.map_cons, List.map_nil, List.length_cons, List.length_nil, List.drop_succ_cons, List.drop_zero, List.take_succ_cons, List.take_zero, List.set_cons_zero, List.set_cons_succ, List.append_nil, List.nil_append, List.cons_append, List.all_cons, List.all_nil, List.getElem?_cons_zero, List.getElem?_cons_succ, List.contains_cons, List.contains_nil, Option.isSome_some, Option.map_some, Option.map_none, true_and, and_true, and_self, Int.reduceEq, Int.reduceNe, Int.reduceLT, Int.reduceLE, Int.reduceGT, Int.reduceGE, Nat.reduceEqDiff, Nat.reduceAdd, Nat.reduceMul, Nat.reduceLeDiff, Nat.reduceSub, Nat.reduceLT, Nat.reduceBEq, Nat.zero_add, Nat.add_zero, ↓reduceIte, reduceCtorEq, ← decide_not, Bool.not_true, Bool.not_false, Bool.false_eq_true, Bool.or_true, Bool.true_or, Bool.or_false, Bool.false_or, Bool.true_and, Bool.and_true, Bool.and_self, decide_true, decide_false, decide_eq_true_eq, idxAV_encNs hlt2', loadV_rp_node, h0, h2, h4, h5, h6, h7, h8, cR_b, Nd.cells]
              refine And.intro (fun hk2 => ⟨inR_i64 (by omega) (by omega), And.intro (fun hc => ?_) (fun hc => ?_)⟩) (fun hk2 => ?_)
              · refine ⟨inR_i64 (by omega) (by omega), inR_i64 (by omega) (by omega), _, ?_, k + 1, by omega, rfl, ?_, ?_⟩
                · omega
                · rw [hdk, if_pos ⟨hk2, hc⟩]
                · simp
              · refine ⟨inR_i64 (by omega) (by omega), _, ?_, k + 1, by omega, rfl, ?_, ?_⟩
                · omega
                · rw [hdk, if_neg (by simp at hc; omega), Int.add_zero]
                · simp
              · refine ⟨inR_i64 (by omega) (by omega), _, ?_, k + 1, by omega, rfl, ?_, ?_⟩
                · omega
                · rw [hdk, if_neg (by omega), Int.add_zero]
                · simp
            · have hke : k = i + 1 := by simp at hge2; omega
              subst hke
              have r1 := plusB_in f3 q1.1
              have r2 := plusB_in r1 q2.1
              have r3 := plusB_in r2 q3.1
              have r4 := plusB_in r3 q4.1
              have r5 := plusB_in r4 q5.1
              have c1 := fun σ => O7_34 _ _ σ f3 ⟨q1.1, by have := q1.2; simp only [mx] at this; omega⟩
              have c2 := fun σ => O7_34 _ _ σ r1 ⟨q2.1, by have := q2.2; simp only [mx] at this; omega⟩
              have c3 := fun σ => O7_34 _ _ σ r2 ⟨q3.1, by have := q3.2; simp only [mx] at this; omega⟩
              have c4 := fun σ => O7_34 _ _ σ r3 ⟨q4.1, by have := q4.2; simp only [mx] at this; omega⟩
              have c5 := fun σ => O7_34 _ _ σ r4 ⟨q5.1, by have := q5.2; simp only [mx] at this; omega⟩
              simp -implicitDefEqProofs only [s_r_nil, Ret_one, Ret_two, Ret_three, Ret_none, Ret_cell_one, Ret_cell_two, onSome_some, s_r_stop, s_r_inBlock, s_r_ops_nil, s_r_skip, s_r_seq, s_r_block, s_r_exit, exR_some, s_r_ret, s_r_loop, s_r_reg, s_r_dreg, s_d_nil, s_r_cond, cR_t, cR_f, cR_dec, s_r_ins, insR_0, insR_1, insR_2, insR_3, insR_4, callR_some, callR_none, callV_eq, callD_some, callD_none, contR_some, storeR_some, effR_some, s_d_ins, insD_0, insD_1, insD_2, insD_3, contD_some, storeD_some, effD_some, s_r_gins, gR_tup, gR_tt, gR_ff, gR_tf, gR_ft, gR_dec_t, gR_dec_f, s_d_gins, gD_tup, gD_tt, gD_ff, gD_tf, gD_ft, gD_dec_t, gD_dec_f, putO_nothing, putO_lo, putO_hi, mix_get, putO_some, putO_none, lit_t, lit_c, ev_t, ev_c, okind, vpre, vpure, binV_int, binV_str, binPre_int, binPre_str, intBin, intPre, strBin, strPre, popTo, argSlots, lenV_own, lenV_sl, lenV_nils, lenV_str, fldV, fldAV, subCells, idxAV_own, idxVV, idxAAV, idxSV, loadV_ptr, loadV_rp_agg, loadV_rp_int, sliceV, sliceSV, boundV, szIs, storeOp, storeS, setRowV, eff, extV, buildV, splice, eqSV, fitsL, eqCells, eqCell, minmaxV, binBV, nilCheckV, bytesV, V.cells, V.stays, upd_same, upd_upd, true_implies, false_implies, implies_true, keepS_eq, List.getD_cons_zero, List.getD_cons_succ, List.getD_nil, List.map_cons, List.map_nil, List.length_cons, List.length_nil, List.drop_succ_cons, List.drop_zero, List.take_succ_cons, List.take_zero, List.set_cons_zero, List.set_cons_succ, List.append_nil, List.nil_append, List.cons_append, List.all_cons, List.all_nil, List.getElem?_cons_zero, List.getElem?_cons_succ, List.contains_cons, List.contains_nil, Option.isSome_some, Option.map_some, Option.map_none, true_and, and_true, and_self, Int.reduceEq, Int.reduceNe, Int.reduceLT, Int.reduceLE, Int.reduceGT, Int.reduceGE, Nat.reduceEqDiff, Nat.reduceAdd, Nat.reduceMul, Nat.reduceLeDiff, Nat.reduceSub, Nat.reduceLT, Nat.reduceBEq, Nat.zero_add, Nat.add_zero, ↓reduceIte, reduceCtorEq, ← decide_not, Bool.not_true, Bool.not_false, Bool.false_eq_true, Bool.or_true, Bool.true_or, Bool.or_false, Bool.false_or, Bool.true_and, Bool.and_true, Bool.and_self, decide_true, decide_false, decide_eq_true_eq, c1, c2, c3, c4, c5, upd_ne n64, upd_ne n64.symm, h4s, hk1, h0, h2, h4, h5, h6, h7, h8, cR_b, Nd.cells, Sm.cells, mx]
              have hfx := oneR_fine (l := l) hx hxw hfine0
              refine ⟨inR_i64 (by omega) (by omega), _, ?_, i + 1, by omega, rfl, (hsub.upd hid6).updK hid4', ?_, ?_, ?_, ?_⟩
              · omega
              · rw [upd_ne hne.symm, upd_ne n6R.symm, hR]; rfl
              · rw [hstep]
                have : (if depthTo l i (i + 1) > sm.depth then depthTo l i (i + 1) else sm.depth) = max sm.depth (depthTo l i (i + 1)) := by split <;> omega
                simp [oneR, hk1, this]
              · simp
              · rw [hstep]; simpa using hfx
        · have hk1 : x.kind ≠ 1 := by simpa using hk
          have hfx := oneR_fine (l := l) hx hxw hfine0
          refine And.intro (fun hk2 => ?_) (fun hk2 => ?_)
          · simp -implicitDefEqProofs only [s_r_nil, Ret_one, Ret_two, Ret_three, Ret_none, Ret_cell_one, Ret_cell_two, onSome_some, s_r_stop, s_r_inBlock, s_r_ops_nil, s_r_skip, s_r_seq, s_r_block, s_r_exit, exR_some, s_r_ret, s_r_loop, s_r_reg, s_r_dreg, s_d_nil, s_r_cond, cR_t, cR_f, cR_dec, s_r_ins, insR_0, insR_1, insR_2, insR_3, insR_4, callR_some, callR_none, callV_eq, callD_some, callD_none, contR_some, storeR_some, effR_some, s_d_ins, insD_0, insD_1, insD_2, insD_3, contD_some, storeD_some, effD_some, s_r_gins, gR_tup, gR_tt, gR_ff, gR_tf, gR_ft, gR_dec_t, gR_dec_f, s_d_gins, gD_tup, gD_tt, gD_ff, gD_tf, gD_ft, gD_dec_t, gD_dec_f, putO_nothing, putO_lo, putO_hi, mix_get, putO_some, putO_none, lit_t, lit_c, ev_t, ev_c, okind, vpre, vpure, binV_int, binV_str, binPre_int, binPre_str, intBin, intPre, strBin, strPre, popTo, argSlots, lenV_own, lenV_sl, lenV_nils, lenV_str, fldV, fldAV, subCells, idxAV_own, idxVV, idxAAV, idxSV, loadV_ptr, loadV_rp_agg, loadV_rp_int, sliceV, sliceSV, boundV, szIs, storeOp, storeS, setRowV, eff, extV, buildV, splice, eqSV, fitsL, eqCells, eqCell, minmaxV, binBV, nilCheckV, bytesV, V.cells, V.stays, upd_same, upd_upd, true_implies, false_implies, implies_true, keepS_eq, List.getD_cons_zero, List.getD_cons_succ, List.getD_nil, List.map_cons, List.map_nil, List.length_cons, List.length_nil, List.drop_succ_cons, List.drop_zero, List.take_succ_cons, List.take_zero, List.set_cons_zero, List.set_cons_succ, List.append_nil, List.nil_append, List.cons_append, List.all_cons, List.all_nil, List.getElem?_cons_zero, List.getElem?_cons_succ, List.contains_cons, List.contains_nil, Option.isSome_some, Option.map_some, Option.map_none, true_and, and_true, and_self, Int.reduceEq, Int.reduceNe, Int.reduceLT, Int.reduceLE, Int.reduceGT, Int.reduceGE, Nat.reduceEqDiff, Nat.reduceAdd, Nat.reduceMul, Nat.reduceLeDiff, Nat.reduceSub, Nat.reduceLT, Nat.reduceBEq, Nat.zero_add, Nat.add_zero, ↓reduceIte, reduceCtorEq, ← decide_not, Bool.not_true, Bool.not_false, Bool.false_eq_true, Bool.or_true, Bool.true_or, Bool.or_false, Bool.false_or, Bool.true_and, Bool.and_true, Bool.and_self, decide_true, decide_false, decide_eq_true_eq, O7_34, upd_ne n64, upd_ne n64.symm, h4s, hk2, h0, h2, h4, h5, cR_b, Nd.cells, Sm.cells, lenV_encI]
            refine ⟨inR_i64 (by omega) (by omega), ?_⟩
            refine Runs.loop (fun mm st => ∃ k : Nat, k ≤ x.words.length ∧ mm = x.words.length - k ∧ SubStore σ st.σ ∧ st.σ idR = some ⟨31, 4, [.agg Sm.zero.cells]⟩ ∧
              st.σ id4 = some ⟨31, 4, [.agg (Sm.cells ⟨sm.depth, sm.pieces + x.words.length, sm.nodes, addN sm.heights x.line k⟩)]⟩ ∧ st.σ id6 = some ⟨28, 20, [.agg x.cells]⟩ ∧
              st.s 0 = encNs l ∧ st.s 2 = .ptr idR 0 0 ∧ st.s 4 = .ptr id4 0 0 ∧ st.s 5 = vI i ∧ st.s 6 = .ptr id6 0 0 ∧ st.s 9 = vI k) x.words.length ?_ ?_
            · refine ⟨0, by omega, by omega, (hsub.upd hid6).updK hid4', ?_, ?_, ?_, h0, h2, h4, h5, rfl, rfl⟩
              · simp only [upd_ne hne.symm, upd_ne n6R.symm, hR]
              · simp only [upd_same]; rfl
              · simp only [upd_ne n64, upd_same, Nd.cells, hk2]
            · rintro mm ⟨s, σ''⟩ ⟨k, hki, rfl, hs'', hR'', h4'', h6'', h0, h2, h4, h5, h6, h9⟩
              simp only at hs'' hR'' h4'' h6'' h0 h2 h4 h5 h6 h9
              have ha := addN_in f3 p2 k
              have c1 := fun σ => O7_34 _ _ σ ha ⟨p2, by have := p3; simp only [mx] at this; omega⟩
              refine Runs.mix 10 ?_
              (refine Runs.of_step O7 300 ?_; simp -implicitDefEqProofs only [s_r_nil, Ret_one, Ret_two, Ret_three, Ret_none, Ret_cell_one, Ret_cell_two, onSome_some, s_r_stop, s_r_inBlock, s_r_ops_nil, s_r_skip, s_r_seq, s_r_block, s_r_exit, exR_some, s_r_ret, s_r_loop, s_r_reg, s_r_dreg, s_d_nil, s_r_cond, cR_t, cR_f, cR_dec, s_r_ins, insR_0, insR_1, insR_2, insR_3, insR_4, callR_some, callR_none, callV_eq, callD_some, callD_none, contR_some, storeR_some, effR_some, s_d_ins, insD_0, insD_1, insD_2, insD_3, contD_some, storeD_some, effD_some, s_r_gins, gR_tup, gR_tt, gR_ff, gR_tf, gR_ft, gR_dec_t, gR_dec_f, s_d_gins, gD_tup, gD_tt, gD_ff, gD_tf, gD_ft, gD_dec_t, gD_dec_f, putO_nothing, putO_lo, putO_hi, mix_get, putO_some, putO_none, lit_t, lit_c, ev_t, ev_c, okind, vpre, vpure, binV_int, binV_str, binPre_int, binPre_str, intBin, intPre, strBin, strPre, popTo, argSlots, lenV_own, lenV_sl, lenV_nils, lenV_str, fldV, fldAV, subCells, idxAV_own, idxVV, idxAAV, idxSV, loadV_ptr, loadV_rp_agg, loadV_rp_int, sliceV, sliceSV, boundV, szIs, storeOp, storeS, setRowV, eff, extV, buildV, splice, eqSV, fitsL, eqCells, eqCell, minmaxV, binBV, nilCheckV, bytesV, V.cells, V.stays, upd_same, upd_upd, true_implies, false_implies, implies_true, keepS_eq, List.getD_cons_zero, List.getD_cons_succ, List.getD_nil, List.map_cons, List.map_nil, List.length_cons, List.length_nil, List.drop_succ_cons, List.drop_zero, List.take_succ_cons, List.take_zero, List.set_cons_zero, List.set_cons_succ, List.append_nil, List.nil_append, List.cons_append, List.all_cons, List.all_nil, List.getElem?_cons_zero, List.getElem?_cons_succ, List.contains_cons, List.contains_nil, Option.isSome_some, Option.map_some, Option.map_none, true_and, and_true, and_self, Int.reduceEq, Int.reduceNe, Int.reduceLT, Int.reduceLE, Int.reduceGT, Int.reduceGE, Nat.reduceEqDiff, Nat.reduceAdd, Nat.reduceMul, Nat.reduceLeDiff, Nat.reduceSub, Nat.reduceLT, Nat.reduceBEq, Nat.zero_add, Nat.add_zero, ↓reduceIte, reduceCtorEq, ← decide_not, Bool.not_true, Bool.not_false, Bool.false_eq_true, Bool.or_true, Bool.true_or, Bool.or_false, Bool.false_or, Bool.true_and, Bool.and_true, Bool.and_self, decide_true, decide_false, decide_eq_true_eq, c1, hk2, h4'', h6'', h0, h2, h4, h5, h6, h9, cR_b, lenV_encNs, lenV_encI, Nd.cells, Sm.cells])
              refine And.intro (fun hlt2 => ?_) (fun hge2 => ?_)
              · refine ⟨inR_i64 (by omega) (by omega), _, ?_, k + 1, by omega, rfl, hs''.updK hid4', ?_, rfl, ?_, ?_⟩
                · omega
                · rw [upd_ne hne.symm, hR'']; rfl
                · rw [upd_ne n64, h6'']; simp [Nd.cells, hk2]
                · simp
              · have hke : k = x.words.length := by simp at hge2; omega
                subst hke
                refine ⟨inR_i64 (by omega) (by omega), _, ?_, i + 1, by omega, rfl, hs'', ?_, ?_, ?_, ?_⟩
                · omega
                · rw [hR'']; rfl
                · rw [hstep]; simp [oneR, hk1, hk2]
                · simp
                · rw [hstep]; simpa using hfx
          · have hk2' : x.kind ≠ 2 := by simpa using hk2
            have hk3 : x.kind > 2 := by omega
            have c1 := fun σ => O7_34 _ _ σ f3 ⟨p4, by have := p5; simp only [mx] at this; omega⟩
            simp -implicitDefEqProofs only [s_r_nil, Ret_one, Ret_two, Ret_three, Ret_none, Ret_cell_one, Ret_cell_two, onSome_some, s_r_stop, s_r_inBlock, s_r_ops_nil, s_r_skip, s_r_seq, s_r_block, s_r_exit, exR_some, s_r_ret, s_r_loop, s_r_reg, s_r_dreg, s_d_nil, s_r_cond, cR_t, cR_f, cR_dec, s_r_ins, insR_0, insR_1, insR_2, insR_3, insR_4, callR_some, callR_none, callV_eq, callD_some, callD_none, contR_some, storeR_some, effR_some, s_d_ins, insD_0, insD_1, insD_2, insD_3, contD_some, storeD_some, effD_some, s_r_gins, gR_tup, gR_tt, gR_ff, gR_tf, gR_ft, gR_dec_t, gR_dec_f, s_d_gins, gD_tup, gD_tt, gD_ff, gD_tf, gD_ft, gD_dec_t, gD_dec_f, putO_nothing, putO_lo, putO_hi, mix_get, putO_some, putO_none, lit_t, lit_c, ev_t, ev_c, okind, vpre, vpure, binV_int, binV_str, binPre_int, binPre_str, intBin, intPre, strBin, strPre, popTo, argSlots, lenV_own, lenV_sl, lenV_nils, lenV_str, fldV, fldAV, subCells, idxAV_own, idxVV, idxAAV, idxSV, loadV_ptr, loadV_rp_agg, loadV_rp_int, sliceV, sliceSV, boundV, szIs, storeOp, storeS, setRowV, eff, extV, buildV, splice, eqSV, fitsL, eqCells, eqCell, minmaxV, binBV, nilCheckV, bytesV, V.cells, V.stays, upd_same, upd_upd, true_implies, false_implies, implies_true, keepS_eq, List.getD_cons_zero, List.getD_cons_succ, List.getD_nil, List.map_cons, List.map_nil, List.length_cons, List.length_nil, List.drop_succ_cons, List.drop_zero, List.take_succ_cons, List.take_zero, List.set_cons_zero, List.set_cons_succ, List.append_nil, List.nil_append, List.cons_append, List.all_cons, List.all_nil, List.getElem?_cons_zero, List.getElem?_cons_succ, List.contains_cons, List.contains_nil, Option.isSome_some, Option.map_some, Option.map_none, true_and, and_true, and_self, Int.reduceEq, Int.reduceNe, Int.reduceLT, Int.reduceLE, Int.reduceGT, Int.reduceGE, Nat.reduceEqDiff, Nat.reduceAdd, Nat.reduceMul, Nat.reduceLeDiff, Nat.reduceSub, Nat.reduceLT, Nat.reduceBEq, Nat.zero_add, Nat.add_zero, ↓reduceIte, reduceCtorEq, ← decide_not, Bool.not_true, Bool.not_false, Bool.false_eq_true, Bool.or_true, Bool.true_or, Bool.or_false, Bool.false_or, Bool.true_and, Bool.and_true, Bool.and_self, decide_true, decide_false, decide_eq_true_eq, c1, upd_ne n64, upd_ne n64.symm, h4s, h0, h2, h4, h5, cR_b, Nd.cells, Sm.cells, lenV_encI]
            refine And.intro (fun _ => ?_) (fun hn => ?_)
            · refine ⟨inR_i64 (by omega) (by omega), inR_i64 (by omega) (by omega), _, ?_, i + 1, by omega, rfl, (hsub.upd hid6).updK hid4', ?_, ?_, ?_, ?_⟩
              · omega
              · rw [upd_ne hne.symm, upd_ne n6R.symm, hR]; rfl
              · rw [hstep]; simp [oneR, hk1, hk2']
              · simp
              · rw [hstep]; simpa using hfx
            · simp at hn; omega
      · have hie : i = l.length := by simp at hge; omega
        refine RetV.pure (hsub.updK hidR) ?_
        subst hie
        simp [countR, hf, hsm, Sm.cells]
end Go.Vc
/- Contracts: a span's has; a style's numbers, as the code holds them. -/
namespace Go.Vc
open Go.Proofs

theorem firstI_any (p : Int → Bool) : ∀ l, decide (firstI p l ≥ 0) = l.any p
  | [] => by simp [firstI]
  | x :: l => by
    have ih := firstI_any p l
    simp only [firstI, List.any_cons]
    have hg := firstI_ge p l
    rw [← ih, Bool.eq_iff_iff]
    simp only [decide_eq_true_eq, Bool.or_eq_true]
    split
    · rename_i h; simp [h]
    · rename_i h
      simp only [h, Bool.false_eq_true, false_or]

      by_cases hx : firstI p l < 0
      · rw [if_pos hx]; constructor <;> intro hh <;> simp at hh ⊢ <;> omega
      · rw [if_neg hx]; constructor <;> intro hh <;> simp at hh ⊢ <;> omega

theorem containsFunc_c {σ : Store} {sv : V} {l : List Int} {f : FuncId} {caps : List V} {p : Int → Bool} (hr : Reads σ 1 false sv (l.map vI)) (hl : l.length ≤ 200000000000000)
    (hf : ∀ n ∈ l, Contract Try.prog f (vI n :: caps) σ fun r σ' => r = .bool (p n) ∧ σ' = σ) :
    Contract Try.prog 89 [sv, .fn f caps] σ fun r σ' => r = .bool (l.any p) ∧ σ' = σ := by
  refine Contract.of_runs Try.func89 e89 k89 (by simp [c89]) ?_
  (refine Runs.of_step Orc.nothing 300 ?_; simp -implicitDefEqProofs only [s_r_nil, Ret_one, Ret_two, Ret_three, Ret_none, Ret_cell_one, Ret_cell_two, onSome_some, s_r_stop, s_r_inBlock, s_r_ops_nil, s_r_skip, s_r_seq, s_r_block, s_r_exit, exR_some, s_r_ret, s_r_loop, s_r_reg, s_r_dreg, s_d_nil, s_r_cond, cR_t, cR_f, cR_dec, s_r_ins, insR_0, insR_1, insR_2, insR_3, insR_4, callR_some, callR_none, callV_eq, callD_some, callD_none, contR_some, storeR_some, effR_some, s_d_ins, insD_0, insD_1, insD_2, insD_3, contD_some, storeD_some, effD_some, s_r_gins, gR_tup, gR_tt, gR_ff, gR_tf, gR_ft, gR_dec_t, gR_dec_f, s_d_gins, gD_tup, gD_tt, gD_ff, gD_tf, gD_ft, gD_dec_t, gD_dec_f, putO_nothing, putO_lo, putO_hi, mix_get, putO_some, putO_none, lit_t, lit_c, ev_t, ev_c, okind, vpre, vpure, binV_int, binV_str, binPre_int, binPre_str, intBin, intPre, strBin, strPre, popTo, argSlots, lenV_own, lenV_sl, lenV_nils, lenV_str, fldV, fldAV, subCells, idxAV_own, idxVV, idxAAV, idxSV, loadV_ptr, loadV_rp_agg, loadV_rp_int, sliceV, sliceSV, boundV, szIs, storeOp, storeS, setRowV, eff, extV, buildV, splice, eqSV, fitsL, eqCells, eqCell, minmaxV, binBV, nilCheckV, bytesV, V.cells, V.stays, upd_same, upd_upd, true_implies, false_implies, implies_true, keepS_eq, List.getD_cons_zero, List.getD_cons_succ, List.getD_nil, List.map_cons, List.map_nil, List.length_cons, List.length_nil, List.drop_succ_cons, List.drop_zero, List.take_succ_cons, List.take_zero, List.set_cons_zero, List.set_cons_succ, List.append_nil, List.nil_append, List.cons_append, List.all_cons, List.all_nil, List.getElem?_cons_zero, List.getElem?_cons_succ, List.contains_cons, List.contains_nil, Option.isSome_some, Option.map_some, Option.map_none, true_and, and_true, and_self, Int.reduceEq, Int.reduceNe, Int.reduceLT, Int.reduceLE, Int.reduceGT, Int.reduceGE, Nat.reduceEqDiff, Nat.reduceAdd, Nat.reduceMul, Nat.reduceLeDiff, Nat.reduceSub, Nat.reduceLT, Nat.reduceBEq, Nat.zero_add, Nat.add_zero, ↓reduceIte, reduceCtorEq, ← decide_not, Bool.not_true, Bool.not_false, Bool.false_eq_true, Bool.or_true, Bool.true_or, Bool.or_false, Bool.false_or, Bool.true_and, Bool.and_true, Bool.and_self, decide_true, decide_false, decide_eq_true_eq, Orc.nothing, c89])
  refine Runs.pcall rfl rfl rfl (indexFunc_c hr hl hf) ?_
  (refine Runs.of_step Orc.nothing 300 ?_; simp -implicitDefEqProofs only [s_r_nil, Ret_one, Ret_two, Ret_three, Ret_none, Ret_cell_one, Ret_cell_two, onSome_some, s_r_stop, s_r_inBlock, s_r_ops_nil, s_r_skip, s_r_seq, s_r_block, s_r_exit, exR_some, s_r_ret, s_r_loop, s_r_reg, s_r_dreg, s_d_nil, s_r_cond, cR_t, cR_f, cR_dec, s_r_ins, insR_0, insR_1, insR_2, insR_3, insR_4, callR_some, callR_none, callV_eq, callD_some, callD_none, contR_some, storeR_some, effR_some, s_d_ins, insD_0, insD_1, insD_2, insD_3, contD_some, storeD_some, effD_some, s_r_gins, gR_tup, gR_tt, gR_ff, gR_tf, gR_ft, gR_dec_t, gR_dec_f, s_d_gins, gD_tup, gD_tt, gD_ff, gD_tf, gD_ft, gD_dec_t, gD_dec_f, putO_nothing, putO_lo, putO_hi, mix_get, putO_some, putO_none, lit_t, lit_c, ev_t, ev_c, okind, vpre, vpure, binV_int, binV_str, binPre_int, binPre_str, intBin, intPre, strBin, strPre, popTo, argSlots, lenV_own, lenV_sl, lenV_nils, lenV_str, fldV, fldAV, subCells, idxAV_own, idxVV, idxAAV, idxSV, loadV_ptr, loadV_rp_agg, loadV_rp_int, sliceV, sliceSV, boundV, szIs, storeOp, storeS, setRowV, eff, extV, buildV, splice, eqSV, fitsL, eqCells, eqCell, minmaxV, binBV, nilCheckV, bytesV, V.cells, V.stays, upd_same, upd_upd, true_implies, false_implies, implies_true, keepS_eq, List.getD_cons_zero, List.getD_cons_succ, List.getD_nil, List.map_cons, List.map_nil, List.length_cons, List.length_nil, List.drop_succ_cons, List.drop_zero, List.take_succ_cons, List.take_zero, List.set_cons_zero, List.set_cons_succ, List.append_nil, List.nil_append, List.cons_append, List.all_cons, List.all_nil, List.getElem?_cons_zero, List.getElem?_cons_succ, List.contains_cons, List.contains_nil, Option.isSome_some, Option.map_some, Option.map_none, true_and, and_true, and_self, Int.reduceEq, Int.reduceNe, Int.reduceLT, Int.reduceLE, Int.reduceGT, Int.reduceGE, Nat.reduceEqDiff, Nat.reduceAdd, Nat.reduceMul, Nat.reduceLeDiff, Nat.reduceSub, Nat.reduceLT, Nat.reduceBEq, Nat.zero_add, Nat.add_zero, ↓reduceIte, reduceCtorEq, ← decide_not, Bool.not_true, Bool.not_false, Bool.false_eq_true, Bool.or_true, Bool.true_or, Bool.or_false, Bool.false_or, Bool.true_and, Bool.and_true, Bool.and_self, decide_true, decide_false, decide_eq_true_eq, Orc.nothing])
  refine RetV.same ?_
  rw [← firstI_any]

theorem has1_c {σ : Store} {id : Nat} {a b : Int} (h : σ id = some ⟨103, 2, [.agg [vI a, vI b]]⟩) (n : Int) :
    Contract Try.prog 90 [vI n, .ptr id 0 0] σ fun r σ' => r = .bool (!isFrom n a b) ∧ σ' = σ := by
  refine Contract.of_runs Try.func90 e90 k90 (by simp [c90]) ?_
  (refine Runs.of_step Orc.nothing 300 ?_; simp -implicitDefEqProofs only [s_r_nil, Ret_one, Ret_two, Ret_three, Ret_none, Ret_cell_one, Ret_cell_two, onSome_some, s_r_stop, s_r_inBlock, s_r_ops_nil, s_r_skip, s_r_seq, s_r_block, s_r_exit, exR_some, s_r_ret, s_r_loop, s_r_reg, s_r_dreg, s_d_nil, s_r_cond, cR_t, cR_f, cR_dec, s_r_ins, insR_0, insR_1, insR_2, insR_3, insR_4, callR_some, callR_none, callV_eq, callD_some, callD_none, contR_some, storeR_some, effR_some, s_d_ins, insD_0, insD_1, insD_2, insD_3, contD_some, storeD_some, effD_some, s_r_gins, gR_tup, gR_tt, gR_ff, gR_tf, gR_ft, gR_dec_t, gR_dec_f, s_d_gins, gD_tup, gD_tt, gD_ff, gD_tf, gD_ft, gD_dec_t, gD_dec_f, putO_nothing, putO_lo, putO_hi, mix_get, putO_some, putO_none, lit_t, lit_c, ev_t, ev_c, okind, vpre, vpure, binV_int, binV_str, binPre_int, binPre_str, intBin, intPre, strBin, strPre, popTo, argSlots, lenV_own, lenV_sl, lenV_nils, lenV_str, fldV, fldAV, subCells, idxAV_own, idxVV, idxAAV, idxSV, loadV_ptr, loadV_rp_agg, loadV_rp_int, sliceV, sliceSV, boundV, szIs, storeOp, storeS, setRowV, eff, extV, buildV, splice, eqSV, fitsL, eqCells, eqCell, minmaxV, binBV, nilCheckV, bytesV, V.cells, V.stays, upd_same, upd_upd, true_implies, false_implies, implies_true, keepS_eq, List.getD_cons_zero, List.getD_cons_succ, List.getD_nil, List.map_cons, List.map_nil, List.length_cons, List.length_nil, List.drop_succ_cons, List.drop_zero, List.take_succ_cons, List.take_zero, List.set_cons_zero, List.set_cons_succ, List.append_nil, List.nil_append, List.cons_append, List.all_cons, List.all_nil, List.getElem?_cons_zero, List.getElem?_cons_succ, List.contains_cons, List.contains_nil, Option.isSome_some, Option.map_some, Option.map_none, true_and, and_true, and_self, Int.reduceEq, Int.reduceNe, Int.reduceLT, Int.reduceLE, Int.reduceGT, Int.reduceGE, Nat.reduceEqDiff, Nat.reduceAdd, Nat.reduceMul, Nat.reduceLeDiff, Nat.reduceSub, Nat.reduceLT, Nat.reduceBEq, Nat.zero_add, Nat.add_zero, ↓reduceIte, reduceCtorEq, ← decide_not, Bool.not_true, Bool.not_false, Bool.false_eq_true, Bool.or_true, Bool.true_or, Bool.or_false, Bool.false_or, Bool.true_and, Bool.and_true, Bool.and_self, decide_true, decide_false, decide_eq_true_eq, Orc.nothing, c90, h])
  refine And.intro (fun h => ?_) (fun h => ?_)
  · refine RetV.same ?_
    congr 1
    simp only [isFrom]
    rw [← decide_not, decide_eq_decide]
    omega
  · refine RetV.same ?_
    have : ¬ (n ≥ a ∧ n ≤ b) := by omega
    simp only [isFrom, this, decide_false, Bool.not_false]

theorem Reads.mono {σ σ' : Store} {sz : Nat} {agg : Bool} {sv : V} {rows : List V} (h : SubStore σ σ') (hr : Reads σ sz agg sv rows) : Reads σ' sz agg sv rows := by
  refine ⟨hr.1, fun i v hv => ?_⟩
  obtain ⟨p, h1, h2⟩ := hr.2 i v hv
  refine ⟨p, ?_, ?_⟩
  · cases sv <;> simp only [idxAV, reduceCtorEq] at h1 ⊢
    · exact h1
    · rename_i id off len
      cases ho : σ id with
      | none => rw [ho] at h1; cases h1
      | some ob => rw [ho] at h1; rw [h id ob ho]; exact h1
  · cases p <;> simp only [loadV, reduceCtorEq] at h2 ⊢
    · rename_i id i k
      cases ho : σ id with
      | none => rw [ho] at h2; cases h2
      | some ob => rw [ho] at h2; rw [h id ob ho]; exact h2
    · exact h2

theorem has_c {σ : Store} {sv : V} {l : List Int} {a b : Int} (hr : Reads σ 1 false sv (l.map vI)) (hl : l.length ≤ 200000000000000) :
    Contract Try.prog 65 [.agg [vI a, vI b], sv] σ fun r σ' => r = .bool (l.all fun n => isFrom n a b) ∧ σ' = σ := by
  refine Contract.of_runs Try.func65 e65 k65 (by simp [c65]) ?_
  (refine Runs.of_step Orc.nothing 300 ?_; simp -implicitDefEqProofs only [s_r_nil, Ret_one, Ret_two, Ret_three, Ret_none, Ret_cell_one, Ret_cell_two, onSome_some, s_r_stop, s_r_inBlock, s_r_ops_nil, s_r_skip, s_r_seq, s_r_block, s_r_exit, exR_some, s_r_ret, s_r_loop, s_r_reg, s_r_dreg, s_d_nil, s_r_cond, cR_t, cR_f, cR_dec, s_r_ins, insR_0, insR_1, insR_2, insR_3, insR_4, callR_some, callR_none, callV_eq, callD_some, callD_none, contR_some, storeR_some, effR_some, s_d_ins, insD_0, insD_1, insD_2, insD_3, contD_some, storeD_some, effD_some, s_r_gins, gR_tup, gR_tt, gR_ff, gR_tf, gR_ft, gR_dec_t, gR_dec_f, s_d_gins, gD_tup, gD_tt, gD_ff, gD_tf, gD_ft, gD_dec_t, gD_dec_f, putO_nothing, putO_lo, putO_hi, mix_get, putO_some, putO_none, lit_t, lit_c, ev_t, ev_c, okind, vpre, vpure, binV_int, binV_str, binPre_int, binPre_str, intBin, intPre, strBin, strPre, popTo, argSlots, lenV_own, lenV_sl, lenV_nils, lenV_str, fldV, fldAV, subCells, idxAV_own, idxVV, idxAAV, idxSV, loadV_ptr, loadV_rp_agg, loadV_rp_int, sliceV, sliceSV, boundV, szIs, storeOp, storeS, setRowV, eff, extV, buildV, splice, eqSV, fitsL, eqCells, eqCell, minmaxV, binBV, nilCheckV, bytesV, V.cells, V.stays, upd_same, upd_upd, true_implies, false_implies, implies_true, keepS_eq, List.getD_cons_zero, List.getD_cons_succ, List.getD_nil, List.map_cons, List.map_nil, List.length_cons, List.length_nil, List.drop_succ_cons, List.drop_zero, List.take_succ_cons, List.take_zero, List.set_cons_zero, List.set_cons_succ, List.append_nil, List.nil_append, List.cons_append, List.all_cons, List.all_nil, List.getElem?_cons_zero, List.getElem?_cons_succ, List.contains_cons, List.contains_nil, Option.isSome_some, Option.map_some, Option.map_none, true_and, and_true, and_self, Int.reduceEq, Int.reduceNe, Int.reduceLT, Int.reduceLE, Int.reduceGT, Int.reduceGE, Nat.reduceEqDiff, Nat.reduceAdd, Nat.reduceMul, Nat.reduceLeDiff, Nat.reduceSub, Nat.reduceLT, Nat.reduceBEq, Nat.zero_add, Nat.add_zero, ↓reduceIte, reduceCtorEq, ← decide_not, Bool.not_true, Bool.not_false, Bool.false_eq_true, Bool.or_true, Bool.true_or, Bool.or_false, Bool.false_or, Bool.true_and, Bool.and_true, Bool.and_self, decide_true, decide_false, decide_eq_true_eq, Orc.nothing, c65])
  intro id hid
  refine Runs.pcall rfl rfl rfl (containsFunc_c (p := fun n => !isFrom n a b) (hr.mono ((SubStore.refl σ).upd hid)) hl (fun n _ => has1_c upd_same n)) ?_
  (refine Runs.of_step Orc.nothing 300 ?_; simp -implicitDefEqProofs only [s_r_nil, Ret_one, Ret_two, Ret_three, Ret_none, Ret_cell_one, Ret_cell_two, onSome_some, s_r_stop, s_r_inBlock, s_r_ops_nil, s_r_skip, s_r_seq, s_r_block, s_r_exit, exR_some, s_r_ret, s_r_loop, s_r_reg, s_r_dreg, s_d_nil, s_r_cond, cR_t, cR_f, cR_dec, s_r_ins, insR_0, insR_1, insR_2, insR_3, insR_4, callR_some, callR_none, callV_eq, callD_some, callD_none, contR_some, storeR_some, effR_some, s_d_ins, insD_0, insD_1, insD_2, insD_3, contD_some, storeD_some, effD_some, s_r_gins, gR_tup, gR_tt, gR_ff, gR_tf, gR_ft, gR_dec_t, gR_dec_f, s_d_gins, gD_tup, gD_tt, gD_ff, gD_tf, gD_ft, gD_dec_t, gD_dec_f, putO_nothing, putO_lo, putO_hi, mix_get, putO_some, putO_none, lit_t, lit_c, ev_t, ev_c, okind, vpre, vpure, binV_int, binV_str, binPre_int, binPre_str, intBin, intPre, strBin, strPre, popTo, argSlots, lenV_own, lenV_sl, lenV_nils, lenV_str, fldV, fldAV, subCells, idxAV_own, idxVV, idxAAV, idxSV, loadV_ptr, loadV_rp_agg, loadV_rp_int, sliceV, sliceSV, boundV, szIs, storeOp, storeS, setRowV, eff, extV, buildV, splice, eqSV, fitsL, eqCells, eqCell, minmaxV, binBV, nilCheckV, bytesV, V.cells, V.stays, upd_same, upd_upd, true_implies, false_implies, implies_true, keepS_eq, List.getD_cons_zero, List.getD_cons_succ, List.getD_nil, List.map_cons, List.map_nil, List.length_cons, List.length_nil, List.drop_succ_cons, List.drop_zero, List.take_succ_cons, List.take_zero, List.set_cons_zero, List.set_cons_succ, List.append_nil, List.nil_append, List.cons_append, List.all_cons, List.all_nil, List.getElem?_cons_zero, List.getElem?_cons_succ, List.contains_cons, List.contains_nil, Option.isSome_some, Option.map_some, Option.map_none, true_and, and_true, and_self, Int.reduceEq, Int.reduceNe, Int.reduceLT, Int.reduceLE, Int.reduceGT, Int.reduceGE, Nat.reduceEqDiff, Nat.reduceAdd, Nat.reduceMul, Nat.reduceLeDiff, Nat.reduceSub, Nat.reduceLT, Nat.reduceBEq, Nat.zero_add, Nat.add_zero, ↓reduceIte, reduceCtorEq, ← decide_not, Bool.not_true, Bool.not_false, Bool.false_eq_true, Bool.or_true, Bool.true_or, Bool.or_false, Bool.false_or, Bool.true_and, Bool.and_true, Bool.and_self, decide_true, decide_false, decide_eq_true_eq, Orc.nothing])
  refine RetV.pure ((SubStore.refl σ).upd hid) ?_
  rw [List.all_eq_not_any_not]
end Go.Vc
/- Contracts: a style's numbers, a node's numbers, as the code holds them. -/
namespace Go.Vc
open Go.Proofs

def intsOf : List V → Option (List Int)
  | [] => some []
  | .int .i64 n :: l => (intsOf l).map (n :: ·)
  | _ => none
theorem intsOf_eq : ∀ {l : List V} {m : List Int}, intsOf l = some m → l = m.map vI
  | [], m, h => by simp [intsOf] at h; subst h; rfl
  | v :: l, m, h => by
    cases v <;> try (simp [intsOf] at h)
    rename_i k n
    cases k <;> try (simp [intsOf] at h)
    obtain ⟨m', h1, rfl⟩ := h
    rw [intsOf_eq h1]; rfl
theorem intsOf_map (m : List Int) : intsOf (m.map vI) = some m := by
  induction m with
  | nil => rfl
  | cons n m ih => simp [intsOf, ih]

def readInts (σ : Store) : V → Option (List Int)
  | .own id off len => match σ id with
      | some ob => if ob.sz = 1 ∧ off + len ≤ ob.rows.length ∧ len ≤ 200000000000000 then (if (intsOf ob.rows).isSome then intsOf ((ob.rows.drop off).take len) else none) else none
      | none => none
  | .sl 1 rows => if rows.length ≤ 200000000000000 then intsOf rows else none
  | _ => none
theorem readInts_reads {σ : Store} {sv : V} {l : List Int} (h : readInts σ sv = some l) : Reads σ 1 false sv (l.map vI) ∧ l.length ≤ 200000000000000 := by
  unfold readInts at h
  split at h
  · rename_i id off len
    split at h
    · rename_i ob hob
      split at h
      · rename_i hc
        split at h
        · rename_i hi
          have he := intsOf_eq h
          obtain ⟨m, hm⟩ := Option.isSome_iff_exists.1 hi
          have hm := intsOf_eq hm
          have hr := Reads.own (σ := σ) hob hc.1 hc.2.1 (fun r hr => by rw [hm] at hr; simp only [List.mem_map] at hr; obtain ⟨n, _, rfl⟩ := hr; rfl)
          rw [he] at hr
          have hl : l.length = len := by
            have := congrArg List.length he
            simp at this
            omega
          exact ⟨hr, by omega⟩
        · cases h
      · cases h
    · cases h
  · rename_i rows
    split at h
    · rename_i hc
      have he := intsOf_eq h
      subst he
      exact ⟨Reads.ints, by simpa using hc⟩
    · cases h
  · cases h
theorem readInts_encI (σ : Store) {l : List Int} (h : l.length ≤ 200000000000000) : readInts σ (encI l) = some l := by
  simp only [encI, readInts, List.length_map, if_pos h]
  exact intsOf_map l

def o10 (f : FuncId) (args : List V) (σ : Store) : Option V := if f = 65 then (match args with
  | [.agg [.int .i64 a, .int .i64 b], sv] => (readInts σ sv).map fun l => .bool (l.all fun n => isFrom n a b)
  | _ => none) else none
def O10 : Orc Try.prog where
  get := o10
  ok f args σ v h := by
    unfold o10 at h
    split at h
    · rename_i hf
      subst hf
      split at h
      · simp only [Option.map_eq_some_iff] at h
        obtain ⟨l, h1, rfl⟩ := h
        obtain ⟨g1, g2⟩ := readInts_reads h1
        exact has_c g1 g2
      · cases h
    · cases h
theorem O10_65 (a b : Int) (sv : V) (σ : Store) : O10.get 65 [.agg [.int .i64 a, .int .i64 b], sv] σ = (readInts σ sv).map fun l => .bool (l.all fun n => isFrom n a b) := rfl
theorem readInts_own (σ : Store) (id off len : Nat) : readInts σ (.own id off len) = match σ id with
      | some ob => if ob.sz = 1 ∧ off + len ≤ ob.rows.length ∧ len ≤ 200000000000000 then (if (intsOf ob.rows).isSome then intsOf ((ob.rows.drop off).take len) else none) else none
      | none => none := rfl
theorem intsOf_int (n : Int) (l : List V) : intsOf (.int .i64 n :: l) = (intsOf l).map (n :: ·) := rfl
theorem intsOf_nil : intsOf [] = some [] := rfl

set_option maxRecDepth 100000 in
theorem styled_c (s : Sty) : PFun Try.prog 64 [.agg s.cells] (.bool s.ok) := fun σ => by
  refine Contract.of_runs Try.func64 e64 k64 (by simp [c64]) ?_
  refine Runs.mix 6 ?_
  (refine Runs.of_step O10 300 ?_; simp -implicitDefEqProofs only [s_r_nil, Ret_one, Ret_two, Ret_three, Ret_none, Ret_cell_one, Ret_cell_two, onSome_some, s_r_stop, s_r_inBlock, s_r_ops_nil, s_r_skip, s_r_seq, s_r_block, s_r_exit, exR_some, s_r_ret, s_r_loop, s_r_reg, s_r_dreg, s_d_nil, s_r_cond, cR_t, cR_f, cR_dec, s_r_ins, insR_0, insR_1, insR_2, insR_3, insR_4, callR_some, callR_none, callV_eq, callD_some, callD_none, contR_some, storeR_some, s_d_ins, insD_0, insD_1, insD_2, insD_3, contD_some, storeD_some, s_r_gins, gR_tup, gR_tt, gR_ff, gR_tf, gR_ft, gR_dec_t, gR_dec_f, s_d_gins, gD_tup, gD_tt, gD_ff, gD_tf, gD_ft, gD_dec_t, gD_dec_f, putO_nothing, putO_lo, putO_hi, mix_get, putO_some, putO_none, lit_t, lit_c, ev_t, ev_c, okind, vpre, vpure, binV_int, binV_str, binPre_int, binPre_str, intBin, intPre, strBin, strPre, popTo, argSlots, lenV_own, lenV_sl, lenV_nils, lenV_str, fldV, fldAV, subCells, idxAV_own, idxVV, idxAAV, idxSV, loadV_ptr, loadV_rp_agg, loadV_rp_int, sliceV, sliceSV, boundV, szIs, storeOp, storeS, setRowV, eff, extV, buildV, splice, eqSV, fitsL, eqCells, eqCell, minmaxV, binBV, nilCheckV, bytesV, V.cells, V.stays, upd_same, upd_upd, true_implies, false_implies, implies_true, keepS_eq, List.getD_cons_zero, List.getD_cons_succ, List.getD_nil, List.map_cons, List.map_nil, List.length_cons, List.length_nil, List.drop_succ_cons, List.drop_zero, List.take_succ_cons, List.take_zero, List.set_cons_zero, List.set_cons_succ, List.append_nil, List.nil_append, List.cons_append, List.all_cons, List.all_nil, List.getElem?_cons_zero, List.getElem?_cons_succ, List.contains_cons, List.contains_nil, Option.isSome_some, Option.map_some, Option.map_none, true_and, and_true, and_self, Int.reduceEq, Int.reduceNe, Int.reduceLT, Int.reduceLE, Int.reduceGT, Int.reduceGE, Nat.reduceEqDiff, Nat.reduceAdd, Nat.reduceMul, Nat.reduceLeDiff, Nat.reduceSub, Nat.reduceLT, Nat.reduceBEq, Nat.zero_add, Nat.add_zero, ↓reduceIte, reduceCtorEq, ← decide_not, Bool.not_true, Bool.not_false, Bool.false_eq_true, Bool.or_true, Bool.true_or, Bool.or_false, Bool.false_or, Bool.true_and, Bool.and_true, Bool.and_self, decide_true, decide_false, decide_eq_true_eq, c64, Sty.cells])
  refine effR_new fun id1 σ1 s1 a1 f1 => ?_
  simp -implicitDefEqProofs only [s_r_nil, Ret_one, Ret_two, Ret_three, Ret_none, Ret_cell_one, Ret_cell_two, onSome_some, s_r_stop, s_r_inBlock, s_r_ops_nil, s_r_skip, s_r_seq, s_r_block, s_r_exit, exR_some, s_r_ret, s_r_loop, s_r_reg, s_r_dreg, s_d_nil, s_r_cond, cR_t, cR_f, cR_dec, s_r_ins, insR_0, insR_1, insR_2, insR_3, insR_4, callR_some, callR_none, callV_eq, callD_some, callD_none, contR_some, storeR_some, s_d_ins, insD_0, insD_1, insD_2, insD_3, contD_some, storeD_some, s_r_gins, gR_tup, gR_tt, gR_ff, gR_tf, gR_ft, gR_dec_t, gR_dec_f, s_d_gins, gD_tup, gD_tt, gD_ff, gD_tf, gD_ft, gD_dec_t, gD_dec_f, putO_nothing, putO_lo, putO_hi, mix_get, putO_some, putO_none, lit_t, lit_c, ev_t, ev_c, okind, vpre, vpure, binV_int, binV_str, binPre_int, binPre_str, intBin, intPre, strBin, strPre, popTo, argSlots, lenV_own, lenV_sl, lenV_nils, lenV_str, fldV, fldAV, subCells, idxAV_own, idxVV, idxAAV, idxSV, loadV_ptr, loadV_rp_agg, loadV_rp_int, sliceV, sliceSV, boundV, szIs, storeOp, storeS, setRowV, eff, extV, buildV, splice, eqSV, fitsL, eqCells, eqCell, minmaxV, binBV, nilCheckV, bytesV, V.cells, V.stays, upd_same, upd_upd, true_implies, false_implies, implies_true, keepS_eq, List.getD_cons_zero, List.getD_cons_succ, List.getD_nil, List.map_cons, List.map_nil, List.length_cons, List.length_nil, List.drop_succ_cons, List.drop_zero, List.take_succ_cons, List.take_zero, List.set_cons_zero, List.set_cons_succ, List.append_nil, List.nil_append, List.cons_append, List.all_cons, List.all_nil, List.getElem?_cons_zero, List.getElem?_cons_succ, List.contains_cons, List.contains_nil, Option.isSome_some, Option.map_some, Option.map_none, true_and, and_true, and_self, Int.reduceEq, Int.reduceNe, Int.reduceLT, Int.reduceLE, Int.reduceGT, Int.reduceGE, Nat.reduceEqDiff, Nat.reduceAdd, Nat.reduceMul, Nat.reduceLeDiff, Nat.reduceSub, Nat.reduceLT, Nat.reduceBEq, Nat.zero_add, Nat.add_zero, ↓reduceIte, reduceCtorEq, ← decide_not, Bool.not_true, Bool.not_false, Bool.false_eq_true, Bool.or_true, Bool.true_or, Bool.or_false, Bool.false_or, Bool.true_and, Bool.and_true, Bool.and_self, decide_true, decide_false, decide_eq_true_eq]
  refine effR_new fun id3 σ2 s2 a3 f3 => ?_
  have n13 := ne_new a1 f3
  have a1 := s2 _ _ a1
  simp -implicitDefEqProofs only [s_r_nil, Ret_one, Ret_two, Ret_three, Ret_none, Ret_cell_one, Ret_cell_two, onSome_some, s_r_stop, s_r_inBlock, s_r_ops_nil, s_r_skip, s_r_seq, s_r_block, s_r_exit, exR_some, s_r_ret, s_r_loop, s_r_reg, s_r_dreg, s_d_nil, s_r_cond, cR_t, cR_f, cR_dec, s_r_ins, insR_0, insR_1, insR_2, insR_3, insR_4, callR_some, callR_none, callV_eq, callD_some, callD_none, contR_some, storeR_some, s_d_ins, insD_0, insD_1, insD_2, insD_3, contD_some, storeD_some, s_r_gins, gR_tup, gR_tt, gR_ff, gR_tf, gR_ft, gR_dec_t, gR_dec_f, s_d_gins, gD_tup, gD_tt, gD_ff, gD_tf, gD_ft, gD_dec_t, gD_dec_f, putO_nothing, putO_lo, putO_hi, mix_get, putO_some, putO_none, lit_t, lit_c, ev_t, ev_c, okind, vpre, vpure, binV_int, binV_str, binPre_int, binPre_str, intBin, intPre, strBin, strPre, popTo, argSlots, lenV_own, lenV_sl, lenV_nils, lenV_str, fldV, fldAV, subCells, idxAV_own, idxVV, idxAAV, idxSV, loadV_ptr, loadV_rp_agg, loadV_rp_int, sliceV, sliceSV, boundV, szIs, storeOp, storeS, setRowV, eff, extV, buildV, splice, eqSV, fitsL, eqCells, eqCell, minmaxV, binBV, nilCheckV, bytesV, V.cells, V.stays, upd_same, upd_upd, true_implies, false_implies, implies_true, keepS_eq, List.getD_cons_zero, List.getD_cons_succ, List.getD_nil, List.map_cons, List.map_nil, List.length_cons, List.length_nil, List.drop_succ_cons, List.drop_zero, List.take_succ_cons, List.take_zero, List.set_cons_zero, List.set_cons_succ, List.append_nil, List.nil_append, List.cons_append, List.all_cons, List.all_nil, List.getElem?_cons_zero, List.getElem?_cons_succ, List.contains_cons, List.contains_nil, Option.isSome_some, Option.map_some, Option.map_none, true_and, and_true, and_self, Int.reduceEq, Int.reduceNe, Int.reduceLT, Int.reduceLE, Int.reduceGT, Int.reduceGE, Nat.reduceEqDiff, Nat.reduceAdd, Nat.reduceMul, Nat.reduceLeDiff, Nat.reduceSub, Nat.reduceLT, Nat.reduceBEq, Nat.zero_add, Nat.add_zero, ↓reduceIte, reduceCtorEq, ← decide_not, Bool.not_true, Bool.not_false, Bool.false_eq_true, Bool.or_true, Bool.true_or, Bool.or_false, Bool.false_or, Bool.true_and, Bool.and_true, Bool.and_self, decide_true, decide_false, decide_eq_true_eq, a1]
  refine effR_new fun id4 σ3 s3 a4 f4 => ?_
  have n14 := ne_new a1 f4
  have n34 := ne_new a3 f4
  have a1 := s3 _ _ a1
  have a3 := s3 _ _ a3
  have hs : SubStore σ σ3 := (s1.trans s2).trans s3
  have g3 : σ id3 = none := s1.none f3
  have g4 : σ id4 = none := (s1.trans s2).none f4
  simp -implicitDefEqProofs only [s_r_nil, Ret_one, Ret_two, Ret_three, Ret_none, Ret_cell_one, Ret_cell_two, onSome_some, s_r_stop, s_r_inBlock, s_r_ops_nil, s_r_skip, s_r_seq, s_r_block, s_r_exit, exR_some, s_r_ret, s_r_loop, s_r_reg, s_r_dreg, s_d_nil, s_r_cond, cR_t, cR_f, cR_dec, s_r_ins, insR_0, insR_1, insR_2, insR_3, insR_4, callR_some, callR_none, callV_eq, callD_some, callD_none, contR_some, storeR_some, s_d_ins, insD_0, insD_1, insD_2, insD_3, contD_some, storeD_some, s_r_gins, gR_tup, gR_tt, gR_ff, gR_tf, gR_ft, gR_dec_t, gR_dec_f, s_d_gins, gD_tup, gD_tt, gD_ff, gD_tf, gD_ft, gD_dec_t, gD_dec_f, putO_nothing, putO_lo, putO_hi, mix_get, putO_some, putO_none, lit_t, lit_c, ev_t, ev_c, okind, vpre, vpure, binV_int, binV_str, binPre_int, binPre_str, intBin, intPre, strBin, strPre, popTo, argSlots, lenV_own, lenV_sl, lenV_nils, lenV_str, fldV, fldAV, subCells, idxAV_own, idxVV, idxAAV, idxSV, loadV_ptr, loadV_rp_agg, loadV_rp_int, sliceV, sliceSV, boundV, szIs, storeOp, storeS, setRowV, eff, extV, buildV, splice, eqSV, fitsL, eqCells, eqCell, minmaxV, binBV, nilCheckV, bytesV, V.cells, V.stays, upd_same, upd_upd, true_implies, false_implies, implies_true, keepS_eq, List.getD_cons_zero, List.getD_cons_succ, List.getD_nil, List.map_cons, List.map_nil, List.length_cons, List.length_nil, List.drop_succ_cons, List.drop_zero, List.take_succ_cons, List.take_zero, List.set_cons_zero, List.set_cons_succ, List.append_nil, List.nil_append, List.cons_append, List.all_cons, List.all_nil, List.getElem?_cons_zero, List.getElem?_cons_succ, List.contains_cons, List.contains_nil, Option.isSome_some, Option.map_some, Option.map_none, true_and, and_true, and_self, Int.reduceEq, Int.reduceNe, Int.reduceLT, Int.reduceLE, Int.reduceGT, Int.reduceGE, Nat.reduceEqDiff, Nat.reduceAdd, Nat.reduceMul, Nat.reduceLeDiff, Nat.reduceSub, Nat.reduceLT, Nat.reduceBEq, Nat.zero_add, Nat.add_zero, ↓reduceIte, reduceCtorEq, ← decide_not, Bool.not_true, Bool.not_false, Bool.false_eq_true, Bool.or_true, Bool.true_or, Bool.or_false, Bool.false_or, Bool.true_and, Bool.and_true, Bool.and_self, decide_true, decide_false, decide_eq_true_eq, a1, a3, a4, upd_ne n34, upd_ne n34.symm, upd_ne n13, upd_ne n14]
  have hs' := fun o o' => (hs.updK (o := o) g3).updK (o := o') g4
  refine effR_new fun id5 σ4 s4 a5 f5 => ?_
  have a1 := s4 id1 _ (by rw [upd_ne n14, upd_ne n13]; exact a1)
  have a4 := s4 id4 _ upd_same
  have hs := (hs' _ _).trans s4
  simp -implicitDefEqProofs only [s_r_nil, Ret_one, Ret_two, Ret_three, Ret_none, Ret_cell_one, Ret_cell_two, onSome_some, s_r_stop, s_r_inBlock, s_r_ops_nil, s_r_skip, s_r_seq, s_r_block, s_r_exit, exR_some, s_r_ret, s_r_loop, s_r_reg, s_r_dreg, s_d_nil, s_r_cond, cR_t, cR_f, cR_dec, s_r_ins, insR_0, insR_1, insR_2, insR_3, insR_4, callR_some, callR_none, callV_eq, callD_some, callD_none, contR_some, storeR_some, s_d_ins, insD_0, insD_1, insD_2, insD_3, contD_some, storeD_some, s_r_gins, gR_tup, gR_tt, gR_ff, gR_tf, gR_ft, gR_dec_t, gR_dec_f, s_d_gins, gD_tup, gD_tt, gD_ff, gD_tf, gD_ft, gD_dec_t, gD_dec_f, putO_nothing, putO_lo, putO_hi, mix_get, putO_some, putO_none, lit_t, lit_c, ev_t, ev_c, okind, vpre, vpure, binV_int, binV_str, binPre_int, binPre_str, intBin, intPre, strBin, strPre, popTo, argSlots, lenV_own, lenV_sl, lenV_nils, lenV_str, fldV, fldAV, subCells, idxAV_own, idxVV, idxAAV, idxSV, loadV_ptr, loadV_rp_agg, loadV_rp_int, sliceV, sliceSV, boundV, szIs, storeOp, storeS, setRowV, eff, extV, buildV, splice, eqSV, fitsL, eqCells, eqCell, minmaxV, binBV, nilCheckV, bytesV, V.cells, V.stays, upd_same, upd_upd, true_implies, false_implies, implies_true, keepS_eq, List.getD_cons_zero, List.getD_cons_succ, List.getD_nil, List.map_cons, List.map_nil, List.length_cons, List.length_nil, List.drop_succ_cons, List.drop_zero, List.take_succ_cons, List.take_zero, List.set_cons_zero, List.set_cons_succ, List.append_nil, List.nil_append, List.cons_append, List.all_cons, List.all_nil, List.getElem?_cons_zero, List.getElem?_cons_succ, List.contains_cons, List.contains_nil, Option.isSome_some, Option.map_some, Option.map_none, true_and, and_true, and_self, Int.reduceEq, Int.reduceNe, Int.reduceLT, Int.reduceLE, Int.reduceGT, Int.reduceGE, Nat.reduceEqDiff, Nat.reduceAdd, Nat.reduceMul, Nat.reduceLeDiff, Nat.reduceSub, Nat.reduceLT, Nat.reduceBEq, Nat.zero_add, Nat.add_zero, ↓reduceIte, reduceCtorEq, ← decide_not, Bool.not_true, Bool.not_false, Bool.false_eq_true, Bool.or_true, Bool.true_or, Bool.or_false, Bool.false_or, Bool.true_and, Bool.and_true, Bool.and_self, decide_true, decide_false, decide_eq_true_eq, a1, a4, a5, O10_65, readInts_own, intsOf_int, intsOf_nil, isFrom, ← Bool.decide_and]
  refine And.intro (fun p0 => ?_) (fun p0 => RetV.pure hs (by rw [V.bool.injEq]; symm; rw [Bool.eq_false_iff]; intro h; simp [Sty.ok, isFrom, mx] at h; omega))
  refine effR_new fun id6 σ5 s5 a6 f6 => ?_
  have a1 := s5 _ _ a1
  have hs := hs.trans s5
  simp -implicitDefEqProofs only [s_r_nil, Ret_one, Ret_two, Ret_three, Ret_none, Ret_cell_one, Ret_cell_two, onSome_some, s_r_stop, s_r_inBlock, s_r_ops_nil, s_r_skip, s_r_seq, s_r_block, s_r_exit, exR_some, s_r_ret, s_r_loop, s_r_reg, s_r_dreg, s_d_nil, s_r_cond, cR_t, cR_f, cR_dec, s_r_ins, insR_0, insR_1, insR_2, insR_3, insR_4, callR_some, callR_none, callV_eq, callD_some, callD_none, contR_some, storeR_some, s_d_ins, insD_0, insD_1, insD_2, insD_3, contD_some, storeD_some, s_r_gins, gR_tup, gR_tt, gR_ff, gR_tf, gR_ft, gR_dec_t, gR_dec_f, s_d_gins, gD_tup, gD_tt, gD_ff, gD_tf, gD_ft, gD_dec_t, gD_dec_f, putO_nothing, putO_lo, putO_hi, mix_get, putO_some, putO_none, lit_t, lit_c, ev_t, ev_c, okind, vpre, vpure, binV_int, binV_str, binPre_int, binPre_str, intBin, intPre, strBin, strPre, popTo, argSlots, lenV_own, lenV_sl, lenV_nils, lenV_str, fldV, fldAV, subCells, idxAV_own, idxVV, idxAAV, idxSV, loadV_ptr, loadV_rp_agg, loadV_rp_int, sliceV, sliceSV, boundV, szIs, storeOp, storeS, setRowV, eff, extV, buildV, splice, eqSV, fitsL, eqCells, eqCell, minmaxV, binBV, nilCheckV, bytesV, V.cells, V.stays, upd_same, upd_upd, true_implies, false_implies, implies_true, keepS_eq, List.getD_cons_zero, List.getD_cons_succ, List.getD_nil, List.map_cons, List.map_nil, List.length_cons, List.length_nil, List.drop_succ_cons, List.drop_zero, List.take_succ_cons, List.take_zero, List.set_cons_zero, List.set_cons_succ, List.append_nil, List.nil_append, List.cons_append, List.all_cons, List.all_nil, List.getElem?_cons_zero, List.getElem?_cons_succ, List.contains_cons, List.contains_nil, Option.isSome_some, Option.map_some, Option.map_none, true_and, and_true, and_self, Int.reduceEq, Int.reduceNe, Int.reduceLT, Int.reduceLE, Int.reduceGT, Int.reduceGE, Nat.reduceEqDiff, Nat.reduceAdd, Nat.reduceMul, Nat.reduceLeDiff, Nat.reduceSub, Nat.reduceLT, Nat.reduceBEq, Nat.zero_add, Nat.add_zero, ↓reduceIte, reduceCtorEq, ← decide_not, Bool.not_true, Bool.not_false, Bool.false_eq_true, Bool.or_true, Bool.true_or, Bool.or_false, Bool.false_or, Bool.true_and, Bool.and_true, Bool.and_self, decide_true, decide_false, decide_eq_true_eq, a1, a6, O10_65, readInts_own, intsOf_int, intsOf_nil, isFrom, ← Bool.decide_and]
  refine And.intro (fun p1 => ?_) (fun p1 => RetV.pure hs (by rw [V.bool.injEq]; symm; rw [Bool.eq_false_iff]; intro h; simp [Sty.ok, isFrom, mx] at h; omega))
  refine effR_new fun id7 σ6 s6 a7 f7 => ?_
  have a1 := s6 _ _ a1
  have hs := hs.trans s6
  simp -implicitDefEqProofs only [s_r_nil, Ret_one, Ret_two, Ret_three, Ret_none, Ret_cell_one, Ret_cell_two, onSome_some, s_r_stop, s_r_inBlock, s_r_ops_nil, s_r_skip, s_r_seq, s_r_block, s_r_exit, exR_some, s_r_ret, s_r_loop, s_r_reg, s_r_dreg, s_d_nil, s_r_cond, cR_t, cR_f, cR_dec, s_r_ins, insR_0, insR_1, insR_2, insR_3, insR_4, callR_some, callR_none, callV_eq, callD_some, callD_none, contR_some, storeR_some, s_d_ins, insD_0, insD_1, insD_2, insD_3, contD_some, storeD_some, s_r_gins, gR_tup, gR_tt, gR_ff, gR_tf, gR_ft, gR_dec_t, gR_dec_f, s_d_gins, gD_tup, gD_tt, gD_ff, gD_tf, gD_ft, gD_dec_t, gD_dec_f, putO_nothing, putO_lo, putO_hi, mix_get, putO_some, putO_none, lit_t, lit_c, ev_t, ev_c, okind, vpre, vpure, binV_int, binV_str, binPre_int, binPre_str, intBin, intPre, strBin, strPre, popTo, argSlots, lenV_own, lenV_sl, lenV_nils, lenV_str, fldV, fldAV, subCells, idxAV_own, idxVV, idxAAV, idxSV, loadV_ptr, loadV_rp_agg, loadV_rp_int, sliceV, sliceSV, boundV, szIs, storeOp, storeS, setRowV, eff, extV, buildV, splice, eqSV, fitsL, eqCells, eqCell, minmaxV, binBV, nilCheckV, bytesV, V.cells, V.stays, upd_same, upd_upd, true_implies, false_implies, implies_true, keepS_eq, List.getD_cons_zero, List.getD_cons_succ, List.getD_nil, List.map_cons, List.map_nil, List.length_cons, List.length_nil, List.drop_succ_cons, List.drop_zero, List.take_succ_cons, List.take_zero, List.set_cons_zero, List.set_cons_succ, List.append_nil, List.nil_append, List.cons_append, List.all_cons, List.all_nil, List.getElem?_cons_zero, List.getElem?_cons_succ, List.contains_cons, List.contains_nil, Option.isSome_some, Option.map_some, Option.map_none, true_and, and_true, and_self, Int.reduceEq, Int.reduceNe, Int.reduceLT, Int.reduceLE, Int.reduceGT, Int.reduceGE, Nat.reduceEqDiff, Nat.reduceAdd, Nat.reduceMul, Nat.reduceLeDiff, Nat.reduceSub, Nat.reduceLT, Nat.reduceBEq, Nat.zero_add, Nat.add_zero, ↓reduceIte, reduceCtorEq, ← decide_not, Bool.not_true, Bool.not_false, Bool.false_eq_true, Bool.or_true, Bool.true_or, Bool.or_false, Bool.false_or, Bool.true_and, Bool.and_true, Bool.and_self, decide_true, decide_false, decide_eq_true_eq, a1, a7, O10_65, readInts_own, intsOf_int, intsOf_nil, isFrom, ← Bool.decide_and]
  refine And.intro (fun p2 => ?_) (fun p2 => RetV.pure hs (by rw [V.bool.injEq]; symm; rw [Bool.eq_false_iff]; intro h; simp [Sty.ok, isFrom, mx] at h; omega))
  refine effR_new fun id8 σ7 s7 a8 f8 => ?_
  have a1 := s7 _ _ a1
  have hs := hs.trans s7
  simp -implicitDefEqProofs only [s_r_nil, Ret_one, Ret_two, Ret_three, Ret_none, Ret_cell_one, Ret_cell_two, onSome_some, s_r_stop, s_r_inBlock, s_r_ops_nil, s_r_skip, s_r_seq, s_r_block, s_r_exit, exR_some, s_r_ret, s_r_loop, s_r_reg, s_r_dreg, s_d_nil, s_r_cond, cR_t, cR_f, cR_dec, s_r_ins, insR_0, insR_1, insR_2, insR_3, insR_4, callR_some, callR_none, callV_eq, callD_some, callD_none, contR_some, storeR_some, s_d_ins, insD_0, insD_1, insD_2, insD_3, contD_some, storeD_some, s_r_gins, gR_tup, gR_tt, gR_ff, gR_tf, gR_ft, gR_dec_t, gR_dec_f, s_d_gins, gD_tup, gD_tt, gD_ff, gD_tf, gD_ft, gD_dec_t, gD_dec_f, putO_nothing, putO_lo, putO_hi, mix_get, putO_some, putO_none, lit_t, lit_c, ev_t, ev_c, okind, vpre, vpure, binV_int, binV_str, binPre_int, binPre_str, intBin, intPre, strBin, strPre, popTo, argSlots, lenV_own, lenV_sl, lenV_nils, lenV_str, fldV, fldAV, subCells, idxAV_own, idxVV, idxAAV, idxSV, loadV_ptr, loadV_rp_agg, loadV_rp_int, sliceV, sliceSV, boundV, szIs, storeOp, storeS, setRowV, eff, extV, buildV, splice, eqSV, fitsL, eqCells, eqCell, minmaxV, binBV, nilCheckV, bytesV, V.cells, V.stays, upd_same, upd_upd, true_implies, false_implies, implies_true, keepS_eq, List.getD_cons_zero, List.getD_cons_succ, List.getD_nil, List.map_cons, List.map_nil, List.length_cons, List.length_nil, List.drop_succ_cons, List.drop_zero, List.take_succ_cons, List.take_zero, List.set_cons_zero, List.set_cons_succ, List.append_nil, List.nil_append, List.cons_append, List.all_cons, List.all_nil, List.getElem?_cons_zero, List.getElem?_cons_succ, List.contains_cons, List.contains_nil, Option.isSome_some, Option.map_some, Option.map_none, true_and, and_true, and_self, Int.reduceEq, Int.reduceNe, Int.reduceLT, Int.reduceLE, Int.reduceGT, Int.reduceGE, Nat.reduceEqDiff, Nat.reduceAdd, Nat.reduceMul, Nat.reduceLeDiff, Nat.reduceSub, Nat.reduceLT, Nat.reduceBEq, Nat.zero_add, Nat.add_zero, ↓reduceIte, reduceCtorEq, ← decide_not, Bool.not_true, Bool.not_false, Bool.false_eq_true, Bool.or_true, Bool.true_or, Bool.or_false, Bool.false_or, Bool.true_and, Bool.and_true, Bool.and_self, decide_true, decide_false, decide_eq_true_eq, a1, a8, O10_65, readInts_own, intsOf_int, intsOf_nil, isFrom, ← Bool.decide_and]
  refine And.intro (fun p3 => ?_) (fun p3 => RetV.pure hs (by rw [V.bool.injEq]; symm; rw [Bool.eq_false_iff]; intro h; simp [Sty.ok, isFrom, mx] at h; omega))
  refine effR_new fun id9 σ8 s8 a9 f9 => ?_
  have a1 := s8 _ _ a1
  have hs := hs.trans s8
  simp -implicitDefEqProofs only [s_r_nil, Ret_one, Ret_two, Ret_three, Ret_none, Ret_cell_one, Ret_cell_two, onSome_some, s_r_stop, s_r_inBlock, s_r_ops_nil, s_r_skip, s_r_seq, s_r_block, s_r_exit, exR_some, s_r_ret, s_r_loop, s_r_reg, s_r_dreg, s_d_nil, s_r_cond, cR_t, cR_f, cR_dec, s_r_ins, insR_0, insR_1, insR_2, insR_3, insR_4, callR_some, callR_none, callV_eq, callD_some, callD_none, contR_some, storeR_some, s_d_ins, insD_0, insD_1, insD_2, insD_3, contD_some, storeD_some, s_r_gins, gR_tup, gR_tt, gR_ff, gR_tf, gR_ft, gR_dec_t, gR_dec_f, s_d_gins, gD_tup, gD_tt, gD_ff, gD_tf, gD_ft, gD_dec_t, gD_dec_f, putO_nothing, putO_lo, putO_hi, mix_get, putO_some, putO_none, lit_t, lit_c, ev_t, ev_c, okind, vpre, vpure, binV_int, binV_str, binPre_int, binPre_str, intBin, intPre, strBin, strPre, popTo, argSlots, lenV_own, lenV_sl, lenV_nils, lenV_str, fldV, fldAV, subCells, idxAV_own, idxVV, idxAAV, idxSV, loadV_ptr, loadV_rp_agg, loadV_rp_int, sliceV, sliceSV, boundV, szIs, storeOp, storeS, setRowV, eff, extV, buildV, splice, eqSV, fitsL, eqCells, eqCell, minmaxV, binBV, nilCheckV, bytesV, V.cells, V.stays, upd_same, upd_upd, true_implies, false_implies, implies_true, keepS_eq, List.getD_cons_zero, List.getD_cons_succ, List.getD_nil, List.map_cons, List.map_nil, List.length_cons, List.length_nil, List.drop_succ_cons, List.drop_zero, List.take_succ_cons, List.take_zero, List.set_cons_zero, List.set_cons_succ, List.append_nil, List.nil_append, List.cons_append, List.all_cons, List.all_nil, List.getElem?_cons_zero, List.getElem?_cons_succ, List.contains_cons, List.contains_nil, Option.isSome_some, Option.map_some, Option.map_none, true_and, and_true, and_self, Int.reduceEq, Int.reduceNe, Int.reduceLT, Int.reduceLE, Int.reduceGT, Int.reduceGE, Nat.reduceEqDiff, Nat.reduceAdd, Nat.reduceMul, Nat.reduceLeDiff, Nat.reduceSub, Nat.reduceLT, Nat.reduceBEq, Nat.zero_add, Nat.add_zero, ↓reduceIte, reduceCtorEq, ← decide_not, Bool.not_true, Bool.not_false, Bool.false_eq_true, Bool.or_true, Bool.true_or, Bool.or_false, Bool.false_or, Bool.true_and, Bool.and_true, Bool.and_self, decide_true, decide_false, decide_eq_true_eq, a1, a9, O10_65, readInts_own, intsOf_int, intsOf_nil, isFrom, ← Bool.decide_and]
  refine RetV.pure hs ?_
  rw [V.bool.injEq, Bool.eq_iff_iff]
  simp [Sty.ok, isFrom, mx]
  omega
end Go.Vc
/- Contracts: the answer's Check. -/
namespace Go.Vc
open Go.Proofs

def checkR (l : List Nd) : Int := if isB l then (if (countR l).1.depth > 16 ∨ (countR l).1.pieces > 2000 ∨ (countR l).1.nodes > 2000 ∨ (countR l).1.heights > 1099511627776 then 2 else 0) else 4

set_option maxRecDepth 100000 in
theorem check_c (l : List Nd) (hl : Fine l) : PFun Try.prog 16 [encNs l] (vI (checkR l)) := fun σ => by
  refine Contract.of_runs Try.func16 e16 k16 (by simp [c16]) ?_
  refine Runs.mix 6 ?_
  (refine Runs.of_step Orc.nothing 300 ?_; simp -implicitDefEqProofs only [s_r_nil, Ret_one, Ret_two, Ret_three, Ret_none, Ret_cell_one, Ret_cell_two, onSome_some, s_r_stop, s_r_inBlock, s_r_ops_nil, s_r_skip, s_r_seq, s_r_block, s_r_exit, exR_some, s_r_ret, s_r_loop, s_r_reg, s_r_dreg, s_d_nil, s_r_cond, cR_t, cR_f, cR_dec, s_r_ins, insR_0, insR_1, insR_2, insR_3, insR_4, callR_some, callR_none, callV_eq, callD_some, callD_none, contR_some, storeR_some, effR_some, s_d_ins, insD_0, insD_1, insD_2, insD_3, contD_some, storeD_some, effD_some, s_r_gins, gR_tup, gR_tt, gR_ff, gR_tf, gR_ft, gR_dec_t, gR_dec_f, s_d_gins, gD_tup, gD_tt, gD_ff, gD_tf, gD_ft, gD_dec_t, gD_dec_f, putO_nothing, putO_lo, putO_hi, mix_get, putO_some, putO_none, lit_t, lit_c, ev_t, ev_c, okind, vpre, vpure, binV_int, binV_str, binPre_int, binPre_str, intBin, intPre, strBin, strPre, popTo, argSlots, lenV_own, lenV_sl, lenV_nils, lenV_str, fldV, fldAV, subCells, idxAV_own, idxVV, idxAAV, idxSV, loadV_ptr, loadV_rp_agg, loadV_rp_int, sliceV, sliceSV, boundV, szIs, storeOp, storeS, setRowV, eff, extV, buildV, splice, eqSV, fitsL, eqCells, eqCell, minmaxV, binBV, nilCheckV, bytesV, V.cells, V.stays, upd_same, upd_upd, true_implies, false_implies, implies_true, keepS_eq, List.getD_cons_zero, List.getD_cons_succ, List.getD_nil, List.map_cons, List.map_nil, List.length_cons, List.length_nil, List.drop_succ_cons, List.drop_zero, List.take_succ_cons, List.take_zero, List.set_cons_zero, List.set_cons_succ, List.append_nil, List.nil_append, List.cons_append, List.all_cons, List.all_nil, List.getElem?_cons_zero, List.getElem?_cons_succ, List.contains_cons, List.contains_nil, Option.isSome_some, Option.map_some, Option.map_none, true_and, and_true, and_self, Int.reduceEq, Int.reduceNe, Int.reduceLT, Int.reduceLE, Int.reduceGT, Int.reduceGE, Nat.reduceEqDiff, Nat.reduceAdd, Nat.reduceMul, Nat.reduceLeDiff, Nat.reduceSub, Nat.reduceLT, Nat.reduceBEq, Nat.zero_add, Nat.add_zero, ↓reduceIte, reduceCtorEq, ← decide_not, Bool.not_true, Bool.not_false, Bool.false_eq_true, Bool.or_true, Bool.true_or, Bool.or_false, Bool.false_or, Bool.true_and, Bool.and_true, Bool.and_self, decide_true, decide_false, decide_eq_true_eq, Orc.nothing, c16])
  refine Runs.pcall rfl rfl rfl (count_c l hl _) ?_
  (refine Runs.of_step Orc.nothing 300 ?_; simp -implicitDefEqProofs only [s_r_nil, Ret_one, Ret_two, Ret_three, Ret_none, Ret_cell_one, Ret_cell_two, onSome_some, s_r_stop, s_r_inBlock, s_r_ops_nil, s_r_skip, s_r_seq, s_r_block, s_r_exit, exR_some, s_r_ret, s_r_loop, s_r_reg, s_r_dreg, s_d_nil, s_r_cond, cR_t, cR_f, cR_dec, s_r_ins, insR_0, insR_1, insR_2, insR_3, insR_4, callR_some, callR_none, callV_eq, callD_some, callD_none, contR_some, storeR_some, effR_some, s_d_ins, insD_0, insD_1, insD_2, insD_3, contD_some, storeD_some, effD_some, s_r_gins, gR_tup, gR_tt, gR_ff, gR_tf, gR_ft, gR_dec_t, gR_dec_f, s_d_gins, gD_tup, gD_tt, gD_ff, gD_tf, gD_ft, gD_dec_t, gD_dec_f, putO_nothing, putO_lo, putO_hi, mix_get, putO_some, putO_none, lit_t, lit_c, ev_t, ev_c, okind, vpre, vpure, binV_int, binV_str, binPre_int, binPre_str, intBin, intPre, strBin, strPre, popTo, argSlots, lenV_own, lenV_sl, lenV_nils, lenV_str, fldV, fldAV, subCells, idxAV_own, idxVV, idxAAV, idxSV, loadV_ptr, loadV_rp_agg, loadV_rp_int, sliceV, sliceSV, boundV, szIs, storeOp, storeS, setRowV, eff, extV, buildV, splice, eqSV, fitsL, eqCells, eqCell, minmaxV, binBV, nilCheckV, bytesV, V.cells, V.stays, upd_same, upd_upd, true_implies, false_implies, implies_true, keepS_eq, List.getD_cons_zero, List.getD_cons_succ, List.getD_nil, List.map_cons, List.map_nil, List.length_cons, List.length_nil, List.drop_succ_cons, List.drop_zero, List.take_succ_cons, List.take_zero, List.set_cons_zero, List.set_cons_succ, List.append_nil, List.nil_append, List.cons_append, List.all_cons, List.all_nil, List.getElem?_cons_zero, List.getElem?_cons_succ, List.contains_cons, List.contains_nil, Option.isSome_some, Option.map_some, Option.map_none, true_and, and_true, and_self, Int.reduceEq, Int.reduceNe, Int.reduceLT, Int.reduceLE, Int.reduceGT, Int.reduceGE, Nat.reduceEqDiff, Nat.reduceAdd, Nat.reduceMul, Nat.reduceLeDiff, Nat.reduceSub, Nat.reduceLT, Nat.reduceBEq, Nat.zero_add, Nat.add_zero, ↓reduceIte, reduceCtorEq, ← decide_not, Bool.not_true, Bool.not_false, Bool.false_eq_true, Bool.or_true, Bool.true_or, Bool.or_false, Bool.false_or, Bool.true_and, Bool.and_true, Bool.and_self, decide_true, decide_false, decide_eq_true_eq, Orc.nothing, Sm.cells, cR_b])
  intro id hid
  have hsub := fun o => (SubStore.refl σ).upd hid (o := o)
  have hc : (countR l).2 = if isB l then 0 else 4 := by unfold countR; split <;> rfl
  refine And.intro (fun h => ?_) (fun h => ?_)
  · refine RetV.pure (hsub _) ?_
    have : isB l = false := by
      rw [hc] at h
      cases hb : isB l <;> simp_all
    simp [checkR, this, hc]
  · have hb : isB l = true := by
      rw [hc] at h
      cases hb : isB l <;> simp_all
    repeat' (first
      | with_reducible refine And.intro (fun h => ?_) (fun h => ?_)
      | with_reducible refine RetV.pure (hsub _) ?_)
    all_goals (simp only [checkR, hb, if_true, V.int.injEq, true_and]; split <;> simp_all <;> omega)
end Go.Vc
