/- Part 6 of the library of this proof. -/
import Derived.Test.YtofoeghobdfojaaW5
set_option linter.all false
/- Contracts: a node's numbers, as the code holds them. -/
namespace Go.Vc
open Go.Proofs

def o12 (f : FuncId) (args : List V) (σ : Store) : Option V := if f = 65 then (match args with
  | [.agg [.int .i64 a, .int .i64 b], sv] => (readInts σ sv).map fun l => .bool (l.all fun n => isFrom n a b)
  | _ => none) else if f = 64 then (match args with
  | [.agg [.int .i64 a, .int .i64 b, .int .i64 c, .int .i64 d, .int .i64 e, .int .i64 f, .int .i64 g, .int .i64 h, .int .i64 i, .int .i64 j, .int .i64 k, .int .i64 l]] => some (.bool (Sty.ok ⟨a, b, c, d, e, f, g, h, i, j, k, l⟩))
  | _ => none) else none
def O12 : Orc Try.prog where
  get := o12
  ok f args σ v h := by
    unfold o12 at h
    split at h
    · rename_i hf
      subst hf
      split at h
      · simp only [Option.map_eq_some_iff] at h
        obtain ⟨l, h1, rfl⟩ := h
        obtain ⟨g1, g2⟩ := readInts_reads h1
        exact has_c g1 g2
      · cases h
    · split at h
      · rename_i hf
        subst hf
        split at h
        · simp only [Option.some.injEq] at h
          subst h
          exact styled_c ⟨_, _, _, _, _, _, _, _, _, _, _, _⟩ σ
        · cases h
      · cases h
theorem O12_65 (a b : Int) (sv : V) (σ : Store) : O12.get 65 [.agg [.int .i64 a, .int .i64 b], sv] σ = (readInts σ sv).map fun l => .bool (l.all fun n => isFrom n a b) := rfl
theorem O12_64 (a b c d e f g h i j k l : Int) (σ : Store) : O12.get 64 [.agg [.int .i64 a, .int .i64 b, .int .i64 c, .int .i64 d, .int .i64 e, .int .i64 f, .int .i64 g, .int .i64 h, .int .i64 i, .int .i64 j, .int .i64 k, .int .i64 l]] σ =
  some (.bool (Sty.ok ⟨a, b, c, d, e, f, g, h, i, j, k, l⟩)) := rfl

def Sty.isZero (s : Sty) : Bool := decide (s = Sty.zero)
theorem isZero_eq (s : Sty) : (decide (s.top = 0) && (decide (s.bottom = 0) && (decide (s.padTop = 0) && (decide (s.padBottom = 0) && (decide (s.inset = 0) && (decide (s.orphans = 0) && (decide (s.widows = 0) && (decide (s.head = 0) &&
    (decide (s.before = 0) && (decide (s.after = 0) && (decide (s.inside = 0) && decide (s.clear = 0)))))))))))) = decide (s = Sty.zero) := by
  rw [Bool.eq_iff_iff]
  cases s
  simp [Sty.zero]

set_option maxRecDepth 100000 in
theorem fits_c4 (x : Nd) (hl : x.words.length ≤ 200000000000000) (k4 : x.kind = 4) : PFun Try.prog 35 [encN x] (.bool x.ok) := fun σ => by
  refine Contract.of_runs Try.func35 e35 k35 (by simp [c35]) ?_
  refine Runs.mix 6 ?_
  (refine Runs.of_step O12 300 ?_; simp -implicitDefEqProofs only [s_r_nil, Ret_one, Ret_two, Ret_three, Ret_none, Ret_cell_one, Ret_cell_two, onSome_some, s_r_stop, s_r_inBlock, s_r_ops_nil, s_r_skip, s_r_seq, s_r_block, s_r_exit, exR_some, s_r_ret, s_r_loop, s_r_reg, s_r_dreg, s_d_nil, s_r_cond, cR_t, cR_f, cR_dec, s_r_ins, insR_0, insR_1, insR_2, insR_3, insR_4, callR_some, callR_none, callV_eq, callD_some, callD_none, contR_some, storeR_some, s_d_ins, insD_0, insD_1, insD_2, insD_3, contD_some, storeD_some, s_r_gins, gR_tup, gR_tt, gR_ff, gR_tf, gR_ft, gR_dec_t, gR_dec_f, s_d_gins, gD_tup, gD_tt, gD_ff, gD_tf, gD_ft, gD_dec_t, gD_dec_f, putO_nothing, putO_lo, putO_hi, mix_get, putO_some, putO_none, lit_t, lit_c, ev_t, ev_c, okind, vpre, vpure, binV_int, binV_str, binPre_int, binPre_str, intBin, intPre, strBin, strPre, popTo, argSlots, lenV_own, lenV_sl, lenV_nils, lenV_str, fldV, fldAV, subCells, idxAV_own, idxVV, idxAAV, idxSV, loadV_ptr, loadV_rp_agg, loadV_rp_int, sliceV, sliceSV, boundV, szIs, storeOp, storeS, setRowV, eff, extV, buildV, splice, eqSV, fitsL, eqCells, eqCell, minmaxV, binBV, nilCheckV, bytesV, V.cells, V.stays, upd_same, upd_upd, true_implies, false_implies, implies_true, keepS_eq, List.getD_cons_zero, List.getD_cons_succ, List.getD_nil, List.map_cons, List.map_nil, List.length_cons, List.length_nil, List.drop_succ_cons, List.drop_zero, List.take_succ_cons, List.take_zero, List.set_cons_zero, List.set_cons_succ, List.append_nil, List.nil_append, List.cons_append, List.all_cons, List.all_nil, List.getElem?_cons_zero, List.getElem?_cons_succ, List.contains_cons, List.contains_nil, Option.isSome_some, Option.map_some, Option.map_none, true_and, and_true, and_self, Int.reduceEq, Int.reduceNe, Int.reduceLT, Int.reduceLE, Int.reduceGT, Int.reduceGE, Nat.reduceEqDiff, Nat.reduceAdd, Nat.reduceMul, Nat.reduceLeDiff, Nat.reduceSub, Nat.reduceLT, Nat.reduceBEq, Nat.zero_add, Nat.add_zero, ↓reduceIte, reduceCtorEq, ← decide_not, Bool.not_true, Bool.not_false, Bool.false_eq_true, Bool.or_true, Bool.true_or, Bool.or_false, Bool.false_or, Bool.true_and, Bool.and_true, Bool.and_self, decide_true, decide_false, decide_eq_true_eq, c35, encN, Nd.cells])
  refine effR_new fun id1 σ1 s1 a1 f1 => ?_
  simp -implicitDefEqProofs only [s_r_nil, Ret_one, Ret_two, Ret_three, Ret_none, Ret_cell_one, Ret_cell_two, onSome_some, s_r_stop, s_r_inBlock, s_r_ops_nil, s_r_skip, s_r_seq, s_r_block, s_r_exit, exR_some, s_r_ret, s_r_loop, s_r_reg, s_r_dreg, s_d_nil, s_r_cond, cR_t, cR_f, cR_dec, s_r_ins, insR_0, insR_1, insR_2, insR_3, insR_4, callR_some, callR_none, callV_eq, callD_some, callD_none, contR_some, storeR_some, s_d_ins, insD_0, insD_1, insD_2, insD_3, contD_some, storeD_some, s_r_gins, gR_tup, gR_tt, gR_ff, gR_tf, gR_ft, gR_dec_t, gR_dec_f, s_d_gins, gD_tup, gD_tt, gD_ff, gD_tf, gD_ft, gD_dec_t, gD_dec_f, putO_nothing, putO_lo, putO_hi, mix_get, putO_some, putO_none, lit_t, lit_c, ev_t, ev_c, okind, vpre, vpure, binV_int, binV_str, binPre_int, binPre_str, intBin, intPre, strBin, strPre, popTo, argSlots, lenV_own, lenV_sl, lenV_nils, lenV_str, fldV, fldAV, subCells, idxAV_own, idxVV, idxAAV, idxSV, loadV_ptr, loadV_rp_agg, loadV_rp_int, sliceV, sliceSV, boundV, szIs, storeOp, storeS, setRowV, eff, extV, buildV, splice, eqSV, fitsL, eqCells, eqCell, minmaxV, binBV, nilCheckV, bytesV, V.cells, V.stays, upd_same, upd_upd, true_implies, false_implies, implies_true, keepS_eq, List.getD_cons_zero, List.getD_cons_succ, List.getD_nil, List.map_cons, List.map_nil, List.length_cons, List.length_nil, List.drop_succ_cons, List.drop_zero, List.take_succ_cons, List.take_zero, List.set_cons_zero, List.set_cons_succ, List.append_nil, List.nil_append, List.cons_append, List.all_cons, List.all_nil, List.getElem?_cons_zero, List.getElem?_cons_succ, List.contains_cons, List.contains_nil, Option.isSome_some, Option.map_some, Option.map_none, true_and, and_true, and_self, Int.reduceEq, Int.reduceNe, Int.reduceLT, Int.reduceLE, Int.reduceGT, Int.reduceGE, Nat.reduceEqDiff, Nat.reduceAdd, Nat.reduceMul, Nat.reduceLeDiff, Nat.reduceSub, Nat.reduceLT, Nat.reduceBEq, Nat.zero_add, Nat.add_zero, ↓reduceIte, reduceCtorEq, ← decide_not, Bool.not_true, Bool.not_false, Bool.false_eq_true, Bool.or_true, Bool.true_or, Bool.or_false, Bool.false_or, Bool.true_and, Bool.and_true, Bool.and_self, decide_true, decide_false, decide_eq_true_eq, a1]
  refine effR_new fun id3 σ2 s2 a3 f3 => ?_
  have n13 := ne_new a1 f3
  have a1 := s2 _ _ a1
  have hs := (s1.trans s2).updK (s1.none f3) (o := ⟨103, 2, [.agg [vI 1, vI 1099511627776]]⟩)
  have hok3 : x.ok = (decide (x.st = Sty.zero) && (decide (x.line = 0) && decide (x.space = 0) && decide (x.words.length = 0) && isFrom x.w 1 mx && isFrom x.h 1 mx && isFrom x.side 1 2)) := by
    by_cases hst : x.st = Sty.zero <;> simp [Nd.ok, k4, hst]
  simp -implicitDefEqProofs only [s_r_nil, Ret_one, Ret_two, Ret_three, Ret_none, Ret_cell_one, Ret_cell_two, onSome_some, s_r_stop, s_r_inBlock, s_r_ops_nil, s_r_skip, s_r_seq, s_r_block, s_r_exit, exR_some, s_r_ret, s_r_loop, s_r_reg, s_r_dreg, s_d_nil, s_r_cond, cR_t, cR_f, cR_dec, s_r_ins, insR_0, insR_1, insR_2, insR_3, insR_4, callR_some, callR_none, callV_eq, callD_some, callD_none, contR_some, storeR_some, s_d_ins, insD_0, insD_1, insD_2, insD_3, contD_some, storeD_some, s_r_gins, gR_tup, gR_tt, gR_ff, gR_tf, gR_ft, gR_dec_t, gR_dec_f, s_d_gins, gD_tup, gD_tt, gD_ff, gD_tf, gD_ft, gD_dec_t, gD_dec_f, putO_nothing, putO_lo, putO_hi, mix_get, putO_some, putO_none, lit_t, lit_c, ev_t, ev_c, okind, vpre, vpure, binV_int, binV_str, binPre_int, binPre_str, intBin, intPre, strBin, strPre, popTo, argSlots, lenV_own, lenV_sl, lenV_nils, lenV_str, fldV, fldAV, subCells, idxAV_own, idxVV, idxAAV, idxSV, loadV_ptr, loadV_rp_agg, loadV_rp_int, sliceV, sliceSV, boundV, szIs, storeOp, storeS, setRowV, eff, extV, buildV, splice, eqSV, fitsL, eqCells, eqCell, minmaxV, binBV, nilCheckV, bytesV, V.cells, V.stays, upd_same, upd_upd, true_implies, false_implies, implies_true, keepS_eq, List.getD_cons_zero, List.getD_cons_succ, List.getD_nil, List.map_cons, List.map_nil, List.length_cons, List.length_nil, List.drop_succ_cons, List.drop_zero, List.take_succ_cons, List.take_zero, List.set_cons_zero, List.set_cons_succ, List.append_nil, List.nil_append, List.cons_append, List.all_cons, List.all_nil, List.getElem?_cons_zero, List.getElem?_cons_succ, List.contains_cons, List.contains_nil, Option.isSome_some, Option.map_some, Option.map_none, true_and, and_true, and_self, Int.reduceEq, Int.reduceNe, Int.reduceLT, Int.reduceLE, Int.reduceGT, Int.reduceGE, Nat.reduceEqDiff, Nat.reduceAdd, Nat.reduceMul, Nat.reduceLeDiff, Nat.reduceSub, Nat.reduceLT, Nat.reduceBEq, Nat.zero_add, Nat.add_zero, ↓reduceIte, reduceCtorEq, ← decide_not, Bool.not_true, Bool.not_false, Bool.false_eq_true, Bool.or_true, Bool.true_or, Bool.or_false, Bool.false_or, Bool.true_and, Bool.and_true, Bool.and_self, decide_true, decide_false, decide_eq_true_eq, a1, a3, upd_ne n13, isZero_eq, lenV_encI, k4, O12_64, cR_b, upd_same]
  refine And.intro (fun e1 => And.intro (fun e2 => And.intro (fun z => And.intro (fun w => ?_) (fun w => ?_)) (fun z => ?_)) (fun e2 => ?_)) (fun e1 => ?_)
  · refine effR_new fun id4 σ3 s3 a4 f4 => ?_
    have a1 := s3 id1 _ (by rw [upd_ne n13]; exact a1)
    have a3 := s3 id3 _ upd_same
    have hs := hs.trans s3
    simp -implicitDefEqProofs only [s_r_nil, Ret_one, Ret_two, Ret_three, Ret_none, Ret_cell_one, Ret_cell_two, onSome_some, s_r_stop, s_r_inBlock, s_r_ops_nil, s_r_skip, s_r_seq, s_r_block, s_r_exit, exR_some, s_r_ret, s_r_loop, s_r_reg, s_r_dreg, s_d_nil, s_r_cond, cR_t, cR_f, cR_dec, s_r_ins, insR_0, insR_1, insR_2, insR_3, insR_4, callR_some, callR_none, callV_eq, callD_some, callD_none, contR_some, storeR_some, s_d_ins, insD_0, insD_1, insD_2, insD_3, contD_some, storeD_some, s_r_gins, gR_tup, gR_tt, gR_ff, gR_tf, gR_ft, gR_dec_t, gR_dec_f, s_d_gins, gD_tup, gD_tt, gD_ff, gD_tf, gD_ft, gD_dec_t, gD_dec_f, putO_nothing, putO_lo, putO_hi, mix_get, putO_some, putO_none, lit_t, lit_c, ev_t, ev_c, okind, vpre, vpure, binV_int, binV_str, binPre_int, binPre_str, intBin, intPre, strBin, strPre, popTo, argSlots, lenV_own, lenV_sl, lenV_nils, lenV_str, fldV, fldAV, subCells, idxAV_own, idxVV, idxAAV, idxSV, loadV_ptr, loadV_rp_agg, loadV_rp_int, sliceV, sliceSV, boundV, szIs, storeOp, storeS, setRowV, eff, extV, buildV, splice, eqSV, fitsL, eqCells, eqCell, minmaxV, binBV, nilCheckV, bytesV, V.cells, V.stays, upd_same, upd_upd, true_implies, false_implies, implies_true, keepS_eq, List.getD_cons_zero, List.getD_cons_succ, List.getD_nil, List.map_cons, List.map_nil, List.length_cons, List.length_nil, List.drop_succ_cons, List.drop_zero, List.take_succ_cons, List.take_zero, List.set_cons_zero, List.set_cons_succ, List.append_nil, List.nil_append, List.cons_append, List.all_cons, List.all_nil, List.getElem?_cons_zero, List.getElem?_cons_succ, List.contains_cons, List.contains_nil, Option.isSome_some, Option.map_some, Option.map_none, true_and, and_true, and_self, Int.reduceEq, Int.reduceNe, Int.reduceLT, Int.reduceLE, Int.reduceGT, Int.reduceGE, Nat.reduceEqDiff, Nat.reduceAdd, Nat.reduceMul, Nat.reduceLeDiff, Nat.reduceSub, Nat.reduceLT, Nat.reduceBEq, Nat.zero_add, Nat.add_zero, ↓reduceIte, reduceCtorEq, ← decide_not, Bool.not_true, Bool.not_false, Bool.false_eq_true, Bool.or_true, Bool.true_or, Bool.or_false, Bool.false_or, Bool.true_and, Bool.and_true, Bool.and_self, decide_true, decide_false, decide_eq_true_eq, a1, a3, a4, O12_65, readInts_own, intsOf_int, intsOf_nil, isFrom, List.all_cons, List.all_nil, ← Bool.decide_and]
    refine And.intro (fun q1 => ?_) (fun q1 => RetV.pure hs ?_)
    · refine effR_new fun id5 σ4 s4 a5 f5 => ?_
      have a1 := s4 _ _ a1
      have hs := hs.trans s4
      simp -implicitDefEqProofs only [s_r_nil, Ret_one, Ret_two, Ret_three, Ret_none, Ret_cell_one, Ret_cell_two, onSome_some, s_r_stop, s_r_inBlock, s_r_ops_nil, s_r_skip, s_r_seq, s_r_block, s_r_exit, exR_some, s_r_ret, s_r_loop, s_r_reg, s_r_dreg, s_d_nil, s_r_cond, cR_t, cR_f, cR_dec, s_r_ins, insR_0, insR_1, insR_2, insR_3, insR_4, callR_some, callR_none, callV_eq, callD_some, callD_none, contR_some, storeR_some, s_d_ins, insD_0, insD_1, insD_2, insD_3, contD_some, storeD_some, s_r_gins, gR_tup, gR_tt, gR_ff, gR_tf, gR_ft, gR_dec_t, gR_dec_f, s_d_gins, gD_tup, gD_tt, gD_ff, gD_tf, gD_ft, gD_dec_t, gD_dec_f, putO_nothing, putO_lo, putO_hi, mix_get, putO_some, putO_none, lit_t, lit_c, ev_t, ev_c, okind, vpre, vpure, binV_int, binV_str, binPre_int, binPre_str, intBin, intPre, strBin, strPre, popTo, argSlots, lenV_own, lenV_sl, lenV_nils, lenV_str, fldV, fldAV, subCells, idxAV_own, idxVV, idxAAV, idxSV, loadV_ptr, loadV_rp_agg, loadV_rp_int, sliceV, sliceSV, boundV, szIs, storeOp, storeS, setRowV, eff, extV, buildV, splice, eqSV, fitsL, eqCells, eqCell, minmaxV, binBV, nilCheckV, bytesV, V.cells, V.stays, upd_same, upd_upd, true_implies, false_implies, implies_true, keepS_eq, List.getD_cons_zero, List.getD_cons_succ, List.getD_nil, List.map_cons, List.map_nil, List.length_cons, List.length_nil, List.drop_succ_cons, List.drop_zero, List.take_succ_cons, List.take_zero, List.set_cons_zero, List.set_cons_succ, List.append_nil, List.nil_append, List.cons_append, List.all_cons, List.all_nil, List.getElem?_cons_zero, List.getElem?_cons_succ, List.contains_cons, List.contains_nil, Option.isSome_some, Option.map_some, Option.map_none, true_and, and_true, and_self, Int.reduceEq, Int.reduceNe, Int.reduceLT, Int.reduceLE, Int.reduceGT, Int.reduceGE, Nat.reduceEqDiff, Nat.reduceAdd, Nat.reduceMul, Nat.reduceLeDiff, Nat.reduceSub, Nat.reduceLT, Nat.reduceBEq, Nat.zero_add, Nat.add_zero, ↓reduceIte, reduceCtorEq, ← decide_not, Bool.not_true, Bool.not_false, Bool.false_eq_true, Bool.or_true, Bool.true_or, Bool.or_false, Bool.false_or, Bool.true_and, Bool.and_true, Bool.and_self, decide_true, decide_false, decide_eq_true_eq, a1, a5, O12_65, readInts_own, intsOf_int, intsOf_nil, isFrom, List.all_cons, List.all_nil, ← Bool.decide_and]
      refine RetV.pure hs ?_
      rw [V.bool.injEq, hok3, Bool.eq_iff_iff]
      simp only [isFrom, mx]
      simp at w
      simp [e1, e2, z, w]
      omega
    · rw [V.bool.injEq, hok3, Bool.eq_iff_iff]
      simp only [isFrom, mx]
      simp [e1, e2, z]
      omega
  all_goals (repeat' (first
    | with_reducible refine And.intro (fun h => ?_) (fun h => ?_)
    | with_reducible refine RetV.pure hs ?_))
  all_goals (rw [V.bool.injEq, hok3, Bool.eq_iff_iff]; simp_all)

set_option maxRecDepth 100000 in
theorem fits_c (x : Nd) (hl : x.words.length ≤ 200000000000000) : PFun Try.prog 35 [encN x] (.bool x.ok) := fun σ => by
  by_cases k4 : x.kind = 4
  · exact fits_c4 x hl k4 σ
  refine Contract.of_runs Try.func35 e35 k35 (by simp [c35]) ?_
  refine Runs.mix 6 ?_
  (refine Runs.of_step O12 300 ?_; simp -implicitDefEqProofs only [s_r_nil, Ret_one, Ret_two, Ret_three, Ret_none, Ret_cell_one, Ret_cell_two, onSome_some, s_r_stop, s_r_inBlock, s_r_ops_nil, s_r_skip, s_r_seq, s_r_block, s_r_exit, exR_some, s_r_ret, s_r_loop, s_r_reg, s_r_dreg, s_d_nil, s_r_cond, cR_t, cR_f, cR_dec, s_r_ins, insR_0, insR_1, insR_2, insR_3, insR_4, callR_some, callR_none, callV_eq, callD_some, callD_none, contR_some, storeR_some, s_d_ins, insD_0, insD_1, insD_2, insD_3, contD_some, storeD_some, s_r_gins, gR_tup, gR_tt, gR_ff, gR_tf, gR_ft, gR_dec_t, gR_dec_f, s_d_gins, gD_tup, gD_tt, gD_ff, gD_tf, gD_ft, gD_dec_t, gD_dec_f, putO_nothing, putO_lo, putO_hi, mix_get, putO_some, putO_none, lit_t, lit_c, ev_t, ev_c, okind, vpre, vpure, binV_int, binV_str, binPre_int, binPre_str, intBin, intPre, strBin, strPre, popTo, argSlots, lenV_own, lenV_sl, lenV_nils, lenV_str, fldV, fldAV, subCells, idxAV_own, idxVV, idxAAV, idxSV, loadV_ptr, loadV_rp_agg, loadV_rp_int, sliceV, sliceSV, boundV, szIs, storeOp, storeS, setRowV, eff, extV, buildV, splice, eqSV, fitsL, eqCells, eqCell, minmaxV, binBV, nilCheckV, bytesV, V.cells, V.stays, upd_same, upd_upd, true_implies, false_implies, implies_true, keepS_eq, List.getD_cons_zero, List.getD_cons_succ, List.getD_nil, List.map_cons, List.map_nil, List.length_cons, List.length_nil, List.drop_succ_cons, List.drop_zero, List.take_succ_cons, List.take_zero, List.set_cons_zero, List.set_cons_succ, List.append_nil, List.nil_append, List.cons_append, List.all_cons, List.all_nil, List.getElem?_cons_zero, List.getElem?_cons_succ, List.contains_cons, List.contains_nil, Option.isSome_some, Option.map_some, Option.map_none, true_and, and_true, and_self, Int.reduceEq, Int.reduceNe, Int.reduceLT, Int.reduceLE, Int.reduceGT, Int.reduceGE, Nat.reduceEqDiff, Nat.reduceAdd, Nat.reduceMul, Nat.reduceLeDiff, Nat.reduceSub, Nat.reduceLT, Nat.reduceBEq, Nat.zero_add, Nat.add_zero, ↓reduceIte, reduceCtorEq, ← decide_not, Bool.not_true, Bool.not_false, Bool.false_eq_true, Bool.or_true, Bool.true_or, Bool.or_false, Bool.false_or, Bool.true_and, Bool.and_true, Bool.and_self, decide_true, decide_false, decide_eq_true_eq, c35, encN, Nd.cells])
  refine effR_new fun id1 σ1 s1 a1 f1 => ?_
  simp -implicitDefEqProofs only [s_r_nil, Ret_one, Ret_two, Ret_three, Ret_none, Ret_cell_one, Ret_cell_two, onSome_some, s_r_stop, s_r_inBlock, s_r_ops_nil, s_r_skip, s_r_seq, s_r_block, s_r_exit, exR_some, s_r_ret, s_r_loop, s_r_reg, s_r_dreg, s_d_nil, s_r_cond, cR_t, cR_f, cR_dec, s_r_ins, insR_0, insR_1, insR_2, insR_3, insR_4, callR_some, callR_none, callV_eq, callD_some, callD_none, contR_some, storeR_some, s_d_ins, insD_0, insD_1, insD_2, insD_3, contD_some, storeD_some, s_r_gins, gR_tup, gR_tt, gR_ff, gR_tf, gR_ft, gR_dec_t, gR_dec_f, s_d_gins, gD_tup, gD_tt, gD_ff, gD_tf, gD_ft, gD_dec_t, gD_dec_f, putO_nothing, putO_lo, putO_hi, mix_get, putO_some, putO_none, lit_t, lit_c, ev_t, ev_c, okind, vpre, vpure, binV_int, binV_str, binPre_int, binPre_str, intBin, intPre, strBin, strPre, popTo, argSlots, lenV_own, lenV_sl, lenV_nils, lenV_str, fldV, fldAV, subCells, idxAV_own, idxVV, idxAAV, idxSV, loadV_ptr, loadV_rp_agg, loadV_rp_int, sliceV, sliceSV, boundV, szIs, storeOp, storeS, setRowV, eff, extV, buildV, splice, eqSV, fitsL, eqCells, eqCell, minmaxV, binBV, nilCheckV, bytesV, V.cells, V.stays, upd_same, upd_upd, true_implies, false_implies, implies_true, keepS_eq, List.getD_cons_zero, List.getD_cons_succ, List.getD_nil, List.map_cons, List.map_nil, List.length_cons, List.length_nil, List.drop_succ_cons, List.drop_zero, List.take_succ_cons, List.take_zero, List.set_cons_zero, List.set_cons_succ, List.append_nil, List.nil_append, List.cons_append, List.all_cons, List.all_nil, List.getElem?_cons_zero, List.getElem?_cons_succ, List.contains_cons, List.contains_nil, Option.isSome_some, Option.map_some, Option.map_none, true_and, and_true, and_self, Int.reduceEq, Int.reduceNe, Int.reduceLT, Int.reduceLE, Int.reduceGT, Int.reduceGE, Nat.reduceEqDiff, Nat.reduceAdd, Nat.reduceMul, Nat.reduceLeDiff, Nat.reduceSub, Nat.reduceLT, Nat.reduceBEq, Nat.zero_add, Nat.add_zero, ↓reduceIte, reduceCtorEq, ← decide_not, Bool.not_true, Bool.not_false, Bool.false_eq_true, Bool.or_true, Bool.true_or, Bool.or_false, Bool.false_or, Bool.true_and, Bool.and_true, Bool.and_self, decide_true, decide_false, decide_eq_true_eq, a1]
  refine effR_new fun id3 σ2 s2 a3 f3 => ?_
  have n13 := ne_new a1 f3
  have a1 := s2 _ _ a1
  have hs := (s1.trans s2).updK (s1.none f3) (o := ⟨103, 2, [.agg [vI 1, vI 1099511627776]]⟩)
  have hz : (x.kind = 1 → x.ok = (x.st.ok && decide (x.line = 0) && decide (x.space = 0) && decide (x.words.length = 0) && decide (x.side = 0) && decide (x.w = 0) && decide (x.h = 0))) := fun h => by simp [Nd.ok, h]
  have hwl : x.words.length ≤ 200000000000000 := by omega
  by_cases k1 : x.kind = 1
  · simp -implicitDefEqProofs only [s_r_nil, Ret_one, Ret_two, Ret_three, Ret_none, Ret_cell_one, Ret_cell_two, onSome_some, s_r_stop, s_r_inBlock, s_r_ops_nil, s_r_skip, s_r_seq, s_r_block, s_r_exit, exR_some, s_r_ret, s_r_loop, s_r_reg, s_r_dreg, s_d_nil, s_r_cond, cR_t, cR_f, cR_dec, s_r_ins, insR_0, insR_1, insR_2, insR_3, insR_4, callR_some, callR_none, callV_eq, callD_some, callD_none, contR_some, storeR_some, s_d_ins, insD_0, insD_1, insD_2, insD_3, contD_some, storeD_some, s_r_gins, gR_tup, gR_tt, gR_ff, gR_tf, gR_ft, gR_dec_t, gR_dec_f, s_d_gins, gD_tup, gD_tt, gD_ff, gD_tf, gD_ft, gD_dec_t, gD_dec_f, putO_nothing, putO_lo, putO_hi, mix_get, putO_some, putO_none, lit_t, lit_c, ev_t, ev_c, okind, vpre, vpure, binV_int, binV_str, binPre_int, binPre_str, intBin, intPre, strBin, strPre, popTo, argSlots, lenV_own, lenV_sl, lenV_nils, lenV_str, fldV, fldAV, subCells, idxAV_own, idxVV, idxAAV, idxSV, loadV_ptr, loadV_rp_agg, loadV_rp_int, sliceV, sliceSV, boundV, szIs, storeOp, storeS, setRowV, eff, extV, buildV, splice, eqSV, fitsL, eqCells, eqCell, minmaxV, binBV, nilCheckV, bytesV, V.cells, V.stays, upd_same, upd_upd, true_implies, false_implies, implies_true, keepS_eq, List.getD_cons_zero, List.getD_cons_succ, List.getD_nil, List.map_cons, List.map_nil, List.length_cons, List.length_nil, List.drop_succ_cons, List.drop_zero, List.take_succ_cons, List.take_zero, List.set_cons_zero, List.set_cons_succ, List.append_nil, List.nil_append, List.cons_append, List.all_cons, List.all_nil, List.getElem?_cons_zero, List.getElem?_cons_succ, List.contains_cons, List.contains_nil, Option.isSome_some, Option.map_some, Option.map_none, true_and, and_true, and_self, Int.reduceEq, Int.reduceNe, Int.reduceLT, Int.reduceLE, Int.reduceGT, Int.reduceGE, Nat.reduceEqDiff, Nat.reduceAdd, Nat.reduceMul, Nat.reduceLeDiff, Nat.reduceSub, Nat.reduceLT, Nat.reduceBEq, Nat.zero_add, Nat.add_zero, ↓reduceIte, reduceCtorEq, ← decide_not, Bool.not_true, Bool.not_false, Bool.false_eq_true, Bool.or_true, Bool.true_or, Bool.or_false, Bool.false_or, Bool.true_and, Bool.and_true, Bool.and_self, decide_true, decide_false, decide_eq_true_eq, a1, a3, upd_ne n13, isZero_eq, lenV_encI, k1, O12_64, cR_b]
    rw [hz k1]
    repeat' (first
      | with_reducible refine And.intro (fun h => ?_) (fun h => ?_)
      | with_reducible refine RetV.pure hs ?_)
    all_goals (rw [V.bool.injEq, Bool.eq_iff_iff]; simp_all)
  · by_cases k2 : x.kind = 2
    · by_cases e1 : x.line = 0
      · have hok0 : x.ok = false := by
          by_cases hst : x.st = Sty.zero <;> simp [Nd.ok, k2, hst, e1, isFrom]
        rw [hok0]
        simp -implicitDefEqProofs only [s_r_nil, Ret_one, Ret_two, Ret_three, Ret_none, Ret_cell_one, Ret_cell_two, onSome_some, s_r_stop, s_r_inBlock, s_r_ops_nil, s_r_skip, s_r_seq, s_r_block, s_r_exit, exR_some, s_r_ret, s_r_loop, s_r_reg, s_r_dreg, s_d_nil, s_r_cond, cR_t, cR_f, cR_dec, s_r_ins, insR_0, insR_1, insR_2, insR_3, insR_4, callR_some, callR_none, callV_eq, callD_some, callD_none, contR_some, storeR_some, s_d_ins, insD_0, insD_1, insD_2, insD_3, contD_some, storeD_some, s_r_gins, gR_tup, gR_tt, gR_ff, gR_tf, gR_ft, gR_dec_t, gR_dec_f, s_d_gins, gD_tup, gD_tt, gD_ff, gD_tf, gD_ft, gD_dec_t, gD_dec_f, putO_nothing, putO_lo, putO_hi, mix_get, putO_some, putO_none, lit_t, lit_c, ev_t, ev_c, okind, vpre, vpure, binV_int, binV_str, binPre_int, binPre_str, intBin, intPre, strBin, strPre, popTo, argSlots, lenV_own, lenV_sl, lenV_nils, lenV_str, fldV, fldAV, subCells, idxAV_own, idxVV, idxAAV, idxSV, loadV_ptr, loadV_rp_agg, loadV_rp_int, sliceV, sliceSV, boundV, szIs, storeOp, storeS, setRowV, eff, extV, buildV, splice, eqSV, fitsL, eqCells, eqCell, minmaxV, binBV, nilCheckV, bytesV, V.cells, V.stays, upd_same, upd_upd, true_implies, false_implies, implies_true, keepS_eq, List.getD_cons_zero, List.getD_cons_succ, List.getD_nil, List.map_cons, List.map_nil, List.length_cons, List.length_nil, List.drop_succ_cons, List.drop_zero, List.take_succ_cons, List.take_zero, List.set_cons_zero, List.set_cons_succ, List.append_nil, List.nil_append, List.cons_append, List.all_cons, List.all_nil, List.getElem?_cons_zero, List.getElem?_cons_succ, List.contains_cons, List.contains_nil, Option.isSome_some, Option.map_some, Option.map_none, true_and, and_true, and_self, Int.reduceEq, Int.reduceNe, Int.reduceLT, Int.reduceLE, Int.reduceGT, Int.reduceGE, Nat.reduceEqDiff, Nat.reduceAdd, Nat.reduceMul, Nat.reduceLeDiff, Nat.reduceSub, Nat.reduceLT, Nat.reduceBEq, Nat.zero_add, Nat.add_zero, ↓reduceIte, reduceCtorEq, ← decide_not, Bool.not_true, Bool.not_false, Bool.false_eq_true, Bool.or_true, Bool.true_or, Bool.or_false, Bool.false_or, Bool.true_and, Bool.and_true, Bool.and_self, decide_true, decide_false, decide_eq_true_eq, a1, a3, upd_ne n13, isZero_eq, lenV_encI, k1, k2, e1, O12_64, cR_b, upd_same]
        repeat' (first
          | with_reducible refine And.intro (fun h => ?_) (fun h => ?_)
          | with_reducible refine RetV.pure hs rfl
          | (refine effR_new fun id4 σ3 s3 a4 f4 => ?_
             have a1 := s3 id1 _ (by rw [upd_ne n13]; exact a1)
             have a3 := s3 id3 _ upd_same
             simp -implicitDefEqProofs only [s_r_nil, Ret_one, Ret_two, Ret_three, Ret_none, Ret_cell_one, Ret_cell_two, onSome_some, s_r_stop, s_r_inBlock, s_r_ops_nil, s_r_skip, s_r_seq, s_r_block, s_r_exit, exR_some, s_r_ret, s_r_loop, s_r_reg, s_r_dreg, s_d_nil, s_r_cond, cR_t, cR_f, cR_dec, s_r_ins, insR_0, insR_1, insR_2, insR_3, insR_4, callR_some, callR_none, callV_eq, callD_some, callD_none, contR_some, storeR_some, s_d_ins, insD_0, insD_1, insD_2, insD_3, contD_some, storeD_some, s_r_gins, gR_tup, gR_tt, gR_ff, gR_tf, gR_ft, gR_dec_t, gR_dec_f, s_d_gins, gD_tup, gD_tt, gD_ff, gD_tf, gD_ft, gD_dec_t, gD_dec_f, putO_nothing, putO_lo, putO_hi, mix_get, putO_some, putO_none, lit_t, lit_c, ev_t, ev_c, okind, vpre, vpure, binV_int, binV_str, binPre_int, binPre_str, intBin, intPre, strBin, strPre, popTo, argSlots, lenV_own, lenV_sl, lenV_nils, lenV_str, fldV, fldAV, subCells, idxAV_own, idxVV, idxAAV, idxSV, loadV_ptr, loadV_rp_agg, loadV_rp_int, sliceV, sliceSV, boundV, szIs, storeOp, storeS, setRowV, eff, extV, buildV, splice, eqSV, fitsL, eqCells, eqCell, minmaxV, binBV, nilCheckV, bytesV, V.cells, V.stays, upd_same, upd_upd, true_implies, false_implies, implies_true, keepS_eq, List.getD_cons_zero, List.getD_cons_succ, List.getD_nil, List.map_cons, List.map_nil, List.length_cons, List.length_nil, List.drop_succ_cons, List.drop_zero, List.take_succ_cons, List.take_zero, List.set_cons_zero, List.set_cons_succ, List.append_nil, List.nil_append, List.cons_append, List.all_cons, List.all_nil, List.getElem?_cons_zero, List.getElem?_cons_succ, List.contains_cons, List.contains_nil, Option.isSome_some, Option.map_some, Option.map_none, true_and, and_true, and_self, Int.reduceEq, Int.reduceNe, Int.reduceLT, Int.reduceLE, Int.reduceGT, Int.reduceGE, Nat.reduceEqDiff, Nat.reduceAdd, Nat.reduceMul, Nat.reduceLeDiff, Nat.reduceSub, Nat.reduceLT, Nat.reduceBEq, Nat.zero_add, Nat.add_zero, ↓reduceIte, reduceCtorEq, ← decide_not, Bool.not_true, Bool.not_false, Bool.false_eq_true, Bool.or_true, Bool.true_or, Bool.or_false, Bool.false_or, Bool.true_and, Bool.and_true, Bool.and_self, decide_true, decide_false, decide_eq_true_eq, a1, a3, a4, O12_65, readInts_own, intsOf_int, intsOf_nil, isFrom, List.all_cons, List.all_nil, false_and]
             exact RetV.pure (hs.trans s3) rfl))
      · simp -implicitDefEqProofs only [s_r_nil, Ret_one, Ret_two, Ret_three, Ret_none, Ret_cell_one, Ret_cell_two, onSome_some, s_r_stop, s_r_inBlock, s_r_ops_nil, s_r_skip, s_r_seq, s_r_block, s_r_exit, exR_some, s_r_ret, s_r_loop, s_r_reg, s_r_dreg, s_d_nil, s_r_cond, cR_t, cR_f, cR_dec, s_r_ins, insR_0, insR_1, insR_2, insR_3, insR_4, callR_some, callR_none, callV_eq, callD_some, callD_none, contR_some, storeR_some, s_d_ins, insD_0, insD_1, insD_2, insD_3, contD_some, storeD_some, s_r_gins, gR_tup, gR_tt, gR_ff, gR_tf, gR_ft, gR_dec_t, gR_dec_f, s_d_gins, gD_tup, gD_tt, gD_ff, gD_tf, gD_ft, gD_dec_t, gD_dec_f, putO_nothing, putO_lo, putO_hi, mix_get, putO_some, putO_none, lit_t, lit_c, ev_t, ev_c, okind, vpre, vpure, binV_int, binV_str, binPre_int, binPre_str, intBin, intPre, strBin, strPre, popTo, argSlots, lenV_own, lenV_sl, lenV_nils, lenV_str, fldV, fldAV, subCells, idxAV_own, idxVV, idxAAV, idxSV, loadV_ptr, loadV_rp_agg, loadV_rp_int, sliceV, sliceSV, boundV, szIs, storeOp, storeS, setRowV, eff, extV, buildV, splice, eqSV, fitsL, eqCells, eqCell, minmaxV, binBV, nilCheckV, bytesV, V.cells, V.stays, upd_same, upd_upd, true_implies, false_implies, implies_true, keepS_eq, List.getD_cons_zero, List.getD_cons_succ, List.getD_nil, List.map_cons, List.map_nil, List.length_cons, List.length_nil, List.drop_succ_cons, List.drop_zero, List.take_succ_cons, List.take_zero, List.set_cons_zero, List.set_cons_succ, List.append_nil, List.nil_append, List.cons_append, List.all_cons, List.all_nil, List.getElem?_cons_zero, List.getElem?_cons_succ, List.contains_cons, List.contains_nil, Option.isSome_some, Option.map_some, Option.map_none, true_and, and_true, and_self, Int.reduceEq, Int.reduceNe, Int.reduceLT, Int.reduceLE, Int.reduceGT, Int.reduceGE, Nat.reduceEqDiff, Nat.reduceAdd, Nat.reduceMul, Nat.reduceLeDiff, Nat.reduceSub, Nat.reduceLT, Nat.reduceBEq, Nat.zero_add, Nat.add_zero, ↓reduceIte, reduceCtorEq, ← decide_not, Bool.not_true, Bool.not_false, Bool.false_eq_true, Bool.or_true, Bool.true_or, Bool.or_false, Bool.false_or, Bool.true_and, Bool.and_true, Bool.and_self, decide_true, decide_false, decide_eq_true_eq, a1, a3, upd_ne n13, isZero_eq, lenV_encI, k1, k2, e1, O12_64, cR_b, upd_same]
        have hok2 : x.ok = (decide (x.st = Sty.zero) && (x.words.all (isFrom · 1 mx) && decide (0 < x.words.length) && isFrom x.line 1 mx && isFrom x.space 0 mx && decide (x.side = 0) && decide (x.w = 0) && decide (x.h = 0))) := by
          by_cases hst : x.st = Sty.zero <;> simp [Nd.ok, k2, hst]
        refine And.intro (fun z => ?_) (fun z => RetV.pure hs (by rw [hok2]; simp_all))
        refine And.intro (fun w1 => ?_) (fun w1 => RetV.pure hs (by rw [hok2]; simp [w1]))
        refine And.intro (fun w2 => ?_) (fun w2 => RetV.pure hs (by rw [hok2]; simp [w2]))
        refine And.intro (fun w3 => ?_) (fun w3 => RetV.pure hs (by rw [hok2]; simp [w3]))
        refine effR_new fun id4 σ3 s3 a4 f4 => ?_
        have a1 := s3 id1 _ (by rw [upd_ne n13]; exact a1)
        have a3 := s3 id3 _ upd_same
        have hs := hs.trans s3
        simp -implicitDefEqProofs only [s_r_nil, Ret_one, Ret_two, Ret_three, Ret_none, Ret_cell_one, Ret_cell_two, onSome_some, s_r_stop, s_r_inBlock, s_r_ops_nil, s_r_skip, s_r_seq, s_r_block, s_r_exit, exR_some, s_r_ret, s_r_loop, s_r_reg, s_r_dreg, s_d_nil, s_r_cond, cR_t, cR_f, cR_dec, s_r_ins, insR_0, insR_1, insR_2, insR_3, insR_4, callR_some, callR_none, callV_eq, callD_some, callD_none, contR_some, storeR_some, s_d_ins, insD_0, insD_1, insD_2, insD_3, contD_some, storeD_some, s_r_gins, gR_tup, gR_tt, gR_ff, gR_tf, gR_ft, gR_dec_t, gR_dec_f, s_d_gins, gD_tup, gD_tt, gD_ff, gD_tf, gD_ft, gD_dec_t, gD_dec_f, putO_nothing, putO_lo, putO_hi, mix_get, putO_some, putO_none, lit_t, lit_c, ev_t, ev_c, okind, vpre, vpure, binV_int, binV_str, binPre_int, binPre_str, intBin, intPre, strBin, strPre, popTo, argSlots, lenV_own, lenV_sl, lenV_nils, lenV_str, fldV, fldAV, subCells, idxAV_own, idxVV, idxAAV, idxSV, loadV_ptr, loadV_rp_agg, loadV_rp_int, sliceV, sliceSV, boundV, szIs, storeOp, storeS, setRowV, eff, extV, buildV, splice, eqSV, fitsL, eqCells, eqCell, minmaxV, binBV, nilCheckV, bytesV, V.cells, V.stays, upd_same, upd_upd, true_implies, false_implies, implies_true, keepS_eq, List.getD_cons_zero, List.getD_cons_succ, List.getD_nil, List.map_cons, List.map_nil, List.length_cons, List.length_nil, List.drop_succ_cons, List.drop_zero, List.take_succ_cons, List.take_zero, List.set_cons_zero, List.set_cons_succ, List.append_nil, List.nil_append, List.cons_append, List.all_cons, List.all_nil, List.getElem?_cons_zero, List.getElem?_cons_succ, List.contains_cons, List.contains_nil, Option.isSome_some, Option.map_some, Option.map_none, true_and, and_true, and_self, Int.reduceEq, Int.reduceNe, Int.reduceLT, Int.reduceLE, Int.reduceGT, Int.reduceGE, Nat.reduceEqDiff, Nat.reduceAdd, Nat.reduceMul, Nat.reduceLeDiff, Nat.reduceSub, Nat.reduceLT, Nat.reduceBEq, Nat.zero_add, Nat.add_zero, ↓reduceIte, reduceCtorEq, ← decide_not, Bool.not_true, Bool.not_false, Bool.false_eq_true, Bool.or_true, Bool.true_or, Bool.or_false, Bool.false_or, Bool.true_and, Bool.and_true, Bool.and_self, decide_true, decide_false, decide_eq_true_eq, a1, a3, a4, O12_65, readInts_own, intsOf_int, intsOf_nil, readInts_encI _ hwl, cR_b, dec_true (List.all _ _)]
        refine And.intro (fun q1 => ?_) (fun q1 => RetV.pure hs (by rw [hok2]; simp [mx] at q1 ⊢; simp [q1]))
        refine And.intro (fun q2 => ?_) (fun q2 => RetV.pure hs (by rw [hok2]; simp only [mx, q2]; simp))
        refine effR_new fun id5 σ4 s4 a5 f5 => ?_
        have a1 := s4 _ _ a1
        have hs := hs.trans s4
        simp -implicitDefEqProofs only [s_r_nil, Ret_one, Ret_two, Ret_three, Ret_none, Ret_cell_one, Ret_cell_two, onSome_some, s_r_stop, s_r_inBlock, s_r_ops_nil, s_r_skip, s_r_seq, s_r_block, s_r_exit, exR_some, s_r_ret, s_r_loop, s_r_reg, s_r_dreg, s_d_nil, s_r_cond, cR_t, cR_f, cR_dec, s_r_ins, insR_0, insR_1, insR_2, insR_3, insR_4, callR_some, callR_none, callV_eq, callD_some, callD_none, contR_some, storeR_some, s_d_ins, insD_0, insD_1, insD_2, insD_3, contD_some, storeD_some, s_r_gins, gR_tup, gR_tt, gR_ff, gR_tf, gR_ft, gR_dec_t, gR_dec_f, s_d_gins, gD_tup, gD_tt, gD_ff, gD_tf, gD_ft, gD_dec_t, gD_dec_f, putO_nothing, putO_lo, putO_hi, mix_get, putO_some, putO_none, lit_t, lit_c, ev_t, ev_c, okind, vpre, vpure, binV_int, binV_str, binPre_int, binPre_str, intBin, intPre, strBin, strPre, popTo, argSlots, lenV_own, lenV_sl, lenV_nils, lenV_str, fldV, fldAV, subCells, idxAV_own, idxVV, idxAAV, idxSV, loadV_ptr, loadV_rp_agg, loadV_rp_int, sliceV, sliceSV, boundV, szIs, storeOp, storeS, setRowV, eff, extV, buildV, splice, eqSV, fitsL, eqCells, eqCell, minmaxV, binBV, nilCheckV, bytesV, V.cells, V.stays, upd_same, upd_upd, true_implies, false_implies, implies_true, keepS_eq, List.getD_cons_zero, List.getD_cons_succ, List.getD_nil, List.map_cons, List.map_nil, List.length_cons, List.length_nil, List.drop_succ_cons, List.drop_zero, List.take_succ_cons, List.take_zero, List.set_cons_zero, List.set_cons_succ, List.append_nil, List.nil_append, List.cons_append, List.all_cons, List.all_nil, List.getElem?_cons_zero, List.getElem?_cons_succ, List.contains_cons, List.contains_nil, Option.isSome_some, Option.map_some, Option.map_none, true_and, and_true, and_self, Int.reduceEq, Int.reduceNe, Int.reduceLT, Int.reduceLE, Int.reduceGT, Int.reduceGE, Nat.reduceEqDiff, Nat.reduceAdd, Nat.reduceMul, Nat.reduceLeDiff, Nat.reduceSub, Nat.reduceLT, Nat.reduceBEq, Nat.zero_add, Nat.add_zero, ↓reduceIte, reduceCtorEq, ← decide_not, Bool.not_true, Bool.not_false, Bool.false_eq_true, Bool.or_true, Bool.true_or, Bool.or_false, Bool.false_or, Bool.true_and, Bool.and_true, Bool.and_self, decide_true, decide_false, decide_eq_true_eq, a1, a5, O12_65, readInts_own, intsOf_int, intsOf_nil, readInts_encI _ hwl, cR_b, lenV_encI, dec_true (List.all _ _)]
        refine And.intro (fun q3 => ?_) (fun q3 => RetV.pure hs (by rw [hok2]; simp [mx] at q3 ⊢; simp [q3]))
        refine RetV.pure hs ?_
        rw [hok2]
        simp only [mx, q1, q2, q3, z, w1, w2, w3]
        simp
    · have hok3 : x.ok = (decide (x.st = Sty.zero) && (decide (x.line = 0) && decide (x.space = 0) && decide (x.words.length = 0) && isFrom x.w 1 mx && isFrom x.h 1 mx &&
          (decide (x.kind = 3) && decide (x.side = 0) || decide (x.kind = 4) && isFrom x.side 1 2))) := by
        by_cases hst : x.st = Sty.zero <;> simp [Nd.ok, k1, k2, hst]
      by_cases k3 : x.kind = 3
      · simp -implicitDefEqProofs only [s_r_nil, Ret_one, Ret_two, Ret_three, Ret_none, Ret_cell_one, Ret_cell_two, onSome_some, s_r_stop, s_r_inBlock, s_r_ops_nil, s_r_skip, s_r_seq, s_r_block, s_r_exit, exR_some, s_r_ret, s_r_loop, s_r_reg, s_r_dreg, s_d_nil, s_r_cond, cR_t, cR_f, cR_dec, s_r_ins, insR_0, insR_1, insR_2, insR_3, insR_4, callR_some, callR_none, callV_eq, callD_some, callD_none, contR_some, storeR_some, s_d_ins, insD_0, insD_1, insD_2, insD_3, contD_some, storeD_some, s_r_gins, gR_tup, gR_tt, gR_ff, gR_tf, gR_ft, gR_dec_t, gR_dec_f, s_d_gins, gD_tup, gD_tt, gD_ff, gD_tf, gD_ft, gD_dec_t, gD_dec_f, putO_nothing, putO_lo, putO_hi, mix_get, putO_some, putO_none, lit_t, lit_c, ev_t, ev_c, okind, vpre, vpure, binV_int, binV_str, binPre_int, binPre_str, intBin, intPre, strBin, strPre, popTo, argSlots, lenV_own, lenV_sl, lenV_nils, lenV_str, fldV, fldAV, subCells, idxAV_own, idxVV, idxAAV, idxSV, loadV_ptr, loadV_rp_agg, loadV_rp_int, sliceV, sliceSV, boundV, szIs, storeOp, storeS, setRowV, eff, extV, buildV, splice, eqSV, fitsL, eqCells, eqCell, minmaxV, binBV, nilCheckV, bytesV, V.cells, V.stays, upd_same, upd_upd, true_implies, false_implies, implies_true, keepS_eq, List.getD_cons_zero, List.getD_cons_succ, List.getD_nil, List.map_cons, List.map_nil, List.length_cons, List.length_nil, List.drop_succ_cons, List.drop_zero, List.take_succ_cons, List.take_zero, List.set_cons_zero, List.set_cons_succ, List.append_nil, List.nil_append, List.cons_append, List.all_cons, List.all_nil, List.getElem?_cons_zero, List.getElem?_cons_succ, List.contains_cons, List.contains_nil, Option.isSome_some, Option.map_some, Option.map_none, true_and, and_true, and_self, Int.reduceEq, Int.reduceNe, Int.reduceLT, Int.reduceLE, Int.reduceGT, Int.reduceGE, Nat.reduceEqDiff, Nat.reduceAdd, Nat.reduceMul, Nat.reduceLeDiff, Nat.reduceSub, Nat.reduceLT, Nat.reduceBEq, Nat.zero_add, Nat.add_zero, ↓reduceIte, reduceCtorEq, ← decide_not, Bool.not_true, Bool.not_false, Bool.false_eq_true, Bool.or_true, Bool.true_or, Bool.or_false, Bool.false_or, Bool.true_and, Bool.and_true, Bool.and_self, decide_true, decide_false, decide_eq_true_eq, a1, a3, upd_ne n13, isZero_eq, lenV_encI, k1, k2, k3, O12_64, cR_b, upd_same]
        repeat' (first
          | with_reducible refine And.intro (fun h => ?_) (fun h => ?_)
          | with_reducible refine RetV.pure hs ?_
          | (refine effR_new fun id4 σ3 s3 a4 f4 => ?_
             have a1 := s3 id1 _ (by rw [upd_ne n13]; exact a1)
             have a3 := s3 id3 _ upd_same
             simp -implicitDefEqProofs only [s_r_nil, Ret_one, Ret_two, Ret_three, Ret_none, Ret_cell_one, Ret_cell_two, onSome_some, s_r_stop, s_r_inBlock, s_r_ops_nil, s_r_skip, s_r_seq, s_r_block, s_r_exit, exR_some, s_r_ret, s_r_loop, s_r_reg, s_r_dreg, s_d_nil, s_r_cond, cR_t, cR_f, cR_dec, s_r_ins, insR_0, insR_1, insR_2, insR_3, insR_4, callR_some, callR_none, callV_eq, callD_some, callD_none, contR_some, storeR_some, s_d_ins, insD_0, insD_1, insD_2, insD_3, contD_some, storeD_some, s_r_gins, gR_tup, gR_tt, gR_ff, gR_tf, gR_ft, gR_dec_t, gR_dec_f, s_d_gins, gD_tup, gD_tt, gD_ff, gD_tf, gD_ft, gD_dec_t, gD_dec_f, putO_nothing, putO_lo, putO_hi, mix_get, putO_some, putO_none, lit_t, lit_c, ev_t, ev_c, okind, vpre, vpure, binV_int, binV_str, binPre_int, binPre_str, intBin, intPre, strBin, strPre, popTo, argSlots, lenV_own, lenV_sl, lenV_nils, lenV_str, fldV, fldAV, subCells, idxAV_own, idxVV, idxAAV, idxSV, loadV_ptr, loadV_rp_agg, loadV_rp_int, sliceV, sliceSV, boundV, szIs, storeOp, storeS, setRowV, eff, extV, buildV, splice, eqSV, fitsL, eqCells, eqCell, minmaxV, binBV, nilCheckV, bytesV, V.cells, V.stays, upd_same, upd_upd, true_implies, false_implies, implies_true, keepS_eq, List.getD_cons_zero, List.getD_cons_succ, List.getD_nil, List.map_cons, List.map_nil, List.length_cons, List.length_nil, List.drop_succ_cons, List.drop_zero, List.take_succ_cons, List.take_zero, List.set_cons_zero, List.set_cons_succ, List.append_nil, List.nil_append, List.cons_append, List.all_cons, List.all_nil, List.getElem?_cons_zero, List.getElem?_cons_succ, List.contains_cons, List.contains_nil, Option.isSome_some, Option.map_some, Option.map_none, true_and, and_true, and_self, Int.reduceEq, Int.reduceNe, Int.reduceLT, Int.reduceLE, Int.reduceGT, Int.reduceGE, Nat.reduceEqDiff, Nat.reduceAdd, Nat.reduceMul, Nat.reduceLeDiff, Nat.reduceSub, Nat.reduceLT, Nat.reduceBEq, Nat.zero_add, Nat.add_zero, ↓reduceIte, reduceCtorEq, ← decide_not, Bool.not_true, Bool.not_false, Bool.false_eq_true, Bool.or_true, Bool.true_or, Bool.or_false, Bool.false_or, Bool.true_and, Bool.and_true, Bool.and_self, decide_true, decide_false, decide_eq_true_eq, a1, a3, a4, O12_65, readInts_own, intsOf_int, intsOf_nil, isFrom, List.all_cons, List.all_nil, ← Bool.decide_and]
             refine RetV.pure (hs.trans s3) ?_))
        all_goals (rw [V.bool.injEq, hok3, Bool.eq_iff_iff]; simp_all [isFrom, mx] <;> omega)
      · simp -implicitDefEqProofs only [s_r_nil, Ret_one, Ret_two, Ret_three, Ret_none, Ret_cell_one, Ret_cell_two, onSome_some, s_r_stop, s_r_inBlock, s_r_ops_nil, s_r_skip, s_r_seq, s_r_block, s_r_exit, exR_some, s_r_ret, s_r_loop, s_r_reg, s_r_dreg, s_d_nil, s_r_cond, cR_t, cR_f, cR_dec, s_r_ins, insR_0, insR_1, insR_2, insR_3, insR_4, callR_some, callR_none, callV_eq, callD_some, callD_none, contR_some, storeR_some, s_d_ins, insD_0, insD_1, insD_2, insD_3, contD_some, storeD_some, s_r_gins, gR_tup, gR_tt, gR_ff, gR_tf, gR_ft, gR_dec_t, gR_dec_f, s_d_gins, gD_tup, gD_tt, gD_ff, gD_tf, gD_ft, gD_dec_t, gD_dec_f, putO_nothing, putO_lo, putO_hi, mix_get, putO_some, putO_none, lit_t, lit_c, ev_t, ev_c, okind, vpre, vpure, binV_int, binV_str, binPre_int, binPre_str, intBin, intPre, strBin, strPre, popTo, argSlots, lenV_own, lenV_sl, lenV_nils, lenV_str, fldV, fldAV, subCells, idxAV_own, idxVV, idxAAV, idxSV, loadV_ptr, loadV_rp_agg, loadV_rp_int, sliceV, sliceSV, boundV, szIs, storeOp, storeS, setRowV, eff, extV, buildV, splice, eqSV, fitsL, eqCells, eqCell, minmaxV, binBV, nilCheckV, bytesV, V.cells, V.stays, upd_same, upd_upd, true_implies, false_implies, implies_true, keepS_eq, List.getD_cons_zero, List.getD_cons_succ, List.getD_nil, List.map_cons, List.map_nil, List.length_cons, List.length_nil, List.drop_succ_cons, List.drop_zero, List.take_succ_cons, List.take_zero, List.set_cons_zero, List.set_cons_succ, List.append_nil, List.nil_append, List.cons_append, List.all_cons, List.all_nil, List.getElem?_cons_zero, List.getElem?_cons_succ, List.contains_cons, List.contains_nil, Option.isSome_some, Option.map_some, Option.map_none, true_and, and_true, and_self, Int.reduceEq, Int.reduceNe, Int.reduceLT, Int.reduceLE, Int.reduceGT, Int.reduceGE, Nat.reduceEqDiff, Nat.reduceAdd, Nat.reduceMul, Nat.reduceLeDiff, Nat.reduceSub, Nat.reduceLT, Nat.reduceBEq, Nat.zero_add, Nat.add_zero, ↓reduceIte, reduceCtorEq, ← decide_not, Bool.not_true, Bool.not_false, Bool.false_eq_true, Bool.or_true, Bool.true_or, Bool.or_false, Bool.false_or, Bool.true_and, Bool.and_true, Bool.and_self, decide_true, decide_false, decide_eq_true_eq, a1, a3, upd_ne n13, isZero_eq, lenV_encI, k1, k2, k3, k4, O12_64, cR_b, upd_same]
        repeat' (first
          | with_reducible refine And.intro (fun h => ?_) (fun h => ?_)
          | with_reducible refine RetV.pure hs ?_)
        all_goals (rw [V.bool.injEq, hok3]; simp [k3, k4])
end Go.Vc
/- Contracts: the code's Is: the rows' ends on a stack. -/
namespace Go.Vc
open Go.Proofs

/-- ends that are reached are taken away, but for the last one -/
def pops (i : Nat) : List Int → List Int
  | a :: b :: s => if a = i then pops i (b :: s) else a :: b :: s
  | s => s
def isS : List Nd → Nat → List Int → Bool
  | [], _, _ => true
  | x :: r, i, stk => match pops i stk with
    | [] => false
    | a :: s => if x.ok = true ∧ 1 ≤ x.size ∧ x.size ≤ a - i ∧ (x.kind = 1 ∨ x.size ≤ 1) then isS r (i + 1) ((i + x.size) :: a :: s) else false

/-- from lo on up to n -/
def Asc (n : Nat) : Nat → List Int → Prop
  | lo, [] => lo = n
  | lo, a :: s => (lo : Int) ≤ a ∧ Asc n a.toNat s
def chainB (l : List Nd) : Nat → List Int → Bool
  | _, [] => true
  | lo, a :: s => rowsB l lo a.toNat && chainB l a.toNat s

theorem rowsB_nil (l : List Nd) (a : Nat) : rowsB l a a = true := by rw [rowsB, dif_neg (Nat.lt_irrefl a)]

theorem pops_law (l : List Nd) (n i : Nat) (hi : i < n) : ∀ stk, Asc n i stk → ∃ a s, pops i stk = a :: s ∧ (i : Int) < a ∧ Asc n i (a :: s) ∧ chainB l i (a :: s) = chainB l i stk
  | [], h => by simp only [Asc] at h; omega
  | [a], h => by
    have h' := h
    simp only [Asc] at h'
    exact ⟨a, [], rfl, by omega, h, rfl⟩
  | a :: b :: s, h => by
    by_cases ha : a = i
    · have h' := h.2
      rw [ha, Int.toNat_natCast] at h'
      obtain ⟨c, t, g1, g2, g3, g4⟩ := pops_law l n i hi (b :: s) h'
      refine ⟨c, t, by simp [pops, ha, g1], g2, g3, ?_⟩
      rw [g4]
      show _ = (rowsB l i a.toNat && chainB l a.toNat (b :: s))
      rw [ha, Int.toNat_natCast, rowsB_nil, Bool.true_and]
    · have h' := h.1
      exact ⟨a, b :: s, by simp [pops, ha], by omega, h, rfl⟩

theorem isS_law (l : List Nd) : ∀ (r : List Nd) (i : Nat) (stk : List Int), l.drop i = r → Asc l.length i stk → isS r i stk = (r.all Nd.ok && chainB l i stk)
  | [], i, stk, hr, hs => by
    have hi : l.length ≤ i := by simpa using hr
    have key : ∀ (stk : List Int) (lo : Nat), l.length ≤ lo → Asc l.length lo stk → chainB l lo stk = true := by
      intro stk
      induction stk with
      | nil => intro _ _ _; rfl
      | cons a s ih =>
        intro lo hlo h
        have h1 := h.1
        simp only [chainB]
        rw [ih a.toNat (by omega) h.2, rowsB, Bool.and_true]
        split
        · have : l[lo]? = none := by simp [hlo]
          rw [this]
          -- past the end: only an empty row
          have hend : ∀ (stk : List Int) (lo : Nat), Asc l.length lo stk → lo ≤ l.length := by
            intro stk
            induction stk with
            | nil => intro lo h; simp only [Asc] at h; omega
            | cons b t ih => intro lo h; have := h.1; have := ih _ h.2; omega
          have := hend _ _ h.2
          omega
        · rfl
    simp [isS, key stk i hi hs]
  | x :: r, i, stk, hr, hs => by
    have hi : i < l.length := by
      rcases Nat.lt_or_ge i l.length with h | h
      · exact h
      · rw [List.drop_eq_nil_of_le h] at hr; cases hr
    have hx : l[i]? = some x := by
      have : (l.drop i)[0]? = some x := by rw [hr]; rfl
      simpa using this
    have hr' : l.drop (i + 1) = r := by
      have : (l.drop i).drop 1 = r := by rw [hr]; rfl
      simpa using this
    obtain ⟨a, s, h1, h2, h3, h4⟩ := pops_law l l.length i hi stk hs
    rw [isS, h1]
    simp only
    rw [← h4]
    simp only [chainB, List.all_cons]
    have hrow : rowsB l i a.toNat = if _hx : 1 ≤ x.size ∧ x.size ≤ (a.toNat : Int) - i then
        (decide (x.kind = 1) || decide (x.size ≤ 1)) && rowsB l (i + 1) (i + x.size.toNat) && rowsB l (i + x.size.toNat) a.toNat else false := by
      rw [rowsB, dif_pos (by omega), hx]
    rw [hrow]
    have hat : (a.toNat : Int) = a := by omega
    rw [hat]
    by_cases hc : 1 ≤ x.size ∧ x.size ≤ a - i
    · rw [dif_pos hc]
      have e : (i + x.size).toNat = i + x.size.toNat := by omega
      have ih := isS_law l r (i + 1) ((i + x.size) :: a :: s) hr' ⟨by omega, by rw [e]; omega, h3.2⟩
      by_cases hk : x.ok = true ∧ (x.kind = 1 ∨ x.size ≤ 1)
      · rw [if_pos ⟨hk.1, hc.1, hc.2, hk.2⟩, ih]
        simp only [chainB, e, hk.1, Bool.true_and]
        have : (decide (x.kind = 1) || decide (x.size ≤ 1)) = true := by simpa using hk.2
        rw [this, Bool.true_and, Bool.and_assoc]
      · rw [if_neg (fun h => hk ⟨h.1, h.2.2.2⟩)]
        symm
        rw [Bool.eq_false_iff]
        intro h
        simp only [Bool.and_eq_true, Bool.or_eq_true, decide_eq_true_eq] at h
        exact hk ⟨h.1.1, h.2.1.1.1⟩
    · rw [dif_neg hc, if_neg (fun h => hc ⟨h.2.1, h.2.2.1⟩)]
      simp

theorem isS_isB (l : List Nd) : isS l 0 [(l.length : Int)] = isB l := by
  rw [isS_law l l 0 [(l.length : Int)] rfl ⟨by omega, by simp [Asc]⟩]
  simp [chainB, isB]
end Go.Vc
/- Contracts: the code's Is, the walk. -/
namespace Go.Vc
open Go.Proofs

/-- a node's numbers, read -/
def o14 (f : FuncId) (args : List V) : Option V := if f = 35 then (match args with
  | [.agg [.int .i64 a0, .int .i64 a1, .int .i64 a2, .int .i64 a3, .int .i64 a4, .int .i64 a5, .int .i64 a6, .int .i64 a7, .int .i64 a8, .int .i64 a9, .int .i64 a10, .int .i64 a11, .int .i64 a12, .int .i64 a13, .int .i64 a14, .int .i64 a15, .sl 1 rows, .int .i64 a17, .int .i64 a18, .int .i64 a19]] =>
    (intsOf rows).bind fun ws => if ws.length ≤ 200000000000000 then some (.bool (Nd.ok ⟨a0, a1, ⟨a2, a3, a4, a5, a6, a7, a8, a9, a10, a11, a12, a13⟩, a14, a15, ws, a17, a18, a19⟩)) else none
  | _ => none) else none
def O14 : Orc Try.prog where
  get f args _ := o14 f args
  ok f args σ v h := by
    unfold o14 at h
    split at h
    · rename_i hf
      subst hf
      split at h
      · rw [Option.bind_eq_some_iff] at h
        obtain ⟨ws, h1, h2⟩ := h
        split at h2
        · rename_i hw
          simp only [Option.some.injEq] at h2
          subst h2
          rw [intsOf_eq h1]
          exact fits_c ⟨_, _, ⟨_, _, _, _, _, _, _, _, _, _, _, _⟩, _, _, ws, _, _, _⟩ hw σ
        · cases h2
      · cases h
    · cases h
theorem O14_35 {x : Nd} (hw : x.words.length ≤ 200000000000000) (σ : Store) : O14.get 35 [.agg [.int .i64 x.kind, .int .i64 x.size, .int .i64 x.st.top, .int .i64 x.st.bottom, .int .i64 x.st.padTop, .int .i64 x.st.padBottom, .int .i64 x.st.inset, .int .i64 x.st.orphans, .int .i64 x.st.widows, .int .i64 x.st.head, .int .i64 x.st.before, .int .i64 x.st.after, .int .i64 x.st.inside, .int .i64 x.st.clear, .int .i64 x.line, .int .i64 x.space, encI x.words, .int .i64 x.side, .int .i64 x.w, .int .i64 x.h]] σ =
    some (.bool x.ok) := by
  show ((intsOf (x.words.map vI)).bind fun ws => if ws.length ≤ 200000000000000 then some (V.bool (Nd.ok ⟨x.kind, x.size, ⟨x.st.top, x.st.bottom, x.st.padTop, x.st.padBottom, x.st.inset, x.st.orphans, x.st.widows, x.st.head, x.st.before, x.st.after, x.st.inside, x.st.clear⟩, x.line, x.space, ws, x.side, x.w, x.h⟩)) else none) = _
  rw [intsOf_map, Option.bind_some, if_pos hw]

/-- the row of ends, as the store holds it -/
structure Ends (σ0 : Store) (stk : List Int) (st : St) (d : Nat) (e k : Nat) (rows : List V) : Prop where
  s : st.s d = .own e 0 k
  row : st.σ e = some ⟨3, 1, rows⟩
  new : σ0 e = none
  len : k = stk.length
  le : k ≤ rows.length
  take : rows.take k = stk.reverse.map vI

theorem ends_top {rows : List V} {k : Nat} {a : Int} {s : List Int} (hk : k = (a :: s).length) (ht : rows.take k = (a :: s).reverse.map vI) : rows[k - 1]? = some (.int .i64 a) ∧ rows.take (k - 1) = s.reverse.map vI := by
  simp only [List.length_cons] at hk
  have h1 : (rows.take k)[k - 1]? = rows[k - 1]? := by rw [List.getElem?_take, if_pos (by omega)]
  constructor
  · rw [← h1, ht, hk]
    simp
  · have h2 : rows.take (k - 1) = (rows.take k).take (k - 1) := by rw [List.take_take]; congr 1; omega
    rw [h2, ht, hk]
    simp

theorem Asc.le {n : Nat} : ∀ {stk : List Int} {lo : Nat}, Asc n lo stk → lo ≤ n
  | [], lo, h => by simp only [Asc] at h; omega
  | a :: s, lo, h => by have h1 := h.1; have h2 := Asc.le h.2; omega
theorem SubStore.delK {σ0 σ : Store} {e : Nat} (h : SubStore σ0 σ) (he : σ0 e = Option.none) : SubStore σ0 (del σ e) := fun i x hx => by
  have hne : i ≠ e := fun e' => by rw [e', he] at hx; cases hx
  rw [del_ne hne]
  exact h i x hx

set_option maxRecDepth 100000 in
theorem isv_c (l : List Nd) (hl : Fine l) : PFun Try.prog 13 [encNs l] (.bool (isB l)) := fun σ => by
  have hl0 := hl
  obtain ⟨hl1, hl2⟩ := hl
  refine Contract.of_runs Try.func13 e13 k13 (by simp [c13]) ?_
  refine Runs.mix 6 ?_
  (refine Runs.of_step Orc.nothing 300 ?_; simp -implicitDefEqProofs only [s_r_nil, Ret_one, Ret_two, Ret_three, Ret_none, Ret_cell_one, Ret_cell_two, onSome_some, s_r_stop, s_r_inBlock, s_r_ops_nil, s_r_skip, s_r_seq, s_r_block, s_r_exit, exR_some, s_r_ret, s_r_loop, s_r_reg, s_r_dreg, s_d_nil, s_r_cond, cR_t, cR_f, cR_dec, s_r_ins, insR_0, insR_1, insR_2, insR_3, insR_4, callR_some, callR_none, callV_eq, callD_some, callD_none, contR_some, storeR_some, effR_some, s_d_ins, insD_0, insD_1, insD_2, insD_3, contD_some, storeD_some, effD_some, s_r_gins, gR_tup, gR_tt, gR_ff, gR_tf, gR_ft, gR_dec_t, gR_dec_f, s_d_gins, gD_tup, gD_tt, gD_ff, gD_tf, gD_ft, gD_dec_t, gD_dec_f, putO_nothing, putO_lo, putO_hi, mix_get, putO_some, putO_none, lit_t, lit_c, ev_t, ev_c, okind, vpre, vpure, binV_int, binV_str, binPre_int, binPre_str, intBin, intPre, strBin, strPre, popTo, argSlots, lenV_own, lenV_sl, lenV_nils, lenV_str, fldV, fldAV, subCells, idxAV_own, idxVV, idxAAV, idxSV, loadV_ptr, loadV_rp_agg, loadV_rp_int, sliceV, sliceSV, boundV, szIs, storeOp, storeS, setRowV, eff, extV, buildV, splice, eqSV, fitsL, eqCells, eqCell, minmaxV, binBV, nilCheckV, bytesV, V.cells, V.stays, upd_same, upd_upd, true_implies, false_implies, implies_true, keepS_eq, List.getD_cons_zero, List.getD_cons_succ, List.getD_nil, List.map_cons, List.map_nil, List.length_cons, List.length_nil, List.drop_succ_cons, List.drop_zero, List.take_succ_cons, List.take_zero, List.set_cons_zero, List.set_cons_succ, List.append_nil, List.nil_append, List.cons_append, List.all_cons, List.all_nil, List.getElem?_cons_zero, List.getElem?_cons_succ, List.contains_cons, List.contains_nil, Option.isSome_some, Option.map_some, Option.map_none, true_and, and_true, and_self, Int.reduceEq, Int.reduceNe, Int.reduceLT, Int.reduceLE, Int.reduceGT, Int.reduceGE, Nat.reduceEqDiff, Nat.reduceAdd, Nat.reduceMul, Nat.reduceLeDiff, Nat.reduceSub, Nat.reduceLT, Nat.reduceBEq, Nat.zero_add, Nat.add_zero, ↓reduceIte, reduceCtorEq, ← decide_not, Bool.not_true, Bool.not_false, Bool.false_eq_true, Bool.or_true, Bool.true_or, Bool.or_false, Bool.false_or, Bool.true_and, Bool.and_true, Bool.and_self, decide_true, decide_false, decide_eq_true_eq, Orc.nothing, c13, lenV_encNs])
  intro e0 he0
  refine Runs.loop (fun m st => ∃ i stk e k rows, i ≤ l.length ∧ m = l.length - i ∧ isB l = isS (l.drop i) i stk ∧ Asc l.length i stk ∧ stk ≠ [] ∧ stk.length ≤ i + 1 ∧ SubStore σ st.σ ∧ st.σ e = some ⟨3, 1, rows⟩ ∧ σ e = none ∧ k = stk.length ∧ k ≤ rows.length ∧ rows.take k = stk.reverse.map vI ∧
    st.s 3 = .own e 0 k ∧ st.s 9 = encNs l ∧ st.s 10 = vI l.length ∧ st.s 11 = vI i) l.length ?_ ?_
  · refine ⟨0, [(l.length : Int)], e0, 1, [vI l.length], by omega, by omega, by rw [← isS_isB]; rfl, ⟨by omega, by simp [Asc]⟩, by simp, by simp, (SubStore.refl σ).upd he0, upd_same, he0, rfl, by simp, rfl, rfl, rfl, rfl, rfl⟩
  · rintro m ⟨s, σ'⟩ ⟨i, stk, e, k, rows, hi, rfl, hB, hasc, hne, hsl, hsub, hrow, hnew, hk, hkr, htk, h3, h9, h10, h11⟩
    simp only at hsub hrow h3 h9 h10 h11
    refine Runs.mix 6 ?_
    (refine Runs.of_step Orc.nothing 300 ?_; simp -implicitDefEqProofs only [s_r_nil, Ret_one, Ret_two, Ret_three, Ret_none, Ret_cell_one, Ret_cell_two, onSome_some, s_r_stop, s_r_inBlock, s_r_ops_nil, s_r_skip, s_r_seq, s_r_block, s_r_exit, exR_some, s_r_ret, s_r_loop, s_r_reg, s_r_dreg, s_d_nil, s_r_cond, cR_t, cR_f, cR_dec, s_r_ins, insR_0, insR_1, insR_2, insR_3, insR_4, callR_some, callR_none, callV_eq, callD_some, callD_none, contR_some, storeR_some, effR_some, s_d_ins, insD_0, insD_1, insD_2, insD_3, contD_some, storeD_some, effD_some, s_r_gins, gR_tup, gR_tt, gR_ff, gR_tf, gR_ft, gR_dec_t, gR_dec_f, s_d_gins, gD_tup, gD_tt, gD_ff, gD_tf, gD_ft, gD_dec_t, gD_dec_f, putO_nothing, putO_lo, putO_hi, mix_get, putO_some, putO_none, lit_t, lit_c, ev_t, ev_c, okind, vpre, vpure, binV_int, binV_str, binPre_int, binPre_str, intBin, intPre, strBin, strPre, popTo, argSlots, lenV_own, lenV_sl, lenV_nils, lenV_str, fldV, fldAV, subCells, idxAV_own, idxVV, idxAAV, idxSV, loadV_ptr, loadV_rp_agg, loadV_rp_int, sliceV, sliceSV, boundV, szIs, storeOp, storeS, setRowV, eff, extV, buildV, splice, eqSV, fitsL, eqCells, eqCell, minmaxV, binBV, nilCheckV, bytesV, V.cells, V.stays, upd_same, upd_upd, true_implies, false_implies, implies_true, keepS_eq, List.getD_cons_zero, List.getD_cons_succ, List.getD_nil, List.map_cons, List.map_nil, List.length_cons, List.length_nil, List.drop_succ_cons, List.drop_zero, List.take_succ_cons, List.take_zero, List.set_cons_zero, List.set_cons_succ, List.append_nil, List.nil_append, List.cons_append, List.all_cons, List.all_nil, List.getElem?_cons_zero, List.getElem?_cons_succ, List.contains_cons, List.contains_nil, Option.isSome_some, Option.map_some, Option.map_none, true_and, and_true, and_self, Int.reduceEq, Int.reduceNe, Int.reduceLT, Int.reduceLE, Int.reduceGT, Int.reduceGE, Nat.reduceEqDiff, Nat.reduceAdd, Nat.reduceMul, Nat.reduceLeDiff, Nat.reduceSub, Nat.reduceLT, Nat.reduceBEq, Nat.zero_add, Nat.add_zero, ↓reduceIte, reduceCtorEq, ← decide_not, Bool.not_true, Bool.not_false, Bool.false_eq_true, Bool.or_true, Bool.true_or, Bool.or_false, Bool.false_or, Bool.true_and, Bool.and_true, Bool.and_self, decide_true, decide_false, decide_eq_true_eq, Orc.nothing, h3, h9, h10, h11])
    refine And.intro (fun hlt => ?_) (fun hge => ?_)
    · have hlt' : i < l.length := by simp at hlt; omega
      have hd : l.drop i = l[i] :: l.drop (i + 1) := List.drop_eq_getElem_cons hlt'
      have hxw : l[i].words.length ≤ 200000000000000 := hl2 _ (List.getElem_mem hlt')
      rw [hd] at hB
      generalize hxe : l[i] = x at *
      simp -implicitDefEqProofs only [s_r_nil, Ret_one, Ret_two, Ret_three, Ret_none, Ret_cell_one, Ret_cell_two, onSome_some, s_r_stop, s_r_inBlock, s_r_ops_nil, s_r_skip, s_r_seq, s_r_block, s_r_exit, exR_some, s_r_ret, s_r_loop, s_r_reg, s_r_dreg, s_d_nil, s_r_cond, cR_t, cR_f, cR_dec, s_r_ins, insR_0, insR_1, insR_2, insR_3, insR_4, callR_some, callR_none, callV_eq, callD_some, callD_none, contR_some, storeR_some, effR_some, s_d_ins, insD_0, insD_1, insD_2, insD_3, contD_some, storeD_some, effD_some, s_r_gins, gR_tup, gR_tt, gR_ff, gR_tf, gR_ft, gR_dec_t, gR_dec_f, s_d_gins, gD_tup, gD_tt, gD_ff, gD_tf, gD_ft, gD_dec_t, gD_dec_f, putO_nothing, putO_lo, putO_hi, mix_get, putO_some, putO_none, lit_t, lit_c, ev_t, ev_c, okind, vpre, vpure, binV_int, binV_str, binPre_int, binPre_str, intBin, intPre, strBin, strPre, popTo, argSlots, lenV_own, lenV_sl, lenV_nils, lenV_str, fldV, fldAV, subCells, idxAV_own, idxVV, idxAAV, idxSV, loadV_ptr, loadV_rp_agg, loadV_rp_int, sliceV, sliceSV, boundV, szIs, storeOp, storeS, setRowV, eff, extV, buildV, splice, eqSV, fitsL, eqCells, eqCell, minmaxV, binBV, nilCheckV, bytesV, V.cells, V.stays, upd_same, upd_upd, true_implies, false_implies, implies_true, keepS_eq, List.getD_cons_zero, List.getD_cons_succ, List.getD_nil, List.map_cons, List.map_nil, List.length_cons, List.length_nil, List.drop_succ_cons, List.drop_zero, List.take_succ_cons, List.take_zero, List.set_cons_zero, List.set_cons_succ, List.append_nil, List.nil_append, List.cons_append, List.all_cons, List.all_nil, List.getElem?_cons_zero, List.getElem?_cons_succ, List.contains_cons, List.contains_nil, Option.isSome_some, Option.map_some, Option.map_none, true_and, and_true, and_self, Int.reduceEq, Int.reduceNe, Int.reduceLT, Int.reduceLE, Int.reduceGT, Int.reduceGE, Nat.reduceEqDiff, Nat.reduceAdd, Nat.reduceMul, Nat.reduceLeDiff, Nat.reduceSub, Nat.reduceLT, Nat.reduceBEq, Nat.zero_add, Nat.add_zero, ↓reduceIte, reduceCtorEq, ← decide_not, Bool.not_true, Bool.not_false, Bool.false_eq_true, Bool.or_true, Bool.true_or, Bool.or_false, Bool.false_or, Bool.true_and, Bool.and_true, Bool.and_self, decide_true, decide_false, decide_eq_true_eq, idxAV_encNs hlt', hxe, loadV_rp_node, h3, h9, h10, h11, Nd.cells]
      intro id5 hid5
      replace hid5 : σ' id5 = none := hid5
      have n5e : e ≠ id5 := by rintro rfl; rw [hrow] at hid5; cases hid5
      have n5n : σ id5 = none := hsub.none hid5
      refine Runs.loop (fun m st => ∃ stk' k', m = stk'.length ∧ pops i stk = pops i stk' ∧ Asc l.length i stk' ∧ stk' ≠ [] ∧ stk'.length ≤ stk.length ∧ st.σ = upd σ' id5 ⟨28, 20, [.agg x.cells]⟩ ∧ k' = stk'.length ∧ k' ≤ rows.length ∧ rows.take k' = stk'.reverse.map vI ∧
        st.s 3 = .own e 0 k' ∧ st.s 4 = vI i ∧ st.s 5 = .ptr id5 0 0 ∧ st.s 9 = encNs l ∧ st.s 10 = vI l.length ∧ st.s 11 = vI i) stk.length ?_ ?_
      · exact ⟨stk, k, rfl, rfl, hasc, hne, Nat.le_refl _, rfl, hk, hkr, htk, h3, rfl, rfl, h9, h10, h11⟩
      · rintro m ⟨s, σ''⟩ ⟨stk', k', rfl, hpop, hasc', hne', hsl', hσ, hk', hkr', htk', h3, h4, h5, h9, h10, h11⟩
        simp only at hσ h3 h4 h5 h9 h10 h11
        subst hσ
        obtain ⟨a, tl, rfl⟩ := List.exists_cons_of_ne_nil hne'
        obtain ⟨htop, htk2⟩ := ends_top hk' htk'
        have hkpos : 1 ≤ k' := by rw [hk']; simp
        have g0 : (k' : Int) - 1 < k' := by omega
        have g1 : (0 : Int) ≤ (k' : Int) - 1 := by omega
        have g2 : (k' : Int) - 1 ≤ k' := by omega
        have g3 : ((k' : Int) - 1).toNat = k' - 1 := by omega
        have hrng : inR .i64 ((k' : Int) - 1) := inR_i64 (by omega) (by omega)
        refine Runs.mix 6 ?_
        (refine Runs.of_step O14 300 ?_; simp -implicitDefEqProofs only [s_r_nil, Ret_one, Ret_two, Ret_three, Ret_none, Ret_cell_one, Ret_cell_two, onSome_some, s_r_stop, s_r_inBlock, s_r_ops_nil, s_r_skip, s_r_seq, s_r_block, s_r_exit, exR_some, s_r_ret, s_r_loop, s_r_reg, s_r_dreg, s_d_nil, s_r_cond, cR_t, cR_f, cR_dec, s_r_ins, insR_0, insR_1, insR_2, insR_3, insR_4, callR_some, callR_none, callV_eq, callD_some, callD_none, contR_some, storeR_some, effR_some, s_d_ins, insD_0, insD_1, insD_2, insD_3, contD_some, storeD_some, effD_some, s_r_gins, gR_tup, gR_tt, gR_ff, gR_tf, gR_ft, gR_dec_t, gR_dec_f, s_d_gins, gD_tup, gD_tt, gD_ff, gD_tf, gD_ft, gD_dec_t, gD_dec_f, putO_nothing, putO_lo, putO_hi, mix_get, putO_some, putO_none, lit_t, lit_c, ev_t, ev_c, okind, vpre, vpure, binV_int, binV_str, binPre_int, binPre_str, intBin, intPre, strBin, strPre, popTo, argSlots, lenV_own, lenV_sl, lenV_nils, lenV_str, fldV, fldAV, subCells, idxAV_own, idxVV, idxAAV, idxSV, loadV_ptr, loadV_rp_agg, loadV_rp_int, sliceV, sliceSV, boundV, szIs, storeOp, storeS, setRowV, eff, extV, buildV, splice, eqSV, fitsL, eqCells, eqCell, minmaxV, binBV, nilCheckV, bytesV, V.cells, V.stays, upd_same, upd_upd, true_implies, false_implies, implies_true, keepS_eq, List.getD_cons_zero, List.getD_cons_succ, List.getD_nil, List.map_cons, List.map_nil, List.length_cons, List.length_nil, List.drop_succ_cons, List.drop_zero, List.take_succ_cons, List.take_zero, List.set_cons_zero, List.set_cons_succ, List.append_nil, List.nil_append, List.cons_append, List.all_cons, List.all_nil, List.getElem?_cons_zero, List.getElem?_cons_succ, List.contains_cons, List.contains_nil, Option.isSome_some, Option.map_some, Option.map_none, true_and, and_true, and_self, Int.reduceEq, Int.reduceNe, Int.reduceLT, Int.reduceLE, Int.reduceGT, Int.reduceGE, Nat.reduceEqDiff, Nat.reduceAdd, Nat.reduceMul, Nat.reduceLeDiff, Nat.reduceSub, Nat.reduceLT, Nat.reduceBEq, Nat.zero_add, Nat.add_zero, ↓reduceIte, reduceCtorEq, ← decide_not, Bool.not_true, Bool.not_false, Bool.false_eq_true, Bool.or_true, Bool.true_or, Bool.or_false, Bool.false_or, Bool.true_and, Bool.and_true, Bool.and_self, decide_true, decide_false, decide_eq_true_eq, h3, h4, h5, h9, h10, h11, upd_ne n5e, hrow, g0, g1, g2, g3, Int.le_refl, Int.toNat_zero, Nat.sub_zero, htop, cR_b, Nd.cells, O14_35 hxw, dec_true (Nd.ok x)])
        refine And.intro (fun h1 => ⟨hrng, And.intro (fun h2 => ?_) (fun h2 => ?_)⟩) (fun h1 => ?_)
        · obtain ⟨b, tl', rfl⟩ : ∃ b tl', tl = b :: tl' := by
            cases tl with
            | nil => simp at hk'; omega
            | cons b tl' => exact ⟨b, tl', rfl⟩
          have hp2 : pops i (a :: b :: tl') = pops i (b :: tl') := by simp [pops, h2]
          have ha2 := hasc'.2
          rw [h2, Int.toNat_natCast] at ha2
          refine ⟨hrng, _, ?_, b :: tl', k' - 1, rfl, by rw [hpop, hp2], ha2, by simp, ?_, ?_, by omega, htk2, rfl⟩
          · simp
          · simp only [List.length_cons] at hsl' ⊢; omega
          · simp only [List.length_cons] at hk' ⊢; omega
        all_goals
          have hps : pops i (a :: tl) = a :: tl := by
            cases tl with
            | nil => rfl
            | cons b tl' =>
              have : a ≠ i := by first
                | simpa using h2
                | (exfalso; simp at hk' h1; omega)
              simp [pops, this]
          obtain ⟨c, t, p1, p2, p3, p4⟩ := pops_law l l.length i hlt' (a :: tl) hasc'
          rw [hps, List.cons.injEq] at p1
          obtain ⟨rfl, rfl⟩ := p1
          have hIs : isB l = if x.ok = true ∧ 1 ≤ x.size ∧ x.size ≤ a - i ∧ (x.kind = 1 ∨ x.size ≤ 1) then isS (l.drop (i + 1)) (i + 1) ((i + x.size) :: a :: tl) else false := by
            rw [hB, isS, hpop, hps]
          have hale := Asc.le p3.2
          have hlenk : (rows.take k').length = k' := by simp; omega
          have hstk : k' ≤ i + 1 := by rw [hk']; omega
          have happ : x.ok = true ∧ 1 ≤ x.size ∧ x.size ≤ a - i ∧ (x.kind = 1 ∨ x.size ≤ 1) → ∀ (X Y : Ob) (id id1 : Nat), upd σ' id5 X id = none → upd (upd σ' id5 X) id Y id1 = none →
              isB l = isS (l.drop (i + 1)) (i + 1) ((i + x.size) :: a :: tl) ∧ Asc l.length (i + 1) ((i + x.size) :: a :: tl) ∧ SubStore σ (upd (del (upd (upd σ' id5 X) id Y) e) id1 ⟨3, 1, rows.take k' ++ [.int .i64 (i + x.size)]⟩) ∧ σ id1 = none ∧
              (rows.take k' ++ [V.int .i64 (i + x.size)]).take (k' + 1) = ((i + x.size) :: a :: tl).reverse.map vI := by
            intro hc X Y id id1 hid hid1
            rw [upd_none] at hid
            rw [upd_none, upd_none] at hid1
            rw [if_pos hc] at hIs
            refine ⟨hIs, ⟨by omega, ?_, p3.2⟩, ?_, hsub.none hid1.2.2, ?_⟩
            · have : (i + x.size).toNat = i + x.size.toNat := by omega
              omega
            · exact SubStore.updK (SubStore.delK ((hsub.updK n5n).updK (hsub.none hid.2)) hnew) (hsub.none hid1.2.2)
            · rw [List.take_of_length_le (by simp; omega), htk']
              simp
          refine And.intro (fun q1 => And.intro (fun q2 => ⟨hrng, inR_i64 (by omega) (by omega), And.intro (fun q3 => And.intro (fun q4 => And.intro (fun q5 => ?_) (fun q5 => ?_)) (fun q4 => ?_)) (fun q3 => ?_)⟩) (fun q2 => ?_)) (fun q1 => ?_)
          · refine RetV.pure (hsub.upd hid5) ?_
            rw [hIs, if_neg]
            rintro ⟨c1, c2, c3, c4⟩
            omega
          · refine ⟨inR_i64 (by omega) (by omega), ?_⟩
            intro id hid
            have hid' := (upd_none.1 hid).2
            have nie : e ≠ id := by rintro rfl; rw [hrow] at hid'; cases hid'
            have hd1 : ∀ σ, σ e = some ⟨3, 1, rows⟩ → dstRows σ 3 1 (.own e 0 k') = some (rows.take k', some e) := by
              intro σ hσ
              simp only [dstRows, hσ]
              rw [if_pos ⟨trivial, trivial, trivial, hkr'⟩]
            have hs1 : ∀ σ, σ id = some ⟨3, 1, [.int .i64 (i + x.size)]⟩ → srcRows σ 1 (.own id 0 1) = some [.int .i64 (i + x.size)] := by
              intro σ hσ
              simp only [srcRows, hσ]
              rw [if_pos (by simp)]
              simp
            have hb : (k' + 1) * 9 ≤ 140737488355328 := by omega
            simp -implicitDefEqProofs only [s_r_nil, Ret_one, Ret_two, Ret_three, Ret_none, Ret_cell_one, Ret_cell_two, onSome_some, s_r_stop, s_r_inBlock, s_r_ops_nil, s_r_skip, s_r_seq, s_r_block, s_r_exit, exR_some, s_r_ret, s_r_loop, s_r_reg, s_r_dreg, s_d_nil, s_r_cond, cR_t, cR_f, cR_dec, s_r_ins, insR_0, insR_1, insR_2, insR_3, insR_4, callR_some, callR_none, callV_eq, callD_some, callD_none, contR_some, storeR_some, effR_some, s_d_ins, insD_0, insD_1, insD_2, insD_3, contD_some, storeD_some, effD_some, s_r_gins, gR_tup, gR_tt, gR_ff, gR_tf, gR_ft, gR_dec_t, gR_dec_f, s_d_gins, gD_tup, gD_tt, gD_ff, gD_tf, gD_ft, gD_dec_t, gD_dec_f, putO_nothing, putO_lo, putO_hi, mix_get, putO_some, putO_none, lit_t, lit_c, ev_t, ev_c, okind, vpre, vpure, binV_int, binV_str, binPre_int, binPre_str, intBin, intPre, strBin, strPre, popTo, argSlots, lenV_own, lenV_sl, lenV_nils, lenV_str, fldV, fldAV, subCells, idxAV_own, idxVV, idxAAV, idxSV, loadV_ptr, loadV_rp_agg, loadV_rp_int, sliceV, sliceSV, boundV, szIs, storeOp, storeS, setRowV, eff, extV, buildV, splice, eqSV, fitsL, eqCells, eqCell, minmaxV, binBV, nilCheckV, bytesV, V.cells, V.stays, upd_same, upd_upd, true_implies, false_implies, implies_true, keepS_eq, List.getD_cons_zero, List.getD_cons_succ, List.getD_nil, List.map_cons, List.map_nil, List.length_cons, List.length_nil, List.drop_succ_cons, List.drop_zero, List.take_succ_cons, List.take_zero, List.set_cons_zero, List.set_cons_succ, List.append_nil, List.nil_append, List.cons_append, List.all_cons, List.all_nil, List.getElem?_cons_zero, List.getElem?_cons_succ, List.contains_cons, List.contains_nil, Option.isSome_some, Option.map_some, Option.map_none, true_and, and_true, and_self, Int.reduceEq, Int.reduceNe, Int.reduceLT, Int.reduceLE, Int.reduceGT, Int.reduceGE, Nat.reduceEqDiff, Nat.reduceAdd, Nat.reduceMul, Nat.reduceLeDiff, Nat.reduceSub, Nat.reduceLT, Nat.reduceBEq, Nat.zero_add, Nat.add_zero, ↓reduceIte, reduceCtorEq, ← decide_not, Bool.not_true, Bool.not_false, Bool.false_eq_true, Bool.or_true, Bool.true_or, Bool.or_false, Bool.false_or, Bool.true_and, Bool.and_true, Bool.and_self, decide_true, decide_false, decide_eq_true_eq, hd1, hs1, upd_ne n5e, upd_ne nie, hrow, hlenk, hb, delO, h3, h4, h5, h9, h10, h11]
            intro id1 hid1
            obtain ⟨z1, z2, z3, z4, z5⟩ := happ ⟨by simpa using q1, by omega, by omega, by first | (left; simpa using q4) | (right; simp at q5; omega)⟩ _ _ id id1 hid hid1
            refine ⟨inR_i64 (by omega) (by omega), _, ?_, i + 1, _, id1, k' + 1, _, by omega, rfl, z1, z2, by simp, ?_, z3, upd_same, z4, ?_, ?_, z5, rfl, ?_⟩
            · omega
            · simp only [List.length_cons] at hk' hsl' ⊢; omega
            · simp only [List.length_cons] at hk' ⊢; omega
            · simp; omega
            · simp
          · refine ⟨inR_i64 (by omega) (by omega), ?_⟩
            intro id hid
            have hid' := (upd_none.1 hid).2
            have nie : e ≠ id := by rintro rfl; rw [hrow] at hid'; cases hid'
            have hd1 : ∀ σ, σ e = some ⟨3, 1, rows⟩ → dstRows σ 3 1 (.own e 0 k') = some (rows.take k', some e) := by
              intro σ hσ
              simp only [dstRows, hσ]
              rw [if_pos ⟨trivial, trivial, trivial, hkr'⟩]
            have hs1 : ∀ σ, σ id = some ⟨3, 1, [.int .i64 (i + x.size)]⟩ → srcRows σ 1 (.own id 0 1) = some [.int .i64 (i + x.size)] := by
              intro σ hσ
              simp only [srcRows, hσ]
              rw [if_pos (by simp)]
              simp
            have hb : (k' + 1) * 9 ≤ 140737488355328 := by omega
            simp -implicitDefEqProofs only [s_r_nil, Ret_one, Ret_two, Ret_three, Ret_none, Ret_cell_one, Ret_cell_two, onSome_some, s_r_stop, s_r_inBlock, s_r_ops_nil, s_r_skip, s_r_seq, s_r_block, s_r_exit, exR_some, s_r_ret, s_r_loop, s_r_reg, s_r_dreg, s_d_nil, s_r_cond, cR_t, cR_f, cR_dec, s_r_ins, insR_0, insR_1, insR_2, insR_3, insR_4, callR_some, callR_none, callV_eq, callD_some, callD_none, contR_some, storeR_some, effR_some, s_d_ins, insD_0, insD_1, insD_2, insD_3, contD_some, storeD_some, effD_some, s_r_gins, gR_tup, gR_tt, gR_ff, gR_tf, gR_ft, gR_dec_t, gR_dec_f, s_d_gins, gD_tup, gD_tt, gD_ff, gD_tf, gD_ft, gD_dec_t, gD_dec_f, putO_nothing, putO_lo, putO_hi, mix_get, putO_some, putO_none, lit_t, lit_c, ev_t, ev_c, okind, vpre, vpure, binV_int, binV_str, binPre_int, binPre_str, intBin, intPre, strBin, strPre, popTo, argSlots, lenV_own, lenV_sl, lenV_nils, lenV_str, fldV, fldAV, subCells, idxAV_own, idxVV, idxAAV, idxSV, loadV_ptr, loadV_rp_agg, loadV_rp_int, sliceV, sliceSV, boundV, szIs, storeOp, storeS, setRowV, eff, extV, buildV, splice, eqSV, fitsL, eqCells, eqCell, minmaxV, binBV, nilCheckV, bytesV, V.cells, V.stays, upd_same, upd_upd, true_implies, false_implies, implies_true, keepS_eq, List.getD_cons_zero, List.getD_cons_succ, List.getD_nil, List.map_cons, List.map_nil, List.length_cons, List.length_nil, List.drop_succ_cons, List.drop_zero, List.take_succ_cons, List.take_zero, List.set_cons_zero, List.set_cons_succ, List.append_nil, List.nil_append, List.cons_append, List.all_cons, List.all_nil, List.getElem?_cons_zero, List.getElem?_cons_succ, List.contains_cons, List.contains_nil, Option.isSome_some, Option.map_some, Option.map_none, true_and, and_true, and_self, Int.reduceEq, Int.reduceNe, Int.reduceLT, Int.reduceLE, Int.reduceGT, Int.reduceGE, Nat.reduceEqDiff, Nat.reduceAdd, Nat.reduceMul, Nat.reduceLeDiff, Nat.reduceSub, Nat.reduceLT, Nat.reduceBEq, Nat.zero_add, Nat.add_zero, ↓reduceIte, reduceCtorEq, ← decide_not, Bool.not_true, Bool.not_false, Bool.false_eq_true, Bool.or_true, Bool.true_or, Bool.or_false, Bool.false_or, Bool.true_and, Bool.and_true, Bool.and_self, decide_true, decide_false, decide_eq_true_eq, hd1, hs1, upd_ne n5e, upd_ne nie, hrow, hlenk, hb, delO, h3, h4, h5, h9, h10, h11]
            intro id1 hid1
            obtain ⟨z1, z2, z3, z4, z5⟩ := happ ⟨by simpa using q1, by omega, by omega, by first | (left; simpa using q4) | (right; simp at q5; omega)⟩ _ _ id id1 hid hid1
            refine ⟨inR_i64 (by omega) (by omega), _, ?_, i + 1, _, id1, k' + 1, _, by omega, rfl, z1, z2, by simp, ?_, z3, upd_same, z4, ?_, ?_, z5, rfl, ?_⟩
            · omega
            · simp only [List.length_cons] at hk' hsl' ⊢; omega
            · simp only [List.length_cons] at hk' ⊢; omega
            · simp; omega
            · simp
          · refine RetV.pure (hsub.upd hid5) ?_
            rw [hIs, if_neg]
            rintro ⟨c1, c2, c3, c4⟩
            omega
          · refine RetV.pure (hsub.upd hid5) ?_
            rw [hIs, if_neg]
            rintro ⟨c1, c2, c3, c4⟩
            omega
          · refine RetV.pure (hsub.upd hid5) ?_
            rw [hIs, if_neg]
            rintro ⟨c1, c2, c3, c4⟩
            exact q1 (by simp [c1])
    · have hi' : i = l.length := by simp at hge; omega
      refine RetV.pure hsub ?_
      rw [hB, hi', List.drop_length]; rfl
end Go.Vc
/- The code's Count, the plain side: what it comes to is what the answer's comes to. -/
namespace Go.Vc
open Go.Proofs

def sumOf (times n : Int) : Int := if n = 0 ∨ times ≤ 1099511627776 / n then n * times else 1099511627777
/-- heights, added -/
def highS (times h : Int) : List Int → Int
  | [] => h
  | n :: l => highS times (min (h + sumOf times n) 1099511627777) l

def nodeS (i : Nat) (x : Nd) (s : Sm) (ends : List Int) : Sm × List Int :=
  let ends := ends.filter fun n => !decide (n ≤ (i : Int))
  if x.kind = 1 then
    let ends := ends ++ [i + x.size]
    (⟨max s.depth ends.length, s.pieces, s.nodes + 1, highS 1 s.heights [x.st.top, x.st.bottom, x.st.padTop, x.st.padBottom, x.st.head]⟩, ends)
  else if x.kind = 2 then (⟨s.depth, s.pieces + x.words.length, s.nodes + 1, highS x.words.length s.heights [x.line]⟩, ends)
  else (⟨s.depth, s.pieces + 1, s.nodes + 1, highS 1 s.heights [x.h]⟩, ends)

def foldS (l : List Nd) : Nat → Sm × List Int
  | 0 => (⟨0, 0, 0, 0⟩, [])
  | i + 1 => match l[i]? with
    | some x => nodeS i x (foldS l i).1 (foldS l i).2
    | none => foldS l i

theorem sumOf_eq {times n : Int} (h0 : 0 ≤ n) (h1 : n ≤ mx) (t0 : 0 ≤ times) (a : Int) (ha : 0 ≤ a) : min (a + sumOf times n) 1099511627777 = min (a + n * times) 1099511627777 := by
  unfold sumOf
  split
  · rfl
  · rename_i h
    have hn : 0 < n := by omega
    have hq : 1099511627776 / n < times := by omega
    have h2 : 1099511627776 < n * times := by
      have := Int.ediv_lt_iff_lt_mul (a := 1099511627776) (b := times) hn
      have h3 := this.1 hq
      rw [Int.mul_comm]; exact h3
    omega

theorem addN_eq {a b : Int} (h1 : 0 ≤ a ∧ a ≤ 1099511627777) (h2 : 0 ≤ b) : ∀ n : Nat, addN a b n = min (a + b * n) 1099511627777
  | 0 => by simp [addN]; omega
  | n + 1 => by
    rw [addN, addN_eq h1 h2 n, plusB]
    have e : b * ((n + 1 : Nat) : Int) = b * n + b := by rw [Int.natCast_add, Int.mul_add]; simp
    rw [e]
    have : 0 ≤ b * (n : Int) := Int.mul_nonneg h2 (by omega)
    generalize b * (n : Int) = q at *
    omega

theorem high_one {h n : Int} (h1 : 0 ≤ h) (n0 : 0 ≤ n) (n1 : n ≤ mx) : min (h + sumOf 1 n) 1099511627777 = plusB h n := by
  rw [sumOf_eq n0 n1 (by omega) h h1, Int.mul_one]; rfl

/-- the ends of the blocks around a place, of the first nodes -/
def endsTo (l : List Nd) (i : Nat) : Nat → List Int
  | 0 => []
  | k + 1 => endsTo l i k ++ (match l[k]? with
    | some y => if y.kind = 1 ∧ (i : Int) < k + y.size then [(k : Int) + y.size] else []
    | none => [])
theorem endsTo_length (l : List Nd) (i : Nat) : ∀ k, ((endsTo l i k).length : Int) = depthTo l i k
  | 0 => rfl
  | k + 1 => by
    simp only [endsTo, depthTo, List.length_append, Int.natCast_add, endsTo_length l i k]
    cases l[k]? with
    | none => simp
    | some y => simp only []; split <;> simp
theorem endsTo_filter (l : List Nd) (i : Nat) : ∀ k, (endsTo l i k).filter (fun n => !decide (n ≤ ((i + 1 : Nat) : Int))) = endsTo l (i + 1) k
  | 0 => rfl
  | k + 1 => by
    simp only [endsTo, List.filter_append, endsTo_filter l i k]
    congr 1
    split
    · rename_i y _
      by_cases hk : y.kind = 1
      · by_cases h1 : ((i + 1 : Nat) : Int) < k + y.size
        · rw [if_pos ⟨hk, by omega⟩, if_pos ⟨hk, h1⟩]
          have : ¬ ((k : Int) + y.size ≤ ((i + 1 : Nat) : Int)) := by omega
          simp only [List.filter_cons, this, decide_false, Bool.not_false, if_true, List.filter_nil]
        · rw [if_neg (show ¬ (y.kind = 1 ∧ ((i + 1 : Nat) : Int) < k + y.size) from fun h => h1 h.2)]
          split
          · have : (k : Int) + y.size ≤ ((i + 1 : Nat) : Int) := by omega
            simp only [List.filter_cons, this, decide_true, Bool.not_true, Bool.false_eq_true, if_false, List.filter_nil]
          · rfl
      · rw [if_neg (fun h => hk h.1), if_neg (fun h => hk h.1)]; rfl
    · rfl

theorem foldS_foldR (l : List Nd) (hl : Fine l) (hb : isB l = true) : ∀ i, i ≤ l.length → (foldS l i).1 = { foldR l ⟨0, 0, l.length, 0⟩ i with nodes := i } ∧ (foldS l i).2 = (match i with
    | 0 => []
    | j + 1 => endsTo l j (j + 1)) ∧ (foldR l ⟨0, 0, l.length, 0⟩ i).fine i ∧ (foldR l ⟨0, 0, l.length, 0⟩ i).nodes = l.length
  | 0, _ => ⟨rfl, rfl, by simp [foldR, Sm.fine], rfl⟩
  | i + 1, hi => by
    obtain ⟨h1, h2, h3, h4⟩ := foldS_foldR l hl hb i (by omega)
    have hok : l.all Nd.ok = true ∧ rowsB l 0 l.length = true := by simpa [isB] using hb
    have hx := (List.all_eq_true.1 hok.1) _ (List.getElem_mem (show i < l.length by omega))
    have hg : l[i]? = some l[i] := by simp [show i < l.length by omega]
    obtain ⟨z1, z2, z3⟩ := rowsB_size l (l.length + 1) 0 l.length (by omega) (by omega) hok.2 i (by omega) (by omega) (by omega)
    have hw := hl.2 _ (List.getElem_mem (show i < l.length by omega))
    have hfine := oneR_fine (l := l) hx hw h3
    generalize hxe : l[i] = x at *
    obtain ⟨p1, p2, p3, p4, p5, p6⟩ := ok_numbers hx
    have hS : foldS l (i + 1) = nodeS i x (foldS l i).1 (foldS l i).2 := by simp only [foldS, hg]
    have hR : foldR l ⟨0, 0, l.length, 0⟩ (i + 1) = oneR l i x (foldR l ⟨0, 0, l.length, 0⟩ i) := by simp only [foldR, hg]
    have hf : (foldS l i).2.filter (fun n => !decide (n ≤ (i : Int))) = endsTo l i i := by
      rw [h2]
      cases i with
      | zero => rfl
      | succ j => exact endsTo_filter l j (j + 1)
    rw [hS, hR, h1]
    generalize hsm : foldR l ⟨0, 0, l.length, 0⟩ i = sm at *
    obtain ⟨f1, f2, f3⟩ := h3
    have hends : endsTo l i (i + 1) = endsTo l i i ++ (if x.kind = 1 then [(i : Int) + x.size] else []) := by
      simp only [endsTo, hg]
      by_cases hk : x.kind = 1
      · rw [if_pos ⟨hk, by omega⟩, if_pos hk]
      · rw [if_neg (fun h => hk h.1), if_neg hk]
    refine ⟨?_, ?_, by rw [Int.natCast_add]; exact hfine, ?_⟩
    · by_cases hk : x.kind = 1
      · obtain ⟨q1, q2, q3, q4, q5⟩ := p6 hk
        have r1 := plusB_in f3 q1.1
        have r2 := plusB_in r1 q2.1
        have r3 := plusB_in r2 q3.1
        have r4 := plusB_in r3 q4.1
        have hlen := endsTo_length l i (i + 1)
        rw [hends, if_pos hk] at hlen
        simp only [nodeS, oneR, if_pos hk, hf, highS, Sm.mk.injEq]
        refine ⟨?_, trivial, by simp, ?_⟩
        · rw [hlen]
        · rw [high_one f3.1 q1.1 q1.2, high_one r1.1 q2.1 q2.2, high_one r2.1 q3.1 q3.2, high_one r3.1 q4.1 q4.2, high_one r4.1 q5.1 q5.2]
      · by_cases hk2 : x.kind = 2
        · simp only [nodeS, oneR, if_neg hk, if_pos hk2, highS, Sm.mk.injEq]
          refine ⟨trivial, trivial, by simp, ?_⟩
          rw [sumOf_eq p2 p3 (by omega) _ f3.1, addN_eq f3 p2]
        · simp only [nodeS, oneR, if_neg hk, if_neg hk2, highS, Sm.mk.injEq]
          exact ⟨trivial, trivial, by simp, high_one f3.1 p4 p5⟩
    · by_cases hk : x.kind = 1
      · simp only [nodeS, if_pos hk, hf, hends]
      · by_cases hk2 : x.kind = 2
        · simp only [nodeS, if_neg hk, if_pos hk2, hf, hends, List.append_nil]
        · simp only [nodeS, if_neg hk, if_neg hk2, hf, hends, List.append_nil]
    · rw [← h4]
      unfold oneR
      split
      · rfl
      · split <;> rfl

def countS (l : List Nd) : Sm × Int := if isB l then ((foldS l l.length).1, 0) else (⟨0, 0, 0, 0⟩, 4)
theorem countS_eq (l : List Nd) (hl : Fine l) : countS l = countR l := by
  unfold countS countR
  by_cases hb : isB l = true
  · obtain ⟨h1, _, _, h4⟩ := foldS_foldR l hl hb l.length (Nat.le_refl _)
    rw [if_pos hb, if_pos hb, h1]
    generalize foldR l ⟨0, 0, l.length, 0⟩ l.length = sm at *
    cases sm
    simp_all
  · rw [if_neg hb, if_neg hb]
end Go.Vc
/- Contracts: ends that are reached go (slices.DeleteFunc). -/
namespace Go.Vc
open Go.Proofs

theorem del1_c {σ : Store} {c : Nat} {i : Int} (h : σ c = some ⟨3, 1, [vI i]⟩) (n : Int) : Contract Try.prog 62 [vI n, .ptr c 0 0] σ fun r σ' => r = .bool (decide (n ≤ i)) ∧ σ' = σ := by
  refine Contract.of_runs Try.func62 e62 k62 (by simp [c62]) ?_
  (refine Runs.of_step Orc.nothing 300 ?_; simp -implicitDefEqProofs only [s_r_nil, Ret_one, Ret_two, Ret_three, Ret_none, Ret_cell_one, Ret_cell_two, onSome_some, s_r_stop, s_r_inBlock, s_r_ops_nil, s_r_skip, s_r_seq, s_r_block, s_r_exit, exR_some, s_r_ret, s_r_loop, s_r_reg, s_r_dreg, s_d_nil, s_r_cond, cR_t, cR_f, cR_dec, s_r_ins, insR_0, insR_1, insR_2, insR_3, insR_4, callR_some, callR_none, callV_eq, callD_some, callD_none, contR_some, storeR_some, effR_some, s_d_ins, insD_0, insD_1, insD_2, insD_3, contD_some, storeD_some, effD_some, s_r_gins, gR_tup, gR_tt, gR_ff, gR_tf, gR_ft, gR_dec_t, gR_dec_f, s_d_gins, gD_tup, gD_tt, gD_ff, gD_tf, gD_ft, gD_dec_t, gD_dec_f, putO_nothing, putO_lo, putO_hi, mix_get, putO_some, putO_none, lit_t, lit_c, ev_t, ev_c, okind, vpre, vpure, binV_int, binV_str, binPre_int, binPre_str, intBin, intPre, strBin, strPre, popTo, argSlots, lenV_own, lenV_sl, lenV_nils, lenV_str, fldV, fldAV, subCells, idxAV_own, idxVV, idxAAV, idxSV, loadV_ptr, loadV_rp_agg, loadV_rp_int, sliceV, sliceSV, boundV, szIs, storeOp, storeS, setRowV, eff, extV, buildV, splice, eqSV, fitsL, eqCells, eqCell, minmaxV, binBV, nilCheckV, bytesV, V.cells, V.stays, upd_same, upd_upd, true_implies, false_implies, implies_true, keepS_eq, List.getD_cons_zero, List.getD_cons_succ, List.getD_nil, List.map_cons, List.map_nil, List.length_cons, List.length_nil, List.drop_succ_cons, List.drop_zero, List.take_succ_cons, List.take_zero, List.set_cons_zero, List.set_cons_succ, List.append_nil, List.nil_append, List.cons_append, List.all_cons, List.all_nil, List.getElem?_cons_zero, List.getElem?_cons_succ, List.contains_cons, List.contains_nil, Option.isSome_some, Option.map_some, Option.map_none, true_and, and_true, and_self, Int.reduceEq, Int.reduceNe, Int.reduceLT, Int.reduceLE, Int.reduceGT, Int.reduceGE, Nat.reduceEqDiff, Nat.reduceAdd, Nat.reduceMul, Nat.reduceLeDiff, Nat.reduceSub, Nat.reduceLT, Nat.reduceBEq, Nat.zero_add, Nat.add_zero, ↓reduceIte, reduceCtorEq, ← decide_not, Bool.not_true, Bool.not_false, Bool.false_eq_true, Bool.or_true, Bool.true_or, Bool.or_false, Bool.false_or, Bool.true_and, Bool.and_true, Bool.and_self, decide_true, decide_false, decide_eq_true_eq, Orc.nothing, c62, h])
  exact RetV.same rfl

/-- what is kept -/
abbrev kept (i : Int) (l : List Int) : List Int := l.filter fun n => !decide (n ≤ i)

theorem firstI_none {p : Int → Bool} : ∀ {l : List Int}, firstI p l < 0 → l.filter (fun n => !p n) = l
  | [], _ => rfl
  | x :: l, h => by
    simp only [firstI] at h
    split at h
    · omega
    · rename_i hp
      have hp' : p x = false := by simpa using hp
      split at h
      · rename_i h2
        simp only [List.filter_cons, hp', Bool.not_false, if_true, firstI_none h2]
      · have := firstI_ge p l; omega
theorem firstI_some {p : Int → Bool} : ∀ {l : List Int}, ¬ firstI p l < 0 → (firstI p l).toNat < l.length ∧ (l.take (firstI p l).toNat).filter (fun n => !p n) = l.take (firstI p l).toNat ∧
    ∀ x, l[(firstI p l).toNat]? = some x → p x = true
  | [], h => by simp [firstI] at h
  | x :: l, h => by
    simp only [firstI] at h ⊢
    split
    · rename_i hp
      refine ⟨by simp, by simp, ?_⟩
      intro y hy
      simp at hy; subst hy; exact hp
    · rename_i hp
      rw [if_neg hp] at h
      have hp' : p x = false := by simpa using hp
      split
      · rename_i h2; rw [if_pos h2] at h; omega
      · rename_i h2
        obtain ⟨g1, g2, g3⟩ := firstI_some h2
        have := firstI_ge p l
        have e : (firstI p l + 1).toNat = (firstI p l).toNat + 1 := by omega
        rw [e]
        refine ⟨by simp; omega, ?_, ?_⟩
        · simp only [List.take_succ_cons, List.filter_cons, hp', Bool.not_false, if_true, g2]
        · simpa using g3

set_option maxRecDepth 100000 in
theorem delete_c {σ : Store} {e c k : Nat} {i : Int} {full : List Int} (he : σ e = some ⟨3, 1, full.map vI⟩) (hc : σ c = some ⟨3, 1, [vI i]⟩) (hne : c ≠ e) (hk : k ≤ full.length) (hfl : full.length ≤ 1000000000000) :
    Contract Try.prog 61 [.own e 0 k, .fn 62 [.ptr c 0 0]] σ fun r σ' => ∃ (k' : Nat) (full' : List Int), r = .own e 0 k' ∧ σ' = upd σ e ⟨3, 1, full'.map vI⟩ ∧ k' ≤ full'.length ∧ full'.length ≤ full.length ∧ full'.take k' = kept i (full.take k) := by
  have hlk : (full.take k).length = k := by simp; omega
  have hr : Reads σ 1 false (.own e 0 k) ((full.take k).map vI) := by
    have := Reads.own (σ := σ) (off := 0) (len := k) he rfl (by simpa using hk) (fun r hr => by simp only [List.mem_map] at hr; obtain ⟨n, _, rfl⟩ := hr; rfl)
    simpa using this
  refine Contract.of_runs Try.func61 e61 k61 (by simp [c61]) ?_
  refine Runs.mix 8 ?_
  (refine Runs.of_step Orc.nothing 300 ?_; simp -implicitDefEqProofs only [s_r_nil, Ret_one, Ret_two, Ret_three, Ret_none, Ret_cell_one, Ret_cell_two, onSome_some, s_r_stop, s_r_inBlock, s_r_ops_nil, s_r_skip, s_r_seq, s_r_block, s_r_exit, exR_some, s_r_ret, s_r_loop, s_r_reg, s_r_dreg, s_d_nil, s_r_cond, cR_t, cR_f, cR_dec, s_r_ins, insR_0, insR_1, insR_2, insR_3, insR_4, callR_some, callR_none, callV_eq, callD_some, callD_none, contR_some, storeR_some, effR_some, s_d_ins, insD_0, insD_1, insD_2, insD_3, contD_some, storeD_some, effD_some, s_r_gins, gR_tup, gR_tt, gR_ff, gR_tf, gR_ft, gR_dec_t, gR_dec_f, s_d_gins, gD_tup, gD_tt, gD_ff, gD_tf, gD_ft, gD_dec_t, gD_dec_f, putO_nothing, putO_lo, putO_hi, mix_get, putO_some, putO_none, lit_t, lit_c, ev_t, ev_c, okind, vpre, vpure, binV_int, binV_str, binPre_int, binPre_str, intBin, intPre, strBin, strPre, popTo, argSlots, lenV_own, lenV_sl, lenV_nils, lenV_str, fldV, fldAV, subCells, idxAV_own, idxVV, idxAAV, idxSV, loadV_ptr, loadV_rp_agg, loadV_rp_int, sliceV, sliceSV, boundV, szIs, storeOp, storeS, setRowV, eff, extV, buildV, splice, eqSV, fitsL, eqCells, eqCell, minmaxV, binBV, nilCheckV, bytesV, V.cells, V.stays, upd_same, upd_upd, true_implies, false_implies, implies_true, keepS_eq, List.getD_cons_zero, List.getD_cons_succ, List.getD_nil, List.map_cons, List.map_nil, List.length_cons, List.length_nil, List.drop_succ_cons, List.drop_zero, List.take_succ_cons, List.take_zero, List.set_cons_zero, List.set_cons_succ, List.append_nil, List.nil_append, List.cons_append, List.all_cons, List.all_nil, List.getElem?_cons_zero, List.getElem?_cons_succ, List.contains_cons, List.contains_nil, Option.isSome_some, Option.map_some, Option.map_none, true_and, and_true, and_self, Int.reduceEq, Int.reduceNe, Int.reduceLT, Int.reduceLE, Int.reduceGT, Int.reduceGE, Nat.reduceEqDiff, Nat.reduceAdd, Nat.reduceMul, Nat.reduceLeDiff, Nat.reduceSub, Nat.reduceLT, Nat.reduceBEq, Nat.zero_add, Nat.add_zero, ↓reduceIte, reduceCtorEq, ← decide_not, Bool.not_true, Bool.not_false, Bool.false_eq_true, Bool.or_true, Bool.true_or, Bool.or_false, Bool.false_or, Bool.true_and, Bool.and_true, Bool.and_self, decide_true, decide_false, decide_eq_true_eq, Orc.nothing, c61])
  refine Runs.pcall rfl rfl rfl (indexFunc_c (p := fun n => decide (n ≤ i)) hr (by omega) (fun n _ => del1_c hc n)) ?_
  generalize hw : firstI (fun n => decide (n ≤ i)) (full.take k) = w
  have hwg : -1 ≤ w := by rw [← hw]; exact firstI_ge _ _
  (refine Runs.of_step Orc.nothing 300 ?_; simp -implicitDefEqProofs only [s_r_nil, Ret_one, Ret_two, Ret_three, Ret_none, Ret_cell_one, Ret_cell_two, onSome_some, s_r_stop, s_r_inBlock, s_r_ops_nil, s_r_skip, s_r_seq, s_r_block, s_r_exit, exR_some, s_r_ret, s_r_loop, s_r_reg, s_r_dreg, s_d_nil, s_r_cond, cR_t, cR_f, cR_dec, s_r_ins, insR_0, insR_1, insR_2, insR_3, insR_4, callR_some, callR_none, callV_eq, callD_some, callD_none, contR_some, storeR_some, effR_some, s_d_ins, insD_0, insD_1, insD_2, insD_3, contD_some, storeD_some, effD_some, s_r_gins, gR_tup, gR_tt, gR_ff, gR_tf, gR_ft, gR_dec_t, gR_dec_f, s_d_gins, gD_tup, gD_tt, gD_ff, gD_tf, gD_ft, gD_dec_t, gD_dec_f, putO_nothing, putO_lo, putO_hi, mix_get, putO_some, putO_none, lit_t, lit_c, ev_t, ev_c, okind, vpre, vpure, binV_int, binV_str, binPre_int, binPre_str, intBin, intPre, strBin, strPre, popTo, argSlots, lenV_own, lenV_sl, lenV_nils, lenV_str, fldV, fldAV, subCells, idxAV_own, idxVV, idxAAV, idxSV, loadV_ptr, loadV_rp_agg, loadV_rp_int, sliceV, sliceSV, boundV, szIs, storeOp, storeS, setRowV, eff, extV, buildV, splice, eqSV, fitsL, eqCells, eqCell, minmaxV, binBV, nilCheckV, bytesV, V.cells, V.stays, upd_same, upd_upd, true_implies, false_implies, implies_true, keepS_eq, List.getD_cons_zero, List.getD_cons_succ, List.getD_nil, List.map_cons, List.map_nil, List.length_cons, List.length_nil, List.drop_succ_cons, List.drop_zero, List.take_succ_cons, List.take_zero, List.set_cons_zero, List.set_cons_succ, List.append_nil, List.nil_append, List.cons_append, List.all_cons, List.all_nil, List.getElem?_cons_zero, List.getElem?_cons_succ, List.contains_cons, List.contains_nil, Option.isSome_some, Option.map_some, Option.map_none, true_and, and_true, and_self, Int.reduceEq, Int.reduceNe, Int.reduceLT, Int.reduceLE, Int.reduceGT, Int.reduceGE, Nat.reduceEqDiff, Nat.reduceAdd, Nat.reduceMul, Nat.reduceLeDiff, Nat.reduceSub, Nat.reduceLT, Nat.reduceBEq, Nat.zero_add, Nat.add_zero, ↓reduceIte, reduceCtorEq, ← decide_not, Bool.not_true, Bool.not_false, Bool.false_eq_true, Bool.or_true, Bool.true_or, Bool.or_false, Bool.false_or, Bool.true_and, Bool.and_true, Bool.and_self, decide_true, decide_false, decide_eq_true_eq, Orc.nothing])
  have hsame : upd σ e ⟨3, 1, full.map vI⟩ = σ := by
    funext j
    simp only [upd]
    split
    · rename_i e'; rw [e', he]
    · rfl
  refine And.intro (fun hm => ?_) (fun hm => ?_)
  · refine ⟨_, σ, SubStore.refl σ, Wk.refl (SubStore.refl σ) _, k, full, rfl, hsame.symm, hk, Nat.le_refl _, ?_⟩
    exact (firstI_none (by rw [hw]; omega)).symm
  · have hw0 : ¬ firstI (fun n => decide (n ≤ i)) (full.take k) < 0 := by rw [hw]; omega
    obtain ⟨g1, g2, g3⟩ := firstI_some hw0
    rw [hw] at g1 g2 g3
    rw [hlk] at g1
    refine ⟨inR_i64 (by omega) (by omega), ?_⟩
    refine Runs.loop (fun m st => ∃ (u j : Nat) (cur : List Int), u < j ∧ j ≤ k ∧ m = k - j ∧ cur.length = full.length ∧ cur.take u = kept i (full.take j) ∧ (∀ q, j ≤ q → cur[q]? = full[q]?) ∧ st.σ = upd σ e ⟨3, 1, cur.map vI⟩ ∧
      st.s 0 = .own e 0 k ∧ st.s 1 = .fn 62 [.ptr c 0 0] ∧ st.s 5 = vI u ∧ st.s 6 = vI j) (k - (w.toNat + 1)) ?_ ?_
    · have hw1 : w = ((w.toNat : Nat) : Int) := by omega
      refine ⟨w.toNat, w.toNat + 1, full, by omega, by omega, rfl, rfl, ?_, fun _ _ => rfl, hsame.symm, rfl, rfl, ?_, ?_⟩
      · have hx : (full.take k)[w.toNat]? = some (full[w.toNat]'(by omega)) := by rw [List.getElem?_take, if_pos g1, List.getElem?_eq_getElem]
        have hp := g3 _ hx
        have e1 : (full.take k).take w.toNat = full.take w.toNat := by rw [List.take_take]; congr 1; omega
        rw [e1] at g2
        rw [List.take_succ_eq_append_getElem (by omega)]
        have g2' : kept i (full.take w.toNat) = full.take w.toNat := g2
        simp only [kept, List.filter_append] at g2' ⊢
        rw [g2']
        simp [hp]
      · show vI w = _; rw [← hw1]
      · show vI (w + 1) = _; rw [Int.natCast_add, ← hw1]; rfl
    · rintro m ⟨s, σ'⟩ ⟨u, j, cur, huj, hjk, rfl, hcl, hct, hcr, hσ, h0, h1, h5, h6⟩
      simp only at hσ h0 h1 h5 h6
      subst hσ
      refine Runs.mix 8 ?_
      (refine Runs.of_step Orc.nothing 300 ?_; simp -implicitDefEqProofs only [s_r_nil, Ret_one, Ret_two, Ret_three, Ret_none, Ret_cell_one, Ret_cell_two, onSome_some, s_r_stop, s_r_inBlock, s_r_ops_nil, s_r_skip, s_r_seq, s_r_block, s_r_exit, exR_some, s_r_ret, s_r_loop, s_r_reg, s_r_dreg, s_d_nil, s_r_cond, cR_t, cR_f, cR_dec, s_r_ins, insR_0, insR_1, insR_2, insR_3, insR_4, callR_some, callR_none, callV_eq, callD_some, callD_none, contR_some, storeR_some, effR_some, s_d_ins, insD_0, insD_1, insD_2, insD_3, contD_some, storeD_some, effD_some, s_r_gins, gR_tup, gR_tt, gR_ff, gR_tf, gR_ft, gR_dec_t, gR_dec_f, s_d_gins, gD_tup, gD_tt, gD_ff, gD_tf, gD_ft, gD_dec_t, gD_dec_f, putO_nothing, putO_lo, putO_hi, mix_get, putO_some, putO_none, lit_t, lit_c, ev_t, ev_c, okind, vpre, vpure, binV_int, binV_str, binPre_int, binPre_str, intBin, intPre, strBin, strPre, popTo, argSlots, lenV_own, lenV_sl, lenV_nils, lenV_str, fldV, fldAV, subCells, idxAV_own, idxVV, idxAAV, idxSV, loadV_ptr, loadV_rp_agg, loadV_rp_int, sliceV, sliceSV, boundV, szIs, storeOp, storeS, setRowV, eff, extV, buildV, splice, eqSV, fitsL, eqCells, eqCell, minmaxV, binBV, nilCheckV, bytesV, V.cells, V.stays, upd_same, upd_upd, true_implies, false_implies, implies_true, keepS_eq, List.getD_cons_zero, List.getD_cons_succ, List.getD_nil, List.map_cons, List.map_nil, List.length_cons, List.length_nil, List.drop_succ_cons, List.drop_zero, List.take_succ_cons, List.take_zero, List.set_cons_zero, List.set_cons_succ, List.append_nil, List.nil_append, List.cons_append, List.all_cons, List.all_nil, List.getElem?_cons_zero, List.getElem?_cons_succ, List.contains_cons, List.contains_nil, Option.isSome_some, Option.map_some, Option.map_none, true_and, and_true, and_self, Int.reduceEq, Int.reduceNe, Int.reduceLT, Int.reduceLE, Int.reduceGT, Int.reduceGE, Nat.reduceEqDiff, Nat.reduceAdd, Nat.reduceMul, Nat.reduceLeDiff, Nat.reduceSub, Nat.reduceLT, Nat.reduceBEq, Nat.zero_add, Nat.add_zero, ↓reduceIte, reduceCtorEq, ← decide_not, Bool.not_true, Bool.not_false, Bool.false_eq_true, Bool.or_true, Bool.true_or, Bool.or_false, Bool.false_or, Bool.true_and, Bool.and_true, Bool.and_self, decide_true, decide_false, decide_eq_true_eq, Orc.nothing, h0, h1, h5, h6])
      refine And.intro (fun hlt => ?_) (fun hge => ?_)
      · have hlt' : j < k := by omega
        have hjc : j < cur.length := by omega
        have hget : cur[j]? = some cur[j] := by simp [hjc]
        have hge : (cur.map vI)[j]? = some (vI cur[j]) := by simp [hjc]
        have b1 : (0 : Int) ≤ j := by omega
        have b2 : (j : Int) < k := by omega
        have b3 : (0 : Int) ≤ u := by omega
        have b4 : (u : Int) < k := by omega
        simp -implicitDefEqProofs only [s_r_nil, Ret_one, Ret_two, Ret_three, Ret_none, Ret_cell_one, Ret_cell_two, onSome_some, s_r_stop, s_r_inBlock, s_r_ops_nil, s_r_skip, s_r_seq, s_r_block, s_r_exit, exR_some, s_r_ret, s_r_loop, s_r_reg, s_r_dreg, s_d_nil, s_r_cond, cR_t, cR_f, cR_dec, s_r_ins, insR_0, insR_1, insR_2, insR_3, insR_4, callR_some, callR_none, callV_eq, callD_some, callD_none, contR_some, storeR_some, effR_some, s_d_ins, insD_0, insD_1, insD_2, insD_3, contD_some, storeD_some, effD_some, s_r_gins, gR_tup, gR_tt, gR_ff, gR_tf, gR_ft, gR_dec_t, gR_dec_f, s_d_gins, gD_tup, gD_tt, gD_ff, gD_tf, gD_ft, gD_dec_t, gD_dec_f, putO_nothing, putO_lo, putO_hi, mix_get, putO_some, putO_none, lit_t, lit_c, ev_t, ev_c, okind, vpre, vpure, binV_int, binV_str, binPre_int, binPre_str, intBin, intPre, strBin, strPre, popTo, argSlots, lenV_own, lenV_sl, lenV_nils, lenV_str, fldV, fldAV, subCells, idxAV_own, idxVV, idxAAV, idxSV, loadV_ptr, loadV_rp_agg, loadV_rp_int, sliceV, sliceSV, boundV, szIs, storeOp, storeS, setRowV, eff, extV, buildV, splice, eqSV, fitsL, eqCells, eqCell, minmaxV, binBV, nilCheckV, bytesV, V.cells, V.stays, upd_same, upd_upd, true_implies, false_implies, implies_true, keepS_eq, List.getD_cons_zero, List.getD_cons_succ, List.getD_nil, List.map_cons, List.map_nil, List.length_cons, List.length_nil, List.drop_succ_cons, List.drop_zero, List.take_succ_cons, List.take_zero, List.set_cons_zero, List.set_cons_succ, List.append_nil, List.nil_append, List.cons_append, List.all_cons, List.all_nil, List.getElem?_cons_zero, List.getElem?_cons_succ, List.contains_cons, List.contains_nil, Option.isSome_some, Option.map_some, Option.map_none, true_and, and_true, and_self, Int.reduceEq, Int.reduceNe, Int.reduceLT, Int.reduceLE, Int.reduceGT, Int.reduceGE, Nat.reduceEqDiff, Nat.reduceAdd, Nat.reduceMul, Nat.reduceLeDiff, Nat.reduceSub, Nat.reduceLT, Nat.reduceBEq, Nat.zero_add, Nat.add_zero, ↓reduceIte, reduceCtorEq, ← decide_not, Bool.not_true, Bool.not_false, Bool.false_eq_true, Bool.or_true, Bool.true_or, Bool.or_false, Bool.false_or, Bool.true_and, Bool.and_true, Bool.and_self, decide_true, decide_false, decide_eq_true_eq, h0, h1, h5, h6, b1, b2, hge, Int.toNat_natCast]
        refine Runs.pcall rfl rfl rfl (del1_c (i := i) (by rw [upd_ne hne]; exact hc) cur[j]) ?_
        have hgu : (cur.map vI)[u]? = some (vI (cur[u]'(by omega))) := by simp [show u < cur.length by omega]
        (refine Runs.of_step Orc.nothing 300 ?_; simp -implicitDefEqProofs only [s_r_nil, Ret_one, Ret_two, Ret_three, Ret_none, Ret_cell_one, Ret_cell_two, onSome_some, s_r_stop, s_r_inBlock, s_r_ops_nil, s_r_skip, s_r_seq, s_r_block, s_r_exit, exR_some, s_r_ret, s_r_loop, s_r_reg, s_r_dreg, s_d_nil, s_r_cond, cR_t, cR_f, cR_dec, s_r_ins, insR_0, insR_1, insR_2, insR_3, insR_4, callR_some, callR_none, callV_eq, callD_some, callD_none, contR_some, storeR_some, effR_some, s_d_ins, insD_0, insD_1, insD_2, insD_3, contD_some, storeD_some, effD_some, s_r_gins, gR_tup, gR_tt, gR_ff, gR_tf, gR_ft, gR_dec_t, gR_dec_f, s_d_gins, gD_tup, gD_tt, gD_ff, gD_tf, gD_ft, gD_dec_t, gD_dec_f, putO_nothing, putO_lo, putO_hi, mix_get, putO_some, putO_none, lit_t, lit_c, ev_t, ev_c, okind, vpre, vpure, binV_int, binV_str, binPre_int, binPre_str, intBin, intPre, strBin, strPre, popTo, argSlots, lenV_own, lenV_sl, lenV_nils, lenV_str, fldV, fldAV, subCells, idxAV_own, idxVV, idxAAV, idxSV, loadV_ptr, loadV_rp_agg, loadV_rp_int, sliceV, sliceSV, boundV, szIs, storeOp, storeS, setRowV, eff, extV, buildV, splice, eqSV, fitsL, eqCells, eqCell, minmaxV, binBV, nilCheckV, bytesV, V.cells, V.stays, upd_same, upd_upd, true_implies, false_implies, implies_true, keepS_eq, List.getD_cons_zero, List.getD_cons_succ, List.getD_nil, List.map_cons, List.map_nil, List.length_cons, List.length_nil, List.drop_succ_cons, List.drop_zero, List.take_succ_cons, List.take_zero, List.set_cons_zero, List.set_cons_succ, List.append_nil, List.nil_append, List.cons_append, List.all_cons, List.all_nil, List.getElem?_cons_zero, List.getElem?_cons_succ, List.contains_cons, List.contains_nil, Option.isSome_some, Option.map_some, Option.map_none, true_and, and_true, and_self, Int.reduceEq, Int.reduceNe, Int.reduceLT, Int.reduceLE, Int.reduceGT, Int.reduceGE, Nat.reduceEqDiff, Nat.reduceAdd, Nat.reduceMul, Nat.reduceLeDiff, Nat.reduceSub, Nat.reduceLT, Nat.reduceBEq, Nat.zero_add, Nat.add_zero, ↓reduceIte, reduceCtorEq, ← decide_not, Bool.not_true, Bool.not_false, Bool.false_eq_true, Bool.or_true, Bool.true_or, Bool.or_false, Bool.false_or, Bool.true_and, Bool.and_true, Bool.and_self, decide_true, decide_false, decide_eq_true_eq, Orc.nothing, h0, h1, h5, h6, b1, b2, b3, b4, hge, hgu, Int.toNat_natCast])
        have hfj : full[j]? = some cur[j] := by rw [← hcr j (Nat.le_refl _)]; exact hget
        have htj : full.take (j + 1) = full.take j ++ [cur[j]] := by
          have hjf : j < full.length := by omega
          rw [List.take_succ_eq_append_getElem hjf]
          congr 2
          rw [List.getElem?_eq_getElem hjf] at hfj
          simpa using hfj
        refine And.intro (fun hd => ?_) (fun hd => ?_)
        · refine ⟨inR_i64 (by omega) (by omega), inR_i64 (by omega) (by omega), _, ?_, u + 1, j + 1, cur.set u cur[j], by omega, by omega, rfl, by simpa using hcl, ?_, ?_, ?_, ?_, ?_⟩
          · omega
          · rw [htj]
            have hul : u < cur.length := by omega
            have : (cur.set u cur[j]).take (u + 1) = cur.take u ++ [cur[j]] := by
              rw [List.take_succ_eq_append_getElem (by simpa using hul), List.take_set, List.set_eq_of_length_le (by simp; omega)]
              simp
            rw [this, hct]
            simp only [kept, List.filter_append]
            congr 1
            have hd' : ¬ cur[j] ≤ i := by simpa using hd
            simp [hd']
          · intro q hq
            rw [List.getElem?_set_ne (by omega)]
            exact hcr q (by omega)
          · simp
          · simp
          · simp
        · refine ⟨inR_i64 (by omega) (by omega), _, ?_, u, j + 1, cur, by omega, by omega, rfl, hcl, ?_, fun q hq => hcr q (by omega), rfl, ?_⟩
          · omega
          · rw [htj, hct]
            simp only [kept, List.filter_append]
            have hd' : cur[j] ≤ i := by simpa using hd
            simp [hd']
          · simp
      · have hjk' : j = k := by omega
        subst hjk'
        have b3 : (0 : Int) ≤ u := by omega
        have b4 : (u : Int) ≤ j := by omega
        simp -implicitDefEqProofs only [s_r_nil, Ret_one, Ret_two, Ret_three, Ret_none, Ret_cell_one, Ret_cell_two, onSome_some, s_r_stop, s_r_inBlock, s_r_ops_nil, s_r_skip, s_r_seq, s_r_block, s_r_exit, exR_some, s_r_ret, s_r_loop, s_r_reg, s_r_dreg, s_d_nil, s_r_cond, cR_t, cR_f, cR_dec, s_r_ins, insR_0, insR_1, insR_2, insR_3, insR_4, callR_some, callR_none, callV_eq, callD_some, callD_none, contR_some, storeR_some, effR_some, s_d_ins, insD_0, insD_1, insD_2, insD_3, contD_some, storeD_some, effD_some, s_r_gins, gR_tup, gR_tt, gR_ff, gR_tf, gR_ft, gR_dec_t, gR_dec_f, s_d_gins, gD_tup, gD_tt, gD_ff, gD_tf, gD_ft, gD_dec_t, gD_dec_f, putO_nothing, putO_lo, putO_hi, mix_get, putO_some, putO_none, lit_t, lit_c, ev_t, ev_c, okind, vpre, vpure, binV_int, binV_str, binPre_int, binPre_str, intBin, intPre, strBin, strPre, popTo, argSlots, lenV_own, lenV_sl, lenV_nils, lenV_str, fldV, fldAV, subCells, idxAV_own, idxVV, idxAAV, idxSV, loadV_ptr, loadV_rp_agg, loadV_rp_int, sliceV, sliceSV, boundV, szIs, storeOp, storeS, setRowV, eff, extV, buildV, splice, eqSV, fitsL, eqCells, eqCell, minmaxV, binBV, nilCheckV, bytesV, V.cells, V.stays, upd_same, upd_upd, true_implies, false_implies, implies_true, keepS_eq, List.getD_cons_zero, List.getD_cons_succ, List.getD_nil, List.map_cons, List.map_nil, List.length_cons, List.length_nil, List.drop_succ_cons, List.drop_zero, List.take_succ_cons, List.take_zero, List.set_cons_zero, List.set_cons_succ, List.append_nil, List.nil_append, List.cons_append, List.all_cons, List.all_nil, List.getElem?_cons_zero, List.getElem?_cons_succ, List.contains_cons, List.contains_nil, Option.isSome_some, Option.map_some, Option.map_none, true_and, and_true, and_self, Int.reduceEq, Int.reduceNe, Int.reduceLT, Int.reduceLE, Int.reduceGT, Int.reduceGE, Nat.reduceEqDiff, Nat.reduceAdd, Nat.reduceMul, Nat.reduceLeDiff, Nat.reduceSub, Nat.reduceLT, Nat.reduceBEq, Nat.zero_add, Nat.add_zero, ↓reduceIte, reduceCtorEq, ← decide_not, Bool.not_true, Bool.not_false, Bool.false_eq_true, Bool.or_true, Bool.true_or, Bool.or_false, Bool.false_or, Bool.true_and, Bool.and_true, Bool.and_self, decide_true, decide_false, decide_eq_true_eq, h0, h1, h5, h6, b3, b4, Int.le_refl, Int.toNat_natCast, Nat.zero_add]
        refine Runs.clear (id := e) (off := u) (len := j - u) (ob := ⟨3, 1, cur.map vI⟩) rfl rfl rfl upd_same rfl (by simp; omega) ?_
        (refine Runs.of_step Orc.nothing 300 ?_; simp -implicitDefEqProofs only [s_r_nil, Ret_one, Ret_two, Ret_three, Ret_none, Ret_cell_one, Ret_cell_two, onSome_some, s_r_stop, s_r_inBlock, s_r_ops_nil, s_r_skip, s_r_seq, s_r_block, s_r_exit, exR_some, s_r_ret, s_r_loop, s_r_reg, s_r_dreg, s_d_nil, s_r_cond, cR_t, cR_f, cR_dec, s_r_ins, insR_0, insR_1, insR_2, insR_3, insR_4, callR_some, callR_none, callV_eq, callD_some, callD_none, contR_some, storeR_some, effR_some, s_d_ins, insD_0, insD_1, insD_2, insD_3, contD_some, storeD_some, effD_some, s_r_gins, gR_tup, gR_tt, gR_ff, gR_tf, gR_ft, gR_dec_t, gR_dec_f, s_d_gins, gD_tup, gD_tt, gD_ff, gD_tf, gD_ft, gD_dec_t, gD_dec_f, putO_nothing, putO_lo, putO_hi, mix_get, putO_some, putO_none, lit_t, lit_c, ev_t, ev_c, okind, vpre, vpure, binV_int, binV_str, binPre_int, binPre_str, intBin, intPre, strBin, strPre, popTo, argSlots, lenV_own, lenV_sl, lenV_nils, lenV_str, fldV, fldAV, subCells, idxAV_own, idxVV, idxAAV, idxSV, loadV_ptr, loadV_rp_agg, loadV_rp_int, sliceV, sliceSV, boundV, szIs, storeOp, storeS, setRowV, eff, extV, buildV, splice, eqSV, fitsL, eqCells, eqCell, minmaxV, binBV, nilCheckV, bytesV, V.cells, V.stays, upd_same, upd_upd, true_implies, false_implies, implies_true, keepS_eq, List.getD_cons_zero, List.getD_cons_succ, List.getD_nil, List.map_cons, List.map_nil, List.length_cons, List.length_nil, List.drop_succ_cons, List.drop_zero, List.take_succ_cons, List.take_zero, List.set_cons_zero, List.set_cons_succ, List.append_nil, List.nil_append, List.cons_append, List.all_cons, List.all_nil, List.getElem?_cons_zero, List.getElem?_cons_succ, List.contains_cons, List.contains_nil, Option.isSome_some, Option.map_some, Option.map_none, true_and, and_true, and_self, Int.reduceEq, Int.reduceNe, Int.reduceLT, Int.reduceLE, Int.reduceGT, Int.reduceGE, Nat.reduceEqDiff, Nat.reduceAdd, Nat.reduceMul, Nat.reduceLeDiff, Nat.reduceSub, Nat.reduceLT, Nat.reduceBEq, Nat.zero_add, Nat.add_zero, ↓reduceIte, reduceCtorEq, ← decide_not, Bool.not_true, Bool.not_false, Bool.false_eq_true, Bool.or_true, Bool.true_or, Bool.or_false, Bool.false_or, Bool.true_and, Bool.and_true, Bool.and_self, decide_true, decide_false, decide_eq_true_eq, Orc.nothing, h0, h1, h5, h6, b3, b4, Int.le_refl, Int.toNat_natCast, Nat.zero_add, Nat.sub_zero])
        refine ⟨_, _, SubStore.refl _, Wk.refl (SubStore.refl _) _, u, cur.take u ++ List.replicate (j - u) 0 ++ cur.drop (u + (j - u)), by simp, ?_, ?_, ?_, ?_⟩
        · simp [List.map_take, List.map_drop]
        · simp; omega
        · simp; omega
        · rw [List.append_assoc, List.take_append_of_le_length (by simp; omega), List.take_take, Nat.min_self, hct]
end Go.Vc
/- Contracts: heights are added. -/
namespace Go.Vc
open Go.Proofs

theorem Reads.nils (σ : Store) : Reads σ 1 false .nils [] := ⟨rfl, fun i v h => by simp at h⟩

theorem delete_nil {σ : Store} {c : Nat} {i : Int} (hc : σ c = some ⟨3, 1, [vI i]⟩) : Contract Try.prog 61 [.nils, .fn 62 [.ptr c 0 0]] σ fun r σ' => r = .nils ∧ σ' = σ := by
  refine Contract.of_runs Try.func61 e61 k61 (by simp [c61]) ?_
  refine Runs.mix 8 ?_
  (refine Runs.of_step Orc.nothing 300 ?_; simp -implicitDefEqProofs only [s_r_nil, Ret_one, Ret_two, Ret_three, Ret_none, Ret_cell_one, Ret_cell_two, onSome_some, s_r_stop, s_r_inBlock, s_r_ops_nil, s_r_skip, s_r_seq, s_r_block, s_r_exit, exR_some, s_r_ret, s_r_loop, s_r_reg, s_r_dreg, s_d_nil, s_r_cond, cR_t, cR_f, cR_dec, s_r_ins, insR_0, insR_1, insR_2, insR_3, insR_4, callR_some, callR_none, callV_eq, callD_some, callD_none, contR_some, storeR_some, effR_some, s_d_ins, insD_0, insD_1, insD_2, insD_3, contD_some, storeD_some, effD_some, s_r_gins, gR_tup, gR_tt, gR_ff, gR_tf, gR_ft, gR_dec_t, gR_dec_f, s_d_gins, gD_tup, gD_tt, gD_ff, gD_tf, gD_ft, gD_dec_t, gD_dec_f, putO_nothing, putO_lo, putO_hi, mix_get, putO_some, putO_none, lit_t, lit_c, ev_t, ev_c, okind, vpre, vpure, binV_int, binV_str, binPre_int, binPre_str, intBin, intPre, strBin, strPre, popTo, argSlots, lenV_own, lenV_sl, lenV_nils, lenV_str, fldV, fldAV, subCells, idxAV_own, idxVV, idxAAV, idxSV, loadV_ptr, loadV_rp_agg, loadV_rp_int, sliceV, sliceSV, boundV, szIs, storeOp, storeS, setRowV, eff, extV, buildV, splice, eqSV, fitsL, eqCells, eqCell, minmaxV, binBV, nilCheckV, bytesV, V.cells, V.stays, upd_same, upd_upd, true_implies, false_implies, implies_true, keepS_eq, List.getD_cons_zero, List.getD_cons_succ, List.getD_nil, List.map_cons, List.map_nil, List.length_cons, List.length_nil, List.drop_succ_cons, List.drop_zero, List.take_succ_cons, List.take_zero, List.set_cons_zero, List.set_cons_succ, List.append_nil, List.nil_append, List.cons_append, List.all_cons, List.all_nil, List.getElem?_cons_zero, List.getElem?_cons_succ, List.contains_cons, List.contains_nil, Option.isSome_some, Option.map_some, Option.map_none, true_and, and_true, and_self, Int.reduceEq, Int.reduceNe, Int.reduceLT, Int.reduceLE, Int.reduceGT, Int.reduceGE, Nat.reduceEqDiff, Nat.reduceAdd, Nat.reduceMul, Nat.reduceLeDiff, Nat.reduceSub, Nat.reduceLT, Nat.reduceBEq, Nat.zero_add, Nat.add_zero, ↓reduceIte, reduceCtorEq, ← decide_not, Bool.not_true, Bool.not_false, Bool.false_eq_true, Bool.or_true, Bool.true_or, Bool.or_false, Bool.false_or, Bool.true_and, Bool.and_true, Bool.and_self, decide_true, decide_false, decide_eq_true_eq, Orc.nothing, c61])
  refine Runs.pcall rfl rfl rfl (indexFunc_c (l := []) (p := fun n => decide (n ≤ i)) (Reads.nils σ) (by simp) (fun n _ => del1_c hc n)) ?_
  (refine Runs.of_step Orc.nothing 300 ?_; simp -implicitDefEqProofs only [s_r_nil, Ret_one, Ret_two, Ret_three, Ret_none, Ret_cell_one, Ret_cell_two, onSome_some, s_r_stop, s_r_inBlock, s_r_ops_nil, s_r_skip, s_r_seq, s_r_block, s_r_exit, exR_some, s_r_ret, s_r_loop, s_r_reg, s_r_dreg, s_d_nil, s_r_cond, cR_t, cR_f, cR_dec, s_r_ins, insR_0, insR_1, insR_2, insR_3, insR_4, callR_some, callR_none, callV_eq, callD_some, callD_none, contR_some, storeR_some, effR_some, s_d_ins, insD_0, insD_1, insD_2, insD_3, contD_some, storeD_some, effD_some, s_r_gins, gR_tup, gR_tt, gR_ff, gR_tf, gR_ft, gR_dec_t, gR_dec_f, s_d_gins, gD_tup, gD_tt, gD_ff, gD_tf, gD_ft, gD_dec_t, gD_dec_f, putO_nothing, putO_lo, putO_hi, mix_get, putO_some, putO_none, lit_t, lit_c, ev_t, ev_c, okind, vpre, vpure, binV_int, binV_str, binPre_int, binPre_str, intBin, intPre, strBin, strPre, popTo, argSlots, lenV_own, lenV_sl, lenV_nils, lenV_str, fldV, fldAV, subCells, idxAV_own, idxVV, idxAAV, idxSV, loadV_ptr, loadV_rp_agg, loadV_rp_int, sliceV, sliceSV, boundV, szIs, storeOp, storeS, setRowV, eff, extV, buildV, splice, eqSV, fitsL, eqCells, eqCell, minmaxV, binBV, nilCheckV, bytesV, V.cells, V.stays, upd_same, upd_upd, true_implies, false_implies, implies_true, keepS_eq, List.getD_cons_zero, List.getD_cons_succ, List.getD_nil, List.map_cons, List.map_nil, List.length_cons, List.length_nil, List.drop_succ_cons, List.drop_zero, List.take_succ_cons, List.take_zero, List.set_cons_zero, List.set_cons_succ, List.append_nil, List.nil_append, List.cons_append, List.all_cons, List.all_nil, List.getElem?_cons_zero, List.getElem?_cons_succ, List.contains_cons, List.contains_nil, Option.isSome_some, Option.map_some, Option.map_none, true_and, and_true, and_self, Int.reduceEq, Int.reduceNe, Int.reduceLT, Int.reduceLE, Int.reduceGT, Int.reduceGE, Nat.reduceEqDiff, Nat.reduceAdd, Nat.reduceMul, Nat.reduceLeDiff, Nat.reduceSub, Nat.reduceLT, Nat.reduceBEq, Nat.zero_add, Nat.add_zero, ↓reduceIte, reduceCtorEq, ← decide_not, Bool.not_true, Bool.not_false, Bool.false_eq_true, Bool.or_true, Bool.true_or, Bool.or_false, Bool.false_or, Bool.true_and, Bool.and_true, Bool.and_self, decide_true, decide_false, decide_eq_true_eq, Orc.nothing, firstI])
  exact RetV.same rfl

theorem sumOf_in {times n : Int} (h0 : 0 ≤ n) (t0 : 0 ≤ times) : 0 ≤ sumOf times n ∧ sumOf times n ≤ 1099511627777 := by
  unfold sumOf
  split
  · rename_i h
    refine ⟨Int.mul_nonneg h0 t0, ?_⟩
    rcases h with h | h
    · subst h; simp
    · by_cases hn : n = 0
      · subst hn; simp
      · have := Int.mul_le_of_le_ediv (by omega : 0 < n) h
        rw [Int.mul_comm]; omega
  · omega

def sumsRow (s : Sm) (ends : V) : Ob := ⟨62, 5, [.agg [vI s.depth, vI s.pieces, vI s.nodes, vI s.heights, ends]]⟩

set_option maxRecDepth 100000 in
theorem high_c {σ : Store} {c : Nat} {s : Sm} {ends sv : V} {times : Int} {l : List Int} (hc : σ c = some (sumsRow s ends)) (hr : ∀ ob, Reads (upd σ c ob) 1 false sv (l.map vI)) (hl : l.length ≤ 200000000000000)
    (hn : ∀ n ∈ l, 0 ≤ n ∧ n ≤ mx) (ht : 0 ≤ times ∧ times ≤ 200000000000000) (hh : 0 ≤ s.heights ∧ s.heights ≤ 1099511627777) (hends : ends.cells = [ends]) :
    Contract Try.prog 63 [.ptr c 0 0, vI times, sv] σ fun r σ' => r = .tup [] ∧ σ' = upd σ c (sumsRow { s with heights := highS times s.heights l } ends) := by
  have hlen : lenV false sv = some (vI (l.length : Int)) := by simpa using (hr ⟨0, 0, []⟩).1
  have hsame : upd σ c (sumsRow s ends) = σ := by
    funext j
    simp only [upd]
    split
    · rename_i e'; rw [e', hc]
    · rfl
  refine Contract.of_runs Try.func63 e63 k63 (by simp [c63]) ?_
  refine Runs.mix 9 ?_
  (refine Runs.of_step Orc.nothing 300 ?_; simp -implicitDefEqProofs only [s_r_nil, Ret_one, Ret_two, Ret_three, Ret_none, Ret_cell_one, Ret_cell_two, onSome_some, s_r_stop, s_r_inBlock, s_r_ops_nil, s_r_skip, s_r_seq, s_r_block, s_r_exit, exR_some, s_r_ret, s_r_loop, s_r_reg, s_r_dreg, s_d_nil, s_r_cond, cR_t, cR_f, cR_dec, s_r_ins, insR_0, insR_1, insR_2, insR_3, insR_4, callR_some, callR_none, callV_eq, callD_some, callD_none, contR_some, storeR_some, effR_some, s_d_ins, insD_0, insD_1, insD_2, insD_3, contD_some, storeD_some, effD_some, s_r_gins, gR_tup, gR_tt, gR_ff, gR_tf, gR_ft, gR_dec_t, gR_dec_f, s_d_gins, gD_tup, gD_tt, gD_ff, gD_tf, gD_ft, gD_dec_t, gD_dec_f, putO_nothing, putO_lo, putO_hi, mix_get, putO_some, putO_none, lit_t, lit_c, ev_t, ev_c, okind, vpre, vpure, binV_int, binV_str, binPre_int, binPre_str, intBin, intPre, strBin, strPre, popTo, argSlots, lenV_own, lenV_sl, lenV_nils, lenV_str, fldV, fldAV, subCells, idxAV_own, idxVV, idxAAV, idxSV, loadV_ptr, loadV_rp_agg, loadV_rp_int, sliceV, sliceSV, boundV, szIs, storeOp, storeS, setRowV, eff, extV, buildV, splice, eqSV, fitsL, eqCells, eqCell, minmaxV, binBV, nilCheckV, bytesV, V.cells, V.stays, upd_same, upd_upd, true_implies, false_implies, implies_true, keepS_eq, List.getD_cons_zero, List.getD_cons_succ, List.getD_nil, List.map_cons, List.map_nil, List.length_cons, List.length_nil, List.drop_succ_cons, List.drop_zero, List.take_succ_cons, List.take_zero, List.set_cons_zero, List.set_cons_succ, List.append_nil, List.nil_append, List.cons_append, List.all_cons, List.all_nil, List.getElem?_cons_zero, List.getElem?_cons_succ, List.contains_cons, List.contains_nil, Option.isSome_some, Option.map_some, Option.map_none, true_and, and_true, and_self, Int.reduceEq, Int.reduceNe, Int.reduceLT, Int.reduceLE, Int.reduceGT, Int.reduceGE, Nat.reduceEqDiff, Nat.reduceAdd, Nat.reduceMul, Nat.reduceLeDiff, Nat.reduceSub, Nat.reduceLT, Nat.reduceBEq, Nat.zero_add, Nat.add_zero, ↓reduceIte, reduceCtorEq, ← decide_not, Bool.not_true, Bool.not_false, Bool.false_eq_true, Bool.or_true, Bool.true_or, Bool.or_false, Bool.false_or, Bool.true_and, Bool.and_true, Bool.and_self, decide_true, decide_false, decide_eq_true_eq, Orc.nothing, c63, hlen])
  refine Runs.loop (fun m st => ∃ (i : Nat) (h : Int), i ≤ l.length ∧ m = l.length - i ∧ highS times s.heights l = highS times h (l.drop i) ∧ (0 ≤ h ∧ h ≤ 1099511627777) ∧ st.σ = upd σ c (sumsRow { s with heights := h } ends) ∧
    st.s 0 = .ptr c 0 0 ∧ st.s 1 = vI times ∧ st.s 9 = sv ∧ st.s 10 = vI l.length ∧ st.s 11 = vI i) l.length ?_ ?_
  · exact ⟨0, s.heights, by omega, by omega, rfl, hh, hsame.symm, rfl, rfl, rfl, rfl, rfl⟩
  · rintro m ⟨s', σ'⟩ ⟨i, h, hi, rfl, hp, hhh, hσ, h0, h1, h9, h10, h11⟩
    simp only at h0 h1 h9 h10 h11 hσ
    subst hσ
    refine Runs.mix 9 ?_
    (refine Runs.of_step Orc.nothing 300 ?_; simp -implicitDefEqProofs only [s_r_nil, Ret_one, Ret_two, Ret_three, Ret_none, Ret_cell_one, Ret_cell_two, onSome_some, s_r_stop, s_r_inBlock, s_r_ops_nil, s_r_skip, s_r_seq, s_r_block, s_r_exit, exR_some, s_r_ret, s_r_loop, s_r_reg, s_r_dreg, s_d_nil, s_r_cond, cR_t, cR_f, cR_dec, s_r_ins, insR_0, insR_1, insR_2, insR_3, insR_4, callR_some, callR_none, callV_eq, callD_some, callD_none, contR_some, storeR_some, effR_some, s_d_ins, insD_0, insD_1, insD_2, insD_3, contD_some, storeD_some, effD_some, s_r_gins, gR_tup, gR_tt, gR_ff, gR_tf, gR_ft, gR_dec_t, gR_dec_f, s_d_gins, gD_tup, gD_tt, gD_ff, gD_tf, gD_ft, gD_dec_t, gD_dec_f, putO_nothing, putO_lo, putO_hi, mix_get, putO_some, putO_none, lit_t, lit_c, ev_t, ev_c, okind, vpre, vpure, binV_int, binV_str, binPre_int, binPre_str, intBin, intPre, strBin, strPre, popTo, argSlots, lenV_own, lenV_sl, lenV_nils, lenV_str, fldV, fldAV, subCells, idxAV_own, idxVV, idxAAV, idxSV, loadV_ptr, loadV_rp_agg, loadV_rp_int, sliceV, sliceSV, boundV, szIs, storeOp, storeS, setRowV, eff, extV, buildV, splice, eqSV, fitsL, eqCells, eqCell, minmaxV, binBV, nilCheckV, bytesV, V.cells, V.stays, upd_same, upd_upd, true_implies, false_implies, implies_true, keepS_eq, List.getD_cons_zero, List.getD_cons_succ, List.getD_nil, List.map_cons, List.map_nil, List.length_cons, List.length_nil, List.drop_succ_cons, List.drop_zero, List.take_succ_cons, List.take_zero, List.set_cons_zero, List.set_cons_succ, List.append_nil, List.nil_append, List.cons_append, List.all_cons, List.all_nil, List.getElem?_cons_zero, List.getElem?_cons_succ, List.contains_cons, List.contains_nil, Option.isSome_some, Option.map_some, Option.map_none, true_and, and_true, and_self, Int.reduceEq, Int.reduceNe, Int.reduceLT, Int.reduceLE, Int.reduceGT, Int.reduceGE, Nat.reduceEqDiff, Nat.reduceAdd, Nat.reduceMul, Nat.reduceLeDiff, Nat.reduceSub, Nat.reduceLT, Nat.reduceBEq, Nat.zero_add, Nat.add_zero, ↓reduceIte, reduceCtorEq, ← decide_not, Bool.not_true, Bool.not_false, Bool.false_eq_true, Bool.or_true, Bool.true_or, Bool.or_false, Bool.false_or, Bool.true_and, Bool.and_true, Bool.and_self, decide_true, decide_false, decide_eq_true_eq, Orc.nothing, h0, h1, h9, h10, h11])
    refine And.intro (fun hlt => ?_) (fun hge => ?_)
    · have hlt' : i < l.length := by omega
      have hd : l.drop i = l[i] :: l.drop (i + 1) := List.drop_eq_getElem_cons hlt'
      obtain ⟨pp, e1, e2⟩ := (hr (sumsRow { s with heights := h } ends)).2 i (vI l[i]) (by simp [hlt'])
      have hni := hn _ (List.getElem_mem hlt')
      rw [hd, highS] at hp
      generalize hne : l[i] = n at *
      have hsum := sumOf_in (n := n) hni.1 ht.1
      simp only [sumsRow] at e1 e2
      simp only [mx] at hni
      have hq : (1099511627776 : Int).tdiv n = 1099511627776 / n := Int.tdiv_eq_ediv_of_nonneg (by omega)
      by_cases hz : n = 0
      · have hs0 : sumOf times n = n * times := by unfold sumOf; rw [if_pos (.inl hz)]
        rw [hs0] at hp hsum
        simp -implicitDefEqProofs only [s_r_nil, Ret_one, Ret_two, Ret_three, Ret_none, Ret_cell_one, Ret_cell_two, onSome_some, s_r_stop, s_r_inBlock, s_r_ops_nil, s_r_skip, s_r_seq, s_r_block, s_r_exit, exR_some, s_r_ret, s_r_loop, s_r_reg, s_r_dreg, s_d_nil, s_r_cond, cR_t, cR_f, cR_dec, s_r_ins, insR_0, insR_1, insR_2, insR_3, insR_4, callR_some, callR_none, callV_eq, callD_some, callD_none, contR_some, storeR_some, effR_some, s_d_ins, insD_0, insD_1, insD_2, insD_3, contD_some, storeD_some, effD_some, s_r_gins, gR_tup, gR_tt, gR_ff, gR_tf, gR_ft, gR_dec_t, gR_dec_f, s_d_gins, gD_tup, gD_tt, gD_ff, gD_tf, gD_ft, gD_dec_t, gD_dec_f, putO_nothing, putO_lo, putO_hi, mix_get, putO_some, putO_none, lit_t, lit_c, ev_t, ev_c, okind, vpre, vpure, binV_int, binV_str, binPre_int, binPre_str, intBin, intPre, strBin, strPre, popTo, argSlots, lenV_own, lenV_sl, lenV_nils, lenV_str, fldV, fldAV, subCells, idxAV_own, idxVV, idxAAV, idxSV, loadV_ptr, loadV_rp_agg, loadV_rp_int, sliceV, sliceSV, boundV, szIs, storeOp, storeS, setRowV, eff, extV, buildV, splice, eqSV, fitsL, eqCells, eqCell, minmaxV, binBV, nilCheckV, bytesV, V.cells, V.stays, upd_same, upd_upd, true_implies, false_implies, implies_true, keepS_eq, List.getD_cons_zero, List.getD_cons_succ, List.getD_nil, List.map_cons, List.map_nil, List.length_cons, List.length_nil, List.drop_succ_cons, List.drop_zero, List.take_succ_cons, List.take_zero, List.set_cons_zero, List.set_cons_succ, List.append_nil, List.nil_append, List.cons_append, List.all_cons, List.all_nil, List.getElem?_cons_zero, List.getElem?_cons_succ, List.contains_cons, List.contains_nil, Option.isSome_some, Option.map_some, Option.map_none, true_and, and_true, and_self, Int.reduceEq, Int.reduceNe, Int.reduceLT, Int.reduceLE, Int.reduceGT, Int.reduceGE, Nat.reduceEqDiff, Nat.reduceAdd, Nat.reduceMul, Nat.reduceLeDiff, Nat.reduceSub, Nat.reduceLT, Nat.reduceBEq, Nat.zero_add, Nat.add_zero, ↓reduceIte, reduceCtorEq, ← decide_not, Bool.not_true, Bool.not_false, Bool.false_eq_true, Bool.or_true, Bool.true_or, Bool.or_false, Bool.false_or, Bool.true_and, Bool.and_true, Bool.and_self, decide_true, decide_false, decide_eq_true_eq, e1, e2, sumsRow, hz, h0, h1, h9, h10, h11]
        rw [hz] at hp hsum
        simp only [Int.zero_mul, Int.add_zero] at hp ⊢
        refine ⟨inR_i64 (by omega) (by omega), inR_i64 (by omega) (by omega), inR_i64 (by omega) (by omega), _, ?_, i + 1, h, by omega, rfl, ?_, hhh, ?_, by simp⟩
        · omega
        · rw [hp, Int.min_eq_left hhh.2]
        · rw [if_neg (by omega)]
      · simp -implicitDefEqProofs only [s_r_nil, Ret_one, Ret_two, Ret_three, Ret_none, Ret_cell_one, Ret_cell_two, onSome_some, s_r_stop, s_r_inBlock, s_r_ops_nil, s_r_skip, s_r_seq, s_r_block, s_r_exit, exR_some, s_r_ret, s_r_loop, s_r_reg, s_r_dreg, s_d_nil, s_r_cond, cR_t, cR_f, cR_dec, s_r_ins, insR_0, insR_1, insR_2, insR_3, insR_4, callR_some, callR_none, callV_eq, callD_some, callD_none, contR_some, storeR_some, effR_some, s_d_ins, insD_0, insD_1, insD_2, insD_3, contD_some, storeD_some, effD_some, s_r_gins, gR_tup, gR_tt, gR_ff, gR_tf, gR_ft, gR_dec_t, gR_dec_f, s_d_gins, gD_tup, gD_tt, gD_ff, gD_tf, gD_ft, gD_dec_t, gD_dec_f, putO_nothing, putO_lo, putO_hi, mix_get, putO_some, putO_none, lit_t, lit_c, ev_t, ev_c, okind, vpre, vpure, binV_int, binV_str, binPre_int, binPre_str, intBin, intPre, strBin, strPre, popTo, argSlots, lenV_own, lenV_sl, lenV_nils, lenV_str, fldV, fldAV, subCells, idxAV_own, idxVV, idxAAV, idxSV, loadV_ptr, loadV_rp_agg, loadV_rp_int, sliceV, sliceSV, boundV, szIs, storeOp, storeS, setRowV, eff, extV, buildV, splice, eqSV, fitsL, eqCells, eqCell, minmaxV, binBV, nilCheckV, bytesV, V.cells, V.stays, upd_same, upd_upd, true_implies, false_implies, implies_true, keepS_eq, List.getD_cons_zero, List.getD_cons_succ, List.getD_nil, List.map_cons, List.map_nil, List.length_cons, List.length_nil, List.drop_succ_cons, List.drop_zero, List.take_succ_cons, List.take_zero, List.set_cons_zero, List.set_cons_succ, List.append_nil, List.nil_append, List.cons_append, List.all_cons, List.all_nil, List.getElem?_cons_zero, List.getElem?_cons_succ, List.contains_cons, List.contains_nil, Option.isSome_some, Option.map_some, Option.map_none, true_and, and_true, and_self, Int.reduceEq, Int.reduceNe, Int.reduceLT, Int.reduceLE, Int.reduceGT, Int.reduceGE, Nat.reduceEqDiff, Nat.reduceAdd, Nat.reduceMul, Nat.reduceLeDiff, Nat.reduceSub, Nat.reduceLT, Nat.reduceBEq, Nat.zero_add, Nat.add_zero, ↓reduceIte, reduceCtorEq, ← decide_not, Bool.not_true, Bool.not_false, Bool.false_eq_true, Bool.or_true, Bool.true_or, Bool.or_false, Bool.false_or, Bool.true_and, Bool.and_true, Bool.and_self, decide_true, decide_false, decide_eq_true_eq, e1, e2, sumsRow, hz, h0, h1, h9, h10, h11, hq]
        have hdiv : 0 ≤ 1099511627776 / n ∧ 1099511627776 / n ≤ 1099511627776 := ⟨Int.ediv_nonneg (by omega) hni.1, Int.ediv_le_self _ (by omega)⟩
        refine ⟨inR_i64 (by omega) (by omega), fun hle => ?_, fun hgt => ?_⟩
        · have hs0 : sumOf times n = n * times := by unfold sumOf; rw [if_pos (.inr hle)]
          rw [hs0] at hp hsum
          refine ⟨inR_i64 (by omega) (by omega), inR_i64 (by omega) (by omega), inR_i64 (by omega) (by omega), _, ?_, i + 1, min (h + n * times) 1099511627777, by omega, rfl, hp, by omega, ?_, by simp⟩
          · omega
          · rw [show (if 1099511627777 < h + n * times then 1099511627777 else h + n * times) = min (h + n * times) 1099511627777 by split <;> omega]
        · have hs0 : sumOf times n = 1099511627777 := by unfold sumOf; rw [if_neg (by omega)]
          rw [hs0] at hp hsum
          refine ⟨inR_i64 (by omega) (by omega), inR_i64 (by omega) (by omega), _, ?_, i + 1, min (h + 1099511627777) 1099511627777, by omega, rfl, hp, by omega, ?_, by simp⟩
          · omega
          · rw [show (if 1099511627777 < h + 1099511627777 then 1099511627777 else h + 1099511627777) = min (h + 1099511627777) 1099511627777 by split <;> omega]
    · have : i = l.length := by omega
      refine ⟨_, _, SubStore.refl _, Wk.refl (SubStore.refl _) _, rfl, ?_⟩
      rw [hp, this, List.drop_length]; rfl
end Go.Vc
/- Contracts: a node is counted. -/
namespace Go.Vc
open Go.Proofs

/-- a row that takes the place of another one -/
theorem effD_app {P : Program} {n : Nat} {Q : St → Prop} {k : List It} {O : Orc P} {f : Nat} {d : Option Nat} {l : List VIns} {v : Nat → V} {ob : Ob} {s : Nat → V} {σ : Store} {e : Nat}
    (h : ∀ id σ', SubStore (del σ e) σ' → σ' id = some ob → σ id = none → step P O n f (.d l k) ⟨putO s d (v id), σ'⟩ Q) :
    effD P O n f l k d ⟨s, σ⟩ Q (some fun id => (v id, Vc.upd (del σ e) id ob)) := by
  rw [effD_some]
  refine fun id hid => h id _ ((SubStore.refl _).upd ?_) upd_same hid
  by_cases e' : id = e
  · simp [del, e']
  · rw [del_ne e']; exact hid
theorem effR_app {P : Program} {n : Nat} {Q : St → Prop} {k : List It} {O : Orc P} {f : Nat} {d : Option Nat} {l : List VIns} {v : Nat → V} {ob : Ob} {s : Nat → V} {σ : Store} {e : Nat}
    (h : ∀ id σ', SubStore (del σ e) σ' → σ' id = some ob → σ id = none → step P O n f (.r (.ops l :: k)) ⟨putO s d (v id), σ'⟩ Q) :
    effR P O n f l k d ⟨s, σ⟩ Q (some fun id => (v id, Vc.upd (del σ e) id ob)) := by
  rw [effR_some]
  refine fun id hid => h id _ ((SubStore.refl _).upd ?_) upd_same hid
  by_cases e' : id = e
  · simp [del, e']
  · rw [del_ne e']; exact hid

/-- the row of ends, in a store beside what is kept -/
def EndsV (K σ : Store) (v : V) (ends : List Int) (B : Nat) : Prop :=
  (v = .nils ∧ ends = []) ∨ ∃ (e k : Nat) (full : List Int), v = .own e 0 k ∧ σ e = some ⟨3, 1, full.map vI⟩ ∧ K e = none ∧ k ≤ full.length ∧ full.length ≤ B ∧ full.take k = ends

theorem del_c {K σ : Store} {v : V} {ends : List Int} {B c : Nat} {i : Int} (hB : B ≤ 1000000000000) (h : EndsV K σ v ends B) (hK : SubStore K σ) (hc : K c = some ⟨3, 1, [vI i]⟩) :
    Contract Try.prog 61 [v, .fn 62 [.ptr c 0 0]] σ fun r σ' => SubStore K σ' ∧ EndsV K σ' r (kept i ends) B := by
  rcases h with ⟨rfl, rfl⟩ | ⟨e, k, full, rfl, h1, h2, h3, h4, rfl⟩
  · refine (delete_nil (hK _ _ hc)).mono ?_
    rintro r σ' ⟨rfl, rfl⟩
    exact ⟨hK, .inl ⟨rfl, rfl⟩⟩
  · have hne : c ≠ e := by rintro rfl; rw [h2] at hc; cases hc
    refine (delete_c h1 (hK _ _ hc) hne h3 (by omega)).mono ?_
    rintro r σ' ⟨k', full', rfl, rfl, g1, g2, g3⟩
    exact ⟨hK.updK h2, .inr ⟨e, k', full', rfl, upd_same, h2, g1, by omega, g3⟩⟩

theorem SubStore.putK {K σ : Store} {i : Nat} {o : Ob} (h : SubStore K σ) (hi : σ i = some o) : SubStore (Vc.upd K i o) σ := fun j x hx => by
  by_cases e : j = i
  · subst e; rw [upd_same] at hx; rw [hi]; exact hx
  · rw [upd_ne e] at hx; exact h j x hx
theorem EndsV.new {K σ σ' : Store} {v : V} {ends : List Int} {B id : Nat} {o : Ob} (h : EndsV K σ v ends B) (hs : SubStore σ σ') (hid : σ id = none) : EndsV (upd K id o) σ' v ends B := by
  rcases h with h | ⟨e, k, full, h0, h1, h2, h3⟩
  · exact .inl h
  · exact .inr ⟨e, k, full, h0, hs _ _ h1, by rw [upd_ne (ne_new h1 hid)]; exact h2, h3⟩
theorem EndsV.less {K K' σ : Store} {v : V} {ends : List Int} {B : Nat} (h : EndsV K' σ v ends B) (hs : SubStore K K') : EndsV K σ v ends B := by
  rcases h with h | ⟨e, k, full, h0, h1, h2, h3⟩
  · exact .inl h
  · exact .inr ⟨e, k, full, h0, h1, hs.none h2, h3⟩

set_option maxRecDepth 100000 in
theorem node_c {K σ : Store} {v : V} {ends : List Int} {B c i : Nat} {x : Nd} {s : Sm} (hK : SubStore K σ) (hKc : K c = none) (hc : σ c = some (sumsRow s v)) (hE : ∀ o, EndsV (upd K c o) σ v ends B) (hB : B ≤ 1000000000)
    (hi : i ≤ 10000) (hs : s.fine i) (hsn : s.nodes = i) (hx : x.ok = true) (hw : x.words.length ≤ 200000000000000) (hsz : 1 ≤ x.size ∧ x.size ≤ 1000000000) :
    Contract Try.prog 33 [.ptr c 0 0, vI i, encN x] σ fun r σ' => r = .tup [] ∧ SubStore K σ' ∧ ∃ v', σ' c = some (sumsRow (nodeS i x s ends).1 v') ∧ ∀ o, EndsV (upd K c o) σ' v' (nodeS i x s ends).2 (B + 1) := by
  refine Contract.of_runs Try.func33 e33 k33 (by simp [c33]) ?_
  refine Runs.mix 7 ?_
  (refine Runs.of_step Orc.nothing 300 ?_; simp -implicitDefEqProofs only [s_r_nil, Ret_one, Ret_two, Ret_three, Ret_none, Ret_cell_one, Ret_cell_two, onSome_some, s_r_stop, s_r_inBlock, s_r_ops_nil, s_r_skip, s_r_seq, s_r_block, s_r_exit, exR_some, s_r_ret, s_r_loop, s_r_reg, s_r_dreg, s_d_nil, s_r_cond, cR_t, cR_f, cR_dec, s_r_ins, insR_0, insR_1, insR_2, insR_3, insR_4, callR_some, callR_none, callV_eq, callD_some, callD_none, contR_some, storeR_some, s_d_ins, insD_0, insD_1, insD_2, insD_3, contD_some, storeD_some, s_r_gins, gR_tup, gR_tt, gR_ff, gR_tf, gR_ft, gR_dec_t, gR_dec_f, s_d_gins, gD_tup, gD_tt, gD_ff, gD_tf, gD_ft, gD_dec_t, gD_dec_f, putO_nothing, putO_lo, putO_hi, mix_get, putO_some, putO_none, lit_t, lit_c, ev_t, ev_c, okind, vpre, vpure, binV_int, binV_str, binPre_int, binPre_str, intBin, intPre, strBin, strPre, popTo, argSlots, lenV_own, lenV_sl, lenV_nils, lenV_str, fldV, fldAV, subCells, idxAV_own, idxVV, idxAAV, idxSV, loadV_ptr, loadV_rp_agg, loadV_rp_int, sliceV, sliceSV, boundV, szIs, storeOp, storeS, setRowV, eff, extV, buildV, splice, eqSV, fitsL, eqCells, eqCell, minmaxV, binBV, nilCheckV, bytesV, V.cells, V.stays, upd_same, upd_upd, true_implies, false_implies, implies_true, keepS_eq, List.getD_cons_zero, List.getD_cons_succ, List.getD_nil, List.map_cons, List.map_nil, List.length_cons, List.length_nil, List.drop_succ_cons, List.drop_zero, List.take_succ_cons, List.take_zero, List.set_cons_zero, List.set_cons_succ, List.append_nil, List.nil_append, List.cons_append, List.all_cons, List.all_nil, List.getElem?_cons_zero, List.getElem?_cons_succ, List.contains_cons, List.contains_nil, Option.isSome_some, Option.map_some, Option.map_none, true_and, and_true, and_self, Int.reduceEq, Int.reduceNe, Int.reduceLT, Int.reduceLE, Int.reduceGT, Int.reduceGE, Nat.reduceEqDiff, Nat.reduceAdd, Nat.reduceMul, Nat.reduceLeDiff, Nat.reduceSub, Nat.reduceLT, Nat.reduceBEq, Nat.zero_add, Nat.add_zero, ↓reduceIte, reduceCtorEq, ← decide_not, Bool.not_true, Bool.not_false, Bool.false_eq_true, Bool.or_true, Bool.true_or, Bool.or_false, Bool.false_or, Bool.true_and, Bool.and_true, Bool.and_self, decide_true, decide_false, decide_eq_true_eq, Orc.nothing, c33, encN, Nd.cells])
  refine effR_new fun id4 σ1 s1 a4 f4 => ?_
  have hc1 := s1 _ _ hc
  have n4c := ne_new hc f4
  simp -implicitDefEqProofs only [s_r_nil, Ret_one, Ret_two, Ret_three, Ret_none, Ret_cell_one, Ret_cell_two, onSome_some, s_r_stop, s_r_inBlock, s_r_ops_nil, s_r_skip, s_r_seq, s_r_block, s_r_exit, exR_some, s_r_ret, s_r_loop, s_r_reg, s_r_dreg, s_d_nil, s_r_cond, cR_t, cR_f, cR_dec, s_r_ins, insR_0, insR_1, insR_2, insR_3, insR_4, callR_some, callR_none, callV_eq, callD_some, callD_none, contR_some, storeR_some, s_d_ins, insD_0, insD_1, insD_2, insD_3, contD_some, storeD_some, s_r_gins, gR_tup, gR_tt, gR_ff, gR_tf, gR_ft, gR_dec_t, gR_dec_f, s_d_gins, gD_tup, gD_tt, gD_ff, gD_tf, gD_ft, gD_dec_t, gD_dec_f, putO_nothing, putO_lo, putO_hi, mix_get, putO_some, putO_none, lit_t, lit_c, ev_t, ev_c, okind, vpre, vpure, binV_int, binV_str, binPre_int, binPre_str, intBin, intPre, strBin, strPre, popTo, argSlots, lenV_own, lenV_sl, lenV_nils, lenV_str, fldV, fldAV, subCells, idxAV_own, idxVV, idxAAV, idxSV, loadV_ptr, loadV_rp_agg, loadV_rp_int, sliceV, sliceSV, boundV, szIs, storeOp, storeS, setRowV, eff, extV, buildV, splice, eqSV, fitsL, eqCells, eqCell, minmaxV, binBV, nilCheckV, bytesV, V.cells, V.stays, upd_same, upd_upd, true_implies, false_implies, implies_true, keepS_eq, List.getD_cons_zero, List.getD_cons_succ, List.getD_nil, List.map_cons, List.map_nil, List.length_cons, List.length_nil, List.drop_succ_cons, List.drop_zero, List.take_succ_cons, List.take_zero, List.set_cons_zero, List.set_cons_succ, List.append_nil, List.nil_append, List.cons_append, List.all_cons, List.all_nil, List.getElem?_cons_zero, List.getElem?_cons_succ, List.contains_cons, List.contains_nil, Option.isSome_some, Option.map_some, Option.map_none, true_and, and_true, and_self, Int.reduceEq, Int.reduceNe, Int.reduceLT, Int.reduceLE, Int.reduceGT, Int.reduceGE, Nat.reduceEqDiff, Nat.reduceAdd, Nat.reduceMul, Nat.reduceLeDiff, Nat.reduceSub, Nat.reduceLT, Nat.reduceBEq, Nat.zero_add, Nat.add_zero, ↓reduceIte, reduceCtorEq, ← decide_not, Bool.not_true, Bool.not_false, Bool.false_eq_true, Bool.or_true, Bool.true_or, Bool.or_false, Bool.false_or, Bool.true_and, Bool.and_true, Bool.and_self, decide_true, decide_false, decide_eq_true_eq, a4]
  refine effR_new fun id5 σ2 s2 a5 f5 => ?_
  have hc2 := s2 _ _ hc1
  have n5c := ne_new hc1 f5
  have n54 := ne_new a4 f5
  have a4 := s2 _ _ a4
  have hK2 := (hK.trans s1).trans s2
  have k4 : K id4 = none := hK.none f4
  have k5 : K id5 = none := (hK.trans s1).none f5
  simp -implicitDefEqProofs only [s_r_nil, Ret_one, Ret_two, Ret_three, Ret_none, Ret_cell_one, Ret_cell_two, onSome_some, s_r_stop, s_r_inBlock, s_r_ops_nil, s_r_skip, s_r_seq, s_r_block, s_r_exit, exR_some, s_r_ret, s_r_loop, s_r_reg, s_r_dreg, s_d_nil, s_r_cond, cR_t, cR_f, cR_dec, s_r_ins, insR_0, insR_1, insR_2, insR_3, insR_4, callR_some, callR_none, callV_eq, callD_some, callD_none, contR_some, storeR_some, s_d_ins, insD_0, insD_1, insD_2, insD_3, contD_some, storeD_some, s_r_gins, gR_tup, gR_tt, gR_ff, gR_tf, gR_ft, gR_dec_t, gR_dec_f, s_d_gins, gD_tup, gD_tt, gD_ff, gD_tf, gD_ft, gD_dec_t, gD_dec_f, putO_nothing, putO_lo, putO_hi, mix_get, putO_some, putO_none, lit_t, lit_c, ev_t, ev_c, okind, vpre, vpure, binV_int, binV_str, binPre_int, binPre_str, intBin, intPre, strBin, strPre, popTo, argSlots, lenV_own, lenV_sl, lenV_nils, lenV_str, fldV, fldAV, subCells, idxAV_own, idxVV, idxAAV, idxSV, loadV_ptr, loadV_rp_agg, loadV_rp_int, sliceV, sliceSV, boundV, szIs, storeOp, storeS, setRowV, eff, extV, buildV, splice, eqSV, fitsL, eqCells, eqCell, minmaxV, binBV, nilCheckV, bytesV, V.cells, V.stays, upd_same, upd_upd, true_implies, false_implies, implies_true, keepS_eq, List.getD_cons_zero, List.getD_cons_succ, List.getD_nil, List.map_cons, List.map_nil, List.length_cons, List.length_nil, List.drop_succ_cons, List.drop_zero, List.take_succ_cons, List.take_zero, List.set_cons_zero, List.set_cons_succ, List.append_nil, List.nil_append, List.cons_append, List.all_cons, List.all_nil, List.getElem?_cons_zero, List.getElem?_cons_succ, List.contains_cons, List.contains_nil, Option.isSome_some, Option.map_some, Option.map_none, true_and, and_true, and_self, Int.reduceEq, Int.reduceNe, Int.reduceLT, Int.reduceLE, Int.reduceGT, Int.reduceGE, Nat.reduceEqDiff, Nat.reduceAdd, Nat.reduceMul, Nat.reduceLeDiff, Nat.reduceSub, Nat.reduceLT, Nat.reduceBEq, Nat.zero_add, Nat.add_zero, ↓reduceIte, reduceCtorEq, ← decide_not, Bool.not_true, Bool.not_false, Bool.false_eq_true, Bool.or_true, Bool.true_or, Bool.or_false, Bool.false_or, Bool.true_and, Bool.and_true, Bool.and_self, decide_true, decide_false, decide_eq_true_eq, hc2, sumsRow, a4, a5]
  have hK' : SubStore (upd (upd (upd K c (sumsRow s v)) id4 ⟨3, 1, [vI i]⟩) id5 ⟨28, 20, [encN x]⟩) σ2 := ((hK2.putK hc2).putK a4).putK a5
  have hE' : EndsV (upd (upd (upd K c (sumsRow s v)) id4 ⟨3, 1, [vI i]⟩) id5 ⟨28, 20, [encN x]⟩) σ2 v ends B := ((hE _).new s1 f4).new s2 f5
  refine Runs.call rfl rfl rfl (del_c (by omega) hE' hK' (by rw [upd_ne n54, upd_same])) ?_
  rintro r σ3 ⟨hK3, hE3⟩
  have hc3 := hK3 c _ (by rw [upd_ne n5c, upd_ne n4c, upd_same])
  have a4 := hK3 id4 _ (by rw [upd_ne n54, upd_same])
  have a5 := hK3 id5 _ upd_same
  simp only [encN, Nd.cells] at a5
  simp only [sumsRow] at hc3
  have hKK := (((SubStore.refl K).updK hKc (o := sumsRow s v)).updK k4 (o := ⟨3, 1, [vI i]⟩)).updK k5 (o := ⟨28, 20, [encN x]⟩)
  have h3 := hKK.trans hK3
  have hsr : inR .i64 (s.nodes + 1) := inR_i64 (by omega) (by omega)
  obtain ⟨p1, p2, p3, p4, p5, p6⟩ := ok_numbers hx
  obtain ⟨f1, f2, f3⟩ := hs
  rcases hE3 with ⟨rfl, hk0⟩ | ⟨e, k, full, rfl, he, hKe, hk, hfl, hk0⟩
  · by_cases hk1 : x.kind = 1
    · (refine Runs.of_step Orc.nothing 300 ?_; simp -implicitDefEqProofs only [s_r_nil, Ret_one, Ret_two, Ret_three, Ret_none, Ret_cell_one, Ret_cell_two, onSome_some, s_r_stop, s_r_inBlock, s_r_ops_nil, s_r_skip, s_r_seq, s_r_block, s_r_exit, exR_some, s_r_ret, s_r_loop, s_r_reg, s_r_dreg, s_d_nil, s_r_cond, cR_t, cR_f, cR_dec, s_r_ins, insR_0, insR_1, insR_2, insR_3, insR_4, callR_some, callR_none, callV_eq, callD_some, callD_none, contR_some, storeR_some, s_d_ins, insD_0, insD_1, insD_2, insD_3, contD_some, storeD_some, s_r_gins, gR_tup, gR_tt, gR_ff, gR_tf, gR_ft, gR_dec_t, gR_dec_f, s_d_gins, gD_tup, gD_tt, gD_ff, gD_tf, gD_ft, gD_dec_t, gD_dec_f, putO_nothing, putO_lo, putO_hi, mix_get, putO_some, putO_none, lit_t, lit_c, ev_t, ev_c, okind, vpre, vpure, binV_int, binV_str, binPre_int, binPre_str, intBin, intPre, strBin, strPre, popTo, argSlots, lenV_own, lenV_sl, lenV_nils, lenV_str, fldV, fldAV, subCells, idxAV_own, idxVV, idxAAV, idxSV, loadV_ptr, loadV_rp_agg, loadV_rp_int, sliceV, sliceSV, boundV, szIs, storeOp, storeS, setRowV, eff, extV, buildV, splice, eqSV, fitsL, eqCells, eqCell, minmaxV, binBV, nilCheckV, bytesV, V.cells, V.stays, upd_same, upd_upd, true_implies, false_implies, implies_true, keepS_eq, List.getD_cons_zero, List.getD_cons_succ, List.getD_nil, List.map_cons, List.map_nil, List.length_cons, List.length_nil, List.drop_succ_cons, List.drop_zero, List.take_succ_cons, List.take_zero, List.set_cons_zero, List.set_cons_succ, List.append_nil, List.nil_append, List.cons_append, List.all_cons, List.all_nil, List.getElem?_cons_zero, List.getElem?_cons_succ, List.contains_cons, List.contains_nil, Option.isSome_some, Option.map_some, Option.map_none, true_and, and_true, and_self, Int.reduceEq, Int.reduceNe, Int.reduceLT, Int.reduceLE, Int.reduceGT, Int.reduceGE, Nat.reduceEqDiff, Nat.reduceAdd, Nat.reduceMul, Nat.reduceLeDiff, Nat.reduceSub, Nat.reduceLT, Nat.reduceBEq, Nat.zero_add, Nat.add_zero, ↓reduceIte, reduceCtorEq, ← decide_not, Bool.not_true, Bool.not_false, Bool.false_eq_true, Bool.or_true, Bool.true_or, Bool.or_false, Bool.false_or, Bool.true_and, Bool.and_true, Bool.and_self, decide_true, decide_false, decide_eq_true_eq, Orc.nothing, a4, a5, hc3, upd_ne n4c.symm, upd_ne n5c.symm, hk1])
      refine ⟨hsr, inR_i64 (by omega) (by omega), ?_⟩
      refine effD_new fun id8 σ4 s4 a8 f8 => ?_
      have hc4 := s4 c _ upd_same
      have a4 := s4 id4 _ (by rw [upd_ne n4c.symm]; exact a4)
      have a5 := s4 id5 _ (by rw [upd_ne n5c.symm]; exact a5)
      have hs8 : ∀ σ, σ id8 = some ⟨3, 1, [.int .i64 (i + x.size)]⟩ → srcRows σ 1 (.own id8 0 1) = some [.int .i64 (i + x.size)] := by
        intro σ hσ
        simp only [srcRows, hσ]
        rw [if_pos (by simp)]
        simp
      have hd : ∀ σ, dstRows σ 3 1 .nils = some ([], none) := fun _ => rfl
      simp -implicitDefEqProofs only [s_r_nil, Ret_one, Ret_two, Ret_three, Ret_none, Ret_cell_one, Ret_cell_two, onSome_some, s_r_stop, s_r_inBlock, s_r_ops_nil, s_r_skip, s_r_seq, s_r_block, s_r_exit, exR_some, s_r_ret, s_r_loop, s_r_reg, s_r_dreg, s_d_nil, s_r_cond, cR_t, cR_f, cR_dec, s_r_ins, insR_0, insR_1, insR_2, insR_3, insR_4, callR_some, callR_none, callV_eq, callD_some, callD_none, contR_some, storeR_some, s_d_ins, insD_0, insD_1, insD_2, insD_3, contD_some, storeD_some, s_r_gins, gR_tup, gR_tt, gR_ff, gR_tf, gR_ft, gR_dec_t, gR_dec_f, s_d_gins, gD_tup, gD_tt, gD_ff, gD_tf, gD_ft, gD_dec_t, gD_dec_f, putO_nothing, putO_lo, putO_hi, mix_get, putO_some, putO_none, lit_t, lit_c, ev_t, ev_c, okind, vpre, vpure, binV_int, binV_str, binPre_int, binPre_str, intBin, intPre, strBin, strPre, popTo, argSlots, lenV_own, lenV_sl, lenV_nils, lenV_str, fldV, fldAV, subCells, idxAV_own, idxVV, idxAAV, idxSV, loadV_ptr, loadV_rp_agg, loadV_rp_int, sliceV, sliceSV, boundV, szIs, storeOp, storeS, setRowV, eff, extV, buildV, splice, eqSV, fitsL, eqCells, eqCell, minmaxV, binBV, nilCheckV, bytesV, V.cells, V.stays, upd_same, upd_upd, true_implies, false_implies, implies_true, keepS_eq, List.getD_cons_zero, List.getD_cons_succ, List.getD_nil, List.map_cons, List.map_nil, List.length_cons, List.length_nil, List.drop_succ_cons, List.drop_zero, List.take_succ_cons, List.take_zero, List.set_cons_zero, List.set_cons_succ, List.append_nil, List.nil_append, List.cons_append, List.all_cons, List.all_nil, List.getElem?_cons_zero, List.getElem?_cons_succ, List.contains_cons, List.contains_nil, Option.isSome_some, Option.map_some, Option.map_none, true_and, and_true, and_self, Int.reduceEq, Int.reduceNe, Int.reduceLT, Int.reduceLE, Int.reduceGT, Int.reduceGE, Nat.reduceEqDiff, Nat.reduceAdd, Nat.reduceMul, Nat.reduceLeDiff, Nat.reduceSub, Nat.reduceLT, Nat.reduceBEq, Nat.zero_add, Nat.add_zero, ↓reduceIte, reduceCtorEq, ← decide_not, Bool.not_true, Bool.not_false, Bool.false_eq_true, Bool.or_true, Bool.true_or, Bool.or_false, Bool.false_or, Bool.true_and, Bool.and_true, Bool.and_self, decide_true, decide_false, decide_eq_true_eq, hs8, a8, hd, delO, Nat.reduceLeDiff]
      refine effD_new fun id9 σ5 s5 a9 f9 => ?_
      have hc5 := s5 c _ hc4
      have a4 := s5 id4 _ a4
      have a5 := s5 id5 _ a5
      have n9c : id9 ≠ c := by rintro rfl; rw [hc4] at f9; cases f9
      have n95 : id9 ≠ id5 := by rintro rfl; rw [s4 id9 _ (by rw [upd_ne n5c.symm]; exact hK3 id9 _ upd_same)] at f9; cases f9
      simp -implicitDefEqProofs only [s_r_nil, Ret_one, Ret_two, Ret_three, Ret_none, Ret_cell_one, Ret_cell_two, onSome_some, s_r_stop, s_r_inBlock, s_r_ops_nil, s_r_skip, s_r_seq, s_r_block, s_r_exit, exR_some, s_r_ret, s_r_loop, s_r_reg, s_r_dreg, s_d_nil, s_r_cond, cR_t, cR_f, cR_dec, s_r_ins, insR_0, insR_1, insR_2, insR_3, insR_4, callR_some, callR_none, callV_eq, callD_some, callD_none, contR_some, storeR_some, s_d_ins, insD_0, insD_1, insD_2, insD_3, contD_some, storeD_some, s_r_gins, gR_tup, gR_tt, gR_ff, gR_tf, gR_ft, gR_dec_t, gR_dec_f, s_d_gins, gD_tup, gD_tt, gD_ff, gD_tf, gD_ft, gD_dec_t, gD_dec_f, putO_nothing, putO_lo, putO_hi, mix_get, putO_some, putO_none, lit_t, lit_c, ev_t, ev_c, okind, vpre, vpure, binV_int, binV_str, binPre_int, binPre_str, intBin, intPre, strBin, strPre, popTo, argSlots, lenV_own, lenV_sl, lenV_nils, lenV_str, fldV, fldAV, subCells, idxAV_own, idxVV, idxAAV, idxSV, loadV_ptr, loadV_rp_agg, loadV_rp_int, sliceV, sliceSV, boundV, szIs, storeOp, storeS, setRowV, eff, extV, buildV, splice, eqSV, fitsL, eqCells, eqCell, minmaxV, binBV, nilCheckV, bytesV, V.cells, V.stays, upd_same, upd_upd, true_implies, false_implies, implies_true, keepS_eq, List.getD_cons_zero, List.getD_cons_succ, List.getD_nil, List.map_cons, List.map_nil, List.length_cons, List.length_nil, List.drop_succ_cons, List.drop_zero, List.take_succ_cons, List.take_zero, List.set_cons_zero, List.set_cons_succ, List.append_nil, List.nil_append, List.cons_append, List.all_cons, List.all_nil, List.getElem?_cons_zero, List.getElem?_cons_succ, List.contains_cons, List.contains_nil, Option.isSome_some, Option.map_some, Option.map_none, true_and, and_true, and_self, Int.reduceEq, Int.reduceNe, Int.reduceLT, Int.reduceLE, Int.reduceGT, Int.reduceGE, Nat.reduceEqDiff, Nat.reduceAdd, Nat.reduceMul, Nat.reduceLeDiff, Nat.reduceSub, Nat.reduceLT, Nat.reduceBEq, Nat.zero_add, Nat.add_zero, ↓reduceIte, reduceCtorEq, ← decide_not, Bool.not_true, Bool.not_false, Bool.false_eq_true, Bool.or_true, Bool.true_or, Bool.or_false, Bool.false_or, Bool.true_and, Bool.and_true, Bool.and_self, decide_true, decide_false, decide_eq_true_eq, hc5, a4, a5, a9, upd_ne n5c.symm, upd_ne n9c]
      refine effR_new fun id6 σ6 s6 a6 f6 => ?_
      have hc6 := s6 c _ upd_same
      have a9 := s6 id9 _ (by rw [upd_ne n9c]; exact a9)
      have n6c : id6 ≠ c := by rintro rfl; rw [hc6] at a6; simp at a6
      have n69 : id6 ≠ id9 := by rintro rfl; rw [a9] at a6; simp at a6
      simp -implicitDefEqProofs only [s_r_nil, Ret_one, Ret_two, Ret_three, Ret_none, Ret_cell_one, Ret_cell_two, onSome_some, s_r_stop, s_r_inBlock, s_r_ops_nil, s_r_skip, s_r_seq, s_r_block, s_r_exit, exR_some, s_r_ret, s_r_loop, s_r_reg, s_r_dreg, s_d_nil, s_r_cond, cR_t, cR_f, cR_dec, s_r_ins, insR_0, insR_1, insR_2, insR_3, insR_4, callR_some, callR_none, callV_eq, callD_some, callD_none, contR_some, storeR_some, s_d_ins, insD_0, insD_1, insD_2, insD_3, contD_some, storeD_some, s_r_gins, gR_tup, gR_tt, gR_ff, gR_tf, gR_ft, gR_dec_t, gR_dec_f, s_d_gins, gD_tup, gD_tt, gD_ff, gD_tf, gD_ft, gD_dec_t, gD_dec_f, putO_nothing, putO_lo, putO_hi, mix_get, putO_some, putO_none, lit_t, lit_c, ev_t, ev_c, okind, vpre, vpure, binV_int, binV_str, binPre_int, binPre_str, intBin, intPre, strBin, strPre, popTo, argSlots, lenV_own, lenV_sl, lenV_nils, lenV_str, fldV, fldAV, subCells, idxAV_own, idxVV, idxAAV, idxSV, loadV_ptr, loadV_rp_agg, loadV_rp_int, sliceV, sliceSV, boundV, szIs, storeOp, storeS, setRowV, eff, extV, buildV, splice, eqSV, fitsL, eqCells, eqCell, minmaxV, binBV, nilCheckV, bytesV, V.cells, V.stays, upd_same, upd_upd, true_implies, false_implies, implies_true, keepS_eq, List.getD_cons_zero, List.getD_cons_succ, List.getD_nil, List.map_cons, List.map_nil, List.length_cons, List.length_nil, List.drop_succ_cons, List.drop_zero, List.take_succ_cons, List.take_zero, List.set_cons_zero, List.set_cons_succ, List.append_nil, List.nil_append, List.cons_append, List.all_cons, List.all_nil, List.getElem?_cons_zero, List.getElem?_cons_succ, List.contains_cons, List.contains_nil, Option.isSome_some, Option.map_some, Option.map_none, true_and, and_true, and_self, Int.reduceEq, Int.reduceNe, Int.reduceLT, Int.reduceLE, Int.reduceGT, Int.reduceGE, Nat.reduceEqDiff, Nat.reduceAdd, Nat.reduceMul, Nat.reduceLeDiff, Nat.reduceSub, Nat.reduceLT, Nat.reduceBEq, Nat.zero_add, Nat.add_zero, ↓reduceIte, reduceCtorEq, ← decide_not, Bool.not_true, Bool.not_false, Bool.false_eq_true, Bool.or_true, Bool.true_or, Bool.or_false, Bool.false_or, Bool.true_and, Bool.and_true, Bool.and_self, decide_true, decide_false, decide_eq_true_eq, a6]
      refine effR_new fun id84 σ7 s7 a84 f84 => ?_
      have hc7 := s7 c _ (by rw [upd_ne n6c.symm]; exact hc6)
      have a9 := s7 id9 _ (by rw [upd_ne n69.symm]; exact a9)
      have n84c : id84 ≠ c := by rintro rfl; rw [hc7] at a84; simp at a84
      simp -implicitDefEqProofs only [s_r_nil, Ret_one, Ret_two, Ret_three, Ret_none, Ret_cell_one, Ret_cell_two, onSome_some, s_r_stop, s_r_inBlock, s_r_ops_nil, s_r_skip, s_r_seq, s_r_block, s_r_exit, exR_some, s_r_ret, s_r_loop, s_r_reg, s_r_dreg, s_d_nil, s_r_cond, cR_t, cR_f, cR_dec, s_r_ins, insR_0, insR_1, insR_2, insR_3, insR_4, callR_some, callR_none, callV_eq, callD_some, callD_none, contR_some, storeR_some, s_d_ins, insD_0, insD_1, insD_2, insD_3, contD_some, storeD_some, s_r_gins, gR_tup, gR_tt, gR_ff, gR_tf, gR_ft, gR_dec_t, gR_dec_f, s_d_gins, gD_tup, gD_tt, gD_ff, gD_tf, gD_ft, gD_dec_t, gD_dec_f, putO_nothing, putO_lo, putO_hi, mix_get, putO_some, putO_none, lit_t, lit_c, ev_t, ev_c, okind, vpre, vpure, binV_int, binV_str, binPre_int, binPre_str, intBin, intPre, strBin, strPre, popTo, argSlots, lenV_own, lenV_sl, lenV_nils, lenV_str, fldV, fldAV, subCells, idxAV_own, idxVV, idxAAV, idxSV, loadV_ptr, loadV_rp_agg, loadV_rp_int, sliceV, sliceSV, boundV, szIs, storeOp, storeS, setRowV, eff, extV, buildV, splice, eqSV, fitsL, eqCells, eqCell, minmaxV, binBV, nilCheckV, bytesV, V.cells, V.stays, upd_same, upd_upd, true_implies, false_implies, implies_true, keepS_eq, List.getD_cons_zero, List.getD_cons_succ, List.getD_nil, List.map_cons, List.map_nil, List.length_cons, List.length_nil, List.drop_succ_cons, List.drop_zero, List.take_succ_cons, List.take_zero, List.set_cons_zero, List.set_cons_succ, List.append_nil, List.nil_append, List.cons_append, List.all_cons, List.all_nil, List.getElem?_cons_zero, List.getElem?_cons_succ, List.contains_cons, List.contains_nil, Option.isSome_some, Option.map_some, Option.map_none, true_and, and_true, and_self, Int.reduceEq, Int.reduceNe, Int.reduceLT, Int.reduceLE, Int.reduceGT, Int.reduceGE, Nat.reduceEqDiff, Nat.reduceAdd, Nat.reduceMul, Nat.reduceLeDiff, Nat.reduceSub, Nat.reduceLT, Nat.reduceBEq, Nat.zero_add, Nat.add_zero, ↓reduceIte, reduceCtorEq, ← decide_not, Bool.not_true, Bool.not_false, Bool.false_eq_true, Bool.or_true, Bool.true_or, Bool.or_false, Bool.false_or, Bool.true_and, Bool.and_true, Bool.and_self, decide_true, decide_false, decide_eq_true_eq]
      have h4 := (h3.updK hKc).trans s4
      have h5 := h4.trans s5
      have k9 : K id9 = none := h4.none f9
      have h6' := fun o => h5.updK hKc (o := o)
      have k6 : K id6 = none := (h6' _).none f6
      have h7 := (((h6' _).trans s6).updK k6).trans s7
      obtain ⟨q1, q2, q3, q4, q5⟩ := p6 hk1
      have hl5 : ∀ n ∈ [x.st.top, x.st.bottom, x.st.padTop, x.st.padBottom, x.st.head], 0 ≤ n ∧ n ≤ mx := by
        intro n hn
        simp only [List.mem_cons, List.not_mem_nil, or_false] at hn
        rcases hn with rfl | rfl | rfl | rfl | rfl <;> assumption
      refine Runs.call rfl rfl rfl (high_c (s := ⟨if (1 : Int) > s.depth then 1 else s.depth, s.pieces, s.nodes + 1, s.heights⟩) (l := [x.st.top, x.st.bottom, x.st.padTop, x.st.padBottom, x.st.head]) (times := 1) hc7
        (fun ob => Reads.own (off := 0) (len := 5) ((upd_ne n84c).trans a84) rfl (by simp) (fun r hr => by simp at hr; rcases hr with rfl | rfl | rfl | rfl | rfl <;> rfl)) (by simp) hl5 (by omega) f3 rfl) ?_
      rintro r σ8 ⟨rfl, rfl⟩
      (refine Runs.of_step Orc.nothing 300 ?_; simp -implicitDefEqProofs only [s_r_nil, Ret_one, Ret_two, Ret_three, Ret_none, Ret_cell_one, Ret_cell_two, onSome_some, s_r_stop, s_r_inBlock, s_r_ops_nil, s_r_skip, s_r_seq, s_r_block, s_r_exit, exR_some, s_r_ret, s_r_loop, s_r_reg, s_r_dreg, s_d_nil, s_r_cond, cR_t, cR_f, cR_dec, s_r_ins, insR_0, insR_1, insR_2, insR_3, insR_4, callR_some, callR_none, callV_eq, callD_some, callD_none, contR_some, storeR_some, effR_some, s_d_ins, insD_0, insD_1, insD_2, insD_3, contD_some, storeD_some, effD_some, s_r_gins, gR_tup, gR_tt, gR_ff, gR_tf, gR_ft, gR_dec_t, gR_dec_f, s_d_gins, gD_tup, gD_tt, gD_ff, gD_tf, gD_ft, gD_dec_t, gD_dec_f, putO_nothing, putO_lo, putO_hi, mix_get, putO_some, putO_none, lit_t, lit_c, ev_t, ev_c, okind, vpre, vpure, binV_int, binV_str, binPre_int, binPre_str, intBin, intPre, strBin, strPre, popTo, argSlots, lenV_own, lenV_sl, lenV_nils, lenV_str, fldV, fldAV, subCells, idxAV_own, idxVV, idxAAV, idxSV, loadV_ptr, loadV_rp_agg, loadV_rp_int, sliceV, sliceSV, boundV, szIs, storeOp, storeS, setRowV, eff, extV, buildV, splice, eqSV, fitsL, eqCells, eqCell, minmaxV, binBV, nilCheckV, bytesV, V.cells, V.stays, upd_same, upd_upd, true_implies, false_implies, implies_true, keepS_eq, List.getD_cons_zero, List.getD_cons_succ, List.getD_nil, List.map_cons, List.map_nil, List.length_cons, List.length_nil, List.drop_succ_cons, List.drop_zero, List.take_succ_cons, List.take_zero, List.set_cons_zero, List.set_cons_succ, List.append_nil, List.nil_append, List.cons_append, List.all_cons, List.all_nil, List.getElem?_cons_zero, List.getElem?_cons_succ, List.contains_cons, List.contains_nil, Option.isSome_some, Option.map_some, Option.map_none, true_and, and_true, and_self, Int.reduceEq, Int.reduceNe, Int.reduceLT, Int.reduceLE, Int.reduceGT, Int.reduceGE, Nat.reduceEqDiff, Nat.reduceAdd, Nat.reduceMul, Nat.reduceLeDiff, Nat.reduceSub, Nat.reduceLT, Nat.reduceBEq, Nat.zero_add, Nat.add_zero, ↓reduceIte, reduceCtorEq, ← decide_not, Bool.not_true, Bool.not_false, Bool.false_eq_true, Bool.or_true, Bool.true_or, Bool.or_false, Bool.false_or, Bool.true_and, Bool.and_true, Bool.and_self, decide_true, decide_false, decide_eq_true_eq, Orc.nothing])
      refine ⟨_, _, SubStore.refl _, Wk.refl (SubStore.refl _) _, rfl, h7.updK hKc, .own id9 0 1, ?_, fun o => .inr ⟨id9, 1, [i + x.size], rfl, (upd_ne n9c).trans a9, upd_none.2 ⟨n9c, k9⟩, by simp, by simp, ?_⟩⟩
      · have e : (if (1 : Int) > s.depth then 1 else s.depth) = max s.depth 1 := by split <;> omega
        rw [upd_same, e]
        simp [nodeS, hk1, hk0, sumsRow]
      · simp [nodeS, hk1, hk0]
    · by_cases hk2 : x.kind = 2
      · (refine Runs.of_step Orc.nothing 300 ?_; simp -implicitDefEqProofs only [s_r_nil, Ret_one, Ret_two, Ret_three, Ret_none, Ret_cell_one, Ret_cell_two, onSome_some, s_r_stop, s_r_inBlock, s_r_ops_nil, s_r_skip, s_r_seq, s_r_block, s_r_exit, exR_some, s_r_ret, s_r_loop, s_r_reg, s_r_dreg, s_d_nil, s_r_cond, cR_t, cR_f, cR_dec, s_r_ins, insR_0, insR_1, insR_2, insR_3, insR_4, callR_some, callR_none, callV_eq, callD_some, callD_none, contR_some, storeR_some, s_d_ins, insD_0, insD_1, insD_2, insD_3, contD_some, storeD_some, s_r_gins, gR_tup, gR_tt, gR_ff, gR_tf, gR_ft, gR_dec_t, gR_dec_f, s_d_gins, gD_tup, gD_tt, gD_ff, gD_tf, gD_ft, gD_dec_t, gD_dec_f, putO_nothing, putO_lo, putO_hi, mix_get, putO_some, putO_none, lit_t, lit_c, ev_t, ev_c, okind, vpre, vpure, binV_int, binV_str, binPre_int, binPre_str, intBin, intPre, strBin, strPre, popTo, argSlots, lenV_own, lenV_sl, lenV_nils, lenV_str, fldV, fldAV, subCells, idxAV_own, idxVV, idxAAV, idxSV, loadV_ptr, loadV_rp_agg, loadV_rp_int, sliceV, sliceSV, boundV, szIs, storeOp, storeS, setRowV, eff, extV, buildV, splice, eqSV, fitsL, eqCells, eqCell, minmaxV, binBV, nilCheckV, bytesV, V.cells, V.stays, upd_same, upd_upd, true_implies, false_implies, implies_true, keepS_eq, List.getD_cons_zero, List.getD_cons_succ, List.getD_nil, List.map_cons, List.map_nil, List.length_cons, List.length_nil, List.drop_succ_cons, List.drop_zero, List.take_succ_cons, List.take_zero, List.set_cons_zero, List.set_cons_succ, List.append_nil, List.nil_append, List.cons_append, List.all_cons, List.all_nil, List.getElem?_cons_zero, List.getElem?_cons_succ, List.contains_cons, List.contains_nil, Option.isSome_some, Option.map_some, Option.map_none, true_and, and_true, and_self, Int.reduceEq, Int.reduceNe, Int.reduceLT, Int.reduceLE, Int.reduceGT, Int.reduceGE, Nat.reduceEqDiff, Nat.reduceAdd, Nat.reduceMul, Nat.reduceLeDiff, Nat.reduceSub, Nat.reduceLT, Nat.reduceBEq, Nat.zero_add, Nat.add_zero, ↓reduceIte, reduceCtorEq, ← decide_not, Bool.not_true, Bool.not_false, Bool.false_eq_true, Bool.or_true, Bool.true_or, Bool.or_false, Bool.false_or, Bool.true_and, Bool.and_true, Bool.and_self, decide_true, decide_false, decide_eq_true_eq, Orc.nothing, a4, a5, hc3, upd_ne n4c.symm, upd_ne n5c.symm, hk2, lenV_encI])
        refine ⟨hsr, inR_i64 (by omega) (by omega), ?_⟩
        refine effR_new fun id7 σ7 s7 a7 f7 => ?_
        have hc7 := s7 c _ upd_same
        have n7c : id7 ≠ c := by rintro rfl; rw [hc7] at a7; simp at a7
        simp -implicitDefEqProofs only [s_r_nil, Ret_one, Ret_two, Ret_three, Ret_none, Ret_cell_one, Ret_cell_two, onSome_some, s_r_stop, s_r_inBlock, s_r_ops_nil, s_r_skip, s_r_seq, s_r_block, s_r_exit, exR_some, s_r_ret, s_r_loop, s_r_reg, s_r_dreg, s_d_nil, s_r_cond, cR_t, cR_f, cR_dec, s_r_ins, insR_0, insR_1, insR_2, insR_3, insR_4, callR_some, callR_none, callV_eq, callD_some, callD_none, contR_some, storeR_some, s_d_ins, insD_0, insD_1, insD_2, insD_3, contD_some, storeD_some, s_r_gins, gR_tup, gR_tt, gR_ff, gR_tf, gR_ft, gR_dec_t, gR_dec_f, s_d_gins, gD_tup, gD_tt, gD_ff, gD_tf, gD_ft, gD_dec_t, gD_dec_f, putO_nothing, putO_lo, putO_hi, mix_get, putO_some, putO_none, lit_t, lit_c, ev_t, ev_c, okind, vpre, vpure, binV_int, binV_str, binPre_int, binPre_str, intBin, intPre, strBin, strPre, popTo, argSlots, lenV_own, lenV_sl, lenV_nils, lenV_str, fldV, fldAV, subCells, idxAV_own, idxVV, idxAAV, idxSV, loadV_ptr, loadV_rp_agg, loadV_rp_int, sliceV, sliceSV, boundV, szIs, storeOp, storeS, setRowV, eff, extV, buildV, splice, eqSV, fitsL, eqCells, eqCell, minmaxV, binBV, nilCheckV, bytesV, V.cells, V.stays, upd_same, upd_upd, true_implies, false_implies, implies_true, keepS_eq, List.getD_cons_zero, List.getD_cons_succ, List.getD_nil, List.map_cons, List.map_nil, List.length_cons, List.length_nil, List.drop_succ_cons, List.drop_zero, List.take_succ_cons, List.take_zero, List.set_cons_zero, List.set_cons_succ, List.append_nil, List.nil_append, List.cons_append, List.all_cons, List.all_nil, List.getElem?_cons_zero, List.getElem?_cons_succ, List.contains_cons, List.contains_nil, Option.isSome_some, Option.map_some, Option.map_none, true_and, and_true, and_self, Int.reduceEq, Int.reduceNe, Int.reduceLT, Int.reduceLE, Int.reduceGT, Int.reduceGE, Nat.reduceEqDiff, Nat.reduceAdd, Nat.reduceMul, Nat.reduceLeDiff, Nat.reduceSub, Nat.reduceLT, Nat.reduceBEq, Nat.zero_add, Nat.add_zero, ↓reduceIte, reduceCtorEq, ← decide_not, Bool.not_true, Bool.not_false, Bool.false_eq_true, Bool.or_true, Bool.true_or, Bool.or_false, Bool.false_or, Bool.true_and, Bool.and_true, Bool.and_self, decide_true, decide_false, decide_eq_true_eq]
        have h7 := (h3.updK hKc).trans s7
        refine Runs.call rfl rfl rfl (high_c (s := ⟨s.depth, s.pieces + x.words.length, s.nodes + 1, s.heights⟩) (l := [x.line]) (times := x.words.length) hc7
          (fun ob => Reads.own (off := 0) (len := 1) ((upd_ne n7c).trans a7) rfl (by simp) (fun r hr => by simp at hr; rcases hr with rfl; rfl)) (by simp) (by intro n hn; simp at hn; subst hn; exact ⟨p2, p3⟩) (by omega) f3 rfl) ?_
        rintro r σ8 ⟨rfl, rfl⟩
        (refine Runs.of_step Orc.nothing 300 ?_; simp -implicitDefEqProofs only [s_r_nil, Ret_one, Ret_two, Ret_three, Ret_none, Ret_cell_one, Ret_cell_two, onSome_some, s_r_stop, s_r_inBlock, s_r_ops_nil, s_r_skip, s_r_seq, s_r_block, s_r_exit, exR_some, s_r_ret, s_r_loop, s_r_reg, s_r_dreg, s_d_nil, s_r_cond, cR_t, cR_f, cR_dec, s_r_ins, insR_0, insR_1, insR_2, insR_3, insR_4, callR_some, callR_none, callV_eq, callD_some, callD_none, contR_some, storeR_some, effR_some, s_d_ins, insD_0, insD_1, insD_2, insD_3, contD_some, storeD_some, effD_some, s_r_gins, gR_tup, gR_tt, gR_ff, gR_tf, gR_ft, gR_dec_t, gR_dec_f, s_d_gins, gD_tup, gD_tt, gD_ff, gD_tf, gD_ft, gD_dec_t, gD_dec_f, putO_nothing, putO_lo, putO_hi, mix_get, putO_some, putO_none, lit_t, lit_c, ev_t, ev_c, okind, vpre, vpure, binV_int, binV_str, binPre_int, binPre_str, intBin, intPre, strBin, strPre, popTo, argSlots, lenV_own, lenV_sl, lenV_nils, lenV_str, fldV, fldAV, subCells, idxAV_own, idxVV, idxAAV, idxSV, loadV_ptr, loadV_rp_agg, loadV_rp_int, sliceV, sliceSV, boundV, szIs, storeOp, storeS, setRowV, eff, extV, buildV, splice, eqSV, fitsL, eqCells, eqCell, minmaxV, binBV, nilCheckV, bytesV, V.cells, V.stays, upd_same, upd_upd, true_implies, false_implies, implies_true, keepS_eq, List.getD_cons_zero, List.getD_cons_succ, List.getD_nil, List.map_cons, List.map_nil, List.length_cons, List.length_nil, List.drop_succ_cons, List.drop_zero, List.take_succ_cons, List.take_zero, List.set_cons_zero, List.set_cons_succ, List.append_nil, List.nil_append, List.cons_append, List.all_cons, List.all_nil, List.getElem?_cons_zero, List.getElem?_cons_succ, List.contains_cons, List.contains_nil, Option.isSome_some, Option.map_some, Option.map_none, true_and, and_true, and_self, Int.reduceEq, Int.reduceNe, Int.reduceLT, Int.reduceLE, Int.reduceGT, Int.reduceGE, Nat.reduceEqDiff, Nat.reduceAdd, Nat.reduceMul, Nat.reduceLeDiff, Nat.reduceSub, Nat.reduceLT, Nat.reduceBEq, Nat.zero_add, Nat.add_zero, ↓reduceIte, reduceCtorEq, ← decide_not, Bool.not_true, Bool.not_false, Bool.false_eq_true, Bool.or_true, Bool.true_or, Bool.or_false, Bool.false_or, Bool.true_and, Bool.and_true, Bool.and_self, decide_true, decide_false, decide_eq_true_eq, Orc.nothing])
        refine ⟨_, _, SubStore.refl _, Wk.refl (SubStore.refl _) _, rfl, h7.updK hKc, _, upd_same.trans (by simp [nodeS, hk2, sumsRow]; rfl), fun o => ?_⟩
        have : (nodeS i x s ends).2 = kept i ends := by simp [nodeS, hk2]
        rw [this]
        exact .inl ⟨rfl, hk0⟩
      · have h4or := p1
        (refine Runs.of_step Orc.nothing 300 ?_; simp -implicitDefEqProofs only [s_r_nil, Ret_one, Ret_two, Ret_three, Ret_none, Ret_cell_one, Ret_cell_two, onSome_some, s_r_stop, s_r_inBlock, s_r_ops_nil, s_r_skip, s_r_seq, s_r_block, s_r_exit, exR_some, s_r_ret, s_r_loop, s_r_reg, s_r_dreg, s_d_nil, s_r_cond, cR_t, cR_f, cR_dec, s_r_ins, insR_0, insR_1, insR_2, insR_3, insR_4, callR_some, callR_none, callV_eq, callD_some, callD_none, contR_some, storeR_some, s_d_ins, insD_0, insD_1, insD_2, insD_3, contD_some, storeD_some, s_r_gins, gR_tup, gR_tt, gR_ff, gR_tf, gR_ft, gR_dec_t, gR_dec_f, s_d_gins, gD_tup, gD_tt, gD_ff, gD_tf, gD_ft, gD_dec_t, gD_dec_f, putO_nothing, putO_lo, putO_hi, mix_get, putO_some, putO_none, lit_t, lit_c, ev_t, ev_c, okind, vpre, vpure, binV_int, binV_str, binPre_int, binPre_str, intBin, intPre, strBin, strPre, popTo, argSlots, lenV_own, lenV_sl, lenV_nils, lenV_str, fldV, fldAV, subCells, idxAV_own, idxVV, idxAAV, idxSV, loadV_ptr, loadV_rp_agg, loadV_rp_int, sliceV, sliceSV, boundV, szIs, storeOp, storeS, setRowV, eff, extV, buildV, splice, eqSV, fitsL, eqCells, eqCell, minmaxV, binBV, nilCheckV, bytesV, V.cells, V.stays, upd_same, upd_upd, true_implies, false_implies, implies_true, keepS_eq, List.getD_cons_zero, List.getD_cons_succ, List.getD_nil, List.map_cons, List.map_nil, List.length_cons, List.length_nil, List.drop_succ_cons, List.drop_zero, List.take_succ_cons, List.take_zero, List.set_cons_zero, List.set_cons_succ, List.append_nil, List.nil_append, List.cons_append, List.all_cons, List.all_nil, List.getElem?_cons_zero, List.getElem?_cons_succ, List.contains_cons, List.contains_nil, Option.isSome_some, Option.map_some, Option.map_none, true_and, and_true, and_self, Int.reduceEq, Int.reduceNe, Int.reduceLT, Int.reduceLE, Int.reduceGT, Int.reduceGE, Nat.reduceEqDiff, Nat.reduceAdd, Nat.reduceMul, Nat.reduceLeDiff, Nat.reduceSub, Nat.reduceLT, Nat.reduceBEq, Nat.zero_add, Nat.add_zero, ↓reduceIte, reduceCtorEq, ← decide_not, Bool.not_true, Bool.not_false, Bool.false_eq_true, Bool.or_true, Bool.true_or, Bool.or_false, Bool.false_or, Bool.true_and, Bool.and_true, Bool.and_self, decide_true, decide_false, decide_eq_true_eq, Orc.nothing, a4, a5, hc3, upd_ne n4c.symm, upd_ne n5c.symm, hk1, hk2, lenV_encI])
        refine ⟨hsr, inR_i64 (by omega) (by omega), ?_⟩
        refine effR_new fun id7 σ7 s7 a7 f7 => ?_
        have hc7 := s7 c _ upd_same
        have n7c : id7 ≠ c := by rintro rfl; rw [hc7] at a7; simp at a7
        simp -implicitDefEqProofs only [s_r_nil, Ret_one, Ret_two, Ret_three, Ret_none, Ret_cell_one, Ret_cell_two, onSome_some, s_r_stop, s_r_inBlock, s_r_ops_nil, s_r_skip, s_r_seq, s_r_block, s_r_exit, exR_some, s_r_ret, s_r_loop, s_r_reg, s_r_dreg, s_d_nil, s_r_cond, cR_t, cR_f, cR_dec, s_r_ins, insR_0, insR_1, insR_2, insR_3, insR_4, callR_some, callR_none, callV_eq, callD_some, callD_none, contR_some, storeR_some, s_d_ins, insD_0, insD_1, insD_2, insD_3, contD_some, storeD_some, s_r_gins, gR_tup, gR_tt, gR_ff, gR_tf, gR_ft, gR_dec_t, gR_dec_f, s_d_gins, gD_tup, gD_tt, gD_ff, gD_tf, gD_ft, gD_dec_t, gD_dec_f, putO_nothing, putO_lo, putO_hi, mix_get, putO_some, putO_none, lit_t, lit_c, ev_t, ev_c, okind, vpre, vpure, binV_int, binV_str, binPre_int, binPre_str, intBin, intPre, strBin, strPre, popTo, argSlots, lenV_own, lenV_sl, lenV_nils, lenV_str, fldV, fldAV, subCells, idxAV_own, idxVV, idxAAV, idxSV, loadV_ptr, loadV_rp_agg, loadV_rp_int, sliceV, sliceSV, boundV, szIs, storeOp, storeS, setRowV, eff, extV, buildV, splice, eqSV, fitsL, eqCells, eqCell, minmaxV, binBV, nilCheckV, bytesV, V.cells, V.stays, upd_same, upd_upd, true_implies, false_implies, implies_true, keepS_eq, List.getD_cons_zero, List.getD_cons_succ, List.getD_nil, List.map_cons, List.map_nil, List.length_cons, List.length_nil, List.drop_succ_cons, List.drop_zero, List.take_succ_cons, List.take_zero, List.set_cons_zero, List.set_cons_succ, List.append_nil, List.nil_append, List.cons_append, List.all_cons, List.all_nil, List.getElem?_cons_zero, List.getElem?_cons_succ, List.contains_cons, List.contains_nil, Option.isSome_some, Option.map_some, Option.map_none, true_and, and_true, and_self, Int.reduceEq, Int.reduceNe, Int.reduceLT, Int.reduceLE, Int.reduceGT, Int.reduceGE, Nat.reduceEqDiff, Nat.reduceAdd, Nat.reduceMul, Nat.reduceLeDiff, Nat.reduceSub, Nat.reduceLT, Nat.reduceBEq, Nat.zero_add, Nat.add_zero, ↓reduceIte, reduceCtorEq, ← decide_not, Bool.not_true, Bool.not_false, Bool.false_eq_true, Bool.or_true, Bool.true_or, Bool.or_false, Bool.false_or, Bool.true_and, Bool.and_true, Bool.and_self, decide_true, decide_false, decide_eq_true_eq]
        have h7 := (h3.updK hKc).trans s7
        refine Runs.call rfl rfl rfl (high_c (s := ⟨s.depth, s.pieces + 1, s.nodes + 1, s.heights⟩) (l := [x.h]) (times := 1) hc7
          (fun ob => Reads.own (off := 0) (len := 1) ((upd_ne n7c).trans a7) rfl (by simp) (fun r hr => by simp at hr; rcases hr with rfl; rfl)) (by simp) (by intro n hn; simp at hn; subst hn; exact ⟨p4, p5⟩) (by omega) f3 rfl) ?_
        rintro r σ8 ⟨rfl, rfl⟩
        (refine Runs.of_step Orc.nothing 300 ?_; simp -implicitDefEqProofs only [s_r_nil, Ret_one, Ret_two, Ret_three, Ret_none, Ret_cell_one, Ret_cell_two, onSome_some, s_r_stop, s_r_inBlock, s_r_ops_nil, s_r_skip, s_r_seq, s_r_block, s_r_exit, exR_some, s_r_ret, s_r_loop, s_r_reg, s_r_dreg, s_d_nil, s_r_cond, cR_t, cR_f, cR_dec, s_r_ins, insR_0, insR_1, insR_2, insR_3, insR_4, callR_some, callR_none, callV_eq, callD_some, callD_none, contR_some, storeR_some, effR_some, s_d_ins, insD_0, insD_1, insD_2, insD_3, contD_some, storeD_some, effD_some, s_r_gins, gR_tup, gR_tt, gR_ff, gR_tf, gR_ft, gR_dec_t, gR_dec_f, s_d_gins, gD_tup, gD_tt, gD_ff, gD_tf, gD_ft, gD_dec_t, gD_dec_f, putO_nothing, putO_lo, putO_hi, mix_get, putO_some, putO_none, lit_t, lit_c, ev_t, ev_c, okind, vpre, vpure, binV_int, binV_str, binPre_int, binPre_str, intBin, intPre, strBin, strPre, popTo, argSlots, lenV_own, lenV_sl, lenV_nils, lenV_str, fldV, fldAV, subCells, idxAV_own, idxVV, idxAAV, idxSV, loadV_ptr, loadV_rp_agg, loadV_rp_int, sliceV, sliceSV, boundV, szIs, storeOp, storeS, setRowV, eff, extV, buildV, splice, eqSV, fitsL, eqCells, eqCell, minmaxV, binBV, nilCheckV, bytesV, V.cells, V.stays, upd_same, upd_upd, true_implies, false_implies, implies_true, keepS_eq, List.getD_cons_zero, List.getD_cons_succ, List.getD_nil, List.map_cons, List.map_nil, List.length_cons, List.length_nil, List.drop_succ_cons, List.drop_zero, List.take_succ_cons, List.take_zero, List.set_cons_zero, List.set_cons_succ, List.append_nil, List.nil_append, List.cons_append, List.all_cons, List.all_nil, List.getElem?_cons_zero, List.getElem?_cons_succ, List.contains_cons, List.contains_nil, Option.isSome_some, Option.map_some, Option.map_none, true_and, and_true, and_self, Int.reduceEq, Int.reduceNe, Int.reduceLT, Int.reduceLE, Int.reduceGT, Int.reduceGE, Nat.reduceEqDiff, Nat.reduceAdd, Nat.reduceMul, Nat.reduceLeDiff, Nat.reduceSub, Nat.reduceLT, Nat.reduceBEq, Nat.zero_add, Nat.add_zero, ↓reduceIte, reduceCtorEq, ← decide_not, Bool.not_true, Bool.not_false, Bool.false_eq_true, Bool.or_true, Bool.true_or, Bool.or_false, Bool.false_or, Bool.true_and, Bool.and_true, Bool.and_self, decide_true, decide_false, decide_eq_true_eq, Orc.nothing])
        refine ⟨_, _, SubStore.refl _, Wk.refl (SubStore.refl _) _, rfl, h7.updK hKc, _, upd_same.trans (by simp [nodeS, hk1, hk2, sumsRow]; rfl), fun o => ?_⟩
        have : (nodeS i x s ends).2 = kept i ends := by simp [nodeS, hk1, hk2]
        rw [this]
        exact .inl ⟨rfl, hk0⟩
  · have hec : e ≠ c := fun e' => by rw [e', upd_ne n5c, upd_ne n4c, upd_same] at hKe; cases hKe
    have he4 : e ≠ id4 := fun e' => by rw [e', upd_ne n54, upd_same] at hKe; cases hKe
    have he5 : e ≠ id5 := fun e' => by rw [e', upd_same] at hKe; cases hKe
    have hKe0 : K e = none := hKK.none hKe
    have hlk : (full.take k).length = k := by simp; omega
    by_cases hk1 : x.kind = 1
    · (refine Runs.of_step Orc.nothing 300 ?_; simp -implicitDefEqProofs only [s_r_nil, Ret_one, Ret_two, Ret_three, Ret_none, Ret_cell_one, Ret_cell_two, onSome_some, s_r_stop, s_r_inBlock, s_r_ops_nil, s_r_skip, s_r_seq, s_r_block, s_r_exit, exR_some, s_r_ret, s_r_loop, s_r_reg, s_r_dreg, s_d_nil, s_r_cond, cR_t, cR_f, cR_dec, s_r_ins, insR_0, insR_1, insR_2, insR_3, insR_4, callR_some, callR_none, callV_eq, callD_some, callD_none, contR_some, storeR_some, s_d_ins, insD_0, insD_1, insD_2, insD_3, contD_some, storeD_some, s_r_gins, gR_tup, gR_tt, gR_ff, gR_tf, gR_ft, gR_dec_t, gR_dec_f, s_d_gins, gD_tup, gD_tt, gD_ff, gD_tf, gD_ft, gD_dec_t, gD_dec_f, putO_nothing, putO_lo, putO_hi, mix_get, putO_some, putO_none, lit_t, lit_c, ev_t, ev_c, okind, vpre, vpure, binV_int, binV_str, binPre_int, binPre_str, intBin, intPre, strBin, strPre, popTo, argSlots, lenV_own, lenV_sl, lenV_nils, lenV_str, fldV, fldAV, subCells, idxAV_own, idxVV, idxAAV, idxSV, loadV_ptr, loadV_rp_agg, loadV_rp_int, sliceV, sliceSV, boundV, szIs, storeOp, storeS, setRowV, eff, extV, buildV, splice, eqSV, fitsL, eqCells, eqCell, minmaxV, binBV, nilCheckV, bytesV, V.cells, V.stays, upd_same, upd_upd, true_implies, false_implies, implies_true, keepS_eq, List.getD_cons_zero, List.getD_cons_succ, List.getD_nil, List.map_cons, List.map_nil, List.length_cons, List.length_nil, List.drop_succ_cons, List.drop_zero, List.take_succ_cons, List.take_zero, List.set_cons_zero, List.set_cons_succ, List.append_nil, List.nil_append, List.cons_append, List.all_cons, List.all_nil, List.getElem?_cons_zero, List.getElem?_cons_succ, List.contains_cons, List.contains_nil, Option.isSome_some, Option.map_some, Option.map_none, true_and, and_true, and_self, Int.reduceEq, Int.reduceNe, Int.reduceLT, Int.reduceLE, Int.reduceGT, Int.reduceGE, Nat.reduceEqDiff, Nat.reduceAdd, Nat.reduceMul, Nat.reduceLeDiff, Nat.reduceSub, Nat.reduceLT, Nat.reduceBEq, Nat.zero_add, Nat.add_zero, ↓reduceIte, reduceCtorEq, ← decide_not, Bool.not_true, Bool.not_false, Bool.false_eq_true, Bool.or_true, Bool.true_or, Bool.or_false, Bool.false_or, Bool.true_and, Bool.and_true, Bool.and_self, decide_true, decide_false, decide_eq_true_eq, Orc.nothing, a4, a5, hc3, upd_ne n4c.symm, upd_ne n5c.symm, hk1])
      refine ⟨hsr, inR_i64 (by omega) (by omega), ?_⟩
      refine effD_new fun id8 σ4 s4 a8 f8 => ?_
      have hc4 := s4 c _ upd_same
      have a4 := s4 id4 _ (by rw [upd_ne n4c.symm]; exact a4)
      have a5 := s4 id5 _ (by rw [upd_ne n5c.symm]; exact a5)
      have hs8 : ∀ σ, σ id8 = some ⟨3, 1, [.int .i64 (i + x.size)]⟩ → srcRows σ 1 (.own id8 0 1) = some [.int .i64 (i + x.size)] := by
        intro σ hσ
        simp only [srcRows, hσ]
        rw [if_pos (by simp)]
        simp
      have he4' := s4 e _ (by rw [upd_ne hec]; exact he)
      have hd : ∀ σ, σ e = some ⟨3, 1, full.map vI⟩ → dstRows σ 3 1 (.own e 0 k) = some ((full.take k).map vI, some e) := by
        intro σ hσ
        simp only [dstRows, hσ]
        rw [if_pos ⟨trivial, trivial, trivial, by simpa using hk⟩, List.map_take]
      have hlm : ((full.take k).map vI).length = k := by simpa using hlk
      have hbb : (k + 1) * 9 ≤ 140737488355328 := by omega
      simp -implicitDefEqProofs only [s_r_nil, Ret_one, Ret_two, Ret_three, Ret_none, Ret_cell_one, Ret_cell_two, onSome_some, s_r_stop, s_r_inBlock, s_r_ops_nil, s_r_skip, s_r_seq, s_r_block, s_r_exit, exR_some, s_r_ret, s_r_loop, s_r_reg, s_r_dreg, s_d_nil, s_r_cond, cR_t, cR_f, cR_dec, s_r_ins, insR_0, insR_1, insR_2, insR_3, insR_4, callR_some, callR_none, callV_eq, callD_some, callD_none, contR_some, storeR_some, s_d_ins, insD_0, insD_1, insD_2, insD_3, contD_some, storeD_some, s_r_gins, gR_tup, gR_tt, gR_ff, gR_tf, gR_ft, gR_dec_t, gR_dec_f, s_d_gins, gD_tup, gD_tt, gD_ff, gD_tf, gD_ft, gD_dec_t, gD_dec_f, putO_nothing, putO_lo, putO_hi, mix_get, putO_some, putO_none, lit_t, lit_c, ev_t, ev_c, okind, vpre, vpure, binV_int, binV_str, binPre_int, binPre_str, intBin, intPre, strBin, strPre, popTo, argSlots, lenV_own, lenV_sl, lenV_nils, lenV_str, fldV, fldAV, subCells, idxAV_own, idxVV, idxAAV, idxSV, loadV_ptr, loadV_rp_agg, loadV_rp_int, sliceV, sliceSV, boundV, szIs, storeOp, storeS, setRowV, eff, extV, buildV, splice, eqSV, fitsL, eqCells, eqCell, minmaxV, binBV, nilCheckV, bytesV, V.cells, V.stays, upd_same, upd_upd, true_implies, false_implies, implies_true, keepS_eq, List.getD_cons_zero, List.getD_cons_succ, List.getD_nil, List.map_cons, List.map_nil, List.length_cons, List.length_nil, List.drop_succ_cons, List.drop_zero, List.take_succ_cons, List.take_zero, List.set_cons_zero, List.set_cons_succ, List.append_nil, List.nil_append, List.cons_append, List.all_cons, List.all_nil, List.getElem?_cons_zero, List.getElem?_cons_succ, List.contains_cons, List.contains_nil, Option.isSome_some, Option.map_some, Option.map_none, true_and, and_true, and_self, Int.reduceEq, Int.reduceNe, Int.reduceLT, Int.reduceLE, Int.reduceGT, Int.reduceGE, Nat.reduceEqDiff, Nat.reduceAdd, Nat.reduceMul, Nat.reduceLeDiff, Nat.reduceSub, Nat.reduceLT, Nat.reduceBEq, Nat.zero_add, Nat.add_zero, ↓reduceIte, reduceCtorEq, ← decide_not, Bool.not_true, Bool.not_false, Bool.false_eq_true, Bool.or_true, Bool.true_or, Bool.or_false, Bool.false_or, Bool.true_and, Bool.and_true, Bool.and_self, decide_true, decide_false, decide_eq_true_eq, hs8, a8, hd, he4', delO, hlm, hbb]
      refine effD_app fun id9 σ5 s5 a9 f9 => ?_
      have hc5 := s5 c _ (by rw [del_ne hec.symm]; exact hc4)
      have a4 := s5 id4 _ (by rw [del_ne he4.symm]; exact a4)
      have a5 := s5 id5 _ (by rw [del_ne he5.symm]; exact a5)
      have n9c : id9 ≠ c := by rintro rfl; rw [hc4] at f9; cases f9
      have n95 : id9 ≠ id5 := by rintro rfl; rw [s4 id9 _ (by rw [upd_ne n5c.symm]; exact hK3 id9 _ upd_same)] at f9; cases f9
      simp -implicitDefEqProofs only [s_r_nil, Ret_one, Ret_two, Ret_three, Ret_none, Ret_cell_one, Ret_cell_two, onSome_some, s_r_stop, s_r_inBlock, s_r_ops_nil, s_r_skip, s_r_seq, s_r_block, s_r_exit, exR_some, s_r_ret, s_r_loop, s_r_reg, s_r_dreg, s_d_nil, s_r_cond, cR_t, cR_f, cR_dec, s_r_ins, insR_0, insR_1, insR_2, insR_3, insR_4, callR_some, callR_none, callV_eq, callD_some, callD_none, contR_some, storeR_some, s_d_ins, insD_0, insD_1, insD_2, insD_3, contD_some, storeD_some, s_r_gins, gR_tup, gR_tt, gR_ff, gR_tf, gR_ft, gR_dec_t, gR_dec_f, s_d_gins, gD_tup, gD_tt, gD_ff, gD_tf, gD_ft, gD_dec_t, gD_dec_f, putO_nothing, putO_lo, putO_hi, mix_get, putO_some, putO_none, lit_t, lit_c, ev_t, ev_c, okind, vpre, vpure, binV_int, binV_str, binPre_int, binPre_str, intBin, intPre, strBin, strPre, popTo, argSlots, lenV_own, lenV_sl, lenV_nils, lenV_str, fldV, fldAV, subCells, idxAV_own, idxVV, idxAAV, idxSV, loadV_ptr, loadV_rp_agg, loadV_rp_int, sliceV, sliceSV, boundV, szIs, storeOp, storeS, setRowV, eff, extV, buildV, splice, eqSV, fitsL, eqCells, eqCell, minmaxV, binBV, nilCheckV, bytesV, V.cells, V.stays, upd_same, upd_upd, true_implies, false_implies, implies_true, keepS_eq, List.getD_cons_zero, List.getD_cons_succ, List.getD_nil, List.map_cons, List.map_nil, List.length_cons, List.length_nil, List.drop_succ_cons, List.drop_zero, List.take_succ_cons, List.take_zero, List.set_cons_zero, List.set_cons_succ, List.append_nil, List.nil_append, List.cons_append, List.all_cons, List.all_nil, List.getElem?_cons_zero, List.getElem?_cons_succ, List.contains_cons, List.contains_nil, Option.isSome_some, Option.map_some, Option.map_none, true_and, and_true, and_self, Int.reduceEq, Int.reduceNe, Int.reduceLT, Int.reduceLE, Int.reduceGT, Int.reduceGE, Nat.reduceEqDiff, Nat.reduceAdd, Nat.reduceMul, Nat.reduceLeDiff, Nat.reduceSub, Nat.reduceLT, Nat.reduceBEq, Nat.zero_add, Nat.add_zero, ↓reduceIte, reduceCtorEq, ← decide_not, Bool.not_true, Bool.not_false, Bool.false_eq_true, Bool.or_true, Bool.true_or, Bool.or_false, Bool.false_or, Bool.true_and, Bool.and_true, Bool.and_self, decide_true, decide_false, decide_eq_true_eq, hc5, a4, a5, a9, upd_ne n5c.symm, upd_ne n9c]
      refine effR_new fun id6 σ6 s6 a6 f6 => ?_
      have hc6 := s6 c _ upd_same
      have a9 := s6 id9 _ (by rw [upd_ne n9c]; exact a9)
      have n6c : id6 ≠ c := by rintro rfl; rw [hc6] at a6; simp at a6
      have n69 : id6 ≠ id9 := by rintro rfl; rw [a9] at a6; simp at a6
      simp -implicitDefEqProofs only [s_r_nil, Ret_one, Ret_two, Ret_three, Ret_none, Ret_cell_one, Ret_cell_two, onSome_some, s_r_stop, s_r_inBlock, s_r_ops_nil, s_r_skip, s_r_seq, s_r_block, s_r_exit, exR_some, s_r_ret, s_r_loop, s_r_reg, s_r_dreg, s_d_nil, s_r_cond, cR_t, cR_f, cR_dec, s_r_ins, insR_0, insR_1, insR_2, insR_3, insR_4, callR_some, callR_none, callV_eq, callD_some, callD_none, contR_some, storeR_some, s_d_ins, insD_0, insD_1, insD_2, insD_3, contD_some, storeD_some, s_r_gins, gR_tup, gR_tt, gR_ff, gR_tf, gR_ft, gR_dec_t, gR_dec_f, s_d_gins, gD_tup, gD_tt, gD_ff, gD_tf, gD_ft, gD_dec_t, gD_dec_f, putO_nothing, putO_lo, putO_hi, mix_get, putO_some, putO_none, lit_t, lit_c, ev_t, ev_c, okind, vpre, vpure, binV_int, binV_str, binPre_int, binPre_str, intBin, intPre, strBin, strPre, popTo, argSlots, lenV_own, lenV_sl, lenV_nils, lenV_str, fldV, fldAV, subCells, idxAV_own, idxVV, idxAAV, idxSV, loadV_ptr, loadV_rp_agg, loadV_rp_int, sliceV, sliceSV, boundV, szIs, storeOp, storeS, setRowV, eff, extV, buildV, splice, eqSV, fitsL, eqCells, eqCell, minmaxV, binBV, nilCheckV, bytesV, V.cells, V.stays, upd_same, upd_upd, true_implies, false_implies, implies_true, keepS_eq, List.getD_cons_zero, List.getD_cons_succ, List.getD_nil, List.map_cons, List.map_nil, List.length_cons, List.length_nil, List.drop_succ_cons, List.drop_zero, List.take_succ_cons, List.take_zero, List.set_cons_zero, List.set_cons_succ, List.append_nil, List.nil_append, List.cons_append, List.all_cons, List.all_nil, List.getElem?_cons_zero, List.getElem?_cons_succ, List.contains_cons, List.contains_nil, Option.isSome_some, Option.map_some, Option.map_none, true_and, and_true, and_self, Int.reduceEq, Int.reduceNe, Int.reduceLT, Int.reduceLE, Int.reduceGT, Int.reduceGE, Nat.reduceEqDiff, Nat.reduceAdd, Nat.reduceMul, Nat.reduceLeDiff, Nat.reduceSub, Nat.reduceLT, Nat.reduceBEq, Nat.zero_add, Nat.add_zero, ↓reduceIte, reduceCtorEq, ← decide_not, Bool.not_true, Bool.not_false, Bool.false_eq_true, Bool.or_true, Bool.true_or, Bool.or_false, Bool.false_or, Bool.true_and, Bool.and_true, Bool.and_self, decide_true, decide_false, decide_eq_true_eq, a6]
      refine effR_new fun id84 σ7 s7 a84 f84 => ?_
      have hc7 := s7 c _ (by rw [upd_ne n6c.symm]; exact hc6)
      have a9 := s7 id9 _ (by rw [upd_ne n69.symm]; exact a9)
      have n84c : id84 ≠ c := by rintro rfl; rw [hc7] at a84; simp at a84
      simp -implicitDefEqProofs only [s_r_nil, Ret_one, Ret_two, Ret_three, Ret_none, Ret_cell_one, Ret_cell_two, onSome_some, s_r_stop, s_r_inBlock, s_r_ops_nil, s_r_skip, s_r_seq, s_r_block, s_r_exit, exR_some, s_r_ret, s_r_loop, s_r_reg, s_r_dreg, s_d_nil, s_r_cond, cR_t, cR_f, cR_dec, s_r_ins, insR_0, insR_1, insR_2, insR_3, insR_4, callR_some, callR_none, callV_eq, callD_some, callD_none, contR_some, storeR_some, s_d_ins, insD_0, insD_1, insD_2, insD_3, contD_some, storeD_some, s_r_gins, gR_tup, gR_tt, gR_ff, gR_tf, gR_ft, gR_dec_t, gR_dec_f, s_d_gins, gD_tup, gD_tt, gD_ff, gD_tf, gD_ft, gD_dec_t, gD_dec_f, putO_nothing, putO_lo, putO_hi, mix_get, putO_some, putO_none, lit_t, lit_c, ev_t, ev_c, okind, vpre, vpure, binV_int, binV_str, binPre_int, binPre_str, intBin, intPre, strBin, strPre, popTo, argSlots, lenV_own, lenV_sl, lenV_nils, lenV_str, fldV, fldAV, subCells, idxAV_own, idxVV, idxAAV, idxSV, loadV_ptr, loadV_rp_agg, loadV_rp_int, sliceV, sliceSV, boundV, szIs, storeOp, storeS, setRowV, eff, extV, buildV, splice, eqSV, fitsL, eqCells, eqCell, minmaxV, binBV, nilCheckV, bytesV, V.cells, V.stays, upd_same, upd_upd, true_implies, false_implies, implies_true, keepS_eq, List.getD_cons_zero, List.getD_cons_succ, List.getD_nil, List.map_cons, List.map_nil, List.length_cons, List.length_nil, List.drop_succ_cons, List.drop_zero, List.take_succ_cons, List.take_zero, List.set_cons_zero, List.set_cons_succ, List.append_nil, List.nil_append, List.cons_append, List.all_cons, List.all_nil, List.getElem?_cons_zero, List.getElem?_cons_succ, List.contains_cons, List.contains_nil, Option.isSome_some, Option.map_some, Option.map_none, true_and, and_true, and_self, Int.reduceEq, Int.reduceNe, Int.reduceLT, Int.reduceLE, Int.reduceGT, Int.reduceGE, Nat.reduceEqDiff, Nat.reduceAdd, Nat.reduceMul, Nat.reduceLeDiff, Nat.reduceSub, Nat.reduceLT, Nat.reduceBEq, Nat.zero_add, Nat.add_zero, ↓reduceIte, reduceCtorEq, ← decide_not, Bool.not_true, Bool.not_false, Bool.false_eq_true, Bool.or_true, Bool.true_or, Bool.or_false, Bool.false_or, Bool.true_and, Bool.and_true, Bool.and_self, decide_true, decide_false, decide_eq_true_eq]
      have h4 := (h3.updK hKc).trans s4
      have h4' := h4.delK hKe0
      have h5 := h4'.trans s5
      have k9 : K id9 = none := h4.none f9
      have h6' := fun o => h5.updK hKc (o := o)
      have k6 : K id6 = none := (h6' _).none f6
      have h7 := (((h6' _).trans s6).updK k6).trans s7
      obtain ⟨q1, q2, q3, q4, q5⟩ := p6 hk1
      have hl5 : ∀ n ∈ [x.st.top, x.st.bottom, x.st.padTop, x.st.padBottom, x.st.head], 0 ≤ n ∧ n ≤ mx := by
        intro n hn
        simp only [List.mem_cons, List.not_mem_nil, or_false] at hn
        rcases hn with rfl | rfl | rfl | rfl | rfl <;> assumption
      refine Runs.call rfl rfl rfl (high_c (s := ⟨if ((k + 1 : Nat) : Int) > s.depth then ((k + 1 : Nat) : Int) else s.depth, s.pieces, s.nodes + 1, s.heights⟩) (l := [x.st.top, x.st.bottom, x.st.padTop, x.st.padBottom, x.st.head]) (times := 1) hc7
        (fun ob => Reads.own (off := 0) (len := 5) ((upd_ne n84c).trans a84) rfl (by simp) (fun r hr => by simp at hr; rcases hr with rfl | rfl | rfl | rfl | rfl <;> rfl)) (by simp) hl5 (by omega) f3 rfl) ?_
      rintro r σ8 ⟨rfl, rfl⟩
      (refine Runs.of_step Orc.nothing 300 ?_; simp -implicitDefEqProofs only [s_r_nil, Ret_one, Ret_two, Ret_three, Ret_none, Ret_cell_one, Ret_cell_two, onSome_some, s_r_stop, s_r_inBlock, s_r_ops_nil, s_r_skip, s_r_seq, s_r_block, s_r_exit, exR_some, s_r_ret, s_r_loop, s_r_reg, s_r_dreg, s_d_nil, s_r_cond, cR_t, cR_f, cR_dec, s_r_ins, insR_0, insR_1, insR_2, insR_3, insR_4, callR_some, callR_none, callV_eq, callD_some, callD_none, contR_some, storeR_some, effR_some, s_d_ins, insD_0, insD_1, insD_2, insD_3, contD_some, storeD_some, effD_some, s_r_gins, gR_tup, gR_tt, gR_ff, gR_tf, gR_ft, gR_dec_t, gR_dec_f, s_d_gins, gD_tup, gD_tt, gD_ff, gD_tf, gD_ft, gD_dec_t, gD_dec_f, putO_nothing, putO_lo, putO_hi, mix_get, putO_some, putO_none, lit_t, lit_c, ev_t, ev_c, okind, vpre, vpure, binV_int, binV_str, binPre_int, binPre_str, intBin, intPre, strBin, strPre, popTo, argSlots, lenV_own, lenV_sl, lenV_nils, lenV_str, fldV, fldAV, subCells, idxAV_own, idxVV, idxAAV, idxSV, loadV_ptr, loadV_rp_agg, loadV_rp_int, sliceV, sliceSV, boundV, szIs, storeOp, storeS, setRowV, eff, extV, buildV, splice, eqSV, fitsL, eqCells, eqCell, minmaxV, binBV, nilCheckV, bytesV, V.cells, V.stays, upd_same, upd_upd, true_implies, false_implies, implies_true, keepS_eq, List.getD_cons_zero, List.getD_cons_succ, List.getD_nil, List.map_cons, List.map_nil, List.length_cons, List.length_nil, List.drop_succ_cons, List.drop_zero, List.take_succ_cons, List.take_zero, List.set_cons_zero, List.set_cons_succ, List.append_nil, List.nil_append, List.cons_append, List.all_cons, List.all_nil, List.getElem?_cons_zero, List.getElem?_cons_succ, List.contains_cons, List.contains_nil, Option.isSome_some, Option.map_some, Option.map_none, true_and, and_true, and_self, Int.reduceEq, Int.reduceNe, Int.reduceLT, Int.reduceLE, Int.reduceGT, Int.reduceGE, Nat.reduceEqDiff, Nat.reduceAdd, Nat.reduceMul, Nat.reduceLeDiff, Nat.reduceSub, Nat.reduceLT, Nat.reduceBEq, Nat.zero_add, Nat.add_zero, ↓reduceIte, reduceCtorEq, ← decide_not, Bool.not_true, Bool.not_false, Bool.false_eq_true, Bool.or_true, Bool.true_or, Bool.or_false, Bool.false_or, Bool.true_and, Bool.and_true, Bool.and_self, decide_true, decide_false, decide_eq_true_eq, Orc.nothing])
      refine ⟨_, _, SubStore.refl _, Wk.refl (SubStore.refl _) _, rfl, h7.updK hKc, .own id9 0 (k + 1), ?_, fun o => .inr ⟨id9, k + 1, full.take k ++ [i + x.size], rfl, ((upd_ne n9c).trans a9).trans (by simp), upd_none.2 ⟨n9c, k9⟩, by simp; omega, by simp; omega, ?_⟩⟩
      · have e : (if ((k + 1 : Nat) : Int) > s.depth then ((k + 1 : Nat) : Int) else s.depth) = max s.depth ((k + 1 : Nat) : Int) := by split <;> omega
        rw [upd_same, e]
        have hk0' : kept i ends = full.take k := hk0.symm
        simp [nodeS, hk1, hk0', hlk, sumsRow, Nat.min_eq_left hk]
      · have hk0' : kept i ends = full.take k := hk0.symm
        rw [List.take_of_length_le (by simp; omega)]
        simp [nodeS, hk1, hk0']
    · by_cases hk2 : x.kind = 2
      · (refine Runs.of_step Orc.nothing 300 ?_; simp -implicitDefEqProofs only [s_r_nil, Ret_one, Ret_two, Ret_three, Ret_none, Ret_cell_one, Ret_cell_two, onSome_some, s_r_stop, s_r_inBlock, s_r_ops_nil, s_r_skip, s_r_seq, s_r_block, s_r_exit, exR_some, s_r_ret, s_r_loop, s_r_reg, s_r_dreg, s_d_nil, s_r_cond, cR_t, cR_f, cR_dec, s_r_ins, insR_0, insR_1, insR_2, insR_3, insR_4, callR_some, callR_none, callV_eq, callD_some, callD_none, contR_some, storeR_some, s_d_ins, insD_0, insD_1, insD_2, insD_3, contD_some, storeD_some, s_r_gins, gR_tup, gR_tt, gR_ff, gR_tf, gR_ft, gR_dec_t, gR_dec_f, s_d_gins, gD_tup, gD_tt, gD_ff, gD_tf, gD_ft, gD_dec_t, gD_dec_f, putO_nothing, putO_lo, putO_hi, mix_get, putO_some, putO_none, lit_t, lit_c, ev_t, ev_c, okind, vpre, vpure, binV_int, binV_str, binPre_int, binPre_str, intBin, intPre, strBin, strPre, popTo, argSlots, lenV_own, lenV_sl, lenV_nils, lenV_str, fldV, fldAV, subCells, idxAV_own, idxVV, idxAAV, idxSV, loadV_ptr, loadV_rp_agg, loadV_rp_int, sliceV, sliceSV, boundV, szIs, storeOp, storeS, setRowV, eff, extV, buildV, splice, eqSV, fitsL, eqCells, eqCell, minmaxV, binBV, nilCheckV, bytesV, V.cells, V.stays, upd_same, upd_upd, true_implies, false_implies, implies_true, keepS_eq, List.getD_cons_zero, List.getD_cons_succ, List.getD_nil, List.map_cons, List.map_nil, List.length_cons, List.length_nil, List.drop_succ_cons, List.drop_zero, List.take_succ_cons, List.take_zero, List.set_cons_zero, List.set_cons_succ, List.append_nil, List.nil_append, List.cons_append, List.all_cons, List.all_nil, List.getElem?_cons_zero, List.getElem?_cons_succ, List.contains_cons, List.contains_nil, Option.isSome_some, Option.map_some, Option.map_none, true_and, and_true, and_self, Int.reduceEq, Int.reduceNe, Int.reduceLT, Int.reduceLE, Int.reduceGT, Int.reduceGE, Nat.reduceEqDiff, Nat.reduceAdd, Nat.reduceMul, Nat.reduceLeDiff, Nat.reduceSub, Nat.reduceLT, Nat.reduceBEq, Nat.zero_add, Nat.add_zero, ↓reduceIte, reduceCtorEq, ← decide_not, Bool.not_true, Bool.not_false, Bool.false_eq_true, Bool.or_true, Bool.true_or, Bool.or_false, Bool.false_or, Bool.true_and, Bool.and_true, Bool.and_self, decide_true, decide_false, decide_eq_true_eq, Orc.nothing, a4, a5, hc3, upd_ne n4c.symm, upd_ne n5c.symm, hk2, lenV_encI])
        refine ⟨hsr, inR_i64 (by omega) (by omega), ?_⟩
        refine effR_new fun id7 σ7 s7 a7 f7 => ?_
        have hc7 := s7 c _ upd_same
        have n7c : id7 ≠ c := by rintro rfl; rw [hc7] at a7; simp at a7
        simp -implicitDefEqProofs only [s_r_nil, Ret_one, Ret_two, Ret_three, Ret_none, Ret_cell_one, Ret_cell_two, onSome_some, s_r_stop, s_r_inBlock, s_r_ops_nil, s_r_skip, s_r_seq, s_r_block, s_r_exit, exR_some, s_r_ret, s_r_loop, s_r_reg, s_r_dreg, s_d_nil, s_r_cond, cR_t, cR_f, cR_dec, s_r_ins, insR_0, insR_1, insR_2, insR_3, insR_4, callR_some, callR_none, callV_eq, callD_some, callD_none, contR_some, storeR_some, s_d_ins, insD_0, insD_1, insD_2, insD_3, contD_some, storeD_some, s_r_gins, gR_tup, gR_tt, gR_ff, gR_tf, gR_ft, gR_dec_t, gR_dec_f, s_d_gins, gD_tup, gD_tt, gD_ff, gD_tf, gD_ft, gD_dec_t, gD_dec_f, putO_nothing, putO_lo, putO_hi, mix_get, putO_some, putO_none, lit_t, lit_c, ev_t, ev_c, okind, vpre, vpure, binV_int, binV_str, binPre_int, binPre_str, intBin, intPre, strBin, strPre, popTo, argSlots, lenV_own, lenV_sl, lenV_nils, lenV_str, fldV, fldAV, subCells, idxAV_own, idxVV, idxAAV, idxSV, loadV_ptr, loadV_rp_agg, loadV_rp_int, sliceV, sliceSV, boundV, szIs, storeOp, storeS, setRowV, eff, extV, buildV, splice, eqSV, fitsL, eqCells, eqCell, minmaxV, binBV, nilCheckV, bytesV, V.cells, V.stays, upd_same, upd_upd, true_implies, false_implies, implies_true, keepS_eq, List.getD_cons_zero, List.getD_cons_succ, List.getD_nil, List.map_cons, List.map_nil, List.length_cons, List.length_nil, List.drop_succ_cons, List.drop_zero, List.take_succ_cons, List.take_zero, List.set_cons_zero, List.set_cons_succ, List.append_nil, List.nil_append, List.cons_append, List.all_cons, List.all_nil, List.getElem?_cons_zero, List.getElem?_cons_succ, List.contains_cons, List.contains_nil, Option.isSome_some, Option.map_some, Option.map_none, true_and, and_true, and_self, Int.reduceEq, Int.reduceNe, Int.reduceLT, Int.reduceLE, Int.reduceGT, Int.reduceGE, Nat.reduceEqDiff, Nat.reduceAdd, Nat.reduceMul, Nat.reduceLeDiff, Nat.reduceSub, Nat.reduceLT, Nat.reduceBEq, Nat.zero_add, Nat.add_zero, ↓reduceIte, reduceCtorEq, ← decide_not, Bool.not_true, Bool.not_false, Bool.false_eq_true, Bool.or_true, Bool.true_or, Bool.or_false, Bool.false_or, Bool.true_and, Bool.and_true, Bool.and_self, decide_true, decide_false, decide_eq_true_eq]
        have h7 := (h3.updK hKc).trans s7
        refine Runs.call rfl rfl rfl (high_c (s := ⟨s.depth, s.pieces + x.words.length, s.nodes + 1, s.heights⟩) (l := [x.line]) (times := x.words.length) hc7
          (fun ob => Reads.own (off := 0) (len := 1) ((upd_ne n7c).trans a7) rfl (by simp) (fun r hr => by simp at hr; rcases hr with rfl; rfl)) (by simp) (by intro n hn; simp at hn; subst hn; exact ⟨p2, p3⟩) (by omega) f3 rfl) ?_
        rintro r σ8 ⟨rfl, rfl⟩
        (refine Runs.of_step Orc.nothing 300 ?_; simp -implicitDefEqProofs only [s_r_nil, Ret_one, Ret_two, Ret_three, Ret_none, Ret_cell_one, Ret_cell_two, onSome_some, s_r_stop, s_r_inBlock, s_r_ops_nil, s_r_skip, s_r_seq, s_r_block, s_r_exit, exR_some, s_r_ret, s_r_loop, s_r_reg, s_r_dreg, s_d_nil, s_r_cond, cR_t, cR_f, cR_dec, s_r_ins, insR_0, insR_1, insR_2, insR_3, insR_4, callR_some, callR_none, callV_eq, callD_some, callD_none, contR_some, storeR_some, effR_some, s_d_ins, insD_0, insD_1, insD_2, insD_3, contD_some, storeD_some, effD_some, s_r_gins, gR_tup, gR_tt, gR_ff, gR_tf, gR_ft, gR_dec_t, gR_dec_f, s_d_gins, gD_tup, gD_tt, gD_ff, gD_tf, gD_ft, gD_dec_t, gD_dec_f, putO_nothing, putO_lo, putO_hi, mix_get, putO_some, putO_none, lit_t, lit_c, ev_t, ev_c, okind, vpre, vpure, binV_int, binV_str, binPre_int, binPre_str, intBin, intPre, strBin, strPre, popTo, argSlots, lenV_own, lenV_sl, lenV_nils, lenV_str, fldV, fldAV, subCells, idxAV_own, idxVV, idxAAV, idxSV, loadV_ptr, loadV_rp_agg, loadV_rp_int, sliceV, sliceSV, boundV, szIs, storeOp, storeS, setRowV, eff, extV, buildV, splice, eqSV, fitsL, eqCells, eqCell, minmaxV, binBV, nilCheckV, bytesV, V.cells, V.stays, upd_same, upd_upd, true_implies, false_implies, implies_true, keepS_eq, List.getD_cons_zero, List.getD_cons_succ, List.getD_nil, List.map_cons, List.map_nil, List.length_cons, List.length_nil, List.drop_succ_cons, List.drop_zero, List.take_succ_cons, List.take_zero, List.set_cons_zero, List.set_cons_succ, List.append_nil, List.nil_append, List.cons_append, List.all_cons, List.all_nil, List.getElem?_cons_zero, List.getElem?_cons_succ, List.contains_cons, List.contains_nil, Option.isSome_some, Option.map_some, Option.map_none, true_and, and_true, and_self, Int.reduceEq, Int.reduceNe, Int.reduceLT, Int.reduceLE, Int.reduceGT, Int.reduceGE, Nat.reduceEqDiff, Nat.reduceAdd, Nat.reduceMul, Nat.reduceLeDiff, Nat.reduceSub, Nat.reduceLT, Nat.reduceBEq, Nat.zero_add, Nat.add_zero, ↓reduceIte, reduceCtorEq, ← decide_not, Bool.not_true, Bool.not_false, Bool.false_eq_true, Bool.or_true, Bool.true_or, Bool.or_false, Bool.false_or, Bool.true_and, Bool.and_true, Bool.and_self, decide_true, decide_false, decide_eq_true_eq, Orc.nothing])
        refine ⟨_, _, SubStore.refl _, Wk.refl (SubStore.refl _) _, rfl, h7.updK hKc, _, upd_same.trans (by simp [nodeS, hk2, sumsRow]; rfl), fun o => ?_⟩
        have : (nodeS i x s ends).2 = kept i ends := by simp [nodeS, hk2]
        rw [this]
        exact .inr ⟨e, k, full, rfl, (upd_ne hec).trans (s7 e _ (by rw [upd_ne hec]; exact he)), upd_none.2 ⟨hec, hKe0⟩, hk, by omega, hk0⟩
      · have h4or := p1
        (refine Runs.of_step Orc.nothing 300 ?_; simp -implicitDefEqProofs only [s_r_nil, Ret_one, Ret_two, Ret_three, Ret_none, Ret_cell_one, Ret_cell_two, onSome_some, s_r_stop, s_r_inBlock, s_r_ops_nil, s_r_skip, s_r_seq, s_r_block, s_r_exit, exR_some, s_r_ret, s_r_loop, s_r_reg, s_r_dreg, s_d_nil, s_r_cond, cR_t, cR_f, cR_dec, s_r_ins, insR_0, insR_1, insR_2, insR_3, insR_4, callR_some, callR_none, callV_eq, callD_some, callD_none, contR_some, storeR_some, s_d_ins, insD_0, insD_1, insD_2, insD_3, contD_some, storeD_some, s_r_gins, gR_tup, gR_tt, gR_ff, gR_tf, gR_ft, gR_dec_t, gR_dec_f, s_d_gins, gD_tup, gD_tt, gD_ff, gD_tf, gD_ft, gD_dec_t, gD_dec_f, putO_nothing, putO_lo, putO_hi, mix_get, putO_some, putO_none, lit_t, lit_c, ev_t, ev_c, okind, vpre, vpure, binV_int, binV_str, binPre_int, binPre_str, intBin, intPre, strBin, strPre, popTo, argSlots, lenV_own, lenV_sl, lenV_nils, lenV_str, fldV, fldAV, subCells, idxAV_own, idxVV, idxAAV, idxSV, loadV_ptr, loadV_rp_agg, loadV_rp_int, sliceV, sliceSV, boundV, szIs, storeOp, storeS, setRowV, eff, extV, buildV, splice, eqSV, fitsL, eqCells, eqCell, minmaxV, binBV, nilCheckV, bytesV, V.cells, V.stays, upd_same, upd_upd, true_implies, false_implies, implies_true, keepS_eq, List.getD_cons_zero, List.getD_cons_succ, List.getD_nil, List.map_cons, List.map_nil, List.length_cons, List.length_nil, List.drop_succ_cons, List.drop_zero, List.take_succ_cons, List.take_zero, List.set_cons_zero, List.set_cons_succ, List.append_nil, List.nil_append, List.cons_append, List.all_cons, List.all_nil, List.getElem?_cons_zero, List.getElem?_cons_succ, List.contains_cons, List.contains_nil, Option.isSome_some, Option.map_some, Option.map_none, true_and, and_true, and_self, Int.reduceEq, Int.reduceNe, Int.reduceLT, Int.reduceLE, Int.reduceGT, Int.reduceGE, Nat.reduceEqDiff, Nat.reduceAdd, Nat.reduceMul, Nat.reduceLeDiff, Nat.reduceSub, Nat.reduceLT, Nat.reduceBEq, Nat.zero_add, Nat.add_zero, ↓reduceIte, reduceCtorEq, ← decide_not, Bool.not_true, Bool.not_false, Bool.false_eq_true, Bool.or_true, Bool.true_or, Bool.or_false, Bool.false_or, Bool.true_and, Bool.and_true, Bool.and_self, decide_true, decide_false, decide_eq_true_eq, Orc.nothing, a4, a5, hc3, upd_ne n4c.symm, upd_ne n5c.symm, hk1, hk2, lenV_encI])
        refine ⟨hsr, inR_i64 (by omega) (by omega), ?_⟩
        refine effR_new fun id7 σ7 s7 a7 f7 => ?_
        have hc7 := s7 c _ upd_same
        have n7c : id7 ≠ c := by rintro rfl; rw [hc7] at a7; simp at a7
        simp -implicitDefEqProofs only [s_r_nil, Ret_one, Ret_two, Ret_three, Ret_none, Ret_cell_one, Ret_cell_two, onSome_some, s_r_stop, s_r_inBlock, s_r_ops_nil, s_r_skip, s_r_seq, s_r_block, s_r_exit, exR_some, s_r_ret, s_r_loop, s_r_reg, s_r_dreg, s_d_nil, s_r_cond, cR_t, cR_f, cR_dec, s_r_ins, insR_0, insR_1, insR_2, insR_3, insR_4, callR_some, callR_none, callV_eq, callD_some, callD_none, contR_some, storeR_some, s_d_ins, insD_0, insD_1, insD_2, insD_3, contD_some, storeD_some, s_r_gins, gR_tup, gR_tt, gR_ff, gR_tf, gR_ft, gR_dec_t, gR_dec_f, s_d_gins, gD_tup, gD_tt, gD_ff, gD_tf, gD_ft, gD_dec_t, gD_dec_f, putO_nothing, putO_lo, putO_hi, mix_get, putO_some, putO_none, lit_t, lit_c, ev_t, ev_c, okind, vpre, vpure, binV_int, binV_str, binPre_int, binPre_str, intBin, intPre, strBin, strPre, popTo, argSlots, lenV_own, lenV_sl, lenV_nils, lenV_str, fldV, fldAV, subCells, idxAV_own, idxVV, idxAAV, idxSV, loadV_ptr, loadV_rp_agg, loadV_rp_int, sliceV, sliceSV, boundV, szIs, storeOp, storeS, setRowV, eff, extV, buildV, splice, eqSV, fitsL, eqCells, eqCell, minmaxV, binBV, nilCheckV, bytesV, V.cells, V.stays, upd_same, upd_upd, true_implies, false_implies, implies_true, keepS_eq, List.getD_cons_zero, List.getD_cons_succ, List.getD_nil, List.map_cons, List.map_nil, List.length_cons, List.length_nil, List.drop_succ_cons, List.drop_zero, List.take_succ_cons, List.take_zero, List.set_cons_zero, List.set_cons_succ, List.append_nil, List.nil_append, List.cons_append, List.all_cons, List.all_nil, List.getElem?_cons_zero, List.getElem?_cons_succ, List.contains_cons, List.contains_nil, Option.isSome_some, Option.map_some, Option.map_none, true_and, and_true, and_self, Int.reduceEq, Int.reduceNe, Int.reduceLT, Int.reduceLE, Int.reduceGT, Int.reduceGE, Nat.reduceEqDiff, Nat.reduceAdd, Nat.reduceMul, Nat.reduceLeDiff, Nat.reduceSub, Nat.reduceLT, Nat.reduceBEq, Nat.zero_add, Nat.add_zero, ↓reduceIte, reduceCtorEq, ← decide_not, Bool.not_true, Bool.not_false, Bool.false_eq_true, Bool.or_true, Bool.true_or, Bool.or_false, Bool.false_or, Bool.true_and, Bool.and_true, Bool.and_self, decide_true, decide_false, decide_eq_true_eq]
        have h7 := (h3.updK hKc).trans s7
        refine Runs.call rfl rfl rfl (high_c (s := ⟨s.depth, s.pieces + 1, s.nodes + 1, s.heights⟩) (l := [x.h]) (times := 1) hc7
          (fun ob => Reads.own (off := 0) (len := 1) ((upd_ne n7c).trans a7) rfl (by simp) (fun r hr => by simp at hr; rcases hr with rfl; rfl)) (by simp) (by intro n hn; simp at hn; subst hn; exact ⟨p4, p5⟩) (by omega) f3 rfl) ?_
        rintro r σ8 ⟨rfl, rfl⟩
        (refine Runs.of_step Orc.nothing 300 ?_; simp -implicitDefEqProofs only [s_r_nil, Ret_one, Ret_two, Ret_three, Ret_none, Ret_cell_one, Ret_cell_two, onSome_some, s_r_stop, s_r_inBlock, s_r_ops_nil, s_r_skip, s_r_seq, s_r_block, s_r_exit, exR_some, s_r_ret, s_r_loop, s_r_reg, s_r_dreg, s_d_nil, s_r_cond, cR_t, cR_f, cR_dec, s_r_ins, insR_0, insR_1, insR_2, insR_3, insR_4, callR_some, callR_none, callV_eq, callD_some, callD_none, contR_some, storeR_some, effR_some, s_d_ins, insD_0, insD_1, insD_2, insD_3, contD_some, storeD_some, effD_some, s_r_gins, gR_tup, gR_tt, gR_ff, gR_tf, gR_ft, gR_dec_t, gR_dec_f, s_d_gins, gD_tup, gD_tt, gD_ff, gD_tf, gD_ft, gD_dec_t, gD_dec_f, putO_nothing, putO_lo, putO_hi, mix_get, putO_some, putO_none, lit_t, lit_c, ev_t, ev_c, okind, vpre, vpure, binV_int, binV_str, binPre_int, binPre_str, intBin, intPre, strBin, strPre, popTo, argSlots, lenV_own, lenV_sl, lenV_nils, lenV_str, fldV, fldAV, subCells, idxAV_own, idxVV, idxAAV, idxSV, loadV_ptr, loadV_rp_agg, loadV_rp_int, sliceV, sliceSV, boundV, szIs, storeOp, storeS, setRowV, eff, extV, buildV, splice, eqSV, fitsL, eqCells, eqCell, minmaxV, binBV, nilCheckV, bytesV, V.cells, V.stays, upd_same, upd_upd, true_implies, false_implies, implies_true, keepS_eq, List.getD_cons_zero, List.getD_cons_succ, List.getD_nil, List.map_cons, List.map_nil, List.length_cons, List.length_nil, List.drop_succ_cons, List.drop_zero, List.take_succ_cons, List.take_zero, List.set_cons_zero, List.set_cons_succ, List.append_nil, List.nil_append, List.cons_append, List.all_cons, List.all_nil, List.getElem?_cons_zero, List.getElem?_cons_succ, List.contains_cons, List.contains_nil, Option.isSome_some, Option.map_some, Option.map_none, true_and, and_true, and_self, Int.reduceEq, Int.reduceNe, Int.reduceLT, Int.reduceLE, Int.reduceGT, Int.reduceGE, Nat.reduceEqDiff, Nat.reduceAdd, Nat.reduceMul, Nat.reduceLeDiff, Nat.reduceSub, Nat.reduceLT, Nat.reduceBEq, Nat.zero_add, Nat.add_zero, ↓reduceIte, reduceCtorEq, ← decide_not, Bool.not_true, Bool.not_false, Bool.false_eq_true, Bool.or_true, Bool.true_or, Bool.or_false, Bool.false_or, Bool.true_and, Bool.and_true, Bool.and_self, decide_true, decide_false, decide_eq_true_eq, Orc.nothing])
        refine ⟨_, _, SubStore.refl _, Wk.refl (SubStore.refl _) _, rfl, h7.updK hKc, _, upd_same.trans (by simp [nodeS, hk1, hk2, sumsRow]; rfl), fun o => ?_⟩
        have : (nodeS i x s ends).2 = kept i ends := by simp [nodeS, hk1, hk2]
        rw [this]
        exact .inr ⟨e, k, full, rfl, (upd_ne hec).trans (s7 e _ (by rw [upd_ne hec]; exact he)), upd_none.2 ⟨hec, hKe0⟩, hk, by omega, hk0⟩
end Go.Vc
