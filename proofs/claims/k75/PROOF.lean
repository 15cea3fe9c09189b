import PyProof.Rows.All
import Wide.All
import OpenK.AllK
import Wide.FinOn
import KE.KStateDown
import HandS.ForMost
import HandS.ForExc
import HandS.Wide
import HandS.IsInst
import HandS.Deep
import HandS.Conv
import HandS.Flow
import HandS.Defaults
import HandS.Rev
import HandS.Small
import HandS.Head0
import HandS.Head1
import HandS.Head2
import HandS.HeadEnd
import HandS.HeadHook1
import HandS.HeadHook2
import KE.KDictKeyed
import KE.KeyNested
import HandS.Lambda
import HandS.Style
import HandS.TupLe
import HandS.TupSets
import PyProof.ReprRoads
import HandS.Exc
import HandS.ExcOwn
import HandS.ExcIs
import HandS.ExcValue
import HandS.SetFor
import KE.KExcStr
import PyProof.Draws
import PyProof.EnumMake
import HandS.SortInts
import HandS.SetKeys
import KE.DatumOrd
import PyProof.ReprLen
import HandS.ExcInit
import HandS.ExcField
import KE.SortData
import HandS.Sort
import HandS.TupAny
import HandS.Strs
import KE.SortKeyHeap
import HandS.SortKw
import HandS.WordsDict
import HandS.Text
import HandS.FStr
import HandS.More
import PyProof.CollectIter
import PySem.Challenge.RW_spotlook_k75_wrong_rows_together
set_option Elab.async false
set_option linter.all false
set_option maxRecDepth 100000
set_option hygiene false in
local macro_rules | `(tactic| simp $c:optConfig $[$d:discharger]? only [gz0] $[$l:location]?) => `(tactic| simp $c $[$d]? only [ML.q_mSeq, ML.q_mSet, ML.q_mC, ML.q_mVar, ML.q_mOp, ML.q_mUn, ML.q_mTst, ML.q_mTru, ML.q_mIfS, ML.q_mIf, ML.q_mAnd, ML.q_mOr, ML.q_mNot, ML.q_mAndV, ML.q_mOrV, ML.q_mNotV, ML.q_mRet, ML.q_mRetN, ML.q_mExpr, ML.q_mNext, ML.q_mBreak, ML.q_mCont, ML.q_mAsg, ML.q_mPar, ML.q_gNm, ML.q_gLs, ML.q_gCn, ML.q_gNl, ML.q_gSb, ML.q_mTup, ML.q_mLst, ML.q_mLstF, ML.q_mCons, ML.q_mNil, ML.q_mCall, ML.q_mBlt, ML.q_bLen, ML.q_bAbs, ML.q_bMax2, ML.q_bMin2, ML.q_bInt, ML.q_bTuple, ML.q_bList, ML.q_bListF, ML.q_bAll, ML.q_lenD, ML.q_truD, ML.q_lstOf, ML.q_ownOf, ML.q_rInt, ML.q_rInt0, ML.q_rSub, ML.q_rMul, ML.q_rDiv, ML.q_rMod, ML.q_rPow, ML.q_rAdd, ML.q_rLt, ML.q_rLe, ML.q_rGt, ML.q_rGe, ML.q_rNeg, ML.q_rIxM, ML.q_ixL, ML.q_rIsN, ML.q_rNotN, ML.q_isN, ML.q_rEqM, ML.q_rNeM, ML.q_rInM, ML.q_mIsi, ML.q_tyD, ML.q_mCut, ML.q_oNo, ML.q_oSo, ML.q_mMt, ML.q_mMt0, ML.q_mtAppend, ML.q_mtInsert, ML.q_mtPop, ML.q_mtPop0, ML.q_mtReverse, ML.q_mtClear, ML.q_mtExtend, ML.q_mtIndex, ML.q_rSetM, ML.q_setAt, ML.q_mends, ML.q_mstart, ML.q_mFor, ML.q_iL, ML.q_iT, ML.q_iR1, ML.q_iR2, ML.q_iEn, ML.q_iZp, ML.q_mChain, ML.q_mYes, ML.q_mCompF, ML.q_mComp, ML.q_wipeM, ML.q_rIsBM, ML.q_xAt, ML.put_same, ML.noX, ML.deq_int, ML.deq_bl, ML.deq_str, ML.deq_non, ML.eqOk_int, ML.eqOk_bl, ML.isTy_NoneType_int, ML.isTy_NoneType_bool, ML.isTy_NoneType_tuple, ML.isTy_NoneType_list, ML.isTy_NoneType_str, ML.isTy_bool_int, ML.isTy_bool_bool, ML.isTy_bool_tuple, ML.isTy_bool_list, ML.isTy_bool_str, ML.isTy_int_int, ML.isTy_int_bool, ML.isTy_int_tuple, ML.isTy_int_list, ML.isTy_int_str, ML.isTy_str_int, ML.isTy_str_bool, ML.isTy_str_tuple, ML.isTy_str_list, ML.isTy_str_str, ML.isTy_tuple_int, ML.isTy_tuple_bool, ML.isTy_tuple_tuple, ML.isTy_tuple_list, ML.isTy_tuple_str, ML.isTy_list_int, ML.isTy_list_bool, ML.isTy_list_tuple, ML.isTy_list_list, ML.isTy_list_str, ML.isTy_dict_int, ML.isTy_dict_bool, ML.isTy_dict_tuple, ML.isTy_dict_list, ML.isTy_dict_str, List.length_map, List.map_cons, List.map_nil, List.replicate, List.set_cons_zero, List.set_cons_succ, List.getElem?_cons_zero, List.getElem?_cons_succ, List.cons_append, List.nil_append, List.length_cons, List.length_nil, Option.bind_some, Option.map_some, ↓reduceIte, Nat.reduceAdd, Nat.reduceSub, Nat.reduceLT, Nat.reduceLeDiff, Nat.zero_add, decide_eq_true_eq, Bool.not_eq_true, ne_eq, reduceCtorEq, not_false_eq_true, true_and, and_true, Bool.false_eq_true, Bool.not_true, Bool.not_false, decide_true, decide_false, not_true_eq_false, eq_self, Bool.not_eq_eq_eq_not, if_true, if_false, FL.tup_fr, FL.tup_sp, FL.tup_wl, ML.tupOf_tup, FL.tupOf_fr, FL.tupOf_sp, FL.tupOf_wl, FL.gTp_at, FL.nz0, FL.nz1, FL.nz2, FL.nz3, FL.seqOf_tup, FL.seqOf_lst, FL.seqOf_scr, FL.seqOf_ref, FL.look_non, FL.look_int, FL.look_bl, FL.look_str, FL.look_tup, FL.look_lst, FL.look_scr, FL.seqOf_fr, FL.seqOf_sp, FL.seqOf_wl, FL.look_fr, FL.look_sp, FL.look_wl, FL.eqOk_fr, FL.eqOk_sp, FL.eqOk_wl, FL.deq_fr, FL.deq_sp, FL.deq_wl, Int.reduceToNat, Int.reducePow, Int.reduceAdd, Int.reduceSub, Int.reduceMul, Int.reduceNeg, ML.l_aLt_int, ML.l_aGt_int, ML.l_aLe_int, ML.l_aGe_int, ML.l_bMaxA_int, ML.l_bMinA_int] $[$l]?)
set_option hygiene false in
local macro_rules | `(tactic| simp $c:optConfig $[$d:discharger]? only [gz0, $ls,*] $[$l:location]?) => `(tactic| simp $c $[$d]? only [ML.q_mSeq, ML.q_mSet, ML.q_mC, ML.q_mVar, ML.q_mOp, ML.q_mUn, ML.q_mTst, ML.q_mTru, ML.q_mIfS, ML.q_mIf, ML.q_mAnd, ML.q_mOr, ML.q_mNot, ML.q_mAndV, ML.q_mOrV, ML.q_mNotV, ML.q_mRet, ML.q_mRetN, ML.q_mExpr, ML.q_mNext, ML.q_mBreak, ML.q_mCont, ML.q_mAsg, ML.q_mPar, ML.q_gNm, ML.q_gLs, ML.q_gCn, ML.q_gNl, ML.q_gSb, ML.q_mTup, ML.q_mLst, ML.q_mLstF, ML.q_mCons, ML.q_mNil, ML.q_mCall, ML.q_mBlt, ML.q_bLen, ML.q_bAbs, ML.q_bMax2, ML.q_bMin2, ML.q_bInt, ML.q_bTuple, ML.q_bList, ML.q_bListF, ML.q_bAll, ML.q_lenD, ML.q_truD, ML.q_lstOf, ML.q_ownOf, ML.q_rInt, ML.q_rInt0, ML.q_rSub, ML.q_rMul, ML.q_rDiv, ML.q_rMod, ML.q_rPow, ML.q_rAdd, ML.q_rLt, ML.q_rLe, ML.q_rGt, ML.q_rGe, ML.q_rNeg, ML.q_rIxM, ML.q_ixL, ML.q_rIsN, ML.q_rNotN, ML.q_isN, ML.q_rEqM, ML.q_rNeM, ML.q_rInM, ML.q_mIsi, ML.q_tyD, ML.q_mCut, ML.q_oNo, ML.q_oSo, ML.q_mMt, ML.q_mMt0, ML.q_mtAppend, ML.q_mtInsert, ML.q_mtPop, ML.q_mtPop0, ML.q_mtReverse, ML.q_mtClear, ML.q_mtExtend, ML.q_mtIndex, ML.q_rSetM, ML.q_setAt, ML.q_mends, ML.q_mstart, ML.q_mFor, ML.q_iL, ML.q_iT, ML.q_iR1, ML.q_iR2, ML.q_iEn, ML.q_iZp, ML.q_mChain, ML.q_mYes, ML.q_mCompF, ML.q_mComp, ML.q_wipeM, ML.q_rIsBM, ML.q_xAt, ML.put_same, ML.noX, ML.deq_int, ML.deq_bl, ML.deq_str, ML.deq_non, ML.eqOk_int, ML.eqOk_bl, ML.isTy_NoneType_int, ML.isTy_NoneType_bool, ML.isTy_NoneType_tuple, ML.isTy_NoneType_list, ML.isTy_NoneType_str, ML.isTy_bool_int, ML.isTy_bool_bool, ML.isTy_bool_tuple, ML.isTy_bool_list, ML.isTy_bool_str, ML.isTy_int_int, ML.isTy_int_bool, ML.isTy_int_tuple, ML.isTy_int_list, ML.isTy_int_str, ML.isTy_str_int, ML.isTy_str_bool, ML.isTy_str_tuple, ML.isTy_str_list, ML.isTy_str_str, ML.isTy_tuple_int, ML.isTy_tuple_bool, ML.isTy_tuple_tuple, ML.isTy_tuple_list, ML.isTy_tuple_str, ML.isTy_list_int, ML.isTy_list_bool, ML.isTy_list_tuple, ML.isTy_list_list, ML.isTy_list_str, ML.isTy_dict_int, ML.isTy_dict_bool, ML.isTy_dict_tuple, ML.isTy_dict_list, ML.isTy_dict_str, List.length_map, List.map_cons, List.map_nil, List.replicate, List.set_cons_zero, List.set_cons_succ, List.getElem?_cons_zero, List.getElem?_cons_succ, List.cons_append, List.nil_append, List.length_cons, List.length_nil, Option.bind_some, Option.map_some, ↓reduceIte, Nat.reduceAdd, Nat.reduceSub, Nat.reduceLT, Nat.reduceLeDiff, Nat.zero_add, decide_eq_true_eq, Bool.not_eq_true, ne_eq, reduceCtorEq, not_false_eq_true, true_and, and_true, Bool.false_eq_true, Bool.not_true, Bool.not_false, decide_true, decide_false, not_true_eq_false, eq_self, Bool.not_eq_eq_eq_not, if_true, if_false, FL.tup_fr, FL.tup_sp, FL.tup_wl, ML.tupOf_tup, FL.tupOf_fr, FL.tupOf_sp, FL.tupOf_wl, FL.gTp_at, FL.nz0, FL.nz1, FL.nz2, FL.nz3, FL.seqOf_tup, FL.seqOf_lst, FL.seqOf_scr, FL.seqOf_ref, FL.look_non, FL.look_int, FL.look_bl, FL.look_str, FL.look_tup, FL.look_lst, FL.look_scr, FL.seqOf_fr, FL.seqOf_sp, FL.seqOf_wl, FL.look_fr, FL.look_sp, FL.look_wl, FL.eqOk_fr, FL.eqOk_sp, FL.eqOk_wl, FL.deq_fr, FL.deq_sp, FL.deq_wl, Int.reduceToNat, Int.reducePow, Int.reduceAdd, Int.reduceSub, Int.reduceMul, Int.reduceNeg, ML.l_aLt_int, ML.l_aGt_int, ML.l_aLe_int, ML.l_aGe_int, ML.l_bMaxA_int, ML.l_bMinA_int, $ls,*] $[$l]?)
set_option hygiene false in
local macro_rules | `(tactic| simp $c:optConfig $[$d:discharger]? only [gy1] $[$l:location]?) => `(tactic| simp $c $[$d]? only [↓ML.q_mSeq, ↓ML.q_mC, ↓ML.q_mOp, ↓ML.q_mUn, ↓ML.q_mTst, ↓ML.q_mNot, ↓ML.q_mNotV, ↓ML.q_mRet, ↓ML.q_mRetN, ↓ML.q_mExpr, ↓ML.q_mNext, ↓ML.q_mBreak, ↓ML.q_mCont, ↓ML.q_mAsg, ↓ML.q_gSb, ↓ML.q_mTup, ↓ML.q_mLst, ↓ML.q_mLstF, ↓ML.q_mCons, ↓ML.q_mNil, ↓ML.q_mBlt, ↓ML.q_rEqM, ↓ML.q_rNeM, ↓ML.q_iR1, ↓ML.q_iR2, ↓ML.q_iEn, ↓ML.q_iZp, ↓ML.q_mMt, ↓ML.q_mMt0, ↓ML.q_mYes, ↓ML.q_mCut, ↓ML.q_oNo, ↓ML.q_oSo, ↓ML.l_mCall, ↓ML.l_mAnd, ↓ML.l_mOr, ↓ML.l_mAndV, ↓ML.l_mOrV, ↓ML.l_mIf, ↓ML.l_mIfS, ↓ML.l_mChain, ↓ML.l_mVar, ↓ML.l_mFor, ↓ML.l_mWhile, ↓ML.l_mComp, ↓ML.l_mCompF, ↓ML.l_optP, ↓ML.l_Go, ↓ML.Hold_v, ↓ML.l_mSet, ↓ML.l_gNm, ↓ML.l_mPar, ↓ML.l_rIxM, ↓ML.l_rSetM, ↓ML.l_rInt, ↓ML.l_rInt0, ↓ML.l_rAdd_int, ↓ML.l_rAdd_str, ↓ML.l_rAdd_tup, ↓ML.l_rNeg, ↓ML.l_rIsN, ↓ML.l_rNotN, ↓ML.l_rIsBM, ↓ML.l_mTru, ↓ML.l_bLen, ↓ML.l_bAbs, ↓ML.l_bMax2, ↓ML.l_bMin2, ↓ML.l_bInt_i, ↓ML.l_bInt_b, ↓ML.l_bTuple, ↓ML.l_bListF, ↓ML.l_bList, ↓ML.l_mIsi, ↓ML.l_iL, ↓ML.l_iT, ↓ML.l_gTp, ↓ML.l_gLs, ↓ML.l_gCn, ↓ML.l_gNl, ↓ML.l_mtAppend, ML.Hold_v, ML.l_mVar_z, ML.l_mVar_s, ML.OptP_some, ML.Go_eq, ML.IteP_true, ML.IteP_false, ML.lstOf_ref', ML.lstOf_lst, ML.lstOf_scr, ML.lstOf_tup, ML.ownOf_ref', ML.ownOf_lst, ML.seqOf_tup', ML.seqOf_lst', ML.seqOf_scr', ML.seqOf_ref', ML.olP_lst, ML.tupOf_tup, ML.ixL_lit, ML.ixL_cast, ML.ixL_m1, ML.setAt_lit, ML.setAt_cast, ML.truD_bl, ML.truD_int, ML.truD_tup, ML.truD_lst, ML.truD_scr, ML.truD_non, ML.lenD_tup, ML.lenD_lst, ML.lenD_scr, ML.lenD_ref, ML.tyD_non, ML.tyD_bl, ML.tyD_int, ML.tyD_str, ML.tyD_tup, ML.tyD_lst, ML.szl, ML.szlt, ML.cpow_lit, ML.mulok_rl, ML.mulok_ll, ML.divok_l, ML.put_same, ML.put_put, ML.q_wipeM, ML.deq_int, ML.deq_bl, ML.deq_str, ML.deq_non, ML.eqOk_int, ML.eqOk_bl, ML.isTy_NoneType_int, ML.isTy_NoneType_bool, ML.isTy_NoneType_tuple, ML.isTy_NoneType_list, ML.isTy_NoneType_str, ML.isTy_bool_int, ML.isTy_bool_bool, ML.isTy_bool_tuple, ML.isTy_bool_list, ML.isTy_bool_str, ML.isTy_int_int, ML.isTy_int_bool, ML.isTy_int_tuple, ML.isTy_int_list, ML.isTy_int_str, ML.isTy_str_int, ML.isTy_str_bool, ML.isTy_str_tuple, ML.isTy_str_list, ML.isTy_str_str, ML.isTy_tuple_int, ML.isTy_tuple_bool, ML.isTy_tuple_tuple, ML.isTy_tuple_list, ML.isTy_tuple_str, ML.isTy_list_int, ML.isTy_list_bool, ML.isTy_list_tuple, ML.isTy_list_list, ML.isTy_list_str, ML.isTy_dict_int, ML.isTy_dict_bool, ML.isTy_dict_tuple, ML.isTy_dict_list, ML.isTy_dict_str, FL.tup_fr, FL.tup_sp, FL.tup_wl, FL.tupOf_fr, FL.tupOf_sp, FL.tupOf_wl, FL.nz0, FL.nz1, FL.nz2, FL.nz3, FL.look_non, FL.look_int, FL.look_bl, FL.look_str, FL.look_tup, FL.look_lst, FL.look_scr, FL.seqOf_fr, FL.seqOf_sp, FL.seqOf_wl, FL.look_fr, FL.look_sp, FL.look_wl, FL.eqOk_fr, FL.eqOk_sp, FL.eqOk_wl, FL.deq_fr, FL.deq_sp, FL.deq_wl, FL.tyD_fr, FL.tyD_sp, FL.tyD_wl, FL.isN_fr, FL.isN_sp, FL.isN_wl, FL.lenD_sp, FL.lenD_wl, FL.rAdd_wl_tup, List.length_map, List.map_cons, List.map_nil, List.replicate, List.set_cons_zero, List.set_cons_succ, List.getElem?_cons_zero, List.getElem?_cons_succ, List.cons_append, List.nil_append, List.length_cons, List.length_nil, Option.bind_some, Option.map_some, ↓reduceIte, Nat.reduceAdd, Nat.reduceSub, Nat.reduceLT, Nat.reduceLeDiff, Nat.zero_add, decide_eq_true_eq, Bool.not_eq_true, ne_eq, reduceCtorEq, not_false_eq_true, true_and, and_true, Bool.false_eq_true, Bool.not_true, Bool.not_false, decide_true, decide_false, not_true_eq_false, eq_self, Bool.not_eq_eq_eq_not, if_true, if_false, decide_eq_false_iff_not, ML.ncast, Int.reduceToNat, Int.reducePow, Int.reduceAdd, Int.reduceSub, Int.reduceMul, Int.reduceNeg, Int.reduceLT, Int.reduceLE, Int.reduceEq, Nat.reduceEqDiff, Int.zero_add, gt_iff_lt, beq_self_eq_true, Bool.true_beq, Bool.false_beq, Bool.and_true, Bool.and_false, Bool.true_and, Bool.false_and, ↓ML.l_mtInsert, ↓ML.l_mtReverse, ↓ML.l_mtClear, ↓ML.l_bSortU, ↓ML.q_mMt0, ↓ML.l_bMaxL, ↓ML.l_bMinL, ↓ML.l_aLt_int, ↓ML.l_aLt_u, ↓ML.l_aGt_int, ↓ML.l_aGt_u, ↓ML.l_aLe_int, ↓ML.l_aLe_u, ↓ML.l_aGe_int, ↓ML.l_aGe_u, ↓ML.l_bMaxA_int, ↓ML.l_bMaxA_u, ↓ML.l_bMinA_int, ↓ML.l_bMinA_u, ML.tup_u, ML.tupOf_u, ML.seqOf_u, ML.sqI_u, ML.look_u, ML.isN_u, ML.lenD_u, ML.tyD_u, ML.tup_uw, ML.tupOf_uw, ML.seqOf_uw, ML.sqI_uw, ML.look_uw, ML.isN_uw, ML.lenD_uw, ML.tyD_uw, ML.eqOk_u, ML.eqOk_uw, ML.deq_u, ML.deq_uw, ML.in_uw, ↓ML.l_mRaise, ↓ML.l_mTry, ↓ML.l_mIsE, ↓ML.l_mIsV, ↓ML.l_mtCount, ↓ML.l_rAddS_rl, ↓ML.l_rAddS_ll, ML.excD_ref, ML.excOf_exc, ML.blsOf_nil, ML.blsOf_cons, ML.endM_nx, ML.endM_rt, ↓ML.l_mYes, ↓ML.l_iS, ↓ML.l_mIfJ, ↓ML.l_mJ, ↓ML.CrollP_nil, ↓ML.CrollP_cons, ↓ML.CrA_at, ↓ML.FrollP_nil, ↓ML.FrollP_cons, ML.isN_non, ML.isN_int, ML.isN_bl, ML.isN_str, ML.isN_tup, ML.isN_lst, ML.isN_ref, ML.sqI_tup, ML.sqI_lst, ML.sqI_scr, ML.sqI_ref, ML.sqI_at, ML.rngD_0, ML.rngD_1, ML.rngD_2, ML.rngD_3, ML.rngD_4, ML.rngD_6, ML.q_wipeM_nil, ML.q_wipeM_cons, FL.sqI_sp, FL.sqI_wl] $[$l]?)
set_option hygiene false in
local macro_rules | `(tactic| simp $c:optConfig $[$d:discharger]? only [gy1, $ls,*] $[$l:location]?) => `(tactic| simp $c $[$d]? only [↓ML.q_mSeq, ↓ML.q_mC, ↓ML.q_mOp, ↓ML.q_mUn, ↓ML.q_mTst, ↓ML.q_mNot, ↓ML.q_mNotV, ↓ML.q_mRet, ↓ML.q_mRetN, ↓ML.q_mExpr, ↓ML.q_mNext, ↓ML.q_mBreak, ↓ML.q_mCont, ↓ML.q_mAsg, ↓ML.q_gSb, ↓ML.q_mTup, ↓ML.q_mLst, ↓ML.q_mLstF, ↓ML.q_mCons, ↓ML.q_mNil, ↓ML.q_mBlt, ↓ML.q_rEqM, ↓ML.q_rNeM, ↓ML.q_iR1, ↓ML.q_iR2, ↓ML.q_iEn, ↓ML.q_iZp, ↓ML.q_mMt, ↓ML.q_mMt0, ↓ML.q_mYes, ↓ML.q_mCut, ↓ML.q_oNo, ↓ML.q_oSo, ↓ML.l_mCall, ↓ML.l_mAnd, ↓ML.l_mOr, ↓ML.l_mAndV, ↓ML.l_mOrV, ↓ML.l_mIf, ↓ML.l_mIfS, ↓ML.l_mChain, ↓ML.l_mVar, ↓ML.l_mFor, ↓ML.l_mWhile, ↓ML.l_mComp, ↓ML.l_mCompF, ↓ML.l_optP, ↓ML.l_Go, ↓ML.Hold_v, ↓ML.l_mSet, ↓ML.l_gNm, ↓ML.l_mPar, ↓ML.l_rIxM, ↓ML.l_rSetM, ↓ML.l_rInt, ↓ML.l_rInt0, ↓ML.l_rAdd_int, ↓ML.l_rAdd_str, ↓ML.l_rAdd_tup, ↓ML.l_rNeg, ↓ML.l_rIsN, ↓ML.l_rNotN, ↓ML.l_rIsBM, ↓ML.l_mTru, ↓ML.l_bLen, ↓ML.l_bAbs, ↓ML.l_bMax2, ↓ML.l_bMin2, ↓ML.l_bInt_i, ↓ML.l_bInt_b, ↓ML.l_bTuple, ↓ML.l_bListF, ↓ML.l_bList, ↓ML.l_mIsi, ↓ML.l_iL, ↓ML.l_iT, ↓ML.l_gTp, ↓ML.l_gLs, ↓ML.l_gCn, ↓ML.l_gNl, ↓ML.l_mtAppend, ML.Hold_v, ML.l_mVar_z, ML.l_mVar_s, ML.OptP_some, ML.Go_eq, ML.IteP_true, ML.IteP_false, ML.lstOf_ref', ML.lstOf_lst, ML.lstOf_scr, ML.lstOf_tup, ML.ownOf_ref', ML.ownOf_lst, ML.seqOf_tup', ML.seqOf_lst', ML.seqOf_scr', ML.seqOf_ref', ML.olP_lst, ML.tupOf_tup, ML.ixL_lit, ML.ixL_cast, ML.ixL_m1, ML.setAt_lit, ML.setAt_cast, ML.truD_bl, ML.truD_int, ML.truD_tup, ML.truD_lst, ML.truD_scr, ML.truD_non, ML.lenD_tup, ML.lenD_lst, ML.lenD_scr, ML.lenD_ref, ML.tyD_non, ML.tyD_bl, ML.tyD_int, ML.tyD_str, ML.tyD_tup, ML.tyD_lst, ML.szl, ML.szlt, ML.cpow_lit, ML.mulok_rl, ML.mulok_ll, ML.divok_l, ML.put_same, ML.put_put, ML.q_wipeM, ML.deq_int, ML.deq_bl, ML.deq_str, ML.deq_non, ML.eqOk_int, ML.eqOk_bl, ML.isTy_NoneType_int, ML.isTy_NoneType_bool, ML.isTy_NoneType_tuple, ML.isTy_NoneType_list, ML.isTy_NoneType_str, ML.isTy_bool_int, ML.isTy_bool_bool, ML.isTy_bool_tuple, ML.isTy_bool_list, ML.isTy_bool_str, ML.isTy_int_int, ML.isTy_int_bool, ML.isTy_int_tuple, ML.isTy_int_list, ML.isTy_int_str, ML.isTy_str_int, ML.isTy_str_bool, ML.isTy_str_tuple, ML.isTy_str_list, ML.isTy_str_str, ML.isTy_tuple_int, ML.isTy_tuple_bool, ML.isTy_tuple_tuple, ML.isTy_tuple_list, ML.isTy_tuple_str, ML.isTy_list_int, ML.isTy_list_bool, ML.isTy_list_tuple, ML.isTy_list_list, ML.isTy_list_str, ML.isTy_dict_int, ML.isTy_dict_bool, ML.isTy_dict_tuple, ML.isTy_dict_list, ML.isTy_dict_str, FL.tup_fr, FL.tup_sp, FL.tup_wl, FL.tupOf_fr, FL.tupOf_sp, FL.tupOf_wl, FL.nz0, FL.nz1, FL.nz2, FL.nz3, FL.look_non, FL.look_int, FL.look_bl, FL.look_str, FL.look_tup, FL.look_lst, FL.look_scr, FL.seqOf_fr, FL.seqOf_sp, FL.seqOf_wl, FL.look_fr, FL.look_sp, FL.look_wl, FL.eqOk_fr, FL.eqOk_sp, FL.eqOk_wl, FL.deq_fr, FL.deq_sp, FL.deq_wl, FL.tyD_fr, FL.tyD_sp, FL.tyD_wl, FL.isN_fr, FL.isN_sp, FL.isN_wl, FL.lenD_sp, FL.lenD_wl, FL.rAdd_wl_tup, List.length_map, List.map_cons, List.map_nil, List.replicate, List.set_cons_zero, List.set_cons_succ, List.getElem?_cons_zero, List.getElem?_cons_succ, List.cons_append, List.nil_append, List.length_cons, List.length_nil, Option.bind_some, Option.map_some, ↓reduceIte, Nat.reduceAdd, Nat.reduceSub, Nat.reduceLT, Nat.reduceLeDiff, Nat.zero_add, decide_eq_true_eq, Bool.not_eq_true, ne_eq, reduceCtorEq, not_false_eq_true, true_and, and_true, Bool.false_eq_true, Bool.not_true, Bool.not_false, decide_true, decide_false, not_true_eq_false, eq_self, Bool.not_eq_eq_eq_not, if_true, if_false, decide_eq_false_iff_not, ML.ncast, Int.reduceToNat, Int.reducePow, Int.reduceAdd, Int.reduceSub, Int.reduceMul, Int.reduceNeg, Int.reduceLT, Int.reduceLE, Int.reduceEq, Nat.reduceEqDiff, Int.zero_add, gt_iff_lt, beq_self_eq_true, Bool.true_beq, Bool.false_beq, Bool.and_true, Bool.and_false, Bool.true_and, Bool.false_and, ↓ML.l_mtInsert, ↓ML.l_mtReverse, ↓ML.l_mtClear, ↓ML.l_bSortU, ↓ML.q_mMt0, ↓ML.l_bMaxL, ↓ML.l_bMinL, ↓ML.l_aLt_int, ↓ML.l_aLt_u, ↓ML.l_aGt_int, ↓ML.l_aGt_u, ↓ML.l_aLe_int, ↓ML.l_aLe_u, ↓ML.l_aGe_int, ↓ML.l_aGe_u, ↓ML.l_bMaxA_int, ↓ML.l_bMaxA_u, ↓ML.l_bMinA_int, ↓ML.l_bMinA_u, ML.tup_u, ML.tupOf_u, ML.seqOf_u, ML.sqI_u, ML.look_u, ML.isN_u, ML.lenD_u, ML.tyD_u, ML.tup_uw, ML.tupOf_uw, ML.seqOf_uw, ML.sqI_uw, ML.look_uw, ML.isN_uw, ML.lenD_uw, ML.tyD_uw, ML.eqOk_u, ML.eqOk_uw, ML.deq_u, ML.deq_uw, ML.in_uw, ↓ML.l_mRaise, ↓ML.l_mTry, ↓ML.l_mIsE, ↓ML.l_mIsV, ↓ML.l_mtCount, ↓ML.l_rAddS_rl, ↓ML.l_rAddS_ll, ML.excD_ref, ML.excOf_exc, ML.blsOf_nil, ML.blsOf_cons, ML.endM_nx, ML.endM_rt, ↓ML.l_mYes, ↓ML.l_iS, ↓ML.l_mIfJ, ↓ML.l_mJ, ↓ML.CrollP_nil, ↓ML.CrollP_cons, ↓ML.CrA_at, ↓ML.FrollP_nil, ↓ML.FrollP_cons, ML.isN_non, ML.isN_int, ML.isN_bl, ML.isN_str, ML.isN_tup, ML.isN_lst, ML.isN_ref, ML.sqI_tup, ML.sqI_lst, ML.sqI_scr, ML.sqI_ref, ML.sqI_at, ML.rngD_0, ML.rngD_1, ML.rngD_2, ML.rngD_3, ML.rngD_4, ML.rngD_6, ML.q_wipeM_nil, ML.q_wipeM_cons, FL.sqI_sp, FL.sqI_wl, $ls,*] $[$l]?)
set_option hygiene false in
local macro_rules | `(tactic| simp $c:optConfig $[$d:discharger]? only [gz1] $[$l:location]?) => `(tactic| simp $c $[$d]? only [gy1] $[$l]?)
set_option hygiene false in
local macro_rules | `(tactic| simp $c:optConfig $[$d:discharger]? only [gz1, $ls,*] $[$l:location]?) => `(tactic| simp $c $[$d]? only [gy1, $ls,*] $[$l]?)
set_option hygiene false in
local macro_rules | `(tactic| simp $c:optConfig $[$d:discharger]? only [gz2] $[$l:location]?) => `(tactic| simp $c $[$d]? only [gy1, ↓FL.c_plus, ↓FL.c_less, ↓FL.c_law_less, ↓FL.c_times, ↓FL.c_over, ↓FL.c_is_less, ↓FL.c_is_ahead, ↓FL.c_along, ↓FL.c_crossed, ↓FL.c_leaning, ↓FL.c_side_of, ↓FL.c_lies_on, ↓FL.c_spans] $[$l]?)
set_option hygiene false in
local macro_rules | `(tactic| simp $c:optConfig $[$d:discharger]? only [gz2, $ls,*] $[$l:location]?) => `(tactic| simp $c $[$d]? only [gy1, ↓FL.c_plus, ↓FL.c_less, ↓FL.c_law_less, ↓FL.c_times, ↓FL.c_over, ↓FL.c_is_less, ↓FL.c_is_ahead, ↓FL.c_along, ↓FL.c_crossed, ↓FL.c_leaning, ↓FL.c_side_of, ↓FL.c_lies_on, ↓FL.c_spans, $ls,*] $[$l]?)
set_option hygiene false in
local macro_rules | `(tactic| simp $c:optConfig $[$d:discharger]? only [gz3] $[$l:location]?) => `(tactic| simp $c $[$d]? only [gy1, FL.l_rAdd_rl, FL.l_rAdd_ll, FL.l_rAdd_lr, FL.l_rAdd_rr, FL.in_ints] $[$l]?)
set_option hygiene false in
local macro_rules | `(tactic| simp $c:optConfig $[$d:discharger]? only [gz3, $ls,*] $[$l:location]?) => `(tactic| simp $c $[$d]? only [gy1, FL.l_rAdd_rl, FL.l_rAdd_ll, FL.l_rAdd_lr, FL.l_rAdd_rr, FL.in_ints, $ls,*] $[$l]?)
set_option hygiene false in
local macro_rules | `(tactic| simp $c:optConfig $[$d:discharger]? only [gz4] $[$l:location]?) => `(tactic| simp $c $[$d]? only [gy1, FL.l_rAdd_rl, FL.l_rAdd_ll, FL.l_rAdd_lr, FL.l_rAdd_rr, FL.in_ints, FL.in_lu, ↓ML.l_bMinU, ↓ML.l_bMaxU, ↓ML.l_bReprO, ↓ML.l_rEqS, ↓ML.l_bSortI, ↓ML.l_rNeX, ↓ML.l_bStrI, ↓ML.l_bIntS, ↓ML.l_mTx1, ↓ML.l_rmSplit, ↓ML.l_rmPart, ↓ML.l_rmJoin, ↓ML.l_mFmt, ↓ML.l_mJoined, ↓ML.l_mJns_nil, ↓ML.l_mJns_cons, ↓ML.l_mCutS, ↓ML.l_rIxT, ↓ML.l_rInS, ↓ML.l_iStrM, ↓ML.l_rNeS] $[$l]?)
set_option hygiene false in
local macro_rules | `(tactic| simp $c:optConfig $[$d:discharger]? only [gz4, $ls,*] $[$l:location]?) => `(tactic| simp $c $[$d]? only [gy1, FL.l_rAdd_rl, FL.l_rAdd_ll, FL.l_rAdd_lr, FL.l_rAdd_rr, FL.in_ints, FL.in_lu, ↓ML.l_bMinU, ↓ML.l_bMaxU, ↓ML.l_bReprO, ↓ML.l_rEqS, ↓ML.l_bSortI, ↓ML.l_rNeX, ↓ML.l_bStrI, ↓ML.l_bIntS, ↓ML.l_mTx1, ↓ML.l_rmSplit, ↓ML.l_rmPart, ↓ML.l_rmJoin, ↓ML.l_mFmt, ↓ML.l_mJoined, ↓ML.l_mJns_nil, ↓ML.l_mJns_cons, ↓ML.l_mCutS, ↓ML.l_rIxT, ↓ML.l_rInS, ↓ML.l_iStrM, ↓ML.l_rNeS, $ls,*] $[$l]?)
set_option hygiene false in
local macro_rules | `(tactic| simp $c:optConfig $[$d:discharger]? only [gz5] $[$l:location]?) => `(tactic| simp $c $[$d]? only [gy1, FL.l_rAdd_rl, FL.l_rAdd_ll, FL.l_rAdd_lr, FL.l_rAdd_rr, FL.in_ints, FL.in_lu, ↓ML.l_bMinU, ↓ML.l_bMaxU, ↓ML.l_mFld, ↓ML.l_mFldS, ↓ML.l_mMeth, ↓ML.l_mMake, ML.insD_ref, ML.insO_ins, ↓ML.l_bReprO, ↓ML.l_rEqS, ↓ML.l_bSortI, ↓ML.l_rNeX, ↓ML.l_bStrI, ↓ML.l_bIntS, ↓ML.l_mTx1, ↓ML.l_rmSplit, ↓ML.l_rmPart, ↓ML.l_rmJoin, ↓ML.l_mFmt, ↓ML.l_mJoined, ↓ML.l_mJns_nil, ↓ML.l_mJns_cons, ↓ML.l_mCutS, ↓ML.l_rIxT, ↓ML.l_rInS, ↓ML.l_iStrM, ↓ML.l_rNeS, ↓ML.l_bListT, ↓ML.l_rMulT, ↓ML.l_rmSplitO, ↓ML.l_rEqX, ↓ML.l_mRaiseF, ↓ML.l_mMkF, ↓ML.l_mIsX, ↓ML.l_mIsXV, ↓ML.l_mIsT, ↓ML.l_mXf, ML.exDX_ref, ML.excX_exc, ML.flds1, ML.flds2, ML.exn_SpotError, ML.exn_NoFraction, ML.exn_NoWall, ML.exn_TooMany, ML.exn_Crossing, ML.exn_Absent, ML.exn_NoText, ML.exn_NoRow, ML.sub_SpotError_SpotError, ML.sub_SpotError_NoFraction, ML.sub_SpotError_NoWall, ML.sub_SpotError_TooMany, ML.sub_SpotError_Crossing, ML.sub_SpotError_Absent, ML.sub_SpotError_NoText, ML.sub_SpotError_NoRow, ML.sub_NoFraction_SpotError, ML.sub_NoFraction_NoFraction, ML.sub_NoFraction_NoWall, ML.sub_NoFraction_TooMany, ML.sub_NoFraction_Crossing, ML.sub_NoFraction_Absent, ML.sub_NoFraction_NoText, ML.sub_NoFraction_NoRow, ML.sub_NoWall_SpotError, ML.sub_NoWall_NoFraction, ML.sub_NoWall_NoWall, ML.sub_NoWall_TooMany, ML.sub_NoWall_Crossing, ML.sub_NoWall_Absent, ML.sub_NoWall_NoText, ML.sub_NoWall_NoRow, ML.sub_TooMany_SpotError, ML.sub_TooMany_NoFraction, ML.sub_TooMany_NoWall, ML.sub_TooMany_TooMany, ML.sub_TooMany_Crossing, ML.sub_TooMany_Absent, ML.sub_TooMany_NoText, ML.sub_TooMany_NoRow, ML.sub_Crossing_SpotError, ML.sub_Crossing_NoFraction, ML.sub_Crossing_NoWall, ML.sub_Crossing_TooMany, ML.sub_Crossing_Crossing, ML.sub_Crossing_Absent, ML.sub_Crossing_NoText, ML.sub_Crossing_NoRow, ML.sub_Absent_SpotError, ML.sub_Absent_NoFraction, ML.sub_Absent_NoWall, ML.sub_Absent_TooMany, ML.sub_Absent_Crossing, ML.sub_Absent_Absent, ML.sub_Absent_NoText, ML.sub_Absent_NoRow, ML.sub_NoText_SpotError, ML.sub_NoText_NoFraction, ML.sub_NoText_NoWall, ML.sub_NoText_TooMany, ML.sub_NoText_Crossing, ML.sub_NoText_Absent, ML.sub_NoText_NoText, ML.sub_NoText_NoRow, ML.sub_NoRow_SpotError, ML.sub_NoRow_NoFraction, ML.sub_NoRow_NoWall, ML.sub_NoRow_TooMany, ML.sub_NoRow_Crossing, ML.sub_NoRow_Absent, ML.sub_NoRow_NoText, ML.sub_NoRow_NoRow] $[$l]?)
set_option hygiene false in
local macro_rules | `(tactic| simp $c:optConfig $[$d:discharger]? only [gz5, $ls,*] $[$l:location]?) => `(tactic| simp $c $[$d]? only [gy1, FL.l_rAdd_rl, FL.l_rAdd_ll, FL.l_rAdd_lr, FL.l_rAdd_rr, FL.in_ints, FL.in_lu, ↓ML.l_bMinU, ↓ML.l_bMaxU, ↓ML.l_mFld, ↓ML.l_mFldS, ↓ML.l_mMeth, ↓ML.l_mMake, ML.insD_ref, ML.insO_ins, ↓ML.l_bReprO, ↓ML.l_rEqS, ↓ML.l_bSortI, ↓ML.l_rNeX, ↓ML.l_bStrI, ↓ML.l_bIntS, ↓ML.l_mTx1, ↓ML.l_rmSplit, ↓ML.l_rmPart, ↓ML.l_rmJoin, ↓ML.l_mFmt, ↓ML.l_mJoined, ↓ML.l_mJns_nil, ↓ML.l_mJns_cons, ↓ML.l_mCutS, ↓ML.l_rIxT, ↓ML.l_rInS, ↓ML.l_iStrM, ↓ML.l_rNeS, ↓ML.l_bListT, ↓ML.l_rMulT, ↓ML.l_rmSplitO, ↓ML.l_rEqX, ↓ML.l_mRaiseF, ↓ML.l_mMkF, ↓ML.l_mIsX, ↓ML.l_mIsXV, ↓ML.l_mIsT, ↓ML.l_mXf, ML.exDX_ref, ML.excX_exc, ML.flds1, ML.flds2, ML.exn_SpotError, ML.exn_NoFraction, ML.exn_NoWall, ML.exn_TooMany, ML.exn_Crossing, ML.exn_Absent, ML.exn_NoText, ML.exn_NoRow, ML.sub_SpotError_SpotError, ML.sub_SpotError_NoFraction, ML.sub_SpotError_NoWall, ML.sub_SpotError_TooMany, ML.sub_SpotError_Crossing, ML.sub_SpotError_Absent, ML.sub_SpotError_NoText, ML.sub_SpotError_NoRow, ML.sub_NoFraction_SpotError, ML.sub_NoFraction_NoFraction, ML.sub_NoFraction_NoWall, ML.sub_NoFraction_TooMany, ML.sub_NoFraction_Crossing, ML.sub_NoFraction_Absent, ML.sub_NoFraction_NoText, ML.sub_NoFraction_NoRow, ML.sub_NoWall_SpotError, ML.sub_NoWall_NoFraction, ML.sub_NoWall_NoWall, ML.sub_NoWall_TooMany, ML.sub_NoWall_Crossing, ML.sub_NoWall_Absent, ML.sub_NoWall_NoText, ML.sub_NoWall_NoRow, ML.sub_TooMany_SpotError, ML.sub_TooMany_NoFraction, ML.sub_TooMany_NoWall, ML.sub_TooMany_TooMany, ML.sub_TooMany_Crossing, ML.sub_TooMany_Absent, ML.sub_TooMany_NoText, ML.sub_TooMany_NoRow, ML.sub_Crossing_SpotError, ML.sub_Crossing_NoFraction, ML.sub_Crossing_NoWall, ML.sub_Crossing_TooMany, ML.sub_Crossing_Crossing, ML.sub_Crossing_Absent, ML.sub_Crossing_NoText, ML.sub_Crossing_NoRow, ML.sub_Absent_SpotError, ML.sub_Absent_NoFraction, ML.sub_Absent_NoWall, ML.sub_Absent_TooMany, ML.sub_Absent_Crossing, ML.sub_Absent_Absent, ML.sub_Absent_NoText, ML.sub_Absent_NoRow, ML.sub_NoText_SpotError, ML.sub_NoText_NoFraction, ML.sub_NoText_NoWall, ML.sub_NoText_TooMany, ML.sub_NoText_Crossing, ML.sub_NoText_Absent, ML.sub_NoText_NoText, ML.sub_NoText_NoRow, ML.sub_NoRow_SpotError, ML.sub_NoRow_NoFraction, ML.sub_NoRow_NoWall, ML.sub_NoRow_TooMany, ML.sub_NoRow_Crossing, ML.sub_NoRow_Absent, ML.sub_NoRow_NoText, ML.sub_NoRow_NoRow, $ls,*] $[$l]?)
/-! A layer of trees over the hand layer: tuples and lists that nobody changes any more are plain data (D), the lists that may change stand in a store (Sto). -/
namespace ML
open PySem PySem.Spec L2
open PyProof.Rows hiding St
/-- data: a value with all tuples (and all lists that stay as they are) opened -/
inductive D where
  | non | bl (b : Bool) | int (i : Int) | str (x : Str) | tup (ds : List D) | lst (ds : List D) | scr (ds : List D) | ref (a : Addr)
/-- what may change -/
inductive MO where
  | lst (ds : List D)
  | dK (kvs : List (Key × D))
  | ins (C : Str) (fs : List (Str × D))
  | exc (C : Str) (fs : Option (List (Str × D)))
  | dT (kvs : List (List Key × D))
  | dS (kvs : List (((Int × Int) × (Int × Int)) × D))
  | tbl (at_ : Str × Option Str) (q : Str)
  | dF (o : Obj) (vs : List (Key × V)) (kvs : List (Key × D))
abbrev Sto := Addr → Option MO
def put (S : Sto) (a : Addr) (o : MO) : Sto := fun b => if b = a then some o else S b
theorem put_same {S : Sto} {a : Addr} {o : MO} : put S a o a = some o := if_pos rfl
theorem put_ne {S : Sto} {a b : Addr} {o : MO} (h : b ≠ a) : put S a o b = S b := if_neg h
theorem put_put {S : Sto} {a : Addr} {o u : MO} : put (put S a o) a u = put S a u := by
  funext b; unfold put; split <;> rfl
theorem sne {S : Sto} {a b : Addr} {o : MO} (h : S a = some o) (h' : S b = none) : a ≠ b := by
  intro e; subst e; rw [h] at h'; cases h'
theorem put_comm {S : Sto} {a b : Addr} {o u : MO} (h : a ≠ b) : put (put S a o) b u = put (put S b u) a o := by
  funext c; unfold put
  by_cases h1 : c = b
  · subst h1; rw [if_pos rfl, if_neg (Ne.symm h), if_pos rfl]
  · rw [if_neg h1, if_neg h1]
mutual
inductive RD (K : PySem.W.Frag) (H : Hp) (S : Sto) : V → D → Prop
  | non : RD K H S .non .non
  | bl (b : Bool) : RD K H S (.bl b) (.bl b)
  | int (i : Int) : RD K H S (.int i) (.int i)
  | str (x : Str) : RD K H S (.str x) (.str x)
  | ref (a : Addr) : RD K H S (.ref a) (.ref a)
  | tup {a : Addr} {vs : List V} {ds : List D} : Rd H a (.tup vs) → S a = none → RDs K H S vs ds → RD K H S (.ref a) (.tup ds)
  | lst {a : Addr} {vs : List V} {ds : List D} : H a = some (.lst vs) → S a = none → RDs K H S vs ds → RD K H S (.ref a) (.lst ds)
  | scr {a : Addr} {o : Obj} {vs : List V} {ds : List D} : H a = some (.frz o (.lst vs)) → S a = none → RDs K H S vs ds → RD K H S (.ref a) (.scr ds)
  | ktup {a : Addr} {o : Obj} {its : Array Value} {n : Nat} {vs : List V} {ds : List D} : K.lookup a = some o → o.cls = .type "tuple" → o.data = .seq its n → its.size ≤ sizeLine → Vals vs its.toList → RDs K H S vs ds → RD K H S (.ref a) (.tup ds)
  | klst {a : Addr} {o : Obj} {its : Array Value} {n : Nat} {vs : List V} {ds : List D} : K.lookup a = some o → o.cls = .type "list" → o.dict = none → o.data = .seq its n → its.size ≤ sizeLine → Vals vs its.toList → RDs K H S vs ds → RD K H S (.ref a) (.scr ds)
inductive RDs (K : PySem.W.Frag) (H : Hp) (S : Sto) : List V → List D → Prop
  | nil : RDs K H S [] []
  | cons {v : V} {d : D} {vs : List V} {ds : List D} : RD K H S v d → RDs K H S vs ds → RDs K H S (v :: vs) (d :: ds)
end
/-- all that does not change stays -/
def Ext (H : Hp) (S : Sto) (H' : Hp) (S' : Sto) : Prop := ∀ a o, H a = some o → S a = none → H' a = some o ∧ S' a = none
theorem Ext.refl {H : Hp} {S : Sto} : Ext H S H S := fun _ _ h n => ⟨h, n⟩
theorem Ext.trans {H H1 H2 : Hp} {S S1 S2 : Sto} (a : Ext H S H1 S1) (b : Ext H1 S1 H2 S2) : Ext H S H2 S2 := fun c o h n =>
  let ⟨h1, n1⟩ := a c o h n
  b c o h1 n1
section
variable {K : PySem.W.Frag} {H H' : Hp} {S S' : Sto}
theorem Ext.rd (e : Ext H S H' S') {a : Addr} {u : HO} (h : Rd H a u) (n : S a = none) : Rd H' a u ∧ S' a = none := by
  rcases h with h | ⟨o, h⟩
  · exact ⟨.inl (e _ _ h n).1, (e _ _ h n).2⟩
  · exact ⟨.inr ⟨o, (e _ _ h n).1⟩, (e _ _ h n).2⟩
mutual
theorem RD.ext (e : Ext H S H' S') : ∀ {v : V} {d : D}, RD K H S v d → RD K H' S' v d
  | _, _, .non => .non
  | _, _, .bl b => .bl b
  | _, _, .int i => .int i
  | _, _, .str x => .str x
  | _, _, .ref a => .ref a
  | _, _, .tup h n r => .tup (e.rd h n).1 (e.rd h n).2 (RDs.ext e r)
  | _, _, .lst h n r => .lst (e _ _ h n).1 (e _ _ h n).2 (RDs.ext e r)
  | _, _, .scr h n r => .scr (e _ _ h n).1 (e _ _ h n).2 (RDs.ext e r)
  | _, _, .ktup a b c d f r => .ktup a b c d f (RDs.ext e r)
  | _, _, .klst a b b' c d f r => .klst a b b' c d f (RDs.ext e r)
theorem RDs.ext (e : Ext H S H' S') : ∀ {vs : List V} {ds : List D}, RDs K H S vs ds → RDs K H' S' vs ds
  | _, _, .nil => .nil
  | _, _, .cons h r => .cons (RD.ext e h) (RDs.ext e r)
end
theorem RDs.length : ∀ {vs : List V} {ds : List D}, RDs K H S vs ds → vs.length = ds.length
  | _, _, .nil => rfl
  | _, _, .cons _ r => congrArg (· + 1) (RDs.length r)
theorem RDs.get : ∀ {vs : List V} {ds : List D} {i : Nat} {d : D}, RDs K H S vs ds → ds[i]? = some d → ∃ v, vs[i]? = some v ∧ RD K H S v d
  | _, _, _, _, .nil, e => by simp at e
  | _, _, 0, _, .cons r _, e => by simp at e; subst e; exact ⟨_, rfl, r⟩
  | _, _, i + 1, d, .cons _ r, e => by
    obtain ⟨v, h1, h2⟩ := RDs.get (i := i) (d := d) r (by simpa using e)
    exact ⟨v, by simpa using h1, h2⟩
theorem RDs.append : ∀ {vs ws : List V} {ds es : List D}, RDs K H S vs ds → RDs K H S ws es → RDs K H S (vs ++ ws) (ds ++ es)
  | _, _, _, _, .nil, s => s
  | _, _, _, _, .cons h r, s => .cons h (RDs.append r s)
theorem RDs.take : ∀ {vs : List V} {ds : List D} (n : Nat), RDs K H S vs ds → RDs K H S (vs.take n) (ds.take n)
  | _, _, 0, _ => by simp only [List.take_zero]; exact .nil
  | _, _, _ + 1, .nil => by simp only [List.take_nil]; exact .nil
  | _, _, n + 1, .cons h r => by simp only [List.take_succ_cons]; exact .cons h (RDs.take n r)
theorem RDs.drop : ∀ {vs : List V} {ds : List D} (n : Nat), RDs K H S vs ds → RDs K H S (vs.drop n) (ds.drop n)
  | _, _, 0, r => by simpa only [List.drop_zero] using r
  | _, _, _ + 1, .nil => by simp only [List.drop_nil]; exact .nil
  | _, _, n + 1, .cons _ r => by simp only [List.drop_succ_cons]; exact RDs.drop n r
theorem RDs.set {v : V} {d : D} (h : RD K H S v d) : ∀ {vs : List V} {ds : List D} (i : Nat), RDs K H S vs ds → RDs K H S (vs.set i v) (ds.set i d)
  | _, _, _, .nil => .nil
  | _, _, 0, .cons _ r => .cons h r
  | _, _, i + 1, .cons q r => .cons q (RDs.set h i r)
theorem RDs.reverse : ∀ {vs : List V} {ds : List D}, RDs K H S vs ds → RDs K H S vs.reverse ds.reverse
  | _, _, .nil => .nil
  | _, _, .cons h r => by simp only [List.reverse_cons]; exact RDs.append (RDs.reverse r) (.cons h .nil)
theorem RDs.dropLast : ∀ {vs : List V} {ds : List D}, RDs K H S vs ds → RDs K H S vs.dropLast ds.dropLast
  | _, _, .nil => .nil
  | _, _, .cons _ .nil => .nil
  | _, _, .cons h (.cons h2 r) => by simp only [List.dropLast_cons₂]; exact .cons h (RDs.dropLast (.cons h2 r))
theorem RDs.of_ints : ∀ {ns : List Int}, RDs K H S (ns.map V.int) (ns.map .int)
  | [] => .nil
  | n :: _ => .cons (.int n) RDs.of_ints
theorem RDs.bls : ∀ {vs : List V} {ns : List Bool}, RDs K H S vs (ns.map .bl) → vs = ns.map V.bl
  | _, [], .nil => rfl
  | _, _ :: _, .cons h r => by cases h; rw [RDs.bls r]; rfl
end
/-- pairs of a dict, attributes of an instance -/
inductive RKs {κ : Type} (K : PySem.W.Frag) (H : Hp) (S : Sto) : List (κ × V) → List (κ × D) → Prop
  | nil : RKs K H S [] []
  | cons {k : κ} {v : V} {d : D} {vs : List (κ × V)} {ds : List (κ × D)} : RD K H S v d → RKs K H S vs ds → RKs K H S ((k, v) :: vs) ((k, d) :: ds)
theorem RKs.ext {κ : Type} {K : PySem.W.Frag} {H H' : Hp} {S S' : Sto} (e : Ext H S H' S') : ∀ {vs : List (κ × V)} {ds : List (κ × D)}, RKs K H S vs ds → RKs K H' S' vs ds
  | _, _, .nil => .nil
  | _, _, .cons h r => .cons (h.ext e) (RKs.ext e r)
theorem RKs.length {κ : Type} {K : PySem.W.Frag} {H : Hp} {S : Sto} : ∀ {vs : List (κ × V)} {ds : List (κ × D)}, RKs K H S vs ds → vs.length = ds.length
  | _, _, .nil => rfl
  | _, _, .cons _ r => congrArg (· + 1) (RKs.length r)
/-! ### exceptions -/
/-- an own exception: its class, its fields (none: it has no dict) -/
structure MX where
  C : Str
  fs : Option (List (Str × D))
def RX (K : PySem.W.Frag) (H : Hp) (S : Sto) (x : MX) (cls : Value) (d : Option Addr) : Prop :=
  cls = .ref (He.ga K x.C) ∧ match x.fs with
    | none => d = none
    | some fs => ∃ dd vs, d = some dd ∧ H dd = some (.xd vs) ∧ S dd = none ∧ RKs K H S vs fs
theorem RX.ext {K : PySem.W.Frag} {H H' : Hp} {S S' : Sto} {x : MX} {cls : Value} {d : Option Addr} (e : Ext H S H' S') (r : RX K H S x cls d) : RX K H' S' x cls d := by
  obtain ⟨C, fs⟩ := x
  cases fs with
  | none => exact r
  | some fs =>
    obtain ⟨h1, dd, vs, h2, h3, h4, h5⟩ := r
    exact ⟨h1, dd, vs, h2, (e _ _ h3 h4).1, (e _ _ h3 h4).2, h5.ext e⟩
/-- an exception object, kept: its class, its dict -/
def ExS (cls : Value) (d : Option Addr) (a : Addr) : HO := .ext fun h => ∃ (oe : Obj) (vs : Array Value), h.get? a = some oe ∧ Zc cls d oe ∧ oe.data = .fields vs
/-! ### dicts whose keys are spots: pairs of pairs of whole numbers -/
abbrev K4 := (Int × Int) × (Int × Int)
def nkey (k : K4) : NestedKey := .tup [.tup [.num k.1.1, .num k.1.2], .tup [.num k.2.1, .num k.2.2]]
def hash4 (k : K4) : Int := reduceHash (Builtin.Tuple.tupleHashOf [reduceHash (Builtin.Tuple.tupleHashOf [hashInt k.1.1, hashInt k.1.2]), reduceHash (Builtin.Tuple.tupleHashOf [hashInt k.2.1, hashInt k.2.2])])
def entry4 (x : K4 × Addr × Value) : DictEntry := ⟨hash4 x.1, .ref x.2.1, x.2.2⟩
def DicS (xs : List (K4 × Addr × Value)) (a : Addr) : HO := .ext fun h => ∃ o es ep, h.get? a = some o ∧ o.ExactDict ∧ o.data = .dict es ep ∧ es.toList = xs.map entry4 ∧ (xs.map (·.1)).Nodup
def k4D (k : K4) : D := .tup [.tup [.int k.1.1, .int k.1.2], .tup [.int k.2.1, .int k.2.2]]
/-- what stands in such a dict -/
def R4 (K : PySem.W.Frag) (H : Hp) (S : Sto) : List (K4 × D) → List (K4 × Addr × Value) → Prop :=
  Paired fun p q => p.1 = q.1 ∧ RD K H S (.ref q.2.1) (k4D p.1) ∧ ∃ v, RelV v q.2.2 ∧ RD K H S v p.2
theorem R4.ext {K : PySem.W.Frag} {H H' : Hp} {S S' : Sto} (e : Ext H S H' S') {kvs : List (K4 × D)} {xs : List (K4 × Addr × Value)} (r : R4 K H S kvs xs) : R4 K H' S' kvs xs :=
  Paired.mapP r fun _ _ ⟨h1, h2, v, h3, h4⟩ => ⟨h1, h2.ext e, v, h3, h4.ext e⟩
/-! ### tables of code objects: of the def that stands at a place of the module -/
def codeA (K : PySem.W.Frag) (p : Str × Option Str) : Addr := match K.lookup (He.fAd K p) with
  | some ⟨_, _, .func fd, _⟩ => (match fd.code with
    | .ref c => c
    | _ => 0)
  | _ => 0
def tabA (K : PySem.W.Frag) (p : Str × Option Str) : Addr := match K.lookup (codeA K p) with
  | some ⟨_, _, .fields vs, _⟩ => (match vs.getD 11 .none with
    | .ref P => P
    | _ => 0)
  | _ => 0
/-- the table at P: each code object that it tells bears the name q, and is so -/
def TabG (H : Hp) (P : Addr) (q : Str) (G : Addr → Prop) : Prop := ∃ ps : Array Value, H P = some (.tbl ps) ∧ TriplesOk ps.toList ∧ ∀ (pos : Pos) (cv : Value), codeAmong pos ps.toList = some cv → ∃ c, cv = .ref c ∧ H c = some (LamX.CodeO c q) ∧ G c
def RO (K : PySem.W.Frag) (H : Hp) (S : Sto) (a : Addr) : MO → Prop
  | .tbl p q => a = tabA K p ∧ TabG H a q fun c => S c = none
  | .lst ds => ∃ vs, H a = some (.lst vs) ∧ RDs K H S vs ds
  | .dK kvs => ∃ vs, H a = some (.dK vs) ∧ RKs K H S vs kvs
  | .dF o vs kvs => H a = some (.frz o (.dK vs)) ∧ RKs K H S vs kvs
  | .ins C fs => ∃ dx vs, H a = some (.ins (He.ga K C) dx vs) ∧ RKs K H S vs fs
  | .dT kvs => ∃ vs, H a = some (.dT vs) ∧ RKs K H S vs kvs
  | .dS kvs => ∃ xs, H a = some (DicS xs a) ∧ (a == sysModules) = false ∧ R4 K H S kvs xs
  | .exc C fs => ∃ d, H a = some (ExS (.ref (He.ga K C)) d a) ∧ RX K H S ⟨C, fs⟩ (.ref (He.ga K C)) d
/-- the store is held -/
def RSto (K : PySem.W.Frag) (H : Hp) (S : Sto) : Prop := ∀ a o, S a = some o → RO K H S a o
section
variable {K : PySem.W.Frag} {H H' : Hp} {S S' : Sto}
theorem RSto.there (s : RSto K H S) {a : Addr} {o : MO} (h : S a = some o) : ∃ u, H a = some u := by
  have q := s a o h
  cases o with
  | lst ds => obtain ⟨vs, e, _⟩ := q; exact ⟨_, e⟩
  | dK kvs => obtain ⟨vs, e, _⟩ := q; exact ⟨_, e⟩
  | ins C fs => obtain ⟨dx, vs, e, _⟩ := q; exact ⟨_, e⟩
  | exc C fs => obtain ⟨d, e, _⟩ := q; exact ⟨_, e⟩
  | dT kvs => obtain ⟨vs, e, _⟩ := q; exact ⟨_, e⟩
  | dS kvs => obtain ⟨xs, e, _⟩ := q; exact ⟨_, e⟩
  | tbl p q' => obtain ⟨_, ps, e, _⟩ := q; exact ⟨_, e⟩
  | dF o vs kvs => exact ⟨_, q.1⟩
theorem RSto.fresh (s : RSto K H S) {a : Addr} (h : H a = none) : S a = none := by
  cases q : S a with
  | none => rfl
  | some o =>
    obtain ⟨u, e⟩ := s.there q
    rw [h] at e; cases e
theorem RO.ext (e : Ext H S H' S') {a : Addr} {o : MO} (h : RO K H S a o) (k : H' a = H a) : RO K H' S' a o := by
  cases o with
  | lst ds => obtain ⟨vs, e1, r⟩ := h; exact ⟨vs, k.trans e1, r.ext e⟩
  | dK kvs => obtain ⟨vs, e1, r⟩ := h; exact ⟨vs, k.trans e1, r.ext e⟩
  | ins C fs => obtain ⟨dx, vs, e1, r⟩ := h; exact ⟨dx, vs, k.trans e1, r.ext e⟩
  | exc C fs => obtain ⟨d, e1, r⟩ := h; exact ⟨d, k.trans e1, r.ext e⟩
  | dT kvs => obtain ⟨vs, e1, r⟩ := h; exact ⟨vs, k.trans e1, r.ext e⟩
  | dS kvs => obtain ⟨xs, e1, e2, r⟩ := h; exact ⟨xs, k.trans e1, e2, r.ext e⟩
  | tbl p q' =>
    obtain ⟨z, ps, e1, e2, e3⟩ := h
    refine ⟨z, ps, k.trans e1, e2, fun pos cv hc => ?_⟩
    obtain ⟨c, c1, c2, c3⟩ := e3 pos cv hc
    exact ⟨c, c1, e _ _ c2 c3⟩
  | dF o vs kvs => exact ⟨k.trans h.1, h.2.ext e⟩
/-- a new object, not tracked in the store -/
theorem Ext.new (s : RSto K H S) {p : Addr} {u : HO} (h : H p = none) : Ext H S (upd H p u) S := fun a o e n => ⟨by rw [upd_ne (ne_of_none e h)]; exact e, n⟩
theorem RSto.new (s : RSto K H S) {p : Addr} {u : HO} (h : H p = none) : RSto K (upd H p u) S := fun a o e => by
  have ne : a ≠ p := fun z => by rw [z, s.fresh h] at e; cases e
  exact (s a o e).ext (Ext.new s h) (upd_ne ne)
/-- a new object, tracked -/
theorem Ext.newS (s : RSto K H S) {p : Addr} {u : HO} {o : MO} (h : H p = none) : Ext H S (upd H p u) (put S p o) := fun a o e n => by
  have ne := ne_of_none e h
  exact ⟨by rw [upd_ne ne]; exact e, by rw [put_ne ne]; exact n⟩
theorem RSto.newS (s : RSto K H S) {p : Addr} {u : HO} {o : MO} (h : H p = none) (r : RO K (upd H p u) (put S p o) p o) : RSto K (upd H p u) (put S p o) := fun a o' e => by
  by_cases ne : a = p
  · subst ne; rw [put_same] at e; cases e; exact r
  · rw [put_ne ne] at e
    exact (s a o' e).ext (Ext.newS s h) (upd_ne ne)
/-- an object of the store is changed -/
theorem Ext.chg {p : Addr} {u : HO} {o o' : MO} (h : S p = some o') : Ext H S (upd H p u) (put S p o) := fun a o e n => by
  have ne : a ≠ p := fun z => by rw [z, h] at n; cases n
  exact ⟨by rw [upd_ne ne]; exact e, by rw [put_ne ne]; exact n⟩
theorem RSto.chg (s : RSto K H S) {p : Addr} {u : HO} {o o' : MO} (h : S p = some o') (r : RO K (upd H p u) (put S p o) p o) : RSto K (upd H p u) (put S p o) := fun a o' e => by
  by_cases ne : a = p
  · subst ne; rw [put_same] at e; cases e; exact r
  · rw [put_ne ne] at e
    exact (s a o' e).ext (Ext.chg h) (upd_ne ne)
/-- the items of a list that may be read: of the store, or one that stays -/
def lstOf (S : Sto) : D → Option (List D)
  | .lst ds => some ds
  | .scr ds => some ds
  | .ref p => match S p with
    | some (.lst ds) => some ds
    | _ => none
  | _ => none
/-- the same of a list that the program made -/
def ownOf (S : Sto) : D → Option (List D)
  | .lst ds => some ds
  | .ref p => match S p with
    | some (.lst ds) => some ds
    | _ => none
  | _ => none
theorem lst_store {S : Sto} {p : Addr} {ds : List D} (h : (match S p with
    | some (.lst ds) => some ds
    | _ => none) = some ds) : S p = some (.lst ds) := by
  cases e : S p with
  | none => rw [e] at h; cases h
  | some o =>
    rw [e] at h
    cases o with
    | lst xs => cases h; rfl
    | _ => cases h
theorem own_sq (s : RSto K H S) {v : V} {d : D} {ds : List D} (r : RD K H S v d) (h : ownOf S d = some ds) : ∃ a vs, v = .ref a ∧ H a = some (.lst vs) ∧ RDs K H S vs ds := by
  cases d with
  | lst xs => cases h; cases r with | lst h n r => exact ⟨_, _, rfl, h, r⟩
  | ref p =>
    cases r
    obtain ⟨vs, e1, r⟩ := s p _ (lst_store h)
    exact ⟨p, vs, rfl, e1, r⟩
  | _ => cases h
theorem lst_sq (s : RSto K H S) {v : V} {d : D} {ds : List D} (r : RD K H S v d) (h : lstOf S d = some ds) : ∃ a vs, v = .ref a ∧ SqL K H a vs ∧ RDs K H S vs ds := by
  cases d with
  | lst xs => cases h; cases r with | lst h n r => exact ⟨_, _, rfl, .inl (.inl h), r⟩
  | scr xs =>
    cases h
    cases r with
    | scr h n r => exact ⟨_, _, rfl, .inl (.inr ⟨_, h⟩), r⟩
    | klst h1 h2 h3 h4 h5 h6 r => exact ⟨_, _, rfl, .inr ⟨_, _, _, h1, h2, h3, h4, h5, h6⟩, r⟩
  | ref p =>
    cases r
    obtain ⟨vs, e1, r⟩ := s p _ (lst_store h)
    exact ⟨p, vs, rfl, .inl (.inl e1), r⟩
  | _ => cases h
theorem RD.tupSq {v : V} {ds : List D} (r : RD K H S v (.tup ds)) : ∃ a vs, v = .ref a ∧ SqT K H a vs ∧ RDs K H S vs ds := by
  cases r with
  | tup h n r => exact ⟨_, _, rfl, .inl h, r⟩
  | ktup h1 h2 h3 h4 h5 r => exact ⟨_, _, rfl, .inr ⟨_, _, _, h1, h2, h3, h4, h5⟩, r⟩
end
/-! ### slots -/
abbrev MSt := List (Option D)
inductive RSt (K : PySem.W.Frag) (H : Hp) (S : Sto) : St → MSt → Prop
  | nil : RSt K H S [] []
  | vac {o : Option V} {σ : St} {m : MSt} : RSt K H S σ m → RSt K H S (o :: σ) (Option.none :: m)
  | val {v : V} {d : D} {σ : St} {m : MSt} : RD K H S v d → RSt K H S σ m → RSt K H S (Option.some v :: σ) (Option.some d :: m)
section
variable {K : PySem.W.Frag} {H H' : Hp} {S S' : Sto}
theorem RSt.ext (e : Ext H S H' S') : ∀ {σ : St} {m : MSt}, RSt K H S σ m → RSt K H' S' σ m
  | _, _, .nil => .nil
  | _, _, .vac r => .vac (RSt.ext e r)
  | _, _, .val h r => .val (h.ext e) (RSt.ext e r)
theorem RSt.get : ∀ {σ : St} {m : MSt} {i : Nat} {d : D}, RSt K H S σ m → m[i]? = some (some d) → ∃ v, σ[i]? = some (some v) ∧ RD K H S v d
  | _, _, _, _, .nil, e => by simp at e
  | _, _, 0, _, .vac _, e => by simp at e
  | _, _, 0, _, .val h _, e => by simp at e; subst e; exact ⟨_, rfl, h⟩
  | _, _, i + 1, d, .vac r, e => by
    obtain ⟨v, h1, h2⟩ := RSt.get (i := i) (d := d) r (by simpa using e)
    exact ⟨v, by simpa using h1, h2⟩
  | _, _, i + 1, d, .val _ r, e => by
    obtain ⟨v, h1, h2⟩ := RSt.get (i := i) (d := d) r (by simpa using e)
    exact ⟨v, by simpa using h1, h2⟩
theorem RSt.set {v : V} {d : D} (h : RD K H S v d) : ∀ {σ : St} {m : MSt} (i : Nat), RSt K H S σ m → RSt K H S (σ.set i (some v)) (m.set i (some d))
  | _, _, _, .nil => .nil
  | _, _, 0, .vac r => .val h r
  | _, _, 0, .val _ r => .val h r
  | _, _, i + 1, .vac r => .vac (RSt.set h i r)
  | _, _, i + 1, .val q r => .val q (RSt.set h i r)
theorem RSt.unset : ∀ {σ : St} {m : MSt} (i : Nat) (o : Option V), RSt K H S σ m → RSt K H S (σ.set i o) (m.set i none)
  | _, _, _, _, .nil => .nil
  | _, _, 0, _, .vac r => .vac r
  | _, _, 0, _, .val _ r => .vac r
  | _, _, i + 1, o, .vac r => .vac (RSt.unset i o r)
  | _, _, i + 1, o, .val q r => .val q (RSt.unset i o r)
theorem RSt.nones : ∀ n : Nat, RSt K H S (List.replicate n Option.none) (List.replicate n Option.none)
  | 0 => .nil
  | n + 1 => .vac (RSt.nones n)
theorem RSt.start {vs : List V} {ds : List D} (n : Nat) (r : RDs K H S vs ds) : RSt K H S (vs.map Option.some ++ List.replicate n Option.none) (ds.map Option.some ++ List.replicate n Option.none) := by
  induction vs generalizing ds with
  | nil => cases r; exact RSt.nones n
  | cons v vs ih =>
    cases r with
    | cons h r => exact .val h (ih r)
end
/-! ### readings over the store, and what they are below -/
abbrev MQ := D → Sto → Prop
abbrev MXQ := MX → Sto → Prop
abbrev ME := MSt → Sto → MQ → MXQ → Prop
abbrev MT := MSt → Sto → (Bool → Sto → Prop) → MXQ → Prop
abbrev MA := MSt → Sto → (List D → Sto → Prop) → MXQ → Prop
structure MEnds where
  nx : MSt → Sto → Prop
  rt : MQ
  bk : MSt → Sto → Prop := fun _ _ => False
  ct : MSt → Sto → Prop := fun _ _ => False
  ex : MX → MSt → Sto → Prop := fun _ _ _ => False
abbrev MS := MEnds → MSt → Sto → Prop
/-- a def's promise -/
abbrev MSp := List D → Sto → MQ → MXQ → Prop
section
variable (K : PySem.W.Frag) (H : Hp) (S : Sto)
def Ref (Qm : MQ) (Q : V → Hp → Prop) : Prop := ∀ d S' v H', Qm d S' → Ext H S H' S' → RSto K H' S' → RD K H' S' v d → Q v H'
def RefA (Qm : List D → Sto → Prop) (Q : List V → Hp → Prop) : Prop := ∀ ds S' vs H', Qm ds S' → Ext H S H' S' → RSto K H' S' → RDs K H' S' vs ds → Q vs H'
def RefT (Qm : Bool → Sto → Prop) (Q : Bool → Hp → Prop) : Prop := ∀ b S' H', Qm b S' → Ext H S H' S' → RSto K H' S' → Q b H'
def RefN (Qm : MSt → Sto → Prop) (Q : St → Hp → Prop) : Prop := ∀ m S' σ H', Qm m S' → Ext H S H' S' → RSto K H' S' → RSt K H' S' σ m → Q σ H'
def RefX (Em : MXQ) (E : XK) : Prop := ∀ x S' cls d H', Em x S' → Ext H S H' S' → RSto K H' S' → RX K H' S' x cls d → E cls d H'
def RefW (Em : MX → MSt → Sto → Prop) (W : WX) : Prop := ∀ x m S' cls d σ H', Em x m S' → Ext H S H' S' → RSto K H' S' → RSt K H' S' σ m → RX K H' S' x cls d → W cls d σ H'
structure RefE (Dm : MEnds) (D : Ends) (W : WX) : Prop where
  nx : RefN K H S Dm.nx D.nx
  rt : Ref K H S Dm.rt D.rt
  bk : RefN K H S Dm.bk D.bk
  ct : RefN K H S Dm.ct D.ct
  ex : RefW K H S Dm.ex W
end
section
variable {K : PySem.W.Frag} {H H' : Hp} {S S' : Sto}
theorem Ref.ext {Qm : MQ} {Q : V → Hp → Prop} (r : Ref K H S Qm Q) (e : Ext H S H' S') : Ref K H' S' Qm Q := fun d S1 v H1 q e1 s h => r d S1 v H1 q (e.trans e1) s h
theorem RefA.ext {Qm : List D → Sto → Prop} {Q : List V → Hp → Prop} (r : RefA K H S Qm Q) (e : Ext H S H' S') : RefA K H' S' Qm Q := fun d S1 v H1 q e1 s h => r d S1 v H1 q (e.trans e1) s h
theorem RefT.ext {Qm : Bool → Sto → Prop} {Q : Bool → Hp → Prop} (r : RefT K H S Qm Q) (e : Ext H S H' S') : RefT K H' S' Qm Q := fun d S1 H1 q e1 s => r d S1 H1 q (e.trans e1) s
theorem RefN.ext {Qm : MSt → Sto → Prop} {Q : St → Hp → Prop} (r : RefN K H S Qm Q) (e : Ext H S H' S') : RefN K H' S' Qm Q := fun d S1 v H1 q e1 s h => r d S1 v H1 q (e.trans e1) s h
theorem RefX.ext {Em : MXQ} {E : XK} (r : RefX K H S Em E) (e : Ext H S H' S') : RefX K H' S' Em E := fun x S1 c d H1 q e1 s h => r x S1 c d H1 q (e.trans e1) s h
theorem RefW.ext {Em : MX → MSt → Sto → Prop} {W : WX} (r : RefW K H S Em W) (e : Ext H S H' S') : RefW K H' S' Em W := fun x m S1 c d σ H1 q e1 s h1 h => r x m S1 c d σ H1 q (e.trans e1) s h1 h
theorem RefE.ext {Dm : MEnds} {D : Ends} {W : WX} (r : RefE K H S Dm D W) (e : Ext H S H' S') : RefE K H' S' Dm D W := ⟨r.nx.ext e, r.rt.ext e, r.bk.ext e, r.ct.ext e, r.ex.ext e⟩
end
section
variable (K : PySem.W.Frag) (W : WX)
def upE (m : ME) : TE := fun σ H Q => ∃ mσ S Qm Em, RSt K H S σ mσ ∧ RSto K H S ∧ m mσ S Qm Em ∧ Ref K H S Qm Q ∧ RefX K H S Em (fun c d H' => W c d σ H')
def upT (m : MT) : TT := fun σ H Q => ∃ mσ S Qm Em, RSt K H S σ mσ ∧ RSto K H S ∧ m mσ S Qm Em ∧ RefT K H S Qm Q ∧ RefX K H S Em (fun c d H' => W c d σ H')
def upA (m : MA) : TA := fun σ H Q => ∃ mσ S Qm Em, RSt K H S σ mσ ∧ RSto K H S ∧ m mσ S Qm Em ∧ RefA K H S Qm Q ∧ RefX K H S Em (fun c d H' => W c d σ H')
def upS (m : MS) : TS := fun D σ H => ∃ mσ S Dm, RSt K H S σ mσ ∧ RSto K H S ∧ m Dm mσ S ∧ RefE K H S Dm D W
end
def upSp (K : PySem.W.Frag) (sp : MSp) : Sp := fun vs H Q E => ∃ ds S Qm Em, RDs K H S vs ds ∧ RSto K H S ∧ sp ds S Qm Em ∧ Ref K H S Qm Q ∧ RefX K H S Em E
end ML
namespace L2
open PySem PySem.Spec
section
variable {X : Cx}
theorem PE.to {e : Expr} {t t' : TE} (h : PE X e t) (i : ∀ σ H Q, t' σ H Q → t σ H Q) : PE X e t' := ⟨fun pins s σ H Q I q => h.run pins s σ H Q I (i σ H Q q)⟩
theorem PT.to {e : Expr} {t t' : TT} (h : PT X e t) (i : ∀ σ H Q, t' σ H Q → t σ H Q) : PT X e t' := ⟨fun pins s σ H Q I q => h.run pins s σ H Q I (i σ H Q q)⟩
theorem PW.to {e : Expr} {t t' : TT} (h : PW X e t) (i : ∀ σ H Q, t' σ H Q → t σ H Q) : PW X e t' := ⟨fun w pins s σ H Q I q => h.run w pins s σ H Q I (i σ H Q q)⟩
theorem PA.to {e : List Expr} {t t' : TA} (h : PA X e t) (i : ∀ σ H Q, t' σ H Q → t σ H Q) : PA X e t' := ⟨fun pos pins s σ H Q I q => h.run pos pins s σ H Q I (i σ H Q q)⟩
theorem PS.to {st : Stmt} {t t' : TS} (h : PS X st t) (i : ∀ D σ H, t' D σ H → t D σ H) : PS X st t' := ⟨fun pins s σ H D I q => h.run pins s σ H D I (i D σ H q)⟩
theorem PSs.to {st : List Stmt} {t t' : TS} (h : PSs X st t) (i : ∀ D σ H, t' D σ H → t D σ H) : PSs X st t' := ⟨fun pins s σ H D I q => h.run pins s σ H D I (i D σ H q)⟩
end
end L2
set_option maxRecDepth 100000
namespace ML
open PySem PySem.Spec L2
open PyProof.Rows hiding St
section
variable {X : Cx} {W : WX} {a b c e : Expr} {ma mb mc m : ME} {pos : Pos}
/-! ### names, constants -/
def mVar (i : Nat) : ME := fun σ S Q _ => match σ[i]? with
  | some (some d) => Q d S
  | _ => False
theorem mVar_at {i : Nat} {σ : MSt} {S : Sto} {Q : MQ} {E : MXQ} (h : mVar i σ S Q E) : ∃ d, σ[i]? = some (some d) ∧ Q d S := by
  unfold mVar at h
  split at h
  · next d e => exact ⟨d, e, h⟩
  · exact h.elim
theorem ev (i : Nat) {x : Str} {pos : Pos} (hN : X.N[i]? = some x := by rfl) (hv : Vis X.env.scope x := by first | exact Or.inl rfl | exact Or.inr (Or.inl rfl) | exact Or.inr (Or.inr rfl)) (hd : (x == ("__debug__" : Str)) = false := by decide)
    (hcd : (x == ("__classdict__" : Str)) = false := by decide) : PE X (.Name x pos) (upE X.K W (mVar i)) := (pv i hN hv hd hcd).to fun σ H Q ⟨m, S, Qm, Em, h1, h2, h3, h4, _⟩ => by
  obtain ⟨d, e, q⟩ := mVar_at h3
  obtain ⟨v, e1, r⟩ := h1.get e
  exact ⟨v, e1, h4 d S v H q Ext.refl h2 r⟩
def mC (d : D) : ME := fun _ S Q _ => Q d S
theorem mC_to {v : V} {d : D} (r : ∀ K H S, RD K H S v d) : ∀ σ H Q, upE X.K W (mC d) σ H Q → tC v σ H Q := fun σ H Q ⟨m, S, Qm, Em, h1, h2, h3, h4, _⟩ => h4 d S v H h3 Ext.refl h2 (r _ _ _)
theorem eint {i j pos} : PE X (.Constant (.int i) j pos) (upE X.K W (mC (.int i))) := pe_int.to (mC_to fun _ _ _ => .int i)
theorem ebl {i j pos} : PE X (.Constant (.bool i) j pos) (upE X.K W (mC (.bl i))) := pe_bl.to (mC_to fun _ _ _ => .bl i)
theorem enon {j pos} : PE X (.Constant .none j pos) (upE X.K W (mC .non)) := pe_non.to (mC_to fun _ _ _ => .non)
theorem estr {i j pos} : PE X (.Constant (.str i) j pos) (upE X.K W (mC (.str i))) := pe_str.to (mC_to fun _ _ _ => .str i)
/-- a module's own int or text -/
theorem eglob {x : Str} {v : V} {d : D} {u : Value} {pos : Pos} (r : ∀ K H S, RD K H S v d) (rv : RelV v u) (hm : X.mg x = some u) (hg : Gl X x := by rfl) (hd : (x == ("__debug__" : Str)) = false := by decide) : PE X (.Name x pos) (upE X.K W (mC d)) :=
  (pe_glob hg hm rv hd).to (mC_to r)
/-! ### two values -/
abbrev R2m := D → D → Sto → MQ → Prop
def OpL (K : PySem.W.Frag) (r : R2) (rm : R2m) : Prop := ∀ (H : Hp) (S : Sto) (x y : V) (d e : D) (Qm : MQ) (Q : VK), RSto K H S → RD K H S x d → RD K H S y e → rm d e S Qm → Ref K H S Qm Q → r x y H Q
def mOp (rm : R2m) (ma mb : ME) : ME := fun σ S Q E => ma σ S (fun d S1 => mb σ S1 (fun e S2 => rm d e S2 Q) E) E
theorem op_to {r : R2} {rm : R2m} (hl : OpL X.K r rm) (σ : L2.St) (H : Hp) (Q : VK) (h : upE X.K W (mOp rm ma mb) σ H Q) : tOp r (upE X.K W ma) (upE X.K W mb) σ H Q := by
  obtain ⟨m, S, Qm, Em, h1, h2, h3, h4, h5⟩ := h
  refine ⟨m, S, _, Em, h1, h2, h3, fun d S1 x H1 q1 e1 s1 r1 => ⟨m, S1, _, Em, h1.ext e1, s1, q1, fun e S2 y H2 q2 e2 s2 r2 => ?_, h5.ext e1⟩, h5⟩
  exact hl H2 S2 x y d e Qm Q s2 (r1.ext e2) r2 q2 (h4.ext (e1.trans e2))
theorem eop {op : Operator} {r : R2} {rm : R2m} (ho : OpR X (binaryOp op) r) (hl : OpL X.K r rm) (ha : PE X a (upE X.K W ma)) (hb : PE X b (upE X.K W mb)) : PE X (.BinOp a op b pos) (upE X.K W (mOp rm ma mb)) := (pe_op ho ha hb).to (op_to hl)
/-- two ints to a value -/
def rInt (C : Int → Int → Prop) (g : Int → Int → D) : R2m := fun d e S Q => match d, e with
  | .int i, .int j => C i j ∧ Q (g i j) S
  | _, _ => False
def rInt0 (g : Int → Int → D) : R2m := fun d e S Q => match d, e with
  | .int i, .int j => Q (g i j) S
  | _, _ => False
theorem rInt_at {C : Int → Int → Prop} {g : Int → Int → D} {d e : D} {S : Sto} {Q : MQ} (h : rInt C g d e S Q) : ∃ i j, d = .int i ∧ e = .int j ∧ C i j ∧ Q (g i j) S := by
  unfold rInt at h
  split at h
  · exact ⟨_, _, rfl, rfl, h⟩
  · exact h.elim
theorem rInt0_at {g : Int → Int → D} {d e : D} {S : Sto} {Q : MQ} (h : rInt0 g d e S Q) : ∃ i j, d = .int i ∧ e = .int j ∧ Q (g i j) S := by
  unfold rInt0 at h
  split at h
  · exact ⟨_, _, rfl, rfl, h⟩
  · exact h.elim
theorem opl_int {K : PySem.W.Frag} {C : Int → Int → Prop} {g : Int → Int → V} {gm : Int → Int → D} (r : ∀ i j H S, RD K H S (g i j) (gm i j)) : OpL K (rI C g) (rInt C gm) := fun H S x y d e Qm Q s rx ry h k => by
  obtain ⟨i, j, rfl, rfl, hc, q⟩ := rInt_at h
  cases rx; cases ry
  exact ⟨i, j, rfl, rfl, hc, k _ S _ H q Ext.refl s (r ..)⟩
theorem opl_int0 {K : PySem.W.Frag} {g : Int → Int → V} {gm : Int → Int → D} (r : ∀ i j H S, RD K H S (g i j) (gm i j)) : OpL K (rI0 g) (rInt0 gm) := fun H S x y d e Qm Q s rx ry h k => by
  obtain ⟨i, j, rfl, rfl, q⟩ := rInt0_at h
  cases rx; cases ry
  exact ⟨i, j, rfl, rfl, k _ S _ H q Ext.refl s (r ..)⟩
abbrev rSub : R2m := rInt0 fun i j => .int (i - j)
abbrev rMul : R2m := rInt IntMulOk fun i j => .int (i * j)
def DivOk (i j : Int) : Prop := j ≠ 0 ∧ Builtin.divisionGoesByPylong i j = false
abbrev rDiv : R2m := rInt DivOk fun i j => .int (i.fdiv j)
abbrev rMod : R2m := rInt (fun _ j => j ≠ 0) fun i j => .int (i.fmod j)
abbrev rPow : R2m := rInt CPow fun i j => .int (i ^ j.toNat)
theorem esub (ha : PE X a (upE X.K W ma)) (hb : PE X b (upE X.K W mb)) : PE X (.BinOp a .Sub b pos) (upE X.K W (mOp rSub ma mb)) := eop op_sub (opl_int0 fun _ _ _ _ => .int _) ha hb
theorem emul (ha : PE X a (upE X.K W ma)) (hb : PE X b (upE X.K W mb)) : PE X (.BinOp a .Mult b pos) (upE X.K W (mOp rMul ma mb)) :=
  eop (opI (C := IntMulOk) fun _ _ _ _ _ _ _ hc q => mul_int q hc) (opl_int fun _ _ _ _ => .int _) ha hb
theorem ediv (ha : PE X a (upE X.K W ma)) (hb : PE X b (upE X.K W mb)) : PE X (.BinOp a .FloorDiv b pos) (upE X.K W (mOp rDiv ma mb)) :=
  eop (opI (C := DivOk) fun _ _ _ _ _ _ _ hc q => floordiv_int hc.1 q (.inl hc.2)) (opl_int fun _ _ _ _ => .int _) ha hb
theorem emod (ha : PE X a (upE X.K W ma)) (hb : PE X b (upE X.K W mb)) : PE X (.BinOp a .Mod b pos) (upE X.K W (mOp rMod ma mb)) := eop op_modN (opl_int fun _ _ _ _ => .int _) ha hb
theorem epow (ha : PE X a (upE X.K W ma)) (hb : PE X b (upE X.K W mb)) : PE X (.BinOp a .Pow b pos) (upE X.K W (mOp rPow ma mb)) := eop op_pow (opl_int fun _ _ _ _ => .int _) ha hb
/-- +: ints, texts, lists that the program made (a new one that stays), tuples -/
def rAdd : R2m := fun d e S Q => match d, e with
  | .int i, .int j => Q (.int (i + j)) S
  | .str x, .str y => x.length + y.length ≤ sizeLine ∧ Q (.str (x ++ y)) S
  | .tup xs, .tup ys => (xs ≠ [] ∧ xs.length + ys.length ≤ sizeLine) ∧ Q (.tup (xs ++ ys)) S
  | d, e => match ownOf S d, ownOf S e with
    | some xs, some ys => xs.length + ys.length ≤ sizeLine ∧ Q (.lst (xs ++ ys)) S
    | _, _ => False
theorem op_addAll : OpR X (binaryOp .Add) (fun x y H Q => rI0 (fun i j => .int (i + j)) x y H Q ∨ ((∃ i j, x = .str i ∧ y = .str j ∧ i.length + j.length ≤ sizeLine ∧ Q (.str (i ++ j)) H) ∨ (rCatT X.K x y H Q ∨ rCat x y H Q))) := op_add.or (op_add_str.or (op_catT.or op_cat))
theorem rAdd_at {d e : D} {S : Sto} {Q : MQ} (h : rAdd d e S Q) : (∃ i j, d = .int i ∧ e = .int j ∧ Q (.int (i + j)) S) ∨ (∃ x y, d = .str x ∧ e = .str y ∧ x.length + y.length ≤ sizeLine ∧ Q (.str (x ++ y)) S) ∨
    (∃ xs ys, d = .tup xs ∧ e = .tup ys ∧ (xs ≠ [] ∧ xs.length + ys.length ≤ sizeLine) ∧ Q (.tup (xs ++ ys)) S) ∨ ∃ xs ys, ownOf S d = some xs ∧ ownOf S e = some ys ∧ xs.length + ys.length ≤ sizeLine ∧ Q (.lst (xs ++ ys)) S := by
  unfold rAdd at h
  split at h
  · exact .inl ⟨_, _, rfl, rfl, h⟩
  · exact .inr (.inl ⟨_, _, rfl, rfl, h⟩)
  · exact .inr (.inr (.inl ⟨_, _, rfl, rfl, h⟩))
  · split at h
    · next e1 e2 => exact .inr (.inr (.inr ⟨_, _, e1, e2, h⟩))
    · exact h.elim
theorem eadd (ha : PE X a (upE X.K W ma)) (hb : PE X b (upE X.K W mb)) : PE X (.BinOp a .Add b pos) (upE X.K W (mOp rAdd ma mb)) := by
  refine eop op_addAll (fun H S x y d e Qm Q s rx ry h k => ?_) ha hb
  rcases rAdd_at h with ⟨i, j, rfl, rfl, q⟩ | ⟨i, j, rfl, rfl, hz, q⟩ | ⟨xs, ys, rfl, rfl, ⟨hne, hz⟩, q⟩ | ⟨xs, ys, e1, e2, hz, q⟩
  · cases rx; cases ry
    exact .inl ⟨i, j, rfl, rfl, k _ S _ H q Ext.refl s (.int _)⟩
  · cases rx; cases ry
    exact .inr (.inl ⟨i, j, rfl, rfl, hz, k _ S _ H q Ext.refl s (.str _)⟩)
  · obtain ⟨p, vs, rfl, h1, r1⟩ := rx.tupSq
    obtain ⟨p2, ws, rfl, h2, r2⟩ := ry.tupSq
    have l1 := r1.length
    have l2 := r2.length
    refine .inr (.inr (.inl ⟨p, p2, vs, ws, rfl, rfl, h1, h2, fun z => hne (List.length_eq_zero_iff.mp (by rw [← l1, z]; rfl)), by omega, ?_⟩))
    refine ⟨fun z => ?_, fun _ q' hq => k _ S _ _ q (Ext.new s hq) (s.new hq) (.tup (.inl upd_same) (s.fresh hq) ((r1.append r2).ext (Ext.new s hq)))⟩
    subst z
    cases r2
    rw [List.append_nil] at q
    exact k _ S _ H q Ext.refl s rx
  · obtain ⟨p, vs, rfl, h1, r1⟩ := own_sq s rx e1
    obtain ⟨p2, ws, rfl, h2, r2⟩ := own_sq s ry e2
    have l1 := r1.length
    have l2 := r2.length
    refine .inr (.inr (.inr ⟨p, p2, vs, ws, rfl, rfl, h1, h2, by omega, fun q' hq => ?_⟩))
    exact k _ S _ _ q (Ext.new s hq) (s.new hq) (.lst upd_same (s.fresh hq) ((r1.append r2).ext (Ext.new s hq)))
/-! ### one value -/
def UnL (K : PySem.W.Frag) (r : V → Hp → VK → Prop) (rm : D → Sto → MQ → Prop) : Prop := ∀ (H : Hp) (S : Sto) (x : V) (d : D) (Qm : MQ) (Q : VK), RSto K H S → RD K H S x d → rm d S Qm → Ref K H S Qm Q → r x H Q
def mUn (rm : D → Sto → MQ → Prop) (ma : ME) : ME := fun σ S Q E => ma σ S (fun d S1 => rm d S1 Q) E
theorem eun {op : UnaryOp} {r : V → Hp → VK → Prop} {rm : D → Sto → MQ → Prop} (ho : UnR X (unaryOp op) r) (hl : UnL X.K r rm) (ha : PE X a (upE X.K W ma)) : PE X (.UnaryOp op a pos) (upE X.K W (mUn rm ma)) :=
  (pe_un ho ha).to fun σ H Q ⟨m, S, Qm, Em, h1, h2, h3, h4, h5⟩ => ⟨m, S, _, Em, h1, h2, h3, fun d S1 x H1 q1 e1 s1 r1 => hl H1 S1 x d Qm Q s1 r1 q1 (h4.ext e1), h5⟩
def rNeg : D → Sto → MQ → Prop := fun d S Q => match d with
  | .int i => Q (.int (-i)) S
  | _ => False
theorem eneg (ha : PE X a (upE X.K W ma)) : PE X (.UnaryOp .USub a pos) (upE X.K W (mUn rNeg ma)) := eun un_neg (fun H S x d Qm Q s r h k => by
  unfold rNeg at h
  split at h
  · cases r; exact ⟨_, rfl, k _ S _ H h Ext.refl s (.int _)⟩
  · exact h.elim) ha
/-! ### comparisons -/
abbrev rLt : R2m := rInt0 fun i j => .bl (decide (i < j))
abbrev rLe : R2m := rInt0 fun i j => .bl (decide (i ≤ j))
abbrev rGt : R2m := rInt0 fun i j => .bl (decide (j < i))
abbrev rGe : R2m := rInt0 fun i j => .bl (decide (j ≤ i))
theorem ecmp {op : CmpOp} {r : R2} {rm : R2m} (ho : OpR X (compareOp op) r) (hl : OpL X.K r rm) (ha : PE X a (upE X.K W ma)) (hb : PE X b (upE X.K W mb)) (hm : behindInMarks op b = false := by first | exact nomark _ | with_unfolding_all rfl) :
    PE X (.Compare a [op] [b] pos) (upE X.K W (mOp rm ma mb)) := (pe_cmpR ho ha hb hm).to (op_to hl)
/-- a value that is a truth, as a test -/
def mTst (m : ME) : MT := fun σ S Q E => m σ S (fun d S1 => match d with
  | .bl k => Q k S1
  | _ => False) E
theorem tst_to {t : TE} (i : ∀ σ H Q, upE X.K W m σ H Q → t σ H Q) (σ : L2.St) (H : Hp) (Q : Bool → Hp → Prop) (h : upT X.K W (mTst m) σ H Q) : tTest t σ H Q := by
  obtain ⟨mσ, S, Qm, Em, h1, h2, h3, h4, h5⟩ := h
  refine i σ H _ ⟨mσ, S, _, Em, h1, h2, h3, fun d S1 x H1 q1 e1 s1 r1 => ?_, h5⟩
  cases d with
  | bl k => cases r1; exact ⟨k, rfl, h4 k S1 H1 q1 e1 s1⟩
  | _ => exact q1.elim
theorem tcmp {op : CmpOp} {r : R2} {rm : R2m} (ho : OpR X (compareOp op) r) (hl : OpL X.K r rm) (ha : PE X a (upE X.K W ma)) (hb : PE X b (upE X.K W mb)) (hm : behindInMarks op b = false := by first | exact nomark _ | with_unfolding_all rfl) :
    PT X (.Compare a [op] [b] pos) (upT X.K W (mTst (mOp rm ma mb))) := (pt_cmpR ho ha hb hm).to (tst_to (op_to hl))
/-- a op b op2 c -/
def mChain (r r' : R2m) (ma mb mc : ME) : ME := fun σ S Q E => ma σ S (fun x S1 => mb σ S1 (fun y S2 => r x y S2 fun z S3 => match z with
  | .bl k => if k = true then mc σ S3 (fun w S4 => r' y w S4 Q) E else Q (.bl false) S3
  | _ => False) E) E
theorem chain_to {r r' : R2} {rm rm' : R2m} (hl : OpL X.K r rm) (hl' : OpL X.K r' rm') (σ : L2.St) (H : Hp) (Q : VK) (h : upE X.K W (mChain rm rm' ma mb mc) σ H Q) : tChain r r' (upE X.K W ma) (upE X.K W mb) (upE X.K W mc) σ H Q := by
  obtain ⟨m, S, Qm, Em, h1, h2, h3, h4, h5⟩ := h
  refine ⟨m, S, _, Em, h1, h2, h3, fun d S1 x H1 q1 e1 s1 r1 => ⟨m, S1, _, Em, h1.ext e1, s1, q1, fun e S2 y H2 q2 e2 s2 r2 => ?_, h5.ext e1⟩, h5⟩
  refine hl H2 S2 x y d e _ _ s2 (r1.ext e2) r2 q2 fun z S3 v H3 q3 e3 s3 r3 => ?_
  cases z with
  | bl k =>
    cases r3
    refine ⟨k, rfl, ?_⟩
    have e123 := e1.trans (e2.trans e3)
    cases k with
    | true =>
      have q3' : mc m S3 (fun w S4 => rm' e w S4 Qm) Em := by simpa using q3
      rw [if_pos rfl]
      exact ⟨m, S3, _, Em, h1.ext e123, s3, q3', fun w S4 v4 H4 q4 e4 s4 r4 => hl' H4 S4 y v4 e w Qm Q s4 (r2.ext (e3.trans e4)) r4 q4 (h4.ext (e123.trans e4)), h5.ext e123⟩
    | false =>
      have q3' : Qm (.bl false) S3 := by simpa using q3
      rw [if_neg Bool.false_ne_true]
      exact h4 _ S3 _ H3 q3' e123 s3 (.bl false)
  | _ => exact q3.elim
theorem echain {op op' : CmpOp} {r r' : R2} {rm rm' : R2m} (ho : OpR X (compareOp op) r) (ho' : OpR X (compareOp op') r') (hl : OpL X.K r rm) (hl' : OpL X.K r' rm') (ha : PE X a (upE X.K W ma)) (hb : PE X b (upE X.K W mb)) (hc : PE X c (upE X.K W mc))
    (hm : lastMarks [op, op'] [b, c] = false := by with_unfolding_all rfl) : PE X (.Compare a [op, op'] [b, c] pos) (upE X.K W (mChain rm rm' ma mb mc)) := (pe_chain ho ho' ha hb hc hm).to (chain_to hl hl')
theorem tchain {op op' : CmpOp} {r r' : R2} {rm rm' : R2m} (ho : OpR X (compareOp op) r) (ho' : OpR X (compareOp op') r') (hl : OpL X.K r rm) (hl' : OpL X.K r' rm') (ha : PE X a (upE X.K W ma)) (hb : PE X b (upE X.K W mb)) (hc : PE X c (upE X.K W mc))
    (hm : lastMarks [op, op'] [b, c] = false := by with_unfolding_all rfl) : PT X (.Compare a [op, op'] [b, c] pos) (upT X.K W (mTst (mChain rm rm' ma mb mc))) := (pt_chain ho ho' ha hb hc hm).to (tst_to (chain_to hl hl'))
/-- is None -/
def isN : D → Bool
  | .non => true
  | _ => false
theorem isN_eq {K : PySem.W.Frag} {H : Hp} {S : Sto} {v : V} {d : D} (r : RD K H S v d) : decide (v = .non) = isN d := by
  cases r <;> simp [isN]
def rIsN : R2m := fun d e S Q => match e with
  | .non => Q (.bl (isN d)) S
  | _ => False
def rNotN : R2m := fun d e S Q => match e with
  | .non => Q (.bl (!isN d)) S
  | _ => False
theorem ol_isN : OpL X.K (fun x y H Q => y = .non ∧ Q (.bl (decide (x = .non))) H) rIsN := fun H S x y d e Qm Q s rx ry h k => by
  unfold rIsN at h
  split at h
  · cases ry; refine ⟨rfl, k _ S _ H h Ext.refl s ?_⟩; rw [isN_eq rx]; exact .bl _
  · exact h.elim
theorem ol_notN : OpL X.K (fun x y H Q => y = .non ∧ Q (.bl (!decide (x = .non))) H) rNotN := fun H S x y d e Qm Q s rx ry h k => by
  unfold rNotN at h
  split at h
  · cases ry; refine ⟨rfl, k _ S _ H h Ext.refl s ?_⟩; rw [isN_eq rx]; exact .bl _
  · exact h.elim
/-! ### and, or, not, if -/
variable {tA tB' tA' : MT} {rest : List Expr}
def mAnd (t u : MT) : MT := fun σ S Q E => t σ S (fun c S1 => if c = true then u σ S1 Q E else Q false S1) E
def mOr (t u : MT) : MT := fun σ S Q E => t σ S (fun c S1 => if c = true then Q true S1 else u σ S1 Q E) E
def mNot (t : MT) : MT := fun σ S Q E => t σ S (fun c S1 => Q (!c) S1) E
theorem wand1 (ha : PT X a (upT X.K W tA)) : PW X (.BoolOp .And [a] pos) (upT X.K W tA) := pw_and1 ha
theorem wor1 (ha : PT X a (upT X.K W tA)) : PW X (.BoolOp .Or [a] pos) (upT X.K W tA) := pw_or1 ha
theorem wand (ha : PT X a (upT X.K W tA)) (hb : PW X (.BoolOp .And (b :: rest) pos) (upT X.K W tB')) : PW X (.BoolOp .And (a :: b :: rest) pos) (upT X.K W (mAnd tA tB')) :=
  (pw_and ha hb).to fun σ H Q ⟨m, S, Qm, Em, h1, h2, h3, h4, h5⟩ => ⟨m, S, _, Em, h1, h2, h3, fun k S1 H1 q1 e1 s1 => by
    cases k with
    | true => rw [if_pos rfl]; exact ⟨m, S1, Qm, Em, h1.ext e1, s1, by simpa using q1, h4.ext e1, h5.ext e1⟩
    | false => rw [if_neg Bool.false_ne_true]; exact h4 false S1 H1 (by simpa using q1) e1 s1, h5⟩
theorem wor (ha : PT X a (upT X.K W tA)) (hb : PW X (.BoolOp .Or (b :: rest) pos) (upT X.K W tB')) : PW X (.BoolOp .Or (a :: b :: rest) pos) (upT X.K W (mOr tA tB')) :=
  (pw_or ha hb).to fun σ H Q ⟨m, S, Qm, Em, h1, h2, h3, h4, h5⟩ => ⟨m, S, _, Em, h1, h2, h3, fun k S1 H1 q1 e1 s1 => by
    cases k with
    | false => rw [if_neg Bool.false_ne_true]; exact ⟨m, S1, Qm, Em, h1.ext e1, s1, by simpa using q1, h4.ext e1, h5.ext e1⟩
    | true => rw [if_pos rfl]; exact h4 true S1 H1 (by simpa using q1) e1 s1, h5⟩
theorem tnot (ha : PT X a (upT X.K W tA)) : PT X (.UnaryOp .Not a pos) (upT X.K W (mNot tA)) :=
  (pt_not ha).to fun σ H Q ⟨m, S, Qm, Em, h1, h2, h3, h4, h5⟩ => ⟨m, S, _, Em, h1, h2, h3, fun k S1 H1 q1 e1 s1 => h4 (!k) S1 H1 q1 e1 s1, h5⟩
/-- as values -/
def mAndV (ma mb : ME) : ME := fun σ S Q E => ma σ S (fun d S1 => match d with
  | .bl k => if k = true then mb σ S1 Q E else Q (.bl false) S1
  | _ => False) E
def mOrV (ma mb : ME) : ME := fun σ S Q E => ma σ S (fun d S1 => match d with
  | .bl k => if k = true then Q (.bl true) S1 else mb σ S1 Q E
  | _ => False) E
def mNotV (ma : ME) : ME := fun σ S Q E => ma σ S (fun d S1 => match d with
  | .bl k => Q (.bl (!k)) S1
  | _ => False) E
theorem eone {op} (h : PE X a (upE X.K W ma)) : PE X (.BoolOp op [a] pos) (upE X.K W ma) := pe_one h
theorem eand (ha : PE X a (upE X.K W ma)) (hb : PE X (.BoolOp .And (b :: rest) pos) (upE X.K W mb)) : PE X (.BoolOp .And (a :: b :: rest) pos) (upE X.K W (mAndV ma mb)) :=
  (pe_and ha hb).to fun σ H Q ⟨m, S, Qm, Em, h1, h2, h3, h4, h5⟩ => ⟨m, S, _, Em, h1, h2, h3, fun d S1 v H1 q1 e1 s1 r1 => by
    cases d with
    | bl k =>
      cases r1
      refine ⟨k, rfl, ?_⟩
      cases k with
      | true => rw [if_pos rfl]; exact ⟨m, S1, Qm, Em, h1.ext e1, s1, by simpa using q1, h4.ext e1, h5.ext e1⟩
      | false => rw [if_neg Bool.false_ne_true]; exact h4 _ S1 _ H1 (show Qm (.bl false) S1 by simpa using q1) e1 s1 (.bl false)
    | _ => exact q1.elim, h5⟩
theorem eor (ha : PE X a (upE X.K W ma)) (hb : PE X (.BoolOp .Or (b :: rest) pos) (upE X.K W mb)) : PE X (.BoolOp .Or (a :: b :: rest) pos) (upE X.K W (mOrV ma mb)) :=
  (pe_or ha hb).to fun σ H Q ⟨m, S, Qm, Em, h1, h2, h3, h4, h5⟩ => ⟨m, S, _, Em, h1, h2, h3, fun d S1 v H1 q1 e1 s1 r1 => by
    cases d with
    | bl k =>
      cases r1
      refine ⟨k, rfl, ?_⟩
      cases k with
      | false => rw [if_neg Bool.false_ne_true]; exact ⟨m, S1, Qm, Em, h1.ext e1, s1, by simpa using q1, h4.ext e1, h5.ext e1⟩
      | true => rw [if_pos rfl]; exact h4 _ S1 _ H1 (show Qm (.bl true) S1 by simpa using q1) e1 s1 (.bl true)
    | _ => exact q1.elim, h5⟩
def mIf (t : MT) (ma mb : ME) : ME := fun σ S Q E => t σ S (fun c S1 => if c = true then ma σ S1 Q E else mb σ S1 Q E) E
/-- any value's truth -/
def truD (S : Sto) : D → Option Bool
  | .non => some false
  | .bl b => some b
  | .int i => some (i != 0)
  | .str y => if y.length ≤ sizeLine then some ((y.length : Int) != 0) else none
  | .tup ds => some (!ds.isEmpty)
  | .lst ds => some (!ds.isEmpty)
  | .scr ds => some (!ds.isEmpty)
  | .ref p => match S p with
    | some (.lst ds) => some (!ds.isEmpty)
    | some (.dK kvs) => some (!kvs.isEmpty)
    | _ => none
def mTru (m : ME) : MT := fun σ S Q E => m σ S (fun d S1 => match truD S1 d with
  | some k => Q k S1
  | none => False) E
theorem emp_rds {K : PySem.W.Frag} {H : Hp} {S : Sto} {vs : List V} {ds : List D} (r : RDs K H S vs ds) : (!vs.isEmpty) = !ds.isEmpty := by cases r <;> rfl
theorem emp_rks {κ : Type} {K : PySem.W.Frag} {H : Hp} {S : Sto} {vs : List (κ × V)} {ds : List (κ × D)} (r : RKs K H S vs ds) : (!vs.isEmpty) = !ds.isEmpty := by cases r <;> rfl
theorem truD_ok {K : PySem.W.Frag} {H : Hp} {S : Sto} {v : V} {d : D} {k : Bool} (s : RSto K H S) (r : RD K H S v d) (h : truD S d = some k) : TruV K v H k := by
  cases r with
  | non => cases h; rfl
  | bl b => cases h; rfl
  | int i => cases h; rfl
  | str x =>
    simp only [truD] at h
    split at h
    · next z => cases h; exact ⟨z, rfl⟩
    · cases h
  | tup h1 n r => cases h; exact .inr (.inl ⟨_, .inl h1, (emp_rds r).symm⟩)
  | lst h1 n r => cases h; exact .inl ⟨_, .inl (.inl h1), (emp_rds r).symm⟩
  | scr h1 n r => cases h; exact .inl ⟨_, .inl (.inr ⟨_, h1⟩), (emp_rds r).symm⟩
  | ktup h1 h2 h3 h4 h5 r => cases h; exact .inr (.inl ⟨_, .inr ⟨_, _, _, h1, h2, h3, h4, h5⟩, (emp_rds r).symm⟩)
  | klst h1 h2 h3 h4 h5 h6 r => cases h; exact .inl ⟨_, .inr ⟨_, _, _, h1, h2, h3, h4, h5, h6⟩, (emp_rds r).symm⟩
  | ref p =>
    simp only [truD] at h
    cases e : S p with
    | none => rw [e] at h; cases h
    | some o =>
      rw [e] at h
      have q := s p o e
      cases o with
      | lst ds => obtain ⟨vs, e1, r⟩ := q; cases h; exact .inl ⟨_, .inl (.inl e1), (emp_rds r).symm⟩
      | dK kvs => obtain ⟨vs, e1, r⟩ := q; cases h; exact .inr (.inr ⟨_, e1, (emp_rks r).symm⟩)
      | ins C fs => cases h
      | exc C fs => cases h
      | dT kvs => cases h
      | dS kvs => cases h
      | tbl p q' => cases h
      | dF o vs kvs => cases h
theorem ttru (ha : PE X a (upE X.K W ma)) (he : ∀ whole, isTrue a X.env whole = (do let v ← whole; standAt a.pos; holding [v] (truthy v)) := by intro _; rfl) : PT X a (upT X.K W (mTru ma)) :=
  (pt_truth ha he).to fun σ H Q ⟨m, S, Qm, Em, h1, h2, h3, h4, h5⟩ => ⟨m, S, _, Em, h1, h2, h3, fun d S1 v H1 q1 e1 s1 r1 => by
    dsimp only at q1
    cases e : truD S1 d with
    | none => rw [e] at q1; exact q1.elim
    | some k => rw [e] at q1; exact ⟨k, truD_ok s1 r1 e, h4 k S1 H1 q1 e1 s1⟩, h5⟩
/-! ### lists of arguments, displays, calls -/
variable {es : List Expr} {mas : MA}
def mNil : MA := fun _ S Q _ => Q [] S
def mCons (m : ME) (r : MA) : MA := fun σ S Q E => m σ S (fun d S1 => r σ S1 (fun ds S2 => Q (d :: ds) S2) E) E
theorem anil : PA X [] (upA X.K W mNil) := pa_nil.to fun σ H Q ⟨m, S, Qm, Em, h1, h2, h3, h4, h5⟩ => h4 [] S [] H h3 Ext.refl h2 .nil
theorem acons (ha : PE X e (upE X.K W m)) (hr : PA X es (upA X.K W mas)) (hs : starEach (e :: es) X.env = (false, eval e X.env) :: starEach es X.env := by rfl) : PA X (e :: es) (upA X.K W (mCons m mas)) :=
  (pa_cons ha hr hs).to fun σ H Q ⟨m, S, Qm, Em, h1, h2, h3, h4, h5⟩ => ⟨m, S, _, Em, h1, h2, h3, fun d S1 v H1 q1 e1 s1 r1 => ⟨m, S1, _, Em, h1.ext e1, s1, q1, fun ds S2 vs H2 q2 e2 s2 r2 =>
    h4 (d :: ds) S2 (v :: vs) H2 q2 (e1.trans e2) s2 (.cons (r1.ext e2) r2), h5.ext e1⟩, h5⟩
/-- (a, b, ..) -/
def mTup (t : MA) : ME := fun σ S Q E => t σ S (fun ds S1 => ds.length ≤ sizeLine ∧ Q (.tup ds) S1) E
theorem etup {x1} (h : PA X es (upA X.K W mas)) : PE X (.Tuple es x1 pos) (upE X.K W (mTup mas)) :=
  (pe_tup h).to fun σ H Q ⟨m, S, Qm, Em, h1, h2, h3, h4, h5⟩ => ⟨m, S, _, Em, h1, h2, h3, fun ds S1 vs H1 q1 e1 s1 r1 => ⟨by rw [r1.length]; exact q1.1, fun p hp =>
    h4 _ S1 _ _ q1.2 (e1.trans (Ext.new s1 hp)) (s1.new hp) (.tup (.inl upd_same) (s1.fresh hp) (r1.ext (Ext.new s1 hp)))⟩, h5⟩
/-- [a, b, ..], a list that stays -/
def mLstF (t : MA) : ME := fun σ S Q E => t σ S (fun ds S1 => ds.length ≤ sizeLine ∧ Q (.lst ds) S1) E
theorem elstF (h : PA X es (upA X.K W mas)) : PE X (.List es pos) (upE X.K W (mLstF mas)) :=
  (pe_lst h).to fun σ H Q ⟨m, S, Qm, Em, h1, h2, h3, h4, h5⟩ => ⟨m, S, _, Em, h1, h2, h3, fun ds S1 vs H1 q1 e1 s1 r1 => ⟨by rw [r1.length]; exact q1.1, fun p hp =>
    h4 _ S1 _ _ q1.2 (e1.trans (Ext.new s1 hp)) (s1.new hp) (.lst upd_same (s1.fresh hp) (r1.ext (Ext.new s1 hp)))⟩, h5⟩
/-- [a, b, ..], a list of the store -/
def mLst (t : MA) : ME := fun σ S Q E => t σ S (fun ds S1 => ds.length ≤ sizeLine ∧ ∀ p, S1 p = none → Q (.ref p) (put S1 p (.lst ds))) E
theorem elst (h : PA X es (upA X.K W mas)) : PE X (.List es pos) (upE X.K W (mLst mas)) :=
  (pe_lst h).to fun σ H Q ⟨m, S, Qm, Em, h1, h2, h3, h4, h5⟩ => ⟨m, S, _, Em, h1, h2, h3, fun ds S1 vs H1 q1 e1 s1 r1 => ⟨by rw [r1.length]; exact q1.1, fun p hp =>
    h4 _ (put S1 p (.lst ds)) _ _ (q1.2 p (s1.fresh hp)) (e1.trans (Ext.newS s1 hp)) (s1.newS hp ⟨vs, upd_same, r1.ext (Ext.newS s1 hp)⟩) (.ref p)⟩, h5⟩
/-- what is known of a def of the module -/
structure Has (P : Program) (w : World) (K : PySem.W.Frag) (mg : Str → Option Value) (base : Heap) (x : Str) (ps : List Str) (k : Nat) (sp : MSp) : Prop where
  ex : ∃ f fd, mg x = some (.ref f) ∧ PySem.W.keepIn K (.ref f) = true ∧ Binds K fd ps [] ∧ FnOk P w K mg base (L2.CX P w) k f fd ps (upSp K sp)
theorem Has.mono {P : Program} {w : World} {K : PySem.W.Frag} {mg : Str → Option Value} {base : Heap} {x : Str} {ps : List Str} {j k : Nat} {sp : MSp} (h : Has P w K mg base x ps j sp) (l : j ≤ k) : Has P w K mg base x ps k sp :=
  let ⟨f, fd, a, b, c, d⟩ := h.ex
  ⟨f, fd, a, b, c, d.mono l⟩
/-- a promise that asks more -/
theorem Has.imp {P : Program} {w : World} {K : PySem.W.Frag} {mg : Str → Option Value} {base : Heap} {x : Str} {ps : List Str} {k : Nat} {sp sp' : MSp} (h : Has P w K mg base x ps k sp) (i : ∀ ds S Q E, sp' ds S Q E → sp ds S Q E) : Has P w K mg base x ps k sp' :=
  let ⟨f, fd, a, b, c, d⟩ := h.ex
  ⟨f, fd, a, b, c, d.imp fun vs H Q E ⟨ds, S, Qm, Em, h1, h2, h3, h4⟩ => ⟨ds, S, Qm, Em, h1, h2, i _ _ _ _ h3, h4⟩⟩
def mCall (sp : MSp) (t : MA) : ME := fun σ S Q E => t σ S (fun ds S1 => sp ds S1 Q E) E
theorem ecall {k : Nat} {x : Str} {ps : List Str} {sp : MSp} {p : Pos} (F : Has X.prog X.w X.K X.mg X.base x ps k sp) (hr : Room k X.A) (tk : Takes X W) (ha : PA X (e :: es) (upA X.K W mas)) (hg : Gl X x := by rfl)
    (hdb : (x == ("__debug__" : Str)) = false := by decide) (he : starEach (e :: es) X.env = (false, eval e X.env) :: starEach es X.env := by rfl) (hpl : (backTo pos (starEach es X.env)).any (·.1) = false := by rfl) :
    PE X (.Call (.Name x p) (e :: es) [] pos) (upE X.K W (mCall sp mas)) := by
  obtain ⟨f, fd, hm, hk, hb, G⟩ := F.ex
  refine (pe_callS (E := WE W) G hr hg hm hk hb (fun σ => passAt tk σ) ha hdb he hpl).to fun σ H Q ⟨m, S, Qm, Em, h1, h2, h3, h4, h5⟩ => ?_
  exact ⟨m, S, _, Em, h1, h2, h3, fun ds S1 vs H1 q1 e1 s1 r1 => ⟨ds, S1, Qm, Em, r1, s1, q1, h4.ext e1, h5.ext e1⟩, h5⟩
/-! ### calls of built-ins -/
def CaL (K : PySem.W.Frag) (r : List V → Hp → VK → Prop) (rm : List D → Sto → MQ → Prop) : Prop := ∀ (H : Hp) (S : Sto) (xs : List V) (ds : List D) (Qm : MQ) (Q : VK), RSto K H S → RDs K H S xs ds → rm ds S Qm → Ref K H S Qm Q → r xs H Q
def mBlt (rm : List D → Sto → MQ → Prop) (t : MA) : ME := fun σ S Q E => t σ S (fun ds S1 => rm ds S1 Q) E
theorem eblt {id : String} {r : List V → Hp → VK → Prop} {rm : List D → Sto → MQ → Prop} {x : Str} {p : Pos} (hc : CallR X (.builtin id) r) (hl : CaL X.K r rm) (hm : X.mg x = none) (ha : PA X (e :: es) (upA X.K W mas)) (hv : bootBuiltins x = some (.builtin id) := by decide +kernel) (hg : Gl X x := by rfl)
    (hn : x ≠ "__name__" := by decide) (hdb : (x == ("__debug__" : Str)) = false := by decide)
    (he : starEach (e :: es) X.env = (false, eval e X.env) :: starEach es X.env := by rfl) (hpl : (backTo pos (starEach es X.env)).any (·.1) = false := by rfl) : PE X (.Call (.Name x p) (e :: es) [] pos) (upE X.K W (mBlt rm mas)) :=
  (pe_callB hc hg hm hv ha hn hdb he hpl).to fun σ H Q ⟨m, S, Qm, Em, h1, h2, h3, h4, h5⟩ => ⟨m, S, _, Em, h1, h2, h3, fun ds S1 xs H1 q1 e1 s1 r1 => hl H1 S1 xs ds Qm Q s1 r1 q1 (h4.ext e1), h5⟩
theorem etyp {T : String} {r : List V → Hp → VK → Prop} {rm : List D → Sto → MQ → Prop} {x : Str} {p : Pos} (hc : CallR X (.type T) r) (hl : CaL X.K r rm) (hm : X.mg x = none) (ha : PA X (e :: es) (upA X.K W mas)) (hv : bootBuiltins x = some (.type T) := by decide +kernel) (hg : Gl X x := by rfl)
    (hn : x ≠ "__name__" := by decide) (hdb : (x == ("__debug__" : Str)) = false := by decide)
    (he : starEach (e :: es) X.env = (false, eval e X.env) :: starEach es X.env := by rfl) (hpl : (backTo pos (starEach es X.env)).any (·.1) = false := by rfl) : PE X (.Call (.Name x p) (e :: es) [] pos) (upE X.K W (mBlt rm mas)) :=
  (pe_callTy hc hg hm hv ha hn hdb he hpl).to fun σ H Q ⟨m, S, Qm, Em, h1, h2, h3, h4, h5⟩ => ⟨m, S, _, Em, h1, h2, h3, fun ds S1 xs H1 q1 e1 s1 r1 => hl H1 S1 xs ds Qm Q s1 r1 q1 (h4.ext e1), h5⟩
theorem rds1 {K : PySem.W.Frag} {H : Hp} {S : Sto} {xs : List V} {d : D} (r : RDs K H S xs [d]) : ∃ v, xs = [v] ∧ RD K H S v d := by
  cases r with | cons h r => cases r; exact ⟨_, rfl, h⟩
theorem rds2 {K : PySem.W.Frag} {H : Hp} {S : Sto} {xs : List V} {d e : D} (r : RDs K H S xs [d, e]) : ∃ v w, xs = [v, w] ∧ RD K H S v d ∧ RD K H S w e := by
  cases r with | cons h r => obtain ⟨w, rfl, h2⟩ := rds1 r; exact ⟨_, _, rfl, h, h2⟩
/-- len -/
def lenD (S : Sto) : D → Option Nat
  | .tup ds => some ds.length
  | .str x => if x.length ≤ sizeLine then some x.length else none
  | d => (lstOf S d).map List.length
def bLen : List D → Sto → MQ → Prop := fun ds S Q => match ds with
  | [d] => match lenD S d with
    | some n => Q (.int n) S
    | none => False
  | _ => False
theorem lenD_ok {K : PySem.W.Frag} {H : Hp} {S : Sto} {v : V} {d : D} {n : Nat} (s : RSto K H S) (r : RD K H S v d) (h : lenD S d = some n) : LenV K v H n := by
  unfold lenD at h
  split at h
  · obtain ⟨a, vs, rfl, h1, r1⟩ := r.tupSq
    cases h
    exact .inr ⟨vs, h1, r1.length.symm⟩
  · next x =>
    cases r
    split at h
    · next z => cases h; exact ⟨z, rfl⟩
    · cases h
  · cases e : lstOf S d with
    | none => rw [e] at h; cases h
    | some ds =>
      rw [e] at h; cases h
      obtain ⟨a, vs, rfl, h1, r1⟩ := lst_sq s r e
      exact .inl ⟨vs, h1, r1.length.symm⟩
theorem cl_len : CaL X.K (fun xs H Q => ∃ x n, xs = [x] ∧ LenV X.K x H n ∧ Q (.int n) H) bLen := fun H S xs ds Qm Q s r h k => by
  unfold bLen at h
  split at h
  · next d =>
    obtain ⟨v, rfl, r1⟩ := rds1 r
    cases e : lenD S d with
    | none => rw [e] at h; exact h.elim
    | some n => rw [e] at h; exact ⟨v, n, rfl, lenD_ok s r1 e, k _ S _ H h Ext.refl s (.int _)⟩
  · exact h.elim
def bAbs : List D → Sto → MQ → Prop := fun ds S Q => match ds with
  | [.int i] => Q (.int (if i < 0 then -i else i)) S
  | _ => False
theorem cl_abs : CaL X.K (fun xs H Q => ∃ i, xs = [.int i] ∧ Q (.int (if i < 0 then -i else i)) H) bAbs := fun H S xs ds Qm Q s r h k => by
  unfold bAbs at h
  split at h
  · obtain ⟨v, rfl, r1⟩ := rds1 r
    cases r1
    exact ⟨_, rfl, k _ S _ H h Ext.refl s (.int _)⟩
  · exact h.elim
def bMax2 : List D → Sto → MQ → Prop := fun ds S Q => match ds with
  | [.int i, .int j] => Q (.int (if j > i then j else i)) S
  | _ => False
def bMin2 : List D → Sto → MQ → Prop := fun ds S Q => match ds with
  | [.int i, .int j] => Q (.int (if j < i then j else i)) S
  | _ => False
def bInt : List D → Sto → MQ → Prop := fun ds S Q => match ds with
  | [.int i] => Q (.int i) S
  | [.bl k] => Q (.int (if k then 1 else 0)) S
  | _ => False
theorem cl_int : CaL X.K (fun xs H Q => (∃ i, xs = [.int i] ∧ Q (.int i) H) ∨ ∃ k, xs = [.bl k] ∧ Q (.int (if k then 1 else 0)) H) bInt := fun H S xs ds Qm Q s r h k => by
  unfold bInt at h
  split at h
  · obtain ⟨v, rfl, r1⟩ := rds1 r
    cases r1
    exact .inl ⟨_, rfl, k _ S _ H h Ext.refl s (.int _)⟩
  · obtain ⟨v, rfl, r1⟩ := rds1 r
    cases r1
    exact .inr ⟨_, rfl, k _ S _ H h Ext.refl s (.int _)⟩
  · exact h.elim
/-- tuple(a list or a tuple); list(..): a list that stays -/
def bTuple : List D → Sto → MQ → Prop := fun ds S Q => match ds with
  | [.tup xs] => Q (.tup xs) S
  | [d] => match lstOf S d with
    | some xs => Q (.tup xs) S
    | none => False
  | _ => False
theorem cl_tuple : CaL X.K (fun xs H Q => ∃ p ys, xs = [.ref p] ∧ ((SqL X.K H p ys ∧ ∀ l, H l = none → Q (.ref l) (upd H l (.tup ys))) ∨ (SqT X.K H p ys ∧ Q (.ref p) H))) bTuple := fun H S xs ds Qm Q s r h k => by
  unfold bTuple at h
  split at h
  · obtain ⟨v, rfl, r1⟩ := rds1 r
    obtain ⟨a, vs, rfl, h1, r2⟩ := r1.tupSq
    exact ⟨a, vs, rfl, .inr ⟨h1, k _ S _ H h Ext.refl s r1⟩⟩
  · next d hd =>
    obtain ⟨v, rfl, r1⟩ := rds1 r
    cases e : lstOf S d with
    | none => rw [e] at h; exact h.elim
    | some ys =>
      rw [e] at h
      obtain ⟨a, vs, rfl, h1, r2⟩ := lst_sq s r1 e
      exact ⟨a, vs, rfl, .inl ⟨h1, fun l hl => k _ S _ _ h (Ext.new s hl) (s.new hl) (.tup (.inl upd_same) (s.fresh hl) (r2.ext (Ext.new s hl)))⟩⟩
  · exact h.elim
def seqOf (S : Sto) : D → Option (List D)
  | .tup ds => some ds
  | d => lstOf S d
theorem seq_sq {K : PySem.W.Frag} {H : Hp} {S : Sto} (s : RSto K H S) {v : V} {d : D} {ds : List D} (r : RD K H S v d) (h : seqOf S d = some ds) : ∃ a vs, v = .ref a ∧ (SqL K H a vs ∨ SqT K H a vs) ∧ RDs K H S vs ds := by
  unfold seqOf at h
  split at h
  · cases h
    obtain ⟨a, vs, rfl, h1, r2⟩ := r.tupSq
    exact ⟨a, vs, rfl, .inr h1, r2⟩
  · obtain ⟨a, vs, rfl, h1, r2⟩ := lst_sq s r h
    exact ⟨a, vs, rfl, .inl h1, r2⟩
def bListF : List D → Sto → MQ → Prop := fun ds S Q => match ds with
  | [d] => match seqOf S d with
    | some xs => Q (.lst xs) S
    | none => False
  | _ => False
def bList : List D → Sto → MQ → Prop := fun ds S Q => match ds with
  | [d] => match seqOf S d with
    | some xs => ∀ p, S p = none → Q (.ref p) (put S p (.lst xs))
    | none => False
  | _ => False
/-- all, any of a list of truths -/
def blsOf : List D → Option (List Bool)
  | [] => some []
  | .bl b :: r => (blsOf r).map (b :: ·)
  | _ => none
theorem blsOf_eq : ∀ {ds : List D} {bs : List Bool}, blsOf ds = some bs → ds = bs.map .bl
  | [], bs, h => by cases h; rfl
  | .bl b :: r, bs, h => by
    cases e : blsOf r with
    | none => rw [show blsOf (.bl b :: r) = (blsOf r).map (b :: ·) from rfl, e] at h; cases h
    | some cs => rw [show blsOf (.bl b :: r) = (blsOf r).map (b :: ·) from rfl, e] at h; cases h; rw [blsOf_eq e]; rfl
  | .non :: _, _, h => by cases h
  | .int _ :: _, _, h => by cases h
  | .str _ :: _, _, h => by cases h
  | .tup _ :: _, _, h => by cases h
  | .lst _ :: _, _, h => by cases h
  | .scr _ :: _, _, h => by cases h
  | .ref _ :: _, _, h => by cases h
theorem blsOf_map (bs : List Bool) : blsOf (bs.map .bl) = some bs := by
  induction bs with
  | nil => rfl
  | cons b r ih => show (blsOf (r.map .bl)).map (b :: ·) = _; rw [ih]; rfl
def bAll : List D → Sto → MQ → Prop := fun ds S Q => match ds with
  | [d] => match (lstOf S d).bind blsOf with
    | some bs => Q (.bl (bs.all id)) S
    | none => False
  | _ => False
theorem cl_all : CaL X.K (rAll X.K) bAll := fun H S xs ds Qm Q s r h k => by
  unfold bAll at h
  split at h
  · next d =>
    obtain ⟨v, rfl, r1⟩ := rds1 r
    cases e : lstOf S d with
    | none => rw [e] at h; exact h.elim
    | some ys =>
      rw [e] at h
      cases e2 : blsOf ys with
      | none => rw [Option.bind_some, e2] at h; exact h.elim
      | some bs =>
        rw [Option.bind_some, e2] at h
        obtain ⟨a, vs, rfl, h1, r2⟩ := lst_sq s r1 e
        rw [blsOf_eq e2] at r2
        rw [RDs.bls r2] at h1
        exact ⟨a, bs, rfl, h1, k _ S _ H h Ext.refl s (.bl _)⟩
  · exact h.elim
/-! ### subscripts, slices -/
def ixL {α : Type} (xs : List α) (i : Int) : Option α := match i with
  | .ofNat n => xs[n]?
  | .negSucc n => if n < xs.length then xs[xs.length - (n + 1)]? else none
theorem ixL_at {α : Type} {xs : List α} {i : Int} {v : α} (h : ixL xs i = some v) : atI xs i = some v := by
  unfold ixL at h
  split at h
  · exact atI_nat h
  · next n =>
    split at h
    · next hl =>
      unfold atI ixN
      rw [if_neg (by omega), if_pos (by omega)]
      have e : (Int.negSucc n + (xs.length : Int)).toNat = xs.length - (n + 1) := by omega
      rw [Option.bind_some, e]; exact h
    · cases h
def rIxM : R2m := fun d e S Q => match e with
  | .int i => match seqOf S d with
    | some xs => match ixL xs i with
      | some x => Q x S
      | none => False
    | none => False
  | _ => False
theorem atI_rds {K : PySem.W.Frag} {H : Hp} {S : Sto} {vs : List V} {ds : List D} {i : Int} {d : D} (r : RDs K H S vs ds) (h : atI ds i = some d) : ∃ v, atI vs i = some v ∧ RD K H S v d := by
  unfold atI at h ⊢
  rw [r.length]
  cases e : ixN ds.length i with
  | none => rw [e] at h; cases h
  | some j => rw [e, Option.bind_some] at h; rw [Option.bind_some]; exact r.get h
theorem ol_ix : OpL X.K (fun x y H Q => rIxL X.K x y H Q ∨ rIxT X.K x y H Q) rIxM := fun H S x y d e Qm Q s rx ry h k => by
  unfold rIxM at h
  split at h
  · next i =>
    cases ry
    cases e1 : seqOf S d with
    | none => rw [e1] at h; exact h.elim
    | some xs =>
      rw [e1] at h
      cases e2 : ixL xs i with
      | none => simp only [e2] at h
      | some z =>
        simp only [e2] at h
        obtain ⟨a, vs, rfl, h1, r1⟩ := seq_sq s rx e1
        obtain ⟨v, e3, r2⟩ := atI_rds r1 (ixL_at e2)
        rcases h1 with h1 | h1
        · exact .inl ⟨a, vs, i, v, rfl, rfl, h1, e3, k _ S _ H h Ext.refl s r2⟩
        · exact .inr ⟨a, vs, i, v, rfl, rfl, h1, e3, k _ S _ H h Ext.refl s r2⟩
  · exact h.elim
theorem eix (ha : PE X a (upE X.K W ma)) (hb : PE X b (upE X.K W mb)) (hs : PlainIx b := by exact fun _ _ => rfl) : PE X (.Subscript a b pos) (upE X.K W (mOp rIxM ma mb)) := (pe_ix (ix_list.or ix_tup) ha hb hs).to (op_to ol_ix)
end
end ML
set_option maxRecDepth 100000
namespace ML
open PySem PySem.Spec L2
open PyProof.Rows hiding St
/-! ### targets -/
abbrev MG := D → MSt → Sto → (MSt → Sto → Prop) → MXQ → Prop
abbrev MGs := List D → MSt → Sto → (MSt → Sto → Prop) → MXQ → Prop
section
variable (K : PySem.W.Frag) (W : WX)
def upG (g : MG) : TG := fun v σ H Q => ∃ d mσ S Qm Em, RD K H S v d ∧ RSt K H S σ mσ ∧ RSto K H S ∧ g d mσ S Qm Em ∧ RefN K H S Qm Q ∧ RefX K H S Em (fun c d H' => W c d σ H')
def upGs (g : MGs) : TGs := fun vs σ H Q => ∃ ds mσ S Qm Em, RDs K H S vs ds ∧ RSt K H S σ mσ ∧ RSto K H S ∧ g ds mσ S Qm Em ∧ RefN K H S Qm Q ∧ RefX K H S Em (fun c d H' => W c d σ H')
end
section
variable {X : Cx} {W : WX} {a b c e tg : Expr} {ma mb mc m : ME} {pos : Pos} {g : MG} {gs : MGs}
theorem _root_.L2.PG.to {t t' : TG} (h : PG X tg t) (i : ∀ v σ H Q, t' v σ H Q → t v σ H Q) : PG X tg t' := ⟨fun pins s σ H v u Q I r q => h.run pins s σ H v u Q I r (i v σ H Q q)⟩
def gNm (i : Nat) : MG := fun d σ S Q _ => Q (σ.set i (some d)) S
theorem gnm {i : Nat} {x : Str} (hN : X.N.Nodup) (hi : X.N[i]? = some x := by rfl) (hx : Loc X.env.scope x := by first | exact Or.inl rfl | exact Or.inr rfl) (hf : X.fn x = true ∨ X.env.scope.names.lookup x = some .local := by first | exact .inl rfl | exact .inr rfl | assumption) :
    PG X (.Name x pos) (upG X.K W (gNm i)) := L2.PG.to (pg_name hN hi hx hf) fun v σ H Q ⟨d, m, S, Qm, Em, r, h1, h2, h3, h4, _⟩ => h4 _ S _ H h3 Ext.refl h2 (h1.set r i)
def gNl : MGs := fun ds σ S Q _ => match ds with
  | [] => Q σ S
  | _ => False
def gCn (g : MG) (gs : MGs) : MGs := fun ds σ S Q E => match ds with
  | d :: r => g d σ S (fun σ' S' => gs r σ' S' Q E) E
  | [] => False
theorem gnl : PGs X [] (upGs X.K W gNl) := ⟨fun pins s σ H vs us Q I r ⟨ds, m, S, Qm, Em, r1, h1, h2, h3, h4, _⟩ => by
  cases ds with
  | nil => cases r1; exact pgs_nil.run pins s σ H [] us Q I r ⟨rfl, h4 m S σ H h3 Ext.refl h2 h1⟩
  | cons _ _ => exact h3.elim⟩
theorem gcn {es : List Expr} (h1 : PG X e (upG X.K W g)) (h2 : PGs X es (upGs X.K W gs)) (hs : (assignEach (e :: es) X.env).map (·.2) = assign e X.env :: (assignEach es X.env).map (·.2) := by rfl)
    (hx : ∀ d σ S Q E E', g d σ S Q E → g d σ S Q E' := by intro _ _ _ _ _ _ h; exact h) (hx' : ∀ d σ S Q E E', gs d σ S Q E → gs d σ S Q E' := by intro _ _ _ _ _ _ h; exact h) : PGs X (e :: es) (upGs X.K W (gCn g gs)) :=
  ⟨fun pins s σ H vs us Q I r ⟨ds, m, S, Qm, Em, r1, k1, k2, k3, k4, k5⟩ => (pgs_cons h1 h2 hs).run pins s σ H vs us Q I r (by
    cases ds with
    | nil => exact k3.elim
    | cons d ds =>
      cases r1 with
      | cons rd rds =>
        refine ⟨_, _, rfl, d, m, S, _, _, rd, k1, k2, hx _ _ _ _ _ (fun _ _ => False) k3, fun m' S' σ' H' q e s' st => ?_, fun x S' c d H' z => z.elim⟩
        exact ⟨ds, m', S', Qm, fun _ _ => False, rds.ext e, st, s', hx' _ _ _ _ _ _ q, k4.ext e, fun x S' c d H' z => z.elim⟩)⟩
def gTp (n : Nat) (gs : MGs) : MG := fun d σ S Q E => match d with
  | .tup ds => ds.length = n ∧ gs ds σ S Q E
  | _ => False
theorem gtp {es : List Expr} {k n : Nat} (hc : X.calm = true) (h : PGs X es (upGs X.K W gs)) (hn : (assignEach es X.env).length = n := by rfl) (hst : (assignEach es X.env).findIdx? (·.1) = none := by rfl) : PG X (.Tuple es k pos) (upG X.K W (gTp n gs)) :=
  L2.PG.to (pg_tup hc h hn hst) fun v σ H Q ⟨d, m, S, Qm, Em, r, h1, h2, h3, h4, h5⟩ => by
    cases d with
    | tup ds =>
      obtain ⟨a, vs, rfl, hq, rs⟩ := r.tupSq
      exact ⟨a, vs, rfl, hq, rs.length.trans h3.1, ds, m, S, Qm, Em, rs, h1, h2, h3.2, h4, h5⟩
    | _ => exact h3.elim
/-- a, b = a list -/
def gLs (n : Nat) (gs : MGs) : MG := fun d σ S Q E => match lstOf S d with
  | some ds => ds.length = n ∧ gs ds σ S Q E
  | none => False
theorem gls {es : List Expr} {k n : Nat} (hc : X.calm = true) (h : PGs X es (upGs X.K W gs)) (hn : (assignEach es X.env).length = n := by rfl) (hst : (assignEach es X.env).findIdx? (·.1) = none := by rfl) : PG X (.Tuple es k pos) (upG X.K W (gLs n gs)) :=
  L2.PG.to (pg_lst hc h hn hst) fun v σ H Q ⟨d, m, S, Qm, Em, r, h1, h2, h3, h4, h5⟩ => by
    unfold gLs at h3
    cases e : lstOf S d with
    | none => rw [e] at h3; exact h3.elim
    | some ds =>
      rw [e] at h3
      obtain ⟨a, vs, rfl, hq, rs⟩ := lst_sq h2 r e
      exact ⟨a, vs, rfl, hq, rs.length.trans h3.1, ds, m, S, Qm, Em, rs, h1, h2, h3.2, h4, h5⟩
/-- xs[i] = v, a list of the store -/
def setAt {α : Type} (xs : List α) (i : Int) (v : α) : Option (List α) := match i with
  | .ofNat n => if n < xs.length then some (xs.set n v) else none
  | .negSucc n => if n < xs.length then some (xs.set (xs.length - (n + 1)) v) else none
def rSetM (o i v : D) (S : Sto) (Q : Sto → Prop) : Prop := match o, i with
  | .ref p, .int k => match S p with
    | some (.lst xs) => match setAt xs k v with
      | some ys => Q (put S p (.lst ys))
      | none => False
    | _ => False
  | _, _ => False
theorem setAt_ix {α β : Type} {xs ys : List α} {zs : List β} {i : Int} {v : α} (hl : zs.length = xs.length) (h : setAt xs i v = some ys) : ∃ j, ixN zs.length i = some j ∧ ys = xs.set j v := by
  unfold setAt at h
  rw [hl]
  split at h
  · next n =>
    split at h
    · next hn =>
      cases h
      refine ⟨n, ?_, rfl⟩
      unfold ixN
      rw [if_pos (by show (0 : Int) ≤ (n : Int); omega), if_pos (by show (n : Int) < _; omega)]
      rfl
    · cases h
  · next n =>
    split at h
    · next hn =>
      cases h
      refine ⟨xs.length - (n + 1), ?_, rfl⟩
      unfold ixN
      rw [if_neg (by omega), if_pos (by omega)]
      congr 1; omega
    · cases h
def gSb (mo mi : ME) : MG := fun v σ S Q E => mo σ S (fun o S1 => mi σ S1 (fun i S2 => rSetM o i v S2 (fun S3 => Q σ S3)) E) E
theorem gsb {o i : Expr} {mo mi : ME} (ho : PE X o (upE X.K W mo)) (hi : PE X i (upE X.K W mi)) (ha : ∀ v, assign (.Subscript o i pos) X.env v = (do
      let ov ← holding [v] (eval o X.env)
      let iv ← holding [v, ov] (eval i X.env)
      standAt pos
      holding [v, ov, iv] (setItem ov iv v)
      release [v, ov, iv] []) := by intro _; rfl) : PG X (.Subscript o i pos) (upG X.K W (gSb mo mi)) :=
  L2.PG.to (pg_sub ho hi set_list ha) fun v σ H Q ⟨d, m, S, Qm, Em, r, h1, h2, h3, h4, h5⟩ => by
    refine ⟨m, S, _, Em, h1, h2, h3, fun o S1 ov H1 q1 e1 s1 r1 => ⟨m, S1, _, Em, h1.ext e1, s1, q1, fun i S2 iv H2 q2 e2 s2 r2 => ?_, h5.ext e1⟩, h5⟩
    have r1' := r1.ext e2
    have rv := r.ext (e1.trans e2)
    replace q2 : rSetM o i d S2 (fun S3 => Qm m S3) := q2
    unfold rSetM at q2
    split at q2
    · next p k =>
      cases e : S2 p with
      | none => rw [e] at q2; exact q2.elim
      | some mo =>
        rw [e] at q2
        cases mo with
        | lst xs =>
          dsimp only at q2
          cases e3 : setAt xs k d with
          | none => rw [e3] at q2; exact q2.elim
          | some ys =>
            rw [e3] at q2
            cases r1'; cases r2
            obtain ⟨vs, hv, rs⟩ := s2 p _ e
            obtain ⟨j, hj, ey⟩ := setAt_ix rs.length e3
            subst ey
            have ec : Ext H2 S2 (upd H2 p (.lst (vs.set j v))) (put S2 p (.lst (xs.set j d))) := Ext.chg e
            exact ⟨p, vs, k, j, rfl, rfl, hv, hj, h4 m _ σ _ q2 (e1.trans (e2.trans ec)) (s2.chg e ⟨_, upd_same, (rs.set rv j).ext ec⟩) (h1.ext (e1.trans (e2.trans ec)))⟩
        | _ => exact q2.elim
    · exact q2.elim
/-! ### statements -/
variable {st : Stmt} {rest : List Stmt} {mt mu : MS}
def xAt (D : MEnds) (σ : MSt) : MXQ := fun x S => D.ex x σ S
theorem xAt_ref {K : PySem.W.Frag} {H : Hp} {S : Sto} {σ : L2.St} {m : MSt} {Dm : MEnds} {W : WX} (h : RSt K H S σ m) (w : RefW K H S Dm.ex W) : RefX K H S (xAt Dm m) (fun c d H' => W c d σ H') :=
  fun x S' c d H' q e s r => w x m S' c d σ H' q e s (h.ext e) r
def mNext : MS := fun D σ S => D.nx σ S
def mSeq (t u : MS) : MS := fun D σ S => t { D with nx := u D } σ S
theorem snil : PSs X [] (upS X.K W mNext) := L2.PSs.to pss_nil fun D σ H ⟨m, S, Dm, h1, h2, h3, h4⟩ => h4.nx m S σ H h3 Ext.refl h2 h1
theorem scons (h1 : PS X st (upS X.K W mt)) (h2 : PSs X rest (upS X.K W mu)) : PSs X (st :: rest) (upS X.K W (mSeq mt mu)) := L2.PSs.to (pss_cons h1 h2) fun D σ H ⟨m, S, Dm, k1, k2, k3, k4⟩ =>
  ⟨m, S, { Dm with nx := mu Dm }, k1, k2, k3, ⟨fun m' S' σ' H' q e s r => ⟨m', S', Dm, r, s, q, k4.ext e⟩, k4.rt, k4.bk, k4.ct, k4.ex⟩⟩
theorem sone (h1 : PS X st (upS X.K W mt)) : PSs X [st] (upS X.K W mt) := pss_one h1
def mBreak : MS := fun D σ S => D.bk σ S
def mCont : MS := fun D σ S => D.ct σ S
def mExpr (m : ME) : MS := fun D σ S => m σ S (fun _ S1 => D.nx σ S1) (xAt D σ)
theorem sexpr (he : PE X e (upE X.K W m)) (hs : swapsWith e none pos.line X.env = pure false := by rfl) : PS X (.Expr e pos) (upS X.K W (mExpr m)) := L2.PS.to (ps_expr he hs) fun D σ H ⟨m, S, Dm, h1, h2, h3, h4⟩ =>
  ⟨m, S, _, _, h1, h2, h3, fun d S' v H' q e s r => h4.nx m S' σ H' q e s (h1.ext e), xAt_ref h1 h4.ex⟩
def mRet (m : ME) : MS := fun D σ S => m σ S D.rt (xAt D σ)
theorem sret (he : PE X e (upE X.K W m)) : PS X (.Return (some e) pos) (upS X.K W (mRet m)) := L2.PS.to (ps_ret he) fun D σ H ⟨m, S, Dm, h1, h2, h3, h4⟩ => ⟨m, S, _, _, h1, h2, h3, h4.rt, xAt_ref h1 h4.ex⟩
def mRetN : MS := fun D _ S => D.rt .non S
def mIfS (c : MT) (t u : MS) : MS := fun D σ S => c σ S (fun b S1 => if b = true then t D σ S1 else u D σ S1) (xAt D σ)
theorem sif {tc : MT} {as bs : List Stmt} (hc : PT X c (upT X.K W tc)) (ha : PSs X as (upS X.K W mt)) (hb : PSs X bs (upS X.K W mu)) : PS X (.If c as bs pos) (upS X.K W (mIfS tc mt mu)) := L2.PS.to (ps_if hc ha hb) fun D σ H ⟨m, S, Dm, h1, h2, h3, h4⟩ =>
  ⟨m, S, _, _, h1, h2, h3, fun k S1 H1 q e s => by
    cases k with
    | true => rw [if_pos rfl]; exact ⟨m, S1, Dm, h1.ext e, s, by simpa using q, h4.ext e⟩
    | false => rw [if_neg Bool.false_ne_true]; exact ⟨m, S1, Dm, h1.ext e, s, by simpa using q, h4.ext e⟩, xAt_ref h1 h4.ex⟩
/-- never come to -/
def mNever : MS := fun _ _ _ => False
theorem snever : PS X st (upS X.K W mNever) := ⟨fun _ _ _ _ _ _ ⟨_, _, _, _, _, h, _⟩ => h.elim⟩
def mAsg (m : ME) (g : MG) : MS := fun D σ S => m σ S (fun d S1 => g d σ S1 D.nx (xAt D σ)) (xAt D σ)
theorem sasg (he : PE X e (upE X.K W m)) (hg : PG X tg (upG X.K W g)) (hs : swapsWithSole [tg] e pos.line X.env = pure false := by rfl) (hw : swappedStores [tg] e X.env = pure none := by rfl)
    (h1 : (assignEach [tg] X.env).map (·.2) = [assign tg X.env] := by rfl) : PS X (.Assign [tg] e pos) (upS X.K W (mAsg m g)) := L2.PS.to (ps_asg he hg hs hw h1) fun D σ H ⟨m, S, Dm, h1, h2, h3, h4⟩ =>
  ⟨m, S, _, _, h1, h2, h3, fun d S1 v H1 q e s r => ⟨d, m, S1, _, _, r, h1.ext e, s, q, h4.nx.ext e, (xAt_ref h1 h4.ex).ext e⟩, xAt_ref h1 h4.ex⟩
def mSet (i : Nat) (m : ME) : MS := fun D σ S => m σ S (fun d S1 => D.nx (σ.set i (some d)) S1) (xAt D σ)
theorem sset {i : Nat} {x : Str} {pos' : Pos} (hN : X.N.Nodup) (he : PE X e (upE X.K W m)) (hi : X.N[i]? = some x := by rfl) (hx : Loc X.env.scope x := by first | exact Or.inl rfl | exact Or.inr rfl) (hs : swapsWith e (some (.Name x pos')) pos.line X.env = pure false := by rfl)
    (hf : X.fn x = true ∨ X.env.scope.names.lookup x = some .local := by first | exact .inl rfl | exact .inr rfl | assumption) : PS X (.Assign [.Name x pos'] e pos) (upS X.K W (mSet i m)) := L2.PS.to (ps_set hN hi hx he hs hf) fun D σ H ⟨m, S, Dm, h1, h2, h3, h4⟩ =>
  ⟨m, S, _, _, h1, h2, h3, fun d S1 v H1 q e s r => h4.nx _ S1 _ H1 q e s ((h1.ext e).set r i), xAt_ref h1 h4.ex⟩
def mPar (i j : Nat) (t : MA) : MS := fun D σ S => t σ S (fun ds S1 => match ds with
  | [d, e] => D.nx ((σ.set i (some d)).set j (some e)) S1
  | _ => False) (xAt D σ)
theorem spar {i j : Nat} {x y : Str} {mas : MA} {px py pt : Pos} {kt k2 pt2} (hc : X.calm = true) (hN : X.N.Nodup) (ha : PA X [a, b] (upA X.K W mas)) (hi : X.N[i]? = some x := by rfl) (hj : X.N[j]? = some y := by rfl) (hij : i ≠ j := by decide)
    (hx : X.env.scope.names.lookup x = some .local := by rfl) (hy : X.env.scope.names.lookup y = some .local := by rfl)
    (hw : swappedStores [.Tuple [.Name x px, .Name y py] kt pt] (.Tuple [a, b] k2 pt2) X.env = pure (some [x, y]) := by rfl)
    (hs : swapsWithSole [.Tuple [.Name x px, .Name y py] kt pt] (.Tuple [a, b] k2 pt2) pos.line X.env = pure false := by rfl) :
    PS X (.Assign [.Tuple [.Name x px, .Name y py] kt pt] (.Tuple [a, b] k2 pt2) pos) (upS X.K W (mPar i j mas)) := L2.PS.to (ps_par hc hN hi hj hij hx hy ha hw hs) fun D σ H ⟨m, S, Dm, h1, h2, h3, h4⟩ =>
  ⟨m, S, _, _, h1, h2, h3, fun ds S1 vs H1 q e s r => by
    dsimp only at q
    split at q
    · obtain ⟨v, w, rfl, r1, r2⟩ := rds2 r
      exact ⟨v, w, rfl, h4.nx _ S1 _ H1 q e s (((h1.ext e).set r1 i).set r2 j)⟩
    · exact q.elim, xAt_ref h1 h4.ex⟩
/-! ### while -/
/-- I: what holds between the turns, with a measure -/
def mWhile (c : MT) (tb : MS) : MS := fun D σ S => ∃ I : Nat → MSt → Sto → Prop, (∃ n, I n σ S) ∧ ∀ n σ S, I n σ S →
  c σ S (fun b S1 => if b = true then tb { D with nx := fun σ' S' => ∃ m, m < n ∧ I m σ' S', ct := fun σ' S' => ∃ m, m < n ∧ I m σ' S', bk := D.nx } σ S1 else D.nx σ S1) (xAt D σ)
theorem swhile {tc : MT} {tb : MS} {body : List Stmt} (hp : PassesOwn (model X.prog X.w) X.A X.env X.xe) (hc : PT X c (upT X.K W tc)) (hb : PSs X body (upS X.K W tb)) : PS X (.While c body [] pos) (upS X.K W (mWhile tc tb)) :=
  L2.PS.to (ps_while hp hc hb) fun D σ H ⟨m, S, Dm, h1, h2, ⟨I, ⟨n0, i0⟩, turn⟩, h4⟩ => by
    refine ⟨fun n σ' H' => ∃ m' S', RSt X.K H' S' σ' m' ∧ RSto X.K H' S' ∧ Ext H S H' S' ∧ I n m' S', ⟨n0, m, S, h1, h2, Ext.refl, i0⟩, ?_⟩
    rintro n σ1 H1 ⟨m1, S1, k1, k2, k3, k4⟩
    have D4 := h4.ext k3
    refine ⟨m1, S1, _, _, k1, k2, turn n m1 S1 k4, fun k S2 H2 q e s => ?_, xAt_ref k1 D4.ex⟩
    cases k with
    | true =>
      have q' : tb { Dm with nx := fun σ' S' => ∃ m, m < n ∧ I m σ' S', ct := fun σ' S' => ∃ m, m < n ∧ I m σ' S', bk := Dm.nx } m1 S2 := by simpa using q
      rw [if_pos rfl]
      have N : RefN X.K H2 S2 (fun σ' S' => ∃ m, m < n ∧ I m σ' S') (fun σ' H' => ∃ m', m' < n ∧ ∃ m'' S', RSt X.K H' S' σ' m'' ∧ RSto X.K H' S' ∧ Ext H S H' S' ∧ I m' m'' S') :=
        fun m3 S3 σ3 H3 ⟨n3, l3, i3⟩ e3 s3 r3 => ⟨n3, l3, m3, S3, r3, s3, k3.trans (e.trans e3), i3⟩
      exact ⟨fun σ' H' => ∃ m', m' < n ∧ ∃ m'' S', RSt X.K H' S' σ' m'' ∧ RSto X.K H' S' ∧ Ext H S H' S' ∧ I m' m'' S', fun σ' H' z => z, m1, S2, _, k1.ext e, s, q', ⟨N, D4.rt.ext e, D4.nx.ext e, N, D4.ex.ext e⟩⟩
    | false =>
      have q' : Dm.nx m1 S2 := by simpa using q
      rw [if_neg Bool.false_ne_true]
      exact D4.nx m1 S2 σ1 H2 q' e s (k1.ext e)
/-! ### what a loop walks -/
abbrev MI := MSt → Sto → (List D → (Sto → Prop) → Sto → Prop) → MXQ → Prop
/-- J yields the items, as long as G holds of the store -/
structure ItOk (K : PySem.W.Frag) (H0 : Hp) (S0 : Sto) (J : It) (items : List D) (G : Sto → Prop) : Prop where
  go : ∀ (i : Nat) (H : Hp) (S : Sto), Ext H0 S0 H S → RSto K H S → G S → i < items.length → J.go i H
  yld : ∀ (i : Nat) (H : Hp) (S : Sto) (v : V) (H' : Hp) (d : D), Ext H0 S0 H S → RSto K H S → G S → items[i]? = some d → J.yld i H v H' → Ext H S H' S ∧ RSto K H' S ∧ RD K H' S v d
  stop : ∀ (i : Nat) (H : Hp) (S : Sto), Ext H0 S0 H S → RSto K H S → G S → items.length ≤ i → J.stop i H
def RefI (K : PySem.W.Frag) (H : Hp) (S : Sto) (Rm : List D → (Sto → Prop) → Sto → Prop) (R : It → Hp → Prop) : Prop := ∀ items G S' J H', Rm items G S' → Ext H S H' S' → RSto K H' S' → ItOk K H' S' J items G → R J H'
theorem RefI.ext {K : PySem.W.Frag} {H H' : Hp} {S S' : Sto} {Rm : List D → (Sto → Prop) → Sto → Prop} {R : It → Hp → Prop} (r : RefI K H S Rm R) (e : Ext H S H' S') : RefI K H' S' Rm R := fun items G S1 J H1 q e1 s k => r items G S1 J H1 q (e.trans e1) s k
def upI (K : PySem.W.Frag) (W : WX) (mi : MI) : TI := fun σ H R => ∃ mσ S Rm Em, RSt K H S σ mσ ∧ RSto K H S ∧ mi mσ S Rm Em ∧ RefI K H S Rm R ∧ RefX K H S Em (fun c d H' => W c d σ H')
theorem _root_.L2.PI.to {iter : Expr} {t t' : TI} (h : PI X tg iter t) (i : ∀ σ H R, t' σ H R → t σ H R) : PI X tg iter t' := ⟨fun pins s σ H R I q => h.run pins s σ H R I (i σ H R q)⟩
/-- I: what holds ahead of each turn -/
def wfor (G : Sto → Prop) (g : MG) (mb : MS) (D : MEnds) (items : List ML.D) (σ : MSt) (S : Sto) : Prop := ∃ I : Nat → MSt → Sto → Prop, I 0 σ S ∧ ∀ i σ S, i ≤ items.length → I i σ S → G S ∧ match items[i]? with
  | some d => g d σ S (fun σ' S' => mb { D with nx := I (i + 1), ct := I (i + 1), bk := D.nx } σ' S') (xAt D σ)
  | none => D.nx σ S
def mFor (mi : MI) (g : MG) (mb : MS) : MS := fun D σ S => mi σ S (fun items G S1 => wfor G g mb D items σ S1) (xAt D σ)
theorem sfor {iter : Expr} {body : List Stmt} {mi : MI} {mb : MS} (hp : PassesOwn (model X.prog X.w) X.A X.env X.xe) (hc : X.calm = true) (hi : PI X tg iter (upI X.K W mi)) (hg : PG X tg (upG X.K W g)) (hb : PSs X body (upS X.K W mb))
    (hs : ∀ x, foldedSetIterable iter X.env x = pure x := by intro _; rfl) : PS X (.For tg iter body [] pos) (upS X.K W (mFor mi g mb)) :=
  L2.PS.to (ps_for hp hc hi hg hb hs) fun D σ H ⟨m, S, Dm, h1, h2, h3, h4⟩ => by
    refine ⟨m, S, _, _, h1, h2, h3, fun items G S1 J H1 q e1 s1 it => ?_, xAt_ref h1 h4.ex⟩
    obtain ⟨I, i0, turn⟩ := q
    refine ⟨fun i n σ' H' => n = items.length - i ∧ i ≤ items.length ∧ ∃ m' S', RSt X.K H' S' σ' m' ∧ RSto X.K H' S' ∧ Ext H1 S1 H' S' ∧ I i m' S', ⟨items.length, by simp, Nat.zero_le _, m, S1, h1.ext e1, s1, Ext.refl, i0⟩, ?_⟩
    rintro i n σ2 H2 ⟨rfl, hle, m2, S2, k1, k2, k3, k4⟩
    have D4 := h4.ext (e1.trans k3)
    obtain ⟨gS, k4⟩ := turn i m2 S2 hle k4
    by_cases hlt : i < items.length
    · rw [List.getElem?_eq_getElem hlt] at k4
      refine .inr ⟨it.go i H2 S2 k3 k2 gS hlt, fun σ' H' => ∃ m' S', RSt X.K H' S' σ' m' ∧ RSto X.K H' S' ∧ Ext H1 S1 H' S' ∧ I (i + 1) m' S', fun σ' H' z => ⟨items.length - (i + 1), by omega, rfl, hlt, z⟩, fun v H3 y => ?_⟩
      obtain ⟨e3, s3, r3⟩ := it.yld i H2 S2 v H3 _ k3 k2 gS (List.getElem?_eq_getElem hlt) y
      refine ⟨_, m2, S2, _, _, r3, k1.ext e3, s3, k4, fun m4 S4 σ4 H4 q4 e4 s4 r4 => ?_, (xAt_ref k1 D4.ex).ext e3⟩
      have e34 := e3.trans e4
      have N : RefN X.K H4 S4 (I (i + 1)) (fun σ' H' => ∃ m' S', RSt X.K H' S' σ' m' ∧ RSto X.K H' S' ∧ Ext H1 S1 H' S' ∧ I (i + 1) m' S') :=
        fun m5 S5 σ5 H5 q5 e5 s5 r5 => ⟨m5, S5, r5, s5, k3.trans (e34.trans e5), q5⟩
      exact ⟨m4, S4, _, r4, s4, q4, ⟨N, D4.rt.ext e34, D4.nx.ext e34, N, D4.ex.ext e34⟩⟩
    · rw [List.getElem?_eq_none (by omega)] at k4
      exact .inl ⟨it.stop i H2 S2 k3 k2 gS (by omega), D4.nx m2 S2 σ2 H2 k4 Ext.refl k2 k1⟩
/-- turn by turn -/
def wroll (G : Sto → Prop) (g : MG) (mb : MS) (D : MEnds) : List ML.D → MSt → Sto → Prop
  | [], σ, S => G S ∧ D.nx σ S
  | d :: ds, σ, S => G S ∧ g d σ S (fun σ' S' => mb { D with nx := wroll G g mb D ds, ct := wroll G g mb D ds, bk := D.nx } σ' S') (xAt D σ)
theorem wfor_roll {G : Sto → Prop} {mb : MS} {D : MEnds} {items : List ML.D} {σ : MSt} {S : Sto} (h : wroll G g mb D items σ S) : wfor G g mb D items σ S := by
  refine ⟨fun i => wroll G g mb D (items.drop i), by simpa using h, fun i σ S hi h => ?_⟩
  dsimp only at h ⊢
  by_cases hlt : i < items.length
  · have hd : items.drop i = items[i] :: items.drop (i + 1) := List.drop_eq_getElem_cons hlt
    rw [hd] at h
    rw [List.getElem?_eq_getElem hlt]
    exact h
  · have e : i = items.length := by omega
    subst e
    rw [List.drop_length] at h
    rw [List.getElem?_eq_none (by omega)]
    exact h
/-- a list, a tuple -/
def iL (m : ME) : MI := fun σ S R E => m σ S (fun d S1 => match lstOf S1 d with
  | some ds => R ds (fun S' => lstOf S' d = some ds) S1
  | none => False) E
def iT (m : ME) : MI := fun σ S R E => m σ S (fun d S1 => match d with
  | .tup ds => R ds (fun _ => True) S1
  | _ => False) E
theorem itok_list {K : PySem.W.Frag} {H : Hp} {S : Sto} {d : D} {v : V} {ds : List D} (s : RSto K H S) (r : RD K H S v d) (h : lstOf S d = some ds) : ∃ a, v = .ref a ∧ (∃ xs, SqL K H a xs) ∧ ItOk K H S (Itl K a) ds (fun S' => lstOf S' d = some ds) := by
  obtain ⟨a, vs, rfl, hq, _⟩ := lst_sq s r h
  refine ⟨a, rfl, ⟨vs, hq⟩, fun i H' S' e s' g hi => ?_, fun i H' S' v H'' x e s' g hx y => ?_, fun i H' S' e s' g hi => ?_⟩
  · obtain ⟨a', vs', ea, hq', rs'⟩ := lst_sq s' (r.ext e) g
    cases ea
    exact ⟨vs', vs'[i]'(by rw [rs'.length]; exact hi), hq', List.getElem?_eq_getElem _⟩
  · obtain ⟨a', vs', ea, hq', rs'⟩ := lst_sq s' (r.ext e) g
    cases ea
    obtain ⟨rfl, y⟩ := y
    obtain ⟨w, hw, rw'⟩ := rs'.get hx
    have : v = w := Option.some.inj ((y _ hq').symm.trans hw)
    subst this
    exact ⟨Ext.refl, s', rw'⟩
  · obtain ⟨a', vs', ea, hq', rs'⟩ := lst_sq s' (r.ext e) g
    cases ea
    exact ⟨vs', hq', by rw [rs'.length]; exact hi⟩
theorem itok_tup {K : PySem.W.Frag} {H : Hp} {S : Sto} {v : V} {ds : List D} (s : RSto K H S) (r : RD K H S v (.tup ds)) : ∃ a, v = .ref a ∧ (∃ xs, SqT K H a xs) ∧ ItOk K H S (Itt K a) ds (fun _ => True) := by
  obtain ⟨a, vs, rfl, hq, _⟩ := r.tupSq
  refine ⟨a, rfl, ⟨vs, hq⟩, fun i H' S' e s' g hi => ?_, fun i H' S' v H'' x e s' g hx y => ?_, fun i H' S' e s' g hi => ?_⟩
  · obtain ⟨a', vs', ea, hq', rs'⟩ := (r.ext e).tupSq
    cases ea
    exact ⟨vs', vs'[i]'(by rw [rs'.length]; exact hi), hq', List.getElem?_eq_getElem _⟩
  · obtain ⟨a', vs', ea, hq', rs'⟩ := (r.ext e).tupSq
    cases ea
    obtain ⟨rfl, y⟩ := y
    obtain ⟨w, hw, rw'⟩ := rs'.get hx
    have : v = w := Option.some.inj ((y _ hq').symm.trans hw)
    subst this
    exact ⟨Ext.refl, s', rw'⟩
  · obtain ⟨a', vs', ea, hq', rs'⟩ := (r.ext e).tupSq
    cases ea
    exact ⟨vs', hq', by rw [rs'.length]; exact hi⟩
theorem it {l : Expr} (h : PE X l (upE X.K W m)) : PI X tg l (upI X.K W (iT m)) := L2.PI.to (pi_tup h) fun σ H R ⟨m, S, Rm, Em, h1, h2, h3, h4, h5⟩ =>
  ⟨m, S, _, Em, h1, h2, h3, fun d S1 v H1 q e s r => by
    cases d with
    | tup ds =>
      obtain ⟨a, rfl, hx, it⟩ := itok_tup s r
      exact ⟨a, rfl, hx, h4 ds _ S1 _ H1 q e s it⟩
    | _ => exact q.elim, h5⟩
/-- range -/
def rngD (lo : Int) (n : Nat) : List D := (List.range n).map fun i => .int (lo + (i : Nat))
theorem rngD_get {lo : Int} {n i : Nat} {d : D} (h : (rngD lo n)[i]? = some d) : d = .int (lo + (i : Nat)) := by
  unfold rngD at h
  rw [List.getElem?_map] at h
  by_cases hi : i < n
  · rw [List.getElem?_eq_getElem (by simpa using hi), List.getElem_range] at h; cases h; rfl
  · rw [List.getElem?_eq_none (by simpa using Nat.le_of_not_lt hi)] at h; cases h
theorem rngD_len (lo : Int) (n : Nat) : (rngD lo n).length = n := by unfold rngD; rw [List.length_map, List.length_range]
theorem itok_rng {K : PySem.W.Frag} {H : Hp} {S : Sto} (lo : Int) (n : Nat) : ItOk K H S (Itr lo n) (rngD lo n) (fun _ => True) :=
  ⟨fun i H' S' e s' g hi => by rw [rngD_len] at hi; exact hi, fun i H' S' v H'' x e s' g hx ⟨y1, y2⟩ => by subst y1 y2; rw [rngD_get hx]; exact ⟨Ext.refl, s', .int _⟩, fun i H' S' e s' g hi => by rw [rngD_len] at hi; exact hi⟩
def iR1 (t : MA) : MI := fun σ S R E => t σ S (fun ds S1 => match ds with
  | [.int j] => (-(2 ^ 62) ≤ j ∧ j < 2 ^ 62) ∧ R (rngD 0 j.toNat) (fun _ => True) S1
  | _ => False) E
def iR2 (t : MA) : MI := fun σ S R E => t σ S (fun ds S1 => match ds with
  | [.int i, .int j] => (-(2 ^ 62) ≤ i ∧ i < 2 ^ 62 ∧ -(2 ^ 62) ≤ j ∧ j < 2 ^ 62) ∧ R (rngD i (j - i).toNat) (fun _ => True) S1
  | _ => False) E
theorem ir1 {mas : MA} {p : Pos} (hm : X.mg "range" = none) (ha : PA X [a] (upA X.K W mas)) (hg : Gl X "range" := by rfl) (hs : starEach [a] X.env = [(false, eval a X.env)] := by rfl) : PI X tg (.Call (.Name "range" p) [a] [] pos) (upI X.K W (iR1 mas)) :=
  L2.PI.to (pi_range1 hg hm ha hs) fun σ H R ⟨m, S, Rm, Em, h1, h2, h3, h4, h5⟩ => ⟨m, S, _, Em, h1, h2, h3, fun ds S1 vs H1 q e s r => by
    dsimp only at q
    split at q
    · obtain ⟨v, rfl, r1⟩ := rds1 r
      cases r1
      exact ⟨_, rfl, q.1.1, q.1.2, h4 _ _ S1 _ H1 q.2 e s (itok_rng _ _)⟩
    · exact q.elim, h5⟩
/-- two values in a new pair -/
theorem pair_new {K : PySem.W.Frag} {H : Hp} {S : Sto} {T : Addr} {v w : V} {d e : D} (s : RSto K H S) (hT : H T = none) (r1 : RD K H S v d) (r2 : RD K H S w e) : Ext H S (upd H T (.tup [v, w])) S ∧ RSto K (upd H T (.tup [v, w])) S ∧ RD K (upd H T (.tup [v, w])) S (.ref T) (.tup [d, e]) := by
  have x := Ext.new (u := .tup [v, w]) s hT
  exact ⟨x, s.new hT, .tup (.inl upd_same) (s.fresh hT) (.cons (r1.ext x) (.cons (r2.ext x) .nil))⟩
/-- enumerate(a list) -/
def enumD (ds : List D) : List D := ds.zipIdx.map fun p => .tup [.int (p.2 : Nat), p.1]
theorem enumD_len (ds : List D) : (enumD ds).length = ds.length := by unfold enumD; rw [List.length_map, List.length_zipIdx]
theorem enumD_get {ds : List D} {i : Nat} {d : D} (h : (enumD ds)[i]? = some d) : ∃ x, ds[i]? = some x ∧ d = .tup [.int (i : Nat), x] := by
  unfold enumD at h
  rw [List.getElem?_map, List.getElem?_zipIdx] at h
  cases e : ds[i]? with
  | none => rw [e] at h; cases h
  | some x => rw [e] at h; cases h; exact ⟨x, rfl, by rw [Nat.zero_add]⟩
def iEn (t : MA) : MI := fun σ S R E => t σ S (fun ds S1 => match ds with
  | [d] => match lstOf S1 d with
    | some xs => R (enumD xs) (fun S' => lstOf S' d = some xs) S1
    | none => False
  | _ => False) E
theorem ien {mas : MA} {p tpos : Pos} {elts : List Expr} {kk : Nat} (hm : X.mg "enumerate" = none) (ha : PA X [e] (upA X.K W mas)) (hg : Gl X "enumerate" := by rfl) (hs : starEach [e] X.env = [(false, eval e X.env)] := by rfl) :
    PI X (.Tuple elts kk tpos) (.Call (.Name "enumerate" p) [e] [] pos) (upI X.K W (iEn mas)) :=
  L2.PI.to (pi_enum hg hm ha hs) fun σ H R ⟨m, S, Rm, Em, h1, h2, h3, h4, h5⟩ => ⟨m, S, _, Em, h1, h2, h3, fun ds S1 vs H1 q e1 s r => by
    dsimp only at q
    split at q
    · next d =>
      obtain ⟨v, rfl, r1⟩ := rds1 r
      cases e2 : lstOf S1 d with
      | none => rw [e2] at q; exact q.elim
      | some xs =>
        rw [e2] at q
        obtain ⟨a, us, rfl, hq, _⟩ := lst_sq s r1 e2
        refine ⟨a, us, rfl, hq, h4 _ _ S1 _ H1 q e1 s ⟨fun i H' S' e s' g hi => ?_, fun i H' S' v H'' x e s' g hx y => ?_, fun i H' S' e s' g hi => ?_⟩⟩
        · rw [enumD_len] at hi
          obtain ⟨a', vs', ea, hq', rs'⟩ := lst_sq s' (r1.ext e) g
          cases ea
          exact ⟨vs', vs'[i]'(by rw [rs'.length]; exact hi), hq', List.getElem?_eq_getElem _⟩
        · obtain ⟨a', vs', ea, hq', rs'⟩ := lst_sq s' (r1.ext e) g
          cases ea
          obtain ⟨T, w, rfl, hT, rfl, hy⟩ := y
          obtain ⟨z, hz, rfl⟩ := enumD_get hx
          obtain ⟨w', hw, rw'⟩ := rs'.get hz
          have : w = w' := Option.some.inj ((hy _ hq').symm.trans hw)
          subst this
          exact pair_new s' hT (.int _) rw'
        · rw [enumD_len] at hi
          obtain ⟨a', vs', ea, hq', rs'⟩ := lst_sq s' (r1.ext e) g
          cases ea
          exact ⟨vs', hq', by rw [rs'.length]; exact hi⟩
    · exact q.elim, h5⟩
/-- zip of two lists -/
def zipD (xs ys : List D) : List D := List.zipWith (fun x y => .tup [x, y]) xs ys
def iZp (t : MA) : MI := fun σ S R E => t σ S (fun ds S1 => match ds with
  | [d, e] => match lstOf S1 d, lstOf S1 e with
    | some xs, some ys => R (zipD xs ys) (fun S' => lstOf S' d = some xs ∧ lstOf S' e = some ys) S1
    | _, _ => False
  | _ => False) E
end
/-! ### a def keeps its promise -/
/-- the wish of a def about exceptions -/
abbrev wM (E : XK) : WX := fun cls d _ H => E cls d H
abbrev cxM (P : Program) (w : World) (K : PySem.W.Frag) (mg : Str → Option Value) (base : Heap) (N : List Str) (qual : Str) (st : Stmt) (f : Addr) (cdv : Value) (A : Around) (outer : List Env) (s : Shared) (H : Hp) (E : XK) : Cx :=
  cxOf (L2.CX P w) P w K mg base N qual (defScope st) f cdv A outer s H E
theorem tkM {P : Program} {w : World} {K : PySem.W.Frag} {mg : Str → Option Value} {base : Heap} {N : List Str} {qual : Str} {st : Stmt} {f : Addr} {cdv : Value} {A : Around} {outer : List Env} {s : Shared} {H : Hp} {E : XK} :
    Takes (cxM P w K mg base N qual st f cdv A outer s H E) (wM E) := takes_of rfl rfl rfl rfl
theorem poM {P : Program} {w : World} {K : PySem.W.Frag} {mg : Str → Option Value} {base : Heap} {N : List Str} {qual : Str} {st : Stmt} {f : Addr} {cdv : Value} {A : Around} {outer : List Env} {s : Shared} {H : Hp} {E : XK} :
    PassesOwn (model P w) (cxM P w K mg base N qual st f cdv A outer s H E).A (cxM P w K mg base N qual st f cdv A outer s H E).env (cxM P w K mg base N qual st f cdv A outer s H E).xe := passes_of rfl
/-- the slots at a def's entry -/
def mstart (n : Nat) (ds : List D) : MSt := ds.map some ++ List.replicate n none
def mends (Q : MQ) (E : MXQ) : MEnds := { nx := fun _ S' => Q .non S', rt := Q, ex := fun x _ S' => E x S' }
/-- a def keeps its promise: its body by the rules, and the reading -/
theorem fn_mk {P : Program} {w : World} {K : PySem.W.Frag} {mg : Str → Option Value} {base : Heap} {x qual : Str} {st : Stmt} {f : Addr} {fd : FuncData} {N ps : List Str} {k n : Nat} {sp : MSp} {body : MS}
    (F : FunD K x qual (defArgs st) (defBody st) (defScope st) [] [] f fd) (S : FnScope N ps (defScope st)) (hn : N.length - ps.length = n)
    (len : ∀ ds S Q E, sp ds S Q E → ds.length = ps.length)
    (hbody : ∀ (cdv : Value) (A : Around) (outer : List Env) (s : Shared) (H : Hp) (E : XK), Room k (cxM P w K mg base N qual st f cdv A outer s H E).A → PSs (cxM P w K mg base N qual st f cdv A outer s H E) (defBody st) (upS K (wM E) body))
    (read : ∀ ds S Q E, sp ds S Q E → body (mends Q E) (mstart n ds) S) : FnOk P w K mg base (L2.CX P w) (k + 1) f fd ps (upSp K sp) := by
  refine F.ok S (fun vs H Q E ⟨ds, S, Qm, Em, h1, h2, h3, h4⟩ => by rw [h1.length]; exact len ds S Qm Em h3) fun cdv A outer s H vs Q E hr hsp => ?_
  refine ⟨_, hbody cdv A outer s H E hr, ?_⟩
  obtain ⟨ds, S, Qm, Em, h1, h2, h3, h4, h5⟩ := hsp
  have hl : vs.length = ps.length := by rw [h1.length]; exact len ds S Qm Em h3
  refine ⟨_, S, _, ?_, h2, read ds S Qm Em h3, ⟨fun m S' σ H' q e s r => h4 .non S' .non H' q e s .non, h4, fun _ _ _ _ z => z.elim, fun _ _ _ _ z => z.elim, fun x m S' c d σ H' q e s r rx => h5 x S' c d H' q e s rx⟩⟩
  unfold L2.start
  rw [hl, hn]
  exact RSt.start _ h1
/-! ### the law -/
def spLaw : MSp := fun ds _ Q _ => ∃ ns : List Int, ds = [.scr (ns.map .int)] ∧ ns.length ≤ 63 ∧ ∀ S', Q (.bl true) S'
theorem law_sp {K : PySem.W.Frag} {H : Hp} {a : Addr} {ns : List Int} (hl : ns.length ≤ 63) (hO : Only H) (hS : SqL K H a (ns.map V.int)) : upSp K spLaw [.ref a] H (fun v _ => v = .bl true) fun _ _ _ => False := by
  have r : RD K H (fun _ => none) (.ref a) (.scr (ns.map .int)) := by
    rcases hS with (h | ⟨o, h⟩) | ⟨o, its, n, h1, h2, h3, h4, h5, h6⟩
    · rcases hO a with z | ⟨o, xs, z⟩
      · rw [h] at z; cases z
      · rw [h] at z; cases z
    · exact .scr h rfl RDs.of_ints
    · exact .klst h1 h2 h3 h4 h5 h6 RDs.of_ints
  refine ⟨[.scr (ns.map .int)], fun _ => none, fun d _ => d = .bl true, fun _ _ => False, .cons r .nil, ?_, ⟨ns, rfl, hl, fun _ => rfl⟩, ?_, ?_⟩
  · intro _ _ e; cases e
  · intro d S' v H' q _ _ r
    have q' : d = .bl true := q
    rw [q'] at r
    cases r; rfl
  · intro x S' cls d H' q _ _ _; exact q
theorem law_cx {P : Program} {w : World} (H : Hp) (s : Shared) (e : Value) (s' : Shared) (h : L2.CX P w [] H s (fun _ _ _ => False) e s') : False := by
  obtain ⟨_, _, _, _, _, _, _, _, _, _, _, _, z⟩ := h
  exact z.elim
/-- the goal that the head leaves -/
theorem law_end {l : PySem.W.OpenLaw} {k : Nat} {q : Program} {loose : List Str} {XP : (Str → Option Value) → Heap → Prop} {YP : World → Heap → Prop} {d : DefRec} {x : Str} (hn : l.most = some 63) (hdf : d.params.defaults = []) (hr : Room k callerA)
    (F : ∀ (w : World) (mg : Str → Option Value) (fa : Addr) (h : Heap), YP w h → h.Ns mainGlobals mg → mg d.name = some (.ref fa) → ∃ (K : PySem.W.Frag) (fd : FuncData), K.In h ∧ (∀ (s : Shared) (u : Value), BindsTo s fd ⟨[u], []⟩ [(x, u)]) ∧
      ∀ base : Heap, K.In base → base.Ns mainGlobals mg → FnOk l.prog w K mg base (L2.CX l.prog w) k fa fd [x] (upSp K spLaw)) : PySem.W.WalkO q loose XP YP l.row.toRowW d [] (fun f vs => PySem.call f vs) := by
  apply Att.attach_call hn hdf
  intro w _ s1 mg _ fa _ _ _ _ a vs ns G Y _ _ _ hmg hobj hints hlen hg
  have ⟨K, fd, KX, hb, hF⟩ := F w mg fa _ Y G.T.g hmg
  have h63 : ns.length ≤ sizeLine := by rw [sizeLine_eq]; omega
  refine law_call KX G.T.g G.T.b G.T.builtins G.T.nolimit hg hobj hints h63 hr hF hb ?_ ?_
  · intro H hO hS; exact law_sp hlen hO hS
  · intro H e s' z; exact law_cx H s1 e s' z
end ML
set_option maxRecDepth 100000
namespace ML
open PySem PySem.Spec L2
open PyProof.Rows hiding St
/-! ### equality of data -/
mutual
def D.py : D → PyData
  | .non => .none
  | .bl b => .bool b
  | .int i => .int i
  | .str x => .str x
  | .tup ds => .tuple (D.pys ds)
  | .lst ds => .list (D.pys ds)
  | .scr ds => .list (D.pys ds)
  | .ref _ => .none
def D.pys : List D → List PyData
  | [] => []
  | d :: ds => D.py d :: D.pys ds
end
mutual
/-- no address, no truth within; texts as the model's equality wants them -/
def D.plain : D → Bool
  | .non => true
  | .bl _ => false
  | .int _ => true
  | .str x => PyData.strOk x
  | .tup ds => D.plains ds
  | .lst ds => D.plains ds
  | .scr ds => D.plains ds
  | .ref _ => false
def D.plains : List D → Bool
  | [] => true
  | d :: ds => D.plain d && D.plains ds
end
mutual
def D.deq : D → D → Bool
  | .non, .non => true
  | .bl a, .bl b => a == b
  | .int a, .int b => a == b
  | .str a, .str b => a == b
  | .tup a, .tup b => D.deqs a b
  | .lst a, .lst b => D.deqs a b
  | .lst a, .scr b => D.deqs a b
  | .scr a, .lst b => D.deqs a b
  | .scr a, .scr b => D.deqs a b
  | _, _ => false
def D.deqs : List D → List D → Bool
  | [], [] => true
  | a :: as, b :: bs => D.deq a b && D.deqs as bs
  | _, _ => false
end
mutual
def D.dep : D → Nat
  | .tup ds => D.deps ds + 1
  | .lst ds => D.deps ds + 1
  | .scr ds => D.deps ds + 1
  | _ => 0
def D.deps : List D → Nat
  | [] => 0
  | d :: ds => max (D.dep d) (D.deps ds)
end
mutual
theorem D.dep_py : ∀ d : D, (D.py d).depth = D.dep d
  | .non => rfl
  | .bl _ => rfl
  | .int _ => rfl
  | .str _ => rfl
  | .tup ds => by rw [D.py, PyData.depth, D.dep, D.deps_py ds]
  | .lst ds => by rw [D.py, PyData.depth, D.dep, D.deps_py ds]
  | .scr ds => by rw [D.py, PyData.depth, D.dep, D.deps_py ds]
  | .ref _ => rfl
theorem D.deps_py : ∀ ds : List D, PyData.depthAll (D.pys ds) = D.deps ds
  | [] => rfl
  | d :: ds => by rw [D.pys, PyData.depthAll, D.deps, D.dep_py d, D.deps_py ds]
end
mutual
theorem D.lay_py : ∀ d : D, D.plain d = true → (D.py d).canLay0 = true
  | .non, _ => by rw [D.py, PyData.canLay0]
  | .bl _, h => by cases h
  | .int _, _ => by rw [D.py, PyData.canLay0]
  | .str x, h => by rw [D.py, PyData.canLay0]; exact h
  | .tup ds, h => by rw [D.py, PyData.canLay0]; exact D.lays_py ds h
  | .lst ds, h => by rw [D.py, PyData.canLay0]; exact D.lays_py ds h
  | .scr ds, h => by rw [D.py, PyData.canLay0]; exact D.lays_py ds h
  | .ref _, h => by cases h
theorem D.lays_py : ∀ ds : List D, D.plains ds = true → PyData.canLayAll0 (D.pys ds) = true
  | [], _ => by rw [D.pys, PyData.canLayAll0]
  | d :: ds, h => by
    obtain ⟨h1, h2⟩ := Bool.and_eq_true_iff.mp (show (D.plain d && D.plains ds) = true from h)
    rw [D.pys, PyData.canLayAll0, D.lay_py d h1, D.lays_py ds h2]; rfl
end
mutual
theorem D.eqv_py : ∀ d e : D, D.plain d = true → D.plain e = true → PyData.eqv (D.py d) (D.py e) = D.deq d e
  | .bl _, _, h, _ => by cases h
  | .ref _, _, h, _ => by cases h
  | .non, e, _, h => by cases e <;> first | (cases h; done) | simp [D.py, PyData.eqv, D.deq]
  | .int _, e, _, h => by cases e <;> first | (cases h; done) | simp [D.py, PyData.eqv, D.deq]
  | .str _, e, _, h => by cases e <;> first | (cases h; done) | simp [D.py, PyData.eqv, D.deq]
  | .tup ds, e, h1, h => by
    cases e with
    | tup es => rw [D.py, D.py, PyData.eqv, D.deq]; exact D.eqvs_py ds es h1 h
    | bl _ => cases h
    | ref _ => cases h
    | _ => simp [D.py, PyData.eqv, D.deq]
  | .lst ds, e, h1, h => by
    cases e with
    | lst es => rw [D.py, D.py, PyData.eqv, D.deq]; exact D.eqvs_py ds es h1 h
    | scr es => rw [D.py, D.py, PyData.eqv, D.deq]; exact D.eqvs_py ds es h1 h
    | bl _ => cases h
    | ref _ => cases h
    | _ => simp [D.py, PyData.eqv, D.deq]
  | .scr ds, e, h1, h => by
    cases e with
    | lst es => rw [D.py, D.py, PyData.eqv, D.deq]; exact D.eqvs_py ds es h1 h
    | scr es => rw [D.py, D.py, PyData.eqv, D.deq]; exact D.eqvs_py ds es h1 h
    | bl _ => cases h
    | ref _ => cases h
    | _ => simp [D.py, PyData.eqv, D.deq]
theorem D.eqvs_py : ∀ ds es : List D, D.plains ds = true → D.plains es = true → PyData.eqvAll (D.pys ds) (D.pys es) = D.deqs ds es
  | [], [], _, _ => by rw [D.pys, PyData.eqvAll, D.deqs]
  | [], _ :: _, _, _ => by simp [D.pys, PyData.eqvAll, D.deqs]
  | _ :: _, [], _, _ => by simp [D.pys, PyData.eqvAll, D.deqs]
  | d :: ds, e :: es, h1, h2 => by
    obtain ⟨a1, a2⟩ := Bool.and_eq_true_iff.mp (show (D.plain d && D.plains ds) = true from h1)
    obtain ⟨b1, b2⟩ := Bool.and_eq_true_iff.mp (show (D.plain e && D.plains es) = true from h2)
    rw [D.pys, D.pys, PyData.eqvAll, D.deqs, D.eqv_py d e a1 b1, D.eqvs_py ds es a2 b2]
end
theorem D.shaped_py {d : D} (h : D.plain d = true) (hd : D.dep d ≤ 64) : SeqAt.shaped (D.py d) = true := by
  unfold SeqAt.shaped
  rw [D.lay_py d h, D.dep_py d, decide_eq_true hd]; rfl
mutual
theorem RD.dp {K : PySem.W.Frag} {H : Hp} {S : Sto} : ∀ {v : V} {d : D}, RD K H S v d → D.plain d = true → Dp K H v (D.py d)
  | _, _, .non, _ => by rw [D.py]; exact .non
  | _, _, .bl _, h => by cases h
  | _, _, .int i, _ => by rw [D.py]; exact .int i
  | _, _, .str x, _ => by rw [D.py]; exact .str x
  | _, _, .ref _, h => by cases h
  | _, _, .tup h n r, k => by rw [D.py]; exact .tup (.inl h) (RDs.dp r k)
  | _, _, .lst h n r, k => by rw [D.py]; exact .lst (.inl (.inl h)) (RDs.dp r k)
  | _, _, .scr h n r, k => by rw [D.py]; exact .lst (.inl (.inr ⟨_, h⟩)) (RDs.dp r k)
  | _, _, .ktup h1 h2 h3 h4 h5 r, k => by rw [D.py]; exact .tup (.inr ⟨_, _, _, h1, h2, h3, h4, h5⟩) (RDs.dp r k)
  | _, _, .klst h1 h2 h3 h4 h5 h6 r, k => by rw [D.py]; exact .lst (.inr ⟨_, _, _, h1, h2, h3, h4, h5, h6⟩) (RDs.dp r k)
theorem RDs.dp {K : PySem.W.Frag} {H : Hp} {S : Sto} : ∀ {vs : List V} {ds : List D}, RDs K H S vs ds → D.plains ds = true → DpAll K H vs (D.pys ds)
  | _, _, .nil, _ => by rw [D.pys]; exact .nil
  | _, _, .cons (d := d) (ds := ds) h r, k => by
    obtain ⟨a1, a2⟩ := Bool.and_eq_true_iff.mp (show (D.plain d && D.plains ds) = true from k)
    rw [D.pys]; exact .cons (RD.dp h a1) (RDs.dp r a2)
end
/-- a list of the store is looked at as it stands -/
def look (S : Sto) : D → D
  | .ref p => match S p with
    | some (.lst ds) => .lst ds
    | _ => .ref p
  | d => d
theorem look_dp {K : PySem.W.Frag} {H : Hp} {S : Sto} {v : V} {d : D} (s : RSto K H S) (r : RD K H S v d) (h : D.plain (look S d) = true) : Dp K H v (D.py (look S d)) := by
  cases d with
  | ref p =>
    cases r
    simp only [look] at h ⊢
    cases e : S p with
    | none => rw [e] at h; cases h
    | some o =>
      rw [e] at h
      cases o with
      | lst ds =>
        obtain ⟨vs, e1, r1⟩ := s p _ e
        simp only
        rw [D.py]
        exact .lst (.inl (.inl e1)) (r1.dp h)
      | _ => cases h
  | _ => exact r.dp h
def eqOk (d e : D) : Bool := match d, e with
  | .bl _, .bl _ => true
  | d, e => D.plain d && D.plain e && decide (D.dep d ≤ 64) && decide (D.dep e ≤ 64)
theorem eqOk_at {d e : D} (h : eqOk d e = true) : (∃ a b, d = .bl a ∧ e = .bl b) ∨ (D.plain d = true ∧ D.plain e = true ∧ D.dep d ≤ 64 ∧ D.dep e ≤ 64) := by
  unfold eqOk at h
  split at h
  · exact .inl ⟨_, _, rfl, rfl⟩
  · simp only [Bool.and_eq_true, decide_eq_true_eq] at h
    exact .inr ⟨h.1.1.1, h.1.1.2, h.1.2, h.2⟩
def rEqM : R2m := fun d e S Q => eqOk (look S d) (look S e) = true ∧ Q (.bl (D.deq (look S d) (look S e))) S
def rNeM : R2m := fun d e S Q => eqOk (look S d) (look S e) = true ∧ Q (.bl (!D.deq (look S d) (look S e))) S
section
variable {X : Cx} {W : WX} {a b c e tg : Expr} {ma mb mc m : ME} {pos : Pos}
theorem look_bl {S : Sto} {d : D} {a : Bool} (h : look S d = .bl a) : d = .bl a := by
  cases d with
  | ref p => simp only [look] at h; split at h <;> cases h
  | _ => exact h
theorem ol_eq : OpL X.K (fun x y H Q => rEq x y H Q ∨ rEqD X.K x y H Q) rEqM := fun H S x y d e Qm Q s rx ry ⟨h1, h2⟩ k => by
  rcases eqOk_at h1 with ⟨p, q, e1, e2⟩ | ⟨p1, p2, d1, d2⟩
  · rw [e1, e2] at h2
    cases look_bl e1; cases look_bl e2
    cases rx; cases ry
    refine .inl ⟨rfl, k _ S _ H h2 Ext.refl s ?_⟩
    rw [dec_bl]; rw [D.deq]; exact .bl _
  · refine .inr ⟨_, _, look_dp s rx p1, look_dp s ry p2, D.shaped_py p1 d1, D.shaped_py p2 d2, k _ S _ H h2 Ext.refl s ?_⟩
    rw [D.eqv_py _ _ p1 p2]; exact .bl _
theorem ol_ne : OpL X.K (fun x y H Q => rNe x y H Q ∨ rNeD X.K x y H Q) rNeM := fun H S x y d e Qm Q s rx ry ⟨h1, h2⟩ k => by
  rcases eqOk_at h1 with ⟨p, q, e1, e2⟩ | ⟨p1, p2, d1, d2⟩
  · rw [e1, e2] at h2
    cases look_bl e1; cases look_bl e2
    cases rx; cases ry
    refine .inl ⟨rfl, k _ S _ H h2 Ext.refl s ?_⟩
    rw [dec_bl]; rw [D.deq]; exact .bl _
  · refine .inr ⟨_, _, look_dp s rx p1, look_dp s ry p2, D.shaped_py p1 d1, D.shaped_py p2 d2, k _ S _ H h2 Ext.refl s ?_⟩
    rw [D.eqv_py _ _ p1 p2]; exact .bl _
theorem op_eqA (hu : X.A.units + 64 < cLine) : OpR X (compareOp .Eq) (fun x y H Q => rEq x y H Q ∨ rEqD X.K x y H Q) := op_eq.or (op_eqD hu)
theorem op_neA (hu : X.A.units + 64 < cLine) : OpR X (compareOp .NotEq) (fun x y H Q => rNe x y H Q ∨ rNeD X.K x y H Q) := op_ne.or (op_neD hu)
/-! ### in -/
theorem op_inDT (hu : X.A.units + 65 < cLine) : OpR X (compareOp .In) (fun x y H Q => ∃ d ds, Dp X.K H x d ∧ Dp X.K H y (.tuple ds) ∧ SeqAt.shaped d = true ∧ SeqAt.shaped (.tuple ds) = true ∧ Q (.bl (ds.any fun z => PyData.eqv z d)) H) := by
  intro pins s σ H x y v u Q I rx ry h
  have ⟨d, ds, hd, he, sd, se, q⟩ := h
  have ⟨as, r1⟩ := Dp.reads I d x v hd rx
  have ⟨bs, r2⟩ := Dp.reads I (.tuple ds) y u he ry
  have hm : min (PyData.depthAll ds) d.depth ≤ d.depth := Nat.min_le_right _ _
  have hd64 := SeqAt.depth_of_shaped sd
  exact SeqAt.in_tuple_reads r2 r1 (SeqAt.canLay_of_shaped se) (SeqAt.canLay_of_shaped sd) (by omega) ⟨.bl _, H, I, rfl, q⟩
theorem op_notInDT (hu : X.A.units + 65 < cLine) : OpR X (compareOp .NotIn) (fun x y H Q => ∃ d ds, Dp X.K H x d ∧ Dp X.K H y (.tuple ds) ∧ SeqAt.shaped d = true ∧ SeqAt.shaped (.tuple ds) = true ∧ Q (.bl (!ds.any fun z => PyData.eqv z d)) H) := by
  intro pins s σ H x y v u Q I rx ry h
  have ⟨d, ds, hd, he, sd, se, q⟩ := h
  have ⟨as, r1⟩ := Dp.reads I d x v hd rx
  have ⟨bs, r2⟩ := Dp.reads I (.tuple ds) y u he ry
  have hm : min (PyData.depthAll ds) d.depth ≤ d.depth := Nat.min_le_right _ _
  have hd64 := SeqAt.depth_of_shaped sd
  exact SeqAt.notIn_tuple_reads r2 r1 (SeqAt.canLay_of_shaped se) (SeqAt.canLay_of_shaped sd) (by omega) ⟨.bl _, H, I, rfl, q⟩
def memD (d : D) (ds : List D) : Bool := ds.any fun z => D.deq z d
theorem memD_py {d : D} {ds : List D} (h : D.plain d = true) (hs : D.plains ds = true) : ((D.pys ds).any fun z => PyData.eqv z (D.py d)) = memD d ds := by
  induction ds with
  | nil => rw [D.pys]; rfl
  | cons e es ih =>
    obtain ⟨a1, a2⟩ := Bool.and_eq_true_iff.mp (show (D.plain e && D.plains es) = true from hs)
    rw [D.pys]
    show (PyData.eqv (D.py e) (D.py d) || (D.pys es).any _) = (D.deq e d || memD d es)
    rw [D.eqv_py e d a1 h, ih a2]
/-- x in a list or a tuple -/
def rInM (neg : Bool) : R2m := fun d e S Q => match look S e with
  | .tup ds => (D.plain d = true ∧ D.plains ds = true ∧ D.dep d ≤ 64 ∧ D.deps ds ≤ 63) ∧ Q (.bl (if neg then !memD d ds else memD d ds)) S
  | .lst ds => (D.plain d = true ∧ D.plains ds = true ∧ D.dep d ≤ 64 ∧ D.deps ds ≤ 63) ∧ Q (.bl (if neg then !memD d ds else memD d ds)) S
  | .scr ds => (D.plain d = true ∧ D.plains ds = true ∧ D.dep d ≤ 64 ∧ D.deps ds ≤ 63) ∧ Q (.bl (if neg then !memD d ds else memD d ds)) S
  | _ => False
theorem rInM_at {neg : Bool} {d e : D} {S : Sto} {Q : MQ} (h : rInM neg d e S Q) : ∃ ds, (look S e = .tup ds ∨ look S e = .lst ds ∨ look S e = .scr ds) ∧ (D.plain d = true ∧ D.plains ds = true ∧ D.dep d ≤ 64 ∧ D.deps ds ≤ 63) ∧ Q (.bl (if neg then !memD d ds else memD d ds)) S := by
  unfold rInM at h
  split at h
  · next ds q => exact ⟨ds, .inl q, h⟩
  · next ds q => exact ⟨ds, .inr (.inl q), h⟩
  · next ds q => exact ⟨ds, .inr (.inr q), h⟩
  · exact h.elim
theorem ol_in : OpL X.K (fun x y H Q => rInD X.K x y H Q ∨ ∃ d ds, Dp X.K H x d ∧ Dp X.K H y (.tuple ds) ∧ SeqAt.shaped d = true ∧ SeqAt.shaped (.tuple ds) = true ∧ Q (.bl (ds.any fun z => PyData.eqv z d)) H) (rInM false) := fun H S x y d e Qm Q s rx ry h k => by
  obtain ⟨ds, hl, ⟨p1, p2, d1, d2⟩, q⟩ := rInM_at h
  have pl : D.plain (look S e) = true := by rcases hl with z | z | z <;> (rw [z]; exact p2)
  have dl : D.dep (look S e) ≤ 64 := by rcases hl with z | z | z <;> (rw [z, D.dep]; omega)
  have dp := look_dp s ry pl
  have sh := D.shaped_py pl dl
  have fin : ∀ K', RD K' H S (.bl ((D.pys ds).any fun z => PyData.eqv z (D.py d))) (.bl (memD d ds)) := fun _ => by rw [memD_py p1 p2]; exact .bl _
  rcases hl with z | z | z
  · rw [z, D.py] at dp sh
    exact .inr ⟨_, _, rx.dp p1, dp, D.shaped_py p1 d1, sh, k _ S _ H q Ext.refl s (fin _)⟩
  · rw [z, D.py] at dp sh
    exact .inl ⟨_, _, rx.dp p1, dp, D.shaped_py p1 d1, sh, k _ S _ H q Ext.refl s (fin _)⟩
  · rw [z, D.py] at dp sh
    exact .inl ⟨_, _, rx.dp p1, dp, D.shaped_py p1 d1, sh, k _ S _ H q Ext.refl s (fin _)⟩
theorem ol_notIn : OpL X.K (fun x y H Q => rNotInD X.K x y H Q ∨ ∃ d ds, Dp X.K H x d ∧ Dp X.K H y (.tuple ds) ∧ SeqAt.shaped d = true ∧ SeqAt.shaped (.tuple ds) = true ∧ Q (.bl (!ds.any fun z => PyData.eqv z d)) H) (rInM true) := fun H S x y d e Qm Q s rx ry h k => by
  obtain ⟨ds, hl, ⟨p1, p2, d1, d2⟩, q⟩ := rInM_at h
  have pl : D.plain (look S e) = true := by rcases hl with z | z | z <;> (rw [z]; exact p2)
  have dl : D.dep (look S e) ≤ 64 := by rcases hl with z | z | z <;> (rw [z, D.dep]; omega)
  have dp := look_dp s ry pl
  have sh := D.shaped_py pl dl
  have fin : ∀ K', RD K' H S (.bl (!(D.pys ds).any fun z => PyData.eqv z (D.py d))) (.bl (!memD d ds)) := fun _ => by rw [memD_py p1 p2]; exact .bl _
  rcases hl with z | z | z
  · rw [z, D.py] at dp sh
    exact .inr ⟨_, _, rx.dp p1, dp, D.shaped_py p1 d1, sh, k _ S _ H q Ext.refl s (fin _)⟩
  · rw [z, D.py] at dp sh
    exact .inl ⟨_, _, rx.dp p1, dp, D.shaped_py p1 d1, sh, k _ S _ H q Ext.refl s (fin _)⟩
  · rw [z, D.py] at dp sh
    exact .inl ⟨_, _, rx.dp p1, dp, D.shaped_py p1 d1, sh, k _ S _ H q Ext.refl s (fin _)⟩
theorem op_inA (hu : X.A.units + 65 < cLine) : OpR X (compareOp .In) (fun x y H Q => rInD X.K x y H Q ∨ ∃ d ds, Dp X.K H x d ∧ Dp X.K H y (.tuple ds) ∧ SeqAt.shaped d = true ∧ SeqAt.shaped (.tuple ds) = true ∧ Q (.bl (ds.any fun z => PyData.eqv z d)) H) := (op_inD hu).or (op_inDT hu)
theorem op_notInA (hu : X.A.units + 65 < cLine) : OpR X (compareOp .NotIn) (fun x y H Q => rNotInD X.K x y H Q ∨ ∃ d ds, Dp X.K H x d ∧ Dp X.K H y (.tuple ds) ∧ SeqAt.shaped d = true ∧ SeqAt.shaped (.tuple ds) = true ∧ Q (.bl (!ds.any fun z => PyData.eqv z d)) H) := (op_notInD hu).or (op_notInDT hu)
/-! ### is True, is False -/
def rIsBM (neg : Bool) : R2m := fun d e S Q => match d, e with
  | .bl p, .bl q => Q (.bl (if neg then !decide (p = q) else decide (p = q))) S
  | _, _ => False
/-! ### isinstance with built-in types -/
def tyD (S : Sto) : D → Option String
  | .non => some "NoneType"
  | .bl _ => some "bool"
  | .int _ => some "int"
  | .str _ => some "str"
  | .tup _ => some "tuple"
  | .lst _ => some "list"
  | .scr _ => some "list"
  | .ref p => match S p with
    | some (.lst _) => some "list"
    | some (.dK _) => some "dict"
    | _ => none
/-- isinstance of these types by these -/
def isTy (t u : String) : Bool := t == u || (t == "bool" && u == "int")
def mIsi (u : String) (m : ME) : ME := fun σ S Q E => m σ S (fun d S1 => match tyD S1 d with
  | some t => Q (.bl (isTy t u)) S1
  | none => False) E
/-! ### slices -/
def cutD (xs : List D) (lo hi : Option Int) : List D := (xs.drop (HT.sIx xs.length 0 lo)).take (HT.sIx xs.length xs.length hi - HT.sIx xs.length 0 lo)
theorem cut_rds {K : PySem.W.Frag} {H : Hp} {S : Sto} {vs : List V} {ds : List D} (r : RDs K H S vs ds) (lo hi : Option Int) : RDs K H S (cutV vs lo hi) (cutD ds lo hi) := by
  unfold cutV cutD
  rw [r.length]
  exact (r.drop _).take _
abbrev MO' := MSt → Sto → (Option Int → Sto → Prop) → MXQ → Prop
def upO (K : PySem.W.Frag) (W : WX) (m : MO') : TO := fun σ H Q => ∃ mσ S Qm Em, RSt K H S σ mσ ∧ RSto K H S ∧ m mσ S Qm Em ∧ (∀ o S' H', Qm o S' → Ext H S H' S' → RSto K H' S' → Q o H') ∧ RefX K H S Em (fun c d H' => W c d σ H')
def oNo : MO' := fun _ S Q _ => Q none S
def oSo (m : ME) : MO' := fun σ S Q E => m σ S (fun d S1 => match d with
  | .int i => Q (some i) S1
  | _ => False) E
theorem PO_to {oe : Option Expr} {t t' : TO} (h : PO X oe t) (i : ∀ σ H Q, t' σ H Q → t σ H Q) : PO X oe t' := by
  constructor
  intros
  apply h.run
  · assumption
  · exact i _ _ _ (by assumption)
theorem ono : PO X none (upO X.K W oNo) := PO_to po_none fun σ H Q ⟨m, S, Qm, Em, h1, h2, h3, h4, h5⟩ => h4 none S H h3 Ext.refl h2
theorem oso (h : PE X e (upE X.K W m)) : PO X (some e) (upO X.K W (oSo m)) := PO_to (po_some h) fun σ H Q ⟨m, S, Qm, Em, h1, h2, h3, h4, h5⟩ => ⟨m, S, _, Em, h1, h2, h3, fun d S1 v H1 q e s r => by
  cases d with
  | int i => cases r; exact ⟨i, rfl, h4 _ S1 H1 q e s⟩
  | _ => exact q.elim, h5⟩
/-- xs[lo:hi] of a list: a new one, which stays; of a tuple (not the whole of it) -/
def mCut (m : ME) (lo hi : MO') : ME := fun σ S Q E => m σ S (fun d S1 => lo σ S1 (fun l S2 => hi σ S2 (fun u S3 => match d with
  | .tup xs => ¬ (HT.sIx xs.length 0 l = 0 ∧ HT.sIx xs.length xs.length u = xs.length) ∧ Q (.tup (cutD xs l u)) S3
  | d => match lstOf S3 d with
    | some xs => Q (.lst (cutD xs l u)) S3
    | none => False) E) E) E
theorem ecut {lo hi : Option Expr} {ml mh : MO'} {p2 : Pos} (he : PE X e (upE X.K W m)) (hl : PO X lo (upO X.K W ml)) (hu : PO X hi (upO X.K W mh)) : PE X (.Subscript e (.Slice lo hi none p2) pos) (upE X.K W (mCut m ml mh)) :=
  (pe_slice (sl_tup.or sl_list) he hl hu).to fun σ H Q ⟨m, S, Qm, Em, h1, h2, h3, h4, h5⟩ => by
    refine ⟨m, S, _, Em, h1, h2, h3, fun d S1 v H1 q1 e1 s1 r1 => ⟨m, S1, _, Em, h1.ext e1, s1, q1, fun l S2 H2 q2 e2 s2 => ⟨m, S2, _, Em, h1.ext (e1.trans e2), s2, q2, fun u S3 H3 q3 e3 s3 => ?_, h5.ext (e1.trans e2)⟩, h5.ext e1⟩, h5⟩
    have r3 := r1.ext (e2.trans e3)
    have e123 := e1.trans (e2.trans e3)
    split at q3
    · next xs =>
      obtain ⟨a, vs, rfl, hq, rs⟩ := r3.tupSq
      refine .inl ⟨a, vs, rfl, hq, by rw [rs.length]; exact q3.1, fun p hp => ?_⟩
      exact h4 _ S3 _ _ q3.2 (e123.trans (Ext.new s3 hp)) (s3.new hp) (.tup (.inl upd_same) (s3.fresh hp) ((cut_rds rs l u).ext (Ext.new s3 hp)))
    · cases e : lstOf S3 d with
      | none => rw [e] at q3; exact q3.elim
      | some xs =>
        rw [e] at q3
        obtain ⟨a, vs, rfl, hq, rs⟩ := lst_sq s3 r3 e
        exact .inr ⟨a, vs, rfl, hq, fun p hp => h4 _ S3 _ _ q3 (e123.trans (Ext.new s3 hp)) (s3.new hp) (.lst upd_same (s3.fresh hp) ((cut_rds rs l u).ext (Ext.new s3 hp)))⟩
/-! ### methods of lists -/
/-- the receiver is a list -/
def isLst (S : Sto) (d : D) : Prop := ∃ xs, lstOf S d = some xs
abbrev RMm := D → List D → Sto → MQ → Prop
def MtL (K : PySem.W.Frag) (r : V → List V → Hp → VK → Prop) (rm : RMm) : Prop := ∀ (H : Hp) (S : Sto) (x : V) (xs : List V) (d : D) (ds : List D) (Qm : MQ) (Q : VK), RSto K H S → RD K H S x d → RDs K H S xs ds → rm d ds S Qm → Ref K H S Qm Q → r x xs H Q
def mMt (rm : RMm) (mo : ME) (t : MA) : ME := fun σ S Q E => mo σ S (fun d S1 => isLst S1 d ∧ t σ S1 (fun ds S2 => rm d ds S2 Q) E) E
def mMt0 (rm : RMm) (mo : ME) : ME := fun σ S Q E => mo σ S (fun d S1 => isLst S1 d ∧ rm d [] S1 Q) E
theorem isLst_ty {K : PySem.W.Frag} {H : Hp} {S : Sto} {v : V} {d : D} (s : RSto K H S) (r : RD K H S v d) (h : isLst S d) : tyV K "list" v H := by
  obtain ⟨xs, e⟩ := h
  obtain ⟨a, vs, rfl, hq, _⟩ := lst_sq s r e
  exact .inl ⟨rfl, vs, hq⟩
theorem emt {id : String} {name : Str} {r : V → List V → Hp → VK → Prop} {rm : RMm} {o : Expr} {mo : ME} {es : List Expr} {mas : MA} {apos cpos : Pos} (slot : Slot "list" name id) (hty : typeOf (.builtin id) = pure (.type "method_descriptor")) (hm : MtR X id r) (hl : MtL X.K r rm) (ho : PE X o (upE X.K W mo)) (ha : PA X (e :: es) (upA X.K W mas))
    (hbase : attributeBase o name X.env (eval o X.env) = eval o X.env := by rfl)
    (hfew : ((backTo cpos (starEach (e :: es) X.env)).all (fun x => !x.1) && (backToKw cpos (keywordEach [] X.env)).all (fun x => x.1.isSome)
      && decide ((e :: es).length + ([] : List Keyword).length + (if ([] : List Keyword).isEmpty then 0 else 1) < 30)) = true := by rfl)
    (hline : (apos.endLine == cpos.line) = true := by rfl) (hs : starEach (e :: es) X.env = (false, eval e X.env) :: starEach es X.env := by rfl) (hplain : (backTo cpos (starEach es X.env)).any (·.1) = false := by rfl) :
    PE X (.Call (.Attribute o name apos) (e :: es) [] cpos) (upE X.K W (mMt rm mo mas)) :=
  (pe_bm PySem.F.plainAttrs_list slot hty hm ho ha hbase hfew hline hs hplain).to fun σ H Q ⟨m, S, Qm, Em, h1, h2, h3, h4, h5⟩ =>
    ⟨m, S, _, Em, h1, h2, h3, fun d S1 v H1 q1 e1 s1 r1 => ⟨isLst_ty s1 r1 q1.1, m, S1, _, Em, h1.ext e1, s1, q1.2, fun ds S2 vs H2 q2 e2 s2 r2 => hl H2 S2 v vs d ds Qm Q s2 (r1.ext e2) r2 q2 (h4.ext (e1.trans e2)), h5.ext e1⟩, h5⟩
/-- a list of the store becomes another one -/
theorem chg_lst {K : PySem.W.Frag} {H : Hp} {S : Sto} {p : Addr} {xs ys : List D} {vs : List V} (s : RSto K H S) (e : S p = some (.lst xs)) (r : RDs K H S vs ys) : Ext H S (upd H p (.lst vs)) (put S p (.lst ys)) ∧ RSto K (upd H p (.lst vs)) (put S p (.lst ys)) :=
  ⟨Ext.chg e, s.chg e ⟨vs, upd_same, r.ext (Ext.chg e)⟩⟩
def mtAppend : RMm := fun d ds S Q => match d, ds with
  | .ref p, [y] => match S p with
    | some (.lst xs) => xs.length < sizeLine ∧ Q .non (put S p (.lst (xs ++ [y])))
    | _ => False
  | _, _ => False
theorem ml_append : MtL X.K rAppend mtAppend := fun H S x vs d ds Qm Q s rx rs h k => by
  unfold mtAppend at h
  split at h
  · next p y =>
    cases rx
    obtain ⟨w, rfl, rw1⟩ := rds1 rs
    split at h
    · next xs e =>
      obtain ⟨us, eu, ru⟩ := s p _ e
      obtain ⟨x1, x2⟩ := chg_lst s e (ru.append (.cons rw1 .nil))
      exact ⟨p, us, w, rfl, rfl, eu, by rw [ru.length]; exact h.1, k _ _ _ _ h.2 x1 x2 .non⟩
    · exact h.elim
  · exact h.elim
def mtInsert : RMm := fun d ds S Q => match d, ds with
  | .ref p, [.int i, y] => match S p with
    | some (.lst xs) => (xs.length < sizeLine ∧ 0 ≤ i ∧ i < 2 ^ 63) ∧ Q .non (put S p (.lst (xs.take i.toNat ++ [y] ++ xs.drop i.toNat)))
    | _ => False
  | _, _ => False
/-- pop(): the last one; pop(i) -/
def mtPop : RMm := fun d ds S Q => match d, ds with
  | .ref p, [] => match S p with
    | some (.lst xs) => match xs[xs.length - 1]? with
      | some y => Q y (put S p (.lst xs.dropLast))
      | none => False
    | _ => False
  | _, _ => False
def mtPop0 : RMm := fun d ds S Q => match d, ds with
  | .ref p, [.int 0] => match S p with
    | some (.lst (y :: xs)) => Q y (put S p (.lst xs))
    | _ => False
  | _, _ => False
def mtReverse : RMm := fun d ds S Q => match d, ds with
  | .ref p, [] => match S p with
    | some (.lst xs) => Q .non (put S p (.lst xs.reverse))
    | _ => False
  | _, _ => False
def mtClear : RMm := fun d ds S Q => match d, ds with
  | .ref p, [] => match S p with
    | some (.lst xs) => Q .non (put S p (.lst []))
    | _ => False
  | _, _ => False
def mtExtend : RMm := fun d ds S Q => match d, ds with
  | .ref p, [y] => match S p, ownOf S y with
    | some (.lst xs), some ys => xs.length + ys.length ≤ sizeLine ∧ Q .non (put S p (.lst (xs ++ ys)))
    | _, _ => False
  | _, _ => False
/-- index: the first place of an equal one -/
def idxD (d : D) : List D → Option Nat
  | [] => none
  | e :: es => if D.deq e d = true then some 0 else (idxD d es).map (· + 1)
def mtIndex : RMm := fun d ds S Q => match ds with
  | [y] => match lstOf S d with
    | some xs => (D.plain y = true ∧ D.plains xs = true ∧ D.dep y ≤ 64 ∧ D.deps xs ≤ 63) ∧ match idxD y xs with
      | some j => Q (.int (j : Nat)) S
      | none => False
    | none => False
  | _ => False
end
end ML
set_option maxRecDepth 100000
namespace ML
open PySem PySem.Spec L2
open PyProof.Rows hiding St
theorem u65 {k : Nat} {A : Around} (r : Room k A) : A.units + 65 < cLine := by have := r.un; omega
section
variable {X : Cx} {W : WX} {a b c e tg : Expr} {ma mb mc m : ME} {pos : Pos} {g : MG}
theorem eglobI {x : Str} {i : Int} {pos : Pos} (hm : ∃ t, X.mg x = some (.int i t)) (hg : Gl X x := by rfl) (hd : (x == ("__debug__" : Str)) = false := by decide) : PE X (.Name x pos) (upE X.K W (mC (.int i))) := by
  obtain ⟨t, h⟩ := hm
  exact eglob (v := .int i) (fun _ _ _ => .int i) ⟨t, rfl⟩ h hg hd
theorem eglobS {x : Str} {i : Str} {pos : Pos} (hm : ∃ t, X.mg x = some (.str i t)) (hg : Gl X x := by rfl) (hd : (x == ("__debug__" : Str)) = false := by decide) : PE X (.Name x pos) (upE X.K W (mC (.str i))) := by
  obtain ⟨t, h⟩ := hm
  exact eglob (v := .str i) (fun _ _ _ => .str i) ⟨t, rfl⟩ h hg hd
/-! ### comprehensions -/
def wipeM (σ : MSt) : List Nat → MSt
  | [] => σ
  | v :: vs => (wipeM σ vs).set v none
theorem wipe_rst {K : PySem.W.Frag} {H : Hp} {S : Sto} {σ : L2.St} {m : MSt} (r : RSt K H S σ m) : ∀ vs : List Nat, RSt K H S (wipe σ vs) (wipeM m vs)
  | [] => r
  | v :: vs => (wipe_rst r vs).unset v none
theorem wipe_get {σ : L2.St} {i : Nat} : ∀ {vs : List Nat}, i < σ.length → (wipe σ vs)[i]? = if i ∈ vs then some none else σ[i]?
  | [], _ => by simp [wipe]
  | v :: vs, h => by
    unfold wipe
    by_cases hv : v = i
    · subst hv
      rw [List.getElem?_set_self (by rw [wipe_length]; exact h)]
      simp
    · rw [List.getElem?_set_ne hv, wipe_get h]
      simp [Ne.symm hv]
theorem wipe_ext {σ τ : L2.St} {vs : List Nat} (hl : σ.length = τ.length) (h : ∀ i, i ∉ vs → σ[i]? = τ[i]?) : wipe σ vs = wipe τ vs := by
  apply List.ext_getElem?
  intro i
  by_cases hi : i < σ.length
  · rw [wipe_get hi, wipe_get (by omega)]
    split
    · rfl
    · next hn => exact h i hn
  · rw [List.getElem?_eq_none (by rw [wipe_length]; omega), List.getElem?_eq_none (by rw [wipe_length]; omega)]
theorem wipe_idem {σ : L2.St} {vs : List Nat} : wipe (wipe σ vs) vs = wipe σ vs :=
  wipe_ext (wipe_length _ _) fun i hi => by
    by_cases hl : i < σ.length
    · rw [wipe_get hl, if_neg hi]
    · rw [List.getElem?_eq_none (by rw [wipe_length]; omega), List.getElem?_eq_none (by omega)]
theorem wipe_set {σ : L2.St} {vs : List Nat} {i : Nat} {o : Option V} (h : i ∈ vs) : wipe (σ.set i o) vs = wipe σ vs :=
  wipe_ext (List.length_set ..) fun j hj => List.getElem?_set_ne (fun e => by subst e; exact hj h)
/-- a target that stores the names at vs alone, and raises nothing -/
def upGo (K : PySem.W.Frag) (vs : List Nat) (g : MG) : TG := fun v σ H Q => ∃ d mσ S Qm, RD K H S v d ∧ RSt K H S σ mσ ∧ RSto K H S ∧ g d mσ S Qm (fun _ _ => False) ∧ ∀ m S' σ' H', Qm m S' → Ext H S H' S' → RSto K H' S' → RSt K H' S' σ' m → wipe σ' vs = wipe σ vs → Q σ' H'
theorem gonm {i : Nat} {x : Str} {vs : List Nat} (hN : X.N.Nodup) (hv : i ∈ vs) (hi : X.N[i]? = some x := by rfl) (hx : Loc X.env.scope x := by first | exact Or.inl rfl | exact Or.inr rfl) (hf : X.fn x = true ∨ X.env.scope.names.lookup x = some .local := by first | exact .inr rfl | exact .inl rfl | assumption) :
    PG X (.Name x pos) (upGo X.K vs (gNm i)) := (pg_name hN hi hx hf).to fun v σ H Q ⟨d, m, S, Qm, r, h1, h2, h3, h4⟩ => h4 _ S _ H h3 Ext.refl h2 (h1.set r i) (wipe_set hv)
def upGos (K : PySem.W.Frag) (vs : List Nat) (g : MGs) : TGs := fun us σ H Q => ∃ ds mσ S Qm, RDs K H S us ds ∧ RSt K H S σ mσ ∧ RSto K H S ∧ g ds mσ S Qm (fun _ _ => False) ∧ ∀ m S' σ' H', Qm m S' → Ext H S H' S' → RSto K H' S' → RSt K H' S' σ' m → wipe σ' vs = wipe σ vs → Q σ' H'
theorem gonl {vs : List Nat} : PGs X [] (upGos X.K vs gNl) := by
  constructor
  intro pins s σ H us ws Q I r ⟨ds, m, S, Qm, r1, h1, h2, h3, h4⟩
  cases ds with
  | nil => cases r1; exact pgs_nil.run pins s σ H [] ws Q I r ⟨rfl, h4 m S σ H h3 Ext.refl h2 h1 rfl⟩
  | cons _ _ => exact h3.elim
theorem gocn {vs : List Nat} {gs : MGs} {es : List Expr} (h1 : PG X e (upGo X.K vs g)) (h2 : PGs X es (upGos X.K vs gs)) (hs : (assignEach (e :: es) X.env).map (·.2) = assign e X.env :: (assignEach es X.env).map (·.2) := by rfl) : PGs X (e :: es) (upGos X.K vs (gCn g gs)) := by
  constructor
  intro pins s σ H us ws Q I r ⟨ds, m, S, Qm, r1, k1, k2, k3, k4⟩
  refine (pgs_cons h1 h2 hs).run pins s σ H us ws Q I r ?_
  cases ds with
  | nil => exact k3.elim
  | cons d ds =>
    cases r1 with
    | cons rd rds =>
      refine ⟨_, _, rfl, d, m, S, _, rd, k1, k2, k3, fun m' S' σ' H' q e s' st w1 => ?_⟩
      exact ⟨ds, m', S', Qm, rds.ext e, st, s', q, fun m2 S2 σ2 H2 q2 e2 s2 r2 w2 => k4 m2 S2 σ2 H2 q2 (e.trans e2) s2 r2 (w2.trans w1)⟩
theorem gotp {vs : List Nat} {gs : MGs} {es : List Expr} {k n : Nat} (hc : X.calm = true) (h : PGs X es (upGos X.K vs gs)) (hn : (assignEach es X.env).length = n := by rfl) (hst : (assignEach es X.env).findIdx? (·.1) = none := by rfl) : PG X (.Tuple es k pos) (upGo X.K vs (gTp n gs)) :=
  (pg_tup hc h hn hst).to fun v σ H Q ⟨d, m, S, Qm, r, h1, h2, h3, h4⟩ => by
    cases d with
    | tup ds =>
      obtain ⟨a, us, rfl, hq, rs⟩ := r.tupSq
      exact ⟨a, us, rfl, hq, rs.length.trans h3.1, ds, m, S, Qm, rs, h1, h2, h3.2, h4⟩
    | _ => exact h3.elim
abbrev W0 : WX := fun _ _ _ _ => False
def mYes : MT := fun _ S Q _ => Q true S
theorem tsNil : PTs X [] (upT X.K W0 mYes) := by
  constructor
  intro pins s σ H Q I ⟨m, S, Qm, Em, h1, h2, h3, h4, _⟩
  exact pts_nil.run pins s σ H Q I (h4 true S H h3 Ext.refl h2)
def noX : MXQ := fun _ _ => False
def wlc (G : Sto → Prop) (g : MG) (mt : MT) (me : ME) (p : Addr) (own : List Nat) (σ : MSt) (fin : List D → Sto → Prop) (items : List D) (S : Sto) : Prop := ∃ I : Nat → Sto → Prop, I 0 S ∧ ∀ i S, i ≤ items.length → I i S → G S ∧ match items[i]? with
  | some d => g d (wipeM σ own) S (fun σ2 S2 => mt σ2 S2 (fun k S3 => if k = true then me σ2 S3 (fun y S4 => ∃ acc, S4 p = some (.lst acc) ∧ acc.length < sizeLine ∧ I (i + 1) (put S4 p (.lst (acc ++ [y])))) noX else I (i + 1) S3) noX) noX
  | none => ∃ acc, S p = some (.lst acc) ∧ fin acc S
def del (S : Sto) (p : Addr) : Sto := fun b => if b = p then none else S b
theorem del_put {S : Sto} {p : Addr} {o : MO} (h : S p = none) : del (put S p o) p = S := by
  funext b; unfold del put
  by_cases e : b = p
  · subst e; rw [if_pos rfl, h]
  · rw [if_neg e, if_neg e]
/-- a new list of the store; one that stays -/
def mComp (mi : MI) (g : MG) (mt : MT) (me : ME) (own : List Nat) : ME := fun σ S Q E => mi σ S (fun items G S1 => ∀ p, S1 p = none → wlc G g mt me p own σ (fun _ S2 => Q (.ref p) S2) items (put S1 p (.lst []))) E
def mCompF (mi : MI) (g : MG) (mt : MT) (me : ME) (own : List Nat) : ME := fun σ S Q E => mi σ S (fun items G S1 => ∀ p, S1 p = none → wlc G g mt me p own σ (fun acc S2 => Q (.lst acc) (del S2 p)) items (put S1 p (.lst []))) E
/-- what the rule below wants, from the reading -/
theorem lc_to {mt : MT} {me : ME} {vs : List Nat} {K : PySem.W.Frag} {σ : L2.St} {m : MSt} {H1 : Hp} {S1 : Sto} {J : It} {items : List D} {G : Sto → Prop} {Dp : Addr} {Q : VK} {fin : List D → Sto → Prop} (h1 : RSt K H1 S1 σ m) (s1 : RSto K H1 S1) (it : ItOk K H1 S1 J items G)
    (hD : H1 Dp = none) (h : wlc G g mt me Dp vs m fin items (put S1 Dp (.lst [])))
    (hf : ∀ acc H S, fin acc S → S Dp = some (.lst acc) → Ext H1 S1 H S → RSto K H S → Q (.ref Dp) H) :
    ∃ W : Nat → Nat → Hp → Prop, (∃ n, W 0 n (upd H1 Dp (.lst []))) ∧ ∀ i n H, W i n H → (J.stop i H ∧ Q (.ref Dp) H) ∨ (J.go i H ∧ ∃ Nx : Hp → Prop, (∀ H', Nx H' → ∃ m', m' < n ∧ W (i + 1) m' H') ∧ ∀ x H', J.yld i H x H' →
      upGo K vs g x (wipe σ vs) H' fun σ2 H2 => wipe σ2 vs = wipe σ vs ∧ upT K W0 mt σ2 H2 fun b H3 => if b = true then upE K W0 me σ2 H3 fun y H4 => ∃ acc, H4 Dp = some (.lst acc) ∧ acc.length < sizeLine ∧ Nx (upd H4 Dp (.lst (acc ++ [y]))) else Nx H3) := by
  have x0 : Ext H1 S1 (upd H1 Dp (.lst [])) (put S1 Dp (.lst [])) := Ext.newS s1 hD
  obtain ⟨I, i0, turn⟩ := h
  refine ⟨fun i n H => n = items.length - i ∧ i ≤ items.length ∧ ∃ S, RSto K H S ∧ Ext H1 S1 H S ∧ I i S, ⟨items.length, by simp, Nat.zero_le _, _, s1.newS (o := .lst []) hD ⟨[], upd_same, .nil⟩, x0, i0⟩, ?_⟩
  rintro i n H ⟨rfl, hle, S, s, e, q⟩
  obtain ⟨gS, q⟩ := turn i S hle q
  by_cases hlt : i < items.length
  · rw [List.getElem?_eq_getElem hlt] at q
    refine .inr ⟨it.go i H S e s gS hlt, fun H' => ∃ S', RSto K H' S' ∧ Ext H1 S1 H' S' ∧ I (i + 1) S', fun H' z => ⟨items.length - (i + 1), by omega, rfl, hlt, z⟩, fun v H2 y => ?_⟩
    obtain ⟨e2, s2, r2⟩ := it.yld i H S v H2 _ e s gS (List.getElem?_eq_getElem hlt) y
    refine ⟨_, wipeM m vs, S, _, r2, wipe_rst (h1.ext (e.trans e2)) vs, s2, q, fun m3 S3 σ3 H3 q3 e3 s3 r3 w3 => ⟨w3.trans wipe_idem, m3, S3, _, noX, r3, s3, q3, fun k S4 H4 q4 e4 s4 => ?_, fun _ _ _ _ _ z => z.elim⟩⟩
    have e1234 := e.trans (e2.trans (e3.trans e4))
    cases k with
    | true =>
      rw [if_pos rfl] at q4
      show (if true = true then _ else _)
      rw [if_pos rfl]
      refine ⟨m3, S4, _, noX, r3.ext e4, s4, q4, fun d S5 w5 H5 q5 e5 s5 r5 => ?_, fun _ _ _ _ _ z => z.elim⟩
      obtain ⟨acc, ea, hz, q6⟩ := q5
      obtain ⟨us, eu, ru⟩ := s5 _ _ ea
      obtain ⟨x1, x2⟩ := chg_lst s5 ea (ru.append (.cons r5 .nil))
      exact ⟨us, eu, by rw [ru.length]; exact hz, _, x2, e1234.trans (e5.trans x1), q6⟩
    | false =>
      rw [if_neg Bool.false_ne_true] at q4
      show (if false = true then _ else _)
      rw [if_neg Bool.false_ne_true]
      exact ⟨S4, s4, e1234, q4⟩
  · rw [List.getElem?_eq_none (by omega)] at q
    obtain ⟨acc, ea, q⟩ := q
    exact .inl ⟨it.stop i H S e s gS (by omega), hf acc H S q ea e s⟩
theorem rsto_del {K : PySem.W.Frag} {H : Hp} {S : Sto} {p : Addr} (s : RSto K H S) : Ext H S H (del S p) := fun a o h n => ⟨h, by unfold del; split <;> first | rfl | exact n⟩
theorem rsto_del' {K : PySem.W.Frag} {H : Hp} {S : Sto} {p : Addr} (s : RSto K H S) : RSto K H (del S p) := fun a o e => by
  unfold del at e
  split at e
  · cases e
  · exact (s a o e).ext (rsto_del s) rfl
theorem ecomp {elt iter : Expr} {ifs : List Expr} {scope : Scope} {own : List (Str × Nat)} {mi : MI} {mt : MT} {me : ME} (hc : X.calm = true) (hN : X.N.Nodup) (hi : PI X tg iter (upI X.K W mi)) (ok : BlkOk X.N X.env.scope scope own)
    (hg : ∀ (s : Shared) (H : Hp) (C : Addr) (cl : List (Str × Addr)) (fp : List Addr), PG (X.blk s H scope (compEnvC scope cl C X.env) fp) tg (upGo X.K (own.map (·.2)) g)) (ht : ∀ (s : Shared) (H : Hp) (C : Addr) (cl : List (Str × Addr)) (fp : List Addr), PTs (X.blk s H scope (compEnvC scope cl C X.env) fp) ifs (upT X.K W0 mt))
    (he : ∀ (s : Shared) (H : Hp) (C : Addr) (cl : List (Str × Addr)) (fp : List Addr), PE (X.blk s H scope (compEnvC scope cl C X.env) fp) elt (upE X.K W0 me)) (hs : ∀ x, foldedSetIterable iter X.env x = pure x := by intro _; rfl) :
    PE X (.ListComp elt [⟨tg, iter, ifs, 0⟩] scope pos) (upE X.K W (mComp mi g mt me (own.map (·.2)))) :=
  (pe_lc hc hN hi ok hg ht he hs).to fun σ H Q ⟨m, S, Qm, Em, h1, h2, h3, h4, h5⟩ => ⟨m, S, _, Em, h1, h2, h3, fun items G S1 J H1 q e1 s1 it Dp hD =>
    lc_to (h1.ext e1) s1 it hD (q Dp (s1.fresh hD)) fun acc H' S' f ea e' s' => h4 _ S' _ H' f (e1.trans e') s' (.ref Dp), h5⟩
theorem ecompF {elt iter : Expr} {ifs : List Expr} {scope : Scope} {own : List (Str × Nat)} {mi : MI} {mt : MT} {me : ME} (hc : X.calm = true) (hN : X.N.Nodup) (hi : PI X tg iter (upI X.K W mi)) (ok : BlkOk X.N X.env.scope scope own)
    (hg : ∀ (s : Shared) (H : Hp) (C : Addr) (cl : List (Str × Addr)) (fp : List Addr), PG (X.blk s H scope (compEnvC scope cl C X.env) fp) tg (upGo X.K (own.map (·.2)) g)) (ht : ∀ (s : Shared) (H : Hp) (C : Addr) (cl : List (Str × Addr)) (fp : List Addr), PTs (X.blk s H scope (compEnvC scope cl C X.env) fp) ifs (upT X.K W0 mt))
    (he : ∀ (s : Shared) (H : Hp) (C : Addr) (cl : List (Str × Addr)) (fp : List Addr), PE (X.blk s H scope (compEnvC scope cl C X.env) fp) elt (upE X.K W0 me)) (hs : ∀ x, foldedSetIterable iter X.env x = pure x := by intro _; rfl) :
    PE X (.ListComp elt [⟨tg, iter, ifs, 0⟩] scope pos) (upE X.K W (mCompF mi g mt me (own.map (·.2)))) :=
  (pe_lc hc hN hi ok hg ht he hs).to fun σ H Q ⟨m, S, Qm, Em, h1, h2, h3, h4, h5⟩ => ⟨m, S, _, Em, h1, h2, h3, fun items G S1 J H1 q e1 s1 it Dp hD =>
    lc_to (h1.ext e1) s1 it hD (q Dp (s1.fresh hD)) fun acc H' S' f ea e' s' => by
      obtain ⟨us, eu, ru⟩ := s' _ _ ea
      exact h4 _ (del S' Dp) _ H' f (e1.trans (e'.trans (rsto_del s'))) (rsto_del' s') (.lst eu (if_pos rfl) (ru.ext (rsto_del s'))), h5⟩
end
/-! ### the head's facts, with what isinstance answers -/
def kitB (K : PySem.W.Frag) (u : String) : Bool := (["NoneType", "bool", "int", "str", "tuple", "list", "dict"] : List String).all fun t => decide (PySem.W.kitOne K (.type t) (.type u) = some (isTy t u))
abbrev AlK : Type := He.AlD × Bool
def obsK (fa : List He.Fa) (fn : List He.DefD) (ks : List String) (K : PySem.W.Frag) : AlK := (He.obsD fa fn K, ks.all (kitB K))
structure SaysK (fa : List He.Fa) (fn : List He.DefD) (ks : List String) (K : PySem.W.Frag) : Prop where
  says : He.SaysD fa fn K
  kits : ks.all (kitB K) = true
end ML
namespace ML
open PySem PySem.Spec L2
/-! ### side conditions -/
theorem mulok_r {i j : Int} (h1 : -(2 ^ 64) < j) (h2 : j < 2 ^ 64) : IntMulOk i j := .of_right (intBits_le_64 h1 h2)
theorem mulok_l {i j : Int} (h1 : -(2 ^ 64) < i) (h2 : i < 2 ^ 64) : IntMulOk i j := .of_left (intBits_le_64 h1 h2)
theorem mulok_w {i j : Int} {a b : Nat} (ha : i.natAbs < 2 ^ a) (hb : j.natAbs < 2 ^ b) (h0 : 0 < a) (h1 : 0 < b) (h : a + b ≤ 1000000) : IntMulOk i j := (wide_mul ha hb h0 h1 h).ok
theorem divok_s {i j : Int} (h0 : j ≠ 0) (h : j.natAbs < 1073741824) : DivOk i j := ⟨h0, PyProof.noPylong_small h⟩
theorem divok_w {i j : Int} {b : Nat} (h0 : j ≠ 0) (hb : j.natAbs < 2 ^ b) (h1 : 0 < b) (h : b ≤ 9000) : DivOk i j := ⟨h0, PyProof.noPylong_of_log2 (Nat.lt_of_lt_of_le (PySem.Flt.log2_lt_of h1 hb) h)⟩
theorem fmod_pos {i j : Int} (h : 0 ≤ j) : i.fmod j = i % j := Int.fmod_eq_emod_of_nonneg i h
theorem line_le {n : Nat} (h : n ≤ 1000) : n ≤ sizeLine := by rw [sizeLine_eq]; omega
theorem line_lt {n : Nat} (h : n ≤ 1000) : n < sizeLine := by rw [sizeLine_eq]; omega
theorem scr_get {ns : List Int} {k : Nat} (h : k < ns.length) : (ns.map D.int)[k]? = some (.int ns[k]) := by rw [List.getElem?_map, List.getElem?_eq_getElem h]; rfl
theorem isTy_NoneType_int : isTy "NoneType" "int" = false := by decide
theorem isTy_NoneType_bool : isTy "NoneType" "bool" = false := by decide
theorem isTy_NoneType_tuple : isTy "NoneType" "tuple" = false := by decide
theorem isTy_NoneType_list : isTy "NoneType" "list" = false := by decide
theorem isTy_NoneType_str : isTy "NoneType" "str" = false := by decide
theorem isTy_bool_int : isTy "bool" "int" = true := by decide
theorem isTy_bool_bool : isTy "bool" "bool" = true := by decide
theorem isTy_bool_tuple : isTy "bool" "tuple" = false := by decide
theorem isTy_bool_list : isTy "bool" "list" = false := by decide
theorem isTy_bool_str : isTy "bool" "str" = false := by decide
theorem isTy_int_int : isTy "int" "int" = true := by decide
theorem isTy_int_bool : isTy "int" "bool" = false := by decide
theorem isTy_int_tuple : isTy "int" "tuple" = false := by decide
theorem isTy_int_list : isTy "int" "list" = false := by decide
theorem isTy_int_str : isTy "int" "str" = false := by decide
theorem isTy_str_int : isTy "str" "int" = false := by decide
theorem isTy_str_bool : isTy "str" "bool" = false := by decide
theorem isTy_str_tuple : isTy "str" "tuple" = false := by decide
theorem isTy_str_list : isTy "str" "list" = false := by decide
theorem isTy_str_str : isTy "str" "str" = true := by decide
theorem isTy_tuple_int : isTy "tuple" "int" = false := by decide
theorem isTy_tuple_bool : isTy "tuple" "bool" = false := by decide
theorem isTy_tuple_tuple : isTy "tuple" "tuple" = true := by decide
theorem isTy_tuple_list : isTy "tuple" "list" = false := by decide
theorem isTy_tuple_str : isTy "tuple" "str" = false := by decide
theorem isTy_list_int : isTy "list" "int" = false := by decide
theorem isTy_list_bool : isTy "list" "bool" = false := by decide
theorem isTy_list_tuple : isTy "list" "tuple" = false := by decide
theorem isTy_list_list : isTy "list" "list" = true := by decide
theorem isTy_list_str : isTy "list" "str" = false := by decide
theorem isTy_dict_int : isTy "dict" "int" = false := by decide
theorem isTy_dict_bool : isTy "dict" "bool" = false := by decide
theorem isTy_dict_tuple : isTy "dict" "tuple" = false := by decide
theorem isTy_dict_list : isTy "dict" "list" = false := by decide
theorem isTy_dict_str : isTy "dict" "str" = false := by decide
theorem deq_int {a b : Int} : D.deq (.int a) (.int b) = decide (a = b) := by rw [D.deq, Bool.beq_eq_decide_eq]
theorem deq_bl {a b : Bool} : D.deq (.bl a) (.bl b) = (a == b) := by rw [D.deq]
theorem deq_str {a b : Str} : D.deq (.str a) (.str b) = decide (a = b) := by rw [D.deq, Bool.beq_eq_decide_eq]
theorem deq_non : D.deq .non .non = true := by rw [D.deq]
theorem eqOk_int {a b : Int} : eqOk (.int a) (.int b) = true := by simp [eqOk, D.plain, D.dep]
theorem eqOk_bl {a b : Bool} : eqOk (.bl a) (.bl b) = true := rfl
theorem wfor_inv {G : Sto → Prop} {g : MG} {mb : MS} {D : MEnds} {items : List ML.D} {σ : MSt} {S : Sto} (I : Nat → MSt → Sto → Prop) (h0 : I 0 σ S)
    (hs : ∀ i d σ S, items[i]? = some d → I i σ S → G S ∧ g d σ S (fun σ' S' => mb { D with nx := I (i + 1), ct := I (i + 1), bk := D.nx } σ' S') (xAt D σ)) (hd : ∀ σ S, I items.length σ S → G S ∧ D.nx σ S) : wfor G g mb D items σ S := by
  refine ⟨I, h0, fun i σ S hi h => ?_⟩
  cases e : items[i]? with
  | some d => exact hs i d σ S e h
  | none =>
    have : i = items.length := by have := List.getElem?_eq_none_iff.mp e; omega
    subst this; exact hd σ S h
theorem rng_inv {lo : Int} {n : Nat} {g : MG} {mb : MS} {D : MEnds} {σ : MSt} {S : Sto} (I : Nat → MSt → Sto → Prop) (h0 : I 0 σ S)
    (hs : ∀ i σ S, i < n → I i σ S → g (.int (lo + (i : Nat))) σ S (fun σ' S' => mb { D with nx := I (i + 1), ct := I (i + 1), bk := D.nx } σ' S') (xAt D σ)) (hd : ∀ σ S, I n σ S → D.nx σ S) : wfor (fun _ => True) g mb D (rngD lo n) σ S :=
  wfor_inv I h0 (fun i d σ S e h => by
    have hi : i < n := by
      have := (List.getElem?_eq_some_iff.mp e).1
      rwa [rngD_len] at this
    rw [rngD_get e]; exact ⟨trivial, hs i σ S hi h⟩) fun σ S h => ⟨trivial, hd σ S (by rwa [rngD_len] at h)⟩
end ML
namespace ML
open PySem PySem.Spec L2
theorem q_mSeq : type_of% @mSeq.eq_def := by intros; exact Eq.trans (mSeq.eq_def ..) (Eq.refl _)
theorem q_mSet : type_of% @mSet.eq_def := by intros; exact Eq.trans (mSet.eq_def ..) (Eq.refl _)
theorem q_mC : type_of% @mC.eq_def := by intros; exact Eq.trans (mC.eq_def ..) (Eq.refl _)
theorem q_mVar : type_of% @mVar.eq_def := by intros; exact Eq.trans (mVar.eq_def ..) (Eq.refl _)
theorem q_mOp : type_of% @mOp.eq_def := by intros; exact Eq.trans (mOp.eq_def ..) (Eq.refl _)
theorem q_mUn : type_of% @mUn.eq_def := by intros; exact Eq.trans (mUn.eq_def ..) (Eq.refl _)
theorem q_mTst : type_of% @mTst.eq_def := by intros; exact Eq.trans (mTst.eq_def ..) (Eq.refl _)
theorem q_mTru : type_of% @mTru.eq_def := by intros; exact Eq.trans (mTru.eq_def ..) (Eq.refl _)
theorem q_mIfS : type_of% @mIfS.eq_def := by intros; exact Eq.trans (mIfS.eq_def ..) (Eq.refl _)
theorem q_mIf : type_of% @mIf.eq_def := by intros; exact Eq.trans (mIf.eq_def ..) (Eq.refl _)
theorem q_mAnd : type_of% @mAnd.eq_def := by intros; exact Eq.trans (mAnd.eq_def ..) (Eq.refl _)
theorem q_mOr : type_of% @mOr.eq_def := by intros; exact Eq.trans (mOr.eq_def ..) (Eq.refl _)
theorem q_mNot : type_of% @mNot.eq_def := by intros; exact Eq.trans (mNot.eq_def ..) (Eq.refl _)
theorem q_mAndV : type_of% @mAndV.eq_def := by intros; exact Eq.trans (mAndV.eq_def ..) (Eq.refl _)
theorem q_mOrV : type_of% @mOrV.eq_def := by intros; exact Eq.trans (mOrV.eq_def ..) (Eq.refl _)
theorem q_mNotV : type_of% @mNotV.eq_def := by intros; exact Eq.trans (mNotV.eq_def ..) (Eq.refl _)
theorem q_mRet : type_of% @mRet.eq_def := by intros; exact Eq.trans (mRet.eq_def ..) (Eq.refl _)
theorem q_mRetN : type_of% @mRetN.eq_def := by intros; exact Eq.trans (mRetN.eq_def ..) (Eq.refl _)
theorem q_mExpr : type_of% @mExpr.eq_def := by intros; exact Eq.trans (mExpr.eq_def ..) (Eq.refl _)
theorem q_mNext : type_of% @mNext.eq_def := by intros; exact Eq.trans (mNext.eq_def ..) (Eq.refl _)
theorem q_mBreak : type_of% @mBreak.eq_def := by intros; exact Eq.trans (mBreak.eq_def ..) (Eq.refl _)
theorem q_mCont : type_of% @mCont.eq_def := by intros; exact Eq.trans (mCont.eq_def ..) (Eq.refl _)
theorem q_mAsg : type_of% @mAsg.eq_def := by intros; exact Eq.trans (mAsg.eq_def ..) (Eq.refl _)
theorem q_mPar : type_of% @mPar.eq_def := by intros; exact Eq.trans (mPar.eq_def ..) (Eq.refl _)
theorem q_gNm : type_of% @gNm.eq_def := by intros; exact Eq.trans (gNm.eq_def ..) (Eq.refl _)
theorem q_gLs : type_of% @gLs.eq_def := by intros; exact Eq.trans (gLs.eq_def ..) (Eq.refl _)
theorem q_gCn : type_of% @gCn.eq_def := by intros; exact Eq.trans (gCn.eq_def ..) (Eq.refl _)
theorem q_gNl : type_of% @gNl.eq_def := by intros; exact Eq.trans (gNl.eq_def ..) (Eq.refl _)
theorem q_gSb : type_of% @gSb.eq_def := by intros; exact Eq.trans (gSb.eq_def ..) (Eq.refl _)
theorem q_mTup : type_of% @mTup.eq_def := by intros; exact Eq.trans (mTup.eq_def ..) (Eq.refl _)
theorem q_mLst : type_of% @mLst.eq_def := by intros; exact Eq.trans (mLst.eq_def ..) (Eq.refl _)
theorem q_mLstF : type_of% @mLstF.eq_def := by intros; exact Eq.trans (mLstF.eq_def ..) (Eq.refl _)
theorem q_mCons : type_of% @mCons.eq_def := by intros; exact Eq.trans (mCons.eq_def ..) (Eq.refl _)
theorem q_mNil : type_of% @mNil.eq_def := by intros; exact Eq.trans (mNil.eq_def ..) (Eq.refl _)
theorem q_mCall : type_of% @mCall.eq_def := by intros; exact Eq.trans (mCall.eq_def ..) (Eq.refl _)
theorem q_mBlt : type_of% @mBlt.eq_def := by intros; exact Eq.trans (mBlt.eq_def ..) (Eq.refl _)
theorem q_bLen : type_of% @bLen.eq_def := by intros; exact Eq.trans (bLen.eq_def ..) (Eq.refl _)
theorem q_bAbs : type_of% @bAbs.eq_def := by intros; exact Eq.trans (bAbs.eq_def ..) (Eq.refl _)
theorem q_bMax2 : type_of% @bMax2.eq_def := by intros; exact Eq.trans (bMax2.eq_def ..) (Eq.refl _)
theorem q_bMin2 : type_of% @bMin2.eq_def := by intros; exact Eq.trans (bMin2.eq_def ..) (Eq.refl _)
theorem q_bInt : type_of% @bInt.eq_def := by intros; exact Eq.trans (bInt.eq_def ..) (Eq.refl _)
theorem q_bTuple : type_of% @bTuple.eq_def := by intros; exact Eq.trans (bTuple.eq_def ..) (Eq.refl _)
theorem q_bList : type_of% @bList.eq_def := by intros; exact Eq.trans (bList.eq_def ..) (Eq.refl _)
theorem q_bListF : type_of% @bListF.eq_def := by intros; exact Eq.trans (bListF.eq_def ..) (Eq.refl _)
theorem q_bAll : type_of% @bAll.eq_def := by intros; exact Eq.trans (bAll.eq_def ..) (Eq.refl _)
theorem q_lenD : type_of% @lenD.eq_def := by intros; exact Eq.trans (lenD.eq_def ..) (Eq.refl _)
theorem q_truD : type_of% @truD.eq_def := by intros; exact Eq.trans (truD.eq_def ..) (Eq.refl _)
theorem q_lstOf : type_of% @lstOf.eq_def := by intros; exact Eq.trans (lstOf.eq_def ..) (Eq.refl _)
theorem q_ownOf : type_of% @ownOf.eq_def := by intros; exact Eq.trans (ownOf.eq_def ..) (Eq.refl _)
theorem q_rInt : type_of% @rInt.eq_def := by intros; exact Eq.trans (rInt.eq_def ..) (Eq.refl _)
theorem q_rInt0 : type_of% @rInt0.eq_def := by intros; exact Eq.trans (rInt0.eq_def ..) (Eq.refl _)
theorem q_rSub : type_of% @rSub.eq_def := by intros; exact Eq.trans (rSub.eq_def ..) (Eq.refl _)
theorem q_rMul : type_of% @rMul.eq_def := by intros; exact Eq.trans (rMul.eq_def ..) (Eq.refl _)
theorem q_rDiv : type_of% @rDiv.eq_def := by intros; exact Eq.trans (rDiv.eq_def ..) (Eq.refl _)
theorem q_rMod : type_of% @rMod.eq_def := by intros; exact Eq.trans (rMod.eq_def ..) (Eq.refl _)
theorem q_rPow : type_of% @rPow.eq_def := by intros; exact Eq.trans (rPow.eq_def ..) (Eq.refl _)
theorem q_rAdd : type_of% @rAdd.eq_def := by intros; exact Eq.trans (rAdd.eq_def ..) (Eq.refl _)
theorem q_rLt : type_of% @rLt.eq_def := by intros; exact Eq.trans (rLt.eq_def ..) (Eq.refl _)
theorem q_rLe : type_of% @rLe.eq_def := by intros; exact Eq.trans (rLe.eq_def ..) (Eq.refl _)
theorem q_rGt : type_of% @rGt.eq_def := by intros; exact Eq.trans (rGt.eq_def ..) (Eq.refl _)
theorem q_rGe : type_of% @rGe.eq_def := by intros; exact Eq.trans (rGe.eq_def ..) (Eq.refl _)
theorem q_rNeg : type_of% @rNeg.eq_def := by intros; exact Eq.trans (rNeg.eq_def ..) (Eq.refl _)
theorem q_rIxM : type_of% @rIxM.eq_def := by intros; exact Eq.trans (rIxM.eq_def ..) (Eq.refl _)
theorem q_ixL : type_of% @ixL.eq_def := by intros; exact Eq.trans (ixL.eq_def ..) (Eq.refl _)
theorem q_rIsN : type_of% @rIsN.eq_def := by intros; exact Eq.trans (rIsN.eq_def ..) (Eq.refl _)
theorem q_rNotN : type_of% @rNotN.eq_def := by intros; exact Eq.trans (rNotN.eq_def ..) (Eq.refl _)
theorem q_isN : type_of% @isN.eq_def := by intros; exact Eq.trans (isN.eq_def ..) (Eq.refl _)
theorem q_rEqM : type_of% @rEqM.eq_def := by intros; exact Eq.trans (rEqM.eq_def ..) (Eq.refl _)
theorem q_rNeM : type_of% @rNeM.eq_def := by intros; exact Eq.trans (rNeM.eq_def ..) (Eq.refl _)
theorem q_rInM : type_of% @rInM.eq_def := by intros; exact Eq.trans (rInM.eq_def ..) (Eq.refl _)
theorem q_mIsi : type_of% @mIsi.eq_def := by intros; exact Eq.trans (mIsi.eq_def ..) (Eq.refl _)
theorem q_tyD : type_of% @tyD.eq_def := by intros; exact Eq.trans (tyD.eq_def ..) (Eq.refl _)
theorem q_mCut : type_of% @mCut.eq_def := by intros; exact Eq.trans (mCut.eq_def ..) (Eq.refl _)
theorem q_oNo : type_of% @oNo.eq_def := by intros; exact Eq.trans (oNo.eq_def ..) (Eq.refl _)
theorem q_oSo : type_of% @oSo.eq_def := by intros; exact Eq.trans (oSo.eq_def ..) (Eq.refl _)
theorem q_mMt : type_of% @mMt.eq_def := by intros; exact Eq.trans (mMt.eq_def ..) (Eq.refl _)
theorem q_mMt0 : type_of% @mMt0.eq_def := by intros; exact Eq.trans (mMt0.eq_def ..) (Eq.refl _)
theorem q_mtAppend : type_of% @mtAppend.eq_def := by intros; exact Eq.trans (mtAppend.eq_def ..) (Eq.refl _)
theorem q_mtInsert : type_of% @mtInsert.eq_def := by intros; exact Eq.trans (mtInsert.eq_def ..) (Eq.refl _)
theorem q_mtPop : type_of% @mtPop.eq_def := by intros; exact Eq.trans (mtPop.eq_def ..) (Eq.refl _)
theorem q_mtPop0 : type_of% @mtPop0.eq_def := by intros; exact Eq.trans (mtPop0.eq_def ..) (Eq.refl _)
theorem q_mtReverse : type_of% @mtReverse.eq_def := by intros; exact Eq.trans (mtReverse.eq_def ..) (Eq.refl _)
theorem q_mtClear : type_of% @mtClear.eq_def := by intros; exact Eq.trans (mtClear.eq_def ..) (Eq.refl _)
theorem q_mtExtend : type_of% @mtExtend.eq_def := by intros; exact Eq.trans (mtExtend.eq_def ..) (Eq.refl _)
theorem q_mtIndex : type_of% @mtIndex.eq_def := by intros; exact Eq.trans (mtIndex.eq_def ..) (Eq.refl _)
theorem q_rSetM : type_of% @rSetM.eq_def := by intros; exact Eq.trans (rSetM.eq_def ..) (Eq.refl _)
theorem q_setAt : type_of% @setAt.eq_def := by intros; exact Eq.trans (setAt.eq_def ..) (Eq.refl _)
theorem q_mends : type_of% @mends.eq_def := by intros; exact Eq.trans (mends.eq_def ..) (Eq.refl _)
theorem q_mstart : type_of% @mstart.eq_def := by intros; exact Eq.trans (mstart.eq_def ..) (Eq.refl _)
theorem q_mFor : type_of% @mFor.eq_def := by intros; exact Eq.trans (mFor.eq_def ..) (Eq.refl _)
theorem q_iL : type_of% @iL.eq_def := by intros; exact Eq.trans (iL.eq_def ..) (Eq.refl _)
theorem q_iT : type_of% @iT.eq_def := by intros; exact Eq.trans (iT.eq_def ..) (Eq.refl _)
theorem q_iR1 : type_of% @iR1.eq_def := by intros; exact Eq.trans (iR1.eq_def ..) (Eq.refl _)
theorem q_iR2 : type_of% @iR2.eq_def := by intros; exact Eq.trans (iR2.eq_def ..) (Eq.refl _)
theorem q_iEn : type_of% @iEn.eq_def := by intros; exact Eq.trans (iEn.eq_def ..) (Eq.refl _)
theorem q_iZp : type_of% @iZp.eq_def := by intros; exact Eq.trans (iZp.eq_def ..) (Eq.refl _)
theorem q_mChain : type_of% @mChain.eq_def := by intros; exact Eq.trans (mChain.eq_def ..) (Eq.refl _)
theorem q_mYes : type_of% @mYes.eq_def := by intros; exact Eq.trans (mYes.eq_def ..) (Eq.refl _)
theorem q_mCompF : type_of% @mCompF.eq_def := by intros; exact Eq.trans (mCompF.eq_def ..) (Eq.refl _)
theorem q_mComp : type_of% @mComp.eq_def := by intros; exact Eq.trans (mComp.eq_def ..) (Eq.refl _)
theorem q_wipeM : type_of% @wipeM.eq_def := by intros; exact Eq.trans (wipeM.eq_def ..) (Eq.refl _)
theorem q_rIsBM : type_of% @rIsBM.eq_def := by intros; exact Eq.trans (rIsBM.eq_def ..) (Eq.refl _)
theorem q_xAt : type_of% @xAt.eq_def := by intros; exact Eq.trans (xAt.eq_def ..) (Eq.refl _)
end ML
set_option maxRecDepth 100000
namespace ML
open PySem PySem.Spec L2
open PyProof.Rows hiding St
end ML
set_option maxRecDepth 100000
namespace ML
open PySem PySem.Spec L2
/-! ### readings opened lazily: at a call, a branch, a loop the opening stops; what is held as an instance is left alone -/
class Hold (α : Type) where
  v : α
theorem Hold_v {α : Type} {x : α} : (Hold.mk x).v = x := Eq.trans rfl rfl
def CallP (sp : MSp) (ds : List D) (S : Sto) [Q : Hold MQ] [E : Hold MXQ] : Prop := sp ds S Q.v E.v
def IteP (c : Prop) [A : Hold Prop] [B : Hold Prop] : Prop := (c → A.v) ∧ (¬ c → B.v)
theorem IteP_true {A B : Hold Prop} : @IteP True A B = A.v := propext ⟨fun h => h.1 trivial, fun h => ⟨fun _ => h, fun z => (z trivial).elim⟩⟩
theorem IteP_false {A B : Hold Prop} : @IteP False A B = B.v := propext ⟨fun h => h.2 id, fun h => ⟨fun z => z.elim, fun _ => h⟩⟩
theorem IteP_bool {b : Bool} {A B : Prop} : (if b = true then A else B) = @IteP (b = true) ⟨A⟩ ⟨B⟩ := by
  cases b
  · rw [if_neg Bool.false_ne_true]; exact propext ⟨fun h => ⟨fun z => (Bool.false_ne_true z).elim, fun _ => h⟩, fun h => h.2 Bool.false_ne_true⟩
  · rw [if_pos rfl]; exact propext ⟨fun h => ⟨fun _ => h, fun z => (z rfl).elim⟩, fun h => h.1 rfl⟩
theorem l_mCall {sp : MSp} {t : MA} {σ : MSt} {S : Sto} {Q : MQ} {E : MXQ} : mCall sp t σ S Q E = t σ S (fun ds S1 => @CallP sp ds S1 ⟨Q⟩ ⟨E⟩) E := Eq.trans rfl rfl
theorem l_mAnd {t u : MT} {σ : MSt} {S : Sto} {Q : Bool → Sto → Prop} {E : MXQ} : mAnd t u σ S Q E = t σ S (fun c S1 => @IteP (c = true) ⟨u σ S1 Q E⟩ ⟨Q false S1⟩) E := by
  unfold mAnd; simp only [IteP_bool]
theorem l_mOr {t u : MT} {σ : MSt} {S : Sto} {Q : Bool → Sto → Prop} {E : MXQ} : mOr t u σ S Q E = t σ S (fun c S1 => @IteP (c = true) ⟨Q true S1⟩ ⟨u σ S1 Q E⟩) E := by
  unfold mOr; simp only [IteP_bool]
theorem l_mAndV {ma mb : ME} {σ : MSt} {S : Sto} {Q : MQ} {E : MXQ} : mAndV ma mb σ S Q E = ma σ S (fun d S1 => match d with
  | .bl k => @IteP (k = true) ⟨mb σ S1 Q E⟩ ⟨Q (.bl false) S1⟩
  | _ => False) E := by
  unfold mAndV
  apply congrArg (fun f => ma σ S f E)
  funext d S1
  cases d <;> first | rfl | exact IteP_bool
theorem l_mOrV {ma mb : ME} {σ : MSt} {S : Sto} {Q : MQ} {E : MXQ} : mOrV ma mb σ S Q E = ma σ S (fun d S1 => match d with
  | .bl k => @IteP (k = true) ⟨Q (.bl true) S1⟩ ⟨mb σ S1 Q E⟩
  | _ => False) E := by
  unfold mOrV
  apply congrArg (fun f => ma σ S f E)
  funext d S1
  cases d <;> first | rfl | exact IteP_bool
theorem l_mIf {t : MT} {ma mb : ME} {σ : MSt} {S : Sto} {Q : MQ} {E : MXQ} : mIf t ma mb σ S Q E = t σ S (fun c S1 => @IteP (c = true) ⟨ma σ S1 Q E⟩ ⟨mb σ S1 Q E⟩) E := by unfold mIf; simp only [IteP_bool]
theorem l_mChain {r r' : R2m} {ma mb mc : ME} {σ : MSt} {S : Sto} {Q : MQ} {E : MXQ} : mChain r r' ma mb mc σ S Q E = ma σ S (fun x S1 => mb σ S1 (fun y S2 => r x y S2 fun z S3 => match z with
  | .bl k => @IteP (k = true) ⟨mc σ S3 (fun w S4 => r' y w S4 Q) E⟩ ⟨Q (.bl false) S3⟩
  | _ => False) E) E := by
  unfold mChain
  apply congrArg (fun f => ma σ S f E)
  funext x S1
  apply congrArg (fun f => mb σ S1 f E)
  funext y S2
  apply congrArg (fun f => r x y S2 f)
  funext d S3
  cases d <;> first | rfl | exact IteP_bool
theorem l_mIfS {c : MT} {t u : MS} {D : MEnds} {σ : MSt} {S : Sto} : mIfS c t u D σ S = c σ S (fun b S1 => @IteP (b = true) ⟨t D σ S1⟩ ⟨u D σ S1⟩) (xAt D σ) := by unfold mIfS; simp only [IteP_bool]
/-! ### options, names, values -/
def OptP {α : Type} (o : Option α) [k : Hold (α → Prop)] : Prop := match o with
  | some x => k.v x
  | none => False
def optP {α : Type} (o : Option α) (k : α → Prop) : Prop := @OptP α o ⟨k⟩
theorem l_optP {α : Type} {o : Option α} {k : α → Prop} : optP o k = @OptP α o ⟨k⟩ := Eq.trans rfl rfl
theorem OptP_some {α : Type} {x : α} {k : Hold (α → Prop)} : @OptP α (some x) k = k.v x := Eq.trans rfl rfl
def GoP (σ : MSt) (S : Sto) [k : Hold (MSt → Sto → Prop)] : Prop := k.v σ S
def Go (k : MSt → Sto → Prop) (σ : MSt) (S : Sto) : Prop := @GoP σ S ⟨k⟩
theorem l_Go {k : MSt → Sto → Prop} {σ : MSt} {S : Sto} : Go k σ S = @GoP σ S ⟨k⟩ := Eq.trans rfl rfl
def VarP (i : Nat) (σ : MSt) (S : Sto) [Q : Hold MQ] : Prop := match σ[i]? with
  | some (some d) => Q.v d S
  | _ => False
theorem l_mVar {i : Nat} {σ : MSt} {S : Sto} {Q : MQ} {E : MXQ} : mVar i σ S Q E = @VarP i σ S ⟨Q⟩ := Eq.trans rfl rfl
def ForP (items : List D) (σ : MSt) (S : Sto) [G : Hold (Sto → Prop)] [g : Hold MG] [mb : Hold MS] [De : Hold MEnds] : Prop := wfor G.v g.v mb.v De.v items σ S
theorem l_mFor {mi : MI} {g : MG} {mb : MS} {De : MEnds} {σ : MSt} {S : Sto} : mFor mi g mb De σ S = mi σ S (fun items G S1 => @ForP items σ S1 ⟨G⟩ ⟨g⟩ ⟨mb⟩ ⟨De⟩) (xAt De σ) := Eq.trans rfl rfl
def WhileP (σ : MSt) (S : Sto) [c : Hold MT] [mb : Hold MS] [De : Hold MEnds] : Prop := mWhile c.v mb.v De.v σ S
theorem l_mWhile {c : MT} {mb : MS} {De : MEnds} {σ : MSt} {S : Sto} : mWhile c mb De σ S = @WhileP σ S ⟨c⟩ ⟨mb⟩ ⟨De⟩ := Eq.trans rfl rfl
def CompP (items : List D) (σ : MSt) (S : Sto) (p : Addr) (own : List Nat) [G : Hold (Sto → Prop)] [g : Hold MG] [mt : Hold MT] [me : Hold ME] [fin : Hold (List D → Sto → Prop)] : Prop := wlc G.v g.v mt.v me.v p own σ fin.v items S
theorem l_mComp {mi : MI} {g : MG} {mt : MT} {me : ME} {own : List Nat} {σ : MSt} {S : Sto} {Q : MQ} {E : MXQ} : mComp mi g mt me own σ S Q E = mi σ S (fun items G S1 => ∀ p, S1 p = none → @CompP items σ (put S1 p (.lst [])) p own ⟨G⟩ ⟨g⟩ ⟨mt⟩ ⟨me⟩ ⟨fun _ S2 => Q (.ref p) S2⟩) E := Eq.trans rfl rfl
theorem l_mCompF {mi : MI} {g : MG} {mt : MT} {me : ME} {own : List Nat} {σ : MSt} {S : Sto} {Q : MQ} {E : MXQ} : mCompF mi g mt me own σ S Q E = mi σ S (fun items G S1 => ∀ p, S1 p = none → @CompP items σ (put S1 p (.lst [])) p own ⟨G⟩ ⟨g⟩ ⟨mt⟩ ⟨me⟩ ⟨fun acc S2 => Q (.lst acc) (del S2 p)⟩) E := Eq.trans rfl rfl
theorem Go_eq {k : Hold (MSt → Sto → Prop)} {σ : MSt} {S : Sto} : @GoP σ S k = k.v σ S := Eq.trans rfl rfl
theorem l_mVar_z {d : D} {σ : MSt} {S : Sto} {Q : Hold MQ} : @VarP 0 (some d :: σ) S Q = Q.v d S := Eq.trans rfl rfl
theorem l_mVar_s {i : Nat} {x : Option D} {σ : MSt} {S : Sto} {Q : Hold MQ} : @VarP (i + 1) (x :: σ) S Q = @VarP i σ S Q := Eq.trans rfl rfl
theorem l_mSet {i : Nat} {m : ME} {D : MEnds} {σ : MSt} {S : Sto} : mSet i m D σ S = m σ S (fun d S1 => Go D.nx (σ.set i (some d)) S1) (xAt D σ) := Eq.trans rfl rfl
theorem l_gNm {i : Nat} {d : D} {σ : MSt} {S : Sto} {Q : MSt → Sto → Prop} {E : MXQ} : gNm i d σ S Q E = Go Q (σ.set i (some d)) S := Eq.trans rfl rfl
theorem l_mPar {i j : Nat} {t : MA} {De : MEnds} {σ : MSt} {S : Sto} : mPar i j t De σ S = t σ S (fun ds S1 => match ds with
  | [d, e] => Go De.nx ((σ.set i (some d)).set j (some e)) S1
  | _ => False) (xAt De σ) := by
  unfold mPar
  apply congrArg (fun f => t σ S f (xAt De σ))
  funext ds S1
  rcases ds with _ | ⟨a, _ | ⟨b, _ | ⟨c, r⟩⟩⟩ <;> rfl
def olP : Option MO → Option (List D)
  | some (.lst ds) => some ds
  | _ => none
theorem olP_lst {ds : List D} : olP (some (.lst ds)) = some ds := Eq.trans rfl rfl
theorem lstOf_ref' {S : Sto} {p : Addr} : lstOf S (.ref p) = olP (S p) := by
  cases e : S p with
  | none => simp only [lstOf, olP, e]
  | some o => cases o <;> simp only [lstOf, olP, e]
theorem lstOf_lst {S : Sto} {ds : List D} : lstOf S (.lst ds) = some ds := Eq.trans rfl rfl
theorem lstOf_scr {S : Sto} {ds : List D} : lstOf S (.scr ds) = some ds := Eq.trans rfl rfl
theorem lstOf_tup {S : Sto} {ds : List D} : lstOf S (.tup ds) = none := Eq.trans rfl rfl
theorem ownOf_ref' {S : Sto} {p : Addr} : ownOf S (.ref p) = olP (S p) := by
  cases e : S p with
  | none => simp only [ownOf, olP, e]
  | some o => cases o <;> simp only [ownOf, olP, e]
theorem ownOf_lst {S : Sto} {ds : List D} : ownOf S (.lst ds) = some ds := Eq.trans rfl rfl
theorem seqOf_tup' {S : Sto} {ds : List D} : seqOf S (.tup ds) = some ds := Eq.trans rfl rfl
theorem seqOf_lst' {S : Sto} {ds : List D} : seqOf S (.lst ds) = some ds := Eq.trans rfl rfl
theorem seqOf_scr' {S : Sto} {ds : List D} : seqOf S (.scr ds) = some ds := Eq.trans rfl rfl
theorem seqOf_ref' {S : Sto} {p : Addr} : seqOf S (.ref p) = olP (S p) := by rw [← lstOf_ref']; rfl
def tupOf : D → Option (List D)
  | .tup ds => some ds
  | _ => none
theorem tupOf_tup {ds : List D} : tupOf (.tup ds) = some ds := Eq.trans rfl rfl
theorem l_rIxM {d : D} {i : Int} {S : Sto} {Q : MQ} : rIxM d (.int i) S Q = optP (seqOf S d) fun xs => optP (ixL xs i) fun x => Q x S := by
  simp only [rIxM, optP, OptP]
  cases seqOf S d with
  | none => rfl
  | some xs =>
    dsimp only
    cases ixL xs i <;> rfl
theorem ixL_lit {α : Type} {xs : List α} {n : Nat} : ixL xs (no_index (OfNat.ofNat n : Int)) = xs[(OfNat.ofNat n : Nat)]? := Eq.trans rfl rfl
theorem ixL_cast {α : Type} {xs : List α} {n : Nat} : ixL xs ((n : Nat) : Int) = xs[n]? := Eq.trans rfl rfl
theorem ixL_m1 {α : Type} {x : α} {xs : List α} : ixL (x :: xs) (-1) = (x :: xs)[xs.length]? := by
  show ixL (x :: xs) (.negSucc 0) = _
  simp [ixL]
theorem setAt_lit {α : Type} {xs : List α} {n : Nat} {v : α} : setAt xs (no_index (OfNat.ofNat n : Int)) v = if (OfNat.ofNat n : Nat) < xs.length then some (xs.set (OfNat.ofNat n : Nat) v) else none := Eq.trans rfl rfl
theorem setAt_cast {α : Type} {xs : List α} {n : Nat} {v : α} : setAt xs ((n : Nat) : Int) v = if n < xs.length then some (xs.set n v) else none := Eq.trans rfl rfl
theorem l_rSetM {p : Addr} {k : Int} {v : D} {S : Sto} {Q : Sto → Prop} : rSetM (.ref p) (.int k) v S Q = optP (olP (S p)) fun xs => optP (setAt xs k v) fun ys => Q (put S p (.lst ys)) := by
  simp only [rSetM, optP, OptP, olP]
  cases S p with
  | none => rfl
  | some o =>
    cases o with
    | lst xs => dsimp only; cases setAt xs k v <;> rfl
    | _ => rfl
theorem l_rInt {C : Int → Int → Prop} {g : Int → Int → D} {i j : Int} {S : Sto} {Q : MQ} : rInt C g (.int i) (.int j) S Q = (C i j ∧ Q (g i j) S) := Eq.trans rfl rfl
theorem l_rInt0 {g : Int → Int → D} {i j : Int} {S : Sto} {Q : MQ} : rInt0 g (.int i) (.int j) S Q = Q (g i j) S := Eq.trans rfl rfl
theorem l_rAdd_int {i j : Int} {S : Sto} {Q : MQ} : rAdd (.int i) (.int j) S Q = Q (.int (i + j)) S := Eq.trans rfl rfl
theorem l_rAdd_str {i j : Str} {S : Sto} {Q : MQ} : rAdd (.str i) (.str j) S Q = (i.length + j.length ≤ sizeLine ∧ Q (.str (i ++ j)) S) := Eq.trans rfl rfl
theorem l_rAdd_tup {i j : List D} {S : Sto} {Q : MQ} : rAdd (.tup i) (.tup j) S Q = ((i ≠ [] ∧ i.length + j.length ≤ sizeLine) ∧ Q (.tup (i ++ j)) S) := Eq.trans rfl rfl
theorem l_rNeg {i : Int} {S : Sto} {Q : MQ} : rNeg (.int i) S Q = Q (.int (-i)) S := Eq.trans rfl rfl
theorem l_rIsN {d : D} {S : Sto} {Q : MQ} : rIsN d .non S Q = Q (.bl (isN d)) S := Eq.trans rfl rfl
theorem l_rNotN {d : D} {S : Sto} {Q : MQ} : rNotN d .non S Q = Q (.bl (!isN d)) S := Eq.trans rfl rfl
theorem l_rIsBM {neg a b : Bool} {S : Sto} {Q : MQ} : rIsBM neg (.bl a) (.bl b) S Q = Q (.bl (if neg then !decide (a = b) else decide (a = b))) S := Eq.trans rfl rfl
theorem l_mTru {m : ME} {σ : MSt} {S : Sto} {Q : Bool → Sto → Prop} {E : MXQ} : mTru m σ S Q E = m σ S (fun d S1 => optP (truD S1 d) fun k => Q k S1) E := by
  unfold mTru optP OptP
  apply congrArg (fun f => m σ S f E)
  funext d S1
  cases truD S1 d <;> rfl
theorem truD_bl {S : Sto} {b : Bool} : truD S (.bl b) = some b := Eq.trans rfl rfl
theorem truD_int {S : Sto} {i : Int} : truD S (.int i) = some (i != 0) := Eq.trans rfl rfl
theorem truD_tup {S : Sto} {ds : List D} : truD S (.tup ds) = some (!ds.isEmpty) := Eq.trans rfl rfl
theorem truD_lst {S : Sto} {ds : List D} : truD S (.lst ds) = some (!ds.isEmpty) := Eq.trans rfl rfl
theorem truD_scr {S : Sto} {ds : List D} : truD S (.scr ds) = some (!ds.isEmpty) := Eq.trans rfl rfl
theorem truD_non {S : Sto} : truD S .non = some false := Eq.trans rfl rfl
theorem l_bLen {d : D} {S : Sto} {Q : MQ} : bLen [d] S Q = optP (lenD S d) fun n => Q (.int n) S := by
  simp only [bLen, optP, OptP]; cases lenD S d <;> rfl
theorem lenD_tup {S : Sto} {ds : List D} : lenD S (.tup ds) = some ds.length := Eq.trans rfl rfl
theorem lenD_lst {S : Sto} {ds : List D} : lenD S (.lst ds) = some ds.length := Eq.trans rfl rfl
theorem lenD_scr {S : Sto} {ds : List D} : lenD S (.scr ds) = some ds.length := Eq.trans rfl rfl
theorem lenD_ref {S : Sto} {p : Addr} : lenD S (.ref p) = (olP (S p)).map List.length := by rw [← lstOf_ref']; rfl
theorem l_bAbs {i : Int} {S : Sto} {Q : MQ} : bAbs [.int i] S Q = Q (.int (i.natAbs : Nat)) S := by
  have e : (if i < 0 then -i else i) = (i.natAbs : Int) := by split <;> omega
  simp only [bAbs, e]
theorem l_bMax2 {i j : Int} {S : Sto} {Q : MQ} : bMax2 [.int i, .int j] S Q = Q (.int (if j > i then j else i)) S := Eq.trans rfl rfl
theorem l_bMin2 {i j : Int} {S : Sto} {Q : MQ} : bMin2 [.int i, .int j] S Q = Q (.int (if j < i then j else i)) S := Eq.trans rfl rfl
theorem l_bInt_i {i : Int} {S : Sto} {Q : MQ} : bInt [.int i] S Q = Q (.int i) S := Eq.trans rfl rfl
theorem l_bInt_b {k : Bool} {S : Sto} {Q : MQ} : bInt [.bl k] S Q = Q (.int (if k then 1 else 0)) S := Eq.trans rfl rfl
theorem l_bTuple {d : D} {S : Sto} {Q : MQ} : bTuple [d] S Q = optP (seqOf S d) fun xs => Q (.tup xs) S := by
  cases d with
  | tup xs => rfl
  | _ =>
    simp only [bTuple, optP, OptP, seqOf]
    split <;> simp_all
theorem l_bListF {d : D} {S : Sto} {Q : MQ} : bListF [d] S Q = optP (seqOf S d) fun xs => Q (.lst xs) S := by
  simp only [bListF, optP, OptP]; cases seqOf S d <;> rfl
theorem l_bList {d : D} {S : Sto} {Q : MQ} : bList [d] S Q = optP (seqOf S d) fun xs => ∀ p, S p = none → Q (.ref p) (put S p (.lst xs)) := by
  simp only [bList, optP, OptP]; cases seqOf S d <;> rfl
theorem l_mIsi {u : String} {m : ME} {σ : MSt} {S : Sto} {Q : MQ} {E : MXQ} : mIsi u m σ S Q E = m σ S (fun d S1 => optP (tyD S1 d) fun t => Q (.bl (isTy t u)) S1) E := by
  unfold mIsi optP OptP
  apply congrArg (fun f => m σ S f E)
  funext d S1
  cases tyD S1 d <;> rfl
theorem tyD_non {S : Sto} : tyD S .non = some "NoneType" := Eq.trans rfl rfl
theorem tyD_bl {S : Sto} {b : Bool} : tyD S (.bl b) = some "bool" := Eq.trans rfl rfl
theorem tyD_int {S : Sto} {b : Int} : tyD S (.int b) = some "int" := Eq.trans rfl rfl
theorem tyD_str {S : Sto} {b : Str} : tyD S (.str b) = some "str" := Eq.trans rfl rfl
theorem tyD_tup {S : Sto} {b : List D} : tyD S (.tup b) = some "tuple" := Eq.trans rfl rfl
theorem tyD_lst {S : Sto} {b : List D} : tyD S (.lst b) = some "list" := Eq.trans rfl rfl
theorem l_iL {m : ME} {σ : MSt} {S : Sto} {R : List D → (Sto → Prop) → Sto → Prop} {E : MXQ} : iL m σ S R E = m σ S (fun d S1 => optP (lstOf S1 d) fun ds => R ds (fun S' => lstOf S' d = some ds) S1) E := by
  unfold iL optP OptP
  apply congrArg (fun f => m σ S f E)
  funext d S1
  cases lstOf S1 d <;> rfl
theorem l_iT {m : ME} {σ : MSt} {S : Sto} {R : List D → (Sto → Prop) → Sto → Prop} {E : MXQ} : iT m σ S R E = m σ S (fun d S1 => optP (tupOf d) fun ds => R ds (fun _ => True) S1) E := by
  unfold iT optP OptP tupOf
  apply congrArg (fun f => m σ S f E)
  funext d S1
  cases d <;> rfl
theorem l_gTp {n : Nat} {gs : MGs} {d : D} {σ : MSt} {S : Sto} {Q : MSt → Sto → Prop} {E : MXQ} : gTp n gs d σ S Q E = optP (tupOf d) fun ds => ds.length = n ∧ gs ds σ S Q E := by cases d <;> rfl
theorem l_gLs {n : Nat} {gs : MGs} {d : D} {σ : MSt} {S : Sto} {Q : MSt → Sto → Prop} {E : MXQ} : gLs n gs d σ S Q E = optP (lstOf S d) fun ds => ds.length = n ∧ gs ds σ S Q E := by
  unfold gLs optP OptP; cases lstOf S d <;> rfl
theorem l_gCn {g : MG} {gs : MGs} {d : D} {r : List D} {σ : MSt} {S : Sto} {Q : MSt → Sto → Prop} {E : MXQ} : gCn g gs (d :: r) σ S Q E = g d σ S (fun σ' S' => gs r σ' S' Q E) E := Eq.trans rfl rfl
theorem l_gNl {σ : MSt} {S : Sto} {Q : MSt → Sto → Prop} {E : MXQ} : gNl [] σ S Q E = Go Q σ S := Eq.trans rfl rfl
theorem l_mtAppend {p : Addr} {y : D} {S : Sto} {Q : MQ} : mtAppend (.ref p) [y] S Q = optP (olP (S p)) fun xs => xs.length < sizeLine ∧ Q .non (put S p (.lst (xs ++ [y]))) := by
  simp only [mtAppend, optP, OptP, olP]
  cases S p with
  | none => rfl
  | some o => cases o <;> rfl
theorem isLst_ref {S : Sto} {p : Addr} {ds : List D} (h : S p = some (.lst ds)) : isLst S (.ref p) = True := eq_true ⟨ds, by simp only [lstOf, h]⟩
theorem szl {n : Nat} (h : n ≤ 1000) : (n ≤ sizeLine) = True := eq_true (line_le h)
theorem szlt {n : Nat} (h : n ≤ 1000) : (n < sizeLine) = True := eq_true (line_lt h)
theorem cpow_lit {i j : Int} (h : 0 ≤ j) (h2 : j ≤ 1000000) (h3 : -1000 ≤ i) (h4 : i ≤ 1000) : CPow i j = True := eq_true ⟨h, h2, by omega⟩
theorem mulok_rl {i j : Int} (h1 : -18446744073709551616 < j) (h2 : j < 18446744073709551616) : IntMulOk i j = True := eq_true (mulok_r (by omega) (by omega))
theorem mulok_ll {i j : Int} (h1 : -18446744073709551616 < i) (h2 : i < 18446744073709551616) : IntMulOk i j = True := eq_true (mulok_l (by omega) (by omega))
theorem divok_l {i j : Int} (h1 : 0 < j) (h2 : j < 1073741824) : DivOk i j = True := eq_true (divok_s (by omega) (by omega))
end ML
set_option maxRecDepth 100000
namespace ML
open PySem PySem.Spec L2
open PyProof.Rows hiding St
section
variable {X : Cx} {W : WX} {tg : Expr} {g : MG} {pos : Pos}
/-- name = [.. for ..], stored at once -/
theorem ssetLc {i : Nat} {y : Str} {py spos : Pos} {elt iter : Expr} {ifs : List Expr} {scope : Scope} {own : List (Str × Nat)} {mi : MI} {mt : MT} {me : ME} (hc : X.calm = true) (hN : X.N.Nodup) (hi : PI X tg iter (upI X.K W mi)) (ok : BlkOk X.N X.env.scope scope own)
    (hg : ∀ (s : Shared) (H : Hp) (C : Addr) (cl : List (Str × Addr)) (fp : List Addr), PG (X.blk s H scope (compEnvC scope cl C X.env) fp) tg (upGo X.K (own.map (·.2)) g)) (ht : ∀ (s : Shared) (H : Hp) (C : Addr) (cl : List (Str × Addr)) (fp : List Addr), PTs (X.blk s H scope (compEnvC scope cl C X.env) fp) ifs (upT X.K W0 mt))
    (he : ∀ (s : Shared) (H : Hp) (C : Addr) (cl : List (Str × Addr)) (fp : List Addr), PE (X.blk s H scope (compEnvC scope cl C X.env) fp) elt (upE X.K W0 me)) (hy : X.N[i]? = some y := by rfl) (hyl : X.env.scope.names.lookup y = some .local := by rfl)
    (hsw : swapsWith (.ListComp elt [⟨tg, iter, ifs, 0⟩] scope pos) (some (.Name y py)) spos.line X.env = pure true := by exact sw_true rfl rfl rfl rfl) (hs : ∀ x, foldedSetIterable iter X.env x = pure x := by intro _; rfl) :
    PS X (.Assign [.Name y py] (.ListComp elt [⟨tg, iter, ifs, 0⟩] scope pos) spos) (upS X.K W (mSet i (mComp mi g mt me (own.map (·.2))))) :=
  L2.PS.to (ps_setLc hc hN hy hyl hsw hi ok hg ht he hs) fun D σ H ⟨m, S, Dm, h1, h2, h3, h4⟩ =>
    ⟨m, S, _, _, h1, h2, h3, fun items G S1 J H1 q e1 s1 it Dp hD =>
      lc_to (Q := fun x H1 => gName i x σ H1 D.nx) (h1.ext e1) s1 it hD (q Dp (s1.fresh hD)) fun acc H' S' f ea e' s' => h4.nx _ S' _ H' f (e1.trans e') s' ((h1.ext (e1.trans e')).set (.ref Dp) i), xAt_ref h1 h4.ex⟩
end
/-- the next turn of a comprehension -/
def CompNext (p : Addr) (J : Nat → List D → Sto → Prop) (i : Nat) (y : D) (S4 : Sto) : Prop := ∃ acc, S4 p = some (.lst acc) ∧ acc.length < sizeLine ∧ ∃ acc', put S4 p (.lst (acc ++ [y])) p = some (.lst acc') ∧ J (i + 1) acc' (put S4 p (.lst (acc ++ [y])))
theorem CompNext.mk {p : Addr} {J : Nat → List D → Sto → Prop} {i : Nat} {y : D} {S4 : Sto} {acc : List D} (h : S4 p = some (.lst acc)) (hl : acc.length < sizeLine) (hj : J (i + 1) (acc ++ [y]) (put S4 p (.lst (acc ++ [y])))) : CompNext p J i y S4 := ⟨acc, h, hl, acc ++ [y], put_same, hj⟩
theorem comp_inv {items : List D} {σ : MSt} {S : Sto} {p : Addr} {own : List Nat} {G : Sto → Prop} {g : MG} {me : ME} {fin : List D → Sto → Prop} (J : Nat → List D → Sto → Prop) (hS : S p = some (.lst [])) (h0 : J 0 [] S)
    (hs : ∀ i d acc S', items[i]? = some d → J i acc S' → S' p = some (.lst acc) → G S' ∧ g d (wipeM σ own) S' (fun σ2 S2 => me σ2 S2 (fun y S4 => CompNext p J i y S4) noX) noX)
    (hd : ∀ acc S', J items.length acc S' → S' p = some (.lst acc) → G S' ∧ fin acc S') : @CompP items σ S p own ⟨G⟩ ⟨g⟩ ⟨mYes⟩ ⟨me⟩ ⟨fin⟩ := by
  refine ⟨fun i S' => ∃ acc, S' p = some (.lst acc) ∧ J i acc S', ⟨[], hS, h0⟩, fun i S' hi ⟨acc, ha, hj⟩ => ?_⟩
  cases e : items[i]? with
  | none =>
    have : i = items.length := by have := List.getElem?_eq_none_iff.mp e; omega
    subst this
    obtain ⟨h1, h2⟩ := hd acc S' hj ha
    exact ⟨h1, acc, ha, h2⟩
  | some d =>
    obtain ⟨h1, h2⟩ := hs i d acc S' e hj ha
    refine ⟨h1, ?_⟩
    have ee : (fun (σ2 : MSt) (S2 : Sto) => mYes σ2 S2 (fun k S3 => if k = true then me σ2 S3 (fun y S4 => ∃ acc, S4 p = some (.lst acc) ∧ acc.length < sizeLine ∧ ∃ acc_1, put S4 p (.lst (acc ++ [y])) p = some (.lst acc_1) ∧ J (i + 1) acc_1 (put S4 p (.lst (acc ++ [y])))) noX
        else ∃ acc, S3 p = some (.lst acc) ∧ J (i + 1) acc S3) noX) = fun σ2 S2 => me σ2 S2 (fun y S4 => CompNext p J i y S4) noX := by
      funext σ2 S2
      simp only [mYes, if_true, CompNext]
    exact Eq.mp (congrArg (fun f => g d (wipeM σ own) S' f noX) ee.symm) h2
/-- each turn only tells a value -/
theorem comp_pure {items : List D} {σ : MSt} {S : Sto} {p : Addr} {own : List Nat} {G : Sto → Prop} {g : MG} {me : ME} {fin : List D → Sto → Prop} (f : Nat → D) (hz : items.length ≤ 1000) (hG : ∀ acc, G (put S p (.lst acc)))
    (h : ∀ i d acc (Q : MQ), items[i]? = some d → Q (f i) (put S p (.lst acc)) → g d (wipeM σ own) (put S p (.lst acc)) (fun σ2 S2 => me σ2 S2 Q noX) noX)
    (hf : fin ((List.range items.length).map f) (put S p (.lst ((List.range items.length).map f)))) : @CompP items σ (put S p (.lst [])) p own ⟨G⟩ ⟨g⟩ ⟨mYes⟩ ⟨me⟩ ⟨fin⟩ := by
  refine comp_inv (fun i acc S' => acc = (List.range i).map f ∧ S' = put S p (.lst acc)) put_same ⟨rfl, rfl⟩ ?_ ?_
  · rintro i d acc S' e ⟨rfl, rfl⟩ -
    have hi : i < items.length := (List.getElem?_eq_some_iff.mp e).1
    refine ⟨hG _, h i d _ _ e ?_⟩
    refine CompNext.mk put_same (line_lt (by simp only [List.length_map, List.length_range]; omega)) ⟨?_, by rw [put_put]⟩
    rw [List.range_succ, List.map_append]; rfl
  · rintro acc S' ⟨rfl, rfl⟩ -
    exact ⟨hG _, hf⟩
theorem comp_prng {lo : Int} {n : Nat} {σ : MSt} {S : Sto} {p : Addr} {own : List Nat} {g : MG} {me : ME} {fin : List D → Sto → Prop} (f : Nat → D) (hz : n ≤ 1000)
    (h : ∀ i acc (Q : MQ), i < n → Q (f i) (put S p (.lst acc)) → g (.int (lo + (i : Nat))) (wipeM σ own) (put S p (.lst acc)) (fun σ2 S2 => me σ2 S2 Q noX) noX)
    (hf : fin ((List.range n).map f) (put S p (.lst ((List.range n).map f)))) : @CompP (rngD lo n) σ (put S p (.lst [])) p own ⟨fun _ => True⟩ ⟨g⟩ ⟨mYes⟩ ⟨me⟩ ⟨fin⟩ :=
  comp_pure f (by rwa [rngD_len]) (fun _ => trivial) (fun i d acc Q e q => by
    have hi : i < n := by
      have := (List.getElem?_eq_some_iff.mp e).1
      rwa [rngD_len] at this
    rw [rngD_get e]
    exact h i acc Q hi q) (by rwa [rngD_len])
end ML
set_option maxRecDepth 100000
namespace ML
open PySem PySem.Spec L2
open PyProof.Rows hiding St
/-! ### a loop over a list or a tuple -/
section
variable {X : Cx} {W : WX} {tg : Expr} {m : ME}
theorem pi_sq {l : Expr} {tl : TE} (hl : PE X l tl) : PI X tg l (fun σ H R => tl σ H fun x H1 => ∃ a, x = .ref a ∧ (((∃ xs, SqL X.K H1 a xs) ∧ R (Itl X.K a) H1) ∨ ((∃ xs, SqT X.K H1 a xs) ∧ R (Itt X.K a) H1))) := by
  constructor
  intro pins s σ H R I h
  apply thn (hl.run pins s σ H _ I h)
  rintro v s1 ⟨x, H1, I1, r1, a, rfl, q1⟩
  obtain rfl : v = Value.ref a := r1
  have top : ∀ b ∈ [s1.heap.objs.size], FpOk X pins H1 b := by
    intro b hb
    obtain rfl := List.mem_singleton.mp hb
    exact I1.fpOk (Nat.le_refl _) (I1.hok.fresh (Nat.le_refl _))
  rcases q1 with ⟨⟨xs, hq⟩, q⟩ | ⟨⟨xs, hq⟩, q⟩
  · have ⟨its, _, p, _⟩ := I1.list hq
    apply wpAny_pyIter_list p.isList
    exact ⟨_, [s1.heap.objs.size], _, _, H1, rfl, I1.kept (t' := s1.toks) (fun _ _ e => Heap.get?_push_of_some _ e), turn_list a _, ⟨_, Heap.get?_push_size _ rfl, rfl, rfl⟩, top, q⟩
  · have ⟨its, _, p, _⟩ := I1.tuple hq
    apply wpAny_pyIter_tuple (show s1.heap.IsTuple a its.toArray from p)
    exact ⟨_, [s1.heap.objs.size], _, _, H1, rfl, I1.kept (t' := s1.toks) (fun _ _ e => Heap.get?_push_of_some _ e), turn_tuple a _, ⟨_, Heap.get?_push_size _ rfl, rfl, rfl⟩, top, q⟩
def iS (m : ME) : MI := fun σ S R E => m σ S (fun d S1 => match d with
  | .tup ds => R ds (fun _ => True) S1
  | d => match lstOf S1 d with
    | some ds => R ds (fun S' => lstOf S' d = some ds) S1
    | none => False) E
theorem is {l : Expr} (h : PE X l (upE X.K W m)) : PI X tg l (upI X.K W (iS m)) := L2.PI.to (pi_sq h) fun σ H R ⟨m, S, Rm, Em, h1, h2, h3, h4, h5⟩ =>
  ⟨m, S, _, Em, h1, h2, h3, fun d S1 v H1 q e s r => by
    have key : ∀ ds, lstOf S1 d = some ds → Rm ds (fun S' => lstOf S' d = some ds) S1 → ∃ a, v = .ref a ∧ (((∃ xs, SqL X.K H1 a xs) ∧ R (Itl X.K a) H1) ∨ ((∃ xs, SqT X.K H1 a xs) ∧ R (Itt X.K a) H1)) := fun ds e2 q => by
      obtain ⟨a, e1, hx, it⟩ := itok_list s r e2
      exact ⟨a, e1, .inl ⟨hx, h4 ds _ S1 _ H1 q e s it⟩⟩
    cases d with
    | tup ds =>
      obtain ⟨a, rfl, hx, it⟩ := itok_tup s r
      exact ⟨a, rfl, .inr ⟨hx, h4 _ _ S1 _ H1 q e s it⟩⟩
    | lst ds => exact key ds rfl q
    | scr ds => exact key ds rfl q
    | ref p =>
      dsimp only at q
      cases e2 : lstOf S1 (.ref p) with
      | none => rw [e2] at q; exact q.elim
      | some ds => rw [e2] at q; exact key ds e2 q
    | _ => exact q.elim, h5⟩
end
def sqI (S : Sto) : D → Option (List D × (Sto → Prop))
  | .tup ds => some (ds, fun _ => True)
  | .lst ds => some (ds, fun _ => True)
  | .scr ds => some (ds, fun _ => True)
  | .ref p => (olP (S p)).map fun ds => (ds, fun S' => olP (S' p) = some ds)
  | _ => none
theorem l_iS {m : ME} {σ : MSt} {S : Sto} {R : List D → (Sto → Prop) → Sto → Prop} {E : MXQ} : iS m σ S R E = m σ S (fun d S1 => optP (sqI S1 d) fun r => R r.1 r.2 S1) E := by
  unfold iS
  apply congrArg (fun f => m σ S f E)
  funext d S1
  cases d with
  | ref p =>
    simp only [lstOf_ref', optP, OptP, sqI]
    cases e : olP (S1 p) <;> simp
  | lst ds => simp only [lstOf, optP, OptP, sqI]
  | scr ds => simp only [lstOf, optP, OptP, sqI]
  | tup ds => simp only [optP, OptP, sqI]
  | _ => simp only [lstOf, optP, OptP, sqI]
theorem sqI_tup {S : Sto} {ds : List D} : sqI S (.tup ds) = some (ds, fun _ => True) := Eq.trans rfl rfl
theorem sqI_lst {S : Sto} {ds : List D} : sqI S (.lst ds) = some (ds, fun _ => True) := Eq.trans rfl rfl
theorem sqI_scr {S : Sto} {ds : List D} : sqI S (.scr ds) = some (ds, fun _ => True) := Eq.trans rfl rfl
theorem sqI_ref {S : Sto} {p : Addr} {ds : List D} : sqI (put S p (.lst ds)) (.ref p) = some (ds, fun S' => olP (S' p) = some ds) := by
  simp only [sqI, put_same, olP, Option.map_some]
theorem sqI_at {S : Sto} {p : Addr} {ds : List D} (h : S p = some (.lst ds)) : sqI S (.ref p) = some (ds, fun S' => olP (S' p) = some ds) := by
  simp only [sqI, h, olP, Option.map_some]
/-! ### comprehensions, loops turn by turn -/
def croll (G : Sto → Prop) (g : MG) (mt : MT) (me : ME) (p : Addr) (own : List Nat) (σ : MSt) (fin : List D → Sto → Prop) : List D → Sto → Prop
  | [], S => G S ∧ ∃ acc, S p = some (.lst acc) ∧ fin acc S
  | d :: ds, S => G S ∧ g d (wipeM σ own) S (fun σ2 S2 => mt σ2 S2 (fun k S3 => if k = true then me σ2 S3 (fun y S4 => ∃ acc, S4 p = some (.lst acc) ∧ acc.length < sizeLine ∧ croll G g mt me p own σ fin ds (put S4 p (.lst (acc ++ [y])))) noX else croll G g mt me p own σ fin ds S3) noX) noX
theorem wlc_roll {G : Sto → Prop} {g : MG} {mt : MT} {me : ME} {p : Addr} {own : List Nat} {σ : MSt} {fin : List D → Sto → Prop} {items : List D} {S : Sto} (h : croll G g mt me p own σ fin items S) : wlc G g mt me p own σ fin items S := by
  refine ⟨fun i => croll G g mt me p own σ fin (items.drop i), by simpa using h, fun i S hi h => ?_⟩
  dsimp only at h ⊢
  by_cases hlt : i < items.length
  · have hd : items.drop i = items[i] :: items.drop (i + 1) := List.drop_eq_getElem_cons hlt
    rw [hd] at h
    rw [List.getElem?_eq_getElem hlt]
    exact h
  · have e : i = items.length := by omega
    subst e
    rw [List.drop_length] at h
    rw [List.getElem?_eq_none (by omega)]
    exact h
def CrA (y : D) (S : Sto) (p : Addr) [k : Hold (Sto → Prop)] : Prop := ∃ acc, S p = some (.lst acc) ∧ acc.length < sizeLine ∧ k.v (put S p (.lst (acc ++ [y])))
theorem CrA_at {y : D} {S : Sto} {p : Addr} {acc : List D} {k : Hold (Sto → Prop)} : @CrA y (put S p (.lst acc)) p k = (acc.length < sizeLine ∧ k.v (put S p (.lst (acc ++ [y])))) := by
  unfold CrA
  apply propext
  constructor
  · rintro ⟨a, h1, h2, h3⟩
    rw [put_same] at h1
    cases h1
    rw [put_put] at h3
    exact ⟨h2, h3⟩
  · rintro ⟨h1, h2⟩
    exact ⟨acc, put_same, h1, by rw [put_put]; exact h2⟩
structure CrK where
  G : Sto → Prop
  g : MG
  mt : MT
  me : ME
  p : Addr
  own : List Nat
  σ : MSt
  fin : List D → Sto → Prop
def CrollP (items : List D) (S : Sto) [k : Hold CrK] : Prop := croll k.v.G k.v.g k.v.mt k.v.me k.v.p k.v.own k.v.σ k.v.fin items S
theorem CrollP_nil {S : Sto} {G : Sto → Prop} {g : MG} {mt : MT} {me : ME} {p : Addr} {own : List Nat} {σ : MSt} {fin : List D → Sto → Prop} {acc : List D} : @CrollP [] (put S p (.lst acc)) ⟨⟨G, g, mt, me, p, own, σ, fin⟩⟩ = (G (put S p (.lst acc)) ∧ fin acc (put S p (.lst acc))) := by
  apply propext
  constructor
  · rintro ⟨h, a, h1, h2⟩
    have h3 : put S p (.lst acc) p = some (.lst a) := h1
    rw [put_same] at h3; cases h3
    exact ⟨h, h2⟩
  · rintro ⟨h1, h2⟩; exact ⟨h1, acc, put_same, h2⟩
theorem CrollP_cons {d : D} {ds : List D} {S : Sto} {G : Sto → Prop} {g : MG} {mt : MT} {me : ME} {p : Addr} {own : List Nat} {σ : MSt} {fin : List D → Sto → Prop} : @CrollP (d :: ds) S ⟨⟨G, g, mt, me, p, own, σ, fin⟩⟩ =
    (G S ∧ g d (wipeM σ own) S (fun σ2 S2 => mt σ2 S2 (fun k S3 => @IteP (k = true) ⟨me σ2 S3 (fun y S4 => @CrA y S4 p ⟨fun S5 => @CrollP ds S5 ⟨⟨G, g, mt, me, p, own, σ, fin⟩⟩⟩) noX⟩ ⟨@CrollP ds S3 ⟨⟨G, g, mt, me, p, own, σ, fin⟩⟩⟩) noX) noX) := by
  simp only [CrollP, croll, IteP_bool]
  rfl
theorem comp_roll {items : List D} {σ : MSt} {S : Sto} {p : Addr} {own : List Nat} {G : Sto → Prop} {g : MG} {mt : MT} {me : ME} {fin : List D → Sto → Prop} (h : @CrollP items S ⟨⟨G, g, mt, me, p, own, σ, fin⟩⟩) : @CompP items σ S p own ⟨G⟩ ⟨g⟩ ⟨mt⟩ ⟨me⟩ ⟨fin⟩ := wlc_roll h
theorem l_mYes {σ : MSt} {S : Sto} {Q : Bool → Sto → Prop} {E : MXQ} : mYes σ S Q E = Q true S := Eq.trans rfl rfl
/-- a loop over known items, turn by turn -/
structure FoK where
  G : Sto → Prop
  g : MG
  mb : MS
  D : MEnds
def FrollP (items : List D) (σ : MSt) (S : Sto) [k : Hold FoK] : Prop := wroll k.v.G k.v.g k.v.mb k.v.D items σ S
theorem FrollP_nil {σ : MSt} {S : Sto} {G : Sto → Prop} {g : MG} {mb : MS} {De : MEnds} : @FrollP [] σ S ⟨⟨G, g, mb, De⟩⟩ = (G S ∧ Go De.nx σ S) := Eq.trans rfl rfl
theorem FrollP_cons {d : D} {ds : List D} {σ : MSt} {S : Sto} {G : Sto → Prop} {g : MG} {mb : MS} {De : MEnds} : @FrollP (d :: ds) σ S ⟨⟨G, g, mb, De⟩⟩ =
    (G S ∧ g d σ S (fun σ' S' => mb { De with nx := fun σ S => @FrollP ds σ S ⟨⟨G, g, mb, De⟩⟩, ct := fun σ S => @FrollP ds σ S ⟨⟨G, g, mb, De⟩⟩, bk := De.nx } σ' S') (xAt De σ)) := Eq.trans rfl rfl
theorem for_roll {items : List D} {σ : MSt} {S : Sto} {G : Sto → Prop} {g : MG} {mb : MS} {De : MEnds} (h : @FrollP items σ S ⟨⟨G, g, mb, De⟩⟩) : @ForP items σ S ⟨G⟩ ⟨g⟩ ⟨mb⟩ ⟨De⟩ := wfor_roll h
/-! ### if, its ways come together: what holds behind it is said -/
def mIfJ (c : MT) (t u : MS) : MS := fun De σ S => c σ S (fun b S1 => ∃ J : MSt → Sto → Prop, (if b = true then t { De with nx := J } σ S1 else u { De with nx := J } σ S1) ∧ ∀ σ' S', J σ' S' → De.nx σ' S') (xAt De σ)
section
variable {X : Cx} {W : WX} {c : Expr} {mt mu : MS} {pos : Pos}
theorem sifJ {tc : MT} {as bs : List Stmt} (hc : PT X c (upT X.K W tc)) (ha : PSs X as (upS X.K W mt)) (hb : PSs X bs (upS X.K W mu)) : PS X (.If c as bs pos) (upS X.K W (mIfJ tc mt mu)) := L2.PS.to (ps_if hc ha hb) fun D σ H ⟨m, S, Dm, h1, h2, h3, h4⟩ =>
  ⟨m, S, _, _, h1, h2, h3, fun k S1 H1 q e s => by
    obtain ⟨J, q, hJ⟩ := q
    have r : RefE X.K H1 S1 { Dm with nx := J } D W := ⟨fun m' S' σ' H' z e' s' r' => h4.nx m' S' σ' H' (hJ _ _ z) (e.trans e') s' r', (h4.ext e).rt, (h4.ext e).bk, (h4.ext e).ct, (h4.ext e).ex⟩
    cases k with
    | true => rw [if_pos rfl]; exact ⟨m, S1, _, h1.ext e, s, by simpa using q, r⟩
    | false => rw [if_neg Bool.false_ne_true]; exact ⟨m, S1, _, h1.ext e, s, by simpa using q, r⟩, xAt_ref h1 h4.ex⟩
end
def JfP (c : Prop) (σ : MSt) (S : Sto) [t : Hold MS] [u : Hold MS] [De : Hold MEnds] : Prop := ∃ J : MSt → Sto → Prop, ((c → t.v { De.v with nx := J } σ S) ∧ (¬ c → u.v { De.v with nx := J } σ S)) ∧ ∀ σ' S', J σ' S' → De.v.nx σ' S'
theorem l_mIfJ {c : MT} {t u : MS} {De : MEnds} {σ : MSt} {S : Sto} : mIfJ c t u De σ S = c σ S (fun b S1 => @JfP (b = true) σ S1 ⟨t⟩ ⟨u⟩ ⟨De⟩) (xAt De σ) := by
  unfold mIfJ
  apply congrArg (fun f => c σ S f (xAt De σ))
  funext b S1
  have e : ∀ J : MSt → Sto → Prop, (if b = true then t { De with nx := J } σ S1 else u { De with nx := J } σ S1) = ((b = true → t { De with nx := J } σ S1) ∧ (¬ b = true → u { De with nx := J } σ S1)) := fun J => IteP_bool
  simp only [e]
  rfl
theorem jf {c : Prop} {σ : MSt} {S : Sto} {t u : MS} {De : MEnds} (J : MSt → Sto → Prop) (h1 : c → t { De with nx := J } σ S) (h2 : ¬ c → u { De with nx := J } σ S) (k : ∀ σ' S', J σ' S' → Go De.nx σ' S') : @JfP c σ S ⟨t⟩ ⟨u⟩ ⟨De⟩ := ⟨J, ⟨h1, h2⟩, k⟩
/-- a row behind which what holds is said -/
def mJ (t : MS) : MS := fun De σ S => ∃ J : MSt → Sto → Prop, t { De with nx := J } σ S ∧ ∀ σ' S', J σ' S' → De.nx σ' S'
def JP (σ : MSt) (S : Sto) [t : Hold MS] [De : Hold MEnds] : Prop := ∃ J : MSt → Sto → Prop, t.v { De.v with nx := J } σ S ∧ ∀ σ' S', J σ' S' → De.v.nx σ' S'
theorem l_mJ {t : MS} {De : MEnds} {σ : MSt} {S : Sto} : mJ t De σ S = @JP σ S ⟨t⟩ ⟨De⟩ := Eq.trans rfl rfl
theorem isN_non : isN .non = true := Eq.trans rfl rfl
theorem isN_int {i : Int} : isN (.int i) = false := Eq.trans rfl rfl
theorem isN_bl {i : Bool} : isN (.bl i) = false := Eq.trans rfl rfl
theorem isN_str {i : Str} : isN (.str i) = false := Eq.trans rfl rfl
theorem isN_tup {i : List D} : isN (.tup i) = false := Eq.trans rfl rfl
theorem isN_lst {i : List D} : isN (.lst i) = false := Eq.trans rfl rfl
theorem isN_ref {i : Addr} : isN (.ref i) = false := Eq.trans rfl rfl
theorem put_sw {p q : Addr} (h : q ≠ p) (S : Sto) (a b : MO) : put (put S q a) p b = put (put S p b) q a := put_comm h
theorem rngD_0 {lo : Int} : rngD lo 0 = [] := rfl
theorem rngD_1 {lo : Int} : rngD lo 1 = [.int lo] := by simp [rngD, List.range, List.range.loop]
theorem rngD_2 {lo : Int} : rngD lo 2 = [.int lo, .int (lo + 1)] := by simp [rngD, List.range, List.range.loop]
theorem rngD_3 {lo : Int} : rngD lo 3 = [.int lo, .int (lo + 1), .int (lo + 2)] := by simp [rngD, List.range, List.range.loop]
theorem rngD_4 {lo : Int} : rngD lo 4 = [.int lo, .int (lo + 1), .int (lo + 2), .int (lo + 3)] := by simp [rngD, List.range, List.range.loop]
theorem rngD_6 {lo : Int} : rngD lo 6 = [.int lo, .int (lo + 1), .int (lo + 2), .int (lo + 3), .int (lo + 4), .int (lo + 5)] := by simp [rngD, List.range, List.range.loop]
theorem fresh_put {S : Sto} {p q : Addr} {o : MO} (h : put S p o q = none) : q ≠ p ∧ S q = none := by
  have e : q ≠ p := fun z => by rw [z, put_same] at h; cases h
  rw [put_ne e] at h
  exact ⟨e, h⟩
theorem q_wipeM_nil {σ : MSt} : wipeM σ [] = σ := rfl
theorem q_wipeM_cons {σ : MSt} {v : Nat} {vs : List Nat} : wipeM σ (v :: vs) = (wipeM σ vs).set v none := rfl
end ML
set_option maxRecDepth 100000
/-! ### max, min of two values that are compared by what stands in the heap -/
namespace PySem
/-- x op y tells b wherever what stood stands -/
def CmpAt (prog : Program) (w : World) (A : Around) (s0 : Heap) (op : CmpOp) (x y : Value) (b : Bool) : Prop :=
  ∀ (s : Shared) (Q E : Value → Shared → Prop), (∀ c o, s0.get? c = some o → s.heap.get? c = some o) → Q (.bool b) s → wpAny (model prog w) A (richCompare op x y) Q E s
section
variable {prog : Program} {w : World} {A : Around} {E : Value → Shared → Prop} {s : Shared}
theorem two_loop_max {a b : Value} {k : Bool} {I S ax : Addr} {h0 : Heap} {n0 : Nat} (hh : A.handled = none) (hne : ax ≠ I) (hSI : S ≠ I) (hSa : S ≠ ax) (hc : CmpAt prog w A.in1 h0 .Gt b a k) {R : Result → Shared → Prop} (lt : ∀ c o, h0.get? c = some o → c ≠ I ∧ c ≠ S)
    (hk0 : ∀ c o, h0.get? c = some o → s.heap.get? c = some o) (hI : s.heap.IsTupleIter I ax 0) (hT : s.heap.IsTuple ax #[a, b]) (hS : s.heap.get? S = some { cls := .type "list", dict := none, data := .seq #[] n0, slots := #[] })
    (hR : ∀ h' tk, (∀ c o, h0.get? c = some o → h'.get? c = some o) → R (.ok (.ret (if k = true then b else a))) { s with heap := h', toks := tk }) :
    codeAny (model prog w) A (.builtin "max.loop" ⟨[.ref I, .none, .ref S], []⟩) R s := by
  have W := Walks.tuple (prog := prog) (w := w) (A := A.in1) hh I ax hne #[a, b]
  have hw : S ∉ [I] := by simp [hSI]
  have hname : (toString "max" ++ toString ".loop" : String) = "max.loop" := by decide
  have ni : ∀ c o, h0.get? c = some o → c ∉ [I] := fun c o e => by simp [(lt c o e).1]
  apply codeAny_builtin F.entry_max_loop; rw [Around.under_plainId F.plain_max_loop _]; show wpAny _ A.in1 (_ >>= _) _ _ s
  refine wpAny_bind (wpAny_seqItems hS rfl ?_); show wpAny _ A.in1 (tryCatch (pyNext (.ref I)) _ >>= _) _ _ s
  refine wpAny_bind (wpAny_tryCatch (W.item 0 s _ _ (by simp) ⟨hI, hT⟩ fun v1 h1 t1 p1 st1 k1 => ?_))
  have e1 : v1 = a := by simpa using p1.symm
  have hS1 := k1 S _ hw hS
  show wpAny _ A.in1 (updateSeq S (fun _ => #[v1, v1]) >>= _) _ _ _
  apply wpAny_bind; refine wpAny_updateSeq hS1 rfl ?_; rw [hname]
  refine wpAny_pure ⟨plainId_quiet F.plain_max_loop _, ?_⟩
  have hS2 := Heap.get?_update_self (Obj.mapSeq fun _ => #[v1, v1]) hS1 rfl
  have st2 := W.frame 1 _ (h1.update S (Obj.mapSeq fun _ => #[v1, v1])) st1 fun c hc o e => (Heap.get?_update_other _ _ (fun z : S = c => by
    rw [← z] at hc; simp [hSI, hSa] at hc)).trans e
  have k2 : ∀ c o, h0.get? c = some o → (h1.update S (Obj.mapSeq fun _ => #[v1, v1])).get? c = some o := fun c o e => (Heap.get?_update_other _ _ (Ne.symm (lt c o e).2)).trans (k1 c o (ni c o e) (hk0 c o e))
  generalize h1.update S (Obj.mapSeq fun _ => #[v1, v1]) = h2 at hS2 st2 k2
  apply codeAny_builtin F.entry_max_loop; rw [Around.under_plainId F.plain_max_loop _]; show wpAny _ A.in1 (_ >>= _) _ _ _
  refine wpAny_bind (wpAny_seqItems hS2 rfl ?_); show wpAny _ A.in1 (tryCatch (pyNext (.ref I)) _ >>= _) _ _ _
  refine wpAny_bind (wpAny_tryCatch (W.item 1 _ _ _ (by simp) st2 fun v2 h3 t3 p2 st3 k3 => ?_))
  have e2 : v2 = b := by simpa using p2.symm
  have hS3 := k3 S _ hw hS2
  have k4 : ∀ c o, h0.get? c = some o → h3.get? c = some o := fun c o e => k3 c o (ni c o e) (k2 c o e)
  show wpAny _ A.in1 (tryCatch (holding [v2, v2] (richCompare .Gt v2 v1 >>= _)) _ >>= _) _ _ _
  subst e1 e2
  refine wpAny_bind (wpAny_tryCatch (wpAny_holding (wpAny_bind (hc _ _ _ k4 ?_))))
  refine wpAny_bind (wpAny_holding (wpAny_truthy_bool ?_)); refine wpAny_bind (wpAny_letGo (wpAny_pure ?_))
  have fin : ∀ (h4 : Heap) (t4 m4 : Nat) (vb : Value), h4.IsTupleIter I ax 2 ∧ h4.IsTuple ax #[v1, v2] → h4.get? S = some { cls := .type "list", dict := none, data := .seq #[vb, vb] m4, slots := #[] } → (∀ c o, h0.get? c = some o → h4.get? c = some o) →
      (∀ h' tk, (∀ c o, h0.get? c = some o → h'.get? c = some o) → R (.ok (.ret vb)) { s with heap := h', toks := tk }) → codeAny (model prog w) A (.builtin "max.loop" ⟨[.ref I, .none, .ref S], []⟩) R { s with heap := h4, toks := t4 } := fun h4 t4 m4 vb st4 hS4 k4 hR => by
    apply codeAny_builtin F.entry_max_loop; rw [Around.under_plainId F.plain_max_loop _]; show wpAny _ A.in1 (_ >>= _) _ _ _
    refine wpAny_bind (wpAny_seqItems hS4 rfl ?_); show wpAny _ A.in1 (tryCatch (pyNext (.ref I)) _ >>= _) _ _ _
    refine wpAny_bind (wpAny_tryCatch (W.done _ _ _ st4 fun h5 t5 k5 => ?_))
    have hS5 := k5 S _ hw hS4
    show wpAny _ A.in1 (updateSeq S (fun _ => #[]) >>= _) _ _ _
    apply wpAny_bind; refine wpAny_updateSeq hS5 rfl (wpAny_bind (wpAny_letGo (wpAny_pure ?_)))
    exact hR _ t5 fun c o e => (Heap.get?_update_other _ _ (Ne.symm (lt c o e).2)).trans (k5 c o (ni c o e) (k4 c o e))
  cases k with
  | true =>
    simp only [if_true] at hR ⊢
    apply wpAny_bind; refine wpAny_updateSeq hS3 rfl (wpAny_bind (wpAny_letGo ?_)); rw [hname]
    refine wpAny_pure ⟨plainId_quiet F.plain_max_loop _, fin _ _ _ v2 ?_ (Heap.get?_update_self _ hS3 rfl) (fun c o e => (Heap.get?_update_other _ _ (Ne.symm (lt c o e).2)).trans (k4 c o e)) hR⟩
    exact W.frame 2 _ _ st3 fun c hc o e => (Heap.get?_update_other _ _ (fun z : S = c => by
      rw [← z] at hc; simp [hSI, hSa] at hc)).trans e
  | false =>
    simp only [Bool.false_eq_true, if_false] at hR ⊢
    refine wpAny_bind (wpAny_letGo ?_); rw [hname]
    exact wpAny_pure ⟨plainId_quiet F.plain_max_loop _, fin _ _ _ v1 st3 hS3 k4 hR⟩
theorem call_max_at {a b : Value} {k : Bool} {Q : Value → Shared → Prop} (hh : A.handled = none) (hc : CmpAt prog w A.in1 s.heap .Gt b a k)
    (h : ∀ h' tk, (∀ c o, s.heap.get? c = some o → h'.get? c = some o) → Q (if k = true then b else a) { s with heap := h', toks := tk }) : wpAny (model prog w) A (call (.builtin "max") [a, b]) Q E s := by
  have hT : (s.heap.push { cls := .type "tuple", data := .seq #[a, b] }).IsTuple s.heap.objs.size #[a, b] := ⟨_, Heap.get?_push_size _ rfl, rfl, 0, rfl⟩
  have hname : (toString "max" ++ toString ".loop" : String) = "max.loop" := by decide
  have z1 : (s.heap.push { cls := .type "tuple", data := .seq #[a, b] }).objs.size = s.heap.objs.size + 1 := Heap.size_push ..
  apply call_function_tree F.kind_max F.plain_max F.entry_max (F.args_max2 _ _)
  show wpAny _ A.in1 (Builtin.Builtins.bindParams "max" ["key", "default"] 0 ⟨[], []⟩ >>= _) _ _ s
  apply wpAny_bind; apply wpAny_of_eq (show Builtin.Builtins.bindParams "max" ["key", "default"] 0 ⟨[], []⟩ = pure [none, none] from rfl)
  show wpAny _ A.in1 (newTuple [a, b] >>= _) _ _ s
  apply wpAny_bind; refine wpAny_newObj_type ?_; apply wpAny_bind; apply wpAny_pyIter_tuple hT
  apply wpAny_bind; refine wpAny_newObj_type ?_
  rw [hname]
  refine wpAny_pure ⟨plainId_quiet F.plain_max_loop _, two_loop_max (h0 := s.heap) (ax := s.heap.objs.size) hh ?_ ?_ ?_ hc (fun c o e => ?_) (fun c o e => ?_) ?_ ?_ (Heap.get?_push_size _ rfl) h⟩
  · exact Nat.ne_of_lt (show s.heap.objs.size < (s.heap.push _).objs.size by simp only [Heap.size_push]; omega)
  · exact Nat.ne_of_gt (show (s.heap.push _).objs.size < ((s.heap.push _).push _).objs.size by simp only [Heap.size_push]; omega)
  · exact Nat.ne_of_gt (show s.heap.objs.size < ((s.heap.push _).push _).objs.size by simp only [Heap.size_push]; omega)
  · have lz := Heap.lt_size e
    exact ⟨Nat.ne_of_lt (show c < (s.heap.push _).objs.size by simp only [Heap.size_push]; exact Nat.lt_succ_of_lt lz), Nat.ne_of_lt (show c < ((s.heap.push _).push _).objs.size by simp only [Heap.size_push]; exact Nat.lt_succ_of_lt (Nat.lt_succ_of_lt lz))⟩
  · exact Heap.get?_push_of_some _ (Heap.get?_push_of_some _ (Heap.get?_push_of_some _ e))
  · exact ⟨_, Heap.get?_push_of_some _ (Heap.get?_push_size _ rfl), rfl, rfl⟩
  · exact (hT.push _).push _
end
section
variable {prog : Program} {w : World} {A : Around} {E : Value → Shared → Prop} {s : Shared}
theorem two_loop_min {a b : Value} {k : Bool} {I S ax : Addr} {h0 : Heap} {n0 : Nat} (hh : A.handled = none) (hne : ax ≠ I) (hSI : S ≠ I) (hSa : S ≠ ax) (hc : CmpAt prog w A.in1 h0 .Lt b a k) {R : Result → Shared → Prop} (lt : ∀ c o, h0.get? c = some o → c ≠ I ∧ c ≠ S)
    (hk0 : ∀ c o, h0.get? c = some o → s.heap.get? c = some o) (hI : s.heap.IsTupleIter I ax 0) (hT : s.heap.IsTuple ax #[a, b]) (hS : s.heap.get? S = some { cls := .type "list", dict := none, data := .seq #[] n0, slots := #[] })
    (hR : ∀ h' tk, (∀ c o, h0.get? c = some o → h'.get? c = some o) → R (.ok (.ret (if k = true then b else a))) { s with heap := h', toks := tk }) :
    codeAny (model prog w) A (.builtin "min.loop" ⟨[.ref I, .none, .ref S], []⟩) R s := by
  have W := Walks.tuple (prog := prog) (w := w) (A := A.in1) hh I ax hne #[a, b]
  have hw : S ∉ [I] := by simp [hSI]
  have hname : (toString "min" ++ toString ".loop" : String) = "min.loop" := by decide
  have ni : ∀ c o, h0.get? c = some o → c ∉ [I] := fun c o e => by simp [(lt c o e).1]
  apply codeAny_builtin F.entry_min_loop; rw [Around.under_plainId F.plain_min_loop _]; show wpAny _ A.in1 (_ >>= _) _ _ s
  refine wpAny_bind (wpAny_seqItems hS rfl ?_); show wpAny _ A.in1 (tryCatch (pyNext (.ref I)) _ >>= _) _ _ s
  refine wpAny_bind (wpAny_tryCatch (W.item 0 s _ _ (by simp) ⟨hI, hT⟩ fun v1 h1 t1 p1 st1 k1 => ?_))
  have e1 : v1 = a := by simpa using p1.symm
  have hS1 := k1 S _ hw hS
  show wpAny _ A.in1 (updateSeq S (fun _ => #[v1, v1]) >>= _) _ _ _
  apply wpAny_bind; refine wpAny_updateSeq hS1 rfl ?_; rw [hname]
  refine wpAny_pure ⟨plainId_quiet F.plain_min_loop _, ?_⟩
  have hS2 := Heap.get?_update_self (Obj.mapSeq fun _ => #[v1, v1]) hS1 rfl
  have st2 := W.frame 1 _ (h1.update S (Obj.mapSeq fun _ => #[v1, v1])) st1 fun c hc o e => (Heap.get?_update_other _ _ (fun z : S = c => by
    rw [← z] at hc; simp [hSI, hSa] at hc)).trans e
  have k2 : ∀ c o, h0.get? c = some o → (h1.update S (Obj.mapSeq fun _ => #[v1, v1])).get? c = some o := fun c o e => (Heap.get?_update_other _ _ (Ne.symm (lt c o e).2)).trans (k1 c o (ni c o e) (hk0 c o e))
  generalize h1.update S (Obj.mapSeq fun _ => #[v1, v1]) = h2 at hS2 st2 k2
  apply codeAny_builtin F.entry_min_loop; rw [Around.under_plainId F.plain_min_loop _]; show wpAny _ A.in1 (_ >>= _) _ _ _
  refine wpAny_bind (wpAny_seqItems hS2 rfl ?_); show wpAny _ A.in1 (tryCatch (pyNext (.ref I)) _ >>= _) _ _ _
  refine wpAny_bind (wpAny_tryCatch (W.item 1 _ _ _ (by simp) st2 fun v2 h3 t3 p2 st3 k3 => ?_))
  have e2 : v2 = b := by simpa using p2.symm
  have hS3 := k3 S _ hw hS2
  have k4 : ∀ c o, h0.get? c = some o → h3.get? c = some o := fun c o e => k3 c o (ni c o e) (k2 c o e)
  show wpAny _ A.in1 (tryCatch (holding [v2, v2] (richCompare .Lt v2 v1 >>= _)) _ >>= _) _ _ _
  subst e1 e2
  refine wpAny_bind (wpAny_tryCatch (wpAny_holding (wpAny_bind (hc _ _ _ k4 ?_))))
  refine wpAny_bind (wpAny_holding (wpAny_truthy_bool ?_)); refine wpAny_bind (wpAny_letGo (wpAny_pure ?_))
  have fin : ∀ (h4 : Heap) (t4 m4 : Nat) (vb : Value), h4.IsTupleIter I ax 2 ∧ h4.IsTuple ax #[v1, v2] → h4.get? S = some { cls := .type "list", dict := none, data := .seq #[vb, vb] m4, slots := #[] } → (∀ c o, h0.get? c = some o → h4.get? c = some o) →
      (∀ h' tk, (∀ c o, h0.get? c = some o → h'.get? c = some o) → R (.ok (.ret vb)) { s with heap := h', toks := tk }) → codeAny (model prog w) A (.builtin "min.loop" ⟨[.ref I, .none, .ref S], []⟩) R { s with heap := h4, toks := t4 } := fun h4 t4 m4 vb st4 hS4 k4 hR => by
    apply codeAny_builtin F.entry_min_loop; rw [Around.under_plainId F.plain_min_loop _]; show wpAny _ A.in1 (_ >>= _) _ _ _
    refine wpAny_bind (wpAny_seqItems hS4 rfl ?_); show wpAny _ A.in1 (tryCatch (pyNext (.ref I)) _ >>= _) _ _ _
    refine wpAny_bind (wpAny_tryCatch (W.done _ _ _ st4 fun h5 t5 k5 => ?_))
    have hS5 := k5 S _ hw hS4
    show wpAny _ A.in1 (updateSeq S (fun _ => #[]) >>= _) _ _ _
    apply wpAny_bind; refine wpAny_updateSeq hS5 rfl (wpAny_bind (wpAny_letGo (wpAny_pure ?_)))
    exact hR _ t5 fun c o e => (Heap.get?_update_other _ _ (Ne.symm (lt c o e).2)).trans (k5 c o (ni c o e) (k4 c o e))
  cases k with
  | true =>
    simp only [if_true] at hR ⊢
    apply wpAny_bind; refine wpAny_updateSeq hS3 rfl (wpAny_bind (wpAny_letGo ?_)); rw [hname]
    refine wpAny_pure ⟨plainId_quiet F.plain_min_loop _, fin _ _ _ v2 ?_ (Heap.get?_update_self _ hS3 rfl) (fun c o e => (Heap.get?_update_other _ _ (Ne.symm (lt c o e).2)).trans (k4 c o e)) hR⟩
    exact W.frame 2 _ _ st3 fun c hc o e => (Heap.get?_update_other _ _ (fun z : S = c => by
      rw [← z] at hc; simp [hSI, hSa] at hc)).trans e
  | false =>
    simp only [Bool.false_eq_true, if_false] at hR ⊢
    refine wpAny_bind (wpAny_letGo ?_); rw [hname]
    exact wpAny_pure ⟨plainId_quiet F.plain_min_loop _, fin _ _ _ v1 st3 hS3 k4 hR⟩
theorem call_min_at {a b : Value} {k : Bool} {Q : Value → Shared → Prop} (hh : A.handled = none) (hc : CmpAt prog w A.in1 s.heap .Lt b a k)
    (h : ∀ h' tk, (∀ c o, s.heap.get? c = some o → h'.get? c = some o) → Q (if k = true then b else a) { s with heap := h', toks := tk }) : wpAny (model prog w) A (call (.builtin "min") [a, b]) Q E s := by
  have hT : (s.heap.push { cls := .type "tuple", data := .seq #[a, b] }).IsTuple s.heap.objs.size #[a, b] := ⟨_, Heap.get?_push_size _ rfl, rfl, 0, rfl⟩
  have hname : (toString "min" ++ toString ".loop" : String) = "min.loop" := by decide
  have z1 : (s.heap.push { cls := .type "tuple", data := .seq #[a, b] }).objs.size = s.heap.objs.size + 1 := Heap.size_push ..
  apply call_function_tree F.kind_min F.plain_min F.entry_min (F.args_min2 _ _)
  show wpAny _ A.in1 (Builtin.Builtins.bindParams "min" ["key", "default"] 0 ⟨[], []⟩ >>= _) _ _ s
  apply wpAny_bind; apply wpAny_of_eq (show Builtin.Builtins.bindParams "min" ["key", "default"] 0 ⟨[], []⟩ = pure [none, none] from rfl)
  show wpAny _ A.in1 (newTuple [a, b] >>= _) _ _ s
  apply wpAny_bind; refine wpAny_newObj_type ?_; apply wpAny_bind; apply wpAny_pyIter_tuple hT
  apply wpAny_bind; refine wpAny_newObj_type ?_
  rw [hname]
  refine wpAny_pure ⟨plainId_quiet F.plain_min_loop _, two_loop_min (h0 := s.heap) (ax := s.heap.objs.size) hh ?_ ?_ ?_ hc (fun c o e => ?_) (fun c o e => ?_) ?_ ?_ (Heap.get?_push_size _ rfl) h⟩
  · exact Nat.ne_of_lt (show s.heap.objs.size < (s.heap.push _).objs.size by simp only [Heap.size_push]; omega)
  · exact Nat.ne_of_gt (show (s.heap.push _).objs.size < ((s.heap.push _).push _).objs.size by simp only [Heap.size_push]; omega)
  · exact Nat.ne_of_gt (show s.heap.objs.size < ((s.heap.push _).push _).objs.size by simp only [Heap.size_push]; omega)
  · have lz := Heap.lt_size e
    exact ⟨Nat.ne_of_lt (show c < (s.heap.push _).objs.size by simp only [Heap.size_push]; exact Nat.lt_succ_of_lt lz), Nat.ne_of_lt (show c < ((s.heap.push _).push _).objs.size by simp only [Heap.size_push]; exact Nat.lt_succ_of_lt (Nat.lt_succ_of_lt lz))⟩
  · exact Heap.get?_push_of_some _ (Heap.get?_push_of_some _ (Heap.get?_push_of_some _ e))
  · exact ⟨_, Heap.get?_push_of_some _ (Heap.get?_push_size _ rfl), rfl, rfl⟩
  · exact (hT.push _).push _
end
end PySem
namespace ML
open PySem PySem.Spec L2
open PyProof.Rows hiding St
abbrev U2 := Int × Int
def ult (p q : U2) : Prop := p.1 < q.1 ∨ (p.1 = q.1 ∧ p.2 < q.2)
def ule (p q : U2) : Prop := p.1 < q.1 ∨ (p.1 = q.1 ∧ p.2 ≤ q.2)
instance : DecidableRel ult := fun a b => by unfold ult; infer_instance
instance : DecidableRel ule := fun a b => by unfold ule; infer_instance
/-- a pair of ints -/
def uD (p : U2) : D := .tup [.int p.1, .int p.2]
theorem ints2 {us : List Value} {p : U2} (r : Vals [V.int p.1, V.int p.2] us) : ∃ t u, us = [.int p.1 t, .int p.2 u] := by
  obtain ⟨a, b, rfl, r1, r2⟩ := vals2 r
  obtain ⟨t, rfl⟩ : ∃ t, a = .int p.1 t := r1
  obtain ⟨u, rfl⟩ : ∃ t, b = .int p.2 t := r2
  exact ⟨t, u, rfl⟩
theorem eq2 {A : Around} {s : Shared} {p q : U2} {t u t' u' : Tok} : ∀ j (h1 : j < (#[Value.int p.1 t, Value.int p.2 u] : Array Value).size) (h2 : j < (#[Value.int q.1 t', Value.int q.2 u'] : Array Value).size),
    SeqAt.EqAt A s (#[Value.int p.1 t, Value.int p.2 u] : Array Value)[j] (#[Value.int q.1 t', Value.int q.2 u'] : Array Value)[j] (if j = 0 then decide (p.1 = q.1) else decide (p.2 = q.2)) := by
  intro j h1 h2
  have e : ∀ a b : Int, (a == b) = decide (a = b) := fun a b => Bool.beq_eq_decide_eq a b
  rcases j with _ | _ | j
  · have := SeqAt.EqAt.int_int (A := A) (s := s) p.1 t q.1 t'
    rw [e] at this
    simpa using this
  · have := SeqAt.EqAt.int_int (A := A) (s := s) p.2 u q.2 u'
    rw [e] at this
    simpa using this
  · simp at h1; omega
theorem rc_lt {A : Around} {s : Shared} {l b : Addr} {p q : U2} {t u t' u' : Tok} (hl : s.heap.IsTuple l #[.int p.1 t, .int p.2 u]) (hb : s.heap.IsTuple b #[.int q.1 t', .int q.2 u']) (hu : A.units < cLine) : Ob.RcOp .Lt A s (.ref l) (.ref b) (decide (ult p q)) := by
  have R := Ob.RcOp.tuples_lt (A := A) (s := s) (e := fun j => if j = 0 then decide (p.1 = q.1) else decide (p.2 = q.2)) (r := fun j => if j = 0 then decide (p.1 < q.1) else decide (p.2 < q.2)) hl hb hu eq2 (fun j h1 h2 _ => by
    rcases j with _ | _ | j
    · simpa using Ob.RcOp.lt_int (A := A.in1) (s := s) p.1 q.1 t t'
    · simpa using Ob.RcOp.lt_int (A := A.in1) (s := s) p.2 q.2 u u'
    · simp at h1; omega)
  have e : (decide (ult p q)) = Ob.lexAt (fun j => if j = 0 then decide (p.1 = q.1) else decide (p.2 = q.2)) (fun j => if j = 0 then decide (p.1 < q.1) else decide (p.2 < q.2)) false 0 2 := by
    rw [Ob.lexAt_succ, Ob.lexAt_succ, Ob.lexAt_zero]
    simp only [if_true, if_false, Nat.zero_add, Nat.one_ne_zero, decide_eq_true_eq]
    apply Bool.eq_iff_iff.mpr
    by_cases h1 : p.1 = q.1 <;> by_cases h2 : p.2 = q.2 <;> simp only [h1, h2, if_true, if_false, decide_eq_true_eq, ult, ule, Bool.false_eq_true, true_and, false_and, or_false, Int.lt_irrefl, Int.le_refl, false_or, iff_self]
    all_goals grind
  rw [e]
  simpa using R
def tuplt (K : PySem.W.Frag) : R2 := fun x y H Q => ∃ (a b : Addr) (p q : U2), x = .ref a ∧ y = .ref b ∧ SqT K H a [.int p.1, .int p.2] ∧ SqT K H b [.int q.1, .int q.2] ∧ Q (.bl (decide (ult p q))) H
theorem opT_lt {X : Cx} (hu : X.A.units < cLine) : OpR X (compareOp .Lt) (tuplt X.K) := by
  rintro pins s σ H x y v u Q I rx ry ⟨a, b, p, q, rfl, rfl, ha, hb, k⟩
  obtain rfl : v = Value.ref a := rx
  obtain rfl : u = Value.ref b := ry
  obtain ⟨its, r1, p1, _⟩ := I.tuple ha
  obtain ⟨its2, r2, p2, _⟩ := I.tuple hb
  obtain ⟨t, u, rfl⟩ := ints2 r1
  obtain ⟨t', u', rfl⟩ := ints2 r2
  exact rc_lt p1 p2 hu X.prog X.w X.xe _ ⟨.bl _, H, I, rfl, k⟩
theorem rc_gt {A : Around} {s : Shared} {l b : Addr} {p q : U2} {t u t' u' : Tok} (hl : s.heap.IsTuple l #[.int p.1 t, .int p.2 u]) (hb : s.heap.IsTuple b #[.int q.1 t', .int q.2 u']) (hu : A.units < cLine) : Ob.RcOp .Gt A s (.ref l) (.ref b) (decide (ult q p)) := by
  have R := Ob.RcOp.tuples_gt (A := A) (s := s) (e := fun j => if j = 0 then decide (p.1 = q.1) else decide (p.2 = q.2)) (r := fun j => if j = 0 then decide (q.1 < p.1) else decide (q.2 < p.2)) hl hb hu eq2 (fun j h1 h2 _ => by
    rcases j with _ | _ | j
    · simpa using Ob.RcOp.gt_int (A := A.in1) (s := s) p.1 q.1 t t'
    · simpa using Ob.RcOp.gt_int (A := A.in1) (s := s) p.2 q.2 u u'
    · simp at h1; omega)
  have e : (decide (ult q p)) = Ob.lexAt (fun j => if j = 0 then decide (p.1 = q.1) else decide (p.2 = q.2)) (fun j => if j = 0 then decide (q.1 < p.1) else decide (q.2 < p.2)) false 0 2 := by
    rw [Ob.lexAt_succ, Ob.lexAt_succ, Ob.lexAt_zero]
    simp only [if_true, if_false, Nat.zero_add, Nat.one_ne_zero, decide_eq_true_eq]
    apply Bool.eq_iff_iff.mpr
    by_cases h1 : p.1 = q.1 <;> by_cases h2 : p.2 = q.2 <;> simp only [h1, h2, if_true, if_false, decide_eq_true_eq, ult, ule, Bool.false_eq_true, true_and, false_and, or_false, Int.lt_irrefl, Int.le_refl, false_or, iff_self]
    all_goals grind
  rw [e]
  simpa using R
def tupgt (K : PySem.W.Frag) : R2 := fun x y H Q => ∃ (a b : Addr) (p q : U2), x = .ref a ∧ y = .ref b ∧ SqT K H a [.int p.1, .int p.2] ∧ SqT K H b [.int q.1, .int q.2] ∧ Q (.bl (decide (ult q p))) H
theorem opT_gt {X : Cx} (hu : X.A.units < cLine) : OpR X (compareOp .Gt) (tupgt X.K) := by
  rintro pins s σ H x y v u Q I rx ry ⟨a, b, p, q, rfl, rfl, ha, hb, k⟩
  obtain rfl : v = Value.ref a := rx
  obtain rfl : u = Value.ref b := ry
  obtain ⟨its, r1, p1, _⟩ := I.tuple ha
  obtain ⟨its2, r2, p2, _⟩ := I.tuple hb
  obtain ⟨t, u, rfl⟩ := ints2 r1
  obtain ⟨t', u', rfl⟩ := ints2 r2
  exact rc_gt p1 p2 hu X.prog X.w X.xe _ ⟨.bl _, H, I, rfl, k⟩
theorem rc_le {A : Around} {s : Shared} {l b : Addr} {p q : U2} {t u t' u' : Tok} (hl : s.heap.IsTuple l #[.int p.1 t, .int p.2 u]) (hb : s.heap.IsTuple b #[.int q.1 t', .int q.2 u']) (hu : A.units < cLine) : Ob.RcOp .LtE A s (.ref l) (.ref b) (decide (ule p q)) := by
  have R := Ob.RcOp.tuples_le (A := A) (s := s) (e := fun j => if j = 0 then decide (p.1 = q.1) else decide (p.2 = q.2)) (r := fun j => if j = 0 then decide (p.1 ≤ q.1) else decide (p.2 ≤ q.2)) hl hb hu eq2 (fun j h1 h2 _ => by
    rcases j with _ | _ | j
    · simpa using Ob.RcOp.le_int (A := A.in1) (s := s) p.1 q.1 t t'
    · simpa using Ob.RcOp.le_int (A := A.in1) (s := s) p.2 q.2 u u'
    · simp at h1; omega)
  have e : (decide (ule p q)) = Ob.lexAt (fun j => if j = 0 then decide (p.1 = q.1) else decide (p.2 = q.2)) (fun j => if j = 0 then decide (p.1 ≤ q.1) else decide (p.2 ≤ q.2)) true 0 2 := by
    rw [Ob.lexAt_succ, Ob.lexAt_succ, Ob.lexAt_zero]
    simp only [if_true, if_false, Nat.zero_add, Nat.one_ne_zero, decide_eq_true_eq]
    apply Bool.eq_iff_iff.mpr
    by_cases h1 : p.1 = q.1 <;> by_cases h2 : p.2 = q.2 <;> simp only [h1, h2, if_true, if_false, decide_eq_true_eq, ult, ule, Bool.false_eq_true, true_and, false_and, or_false, Int.lt_irrefl, Int.le_refl, false_or, iff_self]
    all_goals grind
  rw [e]
  simpa using R
def tuple (K : PySem.W.Frag) : R2 := fun x y H Q => ∃ (a b : Addr) (p q : U2), x = .ref a ∧ y = .ref b ∧ SqT K H a [.int p.1, .int p.2] ∧ SqT K H b [.int q.1, .int q.2] ∧ Q (.bl (decide (ule p q))) H
theorem opT_le {X : Cx} (hu : X.A.units < cLine) : OpR X (compareOp .LtE) (tuple X.K) := by
  rintro pins s σ H x y v u Q I rx ry ⟨a, b, p, q, rfl, rfl, ha, hb, k⟩
  obtain rfl : v = Value.ref a := rx
  obtain rfl : u = Value.ref b := ry
  obtain ⟨its, r1, p1, _⟩ := I.tuple ha
  obtain ⟨its2, r2, p2, _⟩ := I.tuple hb
  obtain ⟨t, u, rfl⟩ := ints2 r1
  obtain ⟨t', u', rfl⟩ := ints2 r2
  exact rc_le p1 p2 hu X.prog X.w X.xe _ ⟨.bl _, H, I, rfl, k⟩
theorem rc_ge {A : Around} {s : Shared} {l b : Addr} {p q : U2} {t u t' u' : Tok} (hl : s.heap.IsTuple l #[.int p.1 t, .int p.2 u]) (hb : s.heap.IsTuple b #[.int q.1 t', .int q.2 u']) (hu : A.units < cLine) : Ob.RcOp .GtE A s (.ref l) (.ref b) (decide (ule q p)) := by
  have R := Ob.RcOp.tuples_ge (A := A) (s := s) (e := fun j => if j = 0 then decide (p.1 = q.1) else decide (p.2 = q.2)) (r := fun j => if j = 0 then decide (q.1 ≤ p.1) else decide (q.2 ≤ p.2)) hl hb hu eq2 (fun j h1 h2 _ => by
    rcases j with _ | _ | j
    · simpa using Ob.RcOp.ge_int (A := A.in1) (s := s) p.1 q.1 t t'
    · simpa using Ob.RcOp.ge_int (A := A.in1) (s := s) p.2 q.2 u u'
    · simp at h1; omega)
  have e : (decide (ule q p)) = Ob.lexAt (fun j => if j = 0 then decide (p.1 = q.1) else decide (p.2 = q.2)) (fun j => if j = 0 then decide (q.1 ≤ p.1) else decide (q.2 ≤ p.2)) true 0 2 := by
    rw [Ob.lexAt_succ, Ob.lexAt_succ, Ob.lexAt_zero]
    simp only [if_true, if_false, Nat.zero_add, Nat.one_ne_zero, decide_eq_true_eq]
    apply Bool.eq_iff_iff.mpr
    by_cases h1 : p.1 = q.1 <;> by_cases h2 : p.2 = q.2 <;> simp only [h1, h2, if_true, if_false, decide_eq_true_eq, ult, ule, Bool.false_eq_true, true_and, false_and, or_false, Int.lt_irrefl, Int.le_refl, false_or, iff_self]
    all_goals grind
  rw [e]
  simpa using R
def tupge (K : PySem.W.Frag) : R2 := fun x y H Q => ∃ (a b : Addr) (p q : U2), x = .ref a ∧ y = .ref b ∧ SqT K H a [.int p.1, .int p.2] ∧ SqT K H b [.int q.1, .int q.2] ∧ Q (.bl (decide (ule q p))) H
theorem opT_ge {X : Cx} (hu : X.A.units < cLine) : OpR X (compareOp .GtE) (tupge X.K) := by
  rintro pins s σ H x y v u Q I rx ry ⟨a, b, p, q, rfl, rfl, ha, hb, k⟩
  obtain rfl : v = Value.ref a := rx
  obtain rfl : u = Value.ref b := ry
  obtain ⟨its, r1, p1, _⟩ := I.tuple ha
  obtain ⟨its2, r2, p2, _⟩ := I.tuple hb
  obtain ⟨t, u, rfl⟩ := ints2 r1
  obtain ⟨t', u', rfl⟩ := ints2 r2
  exact rc_ge p1 p2 hu X.prog X.w X.xe _ ⟨.bl _, H, I, rfl, k⟩
theorem ct_max {X : Cx} (hc : X.calm = true) (hu : X.A.units + 65 < cLine) : CallR X (.builtin "max") (fun xs H Q => ∃ (a b : Addr) (p q : U2), xs = [.ref a, .ref b] ∧ SqT X.K H a [.int p.1, .int p.2] ∧ SqT X.K H b [.int q.1, .int q.2] ∧ Q (if ult p q then .ref b else .ref a) H) := by
  rintro pins s σ H xs us Q I r ⟨a, b, p, q, rfl, ha, hb, k⟩
  obtain ⟨u, w', rfl, r1, r2⟩ := vals2 r
  obtain rfl : u = Value.ref a := r1
  obtain rfl : w' = Value.ref b := r2
  obtain ⟨its, v1, p1, _⟩ := I.tuple ha
  obtain ⟨its2, v2, p2, _⟩ := I.tuple hb
  obtain ⟨t, u, rfl⟩ := ints2 v1
  obtain ⟨t', u', rfl⟩ := ints2 v2
  refine call_max_at (k := decide (ult p q)) (I.ok.hd hc) (fun s' Q' E' kp q' => ?_) fun h' tk kp => ⟨_, H, I.kept kp, ?_, k⟩
  · have p1' : s'.heap.IsTuple a #[.int p.1 t, .int p.2 u] := (by obtain ⟨o, e, c⟩ := p1; exact ⟨o, kp _ _ e, c⟩)
    have p2' : s'.heap.IsTuple b #[.int q.1 t', .int q.2 u'] := (by obtain ⟨o, e, c⟩ := p2; exact ⟨o, kp _ _ e, c⟩)
    exact rc_gt p2' p1' (show X.A.units + 1 < cLine by omega) X.prog X.w _ _ q'
  · by_cases h : ult p q
    · simp only [h, decide_true, if_true]; rfl
    · simp only [h, decide_false, if_false, Bool.false_eq_true]; rfl
theorem ct_min {X : Cx} (hc : X.calm = true) (hu : X.A.units + 65 < cLine) : CallR X (.builtin "min") (fun xs H Q => ∃ (a b : Addr) (p q : U2), xs = [.ref a, .ref b] ∧ SqT X.K H a [.int p.1, .int p.2] ∧ SqT X.K H b [.int q.1, .int q.2] ∧ Q (if ult q p then .ref b else .ref a) H) := by
  rintro pins s σ H xs us Q I r ⟨a, b, p, q, rfl, ha, hb, k⟩
  obtain ⟨u, w', rfl, r1, r2⟩ := vals2 r
  obtain rfl : u = Value.ref a := r1
  obtain rfl : w' = Value.ref b := r2
  obtain ⟨its, v1, p1, _⟩ := I.tuple ha
  obtain ⟨its2, v2, p2, _⟩ := I.tuple hb
  obtain ⟨t, u, rfl⟩ := ints2 v1
  obtain ⟨t', u', rfl⟩ := ints2 v2
  refine call_min_at (k := decide (ult q p)) (I.ok.hd hc) (fun s' Q' E' kp q' => ?_) fun h' tk kp => ⟨_, H, I.kept kp, ?_, k⟩
  · have p1' : s'.heap.IsTuple a #[.int p.1 t, .int p.2 u] := (by obtain ⟨o, e, c⟩ := p1; exact ⟨o, kp _ _ e, c⟩)
    have p2' : s'.heap.IsTuple b #[.int q.1 t', .int q.2 u'] := (by obtain ⟨o, e, c⟩ := p2; exact ⟨o, kp _ _ e, c⟩)
    exact rc_lt p2' p1' (show X.A.units + 1 < cLine by omega) X.prog X.w _ _ q'
  · by_cases h : ult q p
    · simp only [h, decide_true, if_true]; rfl
    · simp only [h, decide_false, if_false, Bool.false_eq_true]; rfl
end ML
namespace ML
open PySem PySem.Spec L2
open PyProof.Rows hiding St
section
variable {X : Cx}
theorem rd_int {K : PySem.W.Frag} {H : Hp} {S : Sto} {v : V} {i : Int} (r : RD K H S v (.int i)) : v = .int i := by cases r; rfl
theorem rds_u {K : PySem.W.Frag} {H : Hp} {S : Sto} {vs : List V} {a b : Int} (r : RDs K H S vs [.int a, .int b]) : vs = [.int a, .int b] := by
  obtain ⟨v, w, rfl, r1, r2⟩ := rds2 r
  rw [rd_int r1, rd_int r2]
def aLt : R2m := fun d e S Q => match d, e with
  | .int i, .int j => Q (.bl (decide (i < j))) S
  | .tup [.int a, .int b], .tup [.int c, .int e] => Q (.bl (decide (ult (a, b) (c, e)))) S
  | _, _ => False
theorem oa_lt (hu : X.A.units + 65 < cLine) : OpR X (compareOp .Lt) (fun x y H Q => rI0 (fun i j => .bl (decide (i < j))) x y H Q ∨ tuplt X.K x y H Q) := op_lt.or (opT_lt (by omega))
theorem la_lt : OpL X.K (fun x y H Q => rI0 (fun i j => .bl (decide (i < j))) x y H Q ∨ tuplt X.K x y H Q) aLt := by
  intro H S x y d e Qm Q s rx ry h k
  unfold aLt at h
  split at h
  · cases rx; cases ry
    exact .inl ⟨_, _, rfl, rfl, k _ S _ H h Ext.refl s (.bl _)⟩
  · obtain ⟨p, vs, rfl, h1, r1⟩ := rx.tupSq
    obtain ⟨p2, ws, rfl, h2, r2⟩ := ry.tupSq
    rw [rds_u r1] at h1
    rw [rds_u r2] at h2
    exact .inr ⟨p, p2, (_, _), (_, _), rfl, rfl, h1, h2, k _ S _ H h Ext.refl s (.bl _)⟩
  · exact h.elim
theorem l_aLt_int {i j : Int} {S : Sto} {Q : MQ} : aLt (.int i) (.int j) S Q = Q (.bl (decide (i < j))) S := Eq.trans rfl rfl
theorem l_aLt_u {p q : U2} {S : Sto} {Q : MQ} : aLt (uD p) (uD q) S Q = Q (.bl (decide (ult p q))) S := Eq.trans rfl rfl
def aGt : R2m := fun d e S Q => match d, e with
  | .int i, .int j => Q (.bl (decide (j < i))) S
  | .tup [.int a, .int b], .tup [.int c, .int e] => Q (.bl (decide (ult (c, e) (a, b)))) S
  | _, _ => False
theorem oa_gt (hu : X.A.units + 65 < cLine) : OpR X (compareOp .Gt) (fun x y H Q => rI0 (fun i j => .bl (decide (j < i))) x y H Q ∨ tupgt X.K x y H Q) := op_gt.or (opT_gt (by omega))
theorem la_gt : OpL X.K (fun x y H Q => rI0 (fun i j => .bl (decide (j < i))) x y H Q ∨ tupgt X.K x y H Q) aGt := by
  intro H S x y d e Qm Q s rx ry h k
  unfold aGt at h
  split at h
  · cases rx; cases ry
    exact .inl ⟨_, _, rfl, rfl, k _ S _ H h Ext.refl s (.bl _)⟩
  · obtain ⟨p, vs, rfl, h1, r1⟩ := rx.tupSq
    obtain ⟨p2, ws, rfl, h2, r2⟩ := ry.tupSq
    rw [rds_u r1] at h1
    rw [rds_u r2] at h2
    exact .inr ⟨p, p2, (_, _), (_, _), rfl, rfl, h1, h2, k _ S _ H h Ext.refl s (.bl _)⟩
  · exact h.elim
theorem l_aGt_int {i j : Int} {S : Sto} {Q : MQ} : aGt (.int i) (.int j) S Q = Q (.bl (decide (j < i))) S := Eq.trans rfl rfl
theorem l_aGt_u {p q : U2} {S : Sto} {Q : MQ} : aGt (uD p) (uD q) S Q = Q (.bl (decide (ult q p))) S := Eq.trans rfl rfl
def aLe : R2m := fun d e S Q => match d, e with
  | .int i, .int j => Q (.bl (decide (i ≤ j))) S
  | .tup [.int a, .int b], .tup [.int c, .int e] => Q (.bl (decide (ule (a, b) (c, e)))) S
  | _, _ => False
theorem oa_le (hu : X.A.units + 65 < cLine) : OpR X (compareOp .LtE) (fun x y H Q => rI0 (fun i j => .bl (decide (i ≤ j))) x y H Q ∨ tuple X.K x y H Q) := op_le.or (opT_le (by omega))
theorem la_le : OpL X.K (fun x y H Q => rI0 (fun i j => .bl (decide (i ≤ j))) x y H Q ∨ tuple X.K x y H Q) aLe := by
  intro H S x y d e Qm Q s rx ry h k
  unfold aLe at h
  split at h
  · cases rx; cases ry
    exact .inl ⟨_, _, rfl, rfl, k _ S _ H h Ext.refl s (.bl _)⟩
  · obtain ⟨p, vs, rfl, h1, r1⟩ := rx.tupSq
    obtain ⟨p2, ws, rfl, h2, r2⟩ := ry.tupSq
    rw [rds_u r1] at h1
    rw [rds_u r2] at h2
    exact .inr ⟨p, p2, (_, _), (_, _), rfl, rfl, h1, h2, k _ S _ H h Ext.refl s (.bl _)⟩
  · exact h.elim
theorem l_aLe_int {i j : Int} {S : Sto} {Q : MQ} : aLe (.int i) (.int j) S Q = Q (.bl (decide (i ≤ j))) S := Eq.trans rfl rfl
theorem l_aLe_u {p q : U2} {S : Sto} {Q : MQ} : aLe (uD p) (uD q) S Q = Q (.bl (decide (ule p q))) S := Eq.trans rfl rfl
def aGe : R2m := fun d e S Q => match d, e with
  | .int i, .int j => Q (.bl (decide (j ≤ i))) S
  | .tup [.int a, .int b], .tup [.int c, .int e] => Q (.bl (decide (ule (c, e) (a, b)))) S
  | _, _ => False
theorem oa_ge (hu : X.A.units + 65 < cLine) : OpR X (compareOp .GtE) (fun x y H Q => rI0 (fun i j => .bl (decide (j ≤ i))) x y H Q ∨ tupge X.K x y H Q) := op_ge.or (opT_ge (by omega))
theorem la_ge : OpL X.K (fun x y H Q => rI0 (fun i j => .bl (decide (j ≤ i))) x y H Q ∨ tupge X.K x y H Q) aGe := by
  intro H S x y d e Qm Q s rx ry h k
  unfold aGe at h
  split at h
  · cases rx; cases ry
    exact .inl ⟨_, _, rfl, rfl, k _ S _ H h Ext.refl s (.bl _)⟩
  · obtain ⟨p, vs, rfl, h1, r1⟩ := rx.tupSq
    obtain ⟨p2, ws, rfl, h2, r2⟩ := ry.tupSq
    rw [rds_u r1] at h1
    rw [rds_u r2] at h2
    exact .inr ⟨p, p2, (_, _), (_, _), rfl, rfl, h1, h2, k _ S _ H h Ext.refl s (.bl _)⟩
  · exact h.elim
theorem l_aGe_int {i j : Int} {S : Sto} {Q : MQ} : aGe (.int i) (.int j) S Q = Q (.bl (decide (j ≤ i))) S := Eq.trans rfl rfl
theorem l_aGe_u {p q : U2} {S : Sto} {Q : MQ} : aGe (uD p) (uD q) S Q = Q (.bl (decide (ule q p))) S := Eq.trans rfl rfl
def bMaxA : List D → Sto → MQ → Prop := fun ds S Q => match ds with
  | [.int i, .int j] => Q (.int (if j > i then j else i)) S
  | [.tup [.int a, .int b], .tup [.int c, .int e]] => Q (if ult (a, b) (c, e) then .tup [.int c, .int e] else .tup [.int a, .int b]) S
  | _ => False
theorem ca_max (hc : X.calm = true) (hu : X.A.units + 65 < cLine) : CallR X (.builtin "max") (fun xs H Q => (∃ i j, xs = [.int i, .int j] ∧ Q (.int (if j > i then j else i)) H) ∨ ∃ (a b : Addr) (p q : U2), xs = [.ref a, .ref b] ∧ SqT X.K H a [.int p.1, .int p.2] ∧ SqT X.K H b [.int q.1, .int q.2] ∧ Q (if ult p q then .ref b else .ref a) H) := by
  rintro pins s σ H xs us Q I r (h | h)
  · exact call_max2 hc pins s σ H xs us Q I r h
  · exact ct_max hc hu pins s σ H xs us Q I r h
theorem cl_maxA : CaL X.K (fun xs H Q => (∃ i j, xs = [.int i, .int j] ∧ Q (.int (if j > i then j else i)) H) ∨ ∃ (a b : Addr) (p q : U2), xs = [.ref a, .ref b] ∧ SqT X.K H a [.int p.1, .int p.2] ∧ SqT X.K H b [.int q.1, .int q.2] ∧ Q (if ult p q then .ref b else .ref a) H) bMaxA := by
  intro H S xs ds Qm Q s r h k
  unfold bMaxA at h
  split at h
  · obtain ⟨v, w, rfl, r1, r2⟩ := rds2 r
    cases r1; cases r2
    exact .inl ⟨_, _, rfl, k _ S _ H h Ext.refl s (.int _)⟩
  · next a b c e =>
    obtain ⟨v, w, rfl, r1, r2⟩ := rds2 r
    obtain ⟨p, vs, rfl, h1, q1⟩ := r1.tupSq
    obtain ⟨p2, ws, rfl, h2, q2⟩ := r2.tupSq
    rw [rds_u q1] at h1
    rw [rds_u q2] at h2
    refine .inr ⟨p, p2, (a, b), (c, e), rfl, h1, h2, ?_⟩
    split
    · next z => rw [if_pos z] at h; exact k _ S _ H h Ext.refl s r2
    · next z => rw [if_neg z] at h; exact k _ S _ H h Ext.refl s r1
  · exact h.elim
theorem l_bMaxA_int {i j : Int} {S : Sto} {Q : MQ} : bMaxA [.int i, .int j] S Q = Q (.int (if j > i then j else i)) S := Eq.trans rfl rfl
theorem l_bMaxA_u {p q : U2} {S : Sto} {Q : MQ} : bMaxA [uD p, uD q] S Q = Q (uD (if ult p q then q else p)) S := by
  have e : (if ult p q then uD q else uD p) = uD (if ult p q then q else p) := by split <;> rfl
  show Q (if ult p q then uD q else uD p) S = _
  rw [e]
def bMinA : List D → Sto → MQ → Prop := fun ds S Q => match ds with
  | [.int i, .int j] => Q (.int (if j < i then j else i)) S
  | [.tup [.int a, .int b], .tup [.int c, .int e]] => Q (if ult (c, e) (a, b) then .tup [.int c, .int e] else .tup [.int a, .int b]) S
  | _ => False
theorem ca_min (hc : X.calm = true) (hu : X.A.units + 65 < cLine) : CallR X (.builtin "min") (fun xs H Q => (∃ i j, xs = [.int i, .int j] ∧ Q (.int (if j < i then j else i)) H) ∨ ∃ (a b : Addr) (p q : U2), xs = [.ref a, .ref b] ∧ SqT X.K H a [.int p.1, .int p.2] ∧ SqT X.K H b [.int q.1, .int q.2] ∧ Q (if ult q p then .ref b else .ref a) H) := by
  rintro pins s σ H xs us Q I r (h | h)
  · exact call_min2 hc pins s σ H xs us Q I r h
  · exact ct_min hc hu pins s σ H xs us Q I r h
theorem cl_minA : CaL X.K (fun xs H Q => (∃ i j, xs = [.int i, .int j] ∧ Q (.int (if j < i then j else i)) H) ∨ ∃ (a b : Addr) (p q : U2), xs = [.ref a, .ref b] ∧ SqT X.K H a [.int p.1, .int p.2] ∧ SqT X.K H b [.int q.1, .int q.2] ∧ Q (if ult q p then .ref b else .ref a) H) bMinA := by
  intro H S xs ds Qm Q s r h k
  unfold bMinA at h
  split at h
  · obtain ⟨v, w, rfl, r1, r2⟩ := rds2 r
    cases r1; cases r2
    exact .inl ⟨_, _, rfl, k _ S _ H h Ext.refl s (.int _)⟩
  · next a b c e =>
    obtain ⟨v, w, rfl, r1, r2⟩ := rds2 r
    obtain ⟨p, vs, rfl, h1, q1⟩ := r1.tupSq
    obtain ⟨p2, ws, rfl, h2, q2⟩ := r2.tupSq
    rw [rds_u q1] at h1
    rw [rds_u q2] at h2
    refine .inr ⟨p, p2, (a, b), (c, e), rfl, h1, h2, ?_⟩
    split
    · next z => rw [if_pos z] at h; exact k _ S _ H h Ext.refl s r2
    · next z => rw [if_neg z] at h; exact k _ S _ H h Ext.refl s r1
  · exact h.elim
theorem l_bMinA_int {i j : Int} {S : Sto} {Q : MQ} : bMinA [.int i, .int j] S Q = Q (.int (if j < i then j else i)) S := Eq.trans rfl rfl
theorem l_bMinA_u {p q : U2} {S : Sto} {Q : MQ} : bMinA [uD p, uD q] S Q = Q (uD (if ult q p then q else p)) S := by
  have e : (if ult q p then uD q else uD p) = uD (if ult q p then q else p) := by split <;> rfl
  show Q (if ult q p then uD q else uD p) S = _
  rw [e]
end
/-- pairs of ints, walls of such: as values -/
theorem tup_u {a b : Int} : D.tup [.int a, .int b] = uD (a, b) := Eq.trans rfl rfl
theorem tupOf_u {p : U2} : tupOf (uD p) = some [.int p.1, .int p.2] := Eq.trans rfl rfl
theorem seqOf_u {S : Sto} {p : U2} : seqOf S (uD p) = some [.int p.1, .int p.2] := Eq.trans rfl rfl
theorem sqI_u {S : Sto} {p : U2} : sqI S (uD p) = some ([.int p.1, .int p.2], fun _ => True) := Eq.trans rfl rfl
theorem look_u {S : Sto} {p : U2} : look S (uD p) = uD p := Eq.trans rfl rfl
theorem isN_u {p : U2} : isN (uD p) = false := Eq.trans rfl rfl
theorem lenD_u {S : Sto} {p : U2} : lenD S (uD p) = some 2 := Eq.trans rfl rfl
theorem tyD_u {S : Sto} {p : U2} : tyD S (uD p) = some "tuple" := Eq.trans rfl rfl
abbrev UW := U2 × U2
def uwD (w : UW) : D := .tup [uD w.1, uD w.2]
theorem tup_uw {a b : U2} : D.tup [uD a, uD b] = uwD (a, b) := Eq.trans rfl rfl
theorem tupOf_uw {p : UW} : tupOf (uwD p) = some [uD p.1, uD p.2] := Eq.trans rfl rfl
theorem seqOf_uw {S : Sto} {p : UW} : seqOf S (uwD p) = some [uD p.1, uD p.2] := Eq.trans rfl rfl
theorem sqI_uw {S : Sto} {p : UW} : sqI S (uwD p) = some ([uD p.1, uD p.2], fun _ => True) := Eq.trans rfl rfl
theorem look_uw {S : Sto} {p : UW} : look S (uwD p) = uwD p := Eq.trans rfl rfl
theorem isN_uw {p : UW} : isN (uwD p) = false := Eq.trans rfl rfl
theorem lenD_uw {S : Sto} {p : UW} : lenD S (uwD p) = some 2 := Eq.trans rfl rfl
theorem tyD_uw {S : Sto} {p : UW} : tyD S (uwD p) = some "tuple" := Eq.trans rfl rfl
theorem plain_u (p : U2) : D.plain (uD p) = true := by simp [uD, D.plain, D.plains]
theorem plain_uw (p : UW) : D.plain (uwD p) = true := by simp [uwD, D.plain, D.plains, plain_u]
theorem dep_u (p : U2) : D.dep (uD p) = 1 := by simp [uD, D.dep, D.deps]
theorem dep_uw (p : UW) : D.dep (uwD p) = 2 := by simp [uwD, D.dep, D.deps, dep_u]
theorem eqOk_of' {d e : D} (h1 : D.plain d = true) (h2 : D.plain e = true) (h3 : D.dep d ≤ 64) (h4 : D.dep e ≤ 64) : eqOk d e = true := by
  unfold eqOk
  split
  · rfl
  · simp [h1, h2, h3, h4]
theorem eqOk_u {p q : U2} : eqOk (uD p) (uD q) = true := eqOk_of' (plain_u p) (plain_u q) (by rw [dep_u]; decide) (by rw [dep_u]; decide)
theorem eqOk_uw {p q : UW} : eqOk (uwD p) (uwD q) = true := eqOk_of' (plain_uw p) (plain_uw q) (by rw [dep_uw]; decide) (by rw [dep_uw]; decide)
theorem deq_u {p q : U2} : D.deq (uD p) (uD q) = decide (p = q) := by
  simp only [uD, D.deq, D.deqs, Bool.and_true]
  rw [Bool.eq_iff_iff]
  simp only [Bool.and_eq_true, beq_iff_eq, decide_eq_true_eq]
  exact ⟨fun ⟨a, b⟩ => Prod.ext a b, fun h => by subst h; exact ⟨rfl, rfl⟩⟩
theorem deq_uw {p q : UW} : D.deq (uwD p) (uwD q) = decide (p = q) := by
  simp only [uwD, D.deq, D.deqs, Bool.and_true, deq_u]
  rw [Bool.eq_iff_iff]
  simp only [Bool.and_eq_true, decide_eq_true_eq]
  exact ⟨fun ⟨a, b⟩ => Prod.ext a b, fun h => by subst h; exact ⟨rfl, rfl⟩⟩
end ML
set_option maxRecDepth 100000
namespace ML
open PySem PySem.Spec L2
open PyProof.Rows hiding St
theorem ncast {n : Nat} : ((no_index (OfNat.ofNat n : Nat) : Nat) : Int) = (no_index (OfNat.ofNat n : Int)) := rfl
/-- a proposition that simp leaves alone -/
def KP [p : Hold Prop] : Prop := p.v
theorem KP.mk {p : Prop} (h : p) : @KP ⟨p⟩ := h
/-! ### comprehensions over the images of a list -/
theorem comp_map {α : Type} {σ : MSt} {S : Sto} {p : Addr} {own : List Nat} {G : Sto → Prop} {g : MG} {me : ME} {fin : List D → Sto → Prop} {items : List D} (enc res : α → D) (xs : List α) (hi : items = xs.map enc) (hz : xs.length ≤ 1000) (hG : ∀ acc, G (put S p (.lst acc)))
    (h : ∀ a acc (Q : MQ), a ∈ xs → Q (res a) (put S p (.lst acc)) → g (enc a) (wipeM σ own) (put S p (.lst acc)) (fun σ2 S2 => me σ2 S2 Q noX) noX)
    (hf : fin (xs.map res) (put S p (.lst (xs.map res)))) : @CompP items σ (put S p (.lst [])) p own ⟨G⟩ ⟨g⟩ ⟨mYes⟩ ⟨me⟩ ⟨fin⟩ := by
  subst hi
  refine comp_inv (fun i acc S' => acc = (xs.take i).map res ∧ S' = put S p (.lst acc)) put_same ⟨by simp, rfl⟩ ?_ ?_
  · rintro i d acc S' e ⟨rfl, rfl⟩ -
    rw [List.getElem?_map] at e
    cases ea : xs[i]? with
    | none => rw [ea] at e; cases e
    | some a =>
      rw [ea] at e; cases e
      have hlt : i < xs.length := (List.getElem?_eq_some_iff.mp ea).1
      have hm : a ∈ xs := List.mem_of_getElem? ea
      refine ⟨hG _, h a _ _ hm ?_⟩
      refine CompNext.mk put_same (line_lt (by simp only [List.length_map, List.length_take]; omega)) ⟨?_, by rw [put_put]⟩
      rw [List.take_add_one, ea, List.map_append]; rfl
  · rintro acc S' ⟨rfl, rfl⟩ -
    refine ⟨hG _, ?_⟩
    rw [List.length_map, List.take_length]; exact hf
/-- with a test: the items for which it holds -/
theorem comp_filter {α : Type} {σ : MSt} {S : Sto} {p : Addr} {own : List Nat} {G : Sto → Prop} {g : MG} {mt : MT} {me : ME} {fin : List D → Sto → Prop} {items : List D} (enc res : α → D) (t : α → Bool) (xs : List α) (hi : items = xs.map enc) (hz : xs.length ≤ 1000) (hG : ∀ acc, G (put S p (.lst acc)))
    (h : ∀ a acc (Q : Sto → Prop) (Q' : MQ), a ∈ xs → (t a = true → Q' (res a) (put S p (.lst acc))) → (t a = false → Q (put S p (.lst acc))) →
      g (enc a) (wipeM σ own) (put S p (.lst acc)) (fun σ2 S2 => mt σ2 S2 (fun k S3 => @IteP (k = true) ⟨me σ2 S3 Q' noX⟩ ⟨Q S3⟩) noX) noX)
    (hf : fin ((xs.filter t).map res) (put S p (.lst ((xs.filter t).map res)))) : @CompP items σ (put S p (.lst [])) p own ⟨G⟩ ⟨g⟩ ⟨mt⟩ ⟨me⟩ ⟨fin⟩ := by
  subst hi
  refine ⟨fun i S' => S' = put S p (.lst (((xs.take i).filter t).map res)), by simp, fun i S' hi e => ?_⟩
  subst e
  refine ⟨hG _, ?_⟩
  rw [List.length_map] at hi
  show (match (xs.map enc)[i]? with | some d => _ | none => _)
  rw [List.getElem?_map]
  cases ea : xs[i]? with
  | some a =>
    have hlt : i < xs.length := (List.getElem?_eq_some_iff.mp ea).1
    have hm : a ∈ xs := List.mem_of_getElem? ea
    have ht : xs.take (i + 1) = xs.take i ++ [a] := by rw [List.take_add_one, ea]; rfl
    have hh := h a (((xs.take i).filter t).map res) (fun S3 => S3 = put S p (.lst (((xs.take (i + 1)).filter t).map res))) (fun y S4 => ∃ acc, S4 p = some (.lst acc) ∧ acc.length < sizeLine ∧ put S4 p (.lst (acc ++ [y])) = put S p (.lst (((xs.take (i + 1)).filter t).map res))) hm
      (fun k => ⟨_, put_same, ?_, ?_⟩) (fun k => ?_)
    · simp only [← IteP_bool] at hh
      exact hh
    · have : ((xs.take i).filter t).length ≤ (xs.take i).length := List.length_filter_le ..
      rw [List.length_take] at this
      exact line_lt (by rw [List.length_map]; omega)
    · rw [put_put, ht, List.filter_append, List.map_append]
      simp [k]
    · rw [ht, List.filter_append, List.map_append]
      simp [k]
  | none =>
    have hl : i = xs.length := by have := List.getElem?_eq_none_iff.mp ea; omega
    subst hl
    exact ⟨_, put_same, by rw [List.take_length]; exact hf⟩
/-! ### what is walked: a list or a tuple -/
/-- the same as the three kinds -/
inductive SeqK (S : Sto) : D → List D → Prop
  | lst {ds : List D} : SeqK S (.lst ds) ds
  | tup {ds : List D} : SeqK S (.tup ds) ds
  | ref {q : Addr} {ds : List D} : S q = some (.lst ds) → SeqK S (.ref q) ds
theorem SeqK.seq {S : Sto} {d : D} {ds : List D} (h : SeqK S d ds) : seqOf S d = some ds := by
  cases h with
  | lst => rfl
  | tup => rfl
  | ref h => rw [seqOf_ref', h]; rfl
theorem SeqK.it {S : Sto} {d : D} {ds : List D} (h : SeqK S d ds) : ∃ G : Sto → Prop, sqI S d = some (ds, G) ∧ G S ∧ ∀ p o, S p = none → G (put S p o) := by
  cases h with
  | lst => exact ⟨_, rfl, trivial, fun _ _ _ => trivial⟩
  | tup => exact ⟨_, rfl, trivial, fun _ _ _ => trivial⟩
  | ref h => exact ⟨_, sqI_at h, by rw [h]; rfl, fun p o hp => by rw [put_ne (sne h hp), h]; rfl⟩
theorem SeqK.len {S : Sto} {d : D} {ds : List D} (h : SeqK S d ds) : lenD S d = some ds.length := by
  cases h with
  | lst => rfl
  | tup => rfl
  | ref h => rw [lenD_ref, h]; rfl
theorem SeqK.put {S : Sto} {d : D} {ds : List D} (h : SeqK S d ds) {p : Addr} {o : MO} (hp : S p = none) : SeqK (put S p o) d ds := by
  cases h with
  | lst => exact .lst
  | tup => exact .tup
  | ref h => exact .ref (by rw [put_ne (sne h hp)]; exact h)
/-- a list (not a tuple) against [] -/
theorem plains_map {α : Type} {f : α → D} {xs : List α} (h : ∀ a, D.plain (f a) = true) : D.plains (xs.map f) = true := by
  induction xs with
  | nil => rfl
  | cons a xs ih => show (D.plain (f a) && D.plains (xs.map f)) = true; rw [h, ih]; rfl
theorem deps_map {α : Type} {f : α → D} {xs : List α} {n : Nat} (h : ∀ a, D.dep (f a) ≤ n) : D.deps (xs.map f) ≤ n := by
  induction xs with
  | nil => exact Nat.zero_le _
  | cons a xs ih => show max (D.dep (f a)) (D.deps (xs.map f)) ≤ n; have := h a; omega
theorem look_ref' {S : Sto} {p : Addr} {ds : List D} (h : S p = some (.lst ds)) : look S (.ref p) = .lst ds := by simp only [look, h]
theorem l_bAll {bs : List Bool} {S : Sto} {Q : MQ} : bAll [.lst (bs.map .bl)] S Q = Q (.bl (bs.all id)) S := by
  simp only [bAll, lstOf, Option.bind_some, blsOf_map]
theorem in_uw {neg : Bool} {p : U2} {w : UW} {S : Sto} {Q : MQ} : rInM neg (uD p) (uwD w) S Q = Q (.bl (if neg then !(decide (w.1 = p) || decide (w.2 = p)) else (decide (w.1 = p) || decide (w.2 = p)))) S := by
  have e : look S (uwD w) = .tup [uD w.1, uD w.2] := rfl
  have m : memD (uD p) [uD w.1, uD w.2] = (decide (w.1 = p) || decide (w.2 = p)) := by
    show (D.deq (uD w.1) (uD p) || (D.deq (uD w.2) (uD p) || false)) = _
    rw [deq_u, deq_u, Bool.or_false]
  have c : D.plain (uD p) = true ∧ D.plains [uD w.1, uD w.2] = true ∧ D.dep (uD p) ≤ 64 ∧ D.deps [uD w.1, uD w.2] ≤ 63 :=
    ⟨plain_u p, plain_uw w, by rw [dep_u]; decide, by have := dep_uw w; rw [uwD, D.dep] at this; omega⟩
  simp only [rInM, e, m]
  exact propext ⟨fun h => h.2, fun h => ⟨c, h⟩⟩
end ML
set_option maxRecDepth 100000
namespace ML
open PySem PySem.Spec L2
open PyProof.Rows hiding St
section
variable {X : Cx}
/-! ### max, min of a list of ints -/
def bMaxL : List D → Sto → MQ → Prop := fun ds S Q => ∃ (d : D) (ns : List Int), ds = [d] ∧ lstOf S d = some (ns.map .int) ∧ 0 < ns.length ∧ ∀ m, m ∈ ns → (∀ y, y ∈ ns → y ≤ m) → Q (.int m) S
def bMinL : List D → Sto → MQ → Prop := fun ds S Q => ∃ (d : D) (ns : List Int), ds = [d] ∧ lstOf S d = some (ns.map .int) ∧ 0 < ns.length ∧ ∀ m, m ∈ ns → (∀ y, y ∈ ns → m ≤ y) → Q (.int m) S
end
def MaxP (ds : List D) (S : Sto) [Q : Hold MQ] : Prop := bMaxL ds S Q.v
def MinP (ds : List D) (S : Sto) [Q : Hold MQ] : Prop := bMinL ds S Q.v
theorem l_bMaxL {ds : List D} {S : Sto} {Q : MQ} : bMaxL ds S Q = @MaxP ds S ⟨Q⟩ := Eq.trans rfl rfl
theorem l_bMinL {ds : List D} {S : Sto} {Q : MQ} : bMinL ds S Q = @MinP ds S ⟨Q⟩ := Eq.trans rfl rfl
end ML
set_option maxRecDepth 100000
namespace ML
open PySem PySem.Spec L2
open PyProof.Rows hiding St
/-! ### sorted, of pairs of ints -/
section
variable {X : Cx}
/-- sorted: a list that stays -/
def bSortU : List D → Sto → MQ → Prop := fun ds S Q => ∃ (d : D) (us : List U2), ds = [d] ∧ lstOf S d = some (us.map uD) ∧ us.length < 64 ∧ (∀ u ∈ us, 0 ≤ u.1 ∧ u.1 < 1048576 ∧ 0 ≤ u.2 ∧ u.2 < 1048576) ∧
  ∀ vs : List U2, vs.Perm us → vs.Pairwise ule → Q (.lst (vs.map uD)) S
end
def SortP (ds : List D) (S : Sto) [Q : Hold MQ] : Prop := bSortU ds S Q.v
theorem l_bSortU {ds : List D} {S : Sto} {Q : MQ} : bSortU ds S Q = @SortP ds S ⟨Q⟩ := Eq.trans rfl rfl
theorem l_mtInsert {p : Addr} {n : Nat} {y : D} {S : Sto} {Q : MQ} : mtInsert (.ref p) [.int (n : Nat), y] S Q = optP (olP (S p)) fun xs => (xs.length < sizeLine ∧ 0 ≤ ((n : Nat) : Int) ∧ ((n : Nat) : Int) < 2 ^ 63) ∧ Q .non (put S p (.lst (xs.take n ++ [y] ++ xs.drop n))) := by
  simp only [mtInsert, optP, OptP, olP]
  cases S p with
  | none => rfl
  | some o => cases o <;> simp
theorem l_mtReverse {p : Addr} {S : Sto} {Q : MQ} : mtReverse (.ref p) [] S Q = optP (olP (S p)) fun xs => Q .non (put S p (.lst xs.reverse)) := by
  simp only [mtReverse, optP, OptP, olP]
  cases S p with
  | none => rfl
  | some o => cases o <;> rfl
theorem l_mtClear {p : Addr} {S : Sto} {Q : MQ} : mtClear (.ref p) [] S Q = optP (olP (S p)) fun xs => Q .non (put S p (.lst [])) := by
  simp only [mtClear, optP, OptP, olP]
  cases S p with
  | none => rfl
  | some o => cases o <;> rfl
end ML
set_option maxRecDepth 100000
namespace ML
open PySem PySem.Spec L2
/-! ### comprehensions whose turns make new things -/
/-- all but p stands as it stood -/
def Grow (p : Addr) (S S' : Sto) : Prop := ∀ q o, q ≠ p → S q = some o → S' q = some o
theorem Grow.rfl {p : Addr} {S : Sto} : Grow p S S := fun _ _ _ h => h
theorem Grow.put {p : Addr} {S S' : Sto} {o : MO} (h : Grow p S S') : Grow p S (put S' p o) := fun q u hq e => by rw [put_ne hq]; exact h q u hq e
def Ext0 (S S' : Sto) : Prop := ∀ q o, S q = some o → S' q = some o
theorem Grow.ext {p : Addr} {S S' S'' : Sto} (h : Grow p S S') (k : Ext0 S' S'') : Grow p S S'' := fun q u hq e => k q u (h q u hq e)
theorem comp_grow {α : Type} {σ : MSt} {S0 S : Sto} {p : Addr} {own : List Nat} {G : Sto → Prop} {g : MG} {mt : MT} {me : ME} {fin : List D → Sto → Prop} {items : List D} (enc res : α → D) (t : α → Bool) (xs : List α) (hi : items = xs.map enc) (hz : xs.length ≤ 1000)
    (hS : S p = some (.lst [])) (h0 : Grow p S0 S) (hG : ∀ S', Grow p S0 S' → G S')
    (h : ∀ a acc S' (Q : Sto → Prop) (Q' : MQ), a ∈ xs → Grow p S0 S' → S' p = some (.lst acc) → (t a = true → ∀ S'', Ext0 S' S'' → Q' (res a) S'') → (t a = false → ∀ S'', Ext0 S' S'' → Q S'') →
      g (enc a) (wipeM σ own) S' (fun σ2 S2 => mt σ2 S2 (fun k S3 => @IteP (k = true) ⟨me σ2 S3 Q' noX⟩ ⟨Q S3⟩) noX) noX)
    (hf : ∀ S', Grow p S0 S' → S' p = some (.lst ((xs.filter t).map res)) → fin ((xs.filter t).map res) S') : @CompP items σ S p own ⟨G⟩ ⟨g⟩ ⟨mt⟩ ⟨me⟩ ⟨fin⟩ := by
  subst hi
  refine ⟨fun i S' => S' p = some (.lst (((xs.take i).filter t).map res)) ∧ Grow p S0 S', ⟨by simpa using hS, h0⟩, fun i S' hi e => ?_⟩
  obtain ⟨e1, e2⟩ := e
  refine ⟨hG _ e2, ?_⟩
  rw [List.length_map] at hi
  show (match (xs.map enc)[i]? with | some d => _ | none => _)
  rw [List.getElem?_map]
  cases ea : xs[i]? with
  | some a =>
    have hlt : i < xs.length := (List.getElem?_eq_some_iff.mp ea).1
    have hm : a ∈ xs := List.mem_of_getElem? ea
    have ht : xs.take (i + 1) = xs.take i ++ [a] := by rw [List.take_add_one, ea]; rfl
    have hh := h a _ S' (fun S3 => S3 p = some (.lst (((xs.take (i + 1)).filter t).map res)) ∧ Grow p S0 S3) (fun y S4 => ∃ acc, S4 p = some (.lst acc) ∧ acc.length < sizeLine ∧ put S4 p (.lst (acc ++ [y])) p = some (.lst (((xs.take (i + 1)).filter t).map res)) ∧ Grow p S0 (put S4 p (.lst (acc ++ [y])))) hm e2 e1
      (fun k S4 x4 => ⟨_, x4 p _ e1, ?_, ?_, (e2.ext x4).put⟩) (fun k S4 x4 => ⟨?_, e2.ext x4⟩)
    · simp only [← IteP_bool] at hh
      exact hh
    · have : ((xs.take i).filter t).length ≤ (xs.take i).length := List.length_filter_le ..
      rw [List.length_take] at this
      exact line_lt (by rw [List.length_map]; omega)
    · rw [put_same, ht, List.filter_append, List.map_append]
      simp [k]
    · rw [x4 p _ e1, ht, List.filter_append, List.map_append]
      simp [k]
  | none =>
    have hl : i = xs.length := by have := List.getElem?_eq_none_iff.mp ea; omega
    subst hl
    rw [List.take_length] at e1
    exact ⟨_, e1, hf _ e2 e1⟩
end ML
set_option maxRecDepth 100000
namespace ML
open PySem PySem.Spec L2
open PyProof.Rows hiding St
/-! ### defs that show things: nothing is being shown around them -/
structure ShowOk (P : Program) (w : World) (K : PySem.W.Frag) (mg : Str → Option Value) (base : Heap) (k : Nat) (f : Addr) (fd : FuncData) (ps : List Str) (sp : Sp) : Prop where
  many : ∀ vs H Q E, sp vs H Q E → vs.length = ps.length
  runs : ∀ (A : Around), A.guards = some [] → Room k A → ∀ (outer : List Env) (s : Shared) (H : Hp), Env0 P w K mg base A outer s H → ∀ (args : Args) (us : List Value) (vs : List V), BindsTo s fd args (ps.zip us) → Vals vs us → ∀ (Q : VK) (E : XK), sp vs H Q E → codeAny (model P w) A (.call (.ref f) args) (CR (L2.CX P w) outer P w H s Q E) s
theorem ShowOk.of {P : Program} {w : World} {K : PySem.W.Frag} {mg : Str → Option Value} {base : Heap} {k : Nat} {f : Addr} {fd : FuncData} {ps : List Str} {sp : Sp} (F : FnOk P w K mg base (L2.CX P w) k f fd ps sp) : ShowOk P w K mg base k f fd ps sp :=
  ⟨F.len, fun A _ hr outer s H e args us vs b r Q E h => F.run A outer s H args us vs Q E hr e b r h⟩
structure HasS (P : Program) (w : World) (K : PySem.W.Frag) (mg : Str → Option Value) (base : Heap) (x : Str) (ps : List Str) (k : Nat) (sp : MSp) : Prop where
  ex : ∃ f fd, mg x = some (.ref f) ∧ PySem.W.keepIn K (.ref f) = true ∧ Binds K fd ps [] ∧ ShowOk P w K mg base k f fd ps (upSp K sp)
theorem Has.s {P : Program} {w : World} {K : PySem.W.Frag} {mg : Str → Option Value} {base : Heap} {x : Str} {ps : List Str} {k : Nat} {sp : MSp} (h : Has P w K mg base x ps k sp) : HasS P w K mg base x ps k sp :=
  let ⟨f, fd, a, b, c, d⟩ := h.ex
  ⟨f, fd, a, b, c, .of d⟩
theorem HasS.mono {P : Program} {w : World} {K : PySem.W.Frag} {mg : Str → Option Value} {base : Heap} {x : Str} {ps : List Str} {j k : Nat} {sp : MSp} (h : HasS P w K mg base x ps j sp) (l : j ≤ k) : HasS P w K mg base x ps k sp :=
  let ⟨f, fd, a, b, c, d⟩ := h.ex
  ⟨f, fd, a, b, c, d.many, fun A hg hr => d.runs A hg (hr.mono l)⟩
/-! ### the law, shown or not -/
end ML
set_option maxRecDepth 100000
namespace ML
open PySem PySem.Spec L2
open PyProof.Rows hiding St
/-! ### repr of lists and tuples -/
/-- how it is shown -/
def reprD (d : D) : Str := (D.py d).shown
end ML
set_option maxRecDepth 100000
namespace ML
open PySem PySem.Spec L2
open PyProof.Rows hiding St
/-! ### the head's facts, with a module's own tuples of numbers -/
def tupsB (ts : List (Str × List Int)) (K : PySem.W.Frag) : Bool := ts.all fun p => He.tupB K p.1 (p.2.map He.Dv.int)
end ML
set_option maxRecDepth 100000
set_option maxHeartbeats 2000000
/-! # an exception that is kept behind its except clause -/
namespace L2
open PySem PySem.Spec PyProof.Rows
section
variable {X : Cx} {pins : List (Addr × Obj)} {σ : St} {H : Hp} {s : Shared}
theorem exS_ok {P : Program} {w : World} {H : Hp} {h : Heap} {a : Addr} {oe : Obj} {vs : Array Value} {cls : Value} {d : Option Addr} (ha : h.get? a = some oe) (hz : Zc cls d oe) (hd : oe.data = .fields vs) : ObjOk P w H h a (ML.ExS cls d a) :=
  ⟨⟨oe, vs, ha, hz, hd⟩, ⟨oe, ha⟩, fun _ _ ⟨o, v, q, r⟩ k => ⟨o, v, k o q, r⟩⟩
/-- the caught object is tracked from now on -/
theorem Inv.keepX {sI : Shared} {B : Heap} {a : Addr} {oe : Obj} {vs : Array Value} {cls : Value} {d : Option Addr} (J : Inv X pins σ H sI) (nb : ∀ b o, sI.heap.get? b = some o → b ∉ frs X.stack → B.get? b = some o) (hB : B.get? a = none)
    (hs : X.stack = X.env :: X.outer) (hf : X.env.frame = some X.env.locals) (hx : X.ex = []) (I : Inv X pins σ H s) (ha : s.heap.get? a = some oe) (hz : Zc cls d oe) (hd : oe.data = .fields vs) (na : H a = none) (nfr : a ∉ frs X.stack) : Inv X pins σ (upd H a (ML.ExS cls d a)) s := by
  have gone : ∀ b o, sI.heap.get? b = some o → b ∉ frs X.stack → b ≠ a := fun b o e n z => by
    subst z; rw [nb _ _ e n] at hB; cases hB
  have n0 : ∀ b o, X.s_0.heap.get? b = some o → b ≠ a := fun b o e z => by
    subst z
    obtain ⟨o', e'⟩ := J.base.there _ o e (by rw [hx]; exact fun z => nomatch z)
    exact gone _ o' e' nfr rfl
  have nL : X.env.locals ≠ a := fun z => nfr (by rw [hs]; exact List.mem_filterMap.mpr ⟨X.env, List.mem_cons_self, by rw [hf, z]⟩)
  have nC : ∀ x c, X.env.cells.lookup x = some c → c ≠ a := fun x c e z => by
    obtain ⟨v, o, ho, hv⟩ := I.cell x c e
    rw [z, ha] at ho; cases ho
    rw [hd] at hv; cases hv
  refine ⟨I.ok, I.os, I.bare, ⟨I.base.keep, I.base.slot, fun b o e n hq => ?_, I.base.there, fun b xs e => ?_, fun b o u e => ?_, fun b ps e => ?_⟩, I.loc, I.cell, ?_, fun x c e => ?_, fun p hp => ?_, ?_, I.len⟩
  · rw [upd_ne (n0 b o e)]; exact I.base.free b o e n hq
  · have q := I.base.tups b xs e
    rw [upd_ne (ne_of_none q na)]; exact q
  · have q := I.base.frzs b o u e
    rw [upd_ne (ne_of_none q na)]; exact q
  · obtain ⟨m, q⟩ := I.base.tbls b ps e
    exact ⟨m, by rw [upd_ne (ne_of_none q na)]; exact q⟩
  · rw [upd_ne nL]; exact I.free
  · rw [upd_ne (nC x c e)]; exact I.freeC x c e
  · obtain ⟨e, n, ne, nf, dd⟩ := I.pin p hp
    obtain ⟨e1, _, _, _, _⟩ := J.pin p hp
    have nfr' : p.1 ∉ frs X.stack := fun hm => by
      rw [hs] at hm
      obtain ⟨v, hv, q⟩ := List.mem_filterMap.mp hm
      rcases List.mem_cons.mp hv with z | z
      · subst z; rw [hf] at q; exact ne (Option.some.inj q).symm
      · exact nf (List.mem_filterMap.mpr ⟨v, z, q⟩)
    exact ⟨e, by rw [upd_ne (gone p.1 p.2 e1 nfr')]; exact n, ne, nf, dd⟩
  · exact I.hok.laidN (fun _ _ q => q) na (exS_ok ha hz hd)
theorem Inv.toSuite (I : Inv X pins σ H s) (a : Addr) : Inv (X.suite a (X.pn ++ pins)) [] σ H s :=
  ⟨I.ok.suite _ _, I.os, I.bare, I.base, I.loc, I.cell, I.free, I.freeC, fun p hp => I.pin p (by have z : p ∈ (X.pn ++ pins) ++ [] := hp; rwa [List.append_nil] at z), I.hok, I.len⟩
theorem Inv.ofSuite {a : Addr} {pn' : List (Addr × Obj)} (I : Inv (X.suite a (X.pn ++ pins)) pn' σ H s) (ok : X.Ok) : Inv X pins σ H s :=
  ⟨ok, I.os, I.bare, I.base, I.loc, I.cell, I.free, I.freeC, fun p hp => I.pin p (List.mem_append_left _ hp), I.hok, I.len⟩
end
/-- the slot of the clause's name is emptied at each end -/
def endK (D : Ends) (i : Nat) : Ends := { nx := fun σ' H' => D.nx (σ'.set i none) H', rt := D.rt, bk := fun σ' H' => D.bk (σ'.set i none) H', ct := fun σ' H' => D.ct (σ'.set i none) H' }
def wKp (K : PySem.W.Frag) (c : Value) (i : Nat) (ts : Addr → Value → Option Addr → TS) (Wout : WX) (D : Ends) : WX := fun cls d σ H => ∃ b, PySem.W.exmOne K cls c = some b ∧
  (b = true → ∀ a, H a = none → ts a cls d (endK D i) (σ.set i (some (.ref a))) (upd H a (ML.ExS cls d a))) ∧ (b = false → Wout cls d σ H)
section
variable {X : Cx} {x n : Str} {c : Value} {i : Nat} {body suite : List Stmt} {b₀ : Stmt} {np pos pos' : Pos} {tb : WX → TS} {ts : Addr → Value → Option Addr → TS} {Wout : WX}
theorem ps_try_kp (hs : X.stack = X.env :: X.outer) (hf : X.env.frame = some X.env.locals) (hx : X.ex = []) (hN : X.N.Nodup) (hi : X.N[i]? = some n) (hln : X.env.kindOf n = some .local) (hc : Names X x c) (tk : Takes X Wout)
    (hb : ∀ (V : WX) (pl : List (Addr × Obj)) (ye : Value → Shared → Prop), Takes (X.tr pl ye) V → PassesOwn (model X.prog X.w) X.A X.env ye → PSs (X.tr pl ye) body (tb V))
    (hsu : ∀ (a : Addr) (cls : Value) (d : Option Addr) (pl : List (Addr × Obj)), PSs (X.suite a pl) (b₀ :: suite) (ts a cls d)) :
    PS X (.Try body [.ExceptHandler (some (.Name x np)) (some n) (b₀ :: suite) pos'] [] [] pos) (fun D σ H => tb (wKp X.K c i ts Wout D) D σ H) := by
  refine ⟨fun pins s σ H D I h => ?_⟩
  have ok := I.ok
  have hfr : X.A.frames = some (X.env :: X.outer) := by rw [ok.frames, hs]
  have hl0 : Loc X.env.scope n := .inl hln
  refine wpAny_Try_except ?_
  let WW : WX := wKp X.K c i ts Wout D
  let look : Value → Shared → Prop := fun e t1 => wpAny (model X.prog X.w) X.A (noteFrame e X.env) (fun _ t2 => wpAny (model X.prog X.w) X.A (setFlight e none) (fun _ t3 => wpAny (model X.prog X.w) X.A (handleBy e X.env [.ExceptHandler (some (.Name x np)) (some n) (b₀ :: suite) pos']) (SP X pins D) X.xe t3) X.xe t2) X.xe t1
  have catch_ : Takes (X.tr (X.pn ++ pins) look) WW := by
    intro u t ⟨a, B, sI, pins', σ', H', cls, d, eu, J', nb, up, sky, na, os, ag, b, hb1, hyes, hno⟩
    subst eu
    have J : Inv X pins σ' H' sI := J'.ofTry ok
    have sk : Sky B (X.env :: X.outer) a (Zc cls d) X.env.locals t.heap := by rw [← hs]; exact sky
    show wpAny (model X.prog X.w) X.A (noteFrame (.ref a) X.env) _ _ _
    refine Sky.land Zc.steady hfr hf sk fun h3 fl3 up3 => ?_
    have J3 : Inv X pins σ' H' { t with heap := h3 } := J.landed nb fl3.1 (up.trans up3) os ag
    obtain ⟨oe3, vs3, he3, hz3, hd3⟩ := fl3.there
    have nfr : a ∉ frs (X.env :: X.outer) := fun hm => by
      obtain ⟨_, o', e', hnf⟩ := fl3.2.2.1.mem hm
      rw [he3] at e'; cases e'; exact hnf _ hd3
    have nfs : a ∉ frs X.stack := by rw [hs]; exact nfr
    have S3 := (J.keepX nb fl3.2.1 hs hf hx J3 he3 hz3 hd3 na nfs).toSuite a
    refine wpAny_handleBy_cons (codeAny_handlers_test ?_) (by intro q; cases q)
    have LT : PySem.W.Looks (model X.prog X.w) h3 (typeOf (.ref a)) cls := fun A Q E t k q => wpAny_typeOf_ref (k _ _ he3) (by rw [hz3.1]; exact q)
    have LM := PySem.W.exm_one (M := model X.prog X.w) (J3.kIn) LT hb1
    have test : ∀ {Q E : Value → Shared → Prop}, Q c { t with heap := h3 } → wpAny (model X.prog X.w) (X.A.mark (some (.ref a))) (eval (.Name x np) X.env) Q E { t with heap := h3 } := fun {Q E} q => by
      obtain ⟨hg, hdbg, hm | ⟨hm, hv, hnn⟩⟩ := hc
      · exact ld_glob (X := X.suite a (X.pn ++ pins)) S3 hg hm q hdbg
      · exact ld_blt (X := X.suite a (X.pn ++ pins)) S3 hg hm hv q hnn hdbg
    refine test (LM.here ?_)
    cases b with
    | true =>
      refine codeAny_handlers_suite_as (HandSPX.lands_againZ fl3 fun h4 fl4 up4 => ?_)
      have J4 : Inv X pins σ' H' { t with heap := h4 } := J.landed nb fl4.1 ((up.trans up3).trans up4) os ag
      obtain ⟨oe4, vs4, he4, hz4, hd4⟩ := fl4.there
      have S4 := (J.keepX nb fl4.2.1 hs hf hx J4 he4 hz4 hd4 na nfs).toSuite a
      refine store_ok (X := X.suite a (X.pn ++ pins)) (v := .ref a) S4 hN hi hl0 rfl (fun s5 S5 => ?_) (.inr hln)
      refine wpAny_mono ((hsu a cls d (X.pn ++ pins)).run [] s5 _ _ _ S5 (hyes rfl a na)) (fun f s6 hsp => ?_) (fun _ _ z => z.elim)
      have fin_ : ∀ {τ : St} {G : Hp} {Q : Shared → Prop}, Inv (X.suite a (X.pn ++ pins)) [] τ G s6 → (∀ s7, Inv X pins (τ.set i none) G s7 → Q s7) →
          wpAny (model X.prog X.w) X.A (do bindName X.env n .none; unbindBehindTheSuite X.env n pos') (fun _ s7 => Q s7) X.xe s6 := fun {τ G Q} S6 hq => gone_ok (S6.ofSuite ok) hN hi hln hq
      cases f with
      | next => exact let ⟨_, _, S6, q6⟩ := hsp; fin_ S6 fun s7 J7 => ⟨_, _, J7, q6⟩
      | brk => exact let ⟨_, _, S6, q6⟩ := hsp; fin_ S6 fun s7 J7 => ⟨_, _, J7, q6⟩
      | cont => exact let ⟨_, _, S6, q6⟩ := hsp; fin_ S6 fun s7 J7 => ⟨_, _, J7, q6⟩
      | ret u => exact let ⟨_, _, _, S6, r6, q6⟩ := hsp; fin_ S6 fun s7 J7 => ⟨_, _, _, J7, r6, q6⟩
    | false =>
      show wpAny _ X.A (handleBy (.ref a) X.env []) _ _ _
      refine wpAny_handleBy_nil ?_
      obtain ⟨k1, k2, k3, oe, vs, T, oT, ts', he, hz, hd, h1, hr⟩ := id fl3
      unfold PySem.passOn
      refine wpAny_bind (wpAny_field he hd h1 ?_)
      rw [if_neg (show ¬ ((Value.ref T == Value.none) = true) from by simp)]
      have fin : wpAny (model X.prog X.w) X.A (setFlight (.ref a) X.env.frame) (fun _ t4 => wpAny (model X.prog X.w) X.A (throw (.ref a) : Sem Flow) (SP X pins D) X.xe t4) X.xe { t with heap := h3 } := by
        rw [hf]
        refine HandSPX.setFlight_upZ fl3 fun h4 hh4 up4 => wpAny_throw (tk _ _ ?_)
        exact ⟨a, B, sI, pins, σ', H', cls, d, rfl, J, nb, (up.trans up3).trans up4, .inr (.inr (by rw [hs]; exact hh4)), na, os, ag, hno rfl⟩
      first
        | exact wpAny_bind (wpAny_pure (wpAny_bind fin))
        | exact wpAny_bind fin
  refine wpAny_mono ((hb WW (X.pn ++ pins) look catch_ PassesOwn.looking).run [] s σ H D (I.toTry _) h) (fun f s1 hsp => ?_) (fun e s1 he => he)
  cases f with
  | next => exact let ⟨σ', H', J', q⟩ := hsp; wpAny_execs_nil ⟨σ', H', J'.ofTry ok, q⟩
  | brk => exact let ⟨σ', H', J', q⟩ := hsp; ⟨σ', H', J'.ofTry ok, q⟩
  | cont => exact let ⟨σ', H', J', q⟩ := hsp; ⟨σ', H', J'.ofTry ok, q⟩
  | ret u => exact let ⟨v, σ', H', J', r, q⟩ := hsp; ⟨v, σ', H', J'.ofTry ok, r, q⟩
end
end L2
namespace ML
open PySem PySem.Spec L2
open PyProof.Rows hiding St
/-- which own exceptions are of which class -/
def subE (c d : Str) : Bool := decide (c = d) || decide (d ∈ (["SpotError", "ValueError", "Exception", "BaseException"] : List Str))
def excCB (K : PySem.W.Frag) (D : Addr) : Bool := decide (PySem.W.findIn K (.ref D) "__getattribute__" = some (some (.builtin "BaseException.__getattribute__"))) && (decide (PySem.W.findIn K (.ref D) "__getattr__" = some none) && (decide (PySem.W.subIn K (.ref D) (.type "BaseException") = some true) && (PySem.W.hasDictIn K D &&
  (decide (PySem.W.findIn K (.ref D) "__class__" = some (some (.builtin "object.__class__"))) && (decide (PySem.W.specialIn K (.builtin "object.__class__") "__get__" = some (some (.builtin "getset_descriptor.__get__"))) && (decide (PySem.W.takesIn K (.builtin "object.__class__") = some true) && decide (PySem.W.mroIn K D (.type "object") = some true)))))))
theorem excCB_ok {K : PySem.W.Frag} {D : Addr} (h : excCB K D = true) : ExcC K D := by
  simp only [excCB, Bool.and_eq_true, decide_eq_true_eq] at h
  obtain ⟨h1, h2, h3, h4, h5, h6, h7, h8⟩ := h
  exact ⟨h1, h2, h3, h4, h5, h6, h7, h8⟩
def excB1 (K : PySem.W.Frag) (ns : List Str) (C : Str) : Bool := excCB K (He.ga K C) && (decide (PySem.W.kitOne K (.ref (He.ga K C)) (.type "ValueError") = some true) && (decide (PySem.W.findIn K (.ref (He.ga K C)) "__str__" = some (some (.builtin "BaseException.__str__"))) && ns.all fun y => decide (PySem.W.kitOne K (.ref (He.ga K C)) (.ref (He.ga K y)) = some (subE C y)) && decide (PySem.W.exmOne K (.ref (He.ga K C)) (.ref (He.ga K y)) = some (subE C y))))
def excsB (ns : List Str) (K : PySem.W.Frag) : Bool := ns.all (excB1 K ns)
/-- what the own exception classes tell -/
structure ExcT (K : PySem.W.Frag) (ns : List Str) : Prop where
  c : ∀ C ∈ ns, ExcC K (He.ga K C)
  v : ∀ C ∈ ns, PySem.W.kitOne K (.ref (He.ga K C)) (.type "ValueError") = some true
  k : ∀ C ∈ ns, ∀ y ∈ ns, PySem.W.kitOne K (.ref (He.ga K C)) (.ref (He.ga K y)) = some (subE C y)
  s : ∀ C ∈ ns, PySem.W.findIn K (.ref (He.ga K C)) "__str__" = some (some (.builtin "BaseException.__str__"))
  m : ∀ C ∈ ns, ∀ y ∈ ns, PySem.W.exmOne K (.ref (He.ga K C)) (.ref (He.ga K y)) = some (subE C y)
theorem excsB_ok {K : PySem.W.Frag} {ns : List Str} (h : excsB ns K = true) : ExcT K ns := by
  have z : ∀ C ∈ ns, excCB K (He.ga K C) = true ∧ PySem.W.kitOne K (.ref (He.ga K C)) (.type "ValueError") = some true ∧ PySem.W.findIn K (.ref (He.ga K C)) "__str__" = some (some (.builtin "BaseException.__str__")) ∧ ∀ y ∈ ns, PySem.W.kitOne K (.ref (He.ga K C)) (.ref (He.ga K y)) = some (subE C y) ∧ PySem.W.exmOne K (.ref (He.ga K C)) (.ref (He.ga K y)) = some (subE C y) := fun C hC => by
    have q := List.all_eq_true.mp h C hC
    simp only [excB1, Bool.and_eq_true, decide_eq_true_eq] at q
    refine ⟨q.1, q.2.1, q.2.2.1, fun y hy => ?_⟩
    have := List.all_eq_true.mp q.2.2.2 y hy
    simpa only [Bool.and_eq_true, decide_eq_true_eq] using this
  exact ⟨fun C hC => excCB_ok (z C hC).1, fun C hC => (z C hC).2.1, fun C hC y hy => ((z C hC).2.2.2 y hy).1, fun C hC => (z C hC).2.2.1, fun C hC y hy => ((z C hC).2.2.2 y hy).2⟩
/-- an exception that is made with a text and raised -/
def mRaise (C : Str) : MS := fun D σ S => D.ex ⟨C, none⟩ σ S
section
variable {X : Cx} {W : WX} {a : Expr} {pos : Pos} {m : ME}
/-- try .. except C as n: what is caught is an object of the store behind it -/
def endM (D : MEnds) (i : Nat) : MEnds := { nx := fun σ S => D.nx (σ.set i none) S, rt := D.rt, bk := fun σ S => D.bk (σ.set i none) S, ct := fun σ S => D.ct (σ.set i none) S }
def mTry (ns : List Str) (c : Str) (i : Nat) (mb ms : MS) : MS := fun D σ S => mb { D with ex := fun x σ' S' => x.C ∈ ns ∧ (subE x.C c = true → ∀ p, S' p = none → ms (endM D i) (σ'.set i (some (.ref p))) (put S' p (.exc x.C x.fs))) ∧ (subE x.C c = false → D.ex x σ' S') } σ S
theorem stry {ns : List Str} {x n : Str} {i : Nat} {body suite : List Stmt} {b₀ : Stmt} {np pos' : Pos} {mb ms : MS} (T : ExcT X.K ns) (hm : X.mg x = some (.ref (He.ga X.K x))) (hin : x ∈ ns) (tk : Takes X W) (hN : X.N.Nodup)
    (hb : ∀ (V : WX) (pl : List (Addr × Obj)) (ye : Value → Shared → Prop), Takes (X.tr pl ye) V → PassesOwn (model X.prog X.w) X.A X.env ye → PSs (X.tr pl ye) body (upS X.K V mb))
    (hsu : ∀ (a : Addr) (pl : List (Addr × Obj)), PSs (X.suite a pl) (b₀ :: suite) (upS X.K (fun _ _ _ _ => False) ms))
    (hi : X.N[i]? = some n := by rfl) (hln : X.env.kindOf n = some .local := by rfl) (hs : X.stack = X.env :: X.outer := by rfl) (hf : X.env.frame = some X.env.locals := by rfl) (hx : X.ex = [] := by rfl) (hg : Gl X x := by rfl) (hdb : (x == ("__debug__" : Str)) = false := by decide) :
    PS X (.Try body [.ExceptHandler (some (.Name x np)) (some n) (b₀ :: suite) pos'] [] [] pos) (upS X.K W (mTry ns x i mb ms)) := by
  refine L2.PS.to (ps_try_kp (c := .ref (He.ga X.K x)) (tb := fun V => upS X.K V mb) (ts := fun _ _ _ => upS X.K (fun _ _ _ _ => False) ms) (Wout := W) hs hf hx hN hi hln ⟨hg, hdb, .inl hm⟩ tk hb fun a _ _ pl => hsu a pl) ?_
  intro D σ H ⟨m, S, Dm, h1, h2, h3, h4⟩
  refine ⟨m, S, _, h1, h2, h3, ⟨h4.nx, h4.rt, h4.bk, h4.ct, ?_⟩⟩
  intro e m1 S1 cls d σ1 H1 q e1 s1 r1 rx
  obtain ⟨hC, q1, q2⟩ := q
  obtain ⟨ec, rd⟩ := rx
  subst ec
  refine ⟨subE e.C x, T.m _ hC _ hin, fun hy a ha => ?_, fun hy => h4.ex e m1 S1 _ d σ1 H1 (q2 hy) e1 s1 r1 ⟨rfl, rd⟩⟩
  have Sa := s1.fresh ha
  have X1 := Ext.newS s1 (u := ExS (.ref (He.ga X.K e.C)) d a) (o := .exc e.C e.fs) ha
  have e2 := e1.trans X1
  have en : RefN X.K (upd H1 a (ExS (.ref (He.ga X.K e.C)) d a)) (put S1 a (.exc e.C e.fs)) (endM Dm i).nx (endK D i).nx := fun m2 S2 σ2 H2 q e3 s3 r3 => h4.nx _ S2 _ H2 q (e2.trans e3) s3 (r3.unset i none)
  refine ⟨m1.set i (some (.ref a)), put S1 a (.exc e.C e.fs), endM Dm i, (r1.ext X1).set (.ref a) i, s1.newS ha ⟨d, upd_same, RX.ext X1 ⟨rfl, rd⟩⟩, q1 hy a Sa, ⟨en, h4.rt.ext e2, fun m2 S2 σ2 H2 q e3 s3 r3 => h4.bk _ S2 _ H2 q (e2.trans e3) s3 (r3.unset i none), fun m2 S2 σ2 H2 q e3 s3 r3 => h4.ct _ S2 _ H2 q (e2.trans e3) s3 (r3.unset i none), fun _ _ _ _ _ _ _ z => z.elim⟩⟩
/-- isinstance of a kept exception -/
def excOf : Option MO → Option Str
  | some (.exc C none) => some C
  | _ => none
def excD (S : Sto) : D → Option Str
  | .ref p => excOf (S p)
  | _ => none
def mIsE (ns : List Str) (x : Str) (m : ME) : ME := fun σ S Q E => m σ S (fun d S1 => match excD S1 d with
  | some C => C ∈ ns ∧ Q (.bl (subE C x)) S1
  | none => False) E
/-- .. by ValueError -/
def mIsV (ns : List Str) (m : ME) : ME := fun σ S Q E => m σ S (fun d S1 => match excD S1 d with
  | some C => C ∈ ns ∧ Q (.bl true) S1
  | none => False) E
/-- a + b of lists, a list of the store -/
def rAddS : R2m := fun d e S Q => match ownOf S d, ownOf S e with
  | some xs, some ys => xs.length + ys.length ≤ sizeLine ∧ ∀ p, S p = none → Q (.ref p) (put S p (.lst (xs ++ ys)))
  | _, _ => False
theorem eaddS {b : Expr} {ma mb : ME} (ha : PE X a (upE X.K W ma)) (hb : PE X b (upE X.K W mb)) : PE X (.BinOp a .Add b pos) (upE X.K W (mOp rAddS ma mb)) := by
  refine eop op_addAll (fun H S x y d e Qm Q s rx ry h k => ?_) ha hb
  unfold rAddS at h
  split at h
  · next xs ys e1 e2 =>
    obtain ⟨hz, q⟩ := h
    obtain ⟨p, vs, rfl, h1, r1⟩ := own_sq s rx e1
    obtain ⟨p2, ws, rfl, h2, r2⟩ := own_sq s ry e2
    have l1 := r1.length
    have l2 := r2.length
    refine .inr (.inr (.inr ⟨p, p2, vs, ws, rfl, rfl, h1, h2, by omega, fun q' hq => ?_⟩))
    exact k _ _ _ _ (q q' (s.fresh hq)) (Ext.newS s hq) (s.newS hq ⟨_, upd_same, (r1.append r2).ext (Ext.newS s hq)⟩) (.ref q')
  · exact h.elim
/-- how often a truth stands in a list of truths -/
def eqkb (k : Bool) (v : Value) : Bool := match v with
  | .bool n => n == k
  | _ => false
theorem bls_of {us : List Value} : ∀ {bs : List Bool}, Vals (bs.map V.bl) us → us = bs.map Value.bool
  | [], h => by cases h; rfl
  | b :: bs, h => by
    cases h with
    | cons r rs => rw [bls_of rs]; cases r; rfl
def rCntB (K : PySem.W.Frag) : V → List V → Hp → VK → Prop := fun x xs H Q => ∃ (p : Addr) (bs : List Bool) (k : Bool), x = .ref p ∧ xs = [.bl k] ∧ SqL K H p (bs.map V.bl) ∧ Q (.int (bs.count k : Nat)) H
theorem mt_countB : MtR X "list.count" (rCntB X.K) := by
  intro pins s σ H x xs v us Q I rx rxs h
  obtain ⟨p, bs, k, rfl, rfl, hs, q⟩ := h
  cases rx
  obtain ⟨u, rfl, ru⟩ := rxs.one
  cases ru
  obtain ⟨its, rv, ⟨⟨cls, dd, data, sl⟩, n, ho, hc, hdn, hd⟩, hlen⟩ := I.list hs
  simp only at hc hd
  subst hc hd
  have hi := bls_of rv
  subst hi
  refine call_meets PySem.F.slot_list_count ⟨_, ho, rfl⟩ PySem.F.entry_list_count (PySem.F.args_list_count_2 _ _)
    (SeqAt.list_countAt p _ n dd sl (.bool k) (eqkb k)) ⟨ho, fun y hy => ?_, ?_⟩
  · have hy' : y ∈ bs.map Value.bool := by simpa using hy
    obtain ⟨c, _, rfl⟩ := List.mem_map.mp hy'
    exact SeqAt.EqAt.bool_bool c k
  have ec : ∀ bs : List Bool, (bs.map Value.bool).countP (eqkb k) = bs.count k := fun bs => by
    induction bs with
    | nil => rfl
    | cons b bs ih => rw [List.map_cons, List.countP_cons, List.count_cons, ih]; rfl
  refine ⟨.int (bs.count k : Nat), H, I.tok _, ⟨s.toks, ?_⟩, q⟩
  show Value.int ((((bs.map Value.bool).toArray).toList.countP (eqkb k) : Nat) : Int) s.toks = Value.int ((bs.count k : Nat) : Int) s.toks
  rw [← ec bs]
def mtCount : RMm := fun d ds S Q => match ds with
  | [.bl k] => match (lstOf S d).bind blsOf with
    | some bs => Q (.int (bs.count k : Nat)) S
    | none => False
  | _ => False
theorem ml_count : MtL X.K (rCntB X.K) mtCount := fun H S x vs d ds Qm Q s rx rs h k => by
  unfold mtCount at h
  split at h
  · next b =>
    obtain ⟨w, rfl, rw1⟩ := rds1 rs
    cases rw1
    split at h
    · next bs e =>
      cases e1 : lstOf S d with
      | none => rw [e1] at e; cases e
      | some xs =>
        rw [e1] at e
        have e2 := blsOf_eq e
        subst e2
        obtain ⟨a, us, rfl, hq, rq⟩ := lst_sq s rx e1
        have := RDs.bls rq
        subst this
        exact ⟨a, bs, b, rfl, rfl, hq, k _ S _ H h Ext.refl s (.int _)⟩
    · exact h.elim
  · exact h.elim
end
/-! ### how these open -/
theorem l_mRaise {C : Str} {D : MEnds} {σ : MSt} {S : Sto} : mRaise C D σ S = D.ex ⟨C, none⟩ σ S := Eq.trans rfl rfl
def TryP (x : MX) (σ : MSt) (S : Sto) (ns : List Str) (c : Str) (i : Nat) [ms : Hold MS] [De : Hold MEnds] : Prop := x.C ∈ ns ∧ (subE x.C c = true → ∀ p, S p = none → ms.v (endM De.v i) (σ.set i (some (.ref p))) (put S p (.exc x.C x.fs))) ∧ (subE x.C c = false → De.v.ex x σ S)
theorem l_mTry {ns : List Str} {c : Str} {i : Nat} {mb ms : MS} {D : MEnds} {σ : MSt} {S : Sto} : mTry ns c i mb ms D σ S = mb { D with ex := fun x σ' S' => @TryP x σ' S' ns c i ⟨ms⟩ ⟨D⟩ } σ S := Eq.trans rfl rfl
theorem TryP_at {C c : Str} {fs : Option (List (Str × D))} {σ : MSt} {S : Sto} {ns : List Str} {i : Nat} {ms : Hold MS} {De : Hold MEnds} (h1 : C ∈ ns) (h2 : subE C c = true) (h : ∀ p, S p = none → ms.v (endM De.v i) (σ.set i (some (.ref p))) (put S p (.exc C fs))) : @TryP ⟨C, fs⟩ σ S ns c i ms De :=
  ⟨h1, fun _ => h, fun z => by rw [h2] at z; cases z⟩
theorem l_mIsE {ns : List Str} {x : Str} {m : ME} {σ : MSt} {S : Sto} {Q : MQ} {E : MXQ} : mIsE ns x m σ S Q E = m σ S (fun d S1 => optP (excD S1 d) fun C => C ∈ ns ∧ Q (.bl (subE C x)) S1) E := by
  unfold mIsE optP OptP
  apply congrArg (fun f => m σ S f E)
  funext d S1
  cases excD S1 d <;> rfl
theorem l_mIsV {ns : List Str} {m : ME} {σ : MSt} {S : Sto} {Q : MQ} {E : MXQ} : mIsV ns m σ S Q E = m σ S (fun d S1 => optP (excD S1 d) fun C => C ∈ ns ∧ Q (.bl true) S1) E := by
  unfold mIsV optP OptP
  apply congrArg (fun f => m σ S f E)
  funext d S1
  cases excD S1 d <;> rfl
theorem excD_ref {S : Sto} {p : Addr} : excD S (.ref p) = excOf (S p) := Eq.trans rfl rfl
theorem excOf_exc {C : Str} : excOf (some (.exc C none)) = some C := Eq.trans rfl rfl
theorem l_rAddS_rl {p : Addr} {ys : List D} {S : Sto} {Q : MQ} : rAddS (.ref p) (.lst ys) S Q = optP (olP (S p)) fun xs => xs.length + ys.length ≤ sizeLine ∧ ∀ q, S q = none → Q (.ref q) (put S q (.lst (xs ++ ys))) := by
  simp only [rAddS, ownOf_ref', ownOf_lst, optP, OptP]
  cases olP (S p) <;> rfl
theorem l_rAddS_ll {xs ys : List D} {S : Sto} {Q : MQ} : rAddS (.lst xs) (.lst ys) S Q = (xs.length + ys.length ≤ sizeLine ∧ ∀ q, S q = none → Q (.ref q) (put S q (.lst (xs ++ ys)))) := Eq.trans rfl rfl
theorem l_mtCount {d : D} {k : Bool} {S : Sto} {Q : MQ} : mtCount d [.bl k] S Q = optP ((lstOf S d).bind blsOf) fun bs => Q (.int (bs.count k : Nat)) S := by
  simp only [mtCount, optP, OptP]
  cases (lstOf S d).bind blsOf <;> rfl
theorem blsOf_nil : blsOf [] = some [] := Eq.trans rfl rfl
theorem blsOf_cons {b : Bool} {r : List D} : blsOf (.bl b :: r) = (blsOf r).map (b :: ·) := Eq.trans rfl rfl
theorem endM_nx {De : MEnds} {i : Nat} {σ : MSt} {S : Sto} : (endM De i).nx σ S = De.nx (σ.set i none) S := Eq.trans rfl rfl
theorem endM_rt {De : MEnds} {i : Nat} : (endM De i).rt = De.rt := Eq.trans rfl rfl
theorem exn_SpotError : (("SpotError" : Str) ∈ (["SpotError", "NoFraction", "NoWall", "TooMany", "Crossing", "Absent", "NoText", "NoRow"] : List Str)) = True := eq_true (by decide)
theorem sub_SpotError_SpotError : subE "SpotError" "SpotError" = true := by decide
theorem sub_SpotError_NoFraction : subE "SpotError" "NoFraction" = false := by decide
theorem sub_SpotError_NoWall : subE "SpotError" "NoWall" = false := by decide
theorem sub_SpotError_TooMany : subE "SpotError" "TooMany" = false := by decide
theorem sub_SpotError_Crossing : subE "SpotError" "Crossing" = false := by decide
theorem sub_SpotError_Absent : subE "SpotError" "Absent" = false := by decide
theorem sub_SpotError_NoText : subE "SpotError" "NoText" = false := by decide
theorem sub_SpotError_NoRow : subE "SpotError" "NoRow" = false := by decide
theorem exn_NoFraction : (("NoFraction" : Str) ∈ (["SpotError", "NoFraction", "NoWall", "TooMany", "Crossing", "Absent", "NoText", "NoRow"] : List Str)) = True := eq_true (by decide)
theorem sub_NoFraction_SpotError : subE "NoFraction" "SpotError" = true := by decide
theorem sub_NoFraction_NoFraction : subE "NoFraction" "NoFraction" = true := by decide
theorem sub_NoFraction_NoWall : subE "NoFraction" "NoWall" = false := by decide
theorem sub_NoFraction_TooMany : subE "NoFraction" "TooMany" = false := by decide
theorem sub_NoFraction_Crossing : subE "NoFraction" "Crossing" = false := by decide
theorem sub_NoFraction_Absent : subE "NoFraction" "Absent" = false := by decide
theorem sub_NoFraction_NoText : subE "NoFraction" "NoText" = false := by decide
theorem sub_NoFraction_NoRow : subE "NoFraction" "NoRow" = false := by decide
theorem exn_NoWall : (("NoWall" : Str) ∈ (["SpotError", "NoFraction", "NoWall", "TooMany", "Crossing", "Absent", "NoText", "NoRow"] : List Str)) = True := eq_true (by decide)
theorem sub_NoWall_SpotError : subE "NoWall" "SpotError" = true := by decide
theorem sub_NoWall_NoFraction : subE "NoWall" "NoFraction" = false := by decide
theorem sub_NoWall_NoWall : subE "NoWall" "NoWall" = true := by decide
theorem sub_NoWall_TooMany : subE "NoWall" "TooMany" = false := by decide
theorem sub_NoWall_Crossing : subE "NoWall" "Crossing" = false := by decide
theorem sub_NoWall_Absent : subE "NoWall" "Absent" = false := by decide
theorem sub_NoWall_NoText : subE "NoWall" "NoText" = false := by decide
theorem sub_NoWall_NoRow : subE "NoWall" "NoRow" = false := by decide
theorem exn_TooMany : (("TooMany" : Str) ∈ (["SpotError", "NoFraction", "NoWall", "TooMany", "Crossing", "Absent", "NoText", "NoRow"] : List Str)) = True := eq_true (by decide)
theorem sub_TooMany_SpotError : subE "TooMany" "SpotError" = true := by decide
theorem sub_TooMany_NoFraction : subE "TooMany" "NoFraction" = false := by decide
theorem sub_TooMany_NoWall : subE "TooMany" "NoWall" = false := by decide
theorem sub_TooMany_TooMany : subE "TooMany" "TooMany" = true := by decide
theorem sub_TooMany_Crossing : subE "TooMany" "Crossing" = false := by decide
theorem sub_TooMany_Absent : subE "TooMany" "Absent" = false := by decide
theorem sub_TooMany_NoText : subE "TooMany" "NoText" = false := by decide
theorem sub_TooMany_NoRow : subE "TooMany" "NoRow" = false := by decide
theorem exn_Crossing : (("Crossing" : Str) ∈ (["SpotError", "NoFraction", "NoWall", "TooMany", "Crossing", "Absent", "NoText", "NoRow"] : List Str)) = True := eq_true (by decide)
theorem sub_Crossing_SpotError : subE "Crossing" "SpotError" = true := by decide
theorem sub_Crossing_NoFraction : subE "Crossing" "NoFraction" = false := by decide
theorem sub_Crossing_NoWall : subE "Crossing" "NoWall" = false := by decide
theorem sub_Crossing_TooMany : subE "Crossing" "TooMany" = false := by decide
theorem sub_Crossing_Crossing : subE "Crossing" "Crossing" = true := by decide
theorem sub_Crossing_Absent : subE "Crossing" "Absent" = false := by decide
theorem sub_Crossing_NoText : subE "Crossing" "NoText" = false := by decide
theorem sub_Crossing_NoRow : subE "Crossing" "NoRow" = false := by decide
theorem exn_Absent : (("Absent" : Str) ∈ (["SpotError", "NoFraction", "NoWall", "TooMany", "Crossing", "Absent", "NoText", "NoRow"] : List Str)) = True := eq_true (by decide)
theorem sub_Absent_SpotError : subE "Absent" "SpotError" = true := by decide
theorem sub_Absent_NoFraction : subE "Absent" "NoFraction" = false := by decide
theorem sub_Absent_NoWall : subE "Absent" "NoWall" = false := by decide
theorem sub_Absent_TooMany : subE "Absent" "TooMany" = false := by decide
theorem sub_Absent_Crossing : subE "Absent" "Crossing" = false := by decide
theorem sub_Absent_Absent : subE "Absent" "Absent" = true := by decide
theorem sub_Absent_NoText : subE "Absent" "NoText" = false := by decide
theorem sub_Absent_NoRow : subE "Absent" "NoRow" = false := by decide
theorem exn_NoText : (("NoText" : Str) ∈ (["SpotError", "NoFraction", "NoWall", "TooMany", "Crossing", "Absent", "NoText", "NoRow"] : List Str)) = True := eq_true (by decide)
theorem sub_NoText_SpotError : subE "NoText" "SpotError" = true := by decide
theorem sub_NoText_NoFraction : subE "NoText" "NoFraction" = false := by decide
theorem sub_NoText_NoWall : subE "NoText" "NoWall" = false := by decide
theorem sub_NoText_TooMany : subE "NoText" "TooMany" = false := by decide
theorem sub_NoText_Crossing : subE "NoText" "Crossing" = false := by decide
theorem sub_NoText_Absent : subE "NoText" "Absent" = false := by decide
theorem sub_NoText_NoText : subE "NoText" "NoText" = true := by decide
theorem sub_NoText_NoRow : subE "NoText" "NoRow" = false := by decide
theorem exn_NoRow : (("NoRow" : Str) ∈ (["SpotError", "NoFraction", "NoWall", "TooMany", "Crossing", "Absent", "NoText", "NoRow"] : List Str)) = True := eq_true (by decide)
theorem sub_NoRow_SpotError : subE "NoRow" "SpotError" = true := by decide
theorem sub_NoRow_NoFraction : subE "NoRow" "NoFraction" = false := by decide
theorem sub_NoRow_NoWall : subE "NoRow" "NoWall" = false := by decide
theorem sub_NoRow_TooMany : subE "NoRow" "TooMany" = false := by decide
theorem sub_NoRow_Crossing : subE "NoRow" "Crossing" = false := by decide
theorem sub_NoRow_Absent : subE "NoRow" "Absent" = false := by decide
theorem sub_NoRow_NoText : subE "NoRow" "NoText" = false := by decide
theorem sub_NoRow_NoRow : subE "NoRow" "NoRow" = true := by decide
/-! ### the head's facts, with tuples of numbers and exception classes -/
end ML
set_option maxRecDepth 100000
/-! # list(range(n)), dicts whose keys are tuples of numbers -/
namespace ML
open PySem PySem.Spec L2
open PyProof.Rows hiding St
section
variable {X : Cx} {W : WX} {e o : Expr} {es : List Expr} {pos : Pos} {m mo mv : ME} {mas : MA}
/-! ### dicts -/
def valD {κ : Type} [DecidableEq κ] (kvs : List (κ × D)) (k : κ) : Option D := (kvs.find? fun kv => decide (kv.1 = k)).map (·.2)
def putD {κ : Type} [DecidableEq κ] (kvs : List (κ × D)) (k : κ) (v : D) : List (κ × D) :=
  if (kvs.any fun kv => decide (kv.1 = k)) = true then kvs.map (fun kv => if kv.1 = k then (kv.1, v) else kv) else kvs ++ [(k, v)]
theorem RKs.any {κ : Type} {K : PySem.W.Frag} {H : Hp} {S : Sto} (f : κ → Bool) : ∀ {vs : List (κ × V)} {ds : List (κ × D)}, RKs K H S vs ds → (vs.any fun kv => f kv.1) = ds.any fun kv => f kv.1
  | _, _, .nil => rfl
  | _, _, .cons _ r => by rw [List.any_cons, List.any_cons, RKs.any f r]
theorem RKs.valV {κ : Type} [DecidableEq κ] {K : PySem.W.Frag} {H : Hp} {S : Sto} (k : κ) : ∀ {vs : List (κ × V)} {ds : List (κ × D)}, RKs K H S vs ds → (L2.valV vs k).isSome = (valD ds k).isSome
  | _, _, .nil => rfl
  | _, _, .cons (k := j) h r => by
    have ih := RKs.valV k r
    unfold L2.valV valD at *
    rw [List.find?_cons, List.find?_cons]
    by_cases e : j = k
    · simp [e]
    · simpa [e] using ih
theorem RKs.snoc {κ : Type} {K : PySem.W.Frag} {H : Hp} {S : Sto} {k : κ} {v : V} {d : D} (h : RD K H S v d) : ∀ {vs : List (κ × V)} {ds : List (κ × D)}, RKs K H S vs ds → RKs K H S (vs ++ [(k, v)]) (ds ++ [(k, d)])
  | _, _, .nil => .cons h .nil
  | _, _, .cons h2 r => .cons h2 (RKs.snoc h r)
theorem RKs.over {κ : Type} [DecidableEq κ] {K : PySem.W.Frag} {H : Hp} {S : Sto} {k : κ} {v : V} {d : D} (h : RD K H S v d) : ∀ {vs : List (κ × V)} {ds : List (κ × D)}, RKs K H S vs ds → RKs K H S (vs.map fun kv => if kv.1 = k then (kv.1, v) else kv) (ds.map fun kv => if kv.1 = k then (kv.1, d) else kv)
  | _, _, .nil => .nil
  | _, _, .cons (k := j) h2 r => by
    rw [List.map_cons, List.map_cons]
    by_cases e : j = k
    · simp only [e, if_true]; exact .cons h (RKs.over h r)
    · simp only [e, if_false]; exact .cons h2 (RKs.over h r)
theorem RKs.put {κ : Type} [DecidableEq κ] {K : PySem.W.Frag} {H : Hp} {S : Sto} {k : κ} {v : V} {d : D} (h : RD K H S v d) {vs : List (κ × V)} {ds : List (κ × D)} (r : RKs K H S vs ds) : RKs K H S (putK vs k v) (putD ds k d) := by
  unfold putK putD
  rw [RKs.any (fun j => decide (j = k)) r]
  split
  · exact r.over h
  · exact r.snoc h
end
end ML
set_option maxRecDepth 100000
set_option maxHeartbeats 2000000
/-! # enumerate(tuple) -/
namespace PySem
open Sem (wp)
open AutoSeq1 (wpAny_loadPart')
section
variable {prog : Program} {w : World} {A : Around} {E : Value → Shared → Prop} {s : Shared}
theorem nextTup_item {it t : Addr} {i : Nat} {items} {x : Value} {Q : Value → Shared → Prop} (hit : s.heap.IsTupleIter it t i) (ht : s.heap.IsTuple t items) (hx : items[i]? = some x) (hQ : ∀ h', h'.IsTupleIter it t (i + 1) → Heap.SameBut it s.heap h' → Q x { s with heap := h' }) : wpAny (model prog w) A (Builtin.SmallTypes.nextOf (.ref it)) Q E s := by
  obtain ⟨o, ho, hc, hd⟩ := id hit; obtain ⟨ol, hol, _, nl, hdl⟩ := ht
  unfold Builtin.SmallTypes.nextOf
  refine wpAny_bind (wpAny_callSpecial?_slot (name := Str.ofString "__next__") hit.typeIs F.slot_tuple_iterator_next (wpAny_call_entry F.slot_tuple_iterator_next hit.typeIs F.entry_tuple_iterator_next ?_ (F.args_tuple_iterator_next_1 _)))
  show wpAny _ _ (field (.ref it) 0 >>= _) _ _ s; refine wpAny_bind (wpAny_field ho hd (x := .ref t) rfl ?_)
  show wpAny _ _ (if (Value.ref t == Value.none) = true then _ else _) _ _ s; rw [if_neg (show ¬ ((Value.ref t == Value.none) = true) from Bool.false_ne_true)]
  show wpAny _ _ (field (.ref it) 1 >>= _) _ _ s; refine wpAny_bind (wpAny_field ho hd (x := .int i 0) rfl ?_)
  show wpAny _ _ (seqItems? (.ref t) >>= _) _ _ s; refine wpAny_bind (wpAny_seqItems hol hdl ?_)
  simp only [Int.toNat_natCast, hx]; refine wpAny_bind (wpAny_setField ho hd (by simp) (wpAny_pure ⟨x, rfl, wpAny_pure (hQ _ ?_ (Heap.SameBut.update ..))⟩))
  exact ⟨_, Heap.get?_update_self _ ho (Obj.isFreed_of_fields (Obj.data_mapFields hd _)), (Obj.cls_mapFields ..).trans hc, by rw [Obj.data_mapFields hd]; simp [rawInt]⟩
theorem nextTup_end {it t : Addr} {i : Nat} {items} {Q : Value → Shared → Prop} (hh : A.handled = none) (hit : s.heap.IsTupleIter it t i) (ht : s.heap.IsTuple t items) (hx : items[i]? = none)
    (hE : ∀ h' e, Heap.ExtBut it s.heap h' → (∃ o, h'.get? e = some o ∧ o.cls = .type "StopIteration") → E (.ref e) { s with heap := h' }) : wpAny (model prog w) A (Builtin.SmallTypes.nextOf (.ref it)) Q E s := by
  obtain ⟨o, ho, hc, hd⟩ := id hit; obtain ⟨ol, hol, _, nl, hdl⟩ := ht
  unfold Builtin.SmallTypes.nextOf
  refine wpAny_bind (wpAny_callSpecial?_slot (name := Str.ofString "__next__") hit.typeIs F.slot_tuple_iterator_next (wpAny_call_entry F.slot_tuple_iterator_next hit.typeIs F.entry_tuple_iterator_next ?_ (F.args_tuple_iterator_next_1 _)))
  show wpAny _ _ (field (.ref it) 0 >>= _) _ _ s; refine wpAny_bind (wpAny_field ho hd (x := .ref t) rfl ?_)
  show wpAny _ _ (if (Value.ref t == Value.none) = true then _ else _) _ _ s; rw [if_neg (show ¬ ((Value.ref t == Value.none) = true) from Bool.false_ne_true)]
  show wpAny _ _ (field (.ref it) 1 >>= _) _ _ s; refine wpAny_bind (wpAny_field ho hd (x := .int i 0) rfl ?_)
  show wpAny _ _ (seqItems? (.ref t) >>= _) _ _ s; refine wpAny_bind (wpAny_seqItems hol hdl ?_)
  simp only [Int.toNat_natCast, hx]; refine wpAny_bind (wpAny_rule (wpAny_bind (wpAny_setField ho hd (by simp) ?_)))
  show wpAny _ _ (newExc (.type "StopIteration") [] >>= _) _ _ _; refine wpAny_bind ?_
  simp only [newExc, newTuple]; refine wpAny_bind (wpAny_newObj_type ?_ (by size_fits))
  refine wpAny_bind (m := firstArgMember _ _) (wpAny_of_eq (a := Value.none) (by first | rfl | (simp only [firstArgMember]; rfl)) ?_); refine wpAny_newObj_type ?_ (by size_fits)
  simp only [raiseNew]; refine wpAny_bind (wpAny_handled ?_)
  first | rw [show A.in1.handled = none from hh] | rw [hh]
  refine wpAny_bind (wpAny_pure (wpAny_throw ?_)); exact hE _ _ (((Heap.SameBut.update ..).extBut.push _).push _) ⟨_, Heap.get?_push_size _ rfl, rfl⟩
end
theorem Draws.tup {prog : Program} {w : World} {A : Around} (hh : A.handled = none) (it t : Addr) (hne : t ≠ it) (items : Array Value) : Draws prog w A it [it, t] items.size (fun i v => items[i]? = some v) (fun i h => h.IsTupleIter it t i ∧ h.IsTuple t items) where
  live := fun _ _ st => let ⟨o, ho, _⟩ := st.1; ⟨o, ho⟩
  frame := fun _ _ _ st hk => ⟨let ⟨o, ho, r⟩ := st.1; ⟨o, hk it (by simp) o ho, r⟩, let ⟨o, ho, r⟩ := st.2; ⟨o, hk t (by simp) o ho, r⟩⟩
  item := fun i s Q E hi st hQ => nextTup_item st.1 st.2 (x := items[i]) (by simp [hi]) fun h' hit' hs' => hQ _ h' s.toks (by simp [hi]) ⟨hit', let ⟨o, ho, r⟩ := st.2; ⟨o, hs'.extBut _ _ hne ho, r⟩⟩ hs'
  done := fun s Q E st hE => nextTup_end hh st.1 st.2 (by simp) hE
end PySem
namespace L2
open PySem PySem.Spec PyProof.Rows
end L2
namespace ML
open PySem PySem.Spec L2
open PyProof.Rows hiding St
end ML
set_option maxRecDepth 100000
set_option maxHeartbeats 2000000
/-! # (a, b)[::-1], sum of a list of numbers -/
namespace L2
open PySem PySem.Spec PyProof.Rows
end L2
namespace ML
open PySem PySem.Spec L2
open PyProof.Rows hiding St
end ML
set_option maxRecDepth 100000
/-! # dicts whose keys are spots; dicts whose keys are numbers -/
namespace ML
open PySem PySem.Spec L2
open PyProof.Rows hiding St
theorem nkey_inj {a b : K4} (h : nkey a = nkey b) : a = b := by
  obtain ⟨⟨a1, a2⟩, a3, a4⟩ := a
  obtain ⟨⟨b1, b2⟩, b3, b4⟩ := b
  simp only [nkey] at h
  injection h with h
  injection h with h1 h2
  injection h2 with h2 _
  injection h1 with h1
  injection h2 with h2
  injection h1 with h1 h3
  injection h2 with h2 h4
  injection h3 with h3 _
  injection h4 with h4 _
  injection h1 with h1
  injection h2 with h2
  injection h3 with h3
  injection h4 with h4
  rw [h1, h2, h3, h4]
theorem nkey_depth (k : K4) : (nkey k).depth ≤ 8 := by
  simp only [nkey, NestedKey.depth, NestedKey.depthAll]; decide
theorem nkey_hash (w : World) (k : K4) : (nkey k).hash w = hash4 k := by
  simp only [nkey, hash4, NestedKey.hash, NestedKey.hashes]
/-- the kind of key -/
def spotKind (prog : Program) (w : World) : HeapKind prog w K4 where
  is := fun h k a => (nestedKind prog w).is h (nkey k) a
  hash := hash4
  draws := fun k => (nestedKind prog w).draws (nkey k)
  room := fun A => (nestedKind prog w).room A
  inj := fun hx hy => nkey_inj ((nestedKind prog w).inj hx hy)
  keeps := fun x ho hd hs => (nestedKind prog w).keeps x ho hd hs
  pyHash := fun {A E s k a Q} hu hk h => (nestedKind prog w).pyHash hu hk (by
    show Q (NestedKey.hash w (nkey k)) _
    rw [nkey_hash]; exact h)
  eqBool := fun {A E s x y a b Q} hu hx hy h => (nestedKind prog w).eqBool hu hx hy (by
    have e : decide (nkey x = nkey y) = decide (x = y) := by
      rw [decide_eq_decide]; exact ⟨nkey_inj, fun z => by rw [z]⟩
    rw [e]; exact h)
  quiet := fun {A E s k a Q} hk h => (nestedKind prog w).quiet hk h
/-! ### over the hand layer -/
/-- v is the key k -/
def KeyV (K : PySem.W.Frag) (H : Hp) (k : K4) (v : V) : Prop := ∃ p p1 p2, v = .ref p ∧ SqT K H p [.ref p1, .ref p2] ∧ SqT K H p1 [.int k.1.1, .int k.1.2] ∧ SqT K H p2 [.int k.2.1, .int k.2.2]
section
variable {X : Cx} {pins : List (Addr × Obj)} {σ : L2.St} {H : Hp} {s : Shared} {a p : Addr} {k : K4} {A : Around} {E : Value → Shared → Prop}
theorem two_at {a b : V} {its : List Value} (r : Vals [a, b] its) : ∃ u v, its = [u, v] ∧ RelV a u ∧ RelV b v := by
  cases r with
  | cons r1 r => cases r with
    | cons r2 r => cases r; exact ⟨_, _, rfl, r1, r2⟩
theorem ints_is (I : Inv X pins σ H s) {i j : Int} (h : SqT X.K H p [.int i, .int j]) : NestedIs s.heap (.tup [.num i, .num j]) (.ref p) := by
  obtain ⟨its, r, ⟨o, e1, e2, n, e3⟩, _⟩ := I.tuple h
  obtain ⟨u, v, rfl, r1, r2⟩ := two_at r
  obtain ⟨t1, rfl⟩ := r1
  obtain ⟨t2, rfl⟩ := r2
  exact .tup e1 e2 e3 (.cons (.int _ _) (.cons (.int _ _) .nil))
theorem key_is (I : Inv X pins σ H s) (h : KeyV X.K H k (.ref p)) : (spotKind X.prog X.w).is s.heap k p := by
  obtain ⟨p', p1, p2, e, h0, h1, h2⟩ := h
  cases e
  obtain ⟨its, r, ⟨o, e1, e2, n, e3⟩, _⟩ := I.tuple h0
  obtain ⟨u, v, rfl, r1, r2⟩ := two_at r
  obtain rfl : u = Value.ref p1 := r1
  obtain rfl : v = Value.ref p2 := r2
  exact ⟨.tup e1 e2 e3 (.cons (ints_is I h1) (.cons (ints_is I h2) .nil)), nkey_depth k⟩
/-- the dict at a, its keys seen -/
structure DSat (K : PySem.W.Frag) (H : Hp) (a : Addr) (xs : List (K4 × Addr × Value)) : Prop where
  at' : H a = some (DicS xs a)
  sys : (a == sysModules) = false
  key : ∀ x ∈ xs, KeyV K H x.1 (.ref x.2.1)
theorem DSat.of (I : Inv X pins σ H s) {xs : List (K4 × Addr × Value)} (d : DSat X.K H a xs) : s.heap.DictOfH (spotKind X.prog X.w) a xs := by
  obtain ⟨⟨o, es, ep, h1, h2, h3, h4, h5⟩, _⟩ := I.hok a _ d.at'
  exact ⟨o, es, ep, h1, h2, h3, h4, fun x hx => key_is I (d.key x hx), h5⟩
theorem DSat.type (I : Inv X pins σ H s) {xs : List (K4 × Addr × Value)} (d : DSat X.K H a xs) :
    s.TypeIs (.ref a) "dict" ∧ (∀ b, Value.ref a = .ref b → ∃ ob, s.heap.get? b = some ob ∧ ob.dict = none) := by
  have dd := d.of I
  refine ⟨dd.typeIs, fun b q => ?_⟩
  cases q
  obtain ⟨ob, _, _, h1, h2, _⟩ := dd
  exact ⟨ob, h1, h2.2.1⟩
end
end ML
namespace ML
open PySem PySem.Spec L2
open PyProof.Rows hiding St
/-! ### readings -/
theorem RD.key {K : PySem.W.Frag} {H : Hp} {S : Sto} {k : K4} {v : V} (r : RD K H S v (k4D k)) : ∃ p, v = .ref p ∧ KeyV K H k v := by
  obtain ⟨a, vs, rfl, h1, r1⟩ := RD.tupSq r
  cases r1 with
  | cons ra r1 => cases r1 with
    | cons rb r1 =>
      cases r1
      obtain ⟨p1, vs1, rfl, h2, r2⟩ := RD.tupSq ra
      obtain ⟨p2, vs2, rfl, h3, r3⟩ := RD.tupSq rb
      cases r2 with
      | cons x1 r2 => cases r2 with
        | cons x2 r2 =>
          cases r2
          cases r3 with
          | cons y1 r3 => cases r3 with
            | cons y2 r3 =>
              cases r3
              cases x1; cases x2; cases y1; cases y2
              exact ⟨a, rfl, a, p1, p2, rfl, h1, h2, h3⟩
section
variable {K : PySem.W.Frag} {H : Hp} {S : Sto}
theorem R4.length {kvs : List (K4 × D)} {xs : List (K4 × Addr × Value)} (r : R4 K H S kvs xs) : kvs.length = xs.length := Paired.length r
theorem R4.val (k : K4) : ∀ {kvs : List (K4 × D)} {xs : List (K4 × Addr × Value)}, R4 K H S kvs xs → (∀ v, valD kvs k = some v → ∃ u w, atKey xs k = some u ∧ RelV w u.2 ∧ RD K H S w v) ∧ (valD kvs k = none ↔ atKey xs k = none)
  | _, _, .nil => ⟨fun v h => (by cases h), fun _ => rfl, fun _ => rfl⟩
  | p :: ps, q :: qs, .cons ⟨h1, h2, w, h3, h4⟩ r => by
    have ih := R4.val k r
    unfold valD atKey at *
    rw [List.find?_cons, List.find?_cons]
    by_cases e : p.1 = k
    · have e2 : q.1 = k := h1.symm.trans e
      simp only [e, e2, decide_true]
      exact ⟨fun v hv => by cases hv; exact ⟨_, w, rfl, h3, h4⟩, by simp⟩
    · have e2 : ¬ q.1 = k := fun z => e (h1.trans z)
      simp only [e, e2, decide_false]
      exact ih
theorem R4.snoc {k : K4} {p : Addr} {v : V} {u : Value} {d : D} (hk : RD K H S (.ref p) (k4D k)) (hv : RelV v u) (hd : RD K H S v d) : ∀ {kvs : List (K4 × D)} {xs : List (K4 × Addr × Value)}, R4 K H S kvs xs → R4 K H S (kvs ++ [(k, d)]) (xs ++ [(k, p, u)])
  | _, _, .nil => .cons ⟨rfl, hk, v, hv, hd⟩ .nil
  | _, _, .cons h r => .cons h (R4.snoc hk hv hd r)
end
section
variable {X : Cx} {W : WX} {e o i f : Expr} {pos : Pos} {mo mi mx : ME} {A : Around}
/-! ### dicts whose keys are numbers -/
theorem RKs.val {κ : Type} [DecidableEq κ] {K : PySem.W.Frag} {H : Hp} {S : Sto} (k : κ) : ∀ {vs : List (κ × V)} {ds : List (κ × D)}, RKs K H S vs ds → ∀ d, valD ds k = some d → ∃ v, L2.valV vs k = some v ∧ RD K H S v d
  | _, _, .nil, d, h => by cases h
  | _, _, .cons (k := j) hr r, d, h => by
    have ih := RKs.val k r d
    unfold L2.valV valD at *
    rw [List.find?_cons] at h ⊢
    by_cases e : j = k
    · simp only [e, decide_true] at h ⊢
      cases h; exact ⟨_, rfl, hr⟩
    · simp only [e, decide_false] at h ⊢
      exact ih h
end
end ML
set_option maxRecDepth 100000
/-! # sorted of a list of numbers -/
namespace ML
open PySem PySem.Spec L2
open PyProof.Rows hiding St
section
variable {X : Cx}
/-- sorted: a list that stays -/
def bSortI : List D → Sto → MQ → Prop := fun ds S Q => ∃ (d : D) (ns : List Int), ds = [d] ∧ lstOf S d = some (ns.map .int) ∧ ns.length ≤ 10000 ∧
  ∀ ms : List Int, ms.Perm ns → ms.Pairwise (· ≤ ·) → Q (.lst (ms.map .int)) S
end
def SortIP (ds : List D) (S : Sto) [Q : Hold MQ] : Prop := bSortI ds S Q.v
theorem l_bSortI {ds : List D} {S : Sto} {Q : MQ} : bSortI ds S Q = @SortIP ds S ⟨Q⟩ := Eq.trans rfl rfl
/-! ### True in a list of truths -/
/-! ### == of lists of lists of the store -/
mutual
/-- e is d with all lists of the store opened -/
inductive Deep (S : Sto) : D → D → Prop
  | same {d : D} : D.plain d = true → Deep S d d
  | ref {p : Addr} {ds es : List D} : S p = some (.lst ds) → Deeps S ds es → Deep S (.ref p) (.lst es)
  | lst {ds es : List D} : Deeps S ds es → Deep S (.lst ds) (.lst es)
  | tup {ds es : List D} : Deeps S ds es → Deep S (.tup ds) (.tup es)
inductive Deeps (S : Sto) : List D → List D → Prop
  | nil : Deeps S [] []
  | cons {d e : D} {ds es : List D} : Deep S d e → Deeps S ds es → Deeps S (d :: ds) (e :: es)
end
mutual
theorem deep_dp {K : PySem.W.Frag} {H : Hp} {S : Sto} (s : RSto K H S) : ∀ {v : V} {d e : D}, RD K H S v d → Deep S d e → D.plain e = true → Dp K H v (D.py e)
  | _, _, _, r, .same _, h => r.dp h
  | _, _, _, r, .ref e dd, h => by
    cases r
    obtain ⟨vs, e1, r1⟩ := s _ _ e
    rw [D.py]
    exact .lst (.inl (.inl e1)) (deeps_dp s r1 dd h)
  | _, _, _, r, .lst dd, h => by
    cases r with
    | lst h1 n r1 => rw [D.py]; exact .lst (.inl (.inl h1)) (deeps_dp s r1 dd h)
  | _, _, _, r, .tup dd, h => by
    obtain ⟨a, vs, rfl, h1, r1⟩ := RD.tupSq r
    rw [D.py]; exact .tup h1 (deeps_dp s r1 dd h)
theorem deeps_dp {K : PySem.W.Frag} {H : Hp} {S : Sto} (s : RSto K H S) : ∀ {vs : List V} {ds es : List D}, RDs K H S vs ds → Deeps S ds es → D.plains es = true → DpAll K H vs (D.pys es)
  | _, _, _, .nil, .nil, _ => by rw [D.pys]; exact .nil
  | _, _, _, .cons r rs, .cons (e := e) (es := es) d dd, h => by
    obtain ⟨a1, a2⟩ := Bool.and_eq_true_iff.mp (show (D.plain e && D.plains es) = true from h)
    rw [D.pys]; exact .cons (deep_dp s r d a1) (deeps_dp s rs dd a2)
end
def rNeX : R2m := fun d e S Q => ∃ d' e', Deep S d d' ∧ Deep S e e' ∧ (D.plain d' = true ∧ D.plain e' = true ∧ D.dep d' ≤ 64 ∧ D.dep e' ≤ 64) ∧ Q (.bl (!D.deq d' e')) S
theorem ol_neX {X : Cx} : OpL X.K (fun x y H Q => rNe x y H Q ∨ rNeD X.K x y H Q) rNeX := fun H S x y d e Qm Q s rx ry ⟨d', e', h1, h2, ⟨p1, p2, d1, d2⟩, h⟩ k => by
  refine .inr ⟨_, _, deep_dp s rx h1 p1, deep_dp s ry h2 p2, D.shaped_py p1 d1, D.shaped_py p2 d2, k _ S _ H h Ext.refl s ?_⟩
  rw [D.eqv_py _ _ p1 p2]; exact .bl _
def NeXP (d e : D) (S : Sto) [Q : Hold MQ] : Prop := rNeX d e S Q.v
theorem l_rNeX {d e : D} {S : Sto} {Q : MQ} : rNeX d e S Q = @NeXP d e S ⟨Q⟩ := Eq.trans rfl rfl
theorem neXP {d e d' e' : D} {S : Sto} {Q : MQ} (h1 : Deep S d d') (h2 : Deep S e e') (h : D.plain d' = true ∧ D.plain e' = true ∧ D.dep d' ≤ 64 ∧ D.dep e' ≤ 64) (k : Q (.bl (!D.deq d' e')) S) : @NeXP d e S ⟨Q⟩ := ⟨d', e', h1, h2, h, k⟩
end ML
set_option maxRecDepth 100000
namespace ML
open PySem PySem.Spec L2
/-! == of values that hold lists of the store, at any depth -/
def rEqX : R2m := fun d e S Q => ∃ d' e', Deep S d d' ∧ Deep S e e' ∧ (D.plain d' = true ∧ D.plain e' = true ∧ D.dep d' ≤ 64 ∧ D.dep e' ≤ 64) ∧ Q (.bl (D.deq d' e')) S
def EqXP (d e : D) (S : Sto) [Q : Hold MQ] : Prop := rEqX d e S Q.v
theorem l_rEqX {d e : D} {S : Sto} {Q : MQ} : rEqX d e S Q = @EqXP d e S ⟨Q⟩ := Eq.trans rfl rfl
end ML
set_option maxRecDepth 100000
namespace ML
open PySem PySem.Spec L2
/-! ### dicts whose keys are numbers: get with a default, setdefault -/
end ML
set_option maxRecDepth 100000
namespace ML
open PySem PySem.Spec L2
/-! ### [x] * n, a list of the store -/
/-! ### a list of the store in a list of such -/
end ML
set_option maxRecDepth 100000
namespace ML
open PySem PySem.Spec L2
/-! ### min, max of a list of pairs of numbers -/
section
variable {X : Cx}
def bMinU : List D → Sto → MQ → Prop := fun ds S Q => ∃ (d : D) (us : List U2), ds = [d] ∧ lstOf S d = some (us.map uD) ∧ us ≠ [] ∧ ∀ m, m ∈ us → (∀ y ∈ us, ule m y) → Q (uD m) S
def bMaxU : List D → Sto → MQ → Prop := fun ds S Q => ∃ (d : D) (us : List U2), ds = [d] ∧ lstOf S d = some (us.map uD) ∧ us ≠ [] ∧ ∀ m, m ∈ us → (∀ y ∈ us, ule y m) → Q (uD m) S
end
def MinUP (ds : List D) (S : Sto) [Q : Hold MQ] : Prop := bMinU ds S Q.v
def MaxUP (ds : List D) (S : Sto) [Q : Hold MQ] : Prop := bMaxU ds S Q.v
theorem l_bMinU {ds : List D} {S : Sto} {Q : MQ} : bMinU ds S Q = @MinUP ds S ⟨Q⟩ := Eq.trans rfl rfl
theorem l_bMaxU {ds : List D} {S : Sto} {Q : MQ} : bMaxU ds S Q = @MaxUP ds S ⟨Q⟩ := Eq.trans rfl rfl
end ML
set_option maxRecDepth 100000
/-! # a list with truths in it, against the empty list -/
namespace ML
open PySem PySem.Spec L2
mutual
def D.pb : D → Bool
  | .non => true
  | .bl _ => true
  | .int _ => true
  | .str x => PyData.strOk x
  | .tup ds => D.pbs ds
  | .lst ds => D.pbs ds
  | .scr ds => D.pbs ds
  | .ref _ => false
def D.pbs : List D → Bool
  | [] => true
  | d :: ds => D.pb d && D.pbs ds
end
end ML
set_option maxRecDepth 100000
/-! # data alike; what is shown, its length -/
namespace ML
open PySem PySem.Spec L2
mutual
theorem deq_refl : ∀ d : D, D.plain d = true → D.deq d d = true
  | .non, _ => by rw [D.deq]
  | .bl _, h => by cases h
  | .int _, _ => by rw [D.deq]; simp
  | .str _, _ => by rw [D.deq]; simp
  | .ref _, h => by cases h
  | .tup ds, h => by rw [D.deq]; exact deqs_refl ds h
  | .lst ds, h => by rw [D.deq]; exact deqs_refl ds h
  | .scr ds, h => by rw [D.deq]; exact deqs_refl ds h
theorem deqs_refl : ∀ ds : List D, D.plains ds = true → D.deqs ds ds = true
  | [], _ => by rw [D.deqs]
  | d :: ds, h => by
    obtain ⟨a, b⟩ := Bool.and_eq_true_iff.mp (show (D.plain d && D.plains ds) = true from h)
    rw [D.deqs, deq_refl d a, deqs_refl ds b]; rfl
end
/-! ### what is shown -/
mutual
/-- small numbers, short texts -/
def D.sml : D → Bool
  | .int i => decide (i.natAbs.log2 < 1920)
  | .tup ds => D.smls ds
  | .lst ds => D.smls ds
  | .scr ds => D.smls ds
  | .str _ => true
  | .non => true
  | .bl _ => true
  | .ref _ => true
def D.smls : List D → Bool
  | [] => true
  | d :: ds => D.sml d && D.smls ds
end
mutual
/-- so many signs at most -/
def D.wt : D → Nat
  | .int _ => 2000
  | .str x => 10 * x.length + 10
  | .tup ds => D.wts ds + 10
  | .lst ds => D.wts ds + 10
  | .scr ds => D.wts ds + 10
  | .non => 10
  | .bl _ => 10
  | .ref _ => 10
def D.wts : List D → Nat
  | [] => 0
  | d :: ds => D.wt d + 2 + D.wts ds
end
/-! ### all lists of the store opened, truths let -/
mutual
inductive Opn (S : Sto) : D → D → Prop
  | same {d : D} : D.pb d = true → Opn S d d
  | ref {p : Addr} {ds es : List D} : S p = some (.lst ds) → Opns S ds es → Opn S (.ref p) (.lst es)
  | lst {ds es : List D} : Opns S ds es → Opn S (.lst ds) (.lst es)
  | tup {ds es : List D} : Opns S ds es → Opn S (.tup ds) (.tup es)
inductive Opns (S : Sto) : List D → List D → Prop
  | nil : Opns S [] []
  | cons {d e : D} {ds es : List D} : Opn S d e → Opns S ds es → Opns S (d :: ds) (e :: es)
end
def bReprO : List D → Sto → MQ → Prop := fun ds S Q => ∃ d e : D, ds = [d] ∧ Opn S d e ∧ D.dep e ≤ 60 ∧ D.sml e = true ∧ D.wt e ≤ 16000000 ∧ Q (.str (reprD e)) S
def ReprP (ds : List D) (S : Sto) [Q : Hold MQ] : Prop := bReprO ds S Q.v
theorem l_bReprO {ds : List D} {S : Sto} {Q : MQ} : bReprO ds S Q = @ReprP ds S ⟨Q⟩ := Eq.trans rfl rfl
/-! ### == of two texts -/
def rEqS : R2m := fun d e S Q => match d, e with
  | .str x, .str y => Q (.bl (decide (x = y))) S
  | _, _ => False
theorem ol_eqS {X : Cx} : OpL X.K (fun x y H Q => rEq x y H Q ∨ rEqD X.K x y H Q) rEqS := fun H S x y d e Qm Q s rx ry h k => by
  cases d with
  | str x =>
    cases e with
    | str y =>
      cases rx; cases ry
      refine .inl ⟨rfl, ?_⟩
      have : decide (V.str x = V.str y) = decide (x = y) := by simp
      rw [this]
      exact k _ S _ H h Ext.refl s (.bl _)
    | _ => exact h.elim
  | _ => exact h.elim
theorem l_rEqS {x y : Str} {S : Sto} {Q : MQ} : rEqS (.str x) (.str y) S Q = Q (.bl (decide (x = y))) S := Eq.trans rfl rfl
/-! ### a truth not in a list of truths -/
end ML
set_option maxRecDepth 100000
/-! # instances of the program's own classes: fields, methods, making -/
namespace L2
open PySem PySem.Spec PyProof.Rows
section
variable {X : Cx} {CX : CXT} {k : Nat} {m : Str} {E : St → XK} {o e : Expr} {es : List Expr} {ta : TE} {t : TA} {pos apos : Pos} {G : Addr → Sp → Prop}
/-- nothing is raised -/
theorem passNo {P : Program} {w : World} (h1 : X.prog = P) (h2 : X.w = w) : Passes (L2.CX P w) X (fun _ _ _ => False) := fun _ _ _ _ _ _ _ ⟨_, _, _, _, _, _, _, _, _, _, _, _, f⟩ => f.elim
end
/-! ### a def of a class called by the class's name: C.m(self, ..) -/
section
variable {X : Cx} {CX : CXT} {k : Nat} {C f : Addr} {fd : FuncData} {ps : List Str} {sp : Sp} {E : St → XK} {x m : Str} {e : Expr} {es : List Expr} {t : TA} {p apos pos : Pos} {mc : Value}
structure CFun (K : PySem.W.Frag) (C f : Addr) (m : Str) : Prop where
  rd : PySem.W.readsIn K C (.type "type") = true
  ga : PySem.W.specialIn K (.ref C) "__getattribute__" = some (some (.builtin "type.__getattribute__"))
  at_ : PySem.W.findCls K (.ref C) (.type "type") m = some (.val (.ref f))
  kp : PySem.W.keepIn K (.ref f) = true
end
end L2
namespace ML
open PySem PySem.Spec L2
open PyProof.Rows hiding St
/-! ### what an instance holds -/
def insO : Option MO → Option (Str × List (Str × D))
  | some (.ins C fs) => some (C, fs)
  | _ => none
def insD (S : Sto) : D → Option (Str × List (Str × D))
  | .ref p => insO (S p)
  | _ => none
def putL (f : Str) (v : D) : List (Str × D) → List (Str × D)
  | [] => [(f, v)]
  | (g, x) :: r => if g = f then (g, v) :: r else (g, x) :: putL f v r
section
variable {K : PySem.W.Frag} {H : Hp} {S : Sto}
theorem RKs.look {f : Str} {d : D} : ∀ {vs : List (Str × V)} {ds : List (Str × D)}, RKs K H S vs ds → ds.lookup f = some d → ∃ v, vs.lookup f = some v ∧ RD K H S v d
  | _, _, .nil, h => by cases h
  | _, _, .cons (k := g) h r, e => by
    rw [List.lookup] at e
    rw [List.lookup]
    cases c : (f == g) with
    | true => rw [c] at e; cases e; exact ⟨_, rfl, h⟩
    | false => rw [c] at e; exact RKs.look r e
end
section
variable {X : Cx} {W : WX} {o e value : Expr} {es : List Expr} {pos pos' apos : Pos} {m mo mv : ME} {mas : MA} {f : Str}
/-- o.f -/
def mFld (ns : List Str) (f : Str) (m : ME) : ME := fun σ S Q E => m σ S (fun d S1 => optP (insD S1 d) fun x => x.1 ∈ ns ∧ optP (x.2.lookup f) fun v => Q v S1) E
/-- o.f = e -/
def mFldS (ns : List Str) (f : Str) (mv mo : ME) : MS := fun De σ S => mv σ S (fun y S1 => mo σ S1 (fun d S2 => match d with
  | .ref p => optP (insO (S2 p)) fun x => (x.1 ∈ ns ∧ x.2.length < 900) ∧ De.nx σ (put S2 p (.ins x.1 (putL f y x.2)))
  | _ => False) (xAt De σ)) (xAt De σ)
/-- a method of a class: its promise -/
structure HasM (P : Program) (w : World) (K : PySem.W.Frag) (mg : Str → Option Value) (base : Heap) (C m : Str) (k : Nat) (sp : MSp) : Prop where
  ex : ∃ f fd ps, Cls K (He.ga K C) ∧ Meth K (He.ga K C) m f ∧ Binds K fd ps [] ∧ FnOk P w K mg base (L2.CX P w) k f fd ps (upSp K sp)
theorem HasM.mono {P : Program} {w : World} {K : PySem.W.Frag} {mg : Str → Option Value} {base : Heap} {C m : Str} {j k : Nat} {sp : MSp} (h : HasM P w K mg base C m j sp) (l : j ≤ k) : HasM P w K mg base C m k sp :=
  let ⟨f, fd, ps, a, b, c, d⟩ := h.ex
  ⟨f, fd, ps, a, b, c, d.mono l⟩
/-- o.m(..) -/
def mMeth (n : Str) (tbl : List (Str × MSp)) (mo : ME) (t : MA) : ME := fun σ S Q E => mo σ S (fun d S1 => ∃ C fs sp, insD S1 d = some (C, fs) ∧ fs.lookup n = none ∧ (C, sp) ∈ tbl ∧ t σ S1 (fun ds S2 => sp (d :: ds) S2 Q E) E) E
/-- C(..): a new instance, then __init__ -/
structure HasMk (P : Program) (w : World) (K : PySem.W.Frag) (mg : Str → Option Value) (base : Heap) (C : Str) (k : Nat) (sp : MSp) : Prop where
  ex : ∃ f fd ps, mg C = some (.ref (He.ga K C)) ∧ Mk K (He.ga K C) f ∧ Binds K fd ps [] ∧ FnOk P w K mg base (L2.CX P w) k f fd ps (upSp K sp)
theorem HasMk.mono {P : Program} {w : World} {K : PySem.W.Frag} {mg : Str → Option Value} {base : Heap} {C : Str} {j k : Nat} {sp : MSp} (h : HasMk P w K mg base C j sp) (l : j ≤ k) : HasMk P w K mg base C k sp :=
  let ⟨f, fd, ps, a, b, c, d⟩ := h.ex
  ⟨f, fd, ps, a, b, c, d.mono l⟩
def mMake (C : Str) (sp : MSp) (t : MA) : ME := fun σ S Q E => t σ S (fun ds S1 => ∀ p, S1 p = none → sp (.ref p :: ds) (put S1 p (.ins C [])) (fun v S2 => v = .non ∧ Q (.ref p) S2) fun _ _ => False) E
/-- C.m(self, ..), by the class's name: read as a call -/
structure HasC (P : Program) (w : World) (K : PySem.W.Frag) (mg : Str → Option Value) (base : Heap) (C m : Str) (k : Nat) (sp : MSp) : Prop where
  ex : ∃ f fd ps, mg C = some (.ref (He.ga K C)) ∧ CFun K (He.ga K C) f m ∧ Binds K fd ps [] ∧ FnOk P w K mg base (L2.CX P w) k f fd ps (upSp K sp)
theorem HasC.mono {P : Program} {w : World} {K : PySem.W.Frag} {mg : Str → Option Value} {base : Heap} {C m : Str} {j k : Nat} {sp : MSp} (h : HasC P w K mg base C m j sp) (l : j ≤ k) : HasC P w K mg base C m k sp :=
  let ⟨f, fd, ps, a, b, c, d⟩ := h.ex
  ⟨f, fd, ps, a, b, c, d.mono l⟩
end
/-! ### how these open -/
theorem insD_ref {S : Sto} {p : Addr} : insD S (.ref p) = insO (S p) := Eq.trans rfl rfl
theorem insO_ins {C : Str} {fs : List (Str × D)} : insO (some (.ins C fs)) = some (C, fs) := Eq.trans rfl rfl
theorem l_mFld {ns : List Str} {f : Str} {m : ME} {σ : MSt} {S : Sto} {Q : MQ} {E : MXQ} : mFld ns f m σ S Q E = m σ S (fun d S1 => optP (insD S1 d) fun x => x.1 ∈ ns ∧ optP (x.2.lookup f) fun v => Q v S1) E := Eq.trans rfl rfl
theorem l_mFldS {ns : List Str} {f : Str} {mv mo : ME} {De : MEnds} {σ : MSt} {S : Sto} : mFldS ns f mv mo De σ S = mv σ S (fun y S1 => mo σ S1 (fun d S2 => match d with
  | .ref p => optP (insO (S2 p)) fun x => (x.1 ∈ ns ∧ x.2.length < 900) ∧ Go De.nx σ (put S2 p (.ins x.1 (putL f y x.2)))
  | _ => False) (xAt De σ)) (xAt De σ) := Eq.trans rfl rfl
def MethP (d : D) (n : Str) (tbl : List (Str × MSp)) (σ : MSt) (S : Sto) [t : Hold MA] [Q : Hold MQ] [E : Hold MXQ] : Prop := ∃ C fs sp, insD S d = some (C, fs) ∧ fs.lookup n = none ∧ (C, sp) ∈ tbl ∧ t.v σ S (fun ds S2 => sp (d :: ds) S2 Q.v E.v) E.v
theorem l_mMeth {n : Str} {tbl : List (Str × MSp)} {mo : ME} {t : MA} {σ : MSt} {S : Sto} {Q : MQ} {E : MXQ} : mMeth n tbl mo t σ S Q E = mo σ S (fun d S1 => @MethP d n tbl σ S1 ⟨t⟩ ⟨Q⟩ ⟨E⟩) E := Eq.trans rfl rfl
theorem l_mMake {C : Str} {sp : MSp} {t : MA} {σ : MSt} {S : Sto} {Q : MQ} {E : MXQ} : mMake C sp t σ S Q E = t σ S (fun ds S1 => ∀ p, S1 p = none → @CallP sp (.ref p :: ds) (put S1 p (.ins C [])) ⟨fun v S2 => v = .non ∧ Q (.ref p) S2⟩ ⟨fun _ _ => False⟩) E := Eq.trans rfl rfl
/-! ### the head's facts, with defs called by a class's name -/
def cfunB (K : PySem.W.Frag) (p : Str × Str) : Bool := PySem.W.readsIn K (He.ga K p.1) (.type "type") && (decide (PySem.W.specialIn K (.ref (He.ga K p.1)) "__getattribute__" = some (some (.builtin "type.__getattribute__"))) && ((match PySem.W.findCls K (.ref (He.ga K p.1)) (.type "type") p.2 with
  | some (.val u) => decide (u = .ref (He.ma K (He.ga K p.1) p.2))
  | _ => false) && PySem.W.keepIn K (.ref (He.ma K (He.ga K p.1) p.2))))
def cfunsB (cs : List (Str × Str)) (K : PySem.W.Frag) : Bool := cs.all (cfunB K)
end ML
set_option maxRecDepth 100000
set_option maxHeartbeats 2000000
namespace ML
open PySem PySem.Spec L2
open PyProof.Rows hiding St
/-! ### what the written part tells of the classes -/
def oexB (K : PySem.W.Frag) (C : Addr) : Bool := (match K.lookup C with
  | some ⟨.type "type", _, .cls cd, sl⟩ => (match cd.mro, sl.toList with
    | .ref C' :: bm, [_, _, _, _, some (.builtin n), _] => C' == C && n == "ValueError.__new__" && !cd.hasDel && cd.hasDict && PySem.HandSPX.refsVE bm
    | _, _ => false)
  | _ => false) && (decide (PySem.W.findIn K (.ref C) "__setattr__" = some (some (.builtin "object.__setattr__"))) && (decide (PySem.W.subIn K (.ref C) (.type "BaseException") = some true) && (decide (PySem.W.typeIn K (.ref C) = some (.type "type")) && PySem.W.keepIn K (.ref C))))
theorem oexB_ok {K : PySem.W.Frag} {C : Addr} (h : oexB K C = true) : OexC K C := by
  unfold oexB at h
  simp only [Bool.and_eq_true, decide_eq_true_eq] at h
  obtain ⟨q, h2, h3, h4, h5⟩ := h
  refine ⟨?_, h2, h3, h4, h5⟩
  split at q
  · rename_i dd cd sl ho
    split at q
    · rename_i C' bm k0 k1 k2 k3 n k5 hm hs
      simp only [Bool.and_eq_true, beq_iff_eq, Bool.not_eq_true'] at q
      obtain ⟨⟨⟨⟨rfl, rfl⟩, hdel⟩, hdc⟩, ht⟩ := q
      obtain ⟨nm, bs, mro, ns, qn, hd, sn, sub, ab, col, del⟩ := cd
      dsimp only at hm hdel hdc
      subst hm hdel hdc
      have hsl : sl = #[k0, k1, k2, k3, some (.builtin "ValueError.__new__"), k5] := by
        obtain ⟨l⟩ := sl
        simp only at hs
        rw [hs]
      subst hsl
      exact ⟨nm, qn, ns, bs, bm, sn, sub, ab, col, dd, k0, k1, k2, k3, k5, ho, ht⟩
    · cases q
  · cases q
/-- an own exception with fields -/
def xinB1 (K : PySem.W.Frag) (x : Str × List Str) : Bool := oexB K (He.ga K x.1) && (xfB K (He.ga K x.1) && (x.2.all (fun f => decide (PySem.W.findIn K (.ref (He.ga K x.1)) f = some none)) && (decide (PySem.W.findIn K (.ref (He.ga K x.1)) "__init__" = some (some (.ref (He.ma K (He.ga K x.1) "__init__")))) && decide (PySem.W.typeIn K (.ref (He.ma K (He.ga K x.1) "__init__")) = some (.type "function")))))
def xinB (xs : List (Str × List Str)) (K : PySem.W.Frag) : Bool := xs.all (xinB1 K)
/-- what is known of an own exception with fields -/
structure XinC (K : PySem.W.Frag) (C f : Addr) (fs : List Str) : Prop where
  o : OexC K C
  x : XfC K C
  n : ∀ g ∈ fs, PySem.W.findIn K (.ref C) g = some none
  i : PySem.W.findIn K (.ref C) "__init__" = some (some (.ref f))
  t : PySem.W.typeIn K (.ref f) = some (.type "function")
theorem xinB_ok {K : PySem.W.Frag} {xs : List (Str × List Str)} (h : xinB xs K = true) (x : Str × List Str) (hx : x ∈ xs) : XinC K (He.ga K x.1) (He.ma K (He.ga K x.1) "__init__") x.2 := by
  have q := List.all_eq_true.mp h x hx
  unfold xinB1 at q
  simp only [Bool.and_eq_true, decide_eq_true_eq] at q
  obtain ⟨q1, q2, q3, q4, q5⟩ := q
  exact ⟨oexB_ok q1, xfB_ok q2, fun f hf => of_decide_eq_true (List.all_eq_true.mp q3 f hf), q4, q5⟩
end ML
set_option maxRecDepth 100000
set_option maxHeartbeats 2000000
/-! # the head's facts, over few addresses; tables of code objects -/
namespace ML
open PySem PySem.Spec L2
open PyProof.Rows hiding St
/-- what of an object is gone on to: a dict's values, a def's code and defaults, a class's names -/
def refsM (o : Obj) : List Addr := match o.data with
  | .func fd => He.refV fd.code ++ (He.refV fd.defaults ++ He.refV fd.kwdefaults)
  | .cls cd => [cd.ns]
  | .dict es _ => es.toList.flatMap fun e => He.refV e.val
  | _ => []
def layM (g : Addr → Option Obj) (as : List Addr) : List Addr := as.flatMap fun a => match g a with
  | some o => refsM o
  | none => []
def asM (g : Addr → Option Obj) : List Addr := mainGlobals :: cStatics :: (layM g [mainGlobals] ++ (layM g (layM g [mainGlobals]) ++ (layM g (layM g (layM g [mainGlobals])) ++ layM g (layM g (layM g (layM g [mainGlobals]))))))
/-! ### a def's table -/
structure LamOk (K : PySem.W.Frag) (h : Heap) (p : Str × Option Str) : Prop where
  tab : h.get? (tabA K p) = some { cls := .none, data := .fields #[] }
  no : K.lookup (tabA K p) = none
  hd : PySem.W.CodeHd h (codeA K p) (tabA K p)
def lamB (g : Addr → Option Obj) (K : PySem.W.Frag) (p : Str × Option Str) : Bool := (match g (tabA K p) with
  | some ⟨.none, none, .fields vs, sl⟩ => decide (vs.size = 0) && decide (sl.size = 0)
  | _ => false) && ((match K.lookup (tabA K p) with
  | none => true
  | some _ => false) && (match K.lookup (codeA K p) with
  | some ⟨.type "code", _, .fields vs, _⟩ => decide (vs[11]? = some (.ref (tabA K p))) && (decide (vs.getD 11 .none = .ref (tabA K p)) && ((match vs.getD 18 .none with
    | .str _ _ => true
    | _ => false) && ((match vs.getD 7 .none with
    | .int _ _ => true
    | _ => false) && ((match vs.getD 9 .none with
    | .bool _ => true
    | _ => false) && ((match vs.getD 10 .none with
    | .int _ _ => true
    | _ => false) && decide (codeA K p ≠ tabA K p))))))
  | _ => false))
theorem lamB_ok {h : Heap} {K : PySem.W.Frag} {p : Str × Option Str} (KX : K.In h) (e : lamB h.get? K p = true) : LamOk K h p := by
  unfold lamB at e
  obtain ⟨e1, e⟩ := Bool.and_eq_true_iff.mp e
  obtain ⟨e2, e3⟩ := Bool.and_eq_true_iff.mp e
  refine ⟨?_, ?_, ?_⟩
  · split at e1
    · next vs sl he =>
      obtain ⟨v0, s0⟩ := Bool.and_eq_true_iff.mp e1
      have v0 := Array.eq_empty_of_size_eq_zero (of_decide_eq_true v0)
      have s0 := Array.eq_empty_of_size_eq_zero (of_decide_eq_true s0)
      rw [he, v0, s0]
    · cases e1
  · split at e2
    · next he => exact he
    · cases e2
  · split at e3
    · next od vs sl he =>
      obtain ⟨f1, e3⟩ := Bool.and_eq_true_iff.mp e3
      obtain ⟨f2, e3⟩ := Bool.and_eq_true_iff.mp e3
      obtain ⟨f3, e3⟩ := Bool.and_eq_true_iff.mp e3
      obtain ⟨f4, e3⟩ := Bool.and_eq_true_iff.mp e3
      obtain ⟨f5, e3⟩ := Bool.and_eq_true_iff.mp e3
      obtain ⟨f6, f7⟩ := Bool.and_eq_true_iff.mp e3
      have g3 : ∃ a b, vs.getD 18 .none = .str a b := by split at f3 <;> first | exact ⟨_, _, by assumption⟩ | cases f3
      have g4 : ∃ a b, vs.getD 7 .none = .int a b := by split at f4 <;> first | exact ⟨_, _, by assumption⟩ | cases f4
      have g5 : ∃ a, vs.getD 9 .none = .bool a := by split at f5 <;> first | exact ⟨_, by assumption⟩ | cases f5
      have g6 : ∃ a b, vs.getD 10 .none = .int a b := by split at f6 <;> first | exact ⟨_, _, by assumption⟩ | cases f6
      obtain ⟨a3, b3, g3⟩ := g3
      obtain ⟨a4, b4, g4⟩ := g4
      obtain ⟨a5, g5⟩ := g5
      obtain ⟨a6, b6, g6⟩ := g6
      exact ⟨_, vs, a3, b3, a4, b4, a5, a6, b6, KX _ _ he, rfl, rfl, of_decide_eq_true f1, of_decide_eq_true f2, g3, g4, g5, g6, of_decide_eq_true f7⟩
    · cases e3
theorem LamOk.keeps {K : PySem.W.Frag} {h h' : Heap} {p : Str × Option Str} (x : LamOk K h p) (k : ∀ b o, h.get? b = some o → h'.get? b = some o) : LamOk K h' p := ⟨k _ _ x.tab, x.no, x.hd.keeps k⟩
/-! ### the Hook -/
def obsMK (fa : List He.Fa) (fn : List He.DefD) (ks : List String) (ts : List (Str × List Int)) (ns : List Str) (cs : List (Str × Str)) (xs : List (Str × List Str)) (ls : List (Str × Option Str)) (g : Addr → Option Obj) (K : PySem.W.Frag) : AlK × Bool :=
  (obsK fa fn ks K, ((tupsB ts K && (excsB ns K && cfunsB cs K)) && xinB xs K) && (ls.all (lamB g K) && decide (ls.map (tabA K)).Nodup))
def obsM (fa : List He.Fa) (fn : List He.DefD) (ks : List String) (ts : List (Str × List Int)) (ns : List Str) (cs : List (Str × Str)) (xs : List (Str × List Str)) (ls : List (Str × Option Str)) (g : Addr → Option Obj) : AlK × Bool :=
  obsMK fa fn ks ts ns cs xs ls g (He.frG g (asM g))
def hookM (fa : List He.Fa) (fn : List He.DefD) (ks : List String) (ts : List (Str × List Int)) (ns : List Str) (cs : List (Str × Str)) (xs : List (Str × List Str)) (ls : List (Str × Option Str)) : PySem.W.Hook where
  α := AlK × Bool
  obs := fun s => obsM fa fn ks ts ns cs xs ls s.heap.get?
  val := fun _ => ((He.valD fn, true), true)
  says := fun _ h => ∃ K : PySem.W.Frag, K.In h ∧ SaysK fa fn ks K ∧ ((tupsB ts K && (excsB ns K && cfunsB cs K)) && xinB xs K) = true ∧ (∀ p ∈ ls, LamOk K h p) ∧ (ls.map (tabA K)).Nodup
  of := fun _ s e => by
    have e2 := congrArg (fun z : AlK × Bool => z.2) e
    obtain ⟨e3, e4⟩ := Bool.and_eq_true_iff.mp (show (((tupsB ts _ && (excsB ns _ && cfunsB cs _)) && xinB xs _) && (ls.all (lamB s.heap.get? _) && decide (ls.map (tabA _)).Nodup)) = true from e2)
    obtain ⟨e4, e5⟩ := Bool.and_eq_true_iff.mp e4
    exact ⟨_, He.frG_in, ⟨congrArg (fun z : AlK × Bool => z.1.1) e, congrArg (fun z : AlK × Bool => z.1.2) e⟩, e3, fun p hp => lamB_ok He.frG_in (List.all_eq_true.mp e4 p hp), of_decide_eq_true e5⟩
  keeps := fun _ _ _ ⟨K, hK, c, d, l, nd⟩ k => ⟨K, PySem.W.Frag.In.keeps hK k, c, d, fun p hp => (l p hp).keeps k, nd⟩
theorem obsM_eq {fa : List He.Fa} {fn : List He.DefD} {ks : List String} {ts : List (Str × List Int)} {ns : List Str} {cs : List (Str × Str)} {xs : List (Str × List Str)} {ls : List (Str × Option Str)} {g : Addr → Option Obj} {s : Shared} (h : ∀ a, g a = s.heap.get? a) :
    obsM fa fn ks ts ns cs xs ls g = (hookM fa fn ks ts ns cs xs ls).obs s := by
  have e : g = s.heap.get? := funext h
  subst e; rfl
end ML
namespace Lk75
section
set_option maxRecDepth 100000
set_option maxHeartbeats 0
open PySem PySem.Spec L2 ML
open PyProof.Rows hiding St
def top (i : Nat) : Stmt := PySem.Challenge.pw_spotlook_k75_wrong_rows_together.main.body.getD i (.Pass ⟨0, 0, 0, 0⟩)
def clsM (s : Stmt) (j : Nat) : Stmt := match s with
  | .ClassDef _ _ _ body _ _ _ _ _ _ _ => body.getD j (.Pass ⟨0, 0, 0, 0⟩)
  | _ => .Pass ⟨0, 0, 0, 0⟩
abbrev s_NoText_init : Stmt := clsM (top 7) 0
abbrev s_divisor : Stmt := top 10
abbrev s_is_less : Stmt := top 16
abbrev s_is_whole : Stmt := top 34
abbrev s_rows_in : Stmt := top 39
abbrev s_law_cell_at : Stmt := top 44
abbrev s_law_take : Stmt := top 45
abbrev s_law_low : Stmt := top 46
abbrev s_law_turn : Stmt := top 51
abbrev s_law_shown : Stmt := top 55
abbrev s_law_is_whole : Stmt := top 57
abbrev s_law_cross : Stmt := top 61
abbrev s_law_before : Stmt := top 62
abbrev s_law_alone : Stmt := top 66
abbrev s_fraction : Stmt := top 11
abbrev s_is_ahead : Stmt := top 18
abbrev s_fraction_in : Stmt := top 35
abbrev s_law_number : Stmt := top 47
abbrev s_law_scale : Stmt := top 48
abbrev s_law_spot : Stmt := top 49
abbrev s_law_on : Stmt := top 52
abbrev s_law_rows : Stmt := top 56
abbrev s_law_fraction : Stmt := top 58
abbrev s_law_bent : Stmt := top 60
abbrev s_law_fits : Stmt := top 63
abbrev s_law_beyond : Stmt := top 64
abbrev s_plus : Stmt := top 12
abbrev s_less : Stmt := top 13
abbrev s_times : Stmt := top 14
abbrev s_over : Stmt := top 15
abbrev s_spot_in : Stmt := top 36
abbrev s_law_made : Stmt := top 50
abbrev s_law_fair : Stmt := top 53
abbrev s_law_shut_in : Stmt := top 59
abbrev s_along : Stmt := top 19
abbrev s_crossed : Stmt := top 20
abbrev s_wall_in : Stmt := top 37
abbrev s_question_in : Stmt := top 38
abbrev s_law_shuts_here : Stmt := top 54
abbrev s_law_odd : Stmt := top 65
abbrev s_law_due : Stmt := top 68
abbrev s_leaning : Stmt := top 21
abbrev s_spot_of_lines : Stmt := top 26
abbrev s_side_of : Stmt := top 22
abbrev s_lies_on : Stmt := top 23
abbrev s_meeting_in_line : Stmt := top 27
abbrev s_meeting : Stmt := top 28
abbrev s_is_fair : Stmt := top 29
abbrev s_unfair_with : Stmt := top 30
abbrev s_put_read : Stmt := top 40
abbrev s_read_plot : Stmt := top 41
abbrev s_read_questions : Stmt := top 42
abbrev s_law_heard : Stmt := top 67
abbrev s_law : Stmt := top 69
def mkD (x : Str) (s : Stmt) : He.DefD := ⟨(x, none), x, x, defArgs s, defBody s, defScope s, [], []⟩
def mkM (C m q : Str) (s : Stmt) : He.DefD := ⟨(C, some m), m, q, defArgs s, defBody s, defScope s, [], []⟩
def fn0 : List He.DefD := [mkD "divisor" s_divisor, mkD "is_less" s_is_less, mkD "is_whole" s_is_whole, mkD "rows_in" s_rows_in, mkD "_law_cell_at" s_law_cell_at, mkD "_law_take" s_law_take, mkD "_law_low" s_law_low, mkD "_law_turn" s_law_turn, mkD "_law_shown" s_law_shown, mkD "_law_is_whole" s_law_is_whole, mkD "_law_cross" s_law_cross, mkD "_law_before" s_law_before, mkD "_law_alone" s_law_alone, mkD "fraction" s_fraction, mkD "is_ahead" s_is_ahead, mkD "fraction_in" s_fraction_in, mkD "_law_number" s_law_number, mkD "_law_scale" s_law_scale, mkD "_law_spot" s_law_spot, mkD "_law_on" s_law_on, mkD "_law_rows" s_law_rows, mkD "_law_fraction" s_law_fraction, mkD "_law_bent" s_law_bent, mkD "_law_fits" s_law_fits, mkD "_law_beyond" s_law_beyond, mkD "plus" s_plus, mkD "less" s_less, mkD "times" s_times, mkD "over" s_over, mkD "spot_in" s_spot_in]
def fn1 : List He.DefD := [mkD "_law_made" s_law_made, mkD "_law_fair" s_law_fair, mkD "_law_shut_in" s_law_shut_in, mkD "along" s_along, mkD "crossed" s_crossed, mkD "wall_in" s_wall_in, mkD "question_in" s_question_in, mkD "_law_shuts_here" s_law_shuts_here, mkD "_law_odd" s_law_odd, mkD "_law_due" s_law_due, mkD "leaning" s_leaning, mkD "spot_of_lines" s_spot_of_lines, mkD "side_of" s_side_of, mkD "lies_on" s_lies_on, mkD "meeting_in_line" s_meeting_in_line, mkD "meeting" s_meeting, mkD "is_fair" s_is_fair, mkD "unfair_with" s_unfair_with, mkD "put_read" s_put_read, mkD "read_plot" s_read_plot, mkD "read_questions" s_read_questions, mkD "_law_heard" s_law_heard, mkD "law" s_law, mkM "NoText" "__init__" "NoText.__init__" s_NoText_init]
def fn : List He.DefD := fn0 ++ fn1
def fa0 : List He.Fa := [.glo "divisor", .glo "is_less", .glo "is_whole", .glo "rows_in", .glo "_law_cell_at", .glo "_law_take", .glo "_law_low", .glo "_law_turn", .glo "_law_shown", .glo "_law_is_whole", .glo "_law_cross", .glo "_law_before", .glo "_law_alone", .glo "fraction", .glo "is_ahead", .glo "fraction_in", .glo "_law_number", .glo "_law_scale", .glo "_law_spot", .glo "_law_on", .glo "_law_rows", .glo "_law_fraction", .glo "_law_bent", .glo "_law_fits", .glo "_law_beyond", .glo "plus", .glo "less", .glo "times", .glo "over", .glo "spot_in"]
def fa1 : List He.Fa := [.glo "_law_made", .glo "_law_fair", .glo "_law_shut_in", .glo "along", .glo "crossed", .glo "wall_in", .glo "question_in", .glo "_law_shuts_here", .glo "_law_odd", .glo "_law_due", .glo "leaning", .glo "spot_of_lines", .glo "side_of", .glo "lies_on", .glo "meeting_in_line", .glo "meeting", .glo "is_fair", .glo "unfair_with", .glo "put_read", .glo "read_plot", .glo "read_questions", .glo "_law_heard", .glo "law", .free "ValueError", .free "abs", .free "all", .free "enumerate", .free "int", .free "isinstance", .free "len"]
def fa2 : List He.Fa := [.free "list", .free "max", .free "min", .free "range", .free "str", .free "tuple", .str "FIGURES" "0123456789", .int "MOST_FIGURES" 30, .int "MOST_WALLS" 40, .glo "TooMany", .glo "NoWall", .glo "NoText", .glo "NoRow", .glo "NoFraction", .glo "Crossing", .glo "Absent", .glo "SpotError"]
def fa : List He.Fa := fa0 ++ fa1 ++ fa2
abbrev names : List Str := (["SpotError", "NoFraction", "NoWall", "TooMany", "Crossing", "Absent", "NoText", "NoRow", "divisor", "fraction", "plus", "less", "times", "over", "is_less", "is_ahead", "along", "crossed", "leaning", "side_of", "lies_on", "MOST_WALLS", "spot_of_lines", "meeting_in_line", "meeting", "is_fair", "unfair_with", "FIGURES", "MOST_FIGURES", "is_whole"] : List Str) ++ (["fraction_in", "spot_in", "wall_in", "question_in", "rows_in", "put_read", "read_plot", "read_questions", "_law_cell_at", "_law_take", "_law_low", "_law_number", "_law_scale", "_law_spot", "_law_made", "_law_turn", "_law_on", "_law_fair", "_law_shuts_here", "_law_shown", "_law_rows", "_law_is_whole", "_law_fraction", "_law_shut_in", "_law_bent", "_law_cross", "_law_before", "_law_fits", "_law_beyond", "_law_odd"] : List Str) ++ (["_law_alone", "_law_heard", "_law_due"] : List Str)
abbrev R : PySem.W.OpenRow := PySem.W.OpenLaw.row PySem.Challenge.rw_spotlook_k75_wrong_rows_together
abbrev hk : PySem.W.Hook := hookM fa fn [] [] ["SpotError", "NoFraction", "NoWall", "TooMany", "Crossing", "Absent", "NoText", "NoRow"] [] [("NoText", ["row"])] []
def ob (s : PySem.W.SharedT) : AlK × Bool := obsM fa fn [] [] ["SpotError", "NoFraction", "NoWall", "TooMany", "Crossing", "Absent", "NoText", "NoRow"] [] [("NoText", ["row"])] [] (HandSHeadRun.getT s)
theorem ob_eq (s : PySem.W.SharedT) : ob s = hk.obs s.abs := obsM_eq (HandSHeadRun.getT_eq s)
theorem run (w : World) : HandSHeadRun.RunEq R (PySem.W.view R.prog [69]) hk ob 7400 names w := by
  intro os
  kernel_rfl
end
end Lk75
set_option maxRecDepth 100000
/-! # list(range(i, j)); sorted of pairs of numbers, any length, any sign -/
namespace ML
open PySem PySem.Spec L2
open PyProof.Rows hiding St
/-! ### sorted of pairs -/
end ML
set_option maxRecDepth 100000
/-! # a number in range(n) -/
namespace L2
open PySem PySem.Spec PyProof.Rows
end L2
namespace ML
open PySem PySem.Spec L2
open PyProof.Rows hiding St
end ML
set_option maxRecDepth 100000
set_option maxHeartbeats 1000000
/-! # zip of two lists with ONE name as target: the name keeps the pair told last, so each turn makes a new one -/
namespace PySem
open Sem (wp)
end PySem
namespace L2
open PySem PySem.Spec PyProof.Rows
end L2
namespace ML
open PySem PySem.Spec L2
open PyProof.Rows hiding St
end ML
set_option maxRecDepth 100000
/-! # a slice of a tuple, the whole of it too -/
namespace ML
open PySem PySem.Spec L2
end ML
set_option maxRecDepth 100000
/-! # sorted(set(a list of numbers)), any number of them -/
namespace L2
open PySem PySem.Spec PyProof.Rows
end L2
namespace ML
open PySem PySem.Spec L2
end ML
set_option maxRecDepth 100000
set_option maxHeartbeats 4000000
/-! # sorted(.., key=lambda x: ..) of numbers, the lambda's body a field or a captured name, read at two places -/
namespace L2
open PySem PySem.Spec PyProof.Rows
/-! ### reading names, fields, items: nothing of the heap is changed -/
section
variable {P : Program} {w : World} {A : Around} {env : Env} {h : Heap} {K : PySem.W.Frag} {H : Hp}
/-- e is gone through without any change; what comes of it is so -/
def Pu (P : Program) (w : World) (A : Around) (env : Env) (h : Heap) (e : Expr) (R : Value → Prop) : Prop :=
  ∀ (s : Shared) (Q E : Value → Shared → Prop), s.heap = h → (∀ u tk, R u → Q u { s with toks := tk }) → wpAny (model P w) A (eval e env) Q E s
end
/-! ### sorted(x, key=f) -/
/-! ### the lambda's names and its body -/
/-- a key that can be read: a number, a pair of numbers -/
def KeyV (K : PySem.W.Frag) (H : Hp) (z : V) (d : PyData) : Prop := (∃ i, z = .int i ∧ d = .int i) ∨ ∃ t i j, z = .ref t ∧ SqT K H t [.int i, .int j] ∧ d = .tuple [.int i, .int j]
/-- b[n][0] reads as d -/
structure KeyB (K : PySem.W.Frag) (H : Hp) (b : V) (n : Int) (d : PyData) : Prop where
  ex : ∃ (p r : Addr) (xs ys : List V) (i : Nat) (z : V), b = .ref p ∧ n = (i : Int) ∧ (SqL K H p xs ∨ SqT K H p xs) ∧ xs[i]? = some (.ref r) ∧ (SqL K H r ys ∨ SqT K H r ys) ∧ ys[0]? = some z ∧ KeyV K H z d
/-- what stands at the slot's field, or in the slot -/
def BaseV (K : PySem.W.Frag) (H : Hp) (σ : St) (iy : Nat) (fld : Option (Str × Pos)) (b : V) : Prop := match fld with
  | none => σ[iy]? = some (some b)
  | some (f, _) => ∃ a C dx fs, σ[iy]? = some (some (.ref a)) ∧ H a = some (.ins C dx fs) ∧ Cls K C ∧ NoAttr K C f ∧ fs.lookup f = some b
section
variable {P : Program} {w : World} {A : Around} {env : Env} {h : Heap} {K : PySem.W.Frag} {H H' : Hp}
open LamX (ExtN)
theorem extN_rd (e : ExtN H H') {a : Addr} {u : HO} (n : ∀ ps, u ≠ .tbl ps) (r : Rd H a u) : Rd H' a u := by
  rcases r with r | ⟨o, r⟩
  · exact .inl (e _ _ r n)
  · exact .inr ⟨o, e _ _ r (fun ps z => by cases z)⟩
theorem extN_l (e : ExtN H H') {a : Addr} {xs : List V} (r : SqL K H a xs) : SqL K H' a xs := r.elim (fun r => .inl (extN_rd e (fun ps z => by cases z) r)) .inr
theorem extN_t (e : ExtN H H') {a : Addr} {xs : List V} (r : SqT K H a xs) : SqT K H' a xs := r.elim (fun r => .inl (extN_rd e (fun ps z => by cases z) r)) .inr
theorem KeyV.ext (e : ExtN H H') {z : V} {d : PyData} (h : KeyV K H z d) : KeyV K H' z d := h.imp id fun ⟨t, i, j, a, b, c⟩ => ⟨t, i, j, a, extN_t e b, c⟩
theorem KeyB.ext (e : ExtN H H') {b : V} {n : Int} {d : PyData} (h : KeyB K H b n d) : KeyB K H' b n d := by
  obtain ⟨p, r, xs, ys, i, z, h1, h2, h3, h4, h5, h6, h7⟩ := h.ex
  exact ⟨p, r, xs, ys, i, z, h1, h2, h3.imp (extN_l e) (extN_t e), h4, h5.imp (extN_l e) (extN_t e), h6, h7.ext e⟩
theorem BaseV.ext (e : ExtN H H') {σ : St} {iy : Nat} {fld : Option (Str × Pos)} {b : V} (h : BaseV K H σ iy fld b) : BaseV K H' σ iy fld b := by
  unfold BaseV at *
  split at h
  · exact h
  · obtain ⟨a, C, dx, fs, h1, h2, h3⟩ := h
    exact ⟨a, C, dx, fs, h1, e _ _ h2 (fun ps z => by cases z), h3⟩
theorem Pu.mono {e : Expr} {R R' : Value → Prop} (p : Pu P w A env h e R) (k : ∀ u, R u → R' u) : Pu P w A env h e R' := fun s Q E e2 q => p s Q E e2 fun u tk r => q u tk (k u r)
end
section
variable {X : Cx} {e : Expr} {params : Arguments} {body : Expr} {scope : Scope} {c Pt : Addr} {x y : Str} {iy k : Nat} {fld : Option (Str × Pos)}
open LamX (ExtN TabB CodeO)
open ML (TabG)
/-- all but the table at P is kept -/
def ExtP (P : Addr) (H H' : Hp) : Prop := ∀ b o, b ≠ P → H b = some o → H' b = some o
theorem ExtP.n {P : Addr} {q : Str} {G : Addr → Prop} {H H' : Hp} (e : ExtP P H H') (t : TabG H P q G) : ExtN H H' := fun b o h n => e b o (fun z => by
  obtain ⟨ps, hp, _⟩ := t
  rw [z, hp] at h
  exact n ps (Option.some.inj h).symm) h
variable {te : TE} {p pos lpos kp py px pc p1 p2 : Pos} {j : Nat}
end
end L2
namespace ML
open PySem PySem.Spec L2
open PyProof.Rows hiding St
/-! ### the same over the store -/
end ML
set_option maxRecDepth 100000
set_option maxHeartbeats 2000000
/-! # defs in which a lambda is made; a law's end with the tables of such defs -/
namespace ML
open PySem PySem.Spec L2
open PyProof.Rows hiding St
end ML
set_option maxRecDepth 100000
set_option maxHeartbeats 2000000
/-! # max(.., default=..) of numbers; reversed(..) gone along; len of a dict -/
namespace ML
open PySem PySem.Spec L2
open PyProof.Rows hiding St
end ML
set_option maxRecDepth 100000
set_option maxHeartbeats 2000000
/-! # exceptions with fields -/
namespace PySem.W
open PySem PySem.Spec PySem.Calls PyProof.Rows
section
variable {prog : Program} {w : World} {A : Around} {E : Value → Shared → Prop} {s : Shared} {K : Frag} {x D : Addr} {ox : Obj} {od : Option Obj}
theorem findObj_dataX {C : Addr} {name : Str} {a g : Value} (hc : (clsIn K C).isSome = true) (ha : findIn K (.ref C) name = some (some a)) (hg : specialIn K a "__get__" = some (some g)) (ht : takesIn K a = some true) : findObj K C od name = some (.bind g a) := by
  obtain ⟨cd, hc⟩ := Option.isSome_iff_exists.mp hc
  unfold findObj
  rw [hc, Option.bind_some, ha, Option.bind_some]
  simp [hg, ht]
/-- the class of an own exception, with a dict or without one -/
theorem kin_classX {Q : Option Value → Shared → Prop} (hga : findIn K (.ref D) "__getattribute__" = some (some (.builtin "BaseException.__getattribute__"))) (hgt : findIn K (.ref D) "__getattr__" = some none) (hsub : subIn K (.ref D) (.type "BaseException") = some true)
    (hdct : hasDictIn K D = true) (ha : findIn K (.ref D) "__class__" = some (some (.builtin "object.__class__")))
    (hn : specialIn K (.builtin "object.__class__") "__get__" = some (some (.builtin "getset_descriptor.__get__"))) (htk : takesIn K (.builtin "object.__class__") = some true) (hm : mroIn K D (.type "object") = some true)
    (X : K.In s.heap) (I : InstAt s.heap x ox D od) (h : Q (some (.ref D)) { s with toks := s.toks + 1 }) : wpAny (model prog w) A (getAttr? (.ref x) "__class__") Q E s := by
  have hf : findObj K D od "__class__" = some (.bind (.builtin "getset_descriptor.__get__") (.builtin "object.__class__")) := findObj_dataX (by obtain ⟨cd, hc, _⟩ := any_some hdct; rw [hc]; rfl) ha hn htk
  obtain ⟨hp, g, d, t, os⟩ := s
  have L0 := I.type (M := model prog w)
  have L1 := looks_findIn (M := model prog w) X hga
  have L2 := looks_findIn (M := model prog w) X hgt
  have L3 := looks_find (M := model prog w) X I hf
  have sub : Looks (model prog w) hp (isInstance (.ref x) (.type "BaseException")) true := L0.andThen (looks_subIn X hsub)
  have hx2 : (Value.builtin "BaseException.__getattribute__" == Value.builtin "object.__getattribute__") = false := by decide +kernel
  have hx1 : (onTheHeap (Value.ref D) && Value.builtin "BaseException.__getattribute__" == Value.builtin "object.__getattribute__") = false := by rw [hx2]; rfl
  unfold getAttr? getAttrBy? getAttrBy
  refine wpAny_bind (wpAny_mkText (wpAny_bind (wpAny_attempt (wpAny_holding (wpAny_bind (L0.at (wpAny_bind (L1.at ?_))))))))
  show wpAny _ _ (if (onTheHeap (Value.ref D) && Value.builtin "BaseException.__getattribute__" == Value.builtin "object.__getattribute__") = true then _ else _) _ _ _
  rw [hx1, if_neg Bool.false_ne_true]
  unfold getAttrByItsOwn hookBefore
  refine wpAny_bind ?_
  rw [if_pos (show onTheHeap (Value.ref D) = true from rfl)]
  refine L2.at (wpAny_bind (wpAny_attempt (wpAny_holding ?_)))
  unfold callGetattribute
  rw [show (false && onTheHeap (Value.builtin "BaseException.__getattribute__")) = false from rfl, if_neg Bool.false_ne_true]
  unfold boundAndCalled
  rw [PySem.F.excAttr_ValueError.ga.bind (.ref x)]
  refine wpAny_bind (wpAny_pure ?_)
  show wpAny _ _ (call (.builtin "BaseException.__getattribute__") [.ref x, .str "__class__" t]) _ _ _
  refine wpAny_call (codeAny_call_builtin PySem.F.excAttr_ValueError.ga.plain PySem.F.entry_bexc_ga ?_)
  refine @check_slot (model prog w) _ _ ⟨hp, g, d, t + 1, os⟩ "BaseException.__getattribute__" "BaseException" "__getattribute__" (.ref x) [.str "__class__" t] [] _ (by decide +kernel) (by decide +kernel) sub (PySem.F.args_bexc_ga (.ref x) (.str "__class__" t)) ?_
  unfold Builtin.«object.__getattribute__»
  refine wpAny_bind (wpAny_of_eq (a := ((Value.ref x : Value), [Value.str "__class__" t])) (by first | rfl | (simp only [slotArgs]; rfl)) ?_)
  refine wpAny_bind (wpAny_pure (wpAny_bind (L0.at (wpAny_bind (L3.at ?_)))))
  show wpAny _ _ (holding [Value.builtin "object.__class__"] (call (.builtin "getset_descriptor.__get__") [.builtin "object.__class__", .ref x, .ref D]) >>= ret) _ _ _
  refine wpAny_bind (wpAny_holding (wpAny_call (class_get (s := ⟨hp, g, d, t + 1, os⟩) (ox := ox) (od := od) X I hm (wpAny_pure ?_))))
  show wpAny _ _ (handedOut (.ref D)) _ _ _
  rw [handedOut_of (v := .ref D) rfl]
  first
    | exact wpAny_pure (wpAny_pure h)
    | exact wpAny_pure h
    | exact wpAny_pure (wpAny_bind (wpAny_pure (wpAny_pure h)))
theorem kitx_excX (hga : findIn K (.ref D) "__getattribute__" = some (some (.builtin "BaseException.__getattribute__"))) (hgt : findIn K (.ref D) "__getattr__" = some none) (hsub : subIn K (.ref D) (.type "BaseException") = some true) (hdct : hasDictIn K D = true) (ha : findIn K (.ref D) "__class__" = some (some (.builtin "object.__class__")))
    (hn : specialIn K (.builtin "object.__class__") "__get__" = some (some (.builtin "getset_descriptor.__get__"))) (htk : takesIn K (.builtin "object.__class__") = some true) (hm : mroIn K D (.type "object") = some true) :
    KitX K (.ref x) (.ref D) (fun h => InstAt h x ox D od) where
  ty := fun _ _ _ I => I.type
  it := fun _ _ X _ => by
    obtain ⟨cdD, hcD, _⟩ := any_some hdct
    unfold clsIn at hcD
    split at hcD
    · rename_i c' d' cd' sl' ho
      intro A' Q' E' s' k q
      unfold isType loadHead
      exact wpAny_bind (wpAny_loadPart (k _ _ (X _ _ ho)) (wpAny_pure q))
    · cases hcD
  ne := fun h tp dd its n sl X htp => by
    obtain ⟨cdD, hcD, _⟩ := any_some hdct
    refine Bool.eq_false_iff.mpr fun q => ?_
    have e : D = tp := Value.ref.inj (beq_iff_eq.mp q)
    subst e
    unfold clsIn at hcD
    split at hcD
    · rename_i c' d' cd' sl' ho
      have z := (X _ _ ho).symm.trans htp
      cases z
    · cases hcD
  ca := fun X I k => kin_classX hga hgt hsub hdct ha hn htk hm X I k
end
end PySem.W
namespace L2
open PySem PySem.Spec PyProof.Rows
/-- a kept exception, as an object of its class -/
theorem exs_inst {X : Cx} {pins : List (Addr × Obj)} {σ : St} {H : Hp} {s : Shared} {a C : Addr} {d : Option Addr} (I : Inv X pins σ H s) (ha : H a = some (ML.ExS (.ref C) d a)) (hd : ∀ dd, d = some dd → ∃ fs, H dd = some (.xd fs)) :
    ∃ oe od, PySem.W.InstAt s.heap a oe C od ∧ ∀ dd fs, d = some dd → H dd = some (.xd fs) → ∃ (o : Obj) (mA : Str → Option Value), od = some o ∧ (∀ n, PySem.W.lookIn n o = some (mA n)) ∧ ∀ f, RelO (fs.lookup f) (mA f) := by
  have hx : ObjOk X.prog X.w H s.heap a (ML.ExS (.ref C) d a) := I.hok a _ ha
  obtain ⟨⟨oe, vs, hget, hz, hv⟩, _, _⟩ := hx
  cases d with
  | none =>
    refine ⟨oe, none, ⟨hget, hz.1, by unfold PySem.W.notCls; rw [hv] <;> rfl, ?_⟩, fun _ _ z => nomatch z⟩
    rw [hz.2]; trivial
  | some dd =>
    obtain ⟨fs, hfs⟩ := hd dd rfl
    have hx : ObjOk X.prog X.w H s.heap dd (.xd fs) := I.hok dd _ hfs
    obtain ⟨mA, hns, hr⟩ := hx
    obtain ⟨od, ho, hl⟩ := lookIn_ns hns
    refine ⟨oe, some od, ⟨hget, hz.1, by unfold PySem.W.notCls; rw [hv] <;> rfl, by rw [hz.2]; exact ho⟩, fun dd' fs' e1 e2 => ?_⟩
    cases e1
    rw [hfs] at e2
    cases e2
    exact ⟨od, mA, rfl, hl, hr⟩
/-- isinstance of a kept exception, with fields or without -/
def rIsX (K : PySem.W.Frag) : List V → Hp → VK → Prop := fun xs H Q => ∃ (a C : Addr) (d : Option Addr) (c : V) (cv : Value) (b : Bool), xs = [.ref a, c] ∧ H a = some (ML.ExS (.ref C) d a) ∧ (∀ dd, d = some dd → ∃ fs, H dd = some (.xd fs)) ∧ ExcC K C ∧ (∀ u, RelV c u → u = cv) ∧ PySem.W.kitOne K (.ref C) cv = some b ∧ Q (.bl b) H
theorem call_isX {X : Cx} : CallR X (.builtin "isinstance") (rIsX X.K) := by
  intro pins s σ H xs us Q I r h
  obtain ⟨a, D, d, c, cv, b, rfl, ha, hd, C, hcv, e, q⟩ := h
  cases r with
  | cons rx rr =>
    cases rr with
    | cons rt rr =>
      cases rr
      cases rx
      have ec := hcv _ rt
      subst ec
      obtain ⟨oe, od, J, _⟩ := exs_inst I ha hd
      exact PySem.W.kia_one (PySem.W.kitx_excX C.hg C.hk C.hs C.hd C.ha C.hn C.ht C.hm) I.kIn J e (fun z => nomatch z) fun tk => ⟨.bl b, H, I.kept (t' := tk) fun _ _ z => z, rfl, q⟩
/-- e.f of a kept exception -/
def tXk (K : PySem.W.Frag) (f : Str) (te : TE) : TE := fun σ H Q => te σ H fun x H1 => ∃ (a C dd : Addr) (fs : List (Str × V)) (v : V), x = .ref a ∧ XfC K C ∧ PySem.W.findIn K (.ref C) f = some none ∧ H1 a = some (ML.ExS (.ref C) (some dd) a) ∧ H1 dd = some (.xd fs) ∧ fs.lookup f = some v ∧ Q v H1
theorem pe_xk {X : Cx} {e : Expr} {te : TE} {pos : Pos} {n : Str} (he : PE X e te) (hb : attributeBase e n X.env (eval e X.env) = eval e X.env := by rfl) : PE X (.Attribute e n pos) (tXk X.K n te) := by
  refine ⟨fun pins s σ H Q I h => ?_⟩
  refine attr_of hb (thn (he.run pins s σ H _ I h) fun u s1 hh => ?_)
  obtain ⟨x, H1, I1, rx, a, C, dd, fs, v, ex, T, hno, ea, ed, l, q⟩ := hh
  subst ex
  obtain rfl : u = Value.ref a := rx
  obtain ⟨oe, od, J, hl⟩ := exs_inst I1 ea fun _ z => by cases z; exact ⟨fs, ed⟩
  obtain ⟨o, mA, rfl, hlk, hr⟩ := hl dd fs rfl ed
  obtain ⟨u, hu, ru⟩ := RelO.some_of (v := v) (o := mA n) (by rw [← l]; exact hr n)
  exact HandSPX.exc_get I1.kIn J T.ga T.gg T.exC (PySem.W.findObj_own T.hdC hno rfl (by rw [hlk, hu])) (handed_of ru) ⟨v, H1, I1.tok _, ru, q⟩
/-! ### __init__ of an own exception, which puts its fields one behind the other -/
def flds {α : Type} (fs : List Str) (ys : List α) : List (Str × α) := (fs.zip ys).reverse
def spX (C : Addr) (fs : List Str) : Sp := fun vs H Q _ => ∃ (a : Addr) (ys : List V), vs = .ref a :: ys ∧ ys.length = fs.length ∧ H a = some (exo a C none) ∧
  ∀ H2 d, H d = none → d ≠ a → H2 a = some (exo a C (some d)) → H2 d = some (exd d (flds fs ys)) → (∀ b, b ≠ a → b ≠ d → H2 b = H b) → Q .non H2
theorem fn_xi1 {P : Program} {w : World} {K : PySem.W.Frag} {mg : Str → Option Value} {base : Heap} {x qual : Str} {st : Stmt} {f C : Addr} {fd : FuncData} {u v g : Str} {k : Nat}
    (F : FunD K x qual (defArgs st) (defBody st) (defScope st) [] [] f fd) (S : FnScope [u, v] [u, v] (defScope st)) (T : OexC K C) (hno : PySem.W.findIn K (.ref C) g = some none)
    (hbody : ∀ (cdv : Value) (A : Around) (outer : List Env) (s : Shared) (H : Hp) (E : XK), PSs (ML.cxM P w K mg base [u, v] qual st f cdv A outer s H E) (defBody st) (tOst K g (tVar 0) (tVar 1))) :
    FnOk P w K mg base (L2.CX P w) (k + 1) f fd [u, v] (spX C [g]) := by
  refine F.ok S (fun vs H Q E ⟨a, ys, e, l, _⟩ => by rw [e, List.length_cons, l]; rfl) fun cdv A outer s H vs Q E hr hsp => ?_
  refine ⟨_, hbody cdv A outer s H E, ?_⟩
  obtain ⟨a, ys, rfl, hl, ha, k⟩ := hsp
  match ys, hl with
  | [y], _ =>
    refine ⟨y, rfl, .ref a, rfl, a, C, rfl, T, hno, .inl ⟨ha, fun dx hdx ne => k _ dx hdx ne upd_same ?_ fun b h1 h2 => ?_⟩⟩
    · rw [upd_ne ne, upd_same]; rfl
    · rw [upd_ne h1, upd_ne h2]
end L2
namespace ML
open PySem PySem.Spec L2
open PyProof.Rows hiding St
/-- an own exception with fields may be made -/
structure HasX (P : Program) (w : World) (K : PySem.W.Frag) (mg : Str → Option Value) (base : Heap) (C : Str) (k : Nat) (fs : List Str) : Prop where
  ex : ∃ f fd ps, mg C = some (.ref (He.ga K C)) ∧ OexC K (He.ga K C) ∧ PySem.W.findIn K (.ref (He.ga K C)) "__init__" = some (some (.ref f)) ∧ PySem.W.typeIn K (.ref f) = some (.type "function") ∧ Binds K fd ps [] ∧ FnOk P w K mg base (L2.CX P w) k f fd ps (spX (He.ga K C) fs)
theorem HasX.mono {P : Program} {w : World} {K : PySem.W.Frag} {mg : Str → Option Value} {base : Heap} {C : Str} {j k : Nat} {fs : List Str} (h : HasX P w K mg base C j fs) (l : j ≤ k) : HasX P w K mg base C k fs :=
  let ⟨f, fd, ps, a, b, c, d, e, g⟩ := h.ex
  ⟨f, fd, ps, a, b, c, d, e, g.mono l⟩
theorem rds_flds {K : PySem.W.Frag} {H : Hp} {S : Sto} : ∀ {fs : List Str} {vs : List V} {ds : List D}, RDs K H S vs ds → RKs K H S (fs.zip vs) (fs.zip ds)
  | [], _, _, _ => .nil
  | _ :: _, _, _, .nil => .nil
  | _ :: _, _, _, .cons r rr => .cons r (rds_flds rr)
theorem RKs.app {K : PySem.W.Frag} {H : Hp} {S : Sto} : ∀ {xs : List (Str × V)} {ds : List (Str × D)} {ys : List (Str × V)} {es : List (Str × D)}, RKs K H S xs ds → RKs K H S ys es → RKs K H S (xs ++ ys) (ds ++ es)
  | _, _, _, _, .nil, h => h
  | _, _, _, _, .cons r rr, h => .cons r (RKs.app rr h)
theorem RKs.rev {K : PySem.W.Frag} {H : Hp} {S : Sto} : ∀ {xs : List (Str × V)} {ds : List (Str × D)}, RKs K H S xs ds → RKs K H S xs.reverse ds.reverse
  | _, _, .nil => .nil
  | _, _, .cons r rr => by
    rw [List.reverse_cons, List.reverse_cons]
    exact RKs.app (RKs.rev rr) (.cons r .nil)
/-- raise C(e, ..) -/
def mRaiseF (C : Str) (fs : List Str) (t : MA) : MS := fun De σ S => t σ S (fun ds S1 => ds.length = fs.length ∧ ds.length ≤ 1000 ∧ De.ex ⟨C, some (flds fs ds)⟩ σ S1) (xAt De σ)
section
variable {X : Cx} {W : WX} {e : Expr} {es : List Expr} {pos : Pos} {mas : MA} {m : ME}
theorem sraiseF {C : Str} {k : Nat} {fs : List Str} {p pos' : Pos} (hx : HasX X.prog X.w X.K X.mg X.base C k fs) (hr : Room (k + 1) X.A) (hc : X.calm = true) (tk : Takes X W) (ha : PA X (e :: es) (upA X.K W mas)) (hg : Gl X C := by rfl)
    (hdb : (C == ("__debug__" : Str)) = false := by decide) (he : starEach (e :: es) X.env = (false, eval e X.env) :: starEach es X.env := by rfl) (hpl : (backTo pos (starEach es X.env)).any (·.1) = false := by rfl) :
    PS X (.Raise (some (.Call (.Name C p) (e :: es) [] pos)) none pos') (upS X.K W (mRaiseF C fs mas)) := by
  obtain ⟨f, fd, ps, hm, T, iC, tI, hb, G⟩ := hx.ex
  refine L2.PS.to (ps_raise hc tk (pmk_oex T iC tI G hr hb .nil (passNo rfl rfl) hg hm ha hdb he hpl)) fun D σ H ⟨m, S, Dm, h1, h2, h3, h4⟩ => ?_
  refine ⟨m, S, _, _, h1, h2, h3, fun ds S1 vs H1 q1 e1 s1 r1 => ?_, xAt_ref h1 h4.ex⟩
  obtain ⟨hl, hz, q⟩ := q1
  have lv := r1.length
  refine ⟨by omega, fun a ha => ?_⟩
  rw [List.append_nil]
  refine ⟨a, vs, rfl, by omega, upd_same, fun H2 d hd ne e2 e3 e4 => ⟨rfl, d, flds fs vs, e2, e3, by rw [upd_ne ne] at hd; exact hd, ?_⟩⟩
  have hd1 : H1 d = none := by rw [upd_ne ne] at hd; exact hd
  have eH : upd (L2.del H2 a) d (.xd (flds fs vs)) = upd H1 d (.xd (flds fs vs)) := by
    funext b
    by_cases h : b = d
    · rw [h, upd_same, upd_same]
    · rw [upd_ne h, upd_ne h]
      by_cases h' : b = a
      · rw [h', L2.del_same, ha]
      · rw [L2.del_ne h', e4 b h' h, upd_ne h']
  rw [eH]
  have E1 := Ext.new (u := .xd (flds fs vs)) s1 hd1
  refine h4.ex ⟨C, some (flds fs ds)⟩ m S1 _ (some d) σ _ q (e1.trans E1) (s1.new hd1) (h1.ext (e1.trans E1)) ⟨rfl, d, flds fs vs, rfl, upd_same, s1.fresh hd1, ?_⟩
  exact (RKs.rev (rds_flds r1)).ext E1
/-- C(e, ..).f -/
def mMkF (C : Str) (fs : List Str) (f : Str) (t : MA) : ME := fun σ S Q E => t σ S (fun ds S1 => (ds.length = fs.length ∧ ds.length ≤ 1000) ∧ optP ((flds fs ds).lookup f) fun v => Q v S1) E
/-- which exception is kept there, and its fields -/
def excX : Option MO → Option (Str × Option (List (Str × D)))
  | some (.exc C fs) => some (C, fs)
  | _ => none
def exDX (S : Sto) : D → Option (Str × Option (List (Str × D)))
  | .ref p => excX (S p)
  | _ => none
theorem exDX_at {S : Sto} {d : D} {x : Str × Option (List (Str × D))} (h : exDX S d = some x) : ∃ p, d = .ref p ∧ S p = some (.exc x.1 x.2) := by
  cases d with
  | ref p =>
    refine ⟨p, rfl, ?_⟩
    have h' : excX (S p) = some x := h
    cases e : S p with
    | none => rw [e] at h'; cases h'
    | some o =>
      rw [e] at h'
      cases o with
      | exc C' fs => cases h'; rfl
      | _ => cases h'
  | _ => cases h
/-- what is held of a kept exception -/
theorem exc_held {K : PySem.W.Frag} {H : Hp} {S : Sto} {a : Addr} {C : Str} {fs : Option (List (Str × D))} (s : RSto K H S) (h : S a = some (.exc C fs)) : ∃ d, H a = some (ExS (.ref (He.ga K C)) d a) ∧ (∀ dd, d = some dd → ∃ vs, H dd = some (.xd vs)) ∧
    ∀ gs, fs = some gs → ∃ dd vs, d = some dd ∧ H dd = some (.xd vs) ∧ RKs K H S vs gs := by
  obtain ⟨d, e1, _, e2⟩ := s a _ h
  refine ⟨d, e1, ?_⟩
  cases fs with
  | none =>
    have e2 : d = none := e2
    subst e2
    exact ⟨(fun _ z => nomatch z), fun _ z => nomatch z⟩
  | some gs =>
    obtain ⟨dd, vs, e3, e4, e5, e6⟩ := e2
    subst e3
    exact ⟨fun _ z => by cases z; exact ⟨vs, e4⟩, fun _ z => by cases z; exact ⟨dd, vs, rfl, e4, e6⟩⟩
/-- isinstance of a kept exception, with fields or without -/
def mIsX (ns : List Str) (x : Str) (m : ME) : ME := fun σ S Q E => m σ S (fun d S1 => optP (exDX S1 d) fun y => y.1 ∈ ns ∧ Q (.bl (subE y.1 x)) S1) E
theorem eisx {ns : List Str} {a : Expr} {x : Str} {p px : Pos} (T : ExcT X.K ns) (hm : X.mg "isinstance" = none) (hx : X.mg x = some (.ref (He.ga X.K x))) (hin : x ∈ ns) (ha : PE X a (upE X.K W m)) (hg : Gl X "isinstance" := by rfl) (hgu : Gl X x := by rfl) (hdb : (x == ("__debug__" : Str)) = false := by decide)
    (hs : starEach (a :: [.Name x px]) X.env = (false, eval a X.env) :: starEach [.Name x px] X.env := by rfl) (hs2 : starEach (.Name x px :: []) X.env = (false, eval (.Name x px) X.env) :: starEach [] X.env := by rfl) (hpl : (backTo pos (starEach [.Name x px] X.env)).any (·.1) = false := by rfl) :
    PE X (.Call (.Name "isinstance" p) [a, .Name x px] [] pos) (upE X.K W (mIsX ns x m)) :=
  (pe_callB call_isX hg hm (by decide +kernel) (pa_cons ha (pa_cons (pe_glob (v := .ref (He.ga X.K x)) hgu hx rfl hdb) pa_nil hs2) hs) (by decide) (by decide) hs hpl).to fun σ H Q ⟨m, S, Qm, Em, h1, h2, h3, h4, h5⟩ =>
    ⟨m, S, _, Em, h1, h2, h3, fun d S1 v H1 q e s r => by
      dsimp only at q
      cases hd : exDX S1 d with
      | none => rw [hd] at q; exact q.elim
      | some y =>
      rw [hd] at q
      obtain ⟨hC, q⟩ : y.1 ∈ ns ∧ Qm (.bl (subE y.1 x)) S1 := q
      obtain ⟨p, rfl, hp⟩ := exDX_at hd
      cases r
      obtain ⟨dd, e1, e2, _⟩ := exc_held s hp
      exact ⟨p, He.ga X.K y.1, dd, .ref (He.ga X.K x), .ref (He.ga X.K x), subE y.1 x, rfl, e1, e2, T.c _ hC, fun _ z => z, T.k _ hC x hin, h4 _ S1 _ H1 q e s (.bl _)⟩, h5⟩
/-- .. by ValueError -/
def mIsXV (ns : List Str) (m : ME) : ME := fun σ S Q E => m σ S (fun d S1 => optP (exDX S1 d) fun y => y.1 ∈ ns ∧ Q (.bl true) S1) E
theorem eisxv {ns : List Str} {a : Expr} {p px : Pos} (T : ExcT X.K ns) (hm : X.mg "isinstance" = none) (hx : X.mg "ValueError" = none) (ha : PE X a (upE X.K W m)) (hg : Gl X "isinstance" := by rfl) (hgu : Gl X "ValueError" := by rfl)
    (hs : starEach (a :: [.Name "ValueError" px]) X.env = (false, eval a X.env) :: starEach [.Name "ValueError" px] X.env := by rfl) (hs2 : starEach (.Name "ValueError" px :: []) X.env = (false, eval (.Name "ValueError" px) X.env) :: starEach [] X.env := by rfl) (hpl : (backTo pos (starEach [.Name "ValueError" px] X.env)).any (·.1) = false := by rfl) :
    PE X (.Call (.Name "isinstance" p) [a, .Name "ValueError" px] [] pos) (upE X.K W (mIsXV ns m)) :=
  (pe_callB call_isX hg hm (by decide +kernel) (pa_cons ha (pa_cons (pe_bltn (v := .ty "ValueError") hgu hx (by decide +kernel) rfl (by decide) (by decide)) pa_nil hs2) hs) (by decide) (by decide) hs hpl).to fun σ H Q ⟨m, S, Qm, Em, h1, h2, h3, h4, h5⟩ =>
    ⟨m, S, _, Em, h1, h2, h3, fun d S1 v H1 q e s r => by
      dsimp only at q
      cases hd : exDX S1 d with
      | none => rw [hd] at q; exact q.elim
      | some y =>
      rw [hd] at q
      obtain ⟨hC, q⟩ : y.1 ∈ ns ∧ Qm (.bl true) S1 := q
      obtain ⟨p, rfl, hp⟩ := exDX_at hd
      cases r
      obtain ⟨dd, e1, e2, _⟩ := exc_held s hp
      exact ⟨p, He.ga X.K y.1, dd, .ty "ValueError", .type "ValueError", true, rfl, e1, e2, T.c _ hC, fun _ z => z, T.v _ hC, h4 _ S1 _ H1 q e s (.bl _)⟩, h5⟩
/-- .. by a tuple of own classes -/
def mIsT (ns xs : List Str) (m : ME) : ME := fun σ S Q E => m σ S (fun d S1 => optP (exDX S1 d) fun y => y.1 ∈ ns ∧ Q (.bl (xs.any (subE y.1))) S1) E
/-- e.f of a kept exception -/
def mXf (ns : List Str) (f : Str) (m : ME) : ME := fun σ S Q E => m σ S (fun d S1 => optP (exDX S1 d) fun y => y.1 ∈ ns ∧ optP y.2 fun gs => optP (gs.lookup f) fun v => Q v S1) E
theorem exf {ns : List Str} {e : Expr} {f : Str} (T : ∀ C ∈ ns, XfC X.K (He.ga X.K C) ∧ PySem.W.findIn X.K (.ref (He.ga X.K C)) f = some none) (he : PE X e (upE X.K W m)) (hb : attributeBase e f X.env (eval e X.env) = eval e X.env := by rfl) : PE X (.Attribute e f pos) (upE X.K W (mXf ns f m)) :=
  (pe_xk he hb).to fun σ H Q ⟨m, S, Qm, Em, h1, h2, h3, h4, h5⟩ => ⟨m, S, _, Em, h1, h2, h3, fun d S1 v H1 q e s r => by
    dsimp only at q
    cases hd : exDX S1 d with
    | none => rw [hd] at q; exact q.elim
    | some y =>
    rw [hd] at q
    obtain ⟨hC, q⟩ : y.1 ∈ ns ∧ optP y.2 fun gs => optP (gs.lookup f) fun v => Qm v S1 := q
    obtain ⟨p, rfl, hp⟩ := exDX_at hd
    cases r
    obtain ⟨d, e1, _, e3⟩ := exc_held s hp
    cases hy : y.2 with
    | none => rw [hy] at q; exact q.elim
    | some gs =>
    rw [hy] at q
    have q : optP (gs.lookup f) fun v => Qm v S1 := q
    cases hl : gs.lookup f with
    | none => rw [hl] at q; exact q.elim
    | some g =>
    rw [hl] at q
    obtain ⟨dd, vs, e4, e5, e6⟩ := e3 gs hy
    subst e4
    obtain ⟨v, ev, rv⟩ := RKs.look e6 hl
    obtain ⟨t1, t2⟩ := T _ hC
    exact ⟨p, _, dd, vs, v, rfl, t1, t2, e1, e5, ev, h4 g S1 v H1 q e s rv⟩, h5⟩
end
section
variable {σ : MSt} {S : Sto} {Q : MQ} {E : MXQ} {m : ME} {t : MA} {De : MEnds} {ns xs : List Str} {x C f : Str} {fs : List Str}
theorem exDX_ref {p : Addr} : exDX S (.ref p) = excX (S p) := Eq.trans rfl rfl
theorem excX_exc {gs : Option (List (Str × D))} : excX (some (.exc C gs)) = some (C, gs) := Eq.trans rfl rfl
theorem l_mRaiseF : mRaiseF C fs t De σ S = t σ S (fun ds S1 => (ds.length = fs.length ∧ ds.length ≤ 1000) ∧ De.ex ⟨C, some (flds fs ds)⟩ σ S1) (xAt De σ) := by
  unfold mRaiseF
  simp only [and_assoc]
theorem l_mIsX : mIsX ns x m σ S Q E = m σ S (fun d S1 => optP (exDX S1 d) fun y => y.1 ∈ ns ∧ Q (.bl (subE y.1 x)) S1) E := Eq.trans rfl rfl
theorem l_mIsXV : mIsXV ns m σ S Q E = m σ S (fun d S1 => optP (exDX S1 d) fun y => y.1 ∈ ns ∧ Q (.bl true) S1) E := Eq.trans rfl rfl
theorem l_mIsT : mIsT ns xs m σ S Q E = m σ S (fun d S1 => optP (exDX S1 d) fun y => y.1 ∈ ns ∧ Q (.bl (xs.any (subE y.1))) S1) E := Eq.trans rfl rfl
theorem l_mXf : mXf ns f m σ S Q E = m σ S (fun d S1 => optP (exDX S1 d) fun y => y.1 ∈ ns ∧ optP y.2 fun gs => optP (gs.lookup f) fun v => Q v S1) E := Eq.trans rfl rfl
theorem l_mMkF : mMkF C fs f t σ S Q E = t σ S (fun ds S1 => (ds.length = fs.length ∧ ds.length ≤ 1000) ∧ optP ((flds fs ds).lookup f) fun v => Q v S1) E := Eq.trans rfl rfl
theorem flds1 {d : D} : flds [f] [d] = [(f, d)] := rfl
theorem flds2 {g : Str} {d e : D} : flds [f, g] [d, e] = [(g, e), (f, d)] := rfl
end
end ML
set_option maxRecDepth 100000
set_option maxHeartbeats 1000000
/-! # texts: str(n), int(text), f'..', split, partition, join, slices, signs -/
namespace ML
open PySem PySem.Spec L2
open PyProof.Rows hiding St
def strI (i : Int) : Str := Str.ofString (toString i)
section
variable {X : Cx} {W : WX} {o e f a b : Expr} {es : List Expr} {pos p apos cpos : Pos} {m mo mi ma mb : ME}
/-- str(n) -/
def bStrI : List D → Sto → MQ → Prop := fun ds S Q => match ds with
  | [.int i] => i.natAbs.log2 < 1920 ∧ Q (.str (strI i)) S
  | _ => False
theorem cl_strI : CaL X.K (fun xs H Q => ∃ i, xs = [.int i] ∧ i.natAbs.log2 < 1920 ∧ Q (.str (toString i)) H) bStrI := by
  intro H S xs ds Qm Q s r h k
  unfold bStrI at h
  split at h
  · next i =>
    obtain ⟨v, rfl, r1⟩ := rds1 r
    cases r1
    exact ⟨i, rfl, h.1, k _ S _ H h.2 Ext.refl s (.str _)⟩
  · exact h.elim
/-- int(text) -/
def bIntS : List D → Sto → MQ → Prop := fun ds S Q => match ds with
  | [.str x] => ∃ n, PySem.intText? x = some n ∧ x.length ≤ 640 ∧ Q (.int n) S
  | _ => False
theorem cl_intS : CaL X.K (fun xs H Q => ∃ a n, xs = [.str a] ∧ PySem.intText? a = some n ∧ a.length ≤ 640 ∧ Q (.int n) H) bIntS := by
  intro H S xs ds Qm Q s r h k
  unfold bIntS at h
  split at h
  · next x =>
    obtain ⟨v, rfl, r1⟩ := rds1 r
    cases r1
    obtain ⟨n, h1, h2, h3⟩ := h
    exact ⟨x, n, rfl, h1, h2, k _ S _ H h3 Ext.refl s (.int _)⟩
  · exact h.elim
theorem rds_strs {K : PySem.W.Frag} {H : Hp} {S : Sto} : ∀ ys : List Str, RDs K H S (ys.map V.str) (ys.map D.str)
  | [] => .nil
  | y :: ys => .cons (.str y) (rds_strs ys)
theorem strs_rds {K : PySem.W.Frag} {H : Hp} {S : Sto} : ∀ {vs : List V} {ys : List Str}, RDs K H S vs (ys.map D.str) → vs = ys.map V.str
  | _, [], .nil => rfl
  | _, y :: ys, .cons r rs => by cases r; rw [strs_rds rs]; rfl
/-- a method of a text with one argument -/
def mTx1 (rm : Str → D → Sto → MQ → Prop) (mo mi : ME) : ME := fun σ S Q E => mo σ S (fun d S1 => match d with
  | .str x => mi σ S1 (fun y S2 => rm x y S2 Q) E
  | _ => False) E
def Tx1L (K : PySem.W.Frag) (r : V → List V → Hp → VK → Prop) (rm : Str → D → Sto → MQ → Prop) : Prop := ∀ (H : Hp) (S : Sto) (x : Str) (v : V) (d : D) (Qm : MQ) (Q : VK), RSto K H S → RD K H S v d → rm x d S Qm → Ref K H S Qm Q → r (.str x) [v] H Q
theorem etx1 {r : V → List V → Hp → VK → Prop} {rm : Str → D → Sto → MQ → Prop} {t : Expr} (hl : Tx1L X.K r rm) (hp : ∀ {to te : TE}, PE X o to → PE X e te → PE X t (tM1 r to te)) (ho : PE X o (upE X.K W mo)) (he : PE X e (upE X.K W mi)) : PE X t (upE X.K W (mTx1 rm mo mi)) :=
  (hp ho he).to fun σ H Q ⟨m, S, Qm, Em, h1, h2, h3, h4, h5⟩ => ⟨m, S, _, Em, h1, h2, h3, fun d S1 v H1 q1 e1 s1 r1 => by
    dsimp only at q1
    split at q1
    · next x =>
      cases r1
      exact ⟨⟨x, rfl⟩, m, S1, _, Em, h1.ext e1, s1, q1, fun y S2 w H2 q2 e2 s2 r2 => hl H2 S2 x w y Qm Q s2 r2 q2 (h4.ext (e1.trans e2)), h5.ext e1⟩
    · exact q1.elim, h5⟩
/-- x.split(y), a list that stays -/
def rmSplit (x : Str) (d : D) (S : Sto) (Q : MQ) : Prop := match d with
  | .str y => ((y.length == 0) = false ∧ x.length + 2 ≤ sizeLine) ∧ Q (.lst ((Txt.split x y).map .str)) S
  | _ => False
theorem tl_split : Tx1L X.K (fun x xs H Q => ∃ a b, x = .str a ∧ xs = [.str b] ∧ (b.length == 0) = false ∧ a.length + 2 ≤ sizeLine ∧ rNewStrs (Txt.split a b) H Q) rmSplit := by
  intro H S x v d Qm Q s r h k
  unfold rmSplit at h
  split at h
  · next y =>
    cases r
    exact ⟨x, y, rfl, rfl, h.1.1, h.1.2, fun p hp => k _ S _ _ h.2 (Ext.new s hp) (s.new hp) (.lst upd_same (s.fresh hp) (rds_strs _))⟩
  · exact h.elim
theorem esplit (ho : PE X o (upE X.K W mo)) (he : PE X e (upE X.K W mi)) (hs : starEach [e] X.env = [(false, eval e X.env)] := by rfl) (hb : attributeBase o "split" X.env (eval o X.env) = eval o X.env := by rfl) (hl : (apos.endLine == pos.line) = true := by rfl) :
    PE X (.Call (.Attribute o "split" apos) [e] [] pos) (upE X.K W (mTx1 rmSplit mo mi)) := etx1 tl_split (fun h1 h2 => pe_split h1 h2 hs hb hl) ho he
/-- x.partition(y) -/
def rmPart (x : Str) (d : D) (S : Sto) (Q : MQ) : Prop := match d with
  | .str y => ((y.length == 0) = false ∧ x.length ≤ sizeLine) ∧ Q (.tup [.str (Txt.partition x y).1, .str (Txt.partition x y).2.1, .str (Txt.partition x y).2.2]) S
  | _ => False
theorem tl_part : Tx1L X.K (fun x xs H Q => ∃ a b, x = .str a ∧ xs = [.str b] ∧ (b.length == 0) = false ∧ a.length ≤ sizeLine ∧
      ∀ p, H p = none → Q (.ref p) (upd H p (.tup [.str (Txt.partition a b).1, .str (Txt.partition a b).2.1, .str (Txt.partition a b).2.2]))) rmPart := by
  intro H S x v d Qm Q s r h k
  unfold rmPart at h
  split at h
  · next y =>
    cases r
    exact ⟨x, y, rfl, rfl, h.1.1, h.1.2, fun p hp => k _ S _ _ h.2 (Ext.new s hp) (s.new hp) (.tup (.inl upd_same) (s.fresh hp) (.cons (.str _) (.cons (.str _) (.cons (.str _) .nil))))⟩
  · exact h.elim
theorem epart (ho : PE X o (upE X.K W mo)) (he : PE X e (upE X.K W mi)) (hs : starEach [e] X.env = [(false, eval e X.env)] := by rfl) (hb : attributeBase o "partition" X.env (eval o X.env) = eval o X.env := by rfl) (hl : (apos.endLine == pos.line) = true := by rfl) :
    PE X (.Call (.Attribute o "partition" apos) [e] [] pos) (upE X.K W (mTx1 rmPart mo mi)) := etx1 tl_part (fun h1 h2 => pe_partition h1 h2 hs hb hl) ho he
/-- x.join(list of texts) -/
def rmJoin (x : Str) (d : D) (S : Sto) (Q : MQ) : Prop := ∃ ys : List Str, seqOf S d = some (ys.map .str) ∧ (ys.map (·.length)).sum + ys.length * x.length ≤ 16777216 ∧ Q (.str (Txt.join x ys)) S
theorem tl_join : Tx1L X.K (fun x xs H Q => ∃ a p, ∃ ys : List Str, x = .str a ∧ xs = [.ref p] ∧ (SqL X.K H p (ys.map V.str) ∨ SqT X.K H p (ys.map V.str)) ∧
      (ys.map (·.length)).sum + ys.length * a.length ≤ 16777216 ∧ Q (.str (Txt.join a ys)) H) rmJoin := by
  intro H S x v d Qm Q s r ⟨ys, h1, h2, h3⟩ k
  obtain ⟨a, vs, rfl, hq, rs⟩ := seq_sq s r h1
  rw [strs_rds rs] at hq
  exact ⟨x, a, ys, rfl, rfl, hq, h2, k _ S _ H h3 Ext.refl s (.str _)⟩
theorem ejoin (ho : PE X o (upE X.K W mo)) (he : PE X e (upE X.K W mi)) (hs : starEach [e] X.env = [(false, eval e X.env)] := by rfl) (hb : attributeBase o "join" X.env (eval o X.env) = eval o X.env := by rfl) (hl : (apos.endLine == pos.line) = true := by rfl) :
    PE X (.Call (.Attribute o "join" apos) [e] [] pos) (upE X.K W (mTx1 rmJoin mo mi)) := etx1 tl_join (fun h1 h2 => pe_join h1 h2 hs hb hl) ho he
/-! ### f'..' -/
def mFmt (m : ME) : ME := fun σ S Q E => m σ S (fun d S1 => match d with
  | .str y => y.length ≤ sizeLine ∧ Q (.str y) S1
  | .int i => i.natAbs.log2 < 1920 ∧ Q (.str (strI i)) S1
  | _ => False) E
def mJns : List ME → Str → MSt → Sto → (Str → Sto → Prop) → MXQ → Prop
  | [], acc, _, S, Q, _ => Q acc S
  | m :: ms, acc, σ, S, Q, E => m σ S (fun d S1 => match d with
    | .str y => (acc ++ y).length ≤ sizeLine ∧ mJns ms (acc ++ y) σ S1 Q E
    | _ => False) E
def mJoined (ms : List ME) : ME := fun σ S Q E => mJns ms Str.empty σ S (fun out S1 => Q (.str out) S1) E
/-! ### x[lo:hi], x[i], sign in x, signs of x -/
def mCutS (m : ME) (lo hi : MO') : ME := fun σ S Q E => m σ S (fun d S1 => lo σ S1 (fun l S2 => hi σ S2 (fun u S3 => match d with
  | .str z => z.length ≤ sizeLine ∧ Q (.str (cutS z l u)) S3
  | _ => False) E) E) E
theorem ecutS {lo hi : Option Expr} {ml mh : MO'} {p2 : Pos} (he : PE X e (upE X.K W m)) (hl : PO X lo (upO X.K W ml)) (hu : PO X hi (upO X.K W mh)) : PE X (.Subscript e (.Slice lo hi none p2) pos) (upE X.K W (mCutS m ml mh)) :=
  (pe_slice sl_str he hl hu).to fun σ H Q ⟨m, S, Qm, Em, h1, h2, h3, h4, h5⟩ => ⟨m, S, _, Em, h1, h2, h3, fun d S1 v H1 q1 e1 s1 r1 => ⟨m, S1, _, Em, h1.ext e1, s1, q1, fun l S2 H2 q2 e2 s2 => ⟨m, S2, _, Em, h1.ext (e1.trans e2), s2, q2, fun u S3 H3 q3 e3 s3 => by
    split at q3
    · next z =>
      cases r1
      exact ⟨z, rfl, q3.1, h4 _ S3 _ _ q3.2 ((e1.trans e2).trans e3) s3 (.str _)⟩
    · exact q3.elim, h5.ext (e1.trans e2)⟩, h5.ext e1⟩, h5⟩
def rIxT' : R2m := fun d e S Q => match d, e with
  | .str z, .int i => ∃ c, (z.length ≤ sizeLine ∧ atI z.cps.toList i = some c) ∧ Q (.str ⟨#[c]⟩) S
  | _, _ => False
theorem ol_ixS : OpL X.K rIxS rIxT' := fun H S x y d e Qm Q s rx ry h k => by
  unfold rIxT' at h
  split at h
  · next z i =>
    cases rx; cases ry
    obtain ⟨c, ⟨h1, h2⟩, h3⟩ := h
    exact ⟨z, i, c, rfl, rfl, h1, h2, k _ S _ H h3 Ext.refl s (.str _)⟩
  · exact h.elim
theorem eixS (ha : PE X a (upE X.K W ma)) (hb : PE X b (upE X.K W mb)) (hs : PlainIx b := by exact fun _ _ => rfl) : PE X (.Subscript a b pos) (upE X.K W (mOp rIxT' ma mb)) := (pe_ix ix_str ha hb hs).to (op_to ol_ixS)
def rInS (neg : Bool) : R2m := fun d e S Q => match d, e with
  | .str x, .str z => ∃ c, x = ⟨#[c]⟩ ∧ Q (.bl (if neg then !decide (c ∈ z.cps.toList) else decide (c ∈ z.cps.toList))) S
  | _, _ => False
theorem ol_inS : OpL X.K (fun x y H Q => ∃ (c : Nat) (z : Str), x = .str ⟨#[c]⟩ ∧ y = .str z ∧ Q (.bl (decide (c ∈ z.cps.toList))) H) (rInS false) := fun H S x y d e Qm Q s rx ry h k => by
  unfold rInS at h
  split at h
  · next x z =>
    cases rx; cases ry
    obtain ⟨c, rfl, h⟩ := h
    exact ⟨c, z, rfl, rfl, k _ S _ H h Ext.refl s (.bl _)⟩
  · exact h.elim
def iStrM (m : ME) : MI := fun σ S R E => m σ S (fun d S1 => match d with
  | .str x => R (x.cps.toList.map fun c => D.str ⟨#[c]⟩) (fun _ => True) S1
  | _ => False) E
theorem isStr {tg : Expr} (he : PE X e (upE X.K W m)) : PI X tg e (upI X.K W (iStrM m)) :=
  PI.to (pi_str he) fun σ H R ⟨m, S, Rm, Em, h1, h2, h3, h4, h5⟩ => ⟨m, S, _, Em, h1, h2, h3, fun d S1 v H1 q1 e1 s1 r1 => by
    dsimp only at q1
    split at q1
    · next x =>
      cases r1
      refine ⟨x, rfl, h4 _ _ S1 _ H1 q1 e1 s1 ⟨fun i H S _ _ _ hi => ?_, fun i H S v H' d' _ s _ hd hy => ?_, fun i H S _ _ _ hi => ?_⟩⟩
      · show i < x.cps.size
        rw [List.length_map, Array.length_toList] at hi; exact hi
      · obtain ⟨rfl, c, hc, rfl⟩ := hy
        refine ⟨Ext.refl, s, ?_⟩
        rw [List.getElem?_map, Array.getElem?_toList, hc] at hd
        cases hd
        exact .str _
      · show x.cps.size ≤ i
        rw [List.length_map, Array.length_toList] at hi; exact hi
    · exact q1.elim, h5⟩
end
theorem l_bStrI {i : Int} {S : Sto} {Q : MQ} : bStrI [.int i] S Q = (i.natAbs.log2 < 1920 ∧ Q (.str (strI i)) S) := Eq.trans rfl rfl
def IntSP (x : Str) (S : Sto) [Q : Hold MQ] : Prop := ∃ n, PySem.intText? x = some n ∧ x.length ≤ 640 ∧ Q.v (.int n) S
theorem l_bIntS {x : Str} {S : Sto} {Q : MQ} : bIntS [.str x] S Q = @IntSP x S ⟨Q⟩ := Eq.trans rfl rfl
theorem l_mTx1 {rm : Str → D → Sto → MQ → Prop} {mo mi : ME} {σ : MSt} {S : Sto} {Q : MQ} {E : MXQ} : mTx1 rm mo mi σ S Q E = mo σ S (fun d S1 => match d with
  | .str x => mi σ S1 (fun y S2 => rm x y S2 Q) E
  | _ => False) E := Eq.trans rfl rfl
theorem l_rmSplit {x y : Str} {S : Sto} {Q : MQ} : rmSplit x (.str y) S Q = (((y.length == 0) = false ∧ x.length + 2 ≤ sizeLine) ∧ Q (.lst ((Txt.split x y).map .str)) S) := Eq.trans rfl rfl
theorem l_rmPart {x y : Str} {S : Sto} {Q : MQ} : rmPart x (.str y) S Q = (((y.length == 0) = false ∧ x.length ≤ sizeLine) ∧ Q (.tup [.str (Txt.partition x y).1, .str (Txt.partition x y).2.1, .str (Txt.partition x y).2.2]) S) := Eq.trans rfl rfl
def JoinP (x : Str) (d : D) (S : Sto) [Q : Hold MQ] : Prop := ∃ ys : List Str, seqOf S d = some (ys.map .str) ∧ (ys.map (·.length)).sum + ys.length * x.length ≤ 16777216 ∧ Q.v (.str (Txt.join x ys)) S
theorem l_rmJoin {x : Str} {d : D} {S : Sto} {Q : MQ} : rmJoin x d S Q = @JoinP x d S ⟨Q⟩ := Eq.trans rfl rfl
theorem l_mFmt {m : ME} {σ : MSt} {S : Sto} {Q : MQ} {E : MXQ} : mFmt m σ S Q E = m σ S (fun d S1 => match d with
  | .str y => y.length ≤ sizeLine ∧ Q (.str y) S1
  | .int i => i.natAbs.log2 < 1920 ∧ Q (.str (strI i)) S1
  | _ => False) E := Eq.trans rfl rfl
theorem l_mJoined {ms : List ME} {σ : MSt} {S : Sto} {Q : MQ} {E : MXQ} : mJoined ms σ S Q E = mJns ms Str.empty σ S (fun out S1 => Q (.str out) S1) E := Eq.trans rfl rfl
theorem l_mJns_nil {acc : Str} {σ : MSt} {S : Sto} {Q : Str → Sto → Prop} {E : MXQ} : mJns [] acc σ S Q E = Q acc S := Eq.trans rfl rfl
theorem l_mJns_cons {m : ME} {ms : List ME} {acc : Str} {σ : MSt} {S : Sto} {Q : Str → Sto → Prop} {E : MXQ} : mJns (m :: ms) acc σ S Q E = m σ S (fun d S1 => match d with
    | .str y => (acc ++ y).length ≤ sizeLine ∧ mJns ms (acc ++ y) σ S1 Q E
    | _ => False) E := Eq.trans rfl rfl
theorem l_mCutS {m : ME} {lo hi : MO'} {σ : MSt} {S : Sto} {Q : MQ} {E : MXQ} : mCutS m lo hi σ S Q E = m σ S (fun d S1 => lo σ S1 (fun l S2 => hi σ S2 (fun u S3 => match d with
  | .str z => z.length ≤ sizeLine ∧ Q (.str (cutS z l u)) S3
  | _ => False) E) E) E := Eq.trans rfl rfl
def IxTP (z : Str) (i : Int) (S : Sto) [Q : Hold MQ] : Prop := ∃ c, (z.length ≤ sizeLine ∧ atI z.cps.toList i = some c) ∧ Q.v (.str ⟨#[c]⟩) S
theorem l_rIxT {z : Str} {i : Int} {S : Sto} {Q : MQ} : rIxT' (.str z) (.int i) S Q = @IxTP z i S ⟨Q⟩ := Eq.trans rfl rfl
theorem l_rInS {neg : Bool} {c : Nat} {z : Str} {S : Sto} {Q : MQ} : rInS neg (.str ⟨#[c]⟩) (.str z) S Q = Q (.bl (if neg then !decide (c ∈ z.cps.toList) else decide (c ∈ z.cps.toList))) S := by
  show (∃ c', (⟨#[c]⟩ : Str) = ⟨#[c']⟩ ∧ Q (.bl (if neg then !decide (c' ∈ z.cps.toList) else decide (c' ∈ z.cps.toList))) S) = _
  refine propext ⟨fun ⟨c', e, h⟩ => ?_, fun h => ⟨c, rfl, h⟩⟩
  have : c = c' := by
    have := congrArg Str.cps e
    simpa using this
  rw [this]; exact h
theorem l_iStrM {m : ME} {σ : MSt} {S : Sto} {R : List D → (Sto → Prop) → Sto → Prop} {E : MXQ} : iStrM m σ S R E = m σ S (fun d S1 => match d with
  | .str x => R (x.cps.toList.map fun c => D.str ⟨#[c]⟩) (fun _ => True) S1
  | _ => False) E := Eq.trans rfl rfl
def rNeS : R2m := fun d e S Q => match d, e with
  | .str x, .str y => Q (.bl (!decide (x = y))) S
  | _, _ => False
theorem ol_neS {X : Cx} : OpL X.K (fun x y H Q => rNe x y H Q ∨ rNeD X.K x y H Q) rNeS := fun H S x y d e Qm Q s rx ry h k => by
  cases d with
  | str x =>
    cases e with
    | str y =>
      cases rx; cases ry
      refine .inl ⟨rfl, ?_⟩
      have : decide (V.str x = V.str y) = decide (x = y) := by simp
      rw [this]
      exact k _ S _ H h Ext.refl s (.bl _)
    | _ => exact h.elim
  | _ => exact h.elim
theorem l_rNeS {x y : Str} {S : Sto} {Q : MQ} : rNeS (.str x) (.str y) S Q = Q (.bl (!decide (x = y))) S := Eq.trans rfl rfl
end ML
set_option maxRecDepth 100000
set_option maxHeartbeats 1000000
/-! # list(text), text * number, no sign in a text -/
namespace ZT
open PySem PySem.Spec L2 PyProof.Rows ZB
open Sem (wp)
section
variable {prog : Program} {w : World} {A : Around} {E : Value → Shared → Prop} {s : Shared}
theorem hint_str {x : Str} {t : Tok} {Q : Bool → Shared → Prop} (h : Q false s) : wpAny (model prog w) A (Builtin.List.listLengthHint (.str x t)) Q E s := by
  have hT : s.TypeIs (.str x t) "str" := typeIs_str s x t
  unfold Builtin.List.listLengthHint
  refine wpAny_bind (wpAny_specialOf hT PySem.F.slot_str_len.lookup ?_)
  generalize hid : ("str.__len__" : String) = id0
  wp_delta
  rw [show splitId id0 = some ("str", "__len__") from by subst hid; decide +kernel]
  subst hid
  refine wpAny_bind (wpAny_isInstance (T := "str") (b := true) hT (by rw [isSubtype_type]; kernel_rfl) ?_)
  refine wpAny_ite_split (fun hab => absurd hab (by decide)) (fun _ => ?_)
  refine wpAny_ite_split (fun _ => ?_) (fun hab => absurd (by decide +kernel) hab)
  refine wpAny_bind (wpAny_typeOf hT ?_)
  exact wpAny_pure h
theorem extend_str {R : Result → Shared → Prop} (hh : A.handled = none) (x : Str) (t : Tok) (S : Addr) (res : Value) (c₀ : Nat) (ha : x.cps.all (· < 128) = true) (hS : s.heap.get? S = some { cls := .type "list", data := .seq #[] c₀ })
    (hR : ∀ h' tk acc' c', (∀ b o, b ≠ S → s.heap.get? b = some o → h'.get? b = some o) → h'.get? S = some { cls := .type "list", dict := none, data := .seq acc' c', slots := #[] } →
      ItemsOf (SignAt x) acc' x.cps.size → R (.ok (.ret res)) { s with heap := h', toks := tk }) (hn : x.cps.size ≤ sizeLine) :
    wpAny (model prog w) A.in1 (Builtin.List.listExtendWith (.ref S) (.str x t) res)
      (fun fin s' => match fin with | .done f => R (.ok f) s' | .again c' => c'.quiet = true ∧ codeAny (model prog w) A c' R s') (fun e s' => R (.error e) s') s := by
  have hSI : S ≠ s.heap.objs.size := Nat.ne_of_lt (Heap.lt_size hS)
  have hSf : S ∉ [s.heap.objs.size] := fun hm => hSI (List.mem_singleton.mp hm)
  unfold Builtin.List.listExtendWith
  refine wpAny_bind (wpAny_typeOf (T := "str") (v := .str x t) (typeIs_str s x t) ?_)
  have h1 : Builtin.List.listSameRef (.ref S) (.str x t) = false := rfl
  have h2 : (Value.type "str" == Value.type "list") = false := by decide
  have h3 : (Value.type "str" == Value.type "tuple") = false := by decide
  simp only [h1, h2, h3, Bool.or_false, Bool.false_eq_true, if_false]
  refine wpAny_bind (wpAny_pyIter_ascii ha ?_)
  refine wpAny_bind (wpAny_holding (hint_str ?_))
  rw [if_neg (by first | decide | decide +kernel)]
  have W := Walks.strAscii (prog := prog) (w := w) (A := A.in1) hh s.heap.objs.size x t
  have hst : (s.heap.push { cls := .type "str_ascii_iterator", data := .fields #[.str x t, .int 0 0] }).IsStrIter s.heap.objs.size "str_ascii_iterator" x t 0 := ⟨_, Heap.get?_push_size _ rfl, rfl, rfl⟩
  refine wpAny_pure ⟨plainId_quiet PySem.F.plain_extend_loop _, codeAny_extend_loopS W.toS hn _ hSf _ x.cps.size 0 _ _ _ rfl (Nat.zero_le _) hst (Heap.get?_push_of_some _ hS) (ItemsOf.nil _) fun s' acc' c' hm hS' hacc => ?_⟩
  rw [Moved.eq_with hm]
  refine hR s'.heap s'.toks acc' c' (fun b ob hb e => hm.heap b ob (fun hmem => ?_) (Heap.get?_push_of_some _ e)) hS' hacc
  rcases List.mem_cons.mp hmem with e' | hmem
  · exact hb e'
  · exact absurd (Heap.lt_size e) (by rw [List.mem_singleton.mp hmem]; exact Nat.lt_irrefl _)
theorem list_init_str {R : Result → Shared → Prop} (hh : A.handled = none) (x : Str) (t : Tok) (S : Addr) (ha : x.cps.all (· < 128) = true) (hS : s.heap.get? S = some { cls := .type "list", data := .seq #[] })
    (hR : ∀ h' tk acc' c', (∀ b o, b ≠ S → s.heap.get? b = some o → h'.get? b = some o) → h'.get? S = some { cls := .type "list", dict := none, data := .seq acc' c', slots := #[] } →
      ItemsOf (SignAt x) acc' x.cps.size → R (.ok (.ret .none)) { s with heap := h', toks := tk }) (hn : x.cps.size ≤ sizeLine) :
    wpAny (model prog w) A.in1 (Builtin.«list.__init__» ⟨[.ref S, .str x t], []⟩)
      (fun fin s' => match fin with | .done f => R (.ok f) s' | .again c' => c'.quiet = true ∧ codeAny (model prog w) A c' R s') (fun e s' => R (.error e) s') s := by
  show wpAny _ _ (do let old ← Builtin.List.listItems (.ref S); Builtin.List.listUpdate (.ref S) (fun _ => #[]); letGo old.toList.reverse; Builtin.List.listExtendWith (.ref S) (.str x t) .none) _ _ s
  refine wpAny_bind ?_
  unfold Builtin.List.listItems
  refine wpAny_bind (wpAny_seqItems hS rfl (wpAny_pure ?_))
  show wpAny _ _ (updateSeq S (fun _ => #[]) >>= fun _ => letGo (#[] : Array Value).toList.reverse >>= fun _ => Builtin.List.listExtendWith (.ref S) (.str x t) .none) _ _ s
  refine wpAny_bind (wpAny_updateSeq hS rfl ?_)
  have hS₂ := Heap.get?_update_self (Obj.mapSeq (fun _ => (#[] : Array Value))) hS rfl
  have oth : ∀ b o, b ≠ S → s.heap.get? b = some o → (s.heap.update S (Obj.mapSeq (fun _ => (#[] : Array Value)))).get? b = some o :=
    fun b o hb e => (Heap.get?_update_other _ _ (Ne.symm hb)).trans e
  refine wpAny_bind (wpAny_letGo ?_)
  refine extend_str hh x t S .none _ ha hS₂ (fun h' tk acc' c' hk hS' hacc => ?_) hn
  exact hR h' tk acc' c' (fun b o hb e => hk b o hb (oth b o hb e)) hS' hacc
theorem call_list_str {x : Str} {t : Tok} {Q : Value → Shared → Prop} (hh : A.handled = none) (ha : x.cps.all (· < 128) = true) (hn : x.cps.size ≤ sizeLine)
    (hQ : ∀ h' tk acc' c', (∀ b o, s.heap.get? b = some o → h'.get? b = some o) →
      h'.get? s.heap.objs.size = some { cls := .type "list", dict := none, data := .seq acc' c', slots := #[] } → ItemsOf (SignAt x) acc' x.cps.size → Q (.ref s.heap.objs.size) { s with heap := h', toks := tk }) :
    wpAny (model prog w) A (call (.type "list") [.str x t]) Q E s := by
  refine callType_codes (Q₁ := fun obj s₁ => obj = .ref s.heap.objs.size ∧ s₁ = { s with heap := s.heap.push { cls := .type "list", data := .seq #[] } }) PySem.F.called_list (PySem.F.typeCall_list_1 _) PySem.F.entry_list_init
    (code_list_new _ ⟨rfl, rfl⟩) fun obj s₁ h₁ => ?_
  obtain ⟨rfl, rfl⟩ := h₁
  have hS : (s.heap.push { cls := .type "list", data := .seq #[] }).get? s.heap.objs.size = some { cls := .type "list", data := .seq #[] } := Heap.get?_push_size _ rfl
  refine ⟨⟨_, hS, rfl⟩, PySem.F.args_list_init_2 _ _, list_init_str (A := A.in1) hh x t _ ha hS (fun h' tk acc' c' hk hS' hacc => ?_) hn⟩
  exact ⟨rfl, hQ h' tk acc' c' (fun b o e => hk b o (Nat.ne_of_lt (Heap.lt_size e)) (Heap.get?_push_of_some _ e)) hS' hacc⟩
end
end ZT
namespace ML
open PySem PySem.Spec L2
open PyProof.Rows hiding St
section
variable {X : Cx} {W : WX} {o e f a b : Expr} {pos p apos : Pos} {m mo mi ma mb : ME}
theorem call_list_T (hc : X.calm = true) : CallR X (.type "list") (fun xs H Q => ∃ z : Str, xs = [.str z] ∧ (z.cps.all (· < 128) = true ∧ z.cps.size ≤ sizeLine) ∧ ∀ q, H q = none → Q (.ref q) (upd H q (.lst (z.cps.toList.map fun c => V.str ⟨#[c]⟩)))) := by
  intro pins s σ H xs us Q I r h
  obtain ⟨z, rfl, ⟨ha, hz⟩, q⟩ := h
  obtain ⟨u, rfl, rx⟩ := vals1 r
  obtain ⟨t, rfl⟩ := rx
  refine ZT.call_list_str (I.ok.hd hc) ha hz fun h' tk acc c' hk e hi => ?_
  refine ⟨.ref s.heap.objs.size, upd H s.heap.objs.size (.lst (z.cps.toList.map fun c => V.str ⟨#[c]⟩)), I.laid hk (Nat.le_refl _) ⟨by rw [List.length_map, Array.length_toList]; exact hz, acc.toList, c', ?_, by rw [Array.toArray_toList]; exact e⟩, rfl, q _ (I.hok.fresh (Nat.le_refl _))⟩
  refine vals_of_idx _ _ (by rw [List.length_map, Array.length_toList, Array.length_toList]; exact hi.1) fun j u hj => ?_
  obtain ⟨c, t', hc, rfl⟩ := hi.2 j u (by rw [← Array.getElem?_toList]; exact hj)
  exact ⟨.str ⟨#[c]⟩, by rw [List.getElem?_map, Array.getElem?_toList, hc]; rfl, ⟨_, rfl⟩⟩
/-- a text some times -/
def timesT (z : Str) (n : Nat) : Str := ⟨(List.replicate n z.cps).foldl (· ++ ·) #[]⟩
theorem op_mul_T : OpR X (binaryOp .Mult) (fun x y H Q => ∃ (z : Str) (n : Nat), x = .str z ∧ y = .int (n : Nat) ∧ (2 ≤ n ∧ n ≤ 10000 ∧ 1 ≤ z.length ∧ z.length ≤ 100 ∧ (timesT z n).length ≤ sizeLine) ∧ Q (.str (timesT z n)) H) := by
  intro pins s σ H x y v u Q I rx ry h
  obtain ⟨z, n, rfl, rfl, ⟨h1, h2, h3, h4, h5⟩, q⟩ := h
  obtain ⟨t, rfl⟩ := rx
  obtain ⟨t', rfl⟩ := ry
  have e1 : ((n : Int) == 1 || z.length == 0) = false := by
    rw [Bool.or_eq_false_iff]
    exact ⟨beq_eq_false_iff_ne.mpr (by omega), beq_eq_false_iff_ne.mpr (by omega)⟩
  have hm : z.length * n ≤ 1000000 := Nat.le_trans (Nat.mul_le_mul h4 h2) (by decide)
  refine PySem.P.mul_str ?_ (fun _ _ => ?_) (fun _ _ => ?_) ?_
  · rw [decide_eq_false (by omega), decide_eq_false (by omega)]; rfl
  · have hd : ((2 : Int) ^ 63 - 1) / (n : Int) ≥ 100 := by
      refine Int.le_ediv_of_mul_le (by omega) ?_
      omega
    omega
  · rw [Int.toNat_natCast]
    exact decide_eq_false (by show ¬ z.length * n > 2 ^ 24; omega)
  · rw [if_neg (by omega), if_neg (by rw [e1]; exact Bool.false_ne_true), Int.toNat_natCast]
    exact ⟨h5, ⟨.str (timesT z n), H, I.tok _, ⟨_, rfl⟩, q⟩⟩
def bListT : List D → Sto → MQ → Prop := fun ds S Q => match ds with
  | [.str z] => (z.cps.all (· < 128) = true ∧ z.cps.size ≤ sizeLine) ∧ Q (.lst (z.cps.toList.map fun c => D.str ⟨#[c]⟩)) S
  | _ => False
theorem cl_listT : CaL X.K (fun xs H Q => ∃ z : Str, xs = [.str z] ∧ (z.cps.all (· < 128) = true ∧ z.cps.size ≤ sizeLine) ∧ ∀ q, H q = none → Q (.ref q) (upd H q (.lst (z.cps.toList.map fun c => V.str ⟨#[c]⟩)))) bListT := by
  intro H S xs ds Qm Q s r h k
  unfold bListT at h
  split at h
  · next z =>
    obtain ⟨v, rfl, r1⟩ := rds1 r
    cases r1
    refine ⟨z, rfl, h.1, fun q hq => ?_⟩
    have e1 : (z.cps.toList.map fun c => V.str ⟨#[c]⟩) = (z.cps.toList.map fun c => (⟨#[c]⟩ : Str)).map V.str := by rw [List.map_map]; rfl
    have e2 : (z.cps.toList.map fun c => D.str ⟨#[c]⟩) = (z.cps.toList.map fun c => (⟨#[c]⟩ : Str)).map D.str := by rw [List.map_map]; rfl
    have h2 := h.2
    rw [e2] at h2
    rw [e1]
    exact k _ S _ _ h2 (Ext.new s hq) (s.new hq) (.lst upd_same (s.fresh hq) (rds_strs _))
  · exact h.elim
def rMulT : R2m := fun d e S Q => match d, e with
  | .str z, .int i => ∃ n : Nat, i = (n : Int) ∧ (2 ≤ n ∧ n ≤ 10000 ∧ 1 ≤ z.length ∧ z.length ≤ 100 ∧ (timesT z n).length ≤ sizeLine) ∧ Q (.str (timesT z n)) S
  | _, _ => False
theorem ol_mulT : OpL X.K (fun x y H Q => ∃ (z : Str) (n : Nat), x = .str z ∧ y = .int (n : Nat) ∧ (2 ≤ n ∧ n ≤ 10000 ∧ 1 ≤ z.length ∧ z.length ≤ 100 ∧ (timesT z n).length ≤ sizeLine) ∧ Q (.str (timesT z n)) H) rMulT := fun H S x y d e Qm Q s rx ry h k => by
  unfold rMulT at h
  split at h
  · next z i =>
    cases rx; cases ry
    obtain ⟨n, rfl, h1, h2⟩ := h
    exact ⟨z, n, rfl, rfl, h1, k _ S _ H h2 Ext.refl s (.str _)⟩
  · exact h.elim
theorem emulT (ha : PE X a (upE X.K W ma)) (hb : PE X b (upE X.K W mb)) : PE X (.BinOp a .Mult b pos) (upE X.K W (mOp rMulT ma mb)) := eop op_mul_T ol_mulT ha hb
def MulTP (z : Str) (i : Int) (S : Sto) [Q : Hold MQ] : Prop := ∃ n : Nat, i = (n : Int) ∧ (2 ≤ n ∧ n ≤ 10000 ∧ 1 ≤ z.length ∧ z.length ≤ 100 ∧ (timesT z n).length ≤ sizeLine) ∧ Q.v (.str (timesT z n)) S
theorem l_rMulT {z : Str} {i : Int} {S : Sto} {Q : MQ} : rMulT (.str z) (.int i) S Q = @MulTP z i S ⟨Q⟩ := Eq.trans rfl rfl
theorem l_bListT {z : Str} {S : Sto} {Q : MQ} : bListT [.str z] S Q = ((z.cps.all (· < 128) = true ∧ z.cps.size ≤ sizeLine) ∧ Q (.lst (z.cps.toList.map fun c => D.str ⟨#[c]⟩)) S) := Eq.trans rfl rfl
theorem ol_notInS : OpL X.K (fun x y H Q => ∃ (c : Nat) (z : Str), x = .str ⟨#[c]⟩ ∧ y = .str z ∧ Q (.bl (!decide (c ∈ z.cps.toList))) H) (rInS true) := fun H S x y d e Qm Q s rx ry h k => by
  unfold rInS at h
  split at h
  · next x z =>
    cases rx; cases ry
    obtain ⟨c, rfl, h⟩ := h
    exact ⟨c, z, rfl, rfl, k _ S _ H h Ext.refl s (.bl _)⟩
  · exact h.elim
/-- x.split(y), a list of the store that may be changed -/
def rmSplitO (x : Str) (d : D) (S : Sto) (Q : MQ) : Prop := match d with
  | .str y => ((y.length == 0) = false ∧ x.length + 2 ≤ sizeLine) ∧ ∀ p, S p = none → Q (.ref p) (put S p (.lst ((Txt.split x y).map .str)))
  | _ => False
theorem tl_splitO : Tx1L X.K (fun x xs H Q => ∃ a b, x = .str a ∧ xs = [.str b] ∧ (b.length == 0) = false ∧ a.length + 2 ≤ sizeLine ∧ rNewStrs (Txt.split a b) H Q) rmSplitO := by
  intro H S x v d Qm Q s r h k
  unfold rmSplitO at h
  split at h
  · next y =>
    cases r
    exact ⟨x, y, rfl, rfl, h.1.1, h.1.2, fun p hp => k _ (put S p (.lst ((Txt.split x y).map .str))) _ _ (h.2 p (s.fresh hp)) (Ext.newS s hp) (s.newS hp ⟨_, upd_same, (rds_strs _)⟩) (.ref p)⟩
  · exact h.elim
theorem esplitO (ho : PE X o (upE X.K W mo)) (he : PE X e (upE X.K W mi)) (hs : starEach [e] X.env = [(false, eval e X.env)] := by rfl) (hb : attributeBase o "split" X.env (eval o X.env) = eval o X.env := by rfl) (hl : (apos.endLine == pos.line) = true := by rfl) :
    PE X (.Call (.Attribute o "split" apos) [e] [] pos) (upE X.K W (mTx1 rmSplitO mo mi)) := etx1 tl_splitO (fun h1 h2 => pe_split h1 h2 hs hb hl) ho he
end
theorem l_rmSplitO {x y : Str} {S : Sto} {Q : MQ} : rmSplitO x (.str y) S Q = (((y.length == 0) = false ∧ x.length + 2 ≤ sizeLine) ∧ ∀ p, S p = none → Q (.ref p) (put S p (.lst ((Txt.split x y).map .str)))) := Eq.trans rfl rfl
end ML
namespace FL
open PySem PySem.Spec L2 ML
/-- a fraction in lowest terms, as the program writes it -/
def fr (q : Rat) : D := .tup [.int q.num, .int (q.den : Nat)]
abbrev Pt := Rat × Rat
def spD (s : Pt) : D := .tup [fr s.1, fr s.2]
abbrev Wl := Pt × Pt
def wlD (w : Wl) : D := .tup [spD w.1, spD w.2]
/-- how many bits top and bottom need -/
def sz (q : Rat) : Nat := max q.num.natAbs.log2 q.den.log2 + 1
def SzS (n : Nat) (s : Pt) : Prop := sz s.1 ≤ n ∧ sz s.2 ≤ n
def ahead (a b : Pt) : Prop := a.1 < b.1 ∨ (a.1 = b.1 ∧ a.2 < b.2)
instance : DecidableRel ahead := fun a b => by unfold ahead; infer_instance
def alng (w : Wl) : Pt := (w.2.1 - w.1.1, w.2.2 - w.1.2)
def crs (u v : Pt) : Rat := u.1 * v.2 - u.2 * v.1
def sgn (q : Rat) : Int := if 0 < q then 1 else if q < 0 then -1 else 0
def side (w : Wl) (s : Pt) : Int := sgn (crs (alng w) (alng (w.1, s)))
def liesOn (w : Wl) (s : Pt) : Prop := ¬ ahead s w.1 ∧ ¬ ahead w.2 s ∧ side w s = 0
instance : Decidable (liesOn w s) := by unfold liesOn; infer_instance
def spansW (w : Wl) (s : Pt) : Prop := ¬ ahead s w.1 ∧ ahead s w.2
instance : Decidable (spansW w s) := by unfold spansW; infer_instance
/-- a law's row: the cell and how many were taken -/
def rowO (c n : Int) : MO := .lst [.int c, .int n]
def sp_cell_at : MSp := fun ds S Q _ => ∃ (ns : List Int) (k : Nat), ds = [.scr (ns.map .int), .int k] ∧ ∀ c : Int, Q (.int c) S
def sp_take : MSp := fun ds S Q _ => ∃ (p : Addr) (c : Int) (n : Nat) (z : Int), ds = [.ref p, .int z] ∧ S p = some (rowO c n) ∧ 0 < z ∧ z < 2 ^ 200 ∧ n < 2 ^ 60 ∧ ∀ r c' : Int, 0 ≤ r → r < z → Q (.int r) (put S p (rowO c' (n + 1 : Nat)))
def sp_low : MSp := fun ds S Q _ => ∃ t b : Int, ds = [.int t, .int b] ∧ b ≠ 0 ∧ b.natAbs.log2 < 9000 ∧ Q (fr (Rat.divInt t b)) S
def sp_divisor : MSp := fun ds S Q _ => ∃ a b : Nat, ds = [.int a, .int b] ∧ Q (.int (Nat.gcd a b : Nat)) S
def two (f : Rat → Rat → Rat) : MSp := fun ds S Q _ => ∃ p q : Rat, ds = [fr p, fr q] ∧ sz p + sz q < 8000 ∧ Q (fr (f p q)) S
abbrev sp_plus : MSp := two (· + ·)
abbrev sp_less : MSp := two (· - ·)
abbrev sp_times : MSp := two (· * ·)
def sp_over : MSp := fun ds S Q _ => ∃ p q : Rat, ds = [fr p, fr q] ∧ sz p + sz q < 8000 ∧ q ≠ 0 ∧ Q (fr (p / q)) S
abbrev sp_law_less : MSp := two (· - ·)
def sp_is_less : MSp := fun ds S Q _ => ∃ p q : Rat, ds = [fr p, fr q] ∧ sz p + sz q < 8000 ∧ Q (.bl (decide (p < q))) S
def sp_is_ahead : MSp := fun ds S Q _ => ∃ a b : Pt, ds = [spD a, spD b] ∧ (∃ n, SzS n a ∧ SzS n b ∧ n < 4000) ∧ Q (.bl (decide (ahead a b))) S
def sp_along : MSp := fun ds S Q _ => ∃ w : Wl, ds = [wlD w] ∧ (∃ n, SzS n w.1 ∧ SzS n w.2 ∧ n < 4000) ∧ Q (spD (alng w)) S
def sp_crossed : MSp := fun ds S Q _ => ∃ u v : Pt, ds = [spD u, spD v] ∧ (∃ n, SzS n u ∧ SzS n v ∧ n < 1900) ∧ Q (fr (crs u v)) S
def sp_leaning : MSp := fun ds S Q _ => ∃ u v : Pt, ds = [spD u, spD v] ∧ (∃ n, SzS n u ∧ SzS n v ∧ n < 1900) ∧ Q (.int (sgn (crs u v))) S
def sp_side_of : MSp := fun ds S Q _ => ∃ (w : Wl) (s : Pt), ds = [wlD w, spD s] ∧ (∃ n, SzS n w.1 ∧ SzS n w.2 ∧ SzS n s ∧ n < 900) ∧ Q (.int (side w s)) S
def sp_lies_on : MSp := fun ds S Q _ => ∃ (w : Wl) (s : Pt), ds = [wlD w, spD s] ∧ (∃ n, SzS n w.1 ∧ SzS n w.2 ∧ SzS n s ∧ n < 900) ∧ Q (.bl (decide (liesOn w s))) S
def sp_spans : MSp := fun ds S Q _ => ∃ (w : Wl) (s : Pt), ds = [wlD w, spD s] ∧ (∃ n, SzS n w.1 ∧ SzS n w.2 ∧ SzS n s ∧ n < 4000) ∧ Q (.bl (decide (spansW w s))) S
/-! ### bits -/
theorem sz_pos (q : Rat) : 1 ≤ sz q := by unfold sz; omega
theorem sz_num (q : Rat) : q.num.natAbs < 2 ^ sz q := by
  unfold sz
  exact Nat.lt_of_lt_of_le Nat.lt_log2_self (Nat.pow_le_pow_right (by decide) (by omega))
theorem sz_den (q : Rat) : q.den < 2 ^ sz q := by
  unfold sz
  exact Nat.lt_of_lt_of_le Nat.lt_log2_self (Nat.pow_le_pow_right (by decide) (by omega))
theorem log2_lt' {a n : Nat} (h : a < 2 ^ n) (hn : 0 < n) : a.log2 < n := by
  by_cases z : a = 0
  · subst z; simpa using hn
  · exact (Nat.log2_lt z).mpr h
theorem log2_mono {a b : Nat} (h : a ≤ b) : a.log2 ≤ b.log2 := by
  have := log2_lt' (Nat.lt_of_le_of_lt h (Nat.lt_log2_self (n := b))) (by omega)
  omega
theorem sz_le {q : Rat} {n : Nat} (hn : 0 < n) (h1 : q.num.natAbs < 2 ^ n) (h2 : q.den < 2 ^ n) : sz q ≤ n := by
  have := log2_lt' h1 hn
  have := log2_lt' h2 hn
  unfold sz; omega
theorem sz_divInt {t b : Int} {n : Nat} (hn : 0 < n) (h1 : t.natAbs < 2 ^ n) (h2 : b.natAbs < 2 ^ n) : sz (Rat.divInt t b) ≤ n := by
  refine sz_le hn ?_ ?_
  · rw [Rat.num_divInt, Int.natAbs_ediv_of_dvd]
    · refine Nat.lt_of_le_of_lt (Nat.div_le_self _ _) ?_
      rw [Int.natAbs_mul]
      rcases Int.lt_trichotomy b 0 with h | h | h
      · rw [Int.sign_eq_neg_one_of_neg h]; simpa using h1
      · subst h; simp; exact Nat.two_pow_pos n
      · rw [Int.sign_eq_one_of_pos h]; simpa using h1
    · exact Int.dvd_mul_of_dvd_right (Int.gcd_dvd_right ..)
  · rw [Rat.den_divInt]
    split
    · exact Nat.one_lt_two_pow (by omega)
    · exact Nat.lt_of_le_of_lt (Nat.div_le_self _ _) h2
theorem natAbs_mul_lt {i j : Int} {a b : Nat} (h1 : i.natAbs < 2 ^ a) (h2 : j.natAbs < 2 ^ b) : (i * j).natAbs < 2 ^ (a + b) := by
  rw [Int.natAbs_mul, Nat.pow_add]
  exact Nat.mul_lt_mul'' h1 h2
theorem natAbs_add_lt {i j : Int} {a : Nat} (h1 : i.natAbs < 2 ^ a) (h2 : j.natAbs < 2 ^ a) : (i + j).natAbs < 2 ^ (a + 1) := by
  rw [Nat.pow_succ]; omega
theorem den_abs (q : Rat) : ((q.den : Nat) : Int).natAbs < 2 ^ sz q := by simpa using sz_den q
theorem sz_add (p q : Rat) : sz (p + q) ≤ sz p + sz q + 1 := by
  rw [Rat.add_def', ← Rat.divInt_ofNat]
  refine sz_divInt (by omega) (natAbs_add_lt (natAbs_mul_lt (sz_num p) (den_abs q)) ?_) ?_
  · rw [Nat.add_comm (sz p)]; exact natAbs_mul_lt (sz_num q) (den_abs p)
  · rw [Int.natCast_mul]; exact Nat.lt_of_lt_of_le (natAbs_mul_lt (den_abs p) (den_abs q)) (Nat.pow_le_pow_right (by decide) (by omega))
theorem sz_neg (p : Rat) : sz (-p) = sz p := by simp [sz]
theorem sz_sub (p q : Rat) : sz (p - q) ≤ sz p + sz q + 1 := by
  rw [Rat.sub_eq_add_neg]
  have := sz_add p (-q)
  rwa [sz_neg] at this
theorem sz_mul (p q : Rat) : sz (p * q) ≤ sz p + sz q := by
  rw [Rat.mul_def', ← Rat.divInt_ofNat]
  have := sz_pos p
  refine sz_divInt (by omega) (natAbs_mul_lt (sz_num p) (sz_num q)) ?_
  · rw [Int.natCast_mul]; exact natAbs_mul_lt (den_abs p) (den_abs q)
theorem div_eq (p q : Rat) : p / q = Rat.divInt (p.num * q.den) (p.den * q.num) := by
  rw [Rat.div_def, Rat.inv_def, ← Rat.divInt_mul_divInt, Rat.num_divInt_den]
theorem sz_div (p q : Rat) : sz (p / q) ≤ sz p + sz q := by
  rw [div_eq]
  have := sz_pos p
  exact sz_divInt (by omega) (natAbs_mul_lt (sz_num p) (den_abs q)) (natAbs_mul_lt (den_abs p) (sz_num q))
theorem ok_nn {p q : Rat} (h : sz p + sz q ≤ 100000) : IntMulOk p.num q.num := by
  have := sz_pos p; have := sz_pos q
  exact mulok_w (sz_num p) (sz_num q) (by omega) (by omega) (by omega)
theorem ok_nd {p q : Rat} (h : sz p + sz q ≤ 100000) : IntMulOk p.num (q.den : Nat) := by
  have := sz_pos p; have := sz_pos q
  exact mulok_w (sz_num p) (den_abs q) (by omega) (by omega) (by omega)
theorem ok_dd {p q : Rat} (h : sz p + sz q ≤ 100000) : IntMulOk (p.den : Nat) (q.den : Nat) := by
  have := sz_pos p; have := sz_pos q
  exact mulok_w (den_abs p) (den_abs q) (by omega) (by omega) (by omega)
theorem ok_dn {p q : Rat} (h : sz p + sz q ≤ 100000) : IntMulOk (p.den : Nat) q.num := by
  have := sz_pos p; have := sz_pos q
  exact mulok_w (den_abs p) (sz_num q) (by omega) (by omega) (by omega)
theorem cp {i j : Int} (h : 0 ≤ j ∧ j ≤ 1000000 ∧ i.natAbs < 2 ^ 64 := by decide) : CPow i j := h
theorem den_ne (q : Rat) : ((q.den : Nat) : Int) ≠ 0 := by have := q.den_nz; omega
theorem ahead_irrefl (a : Pt) : ¬ ahead a a := by unfold ahead; grind
theorem ahead_asymm {a b : Pt} (h : ahead a b) : ¬ ahead b a := by unfold ahead at *; grind
theorem ahead_trans {a b c : Pt} (h : ahead a b) (h2 : ahead b c) : ahead a c := by unfold ahead at *; grind
theorem ahead_tri (a b : Pt) : ahead a b ∨ a = b ∨ ahead b a := by
  obtain ⟨a1, a2⟩ := a
  obtain ⟨b1, b2⟩ := b
  unfold ahead
  simp only [Prod.mk.injEq]
  grind
theorem tup_fr {q : Rat} : D.tup [.int q.num, .int (q.den : Nat)] = fr q := Eq.trans rfl rfl
theorem tup_sp {a b : Rat} : D.tup [fr a, fr b] = spD (a, b) := Eq.trans rfl rfl
theorem tup_wl {a b : Pt} : D.tup [spD a, spD b] = wlD (a, b) := Eq.trans rfl rfl
theorem tyD_fr {S : Sto} {q : Rat} : tyD S (fr q) = some "tuple" := Eq.trans rfl rfl
theorem tyD_sp {S : Sto} {s : Pt} : tyD S (spD s) = some "tuple" := Eq.trans rfl rfl
theorem tyD_wl {S : Sto} {w : Wl} : tyD S (wlD w) = some "tuple" := Eq.trans rfl rfl
theorem isN_fr {q : Rat} : isN (fr q) = false := Eq.trans rfl rfl
theorem isN_sp {s : Pt} : isN (spD s) = false := Eq.trans rfl rfl
theorem isN_wl {w : Wl} : isN (wlD w) = false := Eq.trans rfl rfl
theorem lenD_sp {S : Sto} {s : Pt} : lenD S (spD s) = some 2 := Eq.trans rfl rfl
theorem lenD_wl {S : Sto} {s : Wl} : lenD S (wlD s) = some 2 := Eq.trans rfl rfl
theorem rAdd_wl_tup {w : Wl} {ds : List D} {S : Sto} {Q : MQ} : rAdd (wlD w) (.tup ds) S Q = ((([spD w.1, spD w.2] : List D) ≠ [] ∧ 2 + ds.length ≤ sizeLine) ∧ Q (.tup (spD w.1 :: spD w.2 :: ds)) S) := Eq.trans rfl rfl
theorem tupOf_fr {q : Rat} : tupOf (fr q) = some [.int q.num, .int (q.den : Nat)] := Eq.trans rfl rfl
theorem tupOf_sp {s : Pt} : tupOf (spD s) = some [fr s.1, fr s.2] := Eq.trans rfl rfl
theorem tupOf_wl {w : Wl} : tupOf (wlD w) = some [spD w.1, spD w.2] := Eq.trans rfl rfl
theorem gTp_at {n : Nat} {gs : MGs} {d : D} {σ : MSt} {S : Sto} {Q : MSt → Sto → Prop} {E : MXQ} : gTp n gs d σ S Q E = match tupOf d with
  | some ds => ds.length = n ∧ gs ds σ S Q E
  | none => False := by cases d <;> rfl
theorem sgn_num (q : Rat) : ((if 0 < q.num then 1 else 0) - if q.num < 0 then 1 else 0 : Int) = sgn q := by
  have h1 : 0 < q.num ↔ 0 < q := by rw [Rat.lt_iff]; simp
  have h2 : q.num < 0 ↔ q < 0 := by rw [Rat.lt_iff]; simp
  unfold sgn
  simp only [← h1, ← h2]
  by_cases a : 0 < q.num
  · rw [if_pos a, if_pos a, if_neg (by omega)]; rfl
  · by_cases b : q.num < 0
    · rw [if_neg a, if_neg a, if_pos b, if_pos b]; rfl
    · rw [if_neg a, if_neg a, if_neg b, if_neg b]; rfl
/-! ### walking over fractions, spots, walls -/
theorem nz0 : (0 : Int) + ((0 : Nat) : Int) = 0 := rfl
theorem nz1 : (0 : Int) + ((1 : Nat) : Int) = 1 := rfl
theorem nz2 : (0 : Int) + ((2 : Nat) : Int) = 2 := rfl
theorem nz3 : (0 : Int) + ((3 : Nat) : Int) = 3 := rfl
theorem seqOf_tup {S : Sto} {ds : List D} : seqOf S (.tup ds) = some ds := Eq.trans rfl rfl
theorem seqOf_lst {S : Sto} {ds : List D} : seqOf S (.lst ds) = some ds := Eq.trans rfl rfl
theorem seqOf_scr {S : Sto} {ds : List D} : seqOf S (.scr ds) = some ds := Eq.trans rfl rfl
theorem seqOf_ref {S : Sto} {p : Addr} : seqOf S (.ref p) = lstOf S (.ref p) := Eq.trans rfl rfl
theorem look_non {S : Sto} : look S .non = .non := Eq.trans rfl rfl
theorem look_int {S : Sto} {i : Int} : look S (.int i) = .int i := Eq.trans rfl rfl
theorem look_bl {S : Sto} {i : Bool} : look S (.bl i) = .bl i := Eq.trans rfl rfl
theorem look_str {S : Sto} {i : Str} : look S (.str i) = .str i := Eq.trans rfl rfl
theorem look_tup {S : Sto} {ds : List D} : look S (.tup ds) = .tup ds := Eq.trans rfl rfl
theorem look_lst {S : Sto} {ds : List D} : look S (.lst ds) = .lst ds := Eq.trans rfl rfl
theorem look_scr {S : Sto} {ds : List D} : look S (.scr ds) = .scr ds := Eq.trans rfl rfl
theorem look_ref {S : Sto} {p : Addr} {ds : List D} (h : S p = some (.lst ds)) : look S (.ref p) = .lst ds := by simp only [look, h]
theorem seqOf_fr {S : Sto} {q : Rat} : seqOf S (fr q) = some [.int q.num, .int (q.den : Nat)] := Eq.trans rfl rfl
theorem seqOf_sp {S : Sto} {s : Pt} : seqOf S (spD s) = some [fr s.1, fr s.2] := Eq.trans rfl rfl
theorem seqOf_wl {S : Sto} {w : Wl} : seqOf S (wlD w) = some [spD w.1, spD w.2] := Eq.trans rfl rfl
theorem look_fr {S : Sto} {q : Rat} : look S (fr q) = fr q := Eq.trans rfl rfl
theorem look_sp {S : Sto} {s : Pt} : look S (spD s) = spD s := Eq.trans rfl rfl
theorem look_wl {S : Sto} {w : Wl} : look S (wlD w) = wlD w := Eq.trans rfl rfl
theorem plain_fr (q : Rat) : D.plain (fr q) = true := by simp [fr, D.plain, D.plains]
theorem plain_sp (s : Pt) : D.plain (spD s) = true := by simp [spD, D.plain, D.plains, plain_fr]
theorem plain_wl (w : Wl) : D.plain (wlD w) = true := by simp [wlD, D.plain, D.plains, plain_sp]
theorem dep_fr (q : Rat) : D.dep (fr q) = 1 := by simp [fr, D.dep, D.deps]
theorem dep_sp (s : Pt) : D.dep (spD s) = 2 := by simp [spD, D.dep, D.deps, dep_fr]
theorem dep_wl (w : Wl) : D.dep (wlD w) = 3 := by simp [wlD, D.dep, D.deps, dep_sp]
theorem eqOk_of {d e : D} (h1 : D.plain d = true) (h2 : D.plain e = true) (h3 : D.dep d ≤ 64) (h4 : D.dep e ≤ 64) : eqOk d e = true := by
  unfold eqOk
  split
  · rfl
  · simp [h1, h2, h3, h4]
theorem eqOk_fr {p q : Rat} : eqOk (fr p) (fr q) = true := eqOk_of (plain_fr p) (plain_fr q) (by rw [dep_fr]; decide) (by rw [dep_fr]; decide)
theorem eqOk_sp {p q : Pt} : eqOk (spD p) (spD q) = true := eqOk_of (plain_sp p) (plain_sp q) (by rw [dep_sp]; decide) (by rw [dep_sp]; decide)
theorem eqOk_wl {p q : Wl} : eqOk (wlD p) (wlD q) = true := eqOk_of (plain_wl p) (plain_wl q) (by rw [dep_wl]; decide) (by rw [dep_wl]; decide)
theorem fr_inj {p q : Rat} : fr p = fr q ↔ p = q := by
  constructor
  · intro h
    simp only [fr, D.tup.injEq, List.cons.injEq, D.int.injEq, and_true] at h
    exact Rat.ext h.1 (by omega)
  · rintro rfl; rfl
theorem deq_fr {p q : Rat} : D.deq (fr p) (fr q) = decide (p = q) := by
  simp only [fr, D.deq, D.deqs, Bool.and_true]
  rw [Bool.eq_iff_iff]
  simp only [Bool.and_eq_true, beq_iff_eq, decide_eq_true_eq]
  exact ⟨fun ⟨a, b⟩ => Rat.ext a (by omega), fun h => by subst h; exact ⟨rfl, rfl⟩⟩
theorem deq_sp {p q : Pt} : D.deq (spD p) (spD q) = decide (p = q) := by
  simp only [spD, D.deq, D.deqs, Bool.and_true, deq_fr]
  rw [Bool.eq_iff_iff]
  simp only [Bool.and_eq_true, decide_eq_true_eq]
  exact ⟨fun ⟨a, b⟩ => Prod.ext a b, fun h => by subst h; exact ⟨rfl, rfl⟩⟩
theorem deq_wl {p q : Wl} : D.deq (wlD p) (wlD q) = decide (p = q) := by
  simp only [wlD, D.deq, D.deqs, Bool.and_true, deq_sp]
  rw [Bool.eq_iff_iff]
  simp only [Bool.and_eq_true, decide_eq_true_eq]
  exact ⟨fun ⟨a, b⟩ => Prod.ext a b, fun h => by subst h; exact ⟨rfl, rfl⟩⟩
end FL
set_option maxRecDepth 100000
namespace FL
open PySem PySem.Spec L2 ML
def b_cell_at : MS := (mSeq (mIfS (mTst (mOp aLt (mVar 1) (mBlt bLen (mCons (mVar 0) mNil)))) (mRet (mOp rIxM (mVar 0) (mVar 1))) mNext)
  (mRet (mC (.int 0))))
def b_low : MS := (mSeq (mSet 2 (mBlt bAbs (mCons (mVar 0) mNil)))
  (mSeq (mSet 3 (mBlt bAbs (mCons (mVar 1) mNil)))
  (mSeq (mWhile (mTst (mOp rNeM (mVar 3) (mC (.int 0)))) (mPar 2 3 (mCons (mVar 3) (mCons (mOp rMod (mVar 2) (mVar 3)) mNil))))
  (mSeq (mIfS (mTst (mOp aLt (mVar 1) (mC (.int 0)))) (mSet 2 (mUn rNeg (mVar 2))) mNext)
  (mRet (mTup (mCons (mOp rDiv (mVar 0) (mVar 2)) (mCons (mOp rDiv (mVar 1) (mVar 2)) mNil))))))))
def b_divisor : MS := (mSeq (mWhile (mTst (mOp rNeM (mVar 1) (mC (.int 0)))) (mPar 0 1 (mCons (mVar 1) (mCons (mOp rMod (mVar 0) (mVar 1)) mNil))))
  (mRet (mVar 0)))
def b_is_less : MS := (mRet (mOp aLt (mOp rMul (mOp rIxM (mVar 0) (mC (.int 0))) (mOp rIxM (mVar 1) (mC (.int 1)))) (mOp rMul (mOp rIxM (mVar 1) (mC (.int 0))) (mOp rIxM (mVar 0) (mC (.int 1))))))
def b_fraction : MS := (mSeq (mIfS (mTst (mOp rEqM (mVar 1) (mC (.int 0)))) mNever mNext)
  (mSeq (mSet 2 (mCall FL.sp_divisor (mCons (mBlt bAbs (mCons (mVar 0) mNil)) (mCons (mBlt bAbs (mCons (mVar 1) mNil)) mNil))))
  (mSeq (mIfS (mTst (mOp aLt (mVar 1) (mC (.int 0)))) (mSet 2 (mUn rNeg (mVar 2))) mNext)
  (mRet (mTup (mCons (mOp rDiv (mVar 0) (mVar 2)) (mCons (mOp rDiv (mVar 1) (mVar 2)) mNil)))))))
def b_is_ahead : MS := (mSeq (mIfS (mTst (mOp rNeM (mOp rIxM (mVar 0) (mC (.int 0))) (mOp rIxM (mVar 1) (mC (.int 0))))) (mRet (mCall FL.sp_is_less (mCons (mOp rIxM (mVar 0) (mC (.int 0))) (mCons (mOp rIxM (mVar 1) (mC (.int 0))) mNil)))) mNext)
  (mRet (mCall FL.sp_is_less (mCons (mOp rIxM (mVar 0) (mC (.int 1))) (mCons (mOp rIxM (mVar 1) (mC (.int 1))) mNil)))))
def b_plus : MS := (mRet (mCall FL.sp_low (mCons (mOp rAdd (mOp rMul (mOp rIxM (mVar 0) (mC (.int 0))) (mOp rIxM (mVar 1) (mC (.int 1)))) (mOp rMul (mOp rIxM (mVar 1) (mC (.int 0))) (mOp rIxM (mVar 0) (mC (.int 1))))) (mCons (mOp rMul (mOp rIxM (mVar 0) (mC (.int 1))) (mOp rIxM (mVar 1) (mC (.int 1)))) mNil))))
def b_less : MS := (mRet (mCall FL.sp_low (mCons (mOp rSub (mOp rMul (mOp rIxM (mVar 0) (mC (.int 0))) (mOp rIxM (mVar 1) (mC (.int 1)))) (mOp rMul (mOp rIxM (mVar 1) (mC (.int 0))) (mOp rIxM (mVar 0) (mC (.int 1))))) (mCons (mOp rMul (mOp rIxM (mVar 0) (mC (.int 1))) (mOp rIxM (mVar 1) (mC (.int 1)))) mNil))))
def b_times : MS := (mRet (mCall FL.sp_low (mCons (mOp rMul (mOp rIxM (mVar 0) (mC (.int 0))) (mOp rIxM (mVar 1) (mC (.int 0)))) (mCons (mOp rMul (mOp rIxM (mVar 0) (mC (.int 1))) (mOp rIxM (mVar 1) (mC (.int 1)))) mNil))))
def b_over : MS := (mRet (mCall FL.sp_low (mCons (mOp rMul (mOp rIxM (mVar 0) (mC (.int 0))) (mOp rIxM (mVar 1) (mC (.int 1)))) (mCons (mOp rMul (mOp rIxM (mVar 0) (mC (.int 1))) (mOp rIxM (mVar 1) (mC (.int 0)))) mNil))))
def b_along : MS := (mSeq (mAsg (mVar 0) (gTp 2 (gCn (gNm 1) (gCn (gNm 2) gNl))))
  (mRet (mTup (mCons (mCall FL.sp_less (mCons (mOp rIxM (mVar 2) (mC (.int 0))) (mCons (mOp rIxM (mVar 1) (mC (.int 0))) mNil))) (mCons (mCall FL.sp_less (mCons (mOp rIxM (mVar 2) (mC (.int 1))) (mCons (mOp rIxM (mVar 1) (mC (.int 1))) mNil))) mNil)))))
def b_crossed : MS := (mRet (mCall FL.sp_less (mCons (mCall FL.sp_times (mCons (mOp rIxM (mVar 0) (mC (.int 0))) (mCons (mOp rIxM (mVar 1) (mC (.int 1))) mNil))) (mCons (mCall FL.sp_times (mCons (mOp rIxM (mVar 0) (mC (.int 1))) (mCons (mOp rIxM (mVar 1) (mC (.int 0))) mNil))) mNil))))
def b_leaning : MS := (mSeq (mSet 2 (mCall FL.sp_crossed (mCons (mVar 0) (mCons (mVar 1) mNil))))
  (mRet (mOp rSub (mBlt bInt (mCons (mOp aGt (mOp rIxM (mVar 2) (mC (.int 0))) (mC (.int 0))) mNil)) (mBlt bInt (mCons (mOp aLt (mOp rIxM (mVar 2) (mC (.int 0))) (mC (.int 0))) mNil)))))
def b_side_of : MS := (mRet (mCall FL.sp_leaning (mCons (mCall FL.sp_along (mCons (mVar 0) mNil)) (mCons (mCall FL.sp_along (mCons (mTup (mCons (mOp rIxM (mVar 0) (mC (.int 0))) (mCons (mVar 1) mNil))) mNil)) mNil))))
def b_lies_on : MS := (mSeq (mAsg (mVar 0) (gTp 2 (gCn (gNm 2) (gCn (gNm 3) gNl))))
  (mSeq (mIfS (mOr (mTru (mCall FL.sp_is_ahead (mCons (mVar 1) (mCons (mVar 2) mNil)))) (mTru (mCall FL.sp_is_ahead (mCons (mVar 3) (mCons (mVar 1) mNil))))) (mRet (mC (.bl false))) mNext)
  (mRet (mOp rEqM (mCall FL.sp_side_of (mCons (mVar 0) (mCons (mVar 1) mNil))) (mC (.int 0))))))
end FL
set_option maxRecDepth 100000
namespace FL
-- counts /tmp/scratch/dev/N_lib1.json
open PySem PySem.Spec L2 ML
theorem l_cell_at : ∀ ds S Q E, FL.sp_cell_at ds S Q E → ds.length = 2 := by rintro _ _ _ _ ⟨_, _, rfl, _⟩; rfl
theorem l_low : ∀ ds S Q E, FL.sp_low ds S Q E → ds.length = 2 := by rintro _ _ _ _ ⟨_, _, rfl, _⟩; rfl
theorem l_divisor : ∀ ds S Q E, FL.sp_divisor ds S Q E → ds.length = 2 := by rintro _ _ _ _ ⟨_, _, rfl, _⟩; rfl
theorem l_fraction : ∀ ds S Q E, sp_low ds S Q E → ds.length = 2 := l_low
theorem l_two {f : Rat → Rat → Rat} : ∀ ds S Q E, two f ds S Q E → ds.length = 2 := by rintro _ _ _ _ ⟨p, c, rfl, _⟩; rfl
theorem l_plus : ∀ ds S Q E, sp_plus ds S Q E → ds.length = 2 := l_two
theorem l_less : ∀ ds S Q E, sp_less ds S Q E → ds.length = 2 := l_two
theorem l_times : ∀ ds S Q E, sp_times ds S Q E → ds.length = 2 := l_two
theorem l_over : ∀ ds S Q E, FL.sp_over ds S Q E → ds.length = 2 := by rintro _ _ _ _ ⟨_, _, rfl, _⟩; rfl
theorem l_is_less : ∀ ds S Q E, FL.sp_is_less ds S Q E → ds.length = 2 := by rintro _ _ _ _ ⟨_, _, rfl, _⟩; rfl
theorem l_is_ahead : ∀ ds S Q E, FL.sp_is_ahead ds S Q E → ds.length = 2 := by rintro _ _ _ _ ⟨_, _, rfl, _⟩; rfl
theorem l_along : ∀ ds S Q E, FL.sp_along ds S Q E → ds.length = 1 := by rintro _ _ _ _ ⟨_, rfl, _⟩; rfl
theorem l_crossed : ∀ ds S Q E, FL.sp_crossed ds S Q E → ds.length = 2 := by rintro _ _ _ _ ⟨_, _, rfl, _⟩; rfl
theorem l_leaning : ∀ ds S Q E, FL.sp_leaning ds S Q E → ds.length = 2 := by rintro _ _ _ _ ⟨_, _, rfl, _⟩; rfl
theorem l_side_of : ∀ ds S Q E, FL.sp_side_of ds S Q E → ds.length = 2 := by rintro _ _ _ _ ⟨_, _, rfl, _⟩; rfl
theorem l_lies_on : ∀ ds S Q E, FL.sp_lies_on ds S Q E → ds.length = 2 := by rintro _ _ _ _ ⟨_, _, rfl, _⟩; rfl
theorem r_cell_at : ∀ ds S Q E, FL.sp_cell_at ds S Q E → b_cell_at (mends Q E) (mstart 0 ds) S := by
  rintro _ S Q E ⟨ns, k, rfl, q⟩
  unfold b_cell_at
  simp only [ML.q_mstart, ML.q_mends, List.map_cons, List.map_nil, List.replicate, List.cons_append, List.nil_append]
  simp only [gz0]
  split
  · next h =>
    have h : k < ns.length := by simpa using h
    rw [scr_get h]
    exact q _
  · exact q _
theorem gcd_step {i j : Nat} (h : ¬ j = 0) : Nat.gcd i j = Nat.gcd j (i % j) := by rw [Nat.gcd_comm, Nat.gcd_rec, Nat.gcd_comm]
theorem r_divisor : ∀ ds S Q E, FL.sp_divisor ds S Q E → b_divisor (mends Q E) (mstart 0 ds) S := by
  rintro _ S Q E ⟨a, b, rfl, q⟩
  unfold b_divisor
  simp only [ML.q_mstart, ML.q_mends, List.map_cons, List.map_nil, List.replicate, List.cons_append, List.nil_append]
  simp only [gz0]
  refine ⟨fun k σ S' => ∃ i j : Nat, σ = [some (.int i), some (.int j)] ∧ k = j ∧ Nat.gcd i j = Nat.gcd a b ∧ S' = S, ⟨b, a, b, rfl, rfl, rfl, rfl⟩, ?_⟩
  rintro k σ S' ⟨i, j, rfl, rfl, hg, rfl⟩
  simp only [gz0]
  by_cases z : k = 0
  · subst z
    rw [if_neg (by decide)]
    rw [Nat.gcd_zero_right] at hg
    rw [hg]; exact q
  · rw [if_pos (by simpa using z)]
    refine ⟨by omega, i % k, Nat.mod_lt _ (by omega), k, i % k, ?_, rfl, by rw [← gcd_step z]; exact hg⟩
    rw [fmod_pos (by omega)]; simp
theorem low_val {t b : Int} (hb : b ≠ 0) {g : Int} (h : g = if b < 0 then -((t.natAbs.gcd b.natAbs : Nat) : Int) else ((t.natAbs.gcd b.natAbs : Nat) : Int)) : t.fdiv g = (Rat.divInt t b).num ∧ b.fdiv g = ((Rat.divInt t b).den : Nat) := by
  have g0 : (0 : Int) < (t.natAbs.gcd b.natAbs : Nat) := by
    have := Nat.gcd_pos_of_pos_right t.natAbs (n := b.natAbs) (by omega)
    omega
  obtain ⟨k, hk⟩ : ((t.natAbs.gcd b.natAbs : Nat) : Int) ∣ t := Int.gcd_dvd_left t b
  obtain ⟨m, hm⟩ : ((t.natAbs.gcd b.natAbs : Nat) : Int) ∣ b := Int.gcd_dvd_right t b
  have e0 : b.gcd t = t.natAbs.gcd b.natAbs := Nat.gcd_comm ..
  rw [Rat.num_divInt, Rat.den_divInt, if_neg hb, e0]
  generalize hn : t.natAbs.gcd b.natAbs = n at *
  have eb : ((b.natAbs / n : Nat) : Int) = (b.natAbs : Int) / n := by simp
  rw [eb]
  have ne : (n : Int) ≠ 0 := by omega
  split at h
  · next hs =>
    subst h
    rw [Int.sign_eq_neg_one_of_neg hs, Int.ofNat_natAbs_of_nonpos (by omega)]
    clear hn e0 eb
    subst hk; subst hm
    have e1 : (n : Int) * k = (-(n : Int)) * (-k) := (Int.neg_mul_neg _ _).symm
    have e2 : (n : Int) * m = (-(n : Int)) * (-m) := (Int.neg_mul_neg _ _).symm
    have e3 : -1 * ((n : Int) * k) = n * (-k) := by rw [Int.mul_neg, Int.neg_one_mul]
    have e4 : -((n : Int) * m) = n * (-m) := by rw [Int.mul_neg]
    rw [e3, e4, Int.mul_ediv_cancel_left _ ne, Int.mul_ediv_cancel_left _ ne, e1, e2, Int.mul_fdiv_cancel_left _ (by omega), Int.mul_fdiv_cancel_left _ (by omega)]
    exact ⟨rfl, rfl⟩
  · next hs =>
    subst h
    rw [Int.sign_eq_one_of_pos (by omega), Int.natAbs_of_nonneg (by omega)]
    clear hn e0 eb
    subst hk; subst hm
    rw [Int.one_mul, Int.mul_ediv_cancel_left _ ne, Int.mul_ediv_cancel_left _ ne, Int.mul_fdiv_cancel_left _ (by omega), Int.mul_fdiv_cancel_left _ (by omega)]
    exact ⟨rfl, rfl⟩
theorem low_end {t b : Int} (hb : b ≠ 0) (hz : b.natAbs.log2 < 9000) {g : Int} (h : g = if b < 0 then -((t.natAbs.gcd b.natAbs : Nat) : Int) else ((t.natAbs.gcd b.natAbs : Nat) : Int)) {S : Sto} {Q : MQ} (q : Q (fr (Rat.divInt t b)) S) :
    DivOk t g ∧ DivOk b g ∧ 2 ≤ sizeLine ∧ Q (.tup [.int (t.fdiv g), .int (b.fdiv g)]) S := by
  have g0 : (0 : Int) < (t.natAbs.gcd b.natAbs : Nat) := by
    have := Nat.gcd_pos_of_pos_right t.natAbs (n := b.natAbs) (by omega)
    omega
  have gl := log2_mono (Nat.gcd_le_right t.natAbs (n := b.natAbs) (by omega))
  have ne : g ≠ 0 := by split at h <;> omega
  have gz : g.natAbs.log2 < 9000 := by
    have : g.natAbs = t.natAbs.gcd b.natAbs := by split at h <;> omega
    rw [this]; omega
  refine ⟨⟨ne, PyProof.noPylong_of_log2 gz⟩, ⟨ne, PyProof.noPylong_of_log2 gz⟩, line_le (by decide), ?_⟩
  obtain ⟨e1, e2⟩ := low_val hb h
  rw [e1, e2]; exact q
theorem abs_eq (t : Int) : (if t < 0 then -t else t) = (t.natAbs : Int) := by split <;> omega
theorem r_low : ∀ ds S Q E, FL.sp_low ds S Q E → b_low (mends Q E) (mstart 2 ds) S := by
  rintro _ S Q E ⟨t, b, rfl, hb, hz, q⟩
  unfold b_low
  simp only [ML.q_mstart, ML.q_mends, List.map_cons, List.map_nil, List.replicate, List.cons_append, List.nil_append]
  simp only [gz0, abs_eq]
  refine ⟨fun k σ S' => ∃ i j : Nat, σ = [some (.int t), some (.int b), some (.int i), some (.int j)] ∧ k = j ∧ Nat.gcd i j = Nat.gcd t.natAbs b.natAbs ∧ S' = S, ⟨b.natAbs, t.natAbs, b.natAbs, rfl, rfl, rfl, rfl⟩, ?_⟩
  rintro k σ S' ⟨i, j, rfl, rfl, hg, rfl⟩
  simp only [gz0]
  by_cases z : k = 0
  · subst z
    rw [if_neg (by decide)]
    rw [Nat.gcd_zero_right] at hg
    subst hg
    split
    · next h => exact low_end hb hz (by rw [if_pos h]) q
    · next h => exact low_end hb hz (by rw [if_neg h]) q
  · rw [if_pos (by simpa using z)]
    refine ⟨by omega, i % k, Nat.mod_lt _ (by omega), k, i % k, ?_, rfl, by rw [← gcd_step z]; exact hg⟩
    rw [fmod_pos (by omega)]; simp
theorem r_fraction : ∀ ds S Q E, FL.sp_low ds S Q E → b_fraction (mends Q E) (mstart 1 ds) S := by
  rintro _ S Q E ⟨t, b, rfl, hb, hz, q⟩
  unfold b_fraction
  simp only [ML.q_mstart, ML.q_mends, List.map_cons, List.map_nil, List.replicate, List.cons_append, List.nil_append]
  simp only [gz0, abs_eq, mNever]
  rw [if_neg (by simpa using hb)]
  refine ⟨t.natAbs, b.natAbs, rfl, ?_⟩
  simp only [gz0]
  split
  · next h => exact low_end hb hz (by rw [if_pos h]) q
  · next h => exact low_end hb hz (by rw [if_neg h]) q
theorem r_is_less : ∀ ds S Q E, FL.sp_is_less ds S Q E → b_is_less (mends Q E) (mstart 0 ds) S := by
  rintro _ S Q E ⟨p, q, rfl, hz, k⟩
  unfold b_is_less
  simp only [ML.q_mstart, ML.q_mends, List.map_cons, List.map_nil, List.replicate, List.cons_append, List.nil_append]
  simp only [gz0]
  refine ⟨ok_nd (by omega), ok_nd (by omega), ?_⟩
  have e : (p.num * q.den < q.num * p.den) = (p < q) := propext (Rat.lt_iff p q).symm
  simp only [e]; exact k
theorem log2_dd {p q : Rat} (h : sz p + sz q < 8000) : ((p.den : Int) * (q.den : Int)).natAbs.log2 < 9000 := by
  have := sz_pos p
  have := log2_lt' (natAbs_mul_lt (den_abs p) (den_abs q)) (by omega)
  omega
theorem log2_dn {p q : Rat} (h : sz p + sz q < 8000) : ((p.den : Int) * q.num).natAbs.log2 < 9000 := by
  have := sz_pos p
  have := log2_lt' (natAbs_mul_lt (den_abs p) (sz_num q)) (by omega)
  omega
theorem dd_ne (p q : Rat) : (p.den : Int) * (q.den : Int) ≠ 0 := Int.mul_ne_zero (den_ne p) (den_ne q)
theorem r_plus : ∀ ds S Q E, FL.sp_plus ds S Q E → b_plus (mends Q E) (mstart 0 ds) S := by
  rintro _ S Q E ⟨p, q, rfl, hz, k⟩
  unfold b_plus
  simp only [ML.q_mstart, ML.q_mends, List.map_cons, List.map_nil, List.replicate, List.cons_append, List.nil_append]
  simp only [gz0]
  refine ⟨ok_nd (by omega), ok_nd (by omega), ok_dd (by omega), _, _, rfl, dd_ne p q, log2_dd hz, ?_⟩
  rw [← Int.natCast_mul, Rat.divInt_ofNat, ← Rat.add_def']; exact k
theorem r_less : ∀ ds S Q E, FL.sp_less ds S Q E → b_less (mends Q E) (mstart 0 ds) S := by
  rintro _ S Q E ⟨p, q, rfl, hz, k⟩
  unfold b_less
  simp only [ML.q_mstart, ML.q_mends, List.map_cons, List.map_nil, List.replicate, List.cons_append, List.nil_append]
  simp only [gz0]
  refine ⟨ok_nd (by omega), ok_nd (by omega), ok_dd (by omega), _, _, rfl, dd_ne p q, log2_dd hz, ?_⟩
  rw [← Int.natCast_mul, Rat.divInt_ofNat, ← Rat.sub_def']; exact k
theorem r_times : ∀ ds S Q E, FL.sp_times ds S Q E → b_times (mends Q E) (mstart 0 ds) S := by
  rintro _ S Q E ⟨p, q, rfl, hz, k⟩
  unfold b_times
  simp only [ML.q_mstart, ML.q_mends, List.map_cons, List.map_nil, List.replicate, List.cons_append, List.nil_append]
  simp only [gz0]
  refine ⟨ok_nn (by omega), ok_dd (by omega), _, _, rfl, dd_ne p q, log2_dd hz, ?_⟩
  rw [← Int.natCast_mul, Rat.divInt_ofNat, ← Rat.mul_def']; exact k
theorem r_over : ∀ ds S Q E, FL.sp_over ds S Q E → b_over (mends Q E) (mstart 0 ds) S := by
  rintro _ S Q E ⟨p, q, rfl, hz, hq, k⟩
  unfold b_over
  simp only [ML.q_mstart, ML.q_mends, List.map_cons, List.map_nil, List.replicate, List.cons_append, List.nil_append]
  simp only [gz0]
  refine ⟨ok_nd (by omega), ok_dn (by omega), _, _, rfl, Int.mul_ne_zero (den_ne p) (fun z => hq (Rat.num_eq_zero.mp z)), log2_dn hz, ?_⟩
  rw [← div_eq]; exact k
theorem log2_b {b : Int} (h : b.natAbs < 2 ^ 110) : b.natAbs.log2 < 9000 := by
  have := log2_lt' h (by decide)
  omega
theorem r_is_ahead : ∀ ds S Q E, FL.sp_is_ahead ds S Q E → b_is_ahead (mends Q E) (mstart 0 ds) S := by
  rintro _ S Q E ⟨a, b, rfl, ⟨n, ⟨h1, h2⟩, ⟨h3, h4⟩, hn⟩, k⟩
  unfold b_is_ahead
  simp only [ML.q_mstart, ML.q_mends, List.map_cons, List.map_nil, List.replicate, List.cons_append, List.nil_append]
  simp only [gz0]
  by_cases z : a.1 = b.1
  · rw [if_neg (by simpa using z)]
    refine ⟨_, _, rfl, by omega, ?_⟩
    have e : (a.2 < b.2) = ahead a b := by
      unfold ahead; rw [z]; simp [Rat.lt_irrefl]
    simp only [e]; exact k
  · rw [if_pos (by simpa using z)]
    refine ⟨_, _, rfl, by omega, ?_⟩
    have e : (a.1 < b.1) = ahead a b := by
      unfold ahead; simp [z]
    simp only [e]; exact k
theorem SzS.alng {n : Nat} {w : Wl} (h1 : SzS n w.1) (h2 : SzS n w.2) : SzS (2 * n + 1) (alng w) := by
  have := sz_sub w.2.1 w.1.1
  have := sz_sub w.2.2 w.1.2
  obtain ⟨a, b⟩ := h1
  obtain ⟨c, d⟩ := h2
  exact ⟨by simp only [FL.alng]; omega, by simp only [FL.alng]; omega⟩
theorem r_along : ∀ ds S Q E, FL.sp_along ds S Q E → b_along (mends Q E) (mstart 2 ds) S := by
  rintro _ S Q E ⟨w, rfl, ⟨n, ⟨h1, h2⟩, ⟨h3, h4⟩, hn⟩, k⟩
  unfold b_along
  simp only [ML.q_mstart, ML.q_mends, List.map_cons, List.map_nil, List.replicate, List.cons_append, List.nil_append]
  simp only [gz0]
  refine ⟨_, _, rfl, by omega, ?_⟩
  simp only [gz0]
  refine ⟨_, _, rfl, by omega, ?_⟩
  simp only [gz0]
  exact ⟨line_le (by decide), k⟩
theorem r_crossed : ∀ ds S Q E, FL.sp_crossed ds S Q E → b_crossed (mends Q E) (mstart 0 ds) S := by
  rintro _ S Q E ⟨u, v, rfl, ⟨n, ⟨h1, h2⟩, ⟨h3, h4⟩, hn⟩, k⟩
  unfold b_crossed
  simp only [ML.q_mstart, ML.q_mends, List.map_cons, List.map_nil, List.replicate, List.cons_append, List.nil_append]
  simp only [gz0]
  refine ⟨_, _, rfl, by omega, ?_⟩
  simp only [gz0]
  refine ⟨_, _, rfl, by omega, ?_⟩
  simp only [gz0]
  have := sz_mul u.1 v.2
  have := sz_mul u.2 v.1
  refine ⟨_, _, rfl, by omega, ?_⟩
  exact k
theorem r_leaning : ∀ ds S Q E, FL.sp_leaning ds S Q E → b_leaning (mends Q E) (mstart 1 ds) S := by
  rintro _ S Q E ⟨u, v, rfl, hn, k⟩
  unfold b_leaning
  simp only [ML.q_mstart, ML.q_mends, List.map_cons, List.map_nil, List.replicate, List.cons_append, List.nil_append]
  simp only [gz0]
  refine ⟨_, _, rfl, hn, ?_⟩
  simp only [gz0]
  have e : ((if 0 < (crs u v).num then 1 else 0) - if (crs u v).num < 0 then 1 else 0 : Int) = sgn (crs u v) := by
    have h1 : 0 < (crs u v).num ↔ 0 < crs u v := by rw [Rat.lt_iff]; simp
    have h2 : (crs u v).num < 0 ↔ crs u v < 0 := by rw [Rat.lt_iff]; simp
    unfold sgn
    simp only [← h1, ← h2]
    by_cases a : 0 < (crs u v).num
    · rw [if_pos a, if_pos a, if_neg (by omega)]; rfl
    · by_cases b : (crs u v).num < 0
      · rw [if_neg a, if_neg a, if_pos b, if_pos b]; rfl
      · rw [if_neg a, if_neg a, if_neg b, if_neg b]; rfl
  rw [e]; exact k
theorem r_side_of : ∀ ds S Q E, FL.sp_side_of ds S Q E → b_side_of (mends Q E) (mstart 0 ds) S := by
  rintro _ S Q E ⟨w, s, rfl, ⟨n, h1, h2, h3, hn⟩, k⟩
  unfold b_side_of
  simp only [ML.q_mstart, ML.q_mends, List.map_cons, List.map_nil, List.replicate, List.cons_append, List.nil_append]
  simp only [gz0]
  refine ⟨_, rfl, ⟨n, h1, h2, by omega⟩, ?_⟩
  simp only [gz0]
  refine ⟨line_le (by decide), (w.1, s), rfl, ⟨n, h1, h3, by omega⟩, ?_⟩
  simp only [gz0]
  exact ⟨_, _, rfl, ⟨2 * n + 1, SzS.alng h1 h2, SzS.alng (w := (w.1, s)) h1 h3, by omega⟩, k⟩
theorem r_lies_on : ∀ ds S Q E, FL.sp_lies_on ds S Q E → b_lies_on (mends Q E) (mstart 2 ds) S := by
  rintro _ S Q E ⟨w, s, rfl, ⟨n, h1, h2, h3, hn⟩, k⟩
  unfold b_lies_on
  simp only [ML.q_mstart, ML.q_mends, List.map_cons, List.map_nil, List.replicate, List.cons_append, List.nil_append]
  simp only [gz0]
  refine ⟨_, _, rfl, ⟨n, h3, h1, by omega⟩, ?_⟩
  simp only [gz0]
  by_cases z1 : ahead s w.1
  · rw [if_pos (by simpa using z1)]
    have e : decide (liesOn w s) = false := by simp [liesOn, z1]
    rw [e] at k; exact k
  · rw [if_neg (by simpa using z1)]
    refine ⟨_, _, rfl, ⟨n, h2, h3, by omega⟩, ?_⟩
    simp only [gz0]
    by_cases z2 : ahead w.2 s
    · rw [if_pos (by simpa using z2)]
      have e : decide (liesOn w s) = false := by simp [liesOn, z2]
      rw [e] at k; exact k
    · rw [if_neg (by simpa using z2)]
      refine ⟨_, _, rfl, ⟨n, h1, h2, h3, by omega⟩, ?_⟩
      simp only [gz0]
      have e : (side w s = 0) = liesOn w s := by simp [liesOn, z1, z2]
      simp only [e]; exact k
end FL
set_option maxRecDepth 100000
namespace FL
open PySem PySem.Spec L2 ML
/-! ### sizes, bounds from below -/
theorem z_add {p q : Rat} {a b : Nat} (h1 : sz p ≤ a) (h2 : sz q ≤ b) : sz (p + q) ≤ a + b + 1 := by have := sz_add p q; omega
theorem z_sub {p q : Rat} {a b : Nat} (h1 : sz p ≤ a) (h2 : sz q ≤ b) : sz (p - q) ≤ a + b + 1 := by have := sz_sub p q; omega
theorem z_mul {p q : Rat} {a b : Nat} (h1 : sz p ≤ a) (h2 : sz q ≤ b) : sz (p * q) ≤ a + b := by have := sz_mul p q; omega
theorem z_div {p q : Rat} {a b : Nat} (h1 : sz p ≤ a) (h2 : sz q ≤ b) : sz (p / q) ≤ a + b := by have := sz_div p q; omega
theorem z_neg {p : Rat} {a : Nat} (h1 : sz p ≤ a) : sz (-p) ≤ a := by rwa [sz_neg]
theorem z_a1 {w : Wl} {a b : Nat} (h1 : sz w.2.1 ≤ a) (h2 : sz w.1.1 ≤ b) : sz (alng w).1 ≤ a + b + 1 := z_sub h1 h2
theorem z_a2 {w : Wl} {a b : Nat} (h1 : sz w.2.2 ≤ a) (h2 : sz w.1.2 ≤ b) : sz (alng w).2 ≤ a + b + 1 := z_sub h1 h2
theorem z_crs {u v : Pt} {a b c d : Nat} (h1 : sz u.1 ≤ a) (h2 : sz v.2 ≤ b) (h3 : sz u.2 ≤ c) (h4 : sz v.1 ≤ d) : sz (crs u v) ≤ a + b + (c + d) + 1 := z_sub (z_mul h1 h2) (z_mul h3 h4)
theorem SzS.l {n : Nat} {s : Pt} (h : SzS n s) : sz s.1 ≤ n := h.1
theorem SzS.r {n : Nat} {s : Pt} (h : SzS n s) : sz s.2 ≤ n := h.2
theorem SzS.mk {n : Nat} {s : Pt} (h : sz s.1 ≤ n) (h2 : sz s.2 ≤ n) : SzS n s := ⟨h, h2⟩
theorem SzS.mono {m n : Nat} {s : Pt} (h : SzS m s) (hn : m ≤ n) : SzS n s := ⟨Nat.le_trans h.1 hn, Nat.le_trans h.2 hn⟩
theorem z_int {i : Int} {n : Nat} (h : i.natAbs < 2 ^ n) (h0 : 0 < n) : sz (i : Rat) ≤ n := sz_le h0 (by rwa [Rat.num_intCast]) (by rw [Rat.den_intCast]; exact Nat.one_lt_two_pow (by omega))
/-- bounds, found by instances -/
class BD (q : Rat) (n : outParam Nat) : Prop where
  le : sz q ≤ n
class BP (s : Pt) (n : outParam Nat) : Prop where
  l : sz s.1 ≤ n
  r : sz s.2 ≤ n
class BW (w : Wl) (n : outParam Nat) : Prop where
  f : BP w.1 n
  s : BP w.2 n
section
variable {p q : Rat} {s u v : Pt} {w : Wl} {a b n : Nat}
instance bd_add [h1 : BD p a] [h2 : BD q b] : BD (p + q) (a + b + 1) := ⟨z_add h1.le h2.le⟩
instance bd_sub [h1 : BD p a] [h2 : BD q b] : BD (p - q) (a + b + 1) := ⟨z_sub h1.le h2.le⟩
instance bd_mul [h1 : BD p a] [h2 : BD q b] : BD (p * q) (a + b) := ⟨z_mul h1.le h2.le⟩
instance bd_div [h1 : BD p a] [h2 : BD q b] : BD (p / q) (a + b) := ⟨z_div h1.le h2.le⟩
instance bd_neg [h1 : BD p a] : BD (-p) a := ⟨z_neg h1.le⟩
instance bd_l [h : BP s n] : BD s.1 n := ⟨h.l⟩
instance bd_r [h : BP s n] : BD s.2 n := ⟨h.r⟩
instance bp_f [h : BW w n] : BP w.1 n := h.f
instance bp_s [h : BW w n] : BP w.2 n := h.s
instance bd_0 : BD 0 1 := ⟨by decide⟩
instance bd_1 : BD 1 1 := ⟨by decide⟩
instance bp_mk [h1 : BD p a] [h2 : BD q b] : BP (p, q) (max a b) := ⟨by have := h1.le; show sz p ≤ _; omega, by have := h2.le; show sz q ≤ _; omega⟩
instance bw_mk [h1 : BP u a] [h2 : BP v b] : BW (u, v) (max a b) := ⟨⟨by have := h1.l; show sz u.1 ≤ _; omega, by have := h1.r; show sz u.2 ≤ _; omega⟩, ⟨by have := h2.l; show sz v.1 ≤ _; omega, by have := h2.r; show sz v.2 ≤ _; omega⟩⟩
instance bp_alng [h : BW w n] : BP (alng w) (n + n + 1) := ⟨z_a1 h.s.l h.f.l, z_a2 h.s.r h.f.r⟩
instance bd_crs [h1 : BP u a] [h2 : BP v b] : BD (crs u v) (a + b + (a + b) + 1) := ⟨z_crs h1.l h2.r h1.r h2.l⟩
theorem BD.mono [h : BD q a] (hn : a ≤ n) : BD q n := ⟨Nat.le_trans h.le hn⟩
theorem BP.mono [h : BP s a] (hn : a ≤ n) : BP s n := ⟨Nat.le_trans h.l hn, Nat.le_trans h.r hn⟩
theorem BW.mono [h : BW w a] (hn : a ≤ n) : BW w n := ⟨BP.mono hn, BP.mono hn⟩
theorem BP.S [h : BP s a] (hn : a ≤ n) : SzS n s := ⟨Nat.le_trans h.l hn, Nat.le_trans h.r hn⟩
end
/-! ### calls whose answer is one value -/
theorem spD_inj {a b : Pt} (h : spD a = spD b) : a = b := by
  have := deq_sp (p := a) (q := b)
  rw [h] at this
  have r := deq_sp (p := b) (q := b)
  rw [this] at r
  simpa using r
theorem wlD_inj {a b : Wl} (h : wlD a = wlD b) : a = b := by
  have := deq_wl (p := a) (q := b)
  rw [h] at this
  have r := deq_wl (p := b) (q := b)
  rw [this] at r
  simpa using r
section
variable {S : Sto} {Q : Hold MQ} {E : Hold MXQ} {p q : Rat} {a b u v s : Pt} {w : Wl} {m n k : Nat}
theorem c_two {f : Rat → Rat → Rat} [h1 : BD p m] [h2 : BD q n] (h : m + n < 8000) : @CallP (two f) [fr p, fr q] S Q E = Q.v (fr (f p q)) S := by
  have := h1.le
  have := h2.le
  apply propext
  constructor
  · rintro ⟨p', q', e, _, k⟩
    simp only [List.cons.injEq, and_true, fr_inj] at e
    rw [e.1, e.2]; exact k
  · intro k; exact ⟨p, q, rfl, by omega, k⟩
theorem c_plus [h1 : BD p m] [h2 : BD q n] (h : m + n < 8000) : @CallP sp_plus [fr p, fr q] S Q E = Q.v (fr (p + q)) S := c_two h
theorem c_less [h1 : BD p m] [h2 : BD q n] (h : m + n < 8000) : @CallP sp_less [fr p, fr q] S Q E = Q.v (fr (p - q)) S := c_two h
theorem c_law_less [h1 : BD p m] [h2 : BD q n] (h : m + n < 8000) : @CallP sp_law_less [fr p, fr q] S Q E = Q.v (fr (p - q)) S := c_two h
theorem c_times [h1 : BD p m] [h2 : BD q n] (h : m + n < 8000) : @CallP sp_times [fr p, fr q] S Q E = Q.v (fr (p * q)) S := c_two h
theorem c_over [h1 : BD p m] [h2 : BD q n] (h : m + n < 8000) (h3 : q ≠ 0) : @CallP sp_over [fr p, fr q] S Q E = Q.v (fr (p / q)) S := by
  have := h1.le
  have := h2.le
  apply propext
  constructor
  · rintro ⟨p', q', e, _, _, k⟩
    simp only [List.cons.injEq, and_true, fr_inj] at e
    rw [e.1, e.2]; exact k
  · intro k; exact ⟨p, q, rfl, by omega, h3, k⟩
theorem c_is_less [h1 : BD p m] [h2 : BD q n] (h : m + n < 8000) : @CallP sp_is_less [fr p, fr q] S Q E = Q.v (.bl (decide (p < q))) S := by
  have := h1.le
  have := h2.le
  apply propext
  constructor
  · rintro ⟨p', q', e, _, k⟩
    simp only [List.cons.injEq, and_true, fr_inj] at e
    rw [e.1, e.2]; exact k
  · intro k; exact ⟨p, q, rfl, by omega, k⟩
theorem c_is_ahead [h1 : BP a m] [h2 : BP b n] (h : m + n < 4000) : @CallP sp_is_ahead [spD a, spD b] S Q E = Q.v (.bl (decide (ahead a b))) S := by
  apply propext
  constructor
  · rintro ⟨p', q', e, _, k⟩
    simp only [List.cons.injEq, and_true] at e
    cases spD_inj e.1; cases spD_inj e.2; exact k
  · intro k; exact ⟨a, b, rfl, ⟨m + n, BP.S (by omega), BP.S (by omega), by omega⟩, k⟩
theorem c_along [h1 : BW w m] (h : m < 4000) : @CallP sp_along [wlD w] S Q E = Q.v (spD (alng w)) S := by
  apply propext
  constructor
  · rintro ⟨w', e, _, k⟩
    simp only [List.cons.injEq, and_true] at e
    cases wlD_inj e; exact k
  · intro k; exact ⟨w, rfl, ⟨m, BP.S (by omega), BP.S (by omega), by omega⟩, k⟩
theorem c_crossed [h1 : BP u m] [h2 : BP v n] (h : m + n < 1900) : @CallP sp_crossed [spD u, spD v] S Q E = Q.v (fr (crs u v)) S := by
  apply propext
  constructor
  · rintro ⟨p', q', e, _, k⟩
    simp only [List.cons.injEq, and_true] at e
    cases spD_inj e.1; cases spD_inj e.2; exact k
  · intro k; exact ⟨u, v, rfl, ⟨m + n, BP.S (by omega), BP.S (by omega), by omega⟩, k⟩
theorem c_leaning [h1 : BP u m] [h2 : BP v n] (h : m + n < 1900) : @CallP sp_leaning [spD u, spD v] S Q E = Q.v (.int (sgn (crs u v))) S := by
  apply propext
  constructor
  · rintro ⟨p', q', e, _, k⟩
    simp only [List.cons.injEq, and_true] at e
    cases spD_inj e.1; cases spD_inj e.2; exact k
  · intro k; exact ⟨u, v, rfl, ⟨m + n, BP.S (by omega), BP.S (by omega), by omega⟩, k⟩
theorem c_side_of [h1 : BW w m] [h2 : BP s n] (h : m + n < 900) : @CallP sp_side_of [wlD w, spD s] S Q E = Q.v (.int (side w s)) S := by
  apply propext
  constructor
  · rintro ⟨p', q', e, _, k⟩
    simp only [List.cons.injEq, and_true] at e
    cases wlD_inj e.1; cases spD_inj e.2; exact k
  · intro k; exact ⟨w, s, rfl, ⟨m + n, BP.S (by omega), BP.S (by omega), BP.S (by omega), by omega⟩, k⟩
theorem c_lies_on [h1 : BW w m] [h2 : BP s n] (h : m + n < 900) : @CallP sp_lies_on [wlD w, spD s] S Q E = Q.v (.bl (decide (liesOn w s))) S := by
  apply propext
  constructor
  · rintro ⟨p', q', e, _, k⟩
    simp only [List.cons.injEq, and_true] at e
    cases wlD_inj e.1; cases spD_inj e.2; exact k
  · intro k; exact ⟨w, s, rfl, ⟨m + n, BP.S (by omega), BP.S (by omega), BP.S (by omega), by omega⟩, k⟩
theorem c_spans [h1 : BW w m] [h2 : BP s n] (h : m + n < 4000) : @CallP sp_spans [wlD w, spD s] S Q E = Q.v (.bl (decide (spansW w s))) S := by
  apply propext
  constructor
  · rintro ⟨p', q', e, _, k⟩
    simp only [List.cons.injEq, and_true] at e
    cases wlD_inj e.1; cases spD_inj e.2; exact k
  · intro k; exact ⟨w, s, rfl, ⟨m + n, BP.S (by omega), BP.S (by omega), BP.S (by omega), by omega⟩, k⟩
theorem sqI_sp {S : Sto} {s : Pt} : sqI S (spD s) = some ([fr s.1, fr s.2], fun _ => True) := Eq.trans rfl rfl
theorem sqI_wl {S : Sto} {w : Wl} : sqI S (wlD w) = some ([spD w.1, spD w.2], fun _ => True) := Eq.trans rfl rfl
/-! ### the row, beside other lists -/
/-! ### calls that draw -/
theorem t_cell {ns : List Int} {k : Nat} (h : ∀ c : Int, Q.v (.int c) S) : @CallP sp_cell_at [.scr (ns.map .int), .int (k : Nat)] S Q E := ⟨ns, k, rfl, h⟩
theorem t_take {P : Addr} {c z : Int} {n : Nat} (hp : S P = some (rowO c n)) (h0 : 0 < z) (h1 : z < 2 ^ 200) (hn : n < 2 ^ 60) (k : ∀ r c' : Int, 0 ≤ r → r < z → Q.v (.int r) (put S P (rowO c' (n + 1 : Nat)))) : @CallP sp_take [.ref P, .int z] S Q E :=
  ⟨P, c, n, z, rfl, hp, h0, h1, hn, k⟩
theorem t_low {t b : Int} (hb : b ≠ 0) (hz : b.natAbs < 2 ^ 200) (k : Q.v (fr (Rat.divInt t b)) S) : @CallP sp_low [.int t, .int b] S Q E :=
  ⟨t, b, rfl, hb, by have := log2_lt' hz (by decide); omega, k⟩
end
end FL
namespace FL
open PySem PySem.Spec L2 ML
/-! ### units: spots and walls of whole numbers, told as spots by a length and where it begins -/
structure Sc where
  t : Int
  b : Int
  x : Int
  y : Int
def scD (s : Sc) : D := .tup [.int s.t, .int s.b, .int s.x, .int s.y]
structure ScOk (s : Sc) : Prop where
  t1 : 1 ≤ s.t
  t2 : s.t ≤ 2 ^ 70
  b1 : 1 ≤ s.b
  b2 : s.b ≤ 2 ^ 90
  x1 : -(2 ^ 100) ≤ s.x
  x2 : s.x ≤ 2 ^ 100
  y1 : -(2 ^ 100) ≤ s.y
  y2 : s.y ≤ 2 ^ 100
def ofU (u : U2) : Pt := ((u.1 : Rat), (u.2 : Rat))
def ofW (w : UW) : Wl := (ofU w.1, ofU w.2)
/-- a spot in units, as the scale tells it -/
def af (s : Sc) (p : Pt) : Pt := ((p.1 * s.t + s.x) / s.b, (p.2 * s.t + s.y) / s.b)
def afw (s : Sc) (w : Wl) : Wl := (af s w.1, af s w.2)
structure UOk (m : Int) (u : U2) : Prop where
  a1 : -m ≤ u.1
  a2 : u.1 ≤ m
  b1 : -m ≤ u.2
  b2 : u.2 ≤ m
structure WOk (m : Int) (w : UW) : Prop where
  f : UOk m w.1
  s : UOk m w.2
def uturn (a b c : U2) : Int := side (ofU a, ofU b) (ofU c)
def uon (w : UW) (s : U2) : Prop := ule w.1 s ∧ ule s w.2 ∧ uturn w.1 w.2 s = 0
instance : Decidable (uon w s) := by unfold uon; infer_instance
/-- whether two walls in units meet at ends alone, as the laws look at it -/
def ufair (a b : UW) : Bool :=
  !decide (a = b) && (!(!(decide (a.1 = b.1) || decide (a.2 = b.1)) && decide (uon a b.1)) && (!(!(decide (a.1 = b.2) || decide (a.2 = b.2)) && decide (uon a b.2)) &&
  (!(!(decide (b.1 = a.1) || decide (b.2 = a.1)) && decide (uon b a.1)) && (!(!(decide (b.1 = a.2) || decide (b.2 = a.2)) && decide (uon b a.2)) &&
  (decide (0 ≤ uturn a.1 a.2 b.1 * uturn a.1 a.2 b.2) || decide (0 ≤ uturn b.1 b.2 a.1 * uturn b.1 b.2 a.2))))))
def sp_uspot : MSp := fun ds S Q _ => ∃ (s : Sc) (u : U2), ds = [scD s, uD u] ∧ ScOk s ∧ UOk (2 ^ 20) u ∧ Q (spD (af s (ofU u))) S
def sp_made : MSp := fun ds S Q _ => ∃ (s : Sc) (d : D) (ws : List UW), ds = [scD s, d] ∧ SeqK S d (ws.map uwD) ∧ ws.length ≤ 1000 ∧ ScOk s ∧ (∀ w ∈ ws, WOk (2 ^ 20) w) ∧ Q (.tup (ws.map fun w => wlD (afw s (ofW w)))) S
def sp_turn : MSp := fun ds S Q _ => ∃ a b c : U2, ds = [uD a, uD b, uD c] ∧ UOk (2 ^ 30) a ∧ UOk (2 ^ 30) b ∧ UOk (2 ^ 30) c ∧ Q (.int (uturn a b c)) S
def sp_on : MSp := fun ds S Q _ => ∃ (w : UW) (s : U2), ds = [uwD w, uD s] ∧ WOk (2 ^ 30) w ∧ UOk (2 ^ 30) s ∧ Q (.bl (decide (uon w s))) S
def sp_fair : MSp := fun ds S Q _ => ∃ a b : UW, ds = [uwD a, uwD b] ∧ WOk (2 ^ 30) a ∧ WOk (2 ^ 30) b ∧ ∀ S', (∀ q o, S q = some o → S' q = some o) → Q (.bl (ufair a b)) S'
/-- walls drawn: rising, on the grid, unlike, meeting at ends alone -/
structure Drawn (most : Nat) (size : Int) (ws : List UW) : Prop where
  len : ws.length ≤ most
  up : ∀ w ∈ ws, ult w.1 w.2
  lo : ∀ w ∈ ws, -size ≤ w.1.1 ∧ w.1.1 < size ∧ -size ≤ w.1.2 ∧ w.1.2 < size ∧ -size ≤ w.2.1 ∧ w.2.1 < size ∧ -size ≤ w.2.2 ∧ w.2.2 < size
  fair : ws.Pairwise fun a b => ufair b a = true
def sp_shuts_here : MSp := fun ds S Q _ => ∃ (p : Addr) (c : Int) (n most : Nat) (size : Int), ds = [.ref p, .int most, .int size] ∧ S p = some (rowO c n) ∧ n < 2 ^ 50 ∧ most ≤ 100 ∧ 0 < size ∧ size ≤ 1000 ∧
  ∀ (ws : List UW) (q : Addr) (c' : Int) (n' : Nat) (S' : Sto), Drawn most size ws → n' ≤ n + 1000 → S q = none → q ≠ p → (∀ a o, a ≠ p → S a = some o → S' a = some o) → S' p = some (rowO c' n') → S' q = some (.lst (ws.map uwD)) → Q (.ref q) S'
/-! ### lists of walls in units -/
theorem deps_uw (ws : List UW) : D.deps (ws.map uwD) ≤ 2 := deps_map fun w => by rw [dep_uw]; exact Nat.le_refl _
theorem plains_uw (ws : List UW) : D.plains (ws.map uwD) = true := plains_map plain_uw
theorem eqOk_luw0 {ws : List UW} : eqOk (.lst (ws.map uwD)) (.lst []) = true := eqOk_of' (plains_uw ws) rfl (by have := deps_uw ws; rw [D.dep]; omega) (by decide)
theorem deq_luw0 {ws : List UW} : D.deq (.lst (ws.map uwD)) (.lst []) = ws.isEmpty := by cases ws <;> rfl
theorem ixL_map {α : Type} {xs : List α} {f : α → D} {r : Int} (h0 : 0 ≤ r) (h1 : r < xs.length) : ∃ a ∈ xs, ixL (xs.map f) r = some (f a) := by
  obtain ⟨k, rfl⟩ := Int.eq_ofNat_of_zero_le h0
  have hk : k < xs.length := by omega
  refine ⟨xs[k], List.getElem_mem hk, ?_⟩
  rw [ixL_cast, List.getElem?_map, List.getElem?_eq_getElem hk]; rfl
theorem sgn_bd (q : Rat) : -1 ≤ sgn q ∧ sgn q ≤ 1 := by
  unfold sgn
  split
  · decide
  · split <;> decide
theorem uturn_bd (a b c : U2) : -1 ≤ uturn a b c ∧ uturn a b c ≤ 1 := sgn_bd _
theorem ult_asymm {a b : U2} (h : ult a b) : ¬ ult b a := by unfold ult at *; omega
theorem ult_tri {a b : U2} (h : a ≠ b) : ult a b ∨ ult b a := by
  unfold ult
  have : ¬ (a.1 = b.1 ∧ a.2 = b.2) := fun z => h (Prod.ext z.1 z.2)
  omega
theorem t_takeA {S : Sto} {Q : Hold MQ} {E : Hold MXQ} {P : Addr} {c z : Int} {n : Nat} (hp : S P = some (rowO c n)) (h0 : 0 < z) (h1 : z < 2 ^ 200) (hn : n < 2 ^ 60)
    (k : ∀ (r c' : Int) (S' : Sto), 0 ≤ r → r < z → S' P = some (rowO c' (n + 1 : Nat)) → (∀ a, a ≠ P → S' a = S a) → Q.v (.int r) S') : @CallP sp_take [.ref P, .int z] S Q E :=
  t_take hp h0 h1 hn fun r c' r0 r1 => k r c' _ r0 r1 put_same fun a h => put_ne h
end FL
set_option maxRecDepth 100000
namespace FL
open PySem PySem.Spec L2 ML
def b_turn : MS := (mSeq (mSet 3 (mTup (mCons (mOp rSub (mOp rIxM (mVar 1) (mC (.int 0))) (mOp rIxM (mVar 0) (mC (.int 0)))) (mCons (mOp rSub (mOp rIxM (mVar 1) (mC (.int 1))) (mOp rIxM (mVar 0) (mC (.int 1)))) mNil))))
  (mSeq (mSet 4 (mTup (mCons (mOp rSub (mOp rIxM (mVar 2) (mC (.int 0))) (mOp rIxM (mVar 0) (mC (.int 0)))) (mCons (mOp rSub (mOp rIxM (mVar 2) (mC (.int 1))) (mOp rIxM (mVar 0) (mC (.int 1)))) mNil))))
  (mSeq (mSet 5 (mOp rSub (mOp rMul (mOp rIxM (mVar 3) (mC (.int 0))) (mOp rIxM (mVar 4) (mC (.int 1)))) (mOp rMul (mOp rIxM (mVar 3) (mC (.int 1))) (mOp rIxM (mVar 4) (mC (.int 0))))))
  (mRet (mOp rSub (mBlt bInt (mCons (mOp aGt (mVar 5) (mC (.int 0))) mNil)) (mBlt bInt (mCons (mOp aLt (mVar 5) (mC (.int 0))) mNil)))))))
def b_uspot : MS := (mSeq (mAsg (mVar 0) (gTp 4 (gCn (gNm 2) (gCn (gNm 3) (gCn (gNm 4) (gCn (gNm 5) gNl))))))
  (mRet (mTup (mCons (mCall FL.sp_low (mCons (mOp rAdd (mOp rMul (mOp rIxM (mVar 1) (mC (.int 0))) (mVar 2)) (mVar 4)) (mCons (mVar 3) mNil))) (mCons (mCall FL.sp_low (mCons (mOp rAdd (mOp rMul (mOp rIxM (mVar 1) (mC (.int 1))) (mVar 2)) (mVar 5)) (mCons (mVar 3) mNil))) mNil)))))
def b_on : MS := (mRet (mAndV (mChain aLe aLe (mOp rIxM (mVar 0) (mC (.int 0))) (mVar 1) (mOp rIxM (mVar 0) (mC (.int 1)))) (mOp rEqM (mCall FL.sp_turn (mCons (mOp rIxM (mVar 0) (mC (.int 0))) (mCons (mOp rIxM (mVar 0) (mC (.int 1))) (mCons (mVar 1) mNil)))) (mC (.int 0)))))
def b_made : MS := (mRet (mBlt bTuple (mCons (mCompF (iS (mVar 1)) (gTp 2 (gCn (gNm 2) (gCn (gNm 3) gNl))) mYes (mTup (mCons (mCall FL.sp_uspot (mCons (mVar 0) (mCons (mVar 2) mNil))) (mCons (mCall FL.sp_uspot (mCons (mVar 0) (mCons (mVar 3) mNil))) mNil))) [2, 3]) mNil)))
def b_fair : MS := (mSeq (mIfS (mTst (mOp rEqM (mVar 0) (mVar 1))) (mRet (mC (.bl false))) mNext)
  (mSeq (mFor (iS (mTup (mCons (mTup (mCons (mVar 0) (mCons (mVar 1) mNil))) (mCons (mTup (mCons (mVar 1) (mCons (mVar 0) mNil))) mNil)))) (gTp 2 (gCn (gNm 2) (gCn (gNm 3) gNl))) (mFor (iS (mVar 3)) (gNm 4) (mIfS (mAnd (mTst (mOp (rInM true) (mVar 4) (mVar 2))) (mTru (mCall FL.sp_on (mCons (mVar 2) (mCons (mVar 4) mNil))))) (mRet (mC (.bl false))) mNext)))
  (mSeq (mSet 5 (mComp (iS (mVar 1)) (gNm 4) mYes (mCall FL.sp_turn (mCons (mOp rIxM (mVar 0) (mC (.int 0))) (mCons (mOp rIxM (mVar 0) (mC (.int 1))) (mCons (mVar 4) mNil)))) [4]))
  (mSeq (mSet 6 (mComp (iS (mVar 0)) (gNm 4) mYes (mCall FL.sp_turn (mCons (mOp rIxM (mVar 1) (mC (.int 0))) (mCons (mOp rIxM (mVar 1) (mC (.int 1))) (mCons (mVar 4) mNil)))) [4]))
  (mRet (mOrV (mOp aGe (mOp rMul (mOp rIxM (mVar 5) (mC (.int 0))) (mOp rIxM (mVar 5) (mC (.int 1)))) (mC (.int 0))) (mOp aGe (mOp rMul (mOp rIxM (mVar 6) (mC (.int 0))) (mOp rIxM (mVar 6) (mC (.int 1)))) (mC (.int 0)))))))))
def b_shuts_here : MS := (mSeq (mSet 3 (mLst mNil))
  (mSeq (mFor (iR1 (mCons (mCall FL.sp_take (mCons (mVar 0) (mCons (mOp rAdd (mVar 1) (mC (.int 1))) mNil))) mNil)) (gNm 4) (mSeq (mSet 5 (mTup (mCons (mCall FL.sp_take (mCons (mVar 0) (mCons (mVar 2) mNil))) (mCons (mCall FL.sp_take (mCons (mVar 0) (mCons (mVar 2) mNil))) mNil))))
  (mSeq (mSet 6 (mTup (mCons (mCall FL.sp_take (mCons (mVar 0) (mCons (mVar 2) mNil))) (mCons (mCall FL.sp_take (mCons (mVar 0) (mCons (mVar 2) mNil))) mNil))))
  (mSeq (mIfJ (mAnd (mTst (mOp rNeM (mVar 3) (mLstF mNil))) (mTst (mOp aGt (mCall FL.sp_take (mCons (mVar 0) (mCons (mC (.int 3)) mNil))) (mC (.int 0))))) (mSet 5 (mOp rIxM (mOp rIxM (mVar 3) (mCall FL.sp_take (mCons (mVar 0) (mCons (mBlt bLen (mCons (mVar 3) mNil)) mNil)))) (mCall FL.sp_take (mCons (mVar 0) (mCons (mC (.int 2)) mNil))))) mNext)
  (mSeq (mSet 7 (mTup (mCons (mBlt bMinA (mCons (mVar 5) (mCons (mVar 6) mNil))) (mCons (mBlt bMaxA (mCons (mVar 5) (mCons (mVar 6) mNil))) mNil))))
  (mIfJ (mAnd (mTst (mOp rNeM (mVar 5) (mVar 6))) (mTru (mBlt bAll (mCons (mCompF (iS (mVar 3)) (gNm 8) mYes (mCall FL.sp_fair (mCons (mVar 7) (mCons (mVar 8) mNil))) [8]) mNil)))) (mExpr (mMt mtAppend (mVar 3) (mCons (mVar 7) mNil))) mNext))))))
  (mRet (mVar 3))))
end FL
set_option maxRecDepth 100000
namespace FL
-- counts /tmp/scratch/dev/N_lib2.json
open PySem PySem.Spec L2 ML
theorem l_uspot : ∀ ds S Q E, FL.sp_uspot ds S Q E → ds.length = 2 := by rintro _ _ _ _ ⟨_, _, rfl, _⟩; rfl
theorem l_made : ∀ ds S Q E, FL.sp_made ds S Q E → ds.length = 2 := by rintro _ _ _ _ ⟨_, _, _, rfl, _⟩; rfl
theorem l_turn : ∀ ds S Q E, FL.sp_turn ds S Q E → ds.length = 3 := by rintro _ _ _ _ ⟨_, _, _, rfl, _⟩; rfl
theorem l_on : ∀ ds S Q E, FL.sp_on ds S Q E → ds.length = 2 := by rintro _ _ _ _ ⟨_, _, rfl, _⟩; rfl
theorem l_fair : ∀ ds S Q E, FL.sp_fair ds S Q E → ds.length = 2 := by rintro _ _ _ _ ⟨_, _, rfl, _⟩; rfl
theorem l_shuts_here : ∀ ds S Q E, FL.sp_shuts_here ds S Q E → ds.length = 3 := by rintro _ _ _ _ ⟨_, _, _, _, _, rfl, _⟩; rfl
theorem jf_f {σ : MSt} {S : Sto} {t u : MS} {De : MEnds} (h : u De σ S) : @JfP False σ S ⟨t⟩ ⟨u⟩ ⟨De⟩ := ⟨De.nx, ⟨fun z => z.elim, fun _ => h⟩, fun _ _ z => z⟩
theorem jf_split {c : Prop} {σ : MSt} {S : Sto} {t u : MS} {De : MEnds} (h1 : c → t De σ S) (h2 : ¬ c → u De σ S) : @JfP c σ S ⟨t⟩ ⟨u⟩ ⟨De⟩ := ⟨De.nx, ⟨h1, h2⟩, fun _ _ z => z⟩
theorem rat_div_int {a b : Int} (hb : b ≠ 0) : Rat.divInt a b = (a : Rat) / (b : Rat) := by rw [Rat.divInt_eq_div]
theorem isgn (i : Int) : ((if 0 < i then 1 else 0) - if i < 0 then 1 else 0 : Int) = sgn (i : Rat) := by
  have := sgn_num (i : Rat)
  rwa [Rat.num_intCast] at this
theorem uturn_eq (a b c : U2) : uturn a b c = sgn (((b.1 - a.1) * (c.2 - a.2) - (b.2 - a.2) * (c.1 - a.1) : Int) : Rat) := by
  unfold uturn side crs alng ofU
  congr 1
  simp only [Rat.intCast_sub, Rat.intCast_mul]
theorem r_uspot : ∀ ds S Q E, FL.sp_uspot ds S Q E → b_uspot (mends Q E) (mstart 4 ds) S := by
  rintro _ S Q E ⟨s, u, rfl, hs, hu, k⟩
  obtain ⟨t1, t2, b1, b2, x1, x2, y1, y2⟩ := hs
  obtain ⟨u1, u2, u3, u4⟩ := hu
  have m1 : (u.1 * s.t).natAbs < 2 ^ 92 := natAbs_mul_lt (a := 21) (b := 71) (by omega) (by omega)
  have m2 : (u.2 * s.t).natAbs < 2 ^ 92 := natAbs_mul_lt (a := 21) (b := 71) (by omega) (by omega)
  unfold b_uspot
  simp only [ML.q_mstart, ML.q_mends, List.map_cons, List.map_nil, List.replicate, List.cons_append, List.nil_append]
  simp only [gz1, scD]
  refine ⟨mulok_l (by omega) (by omega), t_low (by omega) (by omega) ?_⟩
  simp only [gz1]
  refine ⟨mulok_l (by omega) (by omega), t_low (by omega) (by omega) ?_⟩
  simp only [gz1]
  rw [rat_div_int (by omega), rat_div_int (by omega)]
  simp only [Rat.intCast_add, Rat.intCast_mul]
  exact k
theorem r_turn : ∀ ds S Q E, FL.sp_turn ds S Q E → b_turn (mends Q E) (mstart 3 ds) S := by
  rintro _ S Q E ⟨a, b, c, rfl, ⟨a1, a2, a3, a4⟩, ⟨b1, b2, b3, b4⟩, ⟨c1, c2, c3, c4⟩, k⟩
  unfold b_turn
  simp only [ML.q_mstart, ML.q_mends, List.map_cons, List.map_nil, List.replicate, List.cons_append, List.nil_append]
  simp only [gz1]
  refine ⟨mulok_l (by omega) (by omega), mulok_l (by omega) (by omega), ?_⟩
  rw [isgn, ← uturn_eq]; exact k
theorem r_on : ∀ ds S Q E, FL.sp_on ds S Q E → b_on (mends Q E) (mstart 0 ds) S := by
  rintro _ S Q E ⟨w, s, rfl, hw, hs, k⟩
  unfold b_on
  simp only [ML.q_mstart, ML.q_mends, List.map_cons, List.map_nil, List.replicate, List.cons_append, List.nil_append]
  simp only [gz1]
  have fin : ∀ b : Bool, b = decide (uon w s) → Q (.bl b) S := by rintro _ rfl; exact k
  refine ⟨fun h1 => ?_, fun h1 => ?_⟩
  · simp only [gz1]
    refine ⟨fun h2 => ?_, fun h2 => ?_⟩
    · simp only [gz1]
      refine ⟨_, _, _, rfl, hw.f, hw.s, hs, ?_⟩
      simp only [gz1]
      exact fin _ (by simp [uon, h1, h2])
    · simp only [gz1]
      exact fin _ (by simp [uon, h1, h2])
  · simp only [gz1]
    exact fin _ (by simp [uon, h1])
theorem r_made : ∀ ds S Q E, FL.sp_made ds S Q E → b_made (mends Q E) (mstart 2 ds) S := by
  rintro _ S Q E ⟨s, d, ws, rfl, hd, hz, hs0, hw, k⟩
  unfold b_made
  simp only [ML.q_mstart, ML.q_mends, List.map_cons, List.map_nil, List.replicate, List.cons_append, List.nil_append]
  obtain ⟨G, hs, g0, hG⟩ := hd.it
  simp only [gz1, hs]
  intro p hp
  refine comp_map uwD (fun w => wlD (afw s (ofW w))) ws rfl hz (fun acc => hG _ _ hp) ?_ ?_
  · intro w acc Q' hm q
    simp only [gz1]
    refine ⟨s, w.1, rfl, hs0, (hw w hm).f, ?_⟩
    simp only [gz1]
    refine ⟨s, w.2, rfl, hs0, (hw w hm).s, ?_⟩
    simp only [gz1]
    exact q
  · simp only [gz1, del_put hp]
    exact k
/-- a spot of a wall, against another wall -/
def chk (w : UW) (s : U2) : Bool := !(decide (w.1 = s) || decide (w.2 = s)) && decide (uon w s)
theorem ufair_eq (a b : UW) : ufair a b = (!decide (a = b) && (!chk a b.1 && (!chk a b.2 && (!chk b a.1 && (!chk b a.2 && (decide (0 ≤ uturn a.1 a.2 b.1 * uturn a.1 a.2 b.2) || decide (0 ≤ uturn b.1 b.2 a.1 * uturn b.1 b.2 a.2))))))) := rfl
theorem r_fair : ∀ ds S Q E, FL.sp_fair ds S Q E → b_fair (mends Q E) (mstart 5 ds) S := by
  rintro _ S Q E ⟨a, b, rfl, ha, hb, k⟩
  have no : ufair a b = false → Q (.bl false) S := fun h => by
    have := k S (fun _ _ h => h)
    rwa [h] at this
  unfold b_fair
  simp only [ML.q_mstart, ML.q_mends, List.map_cons, List.map_nil, List.replicate, List.cons_append, List.nil_append]
  simp only [gz1]
  refine ⟨fun h => ?_, fun hab => ?_⟩
  · simp only [gz1]
    exact no (by simp [ufair, h])
  simp only [gz1]
  refine for_roll ?_
  simp only [gz1]
  refine wfor_inv (fun i σ S' => @KP ⟨S' = S ∧ (∃ z, σ = [some (uwD a), some (uwD b), some (uwD a), some (uwD b), z, none, none]) ∧ (0 < i → chk a b.1 = false) ∧ (1 < i → chk a b.2 = false)⟩) ⟨rfl, ⟨_, rfl⟩, by omega, by omega⟩ ?_ ?_
  · rintro i d σ S' hd ⟨rfl, ⟨z, rfl⟩, c1, c2⟩
    refine ⟨trivial, ?_⟩
    have hi : (i = 0 ∧ d = uD b.1) ∨ (i = 1 ∧ d = uD b.2) := by
      rcases i with _ | _ | i
      · cases hd; exact .inl ⟨rfl, rfl⟩
      · cases hd; exact .inr ⟨rfl, rfl⟩
      · cases hd
    rcases hi with ⟨rfl, rfl⟩ | ⟨rfl, rfl⟩
    · simp only [gz1]
      refine ⟨fun h1 => ?_, fun h1 => ?_⟩
      · simp only [gz1]
        refine ⟨a, b.1, rfl, ha, hb.f, ?_⟩
        simp only [gz1]
        refine ⟨fun h2 => ?_, fun h2 => ?_⟩
        · simp only [gz1]
          exact no (by rw [ufair_eq]; simp [chk, h1, h2])
        · simp only [gz1]
          exact KP.mk ⟨rfl, ⟨_, rfl⟩, fun _ => by simp [chk, h2], by omega⟩
      · simp only [gz1]
        exact KP.mk ⟨rfl, ⟨_, rfl⟩, fun _ => by simp only [Bool.not_eq_false] at h1; simp [chk, h1], by omega⟩
    · simp only [gz1]
      refine ⟨fun h1 => ?_, fun h1 => ?_⟩
      · simp only [gz1]
        refine ⟨a, b.2, rfl, ha, hb.s, ?_⟩
        simp only [gz1]
        refine ⟨fun h2 => ?_, fun h2 => ?_⟩
        · simp only [gz1]
          exact no (by rw [ufair_eq]; simp [chk, h1, h2])
        · simp only [gz1]
          exact KP.mk ⟨rfl, ⟨_, rfl⟩, fun _ => c1 (by decide), fun _ => by simp [chk, h2]⟩
      · simp only [gz1]
        exact KP.mk ⟨rfl, ⟨_, rfl⟩, fun _ => c1 (by decide), fun _ => by simp only [Bool.not_eq_false] at h1; simp [chk, h1]⟩
  rintro σ S1 ⟨rfl, ⟨za, rfl⟩, ca1, ca2⟩
  replace ca1 := ca1 (by simp)
  replace ca2 := ca2 (by simp)
  refine ⟨trivial, ?_⟩
  simp only [gz1]
  refine wfor_inv (fun i σ S' => @KP ⟨S' = S1 ∧ (∃ z, σ = [some (uwD a), some (uwD b), some (uwD b), some (uwD a), z, none, none]) ∧ (0 < i → chk b a.1 = false) ∧ (1 < i → chk b a.2 = false)⟩) ⟨rfl, ⟨_, rfl⟩, by omega, by omega⟩ ?_ ?_
  · rintro i d σ S' hd ⟨rfl, ⟨z, rfl⟩, c1, c2⟩
    refine ⟨trivial, ?_⟩
    have hi : (i = 0 ∧ d = uD a.1) ∨ (i = 1 ∧ d = uD a.2) := by
      rcases i with _ | _ | i
      · cases hd; exact .inl ⟨rfl, rfl⟩
      · cases hd; exact .inr ⟨rfl, rfl⟩
      · cases hd
    rcases hi with ⟨rfl, rfl⟩ | ⟨rfl, rfl⟩
    · simp only [gz1]
      refine ⟨fun h1 => ?_, fun h1 => ?_⟩
      · simp only [gz1]
        refine ⟨b, a.1, rfl, hb, ha.f, ?_⟩
        simp only [gz1]
        refine ⟨fun h2 => ?_, fun h2 => ?_⟩
        · simp only [gz1]
          exact no (by rw [ufair_eq]; simp [chk, h1, h2])
        · simp only [gz1]
          exact KP.mk ⟨rfl, ⟨_, rfl⟩, fun _ => by simp [chk, h2], by omega⟩
      · simp only [gz1]
        exact KP.mk ⟨rfl, ⟨_, rfl⟩, fun _ => by simp only [Bool.not_eq_false] at h1; simp [chk, h1], by omega⟩
    · simp only [gz1]
      refine ⟨fun h1 => ?_, fun h1 => ?_⟩
      · simp only [gz1]
        refine ⟨b, a.2, rfl, hb, ha.s, ?_⟩
        simp only [gz1]
        refine ⟨fun h2 => ?_, fun h2 => ?_⟩
        · simp only [gz1]
          exact no (by rw [ufair_eq]; simp [chk, h1, h2])
        · simp only [gz1]
          exact KP.mk ⟨rfl, ⟨_, rfl⟩, fun _ => c1 (by decide), fun _ => by simp [chk, h2]⟩
      · simp only [gz1]
        exact KP.mk ⟨rfl, ⟨_, rfl⟩, fun _ => c1 (by decide), fun _ => by simp only [Bool.not_eq_false] at h1; simp [chk, h1]⟩
  rintro σ S2 ⟨rfl, ⟨zb, rfl⟩, cb1, cb2⟩
  replace cb1 := cb1 (by simp)
  replace cb2 := cb2 (by simp)
  refine ⟨trivial, ?_⟩
  simp only [gz1]
  intro p1 hp1
  refine comp_roll ?_
  simp only [gz1]
  refine ⟨_, _, _, rfl, ha.f, ha.s, hb.f, ?_⟩
  simp only [gz1]
  refine ⟨_, _, _, rfl, ha.f, ha.s, hb.s, ?_⟩
  simp only [gz1]
  intro p2 hp2
  obtain ⟨p21, hp2⟩ := fresh_put hp2
  refine comp_roll ?_
  simp only [gz1]
  refine ⟨_, _, _, rfl, hb.f, hb.s, ha.f, ?_⟩
  simp only [gz1]
  refine ⟨_, _, _, rfl, hb.f, hb.s, ha.s, ?_⟩
  simp only [gz1]
  have g1 : put (put S2 p1 (MO.lst [D.int (uturn a.1 a.2 b.1), D.int (uturn a.1 a.2 b.2)])) p2 (MO.lst [D.int (uturn b.1 b.2 a.1), D.int (uturn b.1 b.2 a.2)]) p1 = some (MO.lst [D.int (uturn a.1 a.2 b.1), D.int (uturn a.1 a.2 b.2)]) := by rw [put_ne (Ne.symm p21), put_same]
  have k' := k (put (put S2 p1 (MO.lst [D.int (uturn a.1 a.2 b.1), D.int (uturn a.1 a.2 b.2)])) p2 (MO.lst [D.int (uturn b.1 b.2 a.1), D.int (uturn b.1 b.2 a.2)])) (fun q o h => by rw [put_ne (sne h hp2), put_ne (sne h hp1)]; exact h)
  rw [ufair_eq, ca1, ca2, cb1, cb2, decide_eq_false hab] at k'
  simp only [gz1, g1]
  have b1 := uturn_bd a.1 a.2 b.1
  have b2 := uturn_bd b.1 b.2 a.1
  refine ⟨mulok_l (by omega) (by omega), fun h1 => ?_, fun h1 => ?_⟩
  · simp only [gz1]
    rw [decide_eq_true h1] at k'
    exact k'
  · simp only [gz1]
    refine ⟨mulok_l (by omega) (by omega), ?_⟩
    rw [decide_eq_false h1] at k'
    exact k'
/-- the next wall drawn -/
theorem Drawn.more {i : Nat} {size : Int} {ws : List UW} (h : Drawn i size ws) (w : UW) (hu : ult w.1 w.2) (hl : -size ≤ w.1.1 ∧ w.1.1 < size ∧ -size ≤ w.1.2 ∧ w.1.2 < size ∧ -size ≤ w.2.1 ∧ w.2.1 < size ∧ -size ≤ w.2.2 ∧ w.2.2 < size) (hf : ∀ v ∈ ws, ufair w v = true) : Drawn (i + 1) size (ws ++ [w]) where
  len := by rw [List.length_append]; have := h.len; simp; omega
  up := fun v hv => by
    rcases List.mem_append.mp hv with z | z
    · exact h.up v z
    · rw [List.mem_singleton.mp z]; exact hu
  lo := fun v hv => by
    rcases List.mem_append.mp hv with z | z
    · exact h.lo v z
    · rw [List.mem_singleton.mp z]; exact hl
  fair := List.pairwise_append.mpr ⟨h.fair, List.pairwise_singleton _ _, fun a ha b hb => by rw [List.mem_singleton.mp hb]; exact hf a ha⟩
theorem Drawn.mono {i j : Nat} {size : Int} {ws : List UW} (h : Drawn i size ws) (hij : i ≤ j) : Drawn j size ws := ⟨Nat.le_trans h.len hij, h.up, h.lo, h.fair⟩
theorem Drawn.ok {i : Nat} {size : Int} {ws : List UW} (h : Drawn i size ws) (hs : size ≤ 1000) : ∀ w ∈ ws, WOk 1000 w := fun w hw => by
  have := h.lo w hw
  exact ⟨⟨by omega, by omega, by omega, by omega⟩, ⟨by omega, by omega, by omega, by omega⟩⟩
theorem UOk.mono {m n : Int} {u : U2} (h : UOk m u) (hn : m ≤ n) : UOk n u := ⟨by have := h.a1; omega, by have := h.a2; omega, by have := h.b1; omega, by have := h.b2; omega⟩
theorem WOk.mono {m n : Int} {u : UW} (h : WOk m u) (hn : m ≤ n) : WOk n u := ⟨h.f.mono hn, h.s.mono hn⟩
theorem r_shuts_here : ∀ ds S Q E, FL.sp_shuts_here ds S Q E → b_shuts_here (mends Q E) (mstart 6 ds) S := by
  rintro _ S Q E ⟨p, c, n, most, size, rfl, hp, hn, hm, s0, s1, k⟩
  unfold b_shuts_here
  simp only [ML.q_mstart, ML.q_mends, List.map_cons, List.map_nil, List.replicate, List.cons_append, List.nil_append]
  simp only [gz1]
  intro q hq
  have qp : q ≠ p := fun z => by rw [z, hp] at hq; cases hq
  refine t_take (by rw [put_ne (Ne.symm qp)]; exact hp) (by omega) (by omega) (by omega) fun tr c1 t0 t1 => ?_
  simp only [gz1, put_sw qp]
  refine ⟨by omega, ?_⟩
  have st : ∀ (S1 S2 : Sto) (ws : List UW), (∀ a, a ≠ p → S2 a = S1 a) → (S1 q = some (.lst (ws.map uwD)) ∧ ∀ x o, x ≠ p → S x = some o → S1 x = some o) → (S2 q = some (.lst (ws.map uwD)) ∧ ∀ x o, x ≠ p → S x = some o → S2 x = some o) :=
    fun S1 S2 ws h ⟨h1, h2⟩ => ⟨(h q qp).trans h1, fun x o hx e => (h x hx).trans (h2 x o hx e)⟩
  refine rng_inv (fun i σ S' => @KP ⟨∃ (ws : List UW) (c' : Int) (n' : Nat) (a b d e f : Option D), σ = [some (.ref p), some (.int most), some (.int size), some (.ref q), a, b, d, e, f] ∧ Drawn i size ws ∧ n' ≤ n + 1 + 7 * i ∧ S' p = some (rowO c' n') ∧ (S' q = some (.lst (ws.map uwD)) ∧ ∀ x o, x ≠ p → S x = some o → S' x = some o)⟩) ?_ ?_ ?_
  · refine ⟨[], c1, n + 1, none, none, none, none, none, rfl, ⟨Nat.zero_le _, by simp, by simp, List.Pairwise.nil⟩, by omega, by rw [put_ne (Ne.symm qp), put_same], put_same, fun x o hx e => ?_⟩
    rw [put_ne (sne e hq), put_ne hx]; exact e
  · rintro i σ S1 hi ⟨ws, c2, n2, a, b, d, e, f, rfl, dr, hn2, hp1, h1⟩
    simp only [gz1]
    refine t_takeA hp1 s0 (by omega) (by omega) fun x1 c3 S2 x10 x11 hp2 e2 => ?_
    have h2 := st _ _ _ e2 h1
    simp only [gz1]
    refine t_takeA hp2 s0 (by omega) (by omega) fun y1 c4 S3 y10 y11 hp3 e3 => ?_
    have h3 := st _ _ _ e3 h2
    simp only [gz1]
    refine t_takeA hp3 s0 (by omega) (by omega) fun x2 c5 S4 x20 x21 hp4 e4 => ?_
    have h4 := st _ _ _ e4 h3
    simp only [gz1]
    refine t_takeA hp4 s0 (by omega) (by omega) fun y2 c6 S5 y20 y21 hp5 e5 => ?_
    have h5 := st _ _ _ e5 h4
    simp only [gz1, look_ref h5.1, eqOk_luw0, deq_luw0]
    refine ⟨fun he => ?_, fun he => ?_⟩
    · have hlen : 0 < ws.length := by
        cases ws with
        | nil => exact absurd he (by decide)
        | cons _ _ => exact Nat.succ_pos _
      simp only [gz1]
      refine t_takeA hp5 (by decide) (by decide) (by omega) fun g c7 S6 g0 g1 hp6 e6 => ?_
      have h6 := st _ _ _ e6 h5
      simp only [gz1]
      refine jf (fun σ' S' => @KP ⟨∃ (o1 : U2) (c' : Int) (n' : Nat), -size ≤ o1.1 ∧ o1.1 < size ∧ -size ≤ o1.2 ∧ o1.2 < size ∧ σ' = [some (.ref p), some (.int most), some (.int size), some (.ref q), some (.int (i : Nat)), some (uD o1), some (uD (x2, y2)), e, f] ∧ n' ≤ n2 + 7 ∧ S' p = some (rowO c' n') ∧ (S' q = some (.lst (ws.map uwD)) ∧ ∀ x o, x ≠ p → S x = some o → S' x = some o)⟩) (fun hg => ?_) (fun hg => ?_) ?_
      · simp only [gz1, h6.1]
        have lw := dr.len
        refine t_takeA hp6 (by omega) (by omega) (by omega) fun r c8 S7 r0 r1 hp7 e7 => ?_
        have h7 := st _ _ _ e7 h6
        obtain ⟨w, hw, ew⟩ := ixL_map (f := uwD) r0 r1
        have lw := dr.lo w hw
        simp only [gz1, h7.1, ew]
        refine t_takeA hp7 (by decide) (by decide) (by omega) fun r2 c9 S8 r20 r21 hp8 e8 => ?_
        have h8 := st _ _ _ e8 h7
        have : r2 = 0 ∨ r2 = 1 := by omega
        rcases this with rfl | rfl
        · simp only [gz1]
          exact KP.mk ⟨w.1, c9, _, by omega, by omega, by omega, by omega, rfl, by omega, hp8, h8⟩
        · simp only [gz1]
          exact KP.mk ⟨w.2, c9, _, by omega, by omega, by omega, by omega, rfl, by omega, hp8, h8⟩
      · simp only [gz1]
        exact KP.mk ⟨(x1, y1), c7, _, by omega, x11, by omega, y11, rfl, by omega, hp6, h6⟩
      rintro _ S6 ⟨o1, c7, n7, ox0, ox1, oy0, oy1, rfl, hn7, hp6, h6⟩
      simp only [gz1, look_ref h6.1, eqOk_luw0, deq_luw0]
      refine ⟨fun hne => ?_, fun hne => ?_⟩
      · simp only [gz1, sqI_at h6.1]
        intro p2 hp2
        have qp2 : q ≠ p2 := sne h6.1 hp2
        have pp2 : p ≠ p2 := sne hp6 hp2
        obtain ⟨sh, hsh⟩ : ∃ sh : UW, sh = (if ult (x2, y2) o1 then (x2, y2) else o1, if ult o1 (x2, y2) then (x2, y2) else o1) := ⟨_, rfl⟩
        have hu : ult sh.1 sh.2 := by
          rcases ult_tri hne with z | z
          · rw [hsh, if_neg (ult_asymm z), if_pos z]; exact z
          · rw [hsh, if_pos z, if_neg (ult_asymm z)]; exact z
        have hlo : -size ≤ sh.1.1 ∧ sh.1.1 < size ∧ -size ≤ sh.1.2 ∧ sh.1.2 < size ∧ -size ≤ sh.2.1 ∧ sh.2.1 < size ∧ -size ≤ sh.2.2 ∧ sh.2.2 < size := by
          rcases ult_tri hne with z | z
          · rw [hsh, if_neg (ult_asymm z), if_pos z]; exact ⟨ox0, ox1, oy0, oy1, by show -size ≤ x2; omega, x21, by show -size ≤ y2; omega, y21⟩
          · rw [hsh, if_pos z, if_neg (ult_asymm z)]; exact ⟨by show -size ≤ x2; omega, x21, by show -size ≤ y2; omega, y21, ox0, ox1, oy0, oy1⟩
        have hok : WOk (2 ^ 30) sh := ⟨⟨by omega, by omega, by omega, by omega⟩, ⟨by omega, by omega, by omega, by omega⟩⟩
        have lw := dr.len
        refine comp_inv (fun k acc S' => @KP ⟨acc = (ws.take k).map (fun v => .bl (ufair sh v)) ∧ ∀ x o, x ≠ p2 → S6 x = some o → S' x = some o⟩) put_same ⟨by simp, fun x o hx e => by rw [put_ne hx]; exact e⟩ ?_ ?_
        · rintro k dd acc S7 hd ⟨rfl, h7⟩ ha
          rw [List.getElem?_map] at hd
          cases ea : ws[k]? with
          | none => rw [ea] at hd; cases hd
          | some v =>
            rw [ea] at hd; cases hd
            have hm := List.mem_of_getElem? ea
            refine ⟨by show olP (S7 q) = _; rw [h7 q _ qp2 h6.1]; rfl, ?_⟩
            simp only [gz1, ← hsh]
            refine ⟨sh, v, rfl, hok, (dr.ok s1 v hm).mono (by decide), fun S8 h8 => ?_⟩
            refine CompNext.mk (h8 p2 _ ha) (line_lt (by simp only [List.length_map, List.length_take]; omega)) (KP.mk ⟨?_, fun x o hx e => ?_⟩)
            · rw [List.take_add_one, ea, List.map_append]; rfl
            · rw [put_ne hx]; exact h8 x o (h7 x o hx e)
        · rintro acc S7 ⟨rfl, h7⟩ ha
          rw [List.length_map, List.take_length] at ha ⊢
          refine ⟨by show olP (S7 q) = _; rw [h7 q _ qp2 h6.1]; rfl, ?_⟩
          have dl : ∀ x, x ≠ p2 → del S7 p2 x = S7 x := fun x hx => if_neg hx
          have h8 : del S7 p2 q = some (.lst (ws.map uwD)) ∧ ∀ x o, x ≠ p → S x = some o → del S7 p2 x = some o := by
            refine ⟨by rw [dl q qp2]; exact h7 q _ qp2 h6.1, fun x o hx e => ?_⟩
            have hx2 : x ≠ p2 := sne (h6.2 x o hx e) hp2
            rw [dl x hx2]; exact h7 x o hx2 (h6.2 x o hx e)
          have hp8 : del S7 p2 p = some (rowO c7 n7) := by rw [dl p pp2]; exact h7 p _ pp2 hp6
          have em : List.map (fun v => D.bl (ufair sh v)) ws = (ws.map fun v => ufair sh v).map .bl := by rw [List.map_map]; rfl
          generalize del S7 p2 = S9 at h8 hp8
          simp only [gz1, em, l_bAll]
          refine jf_split (fun ha2 => ?_) (fun ha2 => ?_)
          · have hall : ∀ v ∈ ws, ufair sh v = true := by
              intro v hv
              have := List.all_eq_true.mp ha2 (ufair sh v) (List.mem_map.mpr ⟨v, hv, rfl⟩)
              exact this
            simp only [gz1, isLst_ref h8.1, h8.1, ← hsh]
            refine ⟨line_lt (by omega), ?_⟩
            refine KP.mk ⟨ws ++ [sh], c7, n7, _, _, _, _, _, rfl, dr.more sh hu hlo hall, by omega, by rw [put_ne (Ne.symm qp)]; exact hp8, ?_, fun x o hx e => ?_⟩
            · rw [put_same, List.map_append]; rfl
            · rw [put_ne (Ne.symm (sne e hq).symm)]
              exact h8.2 x o hx e
          · simp only [gz1]
            exact KP.mk ⟨ws, c7, n7, _, _, _, _, _, rfl, dr.mono (by omega), by omega, hp8, h8⟩
      · simp only [gz1]
        refine jf_f ?_
        simp only [gz1]
        exact KP.mk ⟨ws, c7, n7, _, _, _, _, _, rfl, dr.mono (by omega), by omega, hp6, h6⟩
    · simp only [gz1]
      refine jf (fun σ' S' => @KP ⟨∃ (o1 : U2) (c' : Int) (n' : Nat), -size ≤ o1.1 ∧ o1.1 < size ∧ -size ≤ o1.2 ∧ o1.2 < size ∧ σ' = [some (.ref p), some (.int most), some (.int size), some (.ref q), some (.int (i : Nat)), some (uD o1), some (uD (x2, y2)), e, f] ∧ n' ≤ n2 + 7 ∧ S' p = some (rowO c' n') ∧ (S' q = some (.lst (ws.map uwD)) ∧ ∀ x o, x ≠ p → S x = some o → S' x = some o)⟩) (fun hg => hg.elim) (fun hg => ?_) ?_
      · simp only [gz1]
        exact KP.mk ⟨(x1, y1), c6, _, by omega, x11, by omega, y11, rfl, by omega, hp5, h5⟩
      rintro _ S6 ⟨o1, c7, n7, ox0, ox1, oy0, oy1, rfl, hn7, hp6, h6⟩
      simp only [gz1, look_ref h6.1, eqOk_luw0, deq_luw0]
      refine ⟨fun hne => ?_, fun hne => ?_⟩
      · simp only [gz1, sqI_at h6.1]
        intro p2 hp2
        have qp2 : q ≠ p2 := sne h6.1 hp2
        have pp2 : p ≠ p2 := sne hp6 hp2
        obtain ⟨sh, hsh⟩ : ∃ sh : UW, sh = (if ult (x2, y2) o1 then (x2, y2) else o1, if ult o1 (x2, y2) then (x2, y2) else o1) := ⟨_, rfl⟩
        have hu : ult sh.1 sh.2 := by
          rcases ult_tri hne with z | z
          · rw [hsh, if_neg (ult_asymm z), if_pos z]; exact z
          · rw [hsh, if_pos z, if_neg (ult_asymm z)]; exact z
        have hlo : -size ≤ sh.1.1 ∧ sh.1.1 < size ∧ -size ≤ sh.1.2 ∧ sh.1.2 < size ∧ -size ≤ sh.2.1 ∧ sh.2.1 < size ∧ -size ≤ sh.2.2 ∧ sh.2.2 < size := by
          rcases ult_tri hne with z | z
          · rw [hsh, if_neg (ult_asymm z), if_pos z]; exact ⟨ox0, ox1, oy0, oy1, by show -size ≤ x2; omega, x21, by show -size ≤ y2; omega, y21⟩
          · rw [hsh, if_pos z, if_neg (ult_asymm z)]; exact ⟨by show -size ≤ x2; omega, x21, by show -size ≤ y2; omega, y21, ox0, ox1, oy0, oy1⟩
        have hok : WOk (2 ^ 30) sh := ⟨⟨by omega, by omega, by omega, by omega⟩, ⟨by omega, by omega, by omega, by omega⟩⟩
        have lw := dr.len
        refine comp_inv (fun k acc S' => @KP ⟨acc = (ws.take k).map (fun v => .bl (ufair sh v)) ∧ ∀ x o, x ≠ p2 → S6 x = some o → S' x = some o⟩) put_same ⟨by simp, fun x o hx e => by rw [put_ne hx]; exact e⟩ ?_ ?_
        · rintro k dd acc S7 hd ⟨rfl, h7⟩ ha
          rw [List.getElem?_map] at hd
          cases ea : ws[k]? with
          | none => rw [ea] at hd; cases hd
          | some v =>
            rw [ea] at hd; cases hd
            have hm := List.mem_of_getElem? ea
            refine ⟨by show olP (S7 q) = _; rw [h7 q _ qp2 h6.1]; rfl, ?_⟩
            simp only [gz1, ← hsh]
            refine ⟨sh, v, rfl, hok, (dr.ok s1 v hm).mono (by decide), fun S8 h8 => ?_⟩
            refine CompNext.mk (h8 p2 _ ha) (line_lt (by simp only [List.length_map, List.length_take]; omega)) (KP.mk ⟨?_, fun x o hx e => ?_⟩)
            · rw [List.take_add_one, ea, List.map_append]; rfl
            · rw [put_ne hx]; exact h8 x o (h7 x o hx e)
        · rintro acc S7 ⟨rfl, h7⟩ ha
          rw [List.length_map, List.take_length] at ha ⊢
          refine ⟨by show olP (S7 q) = _; rw [h7 q _ qp2 h6.1]; rfl, ?_⟩
          have dl : ∀ x, x ≠ p2 → del S7 p2 x = S7 x := fun x hx => if_neg hx
          have h8 : del S7 p2 q = some (.lst (ws.map uwD)) ∧ ∀ x o, x ≠ p → S x = some o → del S7 p2 x = some o := by
            refine ⟨by rw [dl q qp2]; exact h7 q _ qp2 h6.1, fun x o hx e => ?_⟩
            have hx2 : x ≠ p2 := sne (h6.2 x o hx e) hp2
            rw [dl x hx2]; exact h7 x o hx2 (h6.2 x o hx e)
          have hp8 : del S7 p2 p = some (rowO c7 n7) := by rw [dl p pp2]; exact h7 p _ pp2 hp6
          have em : List.map (fun v => D.bl (ufair sh v)) ws = (ws.map fun v => ufair sh v).map .bl := by rw [List.map_map]; rfl
          generalize del S7 p2 = S9 at h8 hp8
          simp only [gz1, em, l_bAll]
          refine jf_split (fun ha2 => ?_) (fun ha2 => ?_)
          · have hall : ∀ v ∈ ws, ufair sh v = true := by
              intro v hv
              have := List.all_eq_true.mp ha2 (ufair sh v) (List.mem_map.mpr ⟨v, hv, rfl⟩)
              exact this
            simp only [gz1, isLst_ref h8.1, h8.1, ← hsh]
            refine ⟨line_lt (by omega), ?_⟩
            refine KP.mk ⟨ws ++ [sh], c7, n7, _, _, _, _, _, rfl, dr.more sh hu hlo hall, by omega, by rw [put_ne (Ne.symm qp)]; exact hp8, ?_, fun x o hx e => ?_⟩
            · rw [put_same, List.map_append]; rfl
            · rw [put_ne (Ne.symm (sne e hq).symm)]
              exact h8.2 x o hx e
          · simp only [gz1]
            exact KP.mk ⟨ws, c7, n7, _, _, _, _, _, rfl, dr.mono (by omega), by omega, hp8, h8⟩
      · simp only [gz1]
        refine jf_f ?_
        simp only [gz1]
        exact KP.mk ⟨ws, c7, n7, _, _, _, _, _, rfl, dr.mono (by omega), by omega, hp6, h6⟩
  rintro σ S1 ⟨ws, c2, n2, a, b, d, e, f, rfl, dr, hn2, hp1, h1⟩
  simp only [gz1]
  have hm2 : tr.toNat ≤ most := by omega
  exact k ws q c2 n2 S1 (dr.mono hm2) (by omega) hq qp h1.2 hp1 h1.1
end FL
namespace FL
open PySem PySem.Spec L2 ML
/-! ### the scale keeps order and sides -/
theorem lt_div {a b c : Rat} (h : 0 < c) : a / c < b / c ↔ a < b := by
  rw [Rat.div_def, Rat.div_def]
  have hi : 0 < c⁻¹ := Rat.inv_pos.mpr h
  constructor
  · intro z
    have := Rat.mul_lt_mul_of_pos_right z h
    rw [Rat.mul_assoc, Rat.mul_assoc, Rat.inv_mul_cancel _ (by grind), Rat.mul_one, Rat.mul_one] at this
    exact this
  · intro z; exact Rat.mul_lt_mul_of_pos_right z hi
theorem sgn_pos_mul {k q : Rat} (h : 0 < k) : sgn (k * q) = sgn q := by
  unfold sgn
  have a : 0 < k * q ↔ 0 < q := by
    constructor
    · intro z
      by_cases y : 0 < q
      · exact y
      · have := Rat.mul_nonneg (Rat.le_of_lt h) (show 0 ≤ -q by grind); grind
    · exact Rat.mul_pos h
  have b : k * q < 0 ↔ q < 0 := by
    constructor
    · intro z
      by_cases y : q < 0
      · exact y
      · have := Rat.mul_nonneg (Rat.le_of_lt h) (show 0 ≤ q by grind); grind
    · intro z
      have := Rat.mul_pos h (show 0 < -q by grind); grind
  simp only [a, b]
/-! ### calls -/
section
variable {S : Sto} {Q : Hold MQ} {E : Hold MXQ}
theorem t_made {s : Sc} {d : D} {ws : List UW} (h : ScOk s) (hd : SeqK S d (ws.map uwD)) (hz : ws.length ≤ 1000) (hw : ∀ w ∈ ws, WOk (2 ^ 20) w) (k : Q.v (.tup (ws.map fun w => wlD (afw s (ofW w)))) S) : @CallP sp_made [scD s, d] S Q E := ⟨s, d, ws, rfl, hd, hz, h, hw, k⟩
theorem t_shuts {p : Addr} {c : Int} {n most : Nat} {size m : Int} (hm : m = most) (hp : S p = some (rowO c n)) (hn : n < 2 ^ 50) (h0 : most ≤ 100) (s0 : 0 < size) (s1 : size ≤ 1000)
    (k : ∀ (ws : List UW) (q : Addr) (c' : Int) (n' : Nat) (S' : Sto), Drawn most size ws → n' ≤ n + 1000 → S q = none → q ≠ p → (∀ a o, a ≠ p → S a = some o → S' a = some o) → S' p = some (rowO c' n') → S' q = some (.lst (ws.map uwD)) → Q.v (.ref q) S') : @CallP sp_shuts_here [.ref p, .int m, .int size] S Q E := by
  subst hm; exact ⟨p, c, n, most, size, rfl, hp, hn, h0, s0, s1, k⟩
end
end FL
namespace FL
open PySem PySem.Spec L2 ML
/-! ### ways that lead on in the order of spots -/
def posv (v : Pt) : Prop := 0 < v.1 ∨ (v.1 = 0 ∧ 0 < v.2)
def sb (p q : Pt) : Pt := (p.1 - q.1, p.2 - q.2)
theorem ahead_posv {a b : Pt} : ahead a b ↔ posv (sb b a) := by
  unfold ahead posv sb
  constructor <;> intro h <;> grind
theorem crs_swap (u v : Pt) : crs u v = - crs v u := by unfold crs; grind
/-- the sum of the document: its sign is the side -/
def cx (w : Wl) (s : Pt) : Rat := crs (alng w) (alng (w.1, s))
theorem side_cx (w : Wl) (s : Pt) : side w s = sgn (cx w s) := rfl
theorem sgn_one {q : Rat} : sgn q = 1 ↔ 0 < q := by
  unfold sgn
  split
  · simp_all
  · split <;> simp_all
theorem sgn_m1 {q : Rat} : sgn q = -1 ↔ q < 0 := by
  unfold sgn
  split
  · constructor
    · intro h; simp at h
    · intro h; grind
  · split
    · simp_all
    · simp_all
theorem sgn_0 {q : Rat} : sgn q = 0 ↔ q = 0 := by
  unfold sgn
  split
  · constructor
    · intro h; simp at h
    · intro h; grind
  · split
    · constructor
      · intro h; simp at h
      · intro h; grind
    · constructor <;> intro _ <;> grind
theorem sgn_neg (q : Rat) : sgn (-q) = - sgn q := by
  unfold sgn
  by_cases h1 : 0 < q
  · rw [if_neg (by grind), if_pos (by grind), if_pos h1]
  · by_cases h2 : q < 0
    · rw [if_pos (by grind), if_neg h1, if_pos h2]; rfl
    · rw [if_neg (by grind), if_neg (by grind), if_neg h1, if_neg h2]; rfl
theorem sgn_mul (p q : Rat) : sgn p * sgn q = sgn (p * q) := by
  by_cases h : 0 < p
  · rw [sgn_pos_mul h, sgn_one.mpr h, Int.one_mul]
  · by_cases h2 : p < 0
    · have e : p * q = -((-p) * q) := by grind
      rw [e, sgn_neg, sgn_pos_mul (by grind), sgn_m1.mpr h2]; omega
    · have : p = 0 := by grind
      subst this
      rw [Rat.zero_mul, sgn_0.mpr rfl, Int.zero_mul]
theorem sgn_nonneg {q : Rat} : 0 ≤ sgn q ↔ 0 ≤ q := by
  unfold sgn
  split
  · exact ⟨fun _ => by grind, fun _ => by decide⟩
  · split
    · constructor
      · intro h; simp at h
      · intro h; grind
    · exact ⟨fun _ => by grind, fun _ => by decide⟩
/-! ### two walls that meet at ends alone -/
structure FairW (a b : Wl) : Prop where
  ne : a ≠ b
  e1 : liesOn a b.1 → b.1 = a.1 ∨ b.1 = a.2
  e2 : liesOn a b.2 → b.2 = a.1 ∨ b.2 = a.2
  e3 : liesOn b a.1 → a.1 = b.1 ∨ a.1 = b.2
  e4 : liesOn b a.2 → a.2 = b.1 ∨ a.2 = b.2
  cr : 0 ≤ cx a b.1 * cx a b.2 ∨ 0 ≤ cx b a.1 * cx b a.2
theorem FairW.symm {a b : Wl} (h : FairW a b) : FairW b a := ⟨fun z => h.ne z.symm, h.e3, h.e4, h.e1, h.e2, h.cr.symm⟩
/-! ### one above the other -/
def both (a b : Wl) : Prop := ahead a.1 b.2 ∧ ahead b.1 a.2
instance (a b : Wl) : Decidable (both a b) := by unfold both; infer_instance
theorem ahead_ne {a b : Pt} (h : ahead a b) : a ≠ b := fun z => by subst z; exact ahead_irrefl _ h
structure Up (w : Wl) : Prop where
  up : ahead w.1 w.2
section
variable {a b : Wl}
/-- whether a lies above b, as the document says -/
def pend (a b : Wl) : Pt × Bool := if a.1 ≠ b.1 then (if ahead a.1 b.1 then (b.1, false) else (a.1, true)) else (if ahead a.2 b.2 then (a.2, true) else (b.2, false))
def aboveW (a b : Wl) : Prop := both a b ∧ (if (pend a b).2 = true then side b (pend a b).1 = 1 else side a (pend a b).1 = -1)
instance (a b : Wl) : Decidable (aboveW a b) := by unfold aboveW; infer_instance
end
end FL
namespace FL
open PySem PySem.Spec L2 ML
/-! ### lists that are joined; x in a list of ints -/
section
variable {S : Sto} {Q : MQ}
theorem l_rAdd_rl {p : Addr} {ys : List D} : ML.rAdd (.ref p) (.lst ys) S Q = optP (olP (S p)) fun xs => xs.length + ys.length ≤ sizeLine ∧ Q (.lst (xs ++ ys)) S := by
  simp only [ML.rAdd, ownOf_ref', ownOf_lst, optP, OptP]
  cases olP (S p) <;> rfl
theorem l_rAdd_ll {xs ys : List D} : ML.rAdd (.lst xs) (.lst ys) S Q = (xs.length + ys.length ≤ sizeLine ∧ Q (.lst (xs ++ ys)) S) := Eq.trans rfl rfl
theorem l_rAdd_lr {p : Addr} {xs : List D} : ML.rAdd (.lst xs) (.ref p) S Q = optP (olP (S p)) fun ys => xs.length + ys.length ≤ sizeLine ∧ Q (.lst (xs ++ ys)) S := by
  simp only [ML.rAdd, ownOf_ref', ownOf_lst, optP, OptP]
  cases olP (S p) <;> rfl
theorem l_rAdd_rr {p q : Addr} : ML.rAdd (.ref p) (.ref q) S Q = optP (olP (S p)) fun xs => optP (olP (S q)) fun ys => xs.length + ys.length ≤ sizeLine ∧ Q (.lst (xs ++ ys)) S := by
  simp only [ML.rAdd, ownOf_ref', optP, OptP]
  cases olP (S p) <;> cases olP (S q) <;> rfl
theorem plains_int (ns : List Int) : D.plains (ns.map D.int) = true := plains_map fun _ => rfl
theorem deps_int (ns : List Int) : D.deps (ns.map D.int) ≤ 0 := deps_map fun _ => Nat.le_refl _
theorem mem_int (i : Int) (ns : List Int) : memD (.int i) (ns.map D.int) = decide (i ∈ ns) := by
  induction ns with
  | nil => simp [memD]
  | cons n ns ih =>
    have : memD (.int i) ((n :: ns).map D.int) = (D.deq (.int n) (.int i) || memD (.int i) (ns.map D.int)) := rfl
    rw [this, ih, deq_int]
    by_cases h : n = i
    · simp [h]
    · have h' : ¬ i = n := fun z => h z.symm
      simp [h, h']
theorem in_ints {neg : Bool} {i : Int} {ns : List Int} : rInM neg (.int i) (.lst (ns.map .int)) S Q = Q (.bl (if neg then !decide (i ∈ ns) else decide (i ∈ ns))) S := by
  have c : D.plain (.int i) = true ∧ D.plains (ns.map D.int) = true ∧ D.dep (.int i) ≤ 64 ∧ D.deps (ns.map D.int) ≤ 63 := ⟨rfl, plains_int ns, Nat.zero_le _, Nat.le_trans (deps_int ns) (Nat.zero_le _)⟩
  simp only [rInM, look_lst, mem_int]
  exact propext ⟨fun h => h.2, fun h => ⟨c, h⟩⟩
end
/-! ### walls drawn -/
end FL
set_option maxRecDepth 100000
namespace FL
open PySem PySem.Spec L2 ML
end FL
set_option maxRecDepth 100000
namespace FL
-- counts /tmp/scratch/dev/N_lib3.json
open PySem PySem.Spec L2 ML
end FL
namespace FL
open PySem PySem.Spec L2 ML
/-! ### how two walls meet -/
inductive Meet where
  | no
  | spot (p : Pt)
  | stretch (w : Wl)
deriving DecidableEq
def meD : Meet → D
  | .no => .non
  | .spot p => .tup [.str "spot", spD p]
  | .stretch w => .tup [.str "stretch", wlD w]
def solW (a b : Wl) : Pt := (a.1.1 + crs (alng (a.1, b.1)) (alng b) / crs (alng a) (alng b) * (alng a).1, a.1.2 + crs (alng (a.1, b.1)) (alng b) / crs (alng a) (alng b) * (alng a).2)
def maxP (p q : Pt) : Pt := if ahead p q then q else p
def minP (p q : Pt) : Pt := if ahead q p then q else p
def inLine (a b : Wl) : Meet := if side a b.1 ≠ 0 then .no else if maxP a.1 b.1 = minP a.2 b.2 then .spot (maxP a.1 b.1) else if ahead (maxP a.1 b.1) (minP a.2 b.2) then .stretch (maxP a.1 b.1, minP a.2 b.2) else .no
def meetW (a b : Wl) : Meet := if crs (alng a) (alng b) = 0 then inLine a b else if liesOn a (solW a b) ∧ liesOn b (solW a b) then .spot (solW a b) else .no
/-! ### either way about -/
theorem sol_symm {a b : Wl} (hc : crs (alng a) (alng b) ≠ 0) : solW b a = solW a b := by
  unfold solW
  have e : crs (alng b) (alng a) = - crs (alng a) (alng b) := crs_swap _ _
  rw [e]
  have k1 : crs (alng (b.1, a.1)) (alng a) / - crs (alng a) (alng b) = crs (alng (a.1, b.1)) (alng a) / crs (alng a) (alng b) := by
    have : crs (alng (b.1, a.1)) (alng a) = - crs (alng (a.1, b.1)) (alng a) := by simp only [crs, alng]; grind
    rw [this]
    generalize crs (alng a) (alng b) = C at hc
    grind
  rw [k1]
  have e2 : ∀ C : Rat, C ≠ 0 → C = crs (alng a) (alng b) → (b.1.1 + crs (alng (a.1, b.1)) (alng a) / C * (alng b).1 = a.1.1 + crs (alng (a.1, b.1)) (alng b) / C * (alng a).1) ∧ (b.1.2 + crs (alng (a.1, b.1)) (alng a) / C * (alng b).2 = a.1.2 + crs (alng (a.1, b.1)) (alng b) / C * (alng a).2) := by
    intro C hC eC
    have f1 : (b.1.1 - a.1.1) * C = crs (alng (a.1, b.1)) (alng b) * (alng a).1 - crs (alng (a.1, b.1)) (alng a) * (alng b).1 := by rw [eC]; simp only [crs, alng]; grind
    have f2 : (b.1.2 - a.1.2) * C = crs (alng (a.1, b.1)) (alng b) * (alng a).2 - crs (alng (a.1, b.1)) (alng a) * (alng b).2 := by rw [eC]; simp only [crs, alng]; grind
    generalize crs (alng (a.1, b.1)) (alng b) = X at f1 f2 ⊢
    generalize crs (alng (a.1, b.1)) (alng a) = Y at f1 f2 ⊢
    constructor <;> grind
  exact Prod.ext (e2 _ hc rfl).1 (e2 _ hc rfl).2
end FL
namespace FL
open PySem PySem.Spec L2 ML
def ucross (u v : U2) : Int := u.1 * v.2 - u.2 * v.1
def sp_spot_of_lines : MSp := fun ds S Q _ => ∃ a b : Wl, ds = [wlD a, wlD b] ∧ BW a 400 ∧ BW b 400 ∧ crs (alng a) (alng b) ≠ 0 ∧ Q (spD (solW a b)) S
def sp_meeting_in_line : MSp := fun ds S Q _ => ∃ a b : Wl, ds = [wlD a, wlD b] ∧ BW a 400 ∧ BW b 400 ∧ Q (meD (inLine a b)) S
def sp_meeting : MSp := fun ds S Q _ => ∃ a b : Wl, ds = [wlD a, wlD b] ∧ BW a 400 ∧ BW b 400 ∧ (crs (alng a) (alng b) ≠ 0 → BP (solW a b) 400) ∧ Q (meD (meetW a b)) S
def sp_cross : MSp := fun ds S Q _ => ∃ a b : U2, ds = [uD a, uD b] ∧ UOk (2 ^ 30) a ∧ UOk (2 ^ 30) b ∧ Q (.int (ucross a b)) S
/-! ### a part of a wall's length -/
def atP (w : Wl) (t : Rat) : Pt := (w.1.1 + t * (alng w).1, w.1.2 + t * (alng w).2)
theorem posv_key {v : Pt} (hv : posv v) (s : Rat) : posv (s * v.1, s * v.2) ↔ 0 < s := by
  constructor
  · intro hs
    by_cases z : 0 < s
    · exact z
    · exfalso
      rcases hv with h | ⟨h, h2⟩
      · rcases hs with y | ⟨y, y2⟩
        · have := Rat.mul_nonneg (show 0 ≤ -s by grind) (Rat.le_of_lt h); simp only at y; grind
        · simp only at y y2
          have hs0 : s = 0 := by
            rcases Rat.mul_eq_zero.mp y with w | w
            · exact w
            · grind
          rw [hs0, Rat.zero_mul] at y2; exact absurd y2 (by decide)
      · rcases hs with y | ⟨y, y2⟩
        · simp only at y; rw [h, Rat.mul_zero] at y; exact absurd y (by decide)
        · have := Rat.mul_nonneg (show 0 ≤ -s by grind) (Rat.le_of_lt h2); simp only at y2; grind
  · intro hs
    rcases hv with h | ⟨h, h2⟩
    · exact .inl (Rat.mul_pos hs h)
    · exact .inr ⟨by simp only [h, Rat.mul_zero], Rat.mul_pos hs h2⟩
theorem liesOn_part {w : Wl} (h : Up w) (t : Rat) : liesOn w (atP w t) ↔ 0 ≤ t ∧ t ≤ 1 := by
  have hv : posv (alng w) := ahead_posv.mp h.up
  unfold liesOn
  have hs : side w (atP w t) = 0 := by
    rw [side_cx, sgn_0]; simp only [cx, crs, alng, atP]; grind
  have e1 : sb w.1 (atP w t) = ((-t) * (alng w).1, (-t) * (alng w).2) := by
    simp only [sb, atP, alng, Prod.mk.injEq]; grind
  have e2 : sb (atP w t) w.2 = ((t - 1) * (alng w).1, (t - 1) * (alng w).2) := by
    simp only [sb, atP, alng, Prod.mk.injEq]; grind
  rw [ahead_posv, ahead_posv, e1, e2, posv_key hv, posv_key hv]
  simp only [hs, and_true]
  grind
theorem sol_a (a b : Wl) : solW a b = atP a (crs (alng (a.1, b.1)) (alng b) / crs (alng a) (alng b)) := rfl
theorem sol_b {a b : Wl} (hc : crs (alng a) (alng b) ≠ 0) : solW a b = atP b (crs (alng (a.1, b.1)) (alng a) / crs (alng a) (alng b)) := by
  have hc' : crs (alng b) (alng a) ≠ 0 := by rw [crs_swap]; grind
  rw [sol_symm hc', sol_a]
  congr 1
  rw [crs_swap (alng b) (alng a)]
  have : crs (alng (b.1, a.1)) (alng a) = - crs (alng (a.1, b.1)) (alng a) := by simp only [crs, alng]; grind
  rw [this]
  generalize crs (alng a) (alng b) = C at hc
  grind
end FL
set_option maxRecDepth 100000
namespace FL
open PySem PySem.Spec L2 ML
def b_spot_of_lines : MS := (mSeq (mSet 2 (mCall FL.sp_along (mCons (mVar 0) mNil)))
  (mSeq (mSet 3 (mCall FL.sp_over (mCons (mCall FL.sp_crossed (mCons (mCall FL.sp_along (mCons (mTup (mCons (mOp rIxM (mVar 0) (mC (.int 0))) (mCons (mOp rIxM (mVar 1) (mC (.int 0))) mNil))) mNil)) (mCons (mCall FL.sp_along (mCons (mVar 1) mNil)) mNil))) (mCons (mCall FL.sp_crossed (mCons (mVar 2) (mCons (mCall FL.sp_along (mCons (mVar 1) mNil)) mNil))) mNil))))
  (mRet (mTup (mCons (mCall FL.sp_plus (mCons (mOp rIxM (mOp rIxM (mVar 0) (mC (.int 0))) (mC (.int 0))) (mCons (mCall FL.sp_times (mCons (mVar 3) (mCons (mOp rIxM (mVar 2) (mC (.int 0))) mNil))) mNil))) (mCons (mCall FL.sp_plus (mCons (mOp rIxM (mOp rIxM (mVar 0) (mC (.int 0))) (mC (.int 1))) (mCons (mCall FL.sp_times (mCons (mVar 3) (mCons (mOp rIxM (mVar 2) (mC (.int 1))) mNil))) mNil))) mNil))))))
def b_meeting_in_line : MS := (mSeq (mIfS (mTst (mOp rNeM (mCall FL.sp_side_of (mCons (mVar 0) (mCons (mOp rIxM (mVar 1) (mC (.int 0))) mNil))) (mC (.int 0)))) (mRet (mC .non)) mNext)
  (mSeq (mSet 2 (mOp rIxM (mVar 0) (mC (.int 0))))
  (mSeq (mIfJ (mTru (mCall FL.sp_is_ahead (mCons (mVar 2) (mCons (mOp rIxM (mVar 1) (mC (.int 0))) mNil)))) (mSet 2 (mOp rIxM (mVar 1) (mC (.int 0)))) mNext)
  (mSeq (mSet 3 (mOp rIxM (mVar 0) (mC (.int 1))))
  (mSeq (mIfJ (mTru (mCall FL.sp_is_ahead (mCons (mOp rIxM (mVar 1) (mC (.int 1))) (mCons (mVar 3) mNil)))) (mSet 3 (mOp rIxM (mVar 1) (mC (.int 1)))) mNext)
  (mSeq (mIfS (mTst (mOp rEqM (mVar 2) (mVar 3))) (mRet (mTup (mCons (mC (.str "spot")) (mCons (mVar 2) mNil)))) mNext)
  (mSeq (mIfS (mTru (mCall FL.sp_is_ahead (mCons (mVar 2) (mCons (mVar 3) mNil)))) (mRet (mTup (mCons (mC (.str "stretch")) (mCons (mTup (mCons (mVar 2) (mCons (mVar 3) mNil))) mNil)))) mNext)
  (mRet (mC .non)))))))))
def b_meeting : MS := (mSeq (mIfS (mTst (mOp rEqM (mCall FL.sp_leaning (mCons (mCall FL.sp_along (mCons (mVar 0) mNil)) (mCons (mCall FL.sp_along (mCons (mVar 1) mNil)) mNil))) (mC (.int 0)))) (mRet (mCall FL.sp_meeting_in_line (mCons (mVar 0) (mCons (mVar 1) mNil)))) mNext)
  (mSeq (mSet 2 (mCall FL.sp_spot_of_lines (mCons (mVar 0) (mCons (mVar 1) mNil))))
  (mSeq (mIfS (mAnd (mTru (mCall FL.sp_lies_on (mCons (mVar 0) (mCons (mVar 2) mNil)))) (mTru (mCall FL.sp_lies_on (mCons (mVar 1) (mCons (mVar 2) mNil))))) (mRet (mTup (mCons (mC (.str "spot")) (mCons (mVar 2) mNil)))) mNext)
  (mRet (mC .non)))))
end FL
set_option maxRecDepth 100000
set_option maxHeartbeats 4000000
namespace FL
-- counts /tmp/scratch/dev/N_lib4.json
open PySem PySem.Spec L2 ML
theorem l_spot_of_lines : ∀ ds S Q E, FL.sp_spot_of_lines ds S Q E → ds.length = 2 := by rintro _ _ _ _ ⟨_, _, rfl, _⟩; rfl
theorem l_meeting_in_line : ∀ ds S Q E, FL.sp_meeting_in_line ds S Q E → ds.length = 2 := by rintro _ _ _ _ ⟨_, _, rfl, _⟩; rfl
theorem l_meeting : ∀ ds S Q E, FL.sp_meeting ds S Q E → ds.length = 2 := by rintro _ _ _ _ ⟨_, _, rfl, _⟩; rfl
theorem r_spot_of_lines : ∀ ds S Q E, FL.sp_spot_of_lines ds S Q E → b_spot_of_lines (mends Q E) (mstart 2 ds) S := by
  rintro _ S Q E ⟨a, b, rfl, h1, h2, hc, k⟩
  unfold b_spot_of_lines
  simp only [ML.q_mstart, ML.q_mends, List.map_cons, List.map_nil, List.replicate, List.cons_append, List.nil_append]
  simp (disch := (first | assumption | omega)) only [gz2]
  exact k
theorem maxP_bd {p q : Pt} {n : Nat} (h1 : BP p n) (h2 : BP q n) : BP (maxP p q) n := by unfold maxP; split <;> assumption
theorem minP_bd {p q : Pt} {n : Nat} (h1 : BP p n) (h2 : BP q n) : BP (minP p q) n := by unfold minP; split <;> assumption
theorem r_meeting_in_line : ∀ ds S Q E, FL.sp_meeting_in_line ds S Q E → b_meeting_in_line (mends Q E) (mstart 2 ds) S := by
  rintro _ S Q E ⟨a, b, rfl, h1, h2, k⟩
  unfold b_meeting_in_line
  simp only [ML.q_mstart, ML.q_mends, List.map_cons, List.map_nil, List.replicate, List.cons_append, List.nil_append]
  simp (disch := (first | assumption | omega)) only [gz2]
  have fin : ∀ m, m = inLine a b → Q (meD m) S := by rintro _ rfl; exact k
  refine ⟨fun hs => ?_, fun hs => ?_⟩
  · simp (disch := (first | assumption | omega)) only [gz2]
    exact fin .no (by unfold inLine; rw [if_pos hs])
  simp (disch := (first | assumption | omega)) only [gz2]
  refine jf (fun σ' S' => @KP ⟨σ' = [some (wlD a), some (wlD b), some (spD (maxP a.1 b.1)), none] ∧ S' = S⟩) (fun z => ?_) (fun z => ?_) ?_
  · simp (disch := (first | assumption | omega)) only [gz2]
    exact KP.mk ⟨by unfold maxP; rw [if_pos z], rfl⟩
  · simp (disch := (first | assumption | omega)) only [gz2]
    exact KP.mk ⟨by unfold maxP; rw [if_neg z], rfl⟩
  rintro _ S1 ⟨rfl, rfl⟩
  simp (disch := (first | assumption | omega)) only [gz2]
  refine jf (fun σ' S' => @KP ⟨σ' = [some (wlD a), some (wlD b), some (spD (maxP a.1 b.1)), some (spD (minP a.2 b.2))] ∧ S' = S1⟩) (fun z => ?_) (fun z => ?_) ?_
  · simp (disch := (first | assumption | omega)) only [gz2]
    exact KP.mk ⟨by unfold minP; rw [if_pos z], rfl⟩
  · simp (disch := (first | assumption | omega)) only [gz2]
    exact KP.mk ⟨by unfold minP; rw [if_neg z], rfl⟩
  rintro _ S2 ⟨rfl, rfl⟩
  have z1 : BP (maxP a.1 b.1) 400 := maxP_bd h1.f h2.f
  have z2 : BP (minP a.2 b.2) 400 := minP_bd h1.s h2.s
  simp (disch := (first | assumption | omega)) only [gz2]
  refine ⟨fun z => ?_, fun z => ?_⟩
  · simp (disch := (first | assumption | omega)) only [gz2]
    exact fin (.spot (maxP a.1 b.1)) (by unfold inLine; rw [if_neg hs, if_pos z])
  simp (disch := (first | assumption | omega)) only [gz2]
  refine ⟨fun y => ?_, fun y => ?_⟩
  · simp (disch := (first | assumption | omega)) only [gz2]
    exact fin (.stretch (maxP a.1 b.1, minP a.2 b.2)) (by unfold inLine; rw [if_neg hs, if_neg z, if_pos y])
  · simp (disch := (first | assumption | omega)) only [gz2]
    exact fin .no (by unfold inLine; rw [if_neg hs, if_neg z, if_neg y])
theorem r_meeting : ∀ ds S Q E, FL.sp_meeting ds S Q E → b_meeting (mends Q E) (mstart 1 ds) S := by
  rintro _ S Q E ⟨a, b, rfl, h1, h2, hs, k⟩
  unfold b_meeting
  simp only [ML.q_mstart, ML.q_mends, List.map_cons, List.map_nil, List.replicate, List.cons_append, List.nil_append]
  simp (disch := (first | assumption | omega)) only [gz2]
  rw [sgn_0]
  have fin : ∀ m, m = meetW a b → Q (meD m) S := by rintro _ rfl; exact k
  refine ⟨fun hc => ?_, fun hc => ?_⟩
  · simp (disch := (first | assumption | omega)) only [gz2]
    exact ⟨a, b, rfl, h1, h2, fin _ (by unfold meetW; rw [if_pos hc])⟩
  simp (disch := (first | assumption | omega)) only [gz2]
  refine ⟨a, b, rfl, h1, h2, hc, ?_⟩
  have hz := hs hc
  simp (disch := (first | assumption | omega)) only [gz2]
  refine ⟨fun y => ?_, fun y => ?_⟩
  · simp (disch := (first | assumption | omega)) only [gz2]
    refine ⟨fun x => ?_, fun x => ?_⟩
    · simp (disch := (first | assumption | omega)) only [gz2]
      exact fin (.spot (solW a b)) (by unfold meetW; rw [if_neg hc, if_pos ⟨y, x⟩])
    · simp (disch := (first | assumption | omega)) only [gz2]
      exact fin .no (by unfold meetW; rw [if_neg hc, if_neg (fun z => x z.2)])
  · simp (disch := (first | assumption | omega)) only [gz2]
    exact fin .no (by unfold meetW; rw [if_neg hc, if_neg (fun z => y z.1)])
theorem t_cross {a b : U2} {S : Sto} {Q : Hold MQ} {E : Hold MXQ} (ha : UOk (2 ^ 30) a) (hb : UOk (2 ^ 30) b) (k : Q.v (.int (ucross a b)) S) : @CallP sp_cross [uD a, uD b] S Q E := ⟨a, b, rfl, ha, hb, k⟩
end FL
namespace FL
open PySem PySem.Spec L2 ML
theorem t_meeting {a b : Wl} {S : Sto} {Q : Hold MQ} {E : Hold MXQ} (ha : BW a 400) (hb : BW b 400) (hs : crs (alng a) (alng b) ≠ 0 → BP (solW a b) 400) (k : Q.v (meD (meetW a b)) S) : @CallP sp_meeting [wlD a, wlD b] S Q E := ⟨a, b, rfl, ha, hb, hs, k⟩
end FL
namespace FL
open PySem PySem.Spec L2 ML
/-! ### rows of spots -/
def ins (s : Pt) : List Pt → List Pt
  | [] => [s]
  | t :: r => if ahead t s then t :: ins s r else if t = s then t :: r else s :: t :: r
/-- so many are ahead -/
def Pass (ps : List Pt) (s : Pt) (k : Nat) : Prop := k ≤ ps.length ∧ (∀ i (h : i < ps.length), i < k → ahead ps[i] s) ∧ (∀ i (h : i < ps.length), k ≤ i → ¬ ahead ps[i] s)
/-! ### lists as values -/
theorem deqs_map {α : Type} [DecidableEq α] {enc : α → D} (h : ∀ a b, D.deq (enc a) (enc b) = decide (a = b)) : ∀ as bs : List α, D.deqs (as.map enc) (bs.map enc) = decide (as = bs)
  | [], [] => by simp [D.deqs]
  | [], _ :: _ => by simp [D.deqs]
  | _ :: _, [] => by simp [D.deqs]
  | a :: as, b :: bs => by
    simp only [List.map_cons, D.deqs, h, deqs_map h as bs]
    rw [Bool.eq_iff_iff]
    simp only [Bool.and_eq_true, decide_eq_true_eq, List.cons.injEq]
theorem eqOk_lm {α β : Type} {f : α → D} {g : β → D} (h1 : ∀ a, D.plain (f a) = true) (h2 : ∀ a, D.plain (g a) = true) (d1 : ∀ a, D.dep (f a) ≤ 20) (d2 : ∀ a, D.dep (g a) ≤ 20) (as : List α) (bs : List β) : eqOk (.lst (as.map f)) (.lst (bs.map g)) = true :=
  eqOk_of (plains_map h1) (plains_map h2) (by have := deps_map (xs := as) d1; rw [D.dep]; omega) (by have := deps_map (xs := bs) d2; rw [D.dep]; omega)
theorem eqOk_lsp {as bs : List Pt} : eqOk (.lst (as.map spD)) (.lst (bs.map spD)) = true := eqOk_lm plain_sp plain_sp (fun a => by rw [dep_sp]; decide) (fun a => by rw [dep_sp]; decide) as bs
theorem deq_lsp {as bs : List Pt} : D.deq (.lst (as.map spD)) (.lst (bs.map spD)) = decide (as = bs) := by rw [D.deq]; exact deqs_map (fun _ _ => deq_sp) as bs
theorem deq_lwl {as bs : List Wl} : D.deq (.lst (as.map wlD)) (.lst (bs.map wlD)) = decide (as = bs) := by rw [D.deq]; exact deqs_map (fun _ _ => deq_wl) as bs
theorem eqOk_lwl {as bs : List Wl} : eqOk (.lst (as.map wlD)) (.lst (bs.map wlD)) = true := eqOk_lm plain_wl plain_wl (fun a => by rw [dep_wl]; decide) (fun a => by rw [dep_wl]; decide) as bs
theorem memD_map {α : Type} [DecidableEq α] {enc : α → D} (h : ∀ a b, D.deq (enc a) (enc b) = decide (a = b)) (a : α) : ∀ as : List α, memD (enc a) (as.map enc) = decide (a ∈ as)
  | [] => by simp [memD]
  | b :: as => by
    have : memD (enc a) ((b :: as).map enc) = (D.deq (enc b) (enc a) || memD (enc a) (as.map enc)) := rfl
    rw [this, h, memD_map h a as, Bool.eq_iff_iff]
    simp only [Bool.or_eq_true, decide_eq_true_eq, List.mem_cons]
    constructor
    · rintro (z | z)
      · exact .inl z.symm
      · exact .inr z
    · rintro (z | z)
      · exact .inl z.symm
      · exact .inr z
theorem in_lst {α : Type} [DecidableEq α] {enc : α → D} (h : ∀ a b, D.deq (enc a) (enc b) = decide (a = b)) (h1 : ∀ a, D.plain (enc a) = true) (d1 : ∀ a, D.dep (enc a) ≤ 20) {neg : Bool} {a : α} {d : D} {as : List α} {S : Sto} {Q : MQ} (hl : look S d = .lst (as.map enc)) : rInM neg (enc a) d S Q = Q (.bl (if neg then !decide (a ∈ as) else decide (a ∈ as))) S := by
  have c : D.plain (enc a) = true ∧ D.plains (as.map enc) = true ∧ D.dep (enc a) ≤ 64 ∧ D.deps (as.map enc) ≤ 63 := ⟨h1 a, plains_map h1, by have := d1 a; omega, Nat.le_trans (deps_map d1) (by decide)⟩
  simp only [rInM, hl, memD_map h]
  exact propext ⟨fun h => h.2, fun h => ⟨c, h⟩⟩
theorem in_lu {neg : Bool} {u : U2} {us : List U2} {S : Sto} {Q : MQ} : rInM neg (uD u) (.lst (us.map uD)) S Q = Q (.bl (if neg then !decide (u ∈ us) else decide (u ∈ us))) S := by
  rw [in_lst (enc := uD) (as := us) (d := .lst (us.map uD)) (a := u) (fun a b => deq_u (p := a) (q := b)) plain_u (fun a => by rw [dep_u]; decide) rfl]
  have e : ∀ (i1 i2 : Decidable (u ∈ us)), @decide _ i1 = @decide _ i2 := fun i1 i2 => congrArg (fun i => @decide _ i) (Subsingleton.elim i1 i2)
  exact congrArg (fun b => Q (.bl (if neg then !b else b)) S) (e _ _)
/-! ### promises -/
end FL
set_option maxRecDepth 100000
namespace FL
open PySem PySem.Spec L2 ML
end FL
set_option maxRecDepth 100000
set_option maxHeartbeats 4000000
namespace FL
-- counts /tmp/scratch/dev/N_lib5.json
open PySem PySem.Spec L2 ML
end FL
namespace FL
open PySem PySem.Spec L2 ML
/-! ### walls of a plot meet at ends alone -/
def isFair (a b : Wl) : Bool := match meetW a b with
  | .no => true
  | .spot p => (decide (a.1 = p) || decide (a.2 = p)) && (decide (b.1 = p) || decide (b.2 = p))
  | .stretch _ => false
section
variable {a b : Wl}
theorem cx_ends (a b : Wl) : cx b a.2 = cx b a.1 - crs (alng a) (alng b) ∧ cx a b.2 = cx a b.1 + crs (alng a) (alng b) := by
  constructor <;> (simp only [cx, crs, alng]; grind)
theorem sol_ta (hc : crs (alng a) (alng b) ≠ 0) : solW a b = atP a (cx b a.1 / crs (alng a) (alng b)) := by
  rw [sol_a]
  congr 2
  simp only [cx, crs, alng]; grind
theorem sol_tb (hc : crs (alng a) (alng b) ≠ 0) : solW a b = atP b (- cx a b.1 / crs (alng a) (alng b)) := by
  rw [sol_b hc]
  congr 2
  simp only [cx, crs, alng]; grind
theorem atP_0 (w : Wl) : atP w 0 = w.1 := by unfold atP; apply Prod.ext <;> simp only <;> grind
theorem atP_1 (w : Wl) : atP w 1 = w.2 := by unfold atP alng; apply Prod.ext <;> simp only <;> grind
theorem cx_at (w : Wl) (t : Rat) : cx w (atP w t) = 0 := by simp only [cx, crs, alng, atP]; grind
/-- the parts at which the lines cross -/
theorem part_range {x C : Rat} (hC : C ≠ 0) : (0 ≤ x / C ∧ x / C ≤ 1) ↔ (x * (x - C) ≤ 0) := by
  have key : ∀ x C : Rat, 0 < C → ((0 ≤ x / C ∧ x / C ≤ 1) ↔ (0 ≤ x ∧ x ≤ C)) := by
    intro x C h
    have l := fun a b => lt_div (a := a) (b := b) h
    have e0 : (0 : Rat) / C = 0 := by rw [Rat.div_def, Rat.zero_mul]
    have e1 : C / C = 1 := by grind
    have l1 := l x 0
    have l2 := l C x
    rw [e0] at l1
    rw [e1] at l2
    constructor
    · rintro ⟨h1, h2⟩
      constructor
      · by_cases z : x < 0
        · have := l1.mpr z; grind
        · grind
      · by_cases z : C < x
        · have := l2.mpr z; grind
        · grind
    · rintro ⟨h1, h2⟩
      constructor
      · by_cases z : x / C < 0
        · have := l1.mp z; grind
        · grind
      · by_cases z : 1 < x / C
        · have := l2.mp z; grind
        · grind
  have sq : ∀ x C : Rat, 0 < C → ((0 ≤ x ∧ x ≤ C) ↔ x * (x - C) ≤ 0) := by
    intro x C h
    constructor
    · rintro ⟨h1, h2⟩
      have := Rat.mul_nonneg h1 (show 0 ≤ C - x by grind)
      grind
    · intro z
      constructor
      · by_cases y : x < 0
        · have := Rat.mul_pos (show 0 < -x by grind) (show 0 < C - x by grind); grind
        · grind
      · by_cases y : C < x
        · have := Rat.mul_pos (show 0 < x by grind) (show 0 < x - C by grind); grind
        · grind
  by_cases h : 0 < C
  · rw [key x C h, sq x C h]
  · have e : x / C = (-x) / (-C) := by grind
    rw [e, key (-x) (-C) (by grind), sq (-x) (-C) (by grind)]
    have : -x * (-x - -C) = x * (x - C) := by grind
    rw [this]
theorem lies_sol_a (ha : Up a) (hc : crs (alng a) (alng b) ≠ 0) : liesOn a (solW a b) ↔ cx b a.1 * cx b a.2 ≤ 0 := by
  rw [sol_ta hc, liesOn_part ha, part_range hc, (cx_ends a b).1]
theorem lies_sol_b (hb : Up b) (hc : crs (alng a) (alng b) ≠ 0) : liesOn b (solW a b) ↔ cx a b.1 * cx a b.2 ≤ 0 := by
  rw [sol_tb hc, liesOn_part hb, part_range hc, (cx_ends a b).2]
  have : -cx a b.1 * (-cx a b.1 - crs (alng a) (alng b)) = cx a b.1 * (cx a b.1 + crs (alng a) (alng b)) := by grind
  rw [this]
theorem sol_eq_a1 (hc : crs (alng a) (alng b) ≠ 0) (h : cx b a.1 = 0) : solW a b = a.1 := by
  rw [sol_ta hc, h, Rat.div_def, Rat.zero_mul, atP_0]
theorem sol_eq_a2 (hc : crs (alng a) (alng b) ≠ 0) (h : cx b a.2 = 0) : solW a b = a.2 := by
  rw [sol_ta hc]
  have e := (cx_ends a b).1
  have : cx b a.1 / crs (alng a) (alng b) = 1 := by grind
  rw [this, atP_1]
theorem cx_sol_b (hc : crs (alng a) (alng b) ≠ 0) : cx b (solW a b) = 0 := by rw [sol_tb hc, cx_at]
theorem not_ahead_iff {p q : Pt} : ¬ ahead p q ↔ q = p ∨ ahead q p := by
  constructor
  · intro h
    rcases ahead_tri p q with z | z | z
    · exact absurd z h
    · exact .inl z.symm
    · exact .inr z
  · rintro (z | z)
    · subst z; exact ahead_irrefl _
    · exact ahead_asymm z
theorem le_lt {p q r : Pt} (h : ¬ ahead q p) (k : ahead q r) : ahead p r := by
  rcases not_ahead_iff.mp h with z | z
  · rw [z]; exact k
  · exact ahead_trans z k
theorem lt_le {p q r : Pt} (h : ahead p q) (k : ¬ ahead r q) : ahead p r := by
  rcases not_ahead_iff.mp k with z | z
  · rw [← z]; exact h
  · exact ahead_trans h z
/-- collinear: an end of the one on the other one's line -/
theorem par_zero (ha : Up a) (hb : Up b) (hc : crs (alng a) (alng b) = 0) (h : cx a b.1 = 0) : cx a b.2 = 0 ∧ cx b a.1 = 0 ∧ cx b a.2 = 0 := by
  have e := cx_ends a b
  have pa := ahead_posv.mp ha.up
  have k1 : cx b a.1 * (alng a).1 = - (cx a b.1 * (alng b).1) := by
    have : cx b a.1 * (alng a).1 + cx a b.1 * (alng b).1 = (b.1.1 - a.1.1) * crs (alng a) (alng b) := by simp only [cx, crs, alng]; grind
    rw [hc] at this; grind
  have k2 : cx b a.1 * (alng a).2 = - (cx a b.1 * (alng b).2) := by
    have : cx b a.1 * (alng a).2 + cx a b.1 * (alng b).2 = (b.1.2 - a.1.2) * crs (alng a) (alng b) := by simp only [cx, crs, alng]; grind
    rw [hc] at this; grind
  have z : cx b a.1 = 0 := by
    rw [h] at k1 k2
    rcases pa with y | ⟨y, y2⟩
    · have h1 : cx b a.1 * (alng a).1 = 0 := by grind
      rcases Rat.mul_eq_zero.mp h1 with w | w
      · exact w
      · simp only [alng, sb] at w y; grind
    · have h1 : cx b a.1 * (alng a).2 = 0 := by grind
      rcases Rat.mul_eq_zero.mp h1 with w | w
      · exact w
      · simp only [alng, sb] at w y2; grind
  exact ⟨by grind, z, by grind⟩
theorem fair_isFair (ha : Up a) (hb : Up b) (f : FairW a b) : isFair a b = true := by
  unfold isFair meetW
  by_cases hc : crs (alng a) (alng b) = 0
  · rw [if_pos hc]
    unfold inLine
    by_cases hs : side a b.1 ≠ 0
    · rw [if_pos hs]
    · rw [if_neg hs]
      have h0 : cx a b.1 = 0 := sgn_0.mp (by simpa [side_cx] using hs)
      obtain ⟨h1, h2, h3⟩ := par_zero ha hb hc h0
      by_cases he : maxP a.1 b.1 = minP a.2 b.2
      · rw [if_pos he]
        simp only
        generalize hp : maxP a.1 b.1 = p at he ⊢
        have m1 : p = a.1 ∨ p = b.1 := by rw [← hp]; unfold maxP; split <;> simp
        have m2 : p = a.2 ∨ p = b.2 := by rw [he]; unfold minP; split <;> simp
        have na := ahead_ne ha.up
        have nb := ahead_ne hb.up
        rcases m1 with m1 | m1 <;> rcases m2 with m2 | m2
        · exact absurd (m1.symm.trans m2) na
        · simp [← m1, ← m2]
        · simp [← m1, ← m2]
        · exact absurd (m1.symm.trans m2) nb
      · rw [if_neg he]
        by_cases hl : ahead (maxP a.1 b.1) (minP a.2 b.2)
        · exfalso
          have sa : ∀ p, cx a p = 0 → side a p = 0 := fun p h => by rw [side_cx, h]; rfl
          have sb' : ∀ p, cx b p = 0 → side b p = 0 := fun p h => by rw [side_cx, h]; rfl
          have l1 : ¬ ahead (maxP a.1 b.1) a.1 ∧ ¬ ahead (maxP a.1 b.1) b.1 := by
            unfold maxP; split
            · next z => exact ⟨ahead_asymm z, ahead_irrefl _⟩
            · next z => exact ⟨ahead_irrefl _, z⟩
          have l2 : ¬ ahead a.2 (minP a.2 b.2) ∧ ¬ ahead b.2 (minP a.2 b.2) := by
            unfold minP; split
            · next z => exact ⟨ahead_asymm z, ahead_irrefl _⟩
            · next z => exact ⟨ahead_irrefl _, z⟩
          have q1 : ahead a.1 (minP a.2 b.2) := le_lt l1.1 hl
          have q2 : ahead b.1 (minP a.2 b.2) := le_lt l1.2 hl
          have q3 : ahead (maxP a.1 b.1) a.2 := lt_le hl l2.1
          have q4 : ahead (maxP a.1 b.1) b.2 := lt_le hl l2.2
          have e1 : a.1 = b.1 := by
            rcases ahead_tri a.1 b.1 with z | z | z
            · have m : maxP a.1 b.1 = b.1 := by unfold maxP; rw [if_pos z]
              rw [m] at q3 q4
              rcases f.e1 ⟨ahead_asymm z, ahead_asymm q3, sa _ h0⟩ with y | y
              · exact y.symm
              · exact absurd y (ahead_ne q3)
            · exact z
            · have m : maxP a.1 b.1 = a.1 := by unfold maxP; rw [if_neg (ahead_asymm z)]
              rw [m] at q3 q4
              rcases f.e3 ⟨ahead_asymm z, ahead_asymm q4, sb' _ h2⟩ with y | y
              · exact y
              · exact absurd y (ahead_ne q4)
          have e2 : a.2 = b.2 := by
            rcases ahead_tri a.2 b.2 with z | z | z
            · have m : minP a.2 b.2 = a.2 := by unfold minP; rw [if_neg (ahead_asymm z)]
              rw [m] at q1 q2
              rcases f.e4 ⟨ahead_asymm q2, ahead_asymm z, sb' _ h3⟩ with y | y
              · exact absurd y.symm (ahead_ne q2)
              · exact y
            · exact z
            · have m : minP a.2 b.2 = b.2 := by unfold minP; rw [if_pos z]
              rw [m] at q1 q2
              rcases f.e2 ⟨ahead_asymm q1, ahead_asymm z, sa _ h1⟩ with y | y
              · exact absurd y.symm (ahead_ne q1)
              · exact y.symm
          exact f.ne (Prod.ext e1 e2)
        · rw [if_neg hl]
  · rw [if_neg hc]
    by_cases hx : liesOn a (solW a b) ∧ liesOn b (solW a b)
    · rw [if_pos hx]
      obtain ⟨x1, x2⟩ := hx
      have p1 := (lies_sol_a ha hc).mp x1
      have p2 := (lies_sol_b hb hc).mp x2
      have hc2 : crs (alng b) (alng a) ≠ 0 := by rw [crs_swap]; grind
      have sS := sol_symm hc
      simp only [Bool.and_eq_true, Bool.or_eq_true, decide_eq_true_eq]
      have z : cx b a.1 * cx b a.2 = 0 ∨ cx a b.1 * cx a b.2 = 0 := by
        rcases f.cr with y | y
        · right; grind
        · left; grind
      rcases z with z | z <;> rcases Rat.mul_eq_zero.mp z with y | y
      · have e := sol_eq_a1 hc y
        rw [e] at x2 ⊢
        rcases f.e3 x2 with w | w
        · exact ⟨.inl rfl, .inl w.symm⟩
        · exact ⟨.inl rfl, .inr w.symm⟩
      · have e := sol_eq_a2 hc y
        rw [e] at x2 ⊢
        rcases f.e4 x2 with w | w
        · exact ⟨.inr rfl, .inl w.symm⟩
        · exact ⟨.inr rfl, .inr w.symm⟩
      · have e := sol_eq_a1 hc2 y
        rw [sS] at e
        rw [e] at x1 ⊢
        rcases f.e1 x1 with w | w
        · exact ⟨.inl w.symm, .inl rfl⟩
        · exact ⟨.inr w.symm, .inl rfl⟩
      · have e := sol_eq_a2 hc2 y
        rw [sS] at e
        rw [e] at x1 ⊢
        rcases f.e2 x1 with w | w
        · exact ⟨.inl w.symm, .inr rfl⟩
        · exact ⟨.inr w.symm, .inr rfl⟩
    · rw [if_neg hx]
end
end FL
namespace FL
open PySem PySem.Spec L2 ML
/-! ### plots -/
def solB (a b : Wl) : Prop := crs (alng a) (alng b) ≠ 0 → BP (solW a b) 400
def unfairAt (ws : List Wl) (w : Wl) : Option Nat := ws.findIdx? fun v => !isFair w v
def onD : Option Nat → D
  | none => .non
  | some n => .int n
/-- a list that is a value or of the store -/
inductive LstK (S : Sto) : D → List D → Prop
  | lst {ds : List D} : LstK S (.lst ds) ds
  | ref {q : Addr} {ds : List D} : S q = some (.lst ds) → LstK S (.ref q) ds
theorem LstK.of {S : Sto} {d : D} {ds : List D} (h : LstK S d ds) : lstOf S d = some ds := by
  cases h with
  | lst => rfl
  | ref h => simp only [lstOf, h]
theorem in_wl {neg : Bool} {p : Pt} {w : Wl} {S : Sto} {Q : MQ} : rInM neg (spD p) (wlD w) S Q = Q (.bl (if neg then !(decide (w.1 = p) || decide (w.2 = p)) else (decide (w.1 = p) || decide (w.2 = p)))) S := by
  have e : look S (wlD w) = .tup [spD w.1, spD w.2] := rfl
  have m : memD (spD p) [spD w.1, spD w.2] = (decide (w.1 = p) || decide (w.2 = p)) := by
    show (D.deq (spD w.1) (spD p) || (D.deq (spD w.2) (spD p) || false)) = _
    rw [deq_sp, deq_sp, Bool.or_false]
  have c : D.plain (spD p) = true ∧ D.plains [spD w.1, spD w.2] = true ∧ D.dep (spD p) ≤ 64 ∧ D.deps [spD w.1, spD w.2] ≤ 63 :=
    ⟨plain_sp p, plain_wl w, by rw [dep_sp]; decide, by have := dep_wl w; rw [wlD, D.dep] at this; omega⟩
  simp only [rInM, e, m]
  exact propext ⟨fun h => h.2, fun h => ⟨c, h⟩⟩
def sp_is_fair : MSp := fun ds S Q _ => ∃ a b : Wl, ds = [wlD a, wlD b] ∧ BW a 400 ∧ BW b 400 ∧ solB a b ∧ Q (.bl (isFair a b)) S
def sp_unfair_with : MSp := fun ds S Q _ => ∃ (d : D) (ws : List Wl) (w : Wl), ds = [d, wlD w] ∧ LstK S d (ws.map wlD) ∧ ws.length ≤ 1000 ∧ BW w 400 ∧ (∀ v ∈ ws, BW v 400 ∧ solB w v) ∧ Q (onD (unfairAt ws w)) S
theorem unfair_none {ws : List Wl} {w : Wl} (h : ∀ v ∈ ws, isFair w v = true) : unfairAt ws w = none := by
  unfold unfairAt
  rw [List.findIdx?_eq_none_iff]
  intro v hv; simp [h v hv]
theorem t_is_fair {a b : Wl} {S : Sto} {Q : Hold MQ} {E : Hold MXQ} (ha : BW a 400) (hb : BW b 400) (hs : solB a b) (k : Q.v (.bl (isFair a b)) S) : @CallP sp_is_fair [wlD a, wlD b] S Q E := ⟨a, b, rfl, ha, hb, hs, k⟩
end FL
set_option maxRecDepth 100000
namespace FL
open PySem PySem.Spec L2 ML
def b_is_fair : MS := (mSeq (mSet 2 (mCall FL.sp_meeting (mCons (mVar 0) (mCons (mVar 1) mNil))))
  (mSeq (mIfS (mTst (mOp rIsN (mVar 2) (mC .non))) (mRet (mC (.bl true))) mNext)
  (mRet (mAndV (mOp rEqM (mOp rIxM (mVar 2) (mC (.int 0))) (mC (.str "spot"))) (mAndV (mOp (rInM false) (mOp rIxM (mVar 2) (mC (.int 1))) (mVar 0)) (mOp (rInM false) (mOp rIxM (mVar 2) (mC (.int 1))) (mVar 1)))))))
def b_unfair_with : MS := (mSeq (mFor (iEn (mCons (mVar 0) mNil)) (gTp 2 (gCn (gNm 2) (gCn (gNm 3) gNl))) (mIfS (mNot (mTru (mCall FL.sp_is_fair (mCons (mVar 1) (mCons (mVar 3) mNil))))) (mRet (mVar 2)) mNext))
  (mRet (mC .non)))
end FL
set_option maxRecDepth 100000
set_option maxHeartbeats 4000000
namespace FL
-- counts /tmp/scratch/dev/N_lib6.json
open PySem PySem.Spec L2 ML
theorem l_is_fair : ∀ ds S Q E, FL.sp_is_fair ds S Q E → ds.length = 2 := by rintro _ _ _ _ ⟨_, _, rfl, _⟩; rfl
theorem l_unfair_with : ∀ ds S Q E, FL.sp_unfair_with ds S Q E → ds.length = 2 := by rintro _ _ _ _ ⟨_, _, _, rfl, _⟩; rfl
theorem r_is_fair : ∀ ds S Q E, FL.sp_is_fair ds S Q E → b_is_fair (mends Q E) (mstart 1 ds) S := by
  rintro _ S Q E ⟨a, b, rfl, ha, hb, hs, k⟩
  unfold b_is_fair
  simp only [ML.q_mstart, ML.q_mends, List.map_cons, List.map_nil, List.replicate, List.cons_append, List.nil_append]
  simp only [gz1]
  refine t_meeting ha hb hs ?_
  simp only [gz1]
  unfold isFair at k
  have hw : ¬ (("stretch" : Str) = "spot") := by decide +kernel
  have o1 : eqOk (.str "spot") (.str "spot") = true := by decide +kernel
  have o2 : eqOk (.str "stretch") (.str "spot") = true := by decide +kernel
  cases e : meetW a b with
  | no => rw [e] at k; simp only [gz1, meD]; exact k
  | spot p =>
    rw [e] at k
    simp only [gz1, meD, o1, in_wl]
    simp only at k
    generalize (decide (a.1 = p) || decide (a.2 = p)) = x at k ⊢
    cases x
    · simp only [gz1, meD, o1, in_wl]; exact k
    · simp only [gz1, meD, o1, in_wl]; exact k
  | stretch w =>
    rw [e] at k; simp only [gz1, meD, o2, hw]; exact k
theorem r_unfair_with : ∀ ds S Q E, FL.sp_unfair_with ds S Q E → b_unfair_with (mends Q E) (mstart 2 ds) S := by
  rintro _ S Q E ⟨d, ws, w, rfl, hd, hz, hb, hv, k⟩
  unfold b_unfair_with
  simp only [ML.q_mstart, ML.q_mends, List.map_cons, List.map_nil, List.replicate, List.cons_append, List.nil_append]
  simp only [gz1, ML.q_iEn, hd.of]
  refine wfor_inv (fun i σ S' => @KP ⟨(∃ a b, σ = [some d, some (wlD w), a, b]) ∧ S' = S ∧ ∀ v ∈ ws.take i, isFair w v = true⟩) ⟨⟨_, _, rfl⟩, rfl, fun v hv => by simp at hv⟩ ?_ ?_
  · rintro i x σ S' hx ⟨⟨a, b, rfl⟩, rfl, hf⟩
    obtain ⟨y, hy, rfl⟩ := enumD_get hx
    rw [List.getElem?_map] at hy
    cases ea : ws[i]? with
    | none => rw [ea] at hy; cases hy
    | some v =>
      rw [ea] at hy; cases hy
      have hm : v ∈ ws := List.mem_of_getElem? ea
      refine ⟨hd.of, ?_⟩
      simp only [gz1]
      refine t_is_fair hb (hv v hm).1 (hv v hm).2 ?_
      simp only [gz1]
      refine ⟨fun h => ?_, fun h => ?_⟩
      · simp only [gz1]
        have e : unfairAt ws w = some i := by
          unfold unfairAt
          rw [List.findIdx?_eq_some_iff_getElem]
          obtain ⟨hi, ei⟩ := List.getElem?_eq_some_iff.mp ea
          refine ⟨hi, by rw [ei, h]; rfl, fun j hj => ?_⟩
          have := hf ws[j] (List.mem_take_iff_getElem.mpr ⟨j, by omega, rfl⟩)
          rw [this]; simp
        rw [e] at k
        exact k
      · simp only [gz1]
        refine KP.mk ⟨⟨_, _, rfl⟩, rfl, fun u hu => ?_⟩
        rw [List.take_add_one, ea] at hu
        rcases List.mem_append.mp hu with z | z
        · exact hf u z
        · have : u = v := by simpa using z
          rw [this]; simpa using h
  · rintro σ S' ⟨⟨a, b, rfl⟩, rfl, hf⟩
    rw [enumD_len, List.length_map, List.take_length] at hf
    refine ⟨hd.of, ?_⟩
    simp only [gz1]
    rw [unfair_none hf] at k
    exact k
end FL
namespace FL
open PySem PySem.Spec L2 ML
/-! ### plots drawn in units -/
/-- the drawn plot itself -/
def pltW (s : Sc) (ws : List UW) : List Wl := ws.map fun w => afw s (ofW w)
theorem plt_enc (s : Sc) (ws : List UW) : (ws.map fun w => wlD (afw s (ofW w))) = (pltW s ws).map wlD := by unfold pltW; rw [List.map_map]; rfl
theorem plt_len (s : Sc) (ws : List UW) : (pltW s ws).length = ws.length := List.length_map ..
section
variable {m : Nat} {z : Int} {ws : List UW} {s : Sc}
theorem Drawn.wok (h : Drawn m z ws) (hz : z ≤ 500) {w : UW} (hw : w ∈ ws) : WOk 500 w := by
  have := h.lo w hw
  exact ⟨⟨by omega, by omega, by omega, by omega⟩, ⟨by omega, by omega, by omega, by omega⟩⟩
end
end FL
set_option maxRecDepth 100000
set_option maxHeartbeats 1000000
/-! # texts of fractions, spots, walls: what is shown is read again -/
namespace FL
open PySem PySem.Spec L2 TL ML
def ofL (l : List Nat) : Str := ⟨l.toArray⟩
theorem tl_ofL {l : List Nat} : tl (ofL l) = l := rfl
theorem ofL_len {l : List Nat} : (ofL l).length = l.length := by rw [len_tl]; rfl
theorem ofL_app {a b : List Nat} : ofL a ++ ofL b = ofL (a ++ b) := ext_tl (tl_append _ _)
theorem str_ofL (x : Str) : x = ofL (tl x) := (mk_tl x).symm
theorem ofL_inj {a b : List Nat} : ofL a = ofL b ↔ a = b := ⟨fun h => congrArg tl h, fun h => h ▸ rfl⟩
def intL : Int → List Nat
  | .ofNat n => numL n
  | .negSucc n => 45 :: numL (n + 1)
theorem strI_L (i : Int) : strI i = ofL (intL i) := by
  refine ext_tl ?_
  cases i with
  | ofNat n => exact tl_num n
  | negSucc n =>
    have h := tl_num (n + 1)
    unfold strI
    rw [tl_ofString] at h ⊢
    have e : toString (Int.negSucc n) = "-" ++ toString (((n + 1 : Nat) : Nat) : Int) := rfl
    rw [e, String.toList_append, List.map_append, h]
    rfl
theorem intL_len {i : Int} {k : Nat} (hk : 0 < k) (h : i.natAbs < 10 ^ k) : (intL i).length ≤ k + 1 := by
  cases i with
  | ofNat n => exact Nat.le_succ_of_le (numL_len hk h)
  | negSucc n => exact Nat.succ_le_succ (numL_len hk h)
theorem intL_free {i : Int} {s : Nat} (h1 : s ≠ 45) (h : s < 48 ∨ 57 < s) : s ∉ intL i := by
  cases i with
  | ofNat n => exact numL_free h
  | negSucc n => exact fun hm => by rcases List.mem_cons.mp hm with e | e; exact h1 e; exact numL_free h e
/-- the text of a fraction -/
def shL (q : Rat) : List Nat := if q.den = 1 then intL q.num else intL q.num ++ 47 :: numL q.den
theorem shL_free {q : Rat} {s : Nat} (h1 : s ≠ 45) (h2 : s ≠ 47) (h : s < 48 ∨ 57 < s) : s ∉ shL q := by
  unfold shL
  split
  · exact intL_free h1 h
  · intro hm
    rcases List.mem_append.mp hm with e | e
    · exact intL_free h1 h e
    · rcases List.mem_cons.mp e with e | e; exact h2 e; exact numL_free h e
theorem shL_len {q : Rat} {k : Nat} (hk : 0 < k) (h : q.num.natAbs < 10 ^ k) (h2 : q.den < 10 ^ k) : (shL q).length ≤ 2 * k + 2 := by
  unfold shL
  have := intL_len hk h
  have := numL_len hk h2
  split
  · omega
  · rw [List.length_append, List.length_cons]; omega
/-- a whole number's signs -/
def wholeL (l : List Nat) : Bool := decide (1 ≤ l.length ∧ l.length ≤ 30) && l.all (fun c => decide (c ∈ ([48, 49, 50, 51, 52, 53, 54, 55, 56, 57] : List Nat))) && (decide (l.head? ≠ some 48) || decide (l = [48]))
theorem figs_iff {c : Nat} : c ∈ ([48, 49, 50, 51, 52, 53, 54, 55, 56, 57] : List Nat) ↔ 48 ≤ c ∧ c ≤ 57 := by simp; omega
theorem wholeL_digits {l : List Nat} (h : wholeL l = true) : NumText.AllDigits l ∧ l ≠ [] ∧ l.length ≤ 30 := by
  simp only [wholeL, Bool.and_eq_true, decide_eq_true_eq, List.all_eq_true] at h
  obtain ⟨⟨⟨h1, h2⟩, h3⟩, -⟩ := h
  exact ⟨fun c hc => figs_iff.mp (h3 c hc), fun e => by rw [e] at h1; simp at h1, h2⟩
/-- the signs without a leading sign of nought -/
def figL (t : List Nat) : List Nat := if t.take 1 = [45] then t.drop 1 else t
/-- the number of such signs -/
def signL (t : List Nat) : Int := if t.take 1 = [45] then -((NumText.digitsVal (t.drop 1) : Nat) : Int) else (NumText.digitsVal t : Nat)
def fracIn (l : List Nat) : Option Rat :=
  match par [47] [] l with
  | none => if wholeL (figL l) && !decide (l = [45, 48]) then some (signL l : Int) else none
  | some (t, b) => if wholeL (figL t) && !decide (t = [45, 48]) && wholeL b && !decide (b = [48] ∨ b = [49]) && decide (Nat.gcd (NumText.digitsVal (figL t)) (NumText.digitsVal b) = 1) then some (Rat.divInt (signL t) (NumText.digitsVal b : Nat)) else none
def Fig (q : Rat) : Prop := q.num.natAbs < 10 ^ 30 ∧ q.den < 10 ^ 30
def spotIn (a b : List Nat) : Option Pt := match fracIn a, fracIn b with
  | some x, some y => some (x, y)
  | _, _ => none
def WALL : List Nat := [119, 97, 108, 108]
def wallIn : List (List Nat) → Option Wl
  | [w, a, b, c, d] => if w = WALL then match spotIn a b, spotIn c d with
    | some u, some v => if ahead u v then some (u, v) else none
    | _, _ => none else none
  | _ => none
def wordsL (w : Wl) : List (List Nat) := [WALL, shL w.1.1, shL w.1.2, shL w.2.1, shL w.2.2]
def waL (w : Wl) : List Nat := joinL [32] (wordsL w)
def FigW (w : Wl) : Prop := Fig w.1.1 ∧ Fig w.1.2 ∧ Fig w.2.1 ∧ Fig w.2.2
theorem joinL_mem {S : List Nat} {c : Nat} : ∀ {ps : List (List Nat)}, c ∈ joinL S ps → c ∈ S ∨ ∃ p ∈ ps, c ∈ p
  | [], h => by simp [joinL] at h
  | [p], h => .inr ⟨p, List.mem_singleton.mpr rfl, h⟩
  | p :: q :: r, h => by
    rcases List.mem_append.mp h with h | h
    · exact .inr ⟨p, List.mem_cons_self, h⟩
    · rcases List.mem_append.mp h with h | h
      · exact .inl h
      · rcases joinL_mem h with h | ⟨x, hx, h⟩
        · exact .inl h
        · exact .inr ⟨x, List.mem_cons_of_mem _ hx, h⟩
theorem split_L {x y : Str} (hy : tl y ≠ []) (hk : ∀ c ∈ tl y, c < 256) : Txt.split x y = (spl (tl y) 0 [] (tl x)).map ofL := by
  have hk : y.cps.all (· < 256) = true := by
    rw [← Array.all_toList, List.all_eq_true]
    exact fun c hc => decide_eq_true (hk c hc)
  refine map_tl_inj ?_
  rw [split_spl _ y hy (kind_ok hk), List.map_map, show tl ∘ ofL = id from rfl, List.map_id]
theorem join_L {y : Str} {ps : List (List Nat)} : Txt.join y (ps.map ofL) = ofL (joinL (tl y) ps) := by
  refine ext_tl ?_
  rw [join_eq, TL.tl_join, List.map_map, show tl ∘ ofL = id from rfl, List.map_id]; rfl
theorem part_L (x y : Str) (hy : tl y ≠ []) : Txt.partition x y = match par (tl y) [] (tl x) with
  | some (a, b) => (ofL a, y, ofL b)
  | none => (x, Str.empty, Str.empty) := by
  rw [partition_par x y hy]; rfl
/-! ### what the walk asks of texts -/
theorem cut_take1 {l : List Nat} : cutS (ofL l) none (some 1) = ofL (l.take 1) := by
  refine ext_tl ?_
  cases l with
  | nil => rfl
  | cons a r =>
    have h : HT.sIx (ofL (a :: r)).length (ofL (a :: r)).length (some 1) = 1 := by
      rw [ofL_len, List.length_cons]; exact (HT.sIx_nat _ _ 1).trans (by omega)
    show ((a :: r).drop 0).take (HT.sIx (ofL (a :: r)).length (ofL (a :: r)).length (some 1) - 0) = (a :: r).take 1
    rw [h]; rfl
theorem cut_drop1 {l : List Nat} : cutS (ofL l) (some 1) none = ofL (l.drop 1) := by
  refine ext_tl ?_
  cases l with
  | nil => rfl
  | cons a r =>
    have h : HT.sIx (ofL (a :: r)).length 0 (some 1) = 1 := by
      rw [ofL_len, List.length_cons]; exact (HT.sIx_nat _ _ 1).trans (by omega)
    show ((a :: r).drop (HT.sIx (ofL (a :: r)).length 0 (some 1))).take (HT.sIx (ofL (a :: r)).length (ofL (a :: r)).length none - HT.sIx (ofL (a :: r)).length 0 (some 1)) = (a :: r).drop 1
    rw [h]
    show r.take ((ofL (a :: r)).length - 1) = r
    rw [ofL_len, List.length_cons]
    exact List.take_of_length_le (by omega)
theorem digitsVal_lt : ∀ {l : List Nat}, NumText.AllDigits l → NumText.digitsVal l < 10 ^ l.length := by
  have key : ∀ (l : List Nat) (a k : Nat), NumText.AllDigits l → a < 10 ^ k → l.foldl (fun acc c => acc * 10 + (c - 48)) a < 10 ^ (k + l.length) := by
    intro l
    induction l with
    | nil => intro a k _ h; exact h
    | cons c r ih =>
      intro a k hd h
      have := hd.head
      rw [List.foldl_cons, List.length_cons, show k + (r.length + 1) = (k + 1) + r.length by omega]
      refine ih _ (k + 1) hd.tail ?_
      rw [Nat.pow_succ]; omega
  intro l h
  have := key l 0 0 h (by decide)
  rwa [Nat.zero_add] at this
theorem int_sign {l : List Nat} (h : wholeL (figL l) = true) : PySem.intText? (ofL l) = some (signL l) ∧ (ofL l).length ≤ 640 := by
  obtain ⟨hd, hn, hl⟩ := wholeL_digits h
  unfold figL at hd hn hl
  unfold signL
  split at hd
  · next e =>
    rw [if_pos e] at hn hl ⊢
    cases l with
    | nil => simp at e
    | cons a r =>
      simp only [List.take_succ_cons, List.take_zero, List.cons.injEq, and_true] at e
      subst e
      simp only [List.drop_succ_cons, List.drop_zero] at hd hn hl ⊢
      refine ⟨intText_neg (x := ofL (45 :: r)) rfl hd hn ?_, ?_⟩ <;> rw [ofL_len, List.length_cons] <;> omega
  · next e =>
    rw [if_neg e] at hn hl ⊢
    exact ⟨intText_digits (x := ofL l) hd hn (by rw [ofL_len]; omega), by rw [ofL_len]; omega⟩
theorem int_whole {l : List Nat} (h : wholeL l = true) : PySem.intText? (ofL l) = some ((NumText.digitsVal l : Nat) : Int) ∧ (ofL l).length ≤ 640 := by
  obtain ⟨hd, hn, hl⟩ := wholeL_digits h
  exact ⟨intText_digits (x := ofL l) hd hn (by rw [ofL_len]; omega), by rw [ofL_len]; omega⟩
theorem signL_abs {l : List Nat} : (signL l).natAbs = NumText.digitsVal (figL l) := by
  unfold signL figL
  split
  · rw [Int.natAbs_neg, Int.natAbs_natCast]
  · rw [Int.natAbs_natCast]
theorem whole_lt {l : List Nat} (h : wholeL l = true) : NumText.digitsVal l < 10 ^ 30 := by
  obtain ⟨hd, hn, hl⟩ := wholeL_digits h
  exact Nat.lt_of_lt_of_le (digitsVal_lt hd) (Nat.pow_le_pow_right (by decide) hl)
theorem fr_divInt {n : Int} {d : Nat} (h : Nat.gcd n.natAbs d = 1) (h0 : d ≠ 0) : fr (Rat.divInt n (d : Nat)) = .tup [.int n, .int (d : Nat)] := by
  have e : Rat.divInt n (d : Nat) = ⟨n, d, h0, h⟩ := Rat.num_divInt_den ⟨n, d, h0, h⟩
  rw [e]; rfl
theorem fold_le : ∀ (l : List Nat) (a : Nat), a ≤ l.foldl (fun acc c => acc * 10 + (c - 48)) a
  | [], a => Nat.le_refl a
  | c :: r, a => by
    rw [List.foldl_cons]
    exact Nat.le_trans (by omega) (fold_le r _)
theorem whole_pos {l : List Nat} (h : wholeL l = true) (h0 : l ≠ [48]) : NumText.digitsVal l ≠ 0 := by
  obtain ⟨hd, hn, -⟩ := wholeL_digits h
  simp only [wholeL, Bool.and_eq_true, Bool.or_eq_true, decide_eq_true_eq] at h
  have hh := h.2.resolve_right h0
  cases l with
  | nil => exact absurd rfl hn
  | cons a r =>
    have h1 := hd.head
    have h2 : a ≠ 48 := fun e => hh (by rw [e]; rfl)
    have := fold_le r (0 * 10 + (a - 48))
    unfold NumText.digitsVal
    rw [List.foldl_cons]
    omega
theorem fracIn_fig {l : List Nat} {q : Rat} (h : fracIn l = some q) : Fig q := by
  unfold fracIn at h
  split at h
  · split at h
    · next hc =>
      injection h with h
      simp only [Bool.and_eq_true] at hc
      rw [← h]
      refine ⟨?_, show 1 < 10 ^ 30 by decide⟩
      show (signL l).natAbs < _
      rw [signL_abs]; exact whole_lt hc.1
    · cases h
  · next t b hp =>
    split at h
    · next hc =>
      injection h with h
      simp only [Bool.and_eq_true, decide_eq_true_eq] at hc
      obtain ⟨⟨⟨⟨h1, h2⟩, h3⟩, h4⟩, h5⟩ := hc
      rw [← signL_abs] at h5
      have hb : NumText.digitsVal b ≠ 0 := whole_pos h3 fun e => by rw [decide_eq_true (.inl e)] at h4; cases h4
      have e : Rat.divInt (signL t) (NumText.digitsVal b : Nat) = ⟨signL t, NumText.digitsVal b, hb, h5⟩ := Rat.num_divInt_den ⟨signL t, NumText.digitsVal b, hb, h5⟩
      rw [← h, e]
      refine ⟨?_, whole_lt h3⟩
      show (signL t).natAbs < _
      rw [signL_abs]; exact whole_lt h1
    · cases h
theorem fig_bd {q : Rat} (h : Fig q) : BD q 100 := ⟨sz_le (by decide) (Nat.lt_of_lt_of_le h.1 (by decide)) (Nat.lt_of_lt_of_le h.2 (by decide))⟩
theorem bd_fig {q : Rat} (h : sz q ≤ 99) : Fig q := by
  have h1 : q.num.natAbs < 2 ^ 99 := Nat.lt_of_lt_of_le (sz_num q) (Nat.pow_le_pow_right (by decide) h)
  have h2 : q.den < 2 ^ 99 := Nat.lt_of_lt_of_le (sz_den q) (Nat.pow_le_pow_right (by decide) h)
  exact ⟨Nat.lt_of_lt_of_le h1 (by decide), Nat.lt_of_lt_of_le h2 (by decide)⟩
theorem T_slash : Str.ofString "/" = ofL [47] := ext_tl rfl
theorem T_blank : Str.ofString " " = ofL [32] := ext_tl rfl
theorem T_line : Str.ofString "\n" = ofL [10] := ext_tl rfl
theorem T_none : Str.ofString "" = ofL [] := ext_tl rfl
theorem T_minus : Str.ofString "-" = ofL [45] := ext_tl rfl
theorem T_mnought : Str.ofString "-0" = ofL [45, 48] := ext_tl rfl
theorem T_0 : Str.ofString "0" = ofL [48] := ext_tl rfl
theorem T_1 : Str.ofString "1" = ofL [49] := ext_tl rfl
theorem T_wall : Str.ofString "wall" = ofL WALL := ext_tl rfl
theorem T_figs : Str.ofString "0123456789" = ofL [48, 49, 50, 51, 52, 53, 54, 55, 56, 57] := ext_tl rfl
theorem sz_log {q : Rat} {n : Nat} (h : sz q ≤ n) (h2 : n < 1920) : q.num.natAbs.log2 < 1920 ∧ ((q.den : Nat) : Int).natAbs.log2 < 1920 := by
  unfold sz at h
  rw [Int.natAbs_natCast]
  omega
theorem intL_len2 {i : Int} (h : i.natAbs.log2 < 1920) : (intL i).length ≤ 1921 := by
  have := PyProof.Rows.int_text_len_1921 h
  rw [show (Str.ofString (toString i)) = ofL (intL i) from strI_L i, ofL_len] at this
  exact this
theorem shL_eq {q : Rat} : shL q = if q.den = 1 then intL q.num else intL q.num ++ 47 :: intL (q.den : Nat) := rfl
theorem par_len {S : List Nat} : ∀ {l acc a b : List Nat}, par S acc l = some (a, b) → a.length ≤ acc.length + l.length ∧ b.length ≤ l.length
  | [], acc, a, b, h => by cases h
  | c :: r, acc, a, b, h => by
    cases hp : pre S (c :: r) with
    | true =>
      rw [par_hit hp] at h
      injection h with h
      injection h with h1 h2
      rw [← h1, ← h2, List.length_drop]
      omega
    | false =>
      rw [par_miss hp] at h
      have := par_len h
      rw [List.length_append, List.length_singleton] at this
      rw [List.length_cons]; omega
theorem sum_bd {α : Type} {f : α → Nat} {m : Nat} : ∀ {ps : List α}, (∀ p ∈ ps, f p ≤ m) → (ps.map f).sum ≤ ps.length * m
  | [], _ => Nat.zero_le _
  | p :: r, h => by
    have := h p List.mem_cons_self
    have := sum_bd (ps := r) fun x hx => h x (List.mem_cons_of_mem _ hx)
    rw [List.map_cons, List.sum_cons, List.length_cons, Nat.succ_mul]; omega
theorem mem_01 {b : List Nat} : memD (.str (ofL b)) [.str (ofL [48]), .str (ofL [49])] = decide (b = [48] ∨ b = [49]) := by
  have e : ∀ a : List Nat, D.deq (.str (ofL a)) (.str (ofL b)) = decide (b = a) := fun a => by
    show (ofL a == ofL b) = _
    by_cases h : b = a
    · rw [h]; simp
    · rw [decide_eq_false h]
      exact beq_eq_false_iff_ne.mpr fun e => h (ofL_inj.mp e).symm
  show (D.deq _ _ || (D.deq _ _ || false)) = _
  rw [e, e]
  by_cases h : b = [48] <;> by_cases h2 : b = [49] <;> simp [h, h2]
theorem spotIn_bp {a b : List Nat} {u : Pt} (h : spotIn a b = some u) : BP u 100 := by
  unfold spotIn at h
  split at h
  · next x y e1 e2 =>
    injection h with h
    have h1 := fig_bd (fracIn_fig e1)
    have h2 := fig_bd (fracIn_fig e2)
    rw [← h]
    exact ⟨h1.le, h2.le⟩
  · cases h
theorem strOk_L {l : List Nat} (h : ∀ c ∈ l, c < 1114112) : PyData.strOk (ofL l) = true := by
  show (ofL l).cps.all (· < 0x110000) = true
  rw [← Array.all_toList, List.all_eq_true]
  exact fun c hc => decide_eq_true (h c hc)
theorem whole_ok {l : List Nat} (h : wholeL l = true) : PyData.strOk (ofL l) = true := strOk_L fun c hc => by
  have := (wholeL_digits h).1 c hc; omega
end FL
set_option maxRecDepth 100000
set_option maxHeartbeats 1000000
/-! # texts of questions and answers -/
namespace FL
open PySem PySem.Spec L2 TL ML
theorem fig_divInt {t b : Int} (h1 : t.natAbs < 10 ^ 30) (h2 : b.natAbs < 10 ^ 30) : Fig (Rat.divInt t b) := by
  refine ⟨?_, ?_⟩
  · rw [Rat.num_divInt, Int.natAbs_ediv_of_dvd]
    · refine Nat.lt_of_le_of_lt (Nat.div_le_self _ _) ?_
      rw [Int.natAbs_mul]
      rcases Int.lt_trichotomy b 0 with h | h | h
      · rw [Int.sign_eq_neg_one_of_neg h]; simpa using h1
      · subst h; simp
      · rw [Int.sign_eq_one_of_pos h]; simpa using h1
    · exact Int.dvd_mul_of_dvd_right (Int.gcd_dvd_right ..)
  · rw [Rat.den_divInt]
    split
    · decide
    · exact Nat.lt_of_le_of_lt (Nat.div_le_self _ _) h2
def ASK : List Nat := [97, 115, 107]
def askL (u : Pt) : List (List Nat) := [ASK, shL u.1, shL u.2]
def asL (u : Pt) : List Nat := joinL [32] (askL u)
def questIn : List (List Nat) → Option Pt
  | [w, a, b] => if w = ASK then spotIn a b else none
  | _ => none
def FigP (u : Pt) : Prop := Fig u.1 ∧ Fig u.2
theorem T_ask : Str.ofString "ask" = ofL ASK := ext_tl rfl
def qX (P : List Wl) (us : List Pt) : D := .tup [.tup (P.map wlD), .lst (us.map spD)]
theorem plains_of {α : Type} {f : α → D} (h : ∀ a, D.plain (f a) = true) : ∀ xs : List α, D.plains (xs.map f) = true
  | [] => rfl
  | a :: r => by
    show (D.plain (f a) && D.plains (r.map f)) = true
    rw [h, plains_of h r]; rfl
theorem deps_of {α : Type} {f : α → D} {k : Nat} (h : ∀ a, D.dep (f a) ≤ k) : ∀ xs : List α, D.deps (xs.map f) ≤ k
  | [] => Nat.zero_le _
  | a :: r => by
    have := h a
    have := deps_of h r
    show max (D.dep (f a)) (D.deps (r.map f)) ≤ k
    omega
theorem qX_plain {P : List Wl} {us : List Pt} : D.plain (qX P us) = true := by
  show (D.plains (P.map wlD) && (D.plains (us.map spD) && true)) = true
  rw [plains_of plain_wl, plains_of plain_sp]; rfl
theorem deeps_self {S : Sto} : ∀ {ds : List D}, D.plains ds = true → Deeps S ds ds
  | [], _ => .nil
  | d :: ds, h => by
    obtain ⟨a, b⟩ := Bool.and_eq_true_iff.mp (show (D.plain d && D.plains ds) = true from h)
    exact .cons (.same a) (deeps_self b)
theorem qX_deep {S : Sto} {P : List Wl} {us : List Pt} {q : Addr} (h : S q = some (.lst (us.map spD))) : Deep S (.tup [.tup (P.map wlD), .ref q]) (qX P us) :=
  .tup (.cons (.same (show D.plains (P.map wlD) = true from plains_of plain_wl P)) (.cons (.ref h (deeps_self (plains_of plain_sp us))) .nil))
end FL
set_option maxRecDepth 100000
/-! # promises of the texts' functions (lib35) -/
namespace FL
open PySem PySem.Spec L2 TL ML
def sp_show_fraction : MSp := fun ds S Q _ => ∃ q : Rat, ds = [fr q] ∧ sz q ≤ 1900 ∧ Q (.str (ofL (shL q))) S
abbrev sp_fshown : MSp := sp_show_fraction
def sp_is_whole : MSp := fun ds S Q _ => ∃ l : List Nat, ds = [.str (ofL l)] ∧ l.length ≤ sizeLine ∧ Q (.bl (wholeL l)) S
def frO : Option Rat → D
  | none => .non
  | some q => fr q
def spO : Option Pt → D
  | none => .non
  | some q => spD q
def wlO : Option Wl → D
  | none => .non
  | some q => wlD q
def sp_fraction_in : MSp := fun ds S Q _ => ∃ l : List Nat, ds = [.str (ofL l)] ∧ l.length ≤ 1000000 ∧ Q (frO (fracIn l)) S
def sp_spot_in : MSp := fun ds S Q _ => ∃ a b : List Nat, ds = [.lst [.str (ofL a), .str (ofL b)]] ∧ a.length ≤ 1000000 ∧ b.length ≤ 1000000 ∧ Q (spO (spotIn a b)) S
def sp_wall_in : MSp := fun ds S Q _ => ∃ ws : List (List Nat), ds = [.lst (ws.map fun l => .str (ofL l))] ∧ ws.length ≤ 1000000 ∧ (∀ l ∈ ws, l.length ≤ 1000000) ∧ Q (wlO (wallIn ws)) S
def rowsIn (l : List Nat) : List (List Nat) := if l = [] then [] else spl [10] 0 [] l
def sp_rows_in : MSp := fun ds S Q _ => ∃ l : List Nat, ds = [.str (ofL l)] ∧ l.length ≤ 1000000 ∧ Q (.lst ((rowsIn l).map fun l => .str (ofL l))) S
def sp_question_in : MSp := fun ds S Q _ => ∃ ws : List (List Nat), ds = [.lst (ws.map fun l => .str (ofL l))] ∧ ws.length ≤ 1000000 ∧ (∀ l ∈ ws, l.length ≤ 1000000) ∧ Q (spO (questIn ws)) S
end FL
set_option maxRecDepth 100000
namespace FL
open PySem PySem.Spec L2 ML
def b_is_whole : MS := (mSeq (mIfS (mOr (mNot (mTst (mChain aLe aLe (mC (.int 1)) (mBlt bLen (mCons (mVar 0) mNil)) (mC (.int 30))))) (mNot (mTru (mBlt bAll (mCons (mCompF (iStrM (mVar 0)) (gNm 1) mYes (mOp (rInS false) (mVar 1) (mC (.str "0123456789"))) [1]) mNil))))) (mRet (mC (.bl false))) mNext)
  (mRet (mOrV (mOp rNeS (mOp rIxT' (mVar 0) (mC (.int 0))) (mC (.str "0"))) (mOp rEqS (mVar 0) (mC (.str "0"))))))
def b_rows_in : MS := (mSeq (mIfS (mTst (mOp rEqS (mVar 0) (mC (.str "")))) (mRet (mLstF mNil)) mNext)
  (mRet (mTx1 rmSplit (mVar 0) (mC (.str "\n")))))
def b_fshown : MS := (mRet (mOp rAdd (mBlt bStrI (mCons (mOp rIxM (mVar 0) (mC (.int 0))) mNil)) (mOp rIxM (mLstF (mCons (mOp rAdd (mC (.str "/")) (mBlt bStrI (mCons (mOp rIxM (mVar 0) (mC (.int 1))) mNil))) (mCons (mC (.str "")) mNil))) (mBlt bInt (mCons (mOp rEqM (mOp rIxM (mVar 0) (mC (.int 1))) (mC (.int 1))) mNil)))))
def b_fraction_in : MS := (mSeq (mAsg (mTx1 rmPart (mVar 0) (mC (.str "/"))) (gTp 3 (gCn (gNm 1) (gCn (gNm 2) (gCn (gNm 3) gNl)))))
  (mSeq (mSet 4 (mVar 1))
  (mSeq (mIfS (mTst (mOp rEqS (mCutS (mVar 1) oNo (oSo (mC (.int 1)))) (mC (.str "-")))) (mSet 4 (mCutS (mVar 1) (oSo (mC (.int 1))) oNo)) mNext)
  (mSeq (mIfS (mOr (mNot (mTru (mCall FL.sp_is_whole (mCons (mVar 4) mNil)))) (mTst (mOp rEqS (mVar 1) (mC (.str "-0"))))) (mRet (mC .non)) mNext)
  (mSeq (mIfS (mTst (mOp rEqS (mVar 2) (mC (.str "")))) (mRet (mTup (mCons (mBlt bIntS (mCons (mVar 1) mNil)) (mCons (mC (.int 1)) mNil)))) mNext)
  (mSeq (mIfS (mOr (mNot (mTru (mCall FL.sp_is_whole (mCons (mVar 3) mNil)))) (mOr (mTst (mOp (rInM false) (mVar 3) (mTup (mCons (mC (.str "0")) (mCons (mC (.str "1")) mNil))))) (mTst (mOp rNeM (mCall FL.sp_divisor (mCons (mBlt bIntS (mCons (mVar 4) mNil)) (mCons (mBlt bIntS (mCons (mVar 3) mNil)) mNil))) (mC (.int 1)))))) (mRet (mC .non)) mNext)
  (mRet (mTup (mCons (mBlt bIntS (mCons (mVar 1) mNil)) (mCons (mBlt bIntS (mCons (mVar 3) mNil)) mNil))))))))))
def b_spot_in : MS := (mSeq (mAsg (mCompF (iS (mVar 0)) (gNm 3) mYes (mCall FL.sp_fraction_in (mCons (mVar 3) mNil)) [3]) (gLs 2 (gCn (gNm 1) (gCn (gNm 2) gNl))))
  (mSeq (mIfS (mOr (mTst (mOp rIsN (mVar 1) (mC .non))) (mTst (mOp rIsN (mVar 2) (mC .non)))) (mRet (mC .non)) mNext)
  (mRet (mTup (mCons (mVar 1) (mCons (mVar 2) mNil))))))
def b_wall_in : MS := (mSeq (mIfS (mOr (mTst (mOp rNeM (mBlt bLen (mCons (mVar 0) mNil)) (mC (.int 5)))) (mTst (mOp rNeS (mOp rIxM (mVar 0) (mC (.int 0))) (mC (.str "wall"))))) (mRet (mC .non)) mNext)
  (mSeq (mSet 1 (mCall FL.sp_spot_in (mCons (mCut (mVar 0) (oSo (mC (.int 1))) (oSo (mC (.int 3)))) mNil)))
  (mSeq (mSet 2 (mCall FL.sp_spot_in (mCons (mCut (mVar 0) (oSo (mC (.int 3))) (oSo (mC (.int 5)))) mNil)))
  (mSeq (mIfS (mOr (mTst (mOp rIsN (mVar 1) (mC .non))) (mOr (mTst (mOp rIsN (mVar 2) (mC .non))) (mNot (mTru (mCall FL.sp_is_ahead (mCons (mVar 1) (mCons (mVar 2) mNil))))))) (mRet (mC .non)) mNext)
  (mRet (mTup (mCons (mVar 1) (mCons (mVar 2) mNil))))))))
def b_question_in : MS := (mSeq (mIfS (mOr (mTst (mOp rNeM (mBlt bLen (mCons (mVar 0) mNil)) (mC (.int 3)))) (mTst (mOp rNeS (mOp rIxM (mVar 0) (mC (.int 0))) (mC (.str "ask"))))) (mRet (mC .non)) mNext)
  (mRet (mCall FL.sp_spot_in (mCons (mCut (mVar 0) (oSo (mC (.int 1))) (oSo (mC (.int 3)))) mNil))))
end FL
-- FLQ    
set_option maxRecDepth 100000
set_option maxHeartbeats 4000000
namespace FL
open PySem PySem.Spec L2 TL ML
-- counts /tmp/scratch/dev/N_lib35.json
theorem l_fshown : ∀ ds S Q E, FL.sp_fshown ds S Q E → ds.length = 1 := by rintro _ _ _ _ ⟨_, rfl, _⟩; rfl
theorem l_is_whole : ∀ ds S Q E, FL.sp_is_whole ds S Q E → ds.length = 1 := by rintro _ _ _ _ ⟨_, rfl, _⟩; rfl
theorem l_fraction_in : ∀ ds S Q E, FL.sp_fraction_in ds S Q E → ds.length = 1 := by rintro _ _ _ _ ⟨_, rfl, _⟩; rfl
theorem l_spot_in : ∀ ds S Q E, sp_spot_in ds S Q E → ds.length = ["words"].length := by
  rintro _ _ _ _ ⟨a, b, rfl, _⟩; rfl
theorem l_wall_in : ∀ ds S Q E, FL.sp_wall_in ds S Q E → ds.length = 1 := by rintro _ _ _ _ ⟨_, rfl, _⟩; rfl
theorem l_question_in : ∀ ds S Q E, FL.sp_question_in ds S Q E → ds.length = 1 := by rintro _ _ _ _ ⟨_, rfl, _⟩; rfl
theorem l_rows_in : ∀ ds S Q E, FL.sp_rows_in ds S Q E → ds.length = 1 := by rintro _ _ _ _ ⟨_, rfl, _⟩; rfl
theorem r_fshown : ∀ ds S Q E, FL.sp_fshown ds S Q E → b_fshown (mends Q E) (mstart 0 ds) S := by
  rintro _ S Q E ⟨q, rfl, hq, k⟩
  unfold b_fshown
  simp only [ML.q_mstart, ML.q_mends, List.map_cons, List.map_nil, List.replicate, List.cons_append, List.nil_append]
  obtain ⟨g1, g2⟩ := sz_log hq (by decide)
  have l1 := intL_len2 g1
  have l2 := intL_len2 g2
  simp only [gz4]
  refine ⟨g1, g2, ?_, ?_⟩
  · rw [strI_L, T_slash, ofL_len, ofL_len, List.length_singleton]; show _ ≤ 2 ^ 24; omega
  rw [strI_L, strI_L, T_slash, T_none, ofL_app]
  by_cases h : (q.den : Int) = 1
  · rw [if_pos h]
    have h2 : q.den = 1 := by omega
    rw [shL_eq, if_pos h2] at k
    refine ⟨by rw [ofL_len, ofL_len]; show _ ≤ 2 ^ 24; simp only [List.length_nil]; omega, ?_⟩
    rw [ofL_app, List.append_nil]; exact k
  · rw [if_neg h]
    have h2 : ¬ q.den = 1 := by omega
    rw [shL_eq, if_neg h2] at k
    refine ⟨by rw [ofL_len, ofL_len]; show _ ≤ 2 ^ 24; simp only [List.length_append, List.length_singleton]; omega, ?_⟩
    rw [ofL_app]; exact k
theorem r_is_whole : ∀ ds S Q E, FL.sp_is_whole ds S Q E → b_is_whole (mends Q E) (mstart 1 ds) S := by
  rintro _ S Q E ⟨l, rfl, hl, k⟩
  unfold b_is_whole
  simp only [ML.q_mstart, ML.q_mends, List.map_cons, List.map_nil, List.replicate, List.cons_append, List.nil_append]
  simp only [gz4]
  have e : lenD S (.str (ofL l)) = some l.length := by
    show (if (ofL l).length ≤ sizeLine then some (ofL l).length else none) = _
    rw [ofL_len, if_pos hl]
  simp only [gz4, e]
  have bad : ¬ (1 ≤ l.length ∧ l.length ≤ 30) → Q (.bl false) S := fun h => by
    have e2 : wholeL l = false := by unfold wholeL; rw [decide_eq_false h]; rfl
    rw [e2] at k; exact k
  refine ⟨fun h1 => ?_, fun h1 => ?_⟩
  · simp only [gz4]
    refine ⟨fun h2 => ?_, fun h2 => ?_⟩
    · simp only [gz4]
      exact bad (by omega)
    · have h2 : (l.length : Int) ≤ 30 := by omega
      simp only [gz4]
      intro p hp
      refine comp_map (fun c => .str ⟨#[c]⟩) (fun c => .bl (decide (c ∈ ([48, 49, 50, 51, 52, 53, 54, 55, 56, 57] : List Nat)))) l rfl (by omega) (fun _ => trivial) ?_ ?_
      · intro c acc Q1 hm q1
        simp only [gz4]
        rw [T_figs]
        exact q1
      · have em : (l.map fun c => D.bl (decide (c ∈ ([48, 49, 50, 51, 52, 53, 54, 55, 56, 57] : List Nat)))) = (l.map fun c => decide (c ∈ ([48, 49, 50, 51, 52, 53, 54, 55, 56, 57] : List Nat))).map .bl := by rw [List.map_map]; rfl
        have ea : (l.map fun c => decide (c ∈ ([48, 49, 50, 51, 52, 53, 54, 55, 56, 57] : List Nat))).all id = l.all fun c => decide (c ∈ ([48, 49, 50, 51, 52, 53, 54, 55, 56, 57] : List Nat)) := by rw [List.all_map]; rfl
        simp only [gz4, del_put hp, em, l_bAll, ea]
        unfold wholeL at k
        rw [decide_eq_true (⟨by omega, by omega⟩ : 1 ≤ l.length ∧ l.length ≤ 30), Bool.true_and] at k
        refine ⟨fun hb => ?_, fun hb => ?_⟩
        · have hb : (l.all fun c => decide (c ∈ ([48, 49, 50, 51, 52, 53, 54, 55, 56, 57] : List Nat))) = false := by simpa using hb
          rw [hb, Bool.false_and] at k
          simp only [gz4]
          exact k
        · have hb := (Bool.not_eq_false _).mp hb
          rw [hb, Bool.true_and] at k
          simp only [gz4]
          cases l with
          | nil => simp at h1
          | cons a r =>
            refine ⟨a, ⟨by rw [ofL_len]; exact hl, by show atI (a :: r) 0 = some a; simp [atI, ixN]⟩, ?_⟩
            simp only [gz4, T_0]
            rw [show (⟨#[a]⟩ : Str) = ofL [a] from rfl, ofL_inj]
            refine ⟨fun h3 => ?_, fun h3 => ?_⟩
            · simp only [gz4]
              have h3 : (a :: r).head? ≠ some 48 := fun h => h3 (by injection h with h; rw [h])
              rw [decide_eq_true h3, Bool.true_or] at k
              exact k
            · have h3 : ¬ (a :: r).head? ≠ some 48 := fun h => h3 fun h4 => h (by injection h4 with h4; rw [h4]; rfl)
              simp only [gz4, T_0, ofL_inj]
              rw [decide_eq_false h3, Bool.false_or] at k
              exact k
  · simp only [gz4]
    exact bad (by omega)
theorem r_fraction_in : ∀ ds S Q E, FL.sp_fraction_in ds S Q E → b_fraction_in (mends Q E) (mstart 4 ds) S := by
  rintro _ S Q E ⟨l, rfl, hl, k⟩
  unfold b_fraction_in
  simp only [ML.q_mstart, ML.q_mends, List.map_cons, List.map_nil, List.replicate, List.cons_append, List.nil_append]
  cases hp : par [47] [] l with
  | none =>
    have e : Txt.partition (ofL l) (Str.ofString "/") = (ofL l, ofL [], ofL []) := by
      rw [part_L _ _ (by decide), T_slash, tl_ofL, tl_ofL, hp]; rfl
    simp only [gz4, e, T_minus, T_mnought, T_none, cut_take1, cut_drop1, ofL_inj]
    refine ⟨⟨by decide, by rw [ofL_len]; show _ ≤ 2 ^ 24; omega⟩, by rw [ofL_len]; show _ ≤ 2 ^ 24; omega, ?_⟩
    have bad : wholeL (figL l) = false ∨ l = [45, 48] → Q .non S := fun h => by
      have : fracIn l = none := by
        unfold fracIn
        rw [hp]
        dsimp only
        rw [if_neg]
        rcases h with h | h
        · rw [h]; simp
        · rw [decide_eq_true h]; simp
      rw [this] at k; exact k
    refine ⟨fun h => ?_, fun h => ?_⟩
    · simp only [gz4, T_mnought, T_none, cut_drop1, ofL_inj]
      refine ⟨by rw [ofL_len]; show _ ≤ 2 ^ 24; omega, l.drop 1, rfl, by rw [List.length_drop]; show _ ≤ 2 ^ 24; omega, ?_⟩
      have hf : l.drop 1 = figL l := by unfold figL; rw [if_pos h]
      rw [hf]
      simp only [gz4, T_mnought, T_none, ofL_inj]
      refine ⟨fun w => ?_, fun w => ?_⟩
      · simp only [gz4]
        exact bad (.inl w)
      have w := (Bool.not_eq_false _).mp w
      simp only [gz4, T_mnought, T_none, ofL_inj]
      refine ⟨fun h2 => ?_, fun h2 => ?_⟩
      · simp only [gz4]
        exact bad (.inr h2)
      simp only [gz4, T_mnought, T_none, ofL_inj]
      refine ⟨signL l, (int_sign w).1, (int_sign w).2, ?_⟩
      simp only [gz4]
      have : fracIn l = some ((signL l : Int) : Rat) := by
        unfold fracIn
        rw [hp]
        dsimp only
        rw [if_pos]
        rw [w, decide_eq_false h2]; rfl
      rw [this] at k
      exact k
    · simp only [gz4, T_mnought, T_none, ofL_inj]
      have hf : figL l = l := by unfold figL; rw [if_neg h]
      refine ⟨figL l, by rw [hf], by rw [hf]; show _ ≤ 2 ^ 24; omega, ?_⟩
      simp only [gz4, T_mnought, T_none, ofL_inj]
      refine ⟨fun w => ?_, fun w => ?_⟩
      · simp only [gz4]
        exact bad (.inl w)
      have w := (Bool.not_eq_false _).mp w
      simp only [gz4, T_mnought, T_none, ofL_inj]
      refine ⟨fun h2 => ?_, fun h2 => ?_⟩
      · simp only [gz4]
        exact bad (.inr h2)
      simp only [gz4, T_mnought, T_none, ofL_inj]
      refine ⟨signL l, (int_sign w).1, (int_sign w).2, ?_⟩
      simp only [gz4]
      have : fracIn l = some ((signL l : Int) : Rat) := by
        unfold fracIn
        rw [hp]
        dsimp only
        rw [if_pos]
        rw [w, decide_eq_false h2]; rfl
      rw [this] at k
      exact k
  | some tb =>
    obtain ⟨t, b⟩ := tb
    have e : Txt.partition (ofL l) (Str.ofString "/") = (ofL t, ofL [47], ofL b) := by
      rw [part_L _ _ (by decide), T_slash, tl_ofL, tl_ofL, hp]
    simp only [gz4, e, T_minus, T_mnought, T_none, cut_take1, cut_drop1, ofL_inj]
    have ltb : t.length ≤ 1000000 ∧ b.length ≤ 1000000 := by have := par_len hp; simp only [List.length_nil] at this; omega
    have bad : wholeL (figL t) = false ∨ t = [45, 48] ∨ wholeL b = false ∨ (b = [48] ∨ b = [49]) ∨ Nat.gcd (NumText.digitsVal (figL t)) (NumText.digitsVal b) ≠ 1 → Q .non S := fun h => by
      have : fracIn l = none := by
        unfold fracIn
        rw [hp]
        dsimp only
        rw [if_neg]
        rcases h with h | h | h | h | h
        · rw [h]; simp
        · rw [decide_eq_true h]; simp
        · rw [h]; simp
        · rw [decide_eq_true h]; simp
        · rw [decide_eq_false h]; simp
      rw [this] at k; exact k
    refine ⟨⟨by decide, by rw [ofL_len]; show _ ≤ 2 ^ 24; omega⟩, by rw [ofL_len]; show _ ≤ 2 ^ 24; omega, ?_⟩
    refine ⟨fun h => ?_, fun h => ?_⟩
    · simp only [gz4, T_mnought, T_none, cut_drop1, ofL_inj]
      refine ⟨by rw [ofL_len]; show _ ≤ 2 ^ 24; omega, t.drop 1, rfl, by rw [List.length_drop]; show _ ≤ 2 ^ 24; omega, ?_⟩
      have hf : t.drop 1 = figL t := by unfold figL; rw [if_pos h]
      rw [hf]
      simp only [gz4, T_mnought, T_none, ofL_inj]
      refine ⟨fun w => ?_, fun w => ?_⟩
      · simp only [gz4]
        exact bad (.inl w)
      have w := (Bool.not_eq_false _).mp w
      have iw := int_whole w
      simp only [gz4, T_mnought, T_none, ofL_inj]
      refine ⟨fun h2 => ?_, fun h2 => ?_⟩
      · simp only [gz4]
        exact bad (.inr (.inl h2))
      simp only [gz4, T_mnought, T_none, ofL_inj]
      refine ⟨b, rfl, by show _ ≤ 2 ^ 24; omega, ?_⟩
      simp only [gz4, T_0, T_1, ofL_inj]
      refine ⟨fun w2 => ?_, fun w2 => ?_⟩
      · simp only [gz4]
        exact bad (.inr (.inr (.inl w2)))
      have w2 := (Bool.not_eq_false _).mp w2
      simp only [gz4, T_0, T_1, ofL_inj]
      refine ⟨⟨whole_ok w2, by simp only [D.plains, D.plain, strOk_L (l := [48]) (by decide), strOk_L (l := [49]) (by decide)]; rfl, Nat.zero_le _, by simp [D.deps, D.dep]⟩, ?_⟩
      rw [mem_01]
      simp only [gz4]
      refine ⟨fun h3 => ?_, fun h3 => ?_⟩
      · simp only [gz4]
        exact bad (.inr (.inr (.inr (.inl (by simpa using h3)))))
      have h3 : ¬ (b = [48] ∨ b = [49]) := by simpa using h3
      simp only [gz4]
      refine ⟨_, iw.1, iw.2, ?_⟩
      simp only [gz4]
      refine ⟨_, (int_whole w2).1, (int_whole w2).2, _, _, rfl, ?_⟩
      simp only [gz4]
      refine ⟨fun h4 => ?_, fun h4 => ?_⟩
      · simp only [gz4]
        exact bad (.inr (.inr (.inr (.inr (by omega)))))
      have h4 : Nat.gcd (NumText.digitsVal (figL t)) (NumText.digitsVal b) = 1 := by omega
      simp only [gz4]
      refine ⟨_, (int_sign w).1, (int_sign w).2, ?_⟩
      simp only [gz4]
      refine ⟨_, (int_whole w2).1, (int_whole w2).2, ?_⟩
      have : fracIn l = some (Rat.divInt (signL t) (NumText.digitsVal b : Nat)) := by
        unfold fracIn
        rw [hp]
        dsimp only
        rw [if_pos]
        rw [w, w2, decide_eq_false h2, decide_eq_false h3, decide_eq_true h4]; rfl
      rw [this] at k
      simp only [frO] at k
      rw [fr_divInt (by rw [signL_abs]; exact h4) (whole_pos w2 fun e => h3 (.inl e))] at k
      simp only [gz4]
      exact k
    · simp only [gz4, T_mnought, T_none, ofL_inj]
      have hf : figL t = t := by unfold figL; rw [if_neg h]
      refine ⟨figL t, by rw [hf], by rw [hf]; show _ ≤ 2 ^ 24; omega, ?_⟩
      simp only [gz4, T_mnought, T_none, ofL_inj]
      refine ⟨fun w => ?_, fun w => ?_⟩
      · simp only [gz4]
        exact bad (.inl w)
      have w := (Bool.not_eq_false _).mp w
      have iw : intText? (ofL t) = some ((NumText.digitsVal (figL t) : Nat) : Int) ∧ (ofL t).length ≤ 640 := by have iw := int_whole w; rw [hf] at iw ⊢; exact iw
      simp only [gz4, T_mnought, T_none, ofL_inj]
      refine ⟨fun h2 => ?_, fun h2 => ?_⟩
      · simp only [gz4]
        exact bad (.inr (.inl h2))
      simp only [gz4, T_mnought, T_none, ofL_inj]
      refine ⟨b, rfl, by show _ ≤ 2 ^ 24; omega, ?_⟩
      simp only [gz4, T_0, T_1, ofL_inj]
      refine ⟨fun w2 => ?_, fun w2 => ?_⟩
      · simp only [gz4]
        exact bad (.inr (.inr (.inl w2)))
      have w2 := (Bool.not_eq_false _).mp w2
      simp only [gz4, T_0, T_1, ofL_inj]
      refine ⟨⟨whole_ok w2, by simp only [D.plains, D.plain, strOk_L (l := [48]) (by decide), strOk_L (l := [49]) (by decide)]; rfl, Nat.zero_le _, by simp [D.deps, D.dep]⟩, ?_⟩
      rw [mem_01]
      simp only [gz4]
      refine ⟨fun h3 => ?_, fun h3 => ?_⟩
      · simp only [gz4]
        exact bad (.inr (.inr (.inr (.inl (by simpa using h3)))))
      have h3 : ¬ (b = [48] ∨ b = [49]) := by simpa using h3
      simp only [gz4]
      refine ⟨_, iw.1, iw.2, ?_⟩
      simp only [gz4]
      refine ⟨_, (int_whole w2).1, (int_whole w2).2, _, _, rfl, ?_⟩
      simp only [gz4]
      refine ⟨fun h4 => ?_, fun h4 => ?_⟩
      · simp only [gz4]
        exact bad (.inr (.inr (.inr (.inr (by omega)))))
      have h4 : Nat.gcd (NumText.digitsVal (figL t)) (NumText.digitsVal b) = 1 := by omega
      simp only [gz4]
      refine ⟨_, (int_sign w).1, (int_sign w).2, ?_⟩
      simp only [gz4]
      refine ⟨_, (int_whole w2).1, (int_whole w2).2, ?_⟩
      have : fracIn l = some (Rat.divInt (signL t) (NumText.digitsVal b : Nat)) := by
        unfold fracIn
        rw [hp]
        dsimp only
        rw [if_pos]
        rw [w, w2, decide_eq_false h2, decide_eq_false h3, decide_eq_true h4]; rfl
      rw [this] at k
      simp only [frO] at k
      rw [fr_divInt (by rw [signL_abs]; exact h4) (whole_pos w2 fun e => h3 (.inl e))] at k
      simp only [gz4]
      exact k
theorem r_spot_in : ∀ ds S Q E, FL.sp_spot_in ds S Q E → b_spot_in (mends Q E) (mstart 3 ds) S := by
  rintro _ S Q E ⟨a, b, rfl, ha, hb, k⟩
  unfold b_spot_in
  simp only [ML.q_mstart, ML.q_mends, List.map_cons, List.map_nil, List.replicate, List.cons_append, List.nil_append]
  simp only [gz4]
  intro p hp
  refine comp_map (fun l => .str (ofL l)) (fun l => frO (fracIn l)) [a, b] rfl (by simp) (fun _ => trivial) ?_ ?_
  · intro l acc Q1 hm q1
    simp only [gz4]
    refine ⟨l, rfl, ?_, q1⟩
    rcases List.mem_cons.mp hm with rfl | hm
    · exact ha
    · rw [List.mem_singleton.mp hm]; exact hb
  · simp only [gz4, List.map_cons, List.map_nil]
    unfold spotIn at k
    cases e1 : fracIn a with
    | none =>
      rw [e1] at k
      refine ⟨fun _ => ?_, fun h => absurd rfl h⟩
      simp only [gz4, del_put hp]
      exact k
    | some x =>
      refine ⟨fun h => (by cases h), fun _ => ?_⟩
      simp only [gz4]
      cases e2 : fracIn b with
      | none =>
        rw [e1, e2] at k
        refine ⟨fun _ => ?_, fun h => absurd rfl h⟩
        simp only [gz4, del_put hp]
        exact k
      | some y =>
        rw [e1, e2] at k
        refine ⟨fun h => (by cases h), fun _ => ?_⟩
        simp only [gz4, del_put hp]
        exact k
theorem r_wall_in : ∀ ds S Q E, FL.sp_wall_in ds S Q E → b_wall_in (mends Q E) (mstart 2 ds) S := by
  rintro _ S Q E ⟨ws, rfl, hn, hl, k⟩
  unfold b_wall_in
  simp only [ML.q_mstart, ML.q_mends, List.map_cons, List.map_nil, List.replicate, List.cons_append, List.nil_append]
  simp only [gz4]
  refine ⟨fun h => ?_, fun h => ?_⟩
  · simp only [gz4]
    have : wallIn ws = none := by
      unfold wallIn
      split
      · next w a b c d => exact absurd rfl h
      · rfl
    rw [this] at k; exact k
  · obtain ⟨v, a, b, c, d, rfl⟩ : ∃ v a b c d, ws = [v, a, b, c, d] := by
      match ws, (by omega : ws.length = 5) with
      | [v, a, b, c, d], _ => exact ⟨v, a, b, c, d, rfl⟩
    have lv := hl v (by simp)
    have la := hl a (by simp)
    have lb := hl b (by simp)
    have lc := hl c (by simp)
    have ld := hl d (by simp)
    simp only [gz4, List.map_cons, List.map_nil]
    rw [T_wall, ofL_inj]
    refine ⟨fun h1 => ?_, fun h1 => ?_⟩
    · simp only [gz4]
      have : wallIn [v, a, b, c, d] = none := by unfold wallIn; exact if_neg h1
      rw [this] at k; exact k
    · have h1 : v = WALL := by simpa using h1
      simp only [gz4]
      refine ⟨a, b, rfl, la, lb, ?_⟩
      simp only [gz4]
      refine ⟨c, d, rfl, lc, ld, ?_⟩
      simp only [gz4]
      have k : Q (wlO (match spotIn a b, spotIn c d with
        | some u, some v => if ahead u v then some (u, v) else none
        | _, _ => none)) S := by
        unfold wallIn at k
        dsimp only at k
        rw [if_pos h1] at k; exact k
      cases e1 : spotIn a b with
      | none =>
        rw [e1] at k
        refine ⟨fun _ => ?_, fun h => absurd rfl h⟩
        simp only [gz4]
        exact k
      | some u =>
        refine ⟨fun h => (by cases h), fun _ => ?_⟩
        simp only [gz4]
        cases e2 : spotIn c d with
        | none =>
          rw [e1, e2] at k
          refine ⟨fun _ => ?_, fun h => absurd rfl h⟩
          simp only [gz4]
          exact k
        | some y =>
          rw [e1, e2] at k
          dsimp only at k
          refine ⟨fun h => (by cases h), fun _ => ?_⟩
          simp only [gz4]
          have b1 := spotIn_bp e1
          have b2 := spotIn_bp e2
          simp only [spO]
          rw [c_is_ahead (m := 100) (n := 100) (by decide)]
          simp only [gz4]
          refine ⟨fun h3 => ?_, fun h3 => ?_⟩
          · simp only [gz4]
            rw [if_neg h3] at k; exact k
          · simp only [gz4]
            rw [if_pos (Decidable.not_not.mp h3)] at k; exact k
theorem r_question_in : ∀ ds S Q E, FL.sp_question_in ds S Q E → b_question_in (mends Q E) (mstart 0 ds) S := by
  rintro _ S Q E ⟨ws, rfl, hn, hl, k⟩
  unfold b_question_in
  simp only [ML.q_mstart, ML.q_mends, List.map_cons, List.map_nil, List.replicate, List.cons_append, List.nil_append]
  simp only [gz4]
  refine ⟨fun h => ?_, fun h => ?_⟩
  · simp only [gz4]
    have : questIn ws = none := by
      unfold questIn
      split
      · next w a b => exact absurd rfl h
      · rfl
    rw [this] at k; exact k
  · obtain ⟨v, a, b, rfl⟩ : ∃ v a b, ws = [v, a, b] := by
      match ws, (by omega : ws.length = 3) with
      | [v, a, b], _ => exact ⟨v, a, b, rfl⟩
    have la := hl a (by simp)
    have lb := hl b (by simp)
    simp only [gz4, List.map_cons, List.map_nil]
    rw [T_ask, ofL_inj]
    refine ⟨fun h1 => ?_, fun h1 => ?_⟩
    · simp only [gz4]
      have : questIn [v, a, b] = none := by unfold questIn; exact if_neg h1
      rw [this] at k; exact k
    · have h1 : v = ASK := by simpa using h1
      have e : questIn [v, a, b] = spotIn a b := by unfold questIn; exact if_pos h1
      rw [e] at k
      simp only [gz4]
      exact ⟨a, b, rfl, la, lb, k⟩
theorem r_rows_in : ∀ ds S Q E, FL.sp_rows_in ds S Q E → b_rows_in (mends Q E) (mstart 0 ds) S := by
  rintro _ S Q E ⟨l, rfl, hl, k⟩
  unfold b_rows_in
  simp only [ML.q_mstart, ML.q_mends, List.map_cons, List.map_nil, List.replicate, List.cons_append, List.nil_append]
  simp only [gz4]
  rw [T_none, ofL_inj]
  unfold rowsIn at k
  refine ⟨fun h => ?_, fun h => ?_⟩
  · simp only [gz4]
    rw [if_pos h] at k
    exact k
  · simp only [gz4]
    rw [if_neg h] at k
    refine ⟨⟨by decide, by rw [ofL_len]; show _ ≤ 2 ^ 24; omega⟩, ?_⟩
    rw [T_line, split_L (by decide) (by decide), tl_ofL, tl_ofL, List.map_map]
    exact k
end FL
set_option maxRecDepth 100000
/-! # promises for walls of many figures (numbers of 120 bits, meeting spots of 2300) -/
namespace FL
open PySem PySem.Spec L2 TL ML
def sp_wcrossed : MSp := fun ds S Q _ => ∃ u v : Pt, ds = [spD u, spD v] ∧ (∃ m n, SzS m u ∧ SzS n v ∧ m + n < 3900) ∧ Q (fr (crs u v)) S
def sp_wleaning : MSp := fun ds S Q _ => ∃ u v : Pt, ds = [spD u, spD v] ∧ (∃ m n, SzS m u ∧ SzS n v ∧ m + n < 3900) ∧ Q (.int (sgn (crs u v))) S
def sp_wside_of : MSp := fun ds S Q _ => ∃ (w : Wl) (s : Pt), ds = [wlD w, spD s] ∧ (∃ m n, SzS m w.1 ∧ SzS m w.2 ∧ SzS n s ∧ 3 * m + n < 3800) ∧ Q (.int (side w s)) S
def sp_wlies_on : MSp := fun ds S Q _ => ∃ (w : Wl) (s : Pt), ds = [wlD w, spD s] ∧ (∃ m n, SzS m w.1 ∧ SzS m w.2 ∧ SzS n s ∧ 3 * m + n < 3800) ∧ Q (.bl (decide (liesOn w s))) S
def sp_wspot_of_lines : MSp := fun ds S Q _ => ∃ a b : Wl, ds = [wlD a, wlD b] ∧ BW a 120 ∧ BW b 120 ∧ crs (alng a) (alng b) ≠ 0 ∧ Q (spD (solW a b)) S
def sp_wmeeting_in_line : MSp := fun ds S Q _ => ∃ a b : Wl, ds = [wlD a, wlD b] ∧ BW a 120 ∧ BW b 120 ∧ Q (meD (inLine a b)) S
def sp_wmeeting : MSp := fun ds S Q _ => ∃ a b : Wl, ds = [wlD a, wlD b] ∧ BW a 120 ∧ BW b 120 ∧ Q (meD (meetW a b)) S
def sp_wis_fair : MSp := fun ds S Q _ => ∃ a b : Wl, ds = [wlD a, wlD b] ∧ BW a 120 ∧ BW b 120 ∧ Q (.bl (isFair a b)) S
def sp_wunfair_with : MSp := fun ds S Q _ => ∃ (d : D) (ws : List Wl) (w : Wl), ds = [d, wlD w] ∧ LstK S d (ws.map wlD) ∧ ws.length ≤ 1000 ∧ BW w 120 ∧ (∀ v ∈ ws, BW v 120) ∧ Q (onD (unfairAt ws w)) S
theorem sol_120 {a b : Wl} [h1 : BW a 120] [h2 : BW b 120] : BP (solW a b) 2300 := by
  unfold solW
  exact ⟨Nat.le_trans (BP.l (n := 2292)) (by decide), Nat.le_trans (BP.r (n := 2292)) (by decide)⟩
end FL
set_option maxRecDepth 100000
/-! # slices of texts and lists; rows that are bent; signs of sums of products -/
namespace FL
open PySem PySem.Spec L2 TL ML
/-! ### slices -/
theorem cutD_take {xs : List D} (n : Nat) : cutD xs none (some (n : Int)) = xs.take n := by
  show (xs.drop 0).take (HT.sIx xs.length xs.length (some (n : Int)) - 0) = _
  rw [HT.sIx_nat, List.drop_zero, Nat.sub_zero]
  by_cases h : n ≤ xs.length
  · rw [Nat.min_eq_left h]
  · rw [Nat.min_eq_right (by omega), List.take_length, List.take_of_length_le (by omega)]
theorem cutD_drop {xs : List D} (n : Nat) : cutD xs (some (n : Int)) none = xs.drop n := by
  show (xs.drop (HT.sIx xs.length 0 (some (n : Int)))).take (xs.length - HT.sIx xs.length 0 (some (n : Int))) = _
  rw [HT.sIx_nat]
  by_cases h : n ≤ xs.length
  · rw [Nat.min_eq_left h]; exact List.take_of_length_le (by rw [List.length_drop]; omega)
  · rw [Nat.min_eq_right (by omega), List.drop_length, List.drop_of_length_le (by omega), List.take_nil]
theorem cutD_mid {xs : List D} (m n : Nat) : cutD xs (some (m : Int)) (some (n : Int)) = (xs.drop m).take (n - m) := by
  show (xs.drop (HT.sIx xs.length 0 (some (m : Int)))).take (HT.sIx xs.length xs.length (some (n : Int)) - HT.sIx xs.length 0 (some (m : Int))) = _
  rw [HT.sIx_nat, HT.sIx_nat]
  by_cases h : m ≤ xs.length
  · rw [Nat.min_eq_left h]
    by_cases h2 : n ≤ xs.length
    · rw [Nat.min_eq_left h2]
    · rw [Nat.min_eq_right (by omega : xs.length ≤ n), List.take_of_length_le (by rw [List.length_drop]; omega), List.take_of_length_le (by rw [List.length_drop]; omega)]
  · rw [Nat.min_eq_right (by omega : xs.length ≤ m), List.drop_length, List.drop_of_length_le (by omega)]; simp
theorem cutS_take {l : List Nat} (n : Nat) : cutS (ofL l) none (some (n : Int)) = ofL (l.take n) := by
  refine ext_tl ?_
  show ((l.drop 0).take (HT.sIx (ofL l).length (ofL l).length (some (n : Int)) - 0)) = l.take n
  rw [HT.sIx_nat, ofL_len, List.drop_zero, Nat.sub_zero]
  by_cases h : n ≤ l.length
  · rw [Nat.min_eq_left h]
  · rw [Nat.min_eq_right (by omega), List.take_length, List.take_of_length_le (by omega)]
theorem cutS_drop {l : List Nat} (n : Nat) : cutS (ofL l) (some (n : Int)) none = ofL (l.drop n) := by
  refine ext_tl ?_
  show ((l.drop (HT.sIx (ofL l).length 0 (some (n : Int)))).take ((ofL l).length - HT.sIx (ofL l).length 0 (some (n : Int)))) = l.drop n
  rw [HT.sIx_nat, ofL_len]
  by_cases h : n ≤ l.length
  · rw [Nat.min_eq_left h]; exact List.take_of_length_le (by rw [List.length_drop]; omega)
  · rw [Nat.min_eq_right (by omega), List.drop_length, List.drop_of_length_le (by omega), List.take_nil]
/-! ### words and rows -/
def wt (ws : List (List Nat)) : Nat := (ws.map fun w => w.length + 1).sum
theorem wt_app {a b : List (List Nat)} : wt (a ++ b) = wt a + wt b := by unfold wt; rw [List.map_append, List.sum_append]
theorem wt_cons {a : List Nat} {b : List (List Nat)} : wt (a :: b) = a.length + 1 + wt b := rfl
theorem wt_take {ws : List (List Nat)} (n : Nat) : wt (ws.take n) + wt (ws.drop n) = wt ws := by rw [← wt_app, List.take_append_drop]
theorem wt_drop_le {ws : List (List Nat)} (n : Nat) : wt (ws.drop n) ≤ wt ws := by have := wt_take (ws := ws) n; omega
theorem wt_take_le {ws : List (List Nat)} (n : Nat) : wt (ws.take n) ≤ wt ws := by have := wt_take (ws := ws) n; omega
theorem wt_set {w : List Nat} : ∀ {ws : List (List Nat)} (n : Nat), wt (ws.set n w) ≤ wt ws + (w.length + 1)
  | [], _ => Nat.le_add_right _ _
  | a :: r, 0 => by rw [List.set_cons_zero, wt_cons, wt_cons]; omega
  | a :: r, n + 1 => by
    rw [List.set_cons_succ, wt_cons, wt_cons]
    have := wt_set (w := w) (ws := r) n
    omega
theorem len_wt {ws : List (List Nat)} : ws.length ≤ wt ws := by
  induction ws with
  | nil => exact Nat.zero_le _
  | cons a r ih => rw [wt_cons, List.length_cons]; omega
theorem join_wt {s : Nat} : ∀ {ws : List (List Nat)}, (joinL [s] ws).length ≤ wt ws
  | [] => Nat.zero_le _
  | [p] => by rw [wt_cons]; show p.length ≤ _; omega
  | p :: q :: r => by
    have := join_wt (s := s) (ws := q :: r)
    rw [wt_cons]
    show (p ++ ([s] ++ joinL [s] (q :: r))).length ≤ _
    rw [List.length_append, List.length_append, List.length_singleton]; omega
theorem spl_wt {s : Nat} : ∀ (l acc : List Nat), wt (spl [s] 0 acc l) = acc.length + l.length + 1
  | [], acc => by rw [spl_nil, wt_cons]; rfl
  | c :: r, acc => by
    cases hp : pre [s] (c :: r) with
    | true => rw [spl_hit hp, wt_cons, show ([s] : List Nat).length - 1 = 0 from rfl, spl_wt (s := s) r []]; simp only [List.length_cons, List.length_nil]; omega
    | false => rw [spl_miss hp, spl_wt (s := s) r (acc ++ [c])]; simp only [List.length_append, List.length_cons, List.length_nil]; omega
theorem pre_one {s c : Nat} {r : List Nat} : pre [s] (c :: r) = true ↔ c = s := by
  simp [pre]
theorem spl_free {s : Nat} : ∀ (l acc : List Nat), s ∉ acc → ∀ p ∈ spl [s] 0 acc l, s ∉ p
  | [], acc, h => fun p hp => by rw [spl_nil] at hp; rw [List.mem_singleton.mp hp]; exact h
  | c :: r, acc, h => fun p hp => by
    cases hq : pre [s] (c :: r) with
    | true =>
      rw [spl_hit hq] at hp
      rcases List.mem_cons.mp hp with e | hp
      · rw [e]; exact h
      · exact spl_free r [] (by simp) p hp
    | false =>
      rw [spl_miss hq] at hp
      refine spl_free r (acc ++ [c]) (fun hm => ?_) p hp
      rcases List.mem_append.mp hm with hm | hm
      · exact h hm
      · rw [List.mem_singleton.mp hm] at hq
        rw [pre_one.mpr rfl] at hq; cases hq
theorem spl_count {s : Nat} : ∀ (l acc : List Nat), (spl [s] 0 acc l).length = l.count s + 1
  | [], acc => by rw [spl_nil]; rfl
  | c :: r, acc => by
    cases hq : pre [s] (c :: r) with
    | true =>
      rw [spl_hit hq, List.length_cons]
      rw [pre_one.mp hq, List.count_cons_self, ← spl_count (s := s) r []]; rfl
    | false =>
      rw [spl_miss hq, spl_count (s := s) r (acc ++ [c])]
      rw [List.count_cons_of_ne]
      intro e; rw [pre_one.mpr e] at hq; cases hq
theorem spl_app {s : Nat} {b : List Nat} : ∀ (l acc : List Nat), spl [s] 0 acc (l ++ s :: b) = spl [s] 0 acc l ++ spl [s] 0 [] b
  | [], acc => by rw [List.nil_append, spl_hit (pre_one.mpr rfl), spl_nil]; rfl
  | c :: r, acc => by
    rw [List.cons_append]
    cases hq : pre [s] (c :: r) with
    | true =>
      rw [spl_hit hq, spl_hit (pre_one.mpr (pre_one.mp hq)), List.cons_append]
      exact congrArg _ (spl_app (s := s) r [])
    | false =>
      have h2 : pre [s] (c :: (r ++ s :: b)) = false := by
        cases h : pre [s] (c :: (r ++ s :: b)) with
        | false => rfl
        | true => rw [pre_one.mpr (pre_one.mp h)] at hq; cases hq
      rw [spl_miss hq, spl_miss h2]
      exact spl_app (s := s) r (acc ++ [c])
theorem spl_joins {s : Nat} : ∀ {ls : List (List Nat)}, ls ≠ [] → spl [s] 0 [] (joinL [s] ls) = ls.flatMap (spl [s] 0 [])
  | [], h => absurd rfl h
  | [p], _ => by show spl [s] 0 [] p = _; simp
  | p :: q :: r, _ => by
    show spl [s] 0 [] (p ++ s :: joinL [s] (q :: r)) = _
    rw [spl_app, spl_joins (ls := q :: r) (by simp)]; rfl
/-! ### a row that stands, a row that was bent -/
structure Lin (B : Nat) (l : List Nat) : Prop where
  asc : ∀ c ∈ l, c < 128
  fr : 10 ∉ l
  len : l.length ≤ B
theorem Lin.mono {B C : Nat} {l : List Nat} (h : Lin B l) (k : B ≤ C) : Lin C l := ⟨h.asc, h.fr, Nat.le_trans h.len k⟩
/-- a row with one line feed at most -/
structure LinB (B : Nat) (l : List Nat) : Prop where
  asc : ∀ c ∈ l, c < 128
  ct : l.count 10 ≤ 1
  len : l.length ≤ B
theorem Lin.bent {B : Nat} {l : List Nat} (h : Lin B l) : LinB B l := ⟨h.asc, by rw [List.count_eq_zero_of_not_mem h.fr]; decide, h.len⟩
theorem LinB.mono {B C : Nat} {l : List Nat} (h : LinB B l) (k : B ≤ C) : LinB C l := ⟨h.asc, h.ct, Nat.le_trans h.len k⟩
theorem mem_spl {s c : Nat} : ∀ {l acc p : List Nat}, p ∈ spl [s] 0 acc l → c ∈ p → c ∈ acc ∨ c ∈ l
  | [], acc, p, hp, hc => by rw [spl_nil] at hp; rw [List.mem_singleton.mp hp] at hc; exact .inl hc
  | x :: r, acc, p, hp, hc => by
    cases hq : pre [s] (x :: r) with
    | true =>
      rw [spl_hit hq] at hp
      rcases List.mem_cons.mp hp with e | hp
      · rw [e] at hc; exact .inl hc
      · rcases mem_spl hp hc with h | h
        · cases h
        · exact .inr (List.mem_cons_of_mem _ h)
    | false =>
      rw [spl_miss hq] at hp
      rcases mem_spl hp hc with h | h
      · rcases List.mem_append.mp h with h | h
        · exact .inl h
        · exact .inr (by rw [List.mem_singleton.mp h]; exact List.mem_cons_self)
      · exact .inr (List.mem_cons_of_mem _ h)
theorem len_spl {s : Nat} {l p : List Nat} (h : p ∈ spl [s] 0 [] l) : p.length ≤ l.length := by
  have : wt (spl [s] 0 [] l) = l.length + 1 := by rw [spl_wt]; simp
  have h2 : ∀ {ws : List (List Nat)}, p ∈ ws → p.length + 1 ≤ wt ws := fun {ws} h => by
    induction ws with
    | nil => cases h
    | cons a r ih =>
      rw [wt_cons]
      rcases List.mem_cons.mp h with e | h
      · rw [e]; omega
      · have := ih h; omega
  have := h2 h
  omega
/-- what comes of bent rows, joined and parted again -/
theorem bent_fin {B N : Nat} {ls : List (List Nat)} (h : ∀ l ∈ ls, LinB B l) (hn : ls.length ≤ N) (h0 : 0 < N) :
    spl [10] 0 [] (joinL [10] ls) ≠ [] ∧ (spl [10] 0 [] (joinL [10] ls)).length ≤ 2 * N ∧ ∀ m ∈ spl [10] 0 [] (joinL [10] ls), Lin B m := by
  by_cases e : ls = []
  · subst e
    show spl [10] 0 [] [] ≠ [] ∧ (spl [10] 0 [] []).length ≤ _ ∧ ∀ m ∈ spl [10] 0 [] [], _
    rw [spl_nil]
    refine ⟨by simp, by rw [List.length_singleton]; omega, fun m hm => ?_⟩
    rw [List.mem_singleton.mp hm]
    exact ⟨(fun c hc => by cases hc), by simp, Nat.zero_le _⟩
  · rw [spl_joins e]
    refine ⟨fun z => ?_, ?_, fun m hm => ?_⟩
    · rw [List.flatMap_eq_nil_iff] at z
      obtain ⟨a, r, rfl⟩ := List.exists_cons_of_ne_nil e
      have h1 := z a List.mem_cons_self
      have h2 := spl_count (s := 10) a []
      rw [h1] at h2; simp at h2
    · have : (ls.flatMap (spl [10] 0 [])).length ≤ 2 * ls.length := by
        clear e hn
        induction ls with
        | nil => exact Nat.zero_le _
        | cons a r ih =>
          rw [List.flatMap_cons, List.length_append, List.length_cons, spl_count]
          have := (h a List.mem_cons_self).ct
          have := ih fun l hl => h l (List.mem_cons_of_mem _ hl)
          omega
      omega
    · obtain ⟨l, hl, hm⟩ := List.mem_flatMap.mp hm
      have k := h l hl
      refine ⟨fun c hc => ?_, spl_free l [] (by simp) m hm, Nat.le_trans (len_spl hm) k.len⟩
      rcases mem_spl hm hc with z | z
      · cases z
      · exact k.asc c z
/-! ### the ways of bending -/
theorem bend_put {B c n : Nat} {l : List Nat} (h : Lin B l) (hc : c < 128) : LinB (B + 1) (l.take n ++ [c] ++ l.drop n) := by
  have hl := h.len
  refine ⟨fun x hx => ?_, ?_, ?_⟩
  · rcases List.mem_append.mp hx with hx | hx
    · rcases List.mem_append.mp hx with hx | hx
      · exact h.asc x (List.mem_of_mem_take hx)
      · rw [List.mem_singleton.mp hx]; exact hc
    · exact h.asc x (List.mem_of_mem_drop hx)
  · rw [List.count_append, List.count_append, List.count_eq_zero_of_not_mem fun z => h.fr (List.mem_of_mem_take z), List.count_eq_zero_of_not_mem fun z => h.fr (List.mem_of_mem_drop z)]
    have : [c].count 10 ≤ [c].length := List.count_le_length
    simpa using this
  · rw [List.length_append, List.length_append, List.length_take, List.length_drop, List.length_singleton]; omega
theorem bend_out {B n : Nat} {l : List Nat} (h : Lin B l) : Lin B (l.take n ++ l.drop (n + 1)) := by
  have hl := h.len
  refine ⟨fun x hx => ?_, fun hx => ?_, ?_⟩
  · rcases List.mem_append.mp hx with hx | hx
    · exact h.asc x (List.mem_of_mem_take hx)
    · exact h.asc x (List.mem_of_mem_drop hx)
  · rcases List.mem_append.mp hx with hx | hx
    · exact h.fr (List.mem_of_mem_take hx)
    · exact h.fr (List.mem_of_mem_drop hx)
  · rw [List.length_append, List.length_take, List.length_drop]; omega
/-- words of plain signs -/
def WdOk (ws : List (List Nat)) : Prop := ∀ w ∈ ws, ∀ c ∈ w, c < 128 ∧ c ≠ 10
theorem WdOk.app {a b : List (List Nat)} (h : WdOk a) (k : WdOk b) : WdOk (a ++ b) := fun w hw => (List.mem_append.mp hw).elim (h w) (k w)
theorem WdOk.take {a : List (List Nat)} (h : WdOk a) (n : Nat) : WdOk (a.take n) := fun w hw => h w (List.mem_of_mem_take hw)
theorem WdOk.drop {a : List (List Nat)} (h : WdOk a) (n : Nat) : WdOk (a.drop n) := fun w hw => h w (List.mem_of_mem_drop hw)
theorem WdOk.set {a : List (List Nat)} (h : WdOk a) (n : Nat) {w : List Nat} (k : ∀ c ∈ w, c < 128 ∧ c ≠ 10) : WdOk (a.set n w) := fun x hx => by
  rcases List.mem_or_eq_of_mem_set hx with hx | hx
  · exact h x hx
  · rw [hx]; exact k
theorem Lin.words {B : Nat} {l : List Nat} (h : Lin B l) : WdOk (spl [32] 0 [] l) ∧ wt (spl [32] 0 [] l) ≤ B + 1 ∧ (spl [32] 0 [] l).length ≤ B + 1 := by
  have hw : wt (spl [32] 0 [] l) = l.length + 1 := by rw [spl_wt]; simp
  have := h.len
  refine ⟨fun w hw c hc => ?_, by omega, by have := len_wt (ws := spl [32] 0 [] l); omega⟩
  rcases mem_spl hw hc with z | z
  · cases z
  · exact ⟨h.asc c z, fun e => h.fr (e ▸ z)⟩
theorem WdOk.lin {B : Nat} {ws : List (List Nat)} (h : WdOk ws) (k : wt ws ≤ B) : Lin B (joinL [32] ws) := by
  refine ⟨fun c hc => ?_, fun hc => ?_, Nat.le_trans join_wt k⟩
  · rcases joinL_mem hc with z | ⟨p, hp, z⟩
    · rw [List.mem_singleton.mp z]; decide
    · exact (h p hp c z).1
  · rcases joinL_mem hc with z | ⟨p, hp, z⟩
    · exact absurd (List.mem_singleton.mp z) (by decide)
    · exact (h p hp _ z).2 rfl
/-! ### signs of sums of products -/
theorem den_pos' (q : Rat) : (0 : Rat) < (q.den : Rat) := Rat.natCast_pos.mpr q.den_pos
theorem num_den' (q : Rat) : (q.num : Rat) = q * (q.den : Rat) := by
  have h : (q.num : Rat) / ((q.den : Int) : Rat) = q := by rw [← Rat.divInt_eq_div, Rat.num_divInt_den]
  rw [Rat.intCast_natCast] at h
  have := den_pos' q
  grind
theorem cross_rat (a b c : Pt) :
  (((b.1.num * (a.1.den : Int) - a.1.num * (b.1.den : Int)) * (c.2.num * (a.2.den : Int) - a.2.num * (c.2.den : Int)) * ((b.2.den : Int) * (a.2.den : Int)) * ((c.1.den : Int) * (a.1.den : Int))
   - (b.2.num * (a.2.den : Int) - a.2.num * (b.2.den : Int)) * (c.1.num * (a.1.den : Int) - a.1.num * (c.1.den : Int)) * ((b.1.den : Int) * (a.1.den : Int)) * ((c.2.den : Int) * (a.2.den : Int)) : Int) : Rat)
   = crs (b.1 - a.1, b.2 - a.2) (c.1 - a.1, c.2 - a.2) * (((b.1.den : Rat) * (a.1.den : Rat)) * ((b.2.den : Rat) * (a.2.den : Rat)) * (((c.1.den : Rat) * (a.1.den : Rat)) * ((c.2.den : Rat) * (a.2.den : Rat)))) := by
  simp only [Rat.intCast_sub, Rat.intCast_mul, Rat.intCast_natCast, num_den', crs]
  grind
theorem sgn_int (X : Int) (k q : Rat) (hk : 0 < k) (h : (X : Rat) = q * k) : ((if 0 < X then 1 else 0) - (if X < 0 then 1 else 0) : Int) = sgn q := by
  have h1 : 0 < X ↔ 0 < q := by
    constructor
    · intro z
      have z : (0 : Rat) < (X : Rat) := by exact_mod_cast z
      rw [h] at z
      exact Decidable.byContradiction fun n => by
        have n := Rat.not_lt.mp n
        have := Rat.mul_le_mul_of_nonneg_right n (Rat.le_of_lt hk)
        grind
    · intro z
      have := Rat.mul_pos z hk
      rw [← h] at this
      exact_mod_cast this
  have h2 : X < 0 ↔ q < 0 := by
    constructor
    · intro z
      have z : (X : Rat) < (0 : Rat) := by exact_mod_cast z
      rw [h] at z
      exact Decidable.byContradiction fun n => by
        have n := Rat.not_lt.mp n
        have := Rat.mul_nonneg n (Rat.le_of_lt hk)
        grind
    · intro z
      have : 0 < (-q) * k := Rat.mul_pos (by grind) hk
      have : (X : Rat) < 0 := by rw [h]; grind
      exact_mod_cast this
  unfold sgn
  simp only [← h1, ← h2]
  by_cases a : 0 < X
  · rw [if_pos a, if_pos a, if_neg (by omega)]; rfl
  · by_cases b : X < 0
    · rw [if_neg a, if_neg a, if_pos b, if_pos b]; rfl
    · rw [if_neg a, if_neg a, if_neg b, if_neg b]; rfl
end FL
set_option maxRecDepth 100000
/-! # plots of few figures: their rows -/
namespace FL
open PySem PySem.Spec L2 TL ML
/-- a scale of few figures -/
structure ScT (s : Sc) : Prop where
  ok : ScOk s
  t2 : s.t ≤ 2 ^ 30
  b2 : s.b ≤ 2 ^ 30
  x1 : -(2 ^ 55) ≤ s.x
  x2 : s.x ≤ 2 ^ 55
  y1 : -(2 ^ 55) ≤ s.y
  y2 : s.y ≤ 2 ^ 55
theorem scT_of {t b f x y : Int} (t1 : 1 ≤ t) (t2 : t ≤ 2 ^ 30) (b1 : 1 ≤ b) (b2 : b ≤ 2 ^ 30) (f1 : 0 ≤ f) (f2 : f ≤ 1000000000000000) (x1 : 0 ≤ x) (x2 : x < 41) (y1 : 0 ≤ y) (y2 : y < 41) : ScT ⟨t, b, f * (x - 20), f * (y - 20)⟩ := by
  have bd : ∀ z : Int, 0 ≤ z → z < 41 → -(2 ^ 55) ≤ f * (z - 20) ∧ f * (z - 20) ≤ 2 ^ 55 := by
    intro z z1 z2
    have h1 : (f * (z - 20)).natAbs < 2 ^ 55 := natAbs_mul_lt (a := 50) (b := 5) (by omega) (by omega)
    omega
  have h1 := bd x x1 x2
  have h2 := bd y y1 y2
  exact ⟨⟨t1, Int.le_trans t2 (by decide), b1, Int.le_trans b2 (by decide), Int.le_trans (by decide) h1.1, Int.le_trans h1.2 (by decide), Int.le_trans (by decide) h2.1, Int.le_trans h2.2 (by decide)⟩, t2, b2, h1.1, h1.2, h2.1, h2.2⟩
theorem plt_tight {s : Sc} {m : Nat} {z : Int} {ws : List UW} (hs : ScT s) (dr : Drawn m z ws) (hz : z ≤ 500) : ∀ v ∈ pltW s ws, FigW v := by
  intro v hv
  obtain ⟨w, hw, rfl⟩ := List.mem_map.mp hv
  have hw := dr.wok hz hw
  have key : ∀ (c x : Int), -500 ≤ c → c ≤ 500 → -(2 ^ 55) ≤ x → x ≤ 2 ^ 55 → Fig (((c : Rat) * s.t + x) / s.b) := by
    intro c x c1 c2 x1 x2
    have ht := hs.t2
    have hb := hs.b2
    have ht0 := hs.ok.t1
    have hb0 := hs.ok.b1
    refine bd_fig ?_
    have e : (c : Rat) * s.t + x = ((c * s.t + x : Int) : Rat) := by push_cast; rfl
    rw [e]
    have hm : (c * s.t).natAbs < 2 ^ 41 := natAbs_mul_lt (a := 10) (b := 31) (by omega) (by omega)
    have h1 : sz ((c * s.t + x : Int) : Rat) ≤ 56 := z_int (by omega) (by decide)
    have h2 : sz ((s.b : Int) : Rat) ≤ 31 := z_int (by omega) (by decide)
    exact Nat.le_trans (z_div h1 h2) (by decide)
  obtain ⟨⟨f1, f2, f3, f4⟩, ⟨g1, g2, g3, g4⟩⟩ := hw
  exact ⟨key _ _ f1 f2 hs.x1 hs.x2, key _ _ f3 f4 hs.y1 hs.y2, key _ _ g1 g2 hs.x1 hs.x2, key _ _ g3 g4 hs.y1 hs.y2⟩
theorem shL_asc {q : Rat} : ∀ c ∈ shL q, c < 128 ∧ c ≠ 10 := fun c hc => by
  refine ⟨Classical.byContradiction fun h => ?_, fun e => ?_⟩
  · exact shL_free (q := q) (s := c) (by omega) (by omega) (by omega) hc
  · exact shL_free (q := q) (s := c) (by omega) (by omega) (by omega) hc
theorem fig_len {q : Rat} (h : Fig q) : (shL q).length ≤ 62 := shL_len (k := 30) (by decide) h.1 h.2
theorem waL_lin {w : Wl} (h : FigW w) : Lin 320 (waL w) := by
  have hk : WdOk (wordsL w) := fun x hx => by
    simp only [wordsL, List.mem_cons, List.not_mem_nil, or_false] at hx
    rcases hx with rfl | rfl | rfl | rfl | rfl
    · decide
    all_goals exact shL_asc
  obtain ⟨h1, h2, h3, h4⟩ := h
  refine hk.lin ?_
  have := fig_len h1
  have := fig_len h2
  have := fig_len h3
  have := fig_len h4
  show (4 + 1) + ((shL w.1.1).length + 1 + ((shL w.1.2).length + 1 + ((shL w.2.1).length + 1 + ((shL w.2.2).length + 1 + 0)))) ≤ 320
  omega
theorem asL_lin {u : Pt} (h : FigP u) : Lin 320 (asL u) := by
  have hk : WdOk (askL u) := fun x hx => by
    simp only [askL, List.mem_cons, List.not_mem_nil, or_false] at hx
    rcases hx with rfl | rfl | rfl
    · decide
    all_goals exact shL_asc
  refine hk.lin ?_
  have := fig_len h.1
  have := fig_len h.2
  show (3 + 1) + ((shL u.1).length + 1 + ((shL u.2).length + 1 + 0)) ≤ 320
  omega
theorem rows_join {ls : List (List Nat)} (h : ∀ l ∈ ls, 10 ∉ l) (h0 : ls ≠ []) (h1 : ls ≠ [[]]) : rowsIn (joinL [10] ls) = ls := by
  unfold rowsIn
  rw [if_neg, spl_join h0 h]
  intro e
  match ls, h0, h1, e with
  | [p], _, h1, e => exact h1 (by show [p] = [[]]; rw [show p = [] from e])
  | p :: q :: r, _, _, e =>
    have : (p ++ ([10] ++ joinL [10] (q :: r))).length = 0 := by rw [show p ++ ([10] ++ joinL [10] (q :: r)) = [] from e]; rfl
    rw [List.length_append, List.length_append, List.length_singleton] at this
    omega
end FL
set_option maxRecDepth 100000
/-! # bent rows counted; rows of greater numbers; what is read of rows -/
namespace FL
open PySem PySem.Spec L2 TL ML
/-- how many line feeds stand in rows -/
def ctF (ls : List (List Nat)) : Nat := (ls.map fun l => l.count 10).sum
theorem ctF_app {a b : List (List Nat)} : ctF (a ++ b) = ctF a + ctF b := by unfold ctF; rw [List.map_append, List.sum_append]
theorem ctF_one {a : List Nat} : ctF [a] = a.count 10 := by simp [ctF]
theorem ctF_zero {ls : List (List Nat)} (h : ∀ l ∈ ls, 10 ∉ l) : ctF ls = 0 := by
  induction ls with
  | nil => rfl
  | cons a r ih =>
    show a.count 10 + ctF r = 0
    rw [List.count_eq_zero_of_not_mem (h a List.mem_cons_self), ih fun l hl => h l (List.mem_cons_of_mem _ hl)]
def BntR (B : Nat) (ls : List (List Nat)) : Prop := (∀ l ∈ ls, LinB B l) ∧ ctF ls ≤ 1
theorem BntR.of {B : Nat} {ls : List (List Nat)} (h : ∀ l ∈ ls, Lin B l) : BntR B ls := ⟨fun l hl => (h l hl).bent, by rw [ctF_zero fun l hl => (h l hl).fr]; decide⟩
theorem BntR.mid {B C : Nat} {a b : List (List Nat)} {x : List Nat} (ha : ∀ l ∈ a, Lin B l) (hb : ∀ l ∈ b, Lin B l) (hx : LinB C x) (hBC : B ≤ C) : BntR C (a ++ [x] ++ b) := by
  refine ⟨fun l hm => ?_, ?_⟩
  · rcases List.mem_append.mp hm with hm | hm
    · rcases List.mem_append.mp hm with hm | hm
      · exact ((ha l hm).mono hBC).bent
      · rw [List.mem_singleton.mp hm]; exact hx
    · exact ((hb l hm).mono hBC).bent
  · rw [ctF_app, ctF_app, ctF_one, ctF_zero fun l hl => (ha l hl).fr, ctF_zero fun l hl => (hb l hl).fr]
    have := hx.ct
    omega
theorem bent_fin2 {B N : Nat} {ls : List (List Nat)} (h : BntR B ls) (hn : ls.length ≤ N) :
    spl [10] 0 [] (joinL [10] ls) ≠ [] ∧ (spl [10] 0 [] (joinL [10] ls)).length ≤ N + 1 ∧ ∀ m ∈ spl [10] 0 [] (joinL [10] ls), Lin B m := by
  obtain ⟨h1, -, h3⟩ := bent_fin (N := N + 1) h.1 (by omega) (by omega)
  refine ⟨h1, ?_, h3⟩
  by_cases e : ls = []
  · subst e
    show (spl [10] 0 [] []).length ≤ _
    rw [spl_nil, List.length_singleton]; omega
  · rw [spl_joins e]
    have : (ls.flatMap (spl [10] 0 [])).length = ls.length + ctF ls := by
      clear e hn h1 h3 h
      induction ls with
      | nil => rfl
      | cons a r ih =>
        rw [List.flatMap_cons, List.length_append, List.length_cons, spl_count, ih]
        show a.count 10 + 1 + (r.length + ctF r) = r.length + 1 + (a.count 10 + ctF r)
        omega
    have := h.2
    omega
/-! ### rows of greater numbers -/
def Num (q : Rat) : Prop := sz q ≤ 1900 ∧ (shL q).length ≤ 130
def NumW (w : Wl) : Prop := Num w.1.1 ∧ Num w.1.2 ∧ Num w.2.1 ∧ Num w.2.2
theorem Fig.num {q : Rat} (h : Fig q) : Num q := ⟨Nat.le_trans (fig_bd h).le (by decide), Nat.le_trans (fig_len h) (by decide)⟩
theorem FigW.num {w : Wl} (h : FigW w) : NumW w := ⟨Fig.num h.1, Fig.num h.2.1, Fig.num h.2.2.1, Fig.num h.2.2.2⟩
theorem num_of {q : Rat} (h : q.num.natAbs < 10 ^ 64) (h2 : q.den < 10 ^ 64) : Num q := ⟨by
  have a : q.num.natAbs.log2 < 220 := log2_lt' (Nat.lt_of_lt_of_le h (by decide)) (by decide)
  have b : q.den.log2 < 220 := log2_lt' (Nat.lt_of_lt_of_le h2 (by decide)) (by decide)
  unfold sz; omega, shL_len (k := 64) (by decide) h h2⟩
theorem waL_lin2 {w : Wl} (h : NumW w) : Lin 600 (waL w) := by
  have hk : WdOk (wordsL w) := fun x hx => by
    simp only [wordsL, List.mem_cons, List.not_mem_nil, or_false] at hx
    rcases hx with rfl | rfl | rfl | rfl | rfl
    · decide
    all_goals exact shL_asc
  obtain ⟨⟨-, h1⟩, ⟨-, h2⟩, ⟨-, h3⟩, ⟨-, h4⟩⟩ := h
  refine hk.lin ?_
  show (4 + 1) + ((shL w.1.1).length + 1 + ((shL w.1.2).length + 1 + ((shL w.2.1).length + 1 + ((shL w.2.2).length + 1 + 0)))) ≤ 600
  omega
/-- as far behind another one as that is behind the first -/
def beyQ (a b : Rat) : Rat := Rat.divInt (2 * b.num * (a.den : Nat) - a.num * (b.den : Nat)) ((a.den : Nat) * (b.den : Nat))
theorem divInt_le (t : Int) {b : Nat} (hb : 0 < b) : (Rat.divInt t (b : Int)).num.natAbs ≤ t.natAbs ∧ (Rat.divInt t (b : Int)).den ≤ b := by
  refine ⟨?_, ?_⟩
  · rw [Rat.num_divInt, Int.natAbs_ediv_of_dvd]
    · refine Nat.le_trans (Nat.div_le_self _ _) ?_
      rw [Int.natAbs_mul, Int.sign_eq_one_of_pos (by omega)]; simp
    · exact Int.dvd_mul_of_dvd_right (Int.gcd_dvd_right ..)
  · rw [Rat.den_divInt, if_neg (by omega), Int.natAbs_natCast]
    exact Nat.div_le_self _ _
theorem beyQ_num {a b : Rat} (ha : Fig a) (hb : Fig b) : Num (beyQ a b) := by
  have e : ((a.den : Nat) : Int) * (b.den : Nat) = ((a.den * b.den : Nat) : Int) := by rw [Int.natCast_mul]
  obtain ⟨h1, h2⟩ := divInt_le (2 * b.num * (a.den : Nat) - a.num * (b.den : Nat)) (Nat.mul_pos a.den_pos b.den_pos)
  have m1 : (b.num * (a.den : Nat)).natAbs < 10 ^ 60 := by
    rw [Int.natAbs_mul, Int.natAbs_natCast]; exact Nat.mul_lt_mul'' (c := 10 ^ 30) (d := 10 ^ 30) hb.1 ha.2
  have m2 : (a.num * (b.den : Nat)).natAbs < 10 ^ 60 := by
    rw [Int.natAbs_mul, Int.natAbs_natCast]; exact Nat.mul_lt_mul'' (c := 10 ^ 30) (d := 10 ^ 30) ha.1 hb.2
  have m3 : a.den * b.den < 10 ^ 60 := Nat.mul_lt_mul'' (c := 10 ^ 30) (d := 10 ^ 30) ha.2 hb.2
  unfold beyQ
  rw [e]
  refine num_of (Nat.lt_of_le_of_lt h1 ?_) (Nat.lt_of_le_of_lt h2 (Nat.lt_trans m3 (by decide)))
  rw [Int.mul_assoc]
  generalize b.num * (a.den : Nat) = x at m1
  generalize a.num * (b.den : Nat) = y at m2
  omega
/-! ### what is read of rows -/
def readL : Nat → List Wl → List (List Nat) → List Wl ⊕ Nat
  | _, ws, [] => .inl ws
  | i, ws, l :: r => match wallIn (spl [32] 0 [] l) with
    | some w => if ws.length ≠ 40 ∧ unfairAt ws w = none then readL (i + 1) (ws ++ [w]) r else .inr i
    | none => .inr i
def qIn : Bool → List (List Nat) → Option Pt
  | true, l => questIn l
  | false, _ => none
/-- what is read of rows: walls and spots, or the first row that is none; asks are let where a is true -/
def readG (a : Bool) : Nat → List Wl → List Pt → List (List Nat) → (List Wl × List Pt) ⊕ Nat
  | _, ws, us, [] => .inl (ws, us)
  | i, ws, us, l :: r => match qIn a (spl [32] 0 [] l) with
    | some u => readG a (i + 1) ws (us ++ [u]) r
    | none => if us ≠ [] then .inr i else match wallIn (spl [32] 0 [] l) with
      | some w => if ws.length ≠ 40 ∧ unfairAt ws w = none then readG a (i + 1) (ws ++ [w]) us r else .inr i
      | none => .inr i
theorem readG_plot : ∀ {ls : List (List Nat)} {i : Nat} {ws : List Wl}, readG false i ws [] ls = match readL i ws ls with
    | .inl ws => .inl (ws, [])
    | .inr i => .inr i
  | [], _, _ => rfl
  | l :: r, i, ws => by
    unfold readG readL
    rw [show qIn false (spl [32] 0 [] l) = none from rfl]
    dsimp only
    rw [if_neg (by simp)]
    cases wallIn (spl [32] 0 [] l) with
    | none => rfl
    | some w =>
      dsimp only
      by_cases h : ws.length ≠ 40 ∧ unfairAt ws w = none
      · rw [if_pos h, if_pos h]; exact readG_plot
      · rw [if_neg h, if_neg h]
section
variable {a : Bool} {i : Nat} {ws : List Wl} {us : List Pt} {l : List Nat} {r : List (List Nat)} {u : Pt} {w : Wl}
theorem readG_ask (h : qIn a (spl [32] 0 [] l) = some u) : readG a i ws us (l :: r) = readG a (i + 1) ws (us ++ [u]) r := by
  conv => lhs; unfold readG
  rw [h]
theorem readG_late (h : qIn a (spl [32] 0 [] l) = none) (h2 : us ≠ []) : readG a i ws us (l :: r) = .inr i := by
  conv => lhs; unfold readG
  rw [h]; exact if_pos h2
theorem readG_no (h : qIn a (spl [32] 0 [] l) = none) (h2 : ∀ w, wallIn (spl [32] 0 [] l) = some w → ws.length ≠ 40 → unfairAt ws w ≠ none) : readG a i ws us (l :: r) = .inr i := by
  conv => lhs; unfold readG
  rw [h]
  dsimp only
  by_cases e : us ≠ []
  · rw [if_pos e]
  · rw [if_neg e]
    cases hw : wallIn (spl [32] 0 [] l) with
    | none => rfl
    | some w => exact if_neg fun z => h2 w hw z.1 z.2
theorem readG_wall (h : qIn a (spl [32] 0 [] l) = none) (h2 : wallIn (spl [32] 0 [] l) = some w) (h3 : ws.length ≠ 40) (h4 : unfairAt ws w = none) : readG a i ws [] (l :: r) = readG a (i + 1) (ws ++ [w]) [] r := by
  conv => lhs; unfold readG
  rw [h, h2]
  dsimp only
  rw [if_neg (by simp), if_pos ⟨h3, h4⟩]
end
end FL
namespace FL
open PySem PySem.Spec L2 ML
/-! ### walls told fair are fair -/
section
variable {a b : Wl}
theorem sol_eq_b1 (hc : crs (alng a) (alng b) ≠ 0) (h : cx a b.1 = 0) : solW a b = b.1 := by
  rw [sol_tb hc, h]
  have : -(0 : Rat) / crs (alng a) (alng b) = 0 := by rw [Rat.div_def]; grind
  rw [this, atP_0]
theorem sol_eq_b2 (hc : crs (alng a) (alng b) ≠ 0) (h : cx a b.2 = 0) : solW a b = b.2 := by
  rw [sol_tb hc]
  have e := (cx_ends a b).2
  have : -cx a b.1 / crs (alng a) (alng b) = 1 := by grind
  rw [this, atP_1]
theorem cx_lies {w : Wl} {p : Pt} (h : liesOn w p) : cx w p = 0 := by
  have := h.2.2
  rw [side_cx] at this
  exact sgn_0.mp this
theorem lies1 (hb : Up b) : liesOn b b.1 := ⟨ahead_irrefl _, ahead_asymm hb.up, by rw [side_cx]; exact sgn_0.mpr (by simp only [cx, crs, alng]; grind)⟩
theorem lies2 (hb : Up b) : liesOn b b.2 := ⟨ahead_asymm hb.up, ahead_irrefl _, by rw [side_cx]; exact sgn_0.mpr (by simp only [cx, crs, alng]; grind)⟩
/-- walls whose lines cross -/
theorem isFair_cross (ha : Up a) (hb : Up b) (hc : crs (alng a) (alng b) ≠ 0) (h : isFair a b = true) : FairW a b := by
  have key : liesOn a (solW a b) → liesOn b (solW a b) → (solW a b = a.1 ∨ solW a b = a.2) ∧ (solW a b = b.1 ∨ solW a b = b.2) := fun h1 h2 => by
    unfold isFair meetW at h
    rw [if_neg hc, if_pos ⟨h1, h2⟩] at h
    simp only [Bool.and_eq_true, Bool.or_eq_true, decide_eq_true_eq] at h
    exact ⟨h.1.imp Eq.symm Eq.symm, h.2.imp Eq.symm Eq.symm⟩
  refine ⟨fun e => hc (by rw [e]; simp only [crs]; grind), fun h1 => ?_, fun h1 => ?_, fun h1 => ?_, fun h1 => ?_, ?_⟩
  · have e := sol_eq_b1 hc (cx_lies h1)
    have := key (by rw [e]; exact h1) (by rw [e]; exact lies1 hb)
    rw [e] at this; exact this.1
  · have e := sol_eq_b2 hc (cx_lies h1)
    have := key (by rw [e]; exact h1) (by rw [e]; exact lies2 hb)
    rw [e] at this; exact this.1
  · have e := sol_eq_a1 hc (cx_lies h1)
    have := key (by rw [e]; exact lies1 ha) (by rw [e]; exact h1)
    rw [e] at this; exact this.2
  · have e := sol_eq_a2 hc (cx_lies h1)
    have := key (by rw [e]; exact lies2 ha) (by rw [e]; exact h1)
    rw [e] at this; exact this.2
  · by_cases h1 : 0 ≤ cx a b.1 * cx a b.2
    · exact .inl h1
    · by_cases h2 : 0 ≤ cx b a.1 * cx b a.2
      · exact .inr h2
      · exfalso
        have k := key ((lies_sol_a ha hc).mpr (by grind)) ((lies_sol_b hb hc).mpr (by grind))
        have z := cx_sol_b (a := a) (b := b) hc
        rcases k.1 with e | e <;> rw [e] at z <;> rw [z] at h2 <;> grind
/-- walls whose lines lead alike -/
theorem isFair_par (ha : Up a) (hb : Up b) (hc : crs (alng a) (alng b) = 0) (h : isFair a b = true) : FairW a b := by
  have hc' : crs (alng b) (alng a) = 0 := by have : crs (alng b) (alng a) = - crs (alng a) (alng b) := by simp only [crs]; grind
                                             grind
  unfold isFair meetW at h
  rw [if_pos hc] at h
  unfold inLine at h
  have ce := cx_ends a b
  by_cases hs : side a b.1 ≠ 0
  · have n1 : cx a b.1 ≠ 0 := fun z => hs (by rw [side_cx]; exact sgn_0.mpr z)
    have n2 : cx a b.2 ≠ 0 := by rw [ce.2, hc]; grind
    refine ⟨fun e => ?_, fun h1 => absurd (cx_lies h1) n1, fun h1 => absurd (cx_lies h1) n2, fun h1 => ?_, fun h1 => ?_, .inl ?_⟩
    · apply n1; rw [e]; simp only [cx, crs, alng]; grind
    · exact absurd (par_zero hb ha hc' (cx_lies h1)).2.1 n1
    · have := cx_lies h1
      rw [ce.1, hc] at this
      exact absurd (par_zero hb ha hc' (by grind)).2.1 n1
    · rw [ce.2, hc]
      have : 0 ≤ cx a b.1 * cx a b.1 := by
        by_cases z : 0 ≤ cx a b.1
        · exact Rat.mul_nonneg z z
        · have := Rat.mul_nonneg (show 0 ≤ -cx a b.1 by grind) (show 0 ≤ -cx a b.1 by grind)
          grind
      grind
  · rw [if_neg hs] at h
    have h0 : cx a b.1 = 0 := sgn_0.mp (by simpa [side_cx] using hs)
    obtain ⟨h1, h2, h3⟩ := par_zero ha hb hc h0
    have ns : ¬ ahead (maxP a.1 b.1) (minP a.2 b.2) := fun z => by
      have ne : ¬ maxP a.1 b.1 = minP a.2 b.2 := fun e => by rw [e] at z; exact ahead_irrefl _ z
      rw [if_neg ne, if_pos z] at h
      cases h
    refine ⟨fun e => ?_, fun k => ?_, fun k => ?_, fun k => ?_, fun k => ?_, .inl (by rw [h0]; grind)⟩
    · subst e
      apply ns
      unfold maxP minP
      rw [if_neg (ahead_irrefl _), if_neg (ahead_irrefl _)]
      exact ha.up
    · refine Classical.byContradiction fun z => ns ?_
      have q1 : ahead a.1 b.1 := (not_ahead_iff.mp k.1).resolve_left fun e => z (.inl e.symm)
      have q2 : ahead b.1 a.2 := (not_ahead_iff.mp k.2.1).resolve_left fun e => z (.inr e)
      unfold maxP minP
      rw [if_pos q1]
      split
      · exact hb.up
      · exact q2
    · refine Classical.byContradiction fun z => ns ?_
      have q1 : ahead a.1 b.2 := (not_ahead_iff.mp k.1).resolve_left fun e => z (.inl e.symm)
      have q2 : ahead b.2 a.2 := (not_ahead_iff.mp k.2.1).resolve_left fun e => z (.inr e)
      unfold maxP minP
      rw [if_pos q2]
      split
      · exact hb.up
      · exact q1
    · refine Classical.byContradiction fun z => ns ?_
      have q1 : ahead b.1 a.1 := (not_ahead_iff.mp k.1).resolve_left fun e => z (.inl e.symm)
      have q2 : ahead a.1 b.2 := (not_ahead_iff.mp k.2.1).resolve_left fun e => z (.inr e)
      unfold maxP minP
      rw [if_neg (ahead_asymm q1)]
      split
      · exact q2
      · exact ha.up
    · refine Classical.byContradiction fun z => ns ?_
      have q1 : ahead b.1 a.2 := (not_ahead_iff.mp k.1).resolve_left fun e => z (.inl e.symm)
      have q2 : ahead a.2 b.2 := (not_ahead_iff.mp k.2.1).resolve_left fun e => z (.inr e)
      unfold maxP minP
      rw [if_neg (ahead_asymm q2)]
      split
      · exact q1
      · exact ha.up
theorem isFair_iff (ha : Up a) (hb : Up b) : isFair a b = true ↔ FairW a b :=
  ⟨fun h => by
    by_cases hc : crs (alng a) (alng b) = 0
    · exact isFair_par ha hb hc h
    · exact isFair_cross ha hb hc h, fair_isFair ha hb⟩
end
end FL
set_option maxRecDepth 100000
namespace Lk75
open PySem PySem.Spec L2 TL ML FL
def textX (i : Int) : MX := ⟨"NoText", some [("row", .int i)]⟩
def AscL (l : List Nat) : Prop := ∀ c ∈ l, c < 128
def sp_law_is_whole : MSp := fun ds S Q _ => ∃ l : List Nat, ds = [.str (ofL l)] ∧ AscL l ∧ l.length ≤ sizeLine ∧ Q (.bl (wholeL l)) S
def sp_law_fraction : MSp := fun ds S Q _ => ∃ l : List Nat, ds = [.str (ofL l)] ∧ AscL l ∧ l.length ≤ 1000000 ∧ Q (frO (fracIn l)) S
def sp_law_shut_in : MSp := fun ds S Q _ => ∃ l : List Nat, ds = [.str (ofL l)] ∧ AscL l ∧ l.length ≤ 500000 ∧ ∀ S', (∀ q o, S q = some o → S' q = some o) → Q (wlO (wallIn (spl [32] 0 [] l))) S'
def sp_law_cross : MSp := fun ds S Q _ => ∃ a b c : Pt, ds = [spD a, spD b, spD c] ∧ BP a 120 ∧ BP b 120 ∧ BP c 120 ∧ ∀ S', (∀ q o, S q = some o → S' q = some o) → Q (.int (side (a, b) c)) S'
def sp_law_before : MSp := fun ds S Q _ => ∃ a b : Pt, ds = [spD a, spD b] ∧ BP a 120 ∧ BP b 120 ∧ Q (.bl (decide (ahead a b))) S
def sp_law_fits : MSp := fun ds S Q _ => ∃ a b : Wl, ds = [wlD a, wlD b] ∧ BW a 120 ∧ BW b 120 ∧ ahead a.1 a.2 ∧ ahead b.1 b.2 ∧ ∀ S', (∀ q o, S q = some o → S' q = some o) → Q (.bl (isFair a b)) S'
def sp_put_read : MSp := fun ds S Q E => ∃ (p : Addr) (ws : List Wl) (o : Option Wl) (i : Int), ds = [.ref p, wlO o, .int i] ∧ S p = some (.lst (ws.map wlD)) ∧ ws.length ≤ 40 ∧ (∀ w, o = some w → BW w 120) ∧ (∀ v ∈ ws, BW v 120) ∧
  (∀ w, o = some w → ws.length ≠ 40 → unfairAt ws w = none → Q .non (put S p (.lst ((ws ++ [w]).map wlD)))) ∧ ((∀ w, o = some w → ws.length ≠ 40 → unfairAt ws w ≠ none) → E (textX i) S)
def sp_read_plot : MSp := fun ds S Q E => ∃ l : List Nat, ds = [.str (ofL l)] ∧ l.length ≤ 999000 ∧ ∀ S', (∀ q o, S q = some o → S' q = some o) → match readL 0 [] (rowsIn l) with
  | .inl ws => Q (.tup (ws.map wlD)) S'
  | .inr i => E (textX (i : Nat)) S'
def sp_read_questions : MSp := fun ds S Q E => ∃ l : List Nat, ds = [.str (ofL l)] ∧ l.length ≤ 999000 ∧ ∀ S', (∀ q o, S q = some o → S' q = some o) → match readG true 0 [] [] (rowsIn l) with
  | .inl (ws, us) => ∀ q, S' q = some (.lst (us.map spD)) → Q (.tup [.tup (ws.map wlD), .ref q]) S'
  | .inr i => E (textX (i : Nat)) S'
/-- a value that tells what was read -/
inductive ResD (S : Sto) : Bool → (List Wl × List Pt) ⊕ Nat → D → Prop
  | told {ws : List Wl} {us : List Pt} {q : Addr} : S q = some (.lst (us.map spD)) → ResD S true (.inl (ws, us)) (.tup [.str "told", .tup [.tup (ws.map wlD), .ref q]])
  | none : ResD S true (.inl ([], [])) (.tup [.str "told", .tup [.tup [], .lst []]])
  | plot {ws : List Wl} {us : List Pt} : ResD S false (.inl (ws, us)) (.tup [.str "told", .tup (ws.map wlD)])
  | no {a : Bool} {i : Nat} : ResD S a (.inr i) (.tup [.str "no text", .int (i : Nat)])
def askD (a : Bool) : D := .int (if a = true then 1 else 0)
def sp_law_due : MSp := fun ds S Q _ => ∃ (a : Bool) (d : D) (ls : List (List Nat)), ds = [askD a, d] ∧ d = .lst (ls.map fun l => .str (ofL l)) ∧ ls.length ≤ 1000 ∧ (∀ l ∈ ls, AscL l ∧ l.length ≤ 5000) ∧ ∀ S' v, (∀ q o, S q = some o → S' q = some o) → ResD S' a (readG a 0 [] [] ls) v → Q v S'
def sp_law_heard : MSp := fun ds S Q _ => ∃ (a : Bool) (l : List Nat), ds = [askD a, .str (ofL l)] ∧ l.length ≤ 999000 ∧ ∀ S' v, (∀ q o, S q = some o → S' q = some o) → ResD S' a (readG a 0 [] [] (rowsIn l)) v → Q v S'
def sp_law_beyond : MSp := fun ds S Q _ => ∃ a b : Rat, ds = [fr a, fr b] ∧ Fig a ∧ Fig b ∧ Q (fr (beyQ a b)) S
def sp_law_alone : MSp := fun ds S Q _ => ∃ (p : Addr) (fs : Option (List (Str × D))), ds = [.ref p, .int 4] ∧ S p = some (.exc "NoText" fs) ∧ ∀ S', (∀ q o, S q = some o → S' q = some o) → Q (.bl true) S'
/-- lines come out that were bent -/
def sp_law_bent : MSp := fun ds S Q _ => ∃ (p : Addr) (d : D) (c : Int) (n B : Nat) (ls : List (List Nat)), ds = [.ref p, d] ∧ LstK S d (ls.map fun l => .str (ofL l)) ∧ d ≠ .ref p ∧ S p = some (rowO c n) ∧ n < 2 ^ 50 ∧ ls ≠ [] ∧ ls.length ≤ 300 ∧ 50 ≤ B ∧ B ≤ 2500 ∧ (∀ l ∈ ls, Lin B l) ∧
  ∀ (ms : List (List Nat)) (c' : Int) (n' : Nat) (S' : Sto), ms ≠ [] → ms.length ≤ ls.length + 2 → (∀ l ∈ ms, Lin (2 * B + 2) l) → n' ≤ n + 10 → S' p = some (rowO c' n') → (∀ q o, q ≠ p → S q = some o → S' q = some o) → Q (.lst (ms.map fun l => .str (ofL l))) S'
def sp_law_odd : MSp := fun ds S Q _ => ∃ (p : Addr) (d : D) (c : Int) (n B : Nat) (ls : List (List Nat)), ds = [.ref p, d] ∧ LstK S d (ls.map fun l => .str (ofL l)) ∧ d ≠ .ref p ∧ S p = some (rowO c n) ∧ n < 2 ^ 40 ∧ ls ≠ [] ∧ ls.length ≤ 300 ∧ 600 ≤ B ∧ B ≤ 2500 ∧ (∀ l ∈ ls, Lin B l) ∧
  ∀ (ms : List (List Nat)) (c' : Int) (n' : Nat) (S' : Sto), ms ≠ [] → ms.length ≤ ls.length + 2 → (∀ l ∈ ms, Lin (2 * B + 2) l) → n' ≤ n + 20 → S' p = some (rowO c' n') → (∀ q o, q ≠ p → S q = some o → S' q = some o) → Q (.lst (ms.map fun l => .str (ofL l))) S'
def sp_law_number : MSp := fun ds S Q _ => ∃ (p : Addr) (c : Int) (n : Nat), ds = [.ref p] ∧ S p = some (rowO c n) ∧ n < 2 ^ 50 ∧ ∀ (q : Rat) (c' : Int), Fig q → Q (fr q) (put S p (rowO c' (n + 3 : Nat)))
def sp_law_rows : MSp := fun ds S Q _ => ∃ (d : D) (ws : List Wl), ds = [d] ∧ (d = .tup (ws.map wlD) ∨ d = .lst (ws.map wlD) ∨ ∃ p, d = .ref p ∧ S p = some (.lst (ws.map wlD))) ∧ ws.length ≤ 50 ∧ (∀ w ∈ ws, NumW w) ∧ ∀ r, S r = none → Q (.ref r) (put S r (.lst (ws.map fun w => .str (ofL (waL w)))))
def sp_law_scale : MSp := fun ds S Q _ => ∃ (p : Addr) (c : Int) (n : Nat), ds = [.ref p] ∧ S p = some (rowO c n) ∧ n < 2 ^ 50 ∧ ∀ (s : Sc) (c' : Int) (n' : Nat), ScT s → n' ≤ n + 8 → Q (scD s) (put S p (rowO c' n'))
end Lk75
set_option maxRecDepth 100000
set_option maxHeartbeats 0
namespace Lk75
open PySem PySem.Spec L2 ML
open PyProof.Rows hiding St
structure Txt (K : PySem.W.Frag) (mg : Str → Option Value) : Prop where
  f_ValueError : mg "ValueError" = none
  f_abs : mg "abs" = none
  f_all : mg "all" = none
  f_enumerate : mg "enumerate" = none
  f_int : mg "int" = none
  f_isinstance : mg "isinstance" = none
  f_len : mg "len" = none
  f_list : mg "list" = none
  f_max : mg "max" = none
  f_min : mg "min" = none
  f_range : mg "range" = none
  f_str : mg "str" = none
  f_tuple : mg "tuple" = none
  c_FIGURES : ∃ t, mg "FIGURES" = some (.str "0123456789" t)
  c_MOST_FIGURES : ∃ t, mg "MOST_FIGURES" = some (.int 30 t)
  c_MOST_WALLS : ∃ t, mg "MOST_WALLS" = some (.int 40 t)
  g_TooMany : mg "TooMany" = some (.ref (He.ga K "TooMany"))
  g_NoWall : mg "NoWall" = some (.ref (He.ga K "NoWall"))
  g_NoText : mg "NoText" = some (.ref (He.ga K "NoText"))
  g_NoRow : mg "NoRow" = some (.ref (He.ga K "NoRow"))
  g_NoFraction : mg "NoFraction" = some (.ref (He.ga K "NoFraction"))
  g_Crossing : mg "Crossing" = some (.ref (He.ga K "Crossing"))
  g_Absent : mg "Absent" = some (.ref (He.ga K "Absent"))
  g_SpotError : mg "SpotError" = some (.ref (He.ga K "SpotError"))
  xs : ExcT K ["SpotError", "NoFraction", "NoWall", "TooMany", "Crossing", "Absent", "NoText", "NoRow"]
  xf_row : ∀ C ∈ (["NoText"] : List Str), XfC K (He.ga K C) ∧ PySem.W.findIn K (.ref (He.ga K C)) "row" = some none
section
variable {P : Program} {w : World} {K : PySem.W.Frag} {mg : Str → Option Value} {base : Heap}
theorem sc_NoText_init : FnScope ["self", "row"] ["self", "row"] (defScope s_NoText_init) := ⟨rfl, rfl, rfl, by decide +kernel, rfl, by decide +kernel, by decide +kernel⟩
theorem dx_NoText {f : Addr} {cdv : Value} {A : Around} {outer : List Env} {s : Shared} {H : Hp} {E : XK} : PSs (cxM P w K mg base ["self", "row"] "NoText.__init__" s_NoText_init f cdv A outer s H E) (defBody s_NoText_init) (tOst K "row" (tVar 0) (tVar 1)) :=
  pss_one (ps_ost (pe_var (i := 0) rfl (Or.inl rfl)) (pe_var (i := 1) rfl (Or.inl rfl)))
theorem sc_divisor : FnScope ["one", "other"] ["one", "other"] (defScope s_divisor) := ⟨rfl, rfl, rfl, by decide +kernel, rfl, by decide +kernel, by decide +kernel⟩
abbrev b_divisor : MS := FL.b_divisor
theorem l_divisor : ∀ ds S Q E, FL.sp_divisor ds S Q E → ds.length = ["one", "other"].length := FL.l_divisor
theorem r_divisor : ∀ ds S Q E, FL.sp_divisor ds S Q E → b_divisor (mends Q E) (mstart 0 ds) S := FL.r_divisor
theorem d_divisor {f : Addr} {cdv : Value} {A : Around} {outer : List Env} {s : Shared} {H : Hp} {E : XK} (T : Txt K mg)  (hr : Room 0 (cxM P w K mg base ["one", "other"] "divisor" s_divisor f cdv A outer s H E).A) :
    PSs (cxM P w K mg base ["one", "other"] "divisor" s_divisor f cdv A outer s H E) (defBody s_divisor) (upS K (wM E) b_divisor) :=
  (scons (swhile poM (tcmp (op_neA hr.units) ol_ne (ev 1) eint) (sone (spar (i := 0) (j := 1) rfl sc_divisor.nd (acons (ev 1) (acons (emod (ev 0) (ev 1)) anil)))))
    (sone (sret (ev 0))))
theorem sc_is_less : FnScope ["one", "other"] ["one", "other"] (defScope s_is_less) := ⟨rfl, rfl, rfl, by decide +kernel, rfl, by decide +kernel, by decide +kernel⟩
abbrev b_is_less : MS := FL.b_is_less
theorem l_is_less : ∀ ds S Q E, FL.sp_is_less ds S Q E → ds.length = ["one", "other"].length := FL.l_is_less
theorem r_is_less : ∀ ds S Q E, FL.sp_is_less ds S Q E → b_is_less (mends Q E) (mstart 0 ds) S := FL.r_is_less
theorem d_is_less {f : Addr} {cdv : Value} {A : Around} {outer : List Env} {s : Shared} {H : Hp} {E : XK} (T : Txt K mg)  (hr : Room 0 (cxM P w K mg base ["one", "other"] "is_less" s_is_less f cdv A outer s H E).A) :
    PSs (cxM P w K mg base ["one", "other"] "is_less" s_is_less f cdv A outer s H E) (defBody s_is_less) (upS K (wM E) b_is_less) :=
  (sone (sret (ecmp (oa_lt (u65 hr)) la_lt (emul (eix (ev 0) eint) (eix (ev 1) eint)) (emul (eix (ev 1) eint) (eix (ev 0) eint)))))
theorem sc_is_whole : FnScope ["word", "sign"] ["word"] (defScope s_is_whole) := ⟨rfl, rfl, rfl, by decide +kernel, rfl, by decide +kernel, by decide +kernel⟩
abbrev b_is_whole : MS := FL.b_is_whole
theorem l_is_whole : ∀ ds S Q E, FL.sp_is_whole ds S Q E → ds.length = ["word"].length := FL.l_is_whole
theorem r_is_whole : ∀ ds S Q E, FL.sp_is_whole ds S Q E → b_is_whole (mends Q E) (mstart 1 ds) S := FL.r_is_whole
theorem d_is_whole {f : Addr} {cdv : Value} {A : Around} {outer : List Env} {s : Shared} {H : Hp} {E : XK} (T : Txt K mg)  (hr : Room 0 (cxM P w K mg base ["word", "sign"] "is_whole" s_is_whole f cdv A outer s H E).A) :
    PSs (cxM P w K mg base ["word", "sign"] "is_whole" s_is_whole f cdv A outer s H E) (defBody s_is_whole) (upS K (wM E) b_is_whole) :=
  (scons (sif (L2.PW.pt (wor (tnot (tchain (oa_le (u65 hr)) (oa_le (u65 hr)) la_le la_le eint (eblt call_len cl_len T.f_len (acons (ev 0) anil) PySem.boot_len) (eglobI T.c_MOST_FIGURES))) (wor1 (tnot (ttru (eblt (cr_all rfl) cl_all T.f_all (acons (ecompF (own := [("sign", 1)]) rfl sc_is_whole.nd (isStr (ev 0)) (blkOk_by (by first | decide +kernel | kernel_rfl | rfl)) (fun _ _ _ _ _ => (gonm sc_is_whole.nd (i := 1) (by decide))) (fun _ _ _ _ _ => tsNil) (fun _ _ _ _ _ => (ecmp op_in_sign ol_inS (ev 1) (eglobS T.c_FIGURES)))) anil))))))) (sone (sret ebl)) snil)
    (sone (sret (eor (ecmp (op_neA hr.units) ol_neS (eixS (ev 0) eint) estr) (eone (ecmp (op_eqA hr.units) ol_eqS (ev 0) estr))))))
theorem sc_rows_in : FnScope ["text"] ["text"] (defScope s_rows_in) := ⟨rfl, rfl, rfl, by decide +kernel, rfl, by decide +kernel, by decide +kernel⟩
abbrev b_rows_in : MS := FL.b_rows_in
theorem l_rows_in : ∀ ds S Q E, FL.sp_rows_in ds S Q E → ds.length = ["text"].length := FL.l_rows_in
theorem r_rows_in : ∀ ds S Q E, FL.sp_rows_in ds S Q E → b_rows_in (mends Q E) (mstart 0 ds) S := FL.r_rows_in
theorem d_rows_in {f : Addr} {cdv : Value} {A : Around} {outer : List Env} {s : Shared} {H : Hp} {E : XK} (T : Txt K mg)  (hr : Room 0 (cxM P w K mg base ["text"] "rows_in" s_rows_in f cdv A outer s H E).A) :
    PSs (cxM P w K mg base ["text"] "rows_in" s_rows_in f cdv A outer s H E) (defBody s_rows_in) (upS K (wM E) b_rows_in) :=
  (scons (sif (tcmp (op_eqA hr.units) ol_eqS (ev 0) estr) (sone (sret (elstF anil))) snil)
    (sone (sret (esplit (ev 0) estr))))
theorem sc_law_cell_at : FnScope ["_law_script", "_law_k"] ["_law_script", "_law_k"] (defScope s_law_cell_at) := ⟨rfl, rfl, rfl, by decide +kernel, rfl, by decide +kernel, by decide +kernel⟩
abbrev b_law_cell_at : MS := FL.b_cell_at
theorem l_law_cell_at : ∀ ds S Q E, FL.sp_cell_at ds S Q E → ds.length = ["_law_script", "_law_k"].length := FL.l_cell_at
theorem r_law_cell_at : ∀ ds S Q E, FL.sp_cell_at ds S Q E → b_law_cell_at (mends Q E) (mstart 0 ds) S := FL.r_cell_at
theorem d_law_cell_at {f : Addr} {cdv : Value} {A : Around} {outer : List Env} {s : Shared} {H : Hp} {E : XK} (T : Txt K mg)  (hr : Room 0 (cxM P w K mg base ["_law_script", "_law_k"] "_law_cell_at" s_law_cell_at f cdv A outer s H E).A) :
    PSs (cxM P w K mg base ["_law_script", "_law_k"] "_law_cell_at" s_law_cell_at f cdv A outer s H E) (defBody s_law_cell_at) (upS K (wM E) b_law_cell_at) :=
  (scons (sif (tcmp (oa_lt (u65 hr)) la_lt (ev 1) (eblt call_len cl_len T.f_len (acons (ev 0) anil) PySem.boot_len)) (sone (sret (eix (ev 0) (ev 1)))) snil)
    (sone (sret eint)))
theorem sc_law_take : FnScope ["_law_row", "_law_base", "_law_rest", "_law_number_here"] ["_law_row", "_law_base"] (defScope s_law_take) := ⟨rfl, rfl, rfl, by decide +kernel, rfl, by decide +kernel, by decide +kernel⟩
def b_law_take : MS := (mSeq (mAsg (mOp rAdd (mOp rIxM (mVar 0) (mC (.int 1))) (mC (.int 1))) (gSb (mVar 0) (mC (.int 1))))
  (mSeq (mIfS (mTst (mOp aGe (mOp rIxM (mVar 0) (mC (.int 0))) (mOp rPow (mC (.int 10)) (mC (.int 18))))) (mSeq (mSet 2 (mOp rSub (mOp rIxM (mVar 0) (mC (.int 0))) (mOp rPow (mC (.int 10)) (mC (.int 18)))))
  (mSeq (mAsg (mOp rAdd (mOp rPow (mC (.int 10)) (mC (.int 18))) (mOp rDiv (mVar 2) (mVar 1))) (gSb (mVar 0) (mC (.int 0))))
  (mRet (mOp rMod (mVar 2) (mVar 1))))) mNext)
  (mSeq (mSet 3 (mOp rAdd (mOp rMul (mOp rMod (mOp rIxM (mVar 0) (mC (.int 0))) (mC (.int 2147483399))) (mC (.int 40692))) (mOp rMul (mOp rMul (mC (.int 104729)) (mOp rIxM (mVar 0) (mC (.int 1)))) (mOp rIxM (mVar 0) (mC (.int 1))))))
  (mSeq (mSet 3 (mOp rMod (mOp rAdd (mOp rAdd (mVar 3) (mOp rMul (mC (.int 31)) (mOp rIxM (mVar 0) (mC (.int 1))))) (mC (.int 5))) (mC (.int 2147483399))))
  (mSeq (mSet 3 (mOp rMod (mOp rAdd (mOp rAdd (mOp rMul (mVar 3) (mVar 3)) (mOp rMul (mC (.int 48271)) (mVar 3))) (mOp rIxM (mVar 0) (mC (.int 1)))) (mC (.int 2147483647))))
  (mRet (mOp rMod (mOp rDiv (mVar 3) (mC (.int 7))) (mVar 1))))))))
theorem d_law_take {f : Addr} {cdv : Value} {A : Around} {outer : List Env} {s : Shared} {H : Hp} {E : XK} (T : Txt K mg)  (hr : Room 0 (cxM P w K mg base ["_law_row", "_law_base", "_law_rest", "_law_number_here"] "_law_take" s_law_take f cdv A outer s H E).A) :
    PSs (cxM P w K mg base ["_law_row", "_law_base", "_law_rest", "_law_number_here"] "_law_take" s_law_take f cdv A outer s H E) (defBody s_law_take) (upS K (wM E) b_law_take) :=
  (scons (sasg (eadd (eix (ev 0) eint) eint) (gsb (ev 0) eint))
    (scons (sif (tcmp (oa_ge (u65 hr)) la_ge (eix (ev 0) eint) (epow eint eint)) (scons (sset (i := 2) sc_law_take.nd (esub (eix (ev 0) eint) (epow eint eint)))
    (scons (sasg (eadd (epow eint eint) (ediv (ev 2) (ev 1))) (gsb (ev 0) eint))
    (sone (sret (emod (ev 2) (ev 1)))))) snil)
    (scons (sset (i := 3) sc_law_take.nd (eadd (emul (emod (eix (ev 0) eint) eint) eint) (emul (emul eint (eix (ev 0) eint)) (eix (ev 0) eint))))
    (scons (sset (i := 3) sc_law_take.nd (emod (eadd (eadd (ev 3) (emul eint (eix (ev 0) eint))) eint) eint))
    (scons (sset (i := 3) sc_law_take.nd (emod (eadd (eadd (emul (ev 3) (ev 3)) (emul eint (ev 3))) (eix (ev 0) eint)) eint))
    (sone (sret (emod (ediv (ev 3) eint) (ev 1)))))))))
theorem sc_law_low : FnScope ["_law_top", "_law_bottom", "_law_one", "_law_other"] ["_law_top", "_law_bottom"] (defScope s_law_low) := ⟨rfl, rfl, rfl, by decide +kernel, rfl, by decide +kernel, by decide +kernel⟩
abbrev b_law_low : MS := FL.b_low
theorem l_law_low : ∀ ds S Q E, FL.sp_low ds S Q E → ds.length = ["_law_top", "_law_bottom"].length := FL.l_low
theorem r_law_low : ∀ ds S Q E, FL.sp_low ds S Q E → b_law_low (mends Q E) (mstart 2 ds) S := FL.r_low
theorem d_law_low {f : Addr} {cdv : Value} {A : Around} {outer : List Env} {s : Shared} {H : Hp} {E : XK} (T : Txt K mg)  (hr : Room 0 (cxM P w K mg base ["_law_top", "_law_bottom", "_law_one", "_law_other"] "_law_low" s_law_low f cdv A outer s H E).A) :
    PSs (cxM P w K mg base ["_law_top", "_law_bottom", "_law_one", "_law_other"] "_law_low" s_law_low f cdv A outer s H E) (defBody s_law_low) (upS K (wM E) b_law_low) :=
  (scons (sset (i := 2) sc_law_low.nd (eblt call_abs cl_abs T.f_abs (acons (ev 0) anil)))
    (scons (sset (i := 3) sc_law_low.nd (eblt call_abs cl_abs T.f_abs (acons (ev 1) anil)))
    (scons (swhile poM (tcmp (op_neA hr.units) ol_ne (ev 3) eint) (sone (spar (i := 2) (j := 3) rfl sc_law_low.nd (acons (ev 3) (acons (emod (ev 2) (ev 3)) anil)))))
    (scons (sif (tcmp (oa_lt (u65 hr)) la_lt (ev 1) eint) (sone (sset (i := 2) sc_law_low.nd (eneg (ev 2)))) snil)
    (sone (sret (etup (acons (ediv (ev 0) (ev 2)) (acons (ediv (ev 1) (ev 2)) anil)))))))))
theorem sc_law_turn : FnScope ["_law_one", "_law_two", "_law_three", "_law_far", "_law_beside", "_law_found"] ["_law_one", "_law_two", "_law_three"] (defScope s_law_turn) := ⟨rfl, rfl, rfl, by decide +kernel, rfl, by decide +kernel, by decide +kernel⟩
abbrev b_law_turn : MS := FL.b_turn
theorem l_law_turn : ∀ ds S Q E, FL.sp_turn ds S Q E → ds.length = ["_law_one", "_law_two", "_law_three"].length := FL.l_turn
theorem r_law_turn : ∀ ds S Q E, FL.sp_turn ds S Q E → b_law_turn (mends Q E) (mstart 3 ds) S := FL.r_turn
theorem d_law_turn {f : Addr} {cdv : Value} {A : Around} {outer : List Env} {s : Shared} {H : Hp} {E : XK} (T : Txt K mg)  (hr : Room 0 (cxM P w K mg base ["_law_one", "_law_two", "_law_three", "_law_far", "_law_beside", "_law_found"] "_law_turn" s_law_turn f cdv A outer s H E).A) :
    PSs (cxM P w K mg base ["_law_one", "_law_two", "_law_three", "_law_far", "_law_beside", "_law_found"] "_law_turn" s_law_turn f cdv A outer s H E) (defBody s_law_turn) (upS K (wM E) b_law_turn) :=
  (scons (sset (i := 3) sc_law_turn.nd (etup (acons (esub (eix (ev 1) eint) (eix (ev 0) eint)) (acons (esub (eix (ev 1) eint) (eix (ev 0) eint)) anil))))
    (scons (sset (i := 4) sc_law_turn.nd (etup (acons (esub (eix (ev 2) eint) (eix (ev 0) eint)) (acons (esub (eix (ev 2) eint) (eix (ev 0) eint)) anil))))
    (scons (sset (i := 5) sc_law_turn.nd (esub (emul (eix (ev 3) eint) (eix (ev 4) eint)) (emul (eix (ev 3) eint) (eix (ev 4) eint))))
    (sone (sret (esub (etyp call_int1 cl_int T.f_int (acons (ecmp (oa_gt (u65 hr)) la_gt (ev 5) eint) anil)) (etyp call_int1 cl_int T.f_int (acons (ecmp (oa_lt (u65 hr)) la_lt (ev 5) eint) anil))))))))
theorem sc_law_shown : FnScope ["_law_one"] ["_law_one"] (defScope s_law_shown) := ⟨rfl, rfl, rfl, by decide +kernel, rfl, by decide +kernel, by decide +kernel⟩
abbrev b_law_shown : MS := FL.b_fshown
theorem l_law_shown : ∀ ds S Q E, FL.sp_fshown ds S Q E → ds.length = ["_law_one"].length := FL.l_fshown
theorem r_law_shown : ∀ ds S Q E, FL.sp_fshown ds S Q E → b_law_shown (mends Q E) (mstart 0 ds) S := FL.r_fshown
theorem d_law_shown {f : Addr} {cdv : Value} {A : Around} {outer : List Env} {s : Shared} {H : Hp} {E : XK} (T : Txt K mg)  (hr : Room 0 (cxM P w K mg base ["_law_one"] "_law_shown" s_law_shown f cdv A outer s H E).A) :
    PSs (cxM P w K mg base ["_law_one"] "_law_shown" s_law_shown f cdv A outer s H E) (defBody s_law_shown) (upS K (wM E) b_law_shown) :=
  (sone (sret (eadd (etyp call_str_int cl_strI T.f_str (acons (eix (ev 0) eint) anil)) (eix (elstF (acons (eadd estr (etyp call_str_int cl_strI T.f_str (acons (eix (ev 0) eint) anil))) (acons estr anil))) (etyp call_int1 cl_int T.f_int (acons (ecmp (op_eqA hr.units) ol_eq (eix (ev 0) eint) eint) anil))))))
theorem sc_law_is_whole : FnScope ["_law_word", "_law_sign"] ["_law_word"] (defScope s_law_is_whole) := ⟨rfl, rfl, rfl, by decide +kernel, rfl, by decide +kernel, by decide +kernel⟩
def b_law_is_whole : MS := (mSeq (mIfS (mOr (mNot (mTst (mChain aLe aLe (mC (.int 1)) (mBlt bLen (mCons (mVar 0) mNil)) (mC (.int 30))))) (mTst (mOp rNeM (mCompF (iStrM (mVar 0)) (gNm 1) (mTst (mOp (rInS true) (mVar 1) (mC (.str "0123456789")))) (mVar 1) [1]) (mLstF mNil)))) (mRet (mC (.bl false))) mNext)
  (mRet (mOrV (mOp rEqS (mVar 0) (mC (.str "0"))) (mOp rNeS (mOp rIxT' (mVar 0) (mC (.int 0))) (mC (.str "0"))))))
theorem d_law_is_whole {f : Addr} {cdv : Value} {A : Around} {outer : List Env} {s : Shared} {H : Hp} {E : XK} (T : Txt K mg)  (hr : Room 0 (cxM P w K mg base ["_law_word", "_law_sign"] "_law_is_whole" s_law_is_whole f cdv A outer s H E).A) :
    PSs (cxM P w K mg base ["_law_word", "_law_sign"] "_law_is_whole" s_law_is_whole f cdv A outer s H E) (defBody s_law_is_whole) (upS K (wM E) b_law_is_whole) :=
  (scons (sif (L2.PW.pt (wor (tnot (tchain (oa_le (u65 hr)) (oa_le (u65 hr)) la_le la_le eint (eblt call_len cl_len T.f_len (acons (ev 0) anil) PySem.boot_len) eint)) (wor1 (tcmp (op_neA hr.units) ol_ne (ecompF (own := [("_law_sign", 1)]) rfl sc_law_is_whole.nd (isStr (ev 0)) (blkOk_by (by first | decide +kernel | kernel_rfl | rfl)) (fun _ _ _ _ _ => (gonm sc_law_is_whole.nd (i := 1) (by decide))) (fun _ _ _ _ _ => (pts_one (tcmp op_notIn_sign ol_notInS (ev 1) estr))) (fun _ _ _ _ _ => (ev 1))) (elstF anil))))) (sone (sret ebl)) snil)
    (sone (sret (eor (ecmp (op_eqA hr.units) ol_eqS (ev 0) estr) (eone (ecmp (op_neA hr.units) ol_neS (eixS (ev 0) eint) estr))))))
theorem sc_law_cross : FnScope ["_law_one", "_law_two", "_law_three", "_law_gaps", "_law_spot_here", "_law_place", "_law_a", "_law_b", "_law_c", "_law_d", "_law_e", "_law_f", "_law_g", "_law_h", "_law_found"] ["_law_one", "_law_two", "_law_three"] (defScope s_law_cross) := ⟨rfl, rfl, rfl, by decide +kernel, rfl, by decide +kernel, by decide +kernel⟩
def b_law_cross : MS := (mSeq (mSet 3 (mLst mNil))
  (mSeq (mFor (iS (mTup (mCons (mVar 1) (mCons (mVar 2) mNil)))) (gNm 4) (mFor (iR1 (mCons (mC (.int 2)) mNil)) (gNm 5) (mSeq (mAsg (mTup (mCons (mOp rIxM (mVar 4) (mVar 5)) (mCons (mOp rIxM (mVar 0) (mVar 5)) mNil))) (gTp 2 (gCn (gTp 2 (gCn (gNm 6) (gCn (gNm 7) gNl))) (gCn (gTp 2 (gCn (gNm 8) (gCn (gNm 9) gNl))) gNl))))
  (mExpr (mMt mtAppend (mVar 3) (mCons (mTup (mCons (mOp rSub (mOp rMul (mVar 6) (mVar 9)) (mOp rMul (mVar 8) (mVar 7))) (mCons (mOp rMul (mVar 7) (mVar 9)) mNil))) mNil))))))
  (mSeq (mAsg (mVar 3) (gLs 4 (gCn (gTp 2 (gCn (gNm 6) (gCn (gNm 7) gNl))) (gCn (gTp 2 (gCn (gNm 8) (gCn (gNm 9) gNl))) (gCn (gTp 2 (gCn (gNm 10) (gCn (gNm 11) gNl))) (gCn (gTp 2 (gCn (gNm 12) (gCn (gNm 13) gNl))) gNl))))))
  (mSeq (mSet 14 (mOp rSub (mOp rMul (mOp rMul (mOp rMul (mVar 6) (mVar 12)) (mVar 9)) (mVar 11)) (mOp rMul (mOp rMul (mOp rMul (mVar 8) (mVar 10)) (mVar 7)) (mVar 13))))
  (mRet (mOp rSub (mBlt bInt (mCons (mOp aGt (mVar 14) (mC (.int 0))) mNil)) (mBlt bInt (mCons (mOp aLt (mVar 14) (mC (.int 0))) mNil))))))))
theorem d_law_cross {f : Addr} {cdv : Value} {A : Around} {outer : List Env} {s : Shared} {H : Hp} {E : XK} (T : Txt K mg)  (hr : Room 0 (cxM P w K mg base ["_law_one", "_law_two", "_law_three", "_law_gaps", "_law_spot_here", "_law_place", "_law_a", "_law_b", "_law_c", "_law_d", "_law_e", "_law_f", "_law_g", "_law_h", "_law_found"] "_law_cross" s_law_cross f cdv A outer s H E).A) :
    PSs (cxM P w K mg base ["_law_one", "_law_two", "_law_three", "_law_gaps", "_law_spot_here", "_law_place", "_law_a", "_law_b", "_law_c", "_law_d", "_law_e", "_law_f", "_law_g", "_law_h", "_law_found"] "_law_cross" s_law_cross f cdv A outer s H E) (defBody s_law_cross) (upS K (wM E) b_law_cross) :=
  (scons (sset (i := 3) sc_law_cross.nd (elst anil))
    (scons (sfor poM rfl (is (etup (acons (ev 1) (acons (ev 2) anil)))) (gnm (i := 4) sc_law_cross.nd) (sone (sfor poM rfl (ir1 T.f_range (acons eint anil)) (gnm (i := 5) sc_law_cross.nd) (scons (sasg (etup (acons (eix (ev 4) (ev 5)) (acons (eix (ev 0) (ev 5)) anil))) (gtp rfl (gcn (gtp rfl (gcn (gnm (i := 6) sc_law_cross.nd) (gcn (gnm (i := 7) sc_law_cross.nd) gnl))) (gcn (gtp rfl (gcn (gnm (i := 8) sc_law_cross.nd) (gcn (gnm (i := 9) sc_law_cross.nd) gnl))) gnl))))
    (sone (sexpr (emt PySem.F.slot_list_append PySem.F.type_list_append mt_append ml_append (ev 3) (acons (etup (acons (esub (emul (ev 6) (ev 9)) (emul (ev 8) (ev 7))) (acons (emul (ev 7) (ev 9)) anil))) anil))))))))
    (scons (sasg (ev 3) (gls rfl (gcn (gtp rfl (gcn (gnm (i := 6) sc_law_cross.nd) (gcn (gnm (i := 7) sc_law_cross.nd) gnl))) (gcn (gtp rfl (gcn (gnm (i := 8) sc_law_cross.nd) (gcn (gnm (i := 9) sc_law_cross.nd) gnl))) (gcn (gtp rfl (gcn (gnm (i := 10) sc_law_cross.nd) (gcn (gnm (i := 11) sc_law_cross.nd) gnl))) (gcn (gtp rfl (gcn (gnm (i := 12) sc_law_cross.nd) (gcn (gnm (i := 13) sc_law_cross.nd) gnl))) gnl))))))
    (scons (sset (i := 14) sc_law_cross.nd (esub (emul (emul (emul (ev 6) (ev 12)) (ev 9)) (ev 11)) (emul (emul (emul (ev 8) (ev 10)) (ev 7)) (ev 13))))
    (sone (sret (esub (etyp call_int1 cl_int T.f_int (acons (ecmp (oa_gt (u65 hr)) la_gt (ev 14) eint) anil)) (etyp call_int1 cl_int T.f_int (acons (ecmp (oa_lt (u65 hr)) la_lt (ev 14) eint) anil)))))))))
theorem sc_law_before : FnScope ["_law_one", "_law_other"] ["_law_one", "_law_other"] (defScope s_law_before) := ⟨rfl, rfl, rfl, by decide +kernel, rfl, by decide +kernel, by decide +kernel⟩
def b_law_before : MS := (mSeq (mIfS (mTst (mOp rNeM (mOp rIxM (mVar 0) (mC (.int 0))) (mOp rIxM (mVar 1) (mC (.int 0))))) (mRet (mOp aLt (mOp rMul (mOp rIxM (mOp rIxM (mVar 0) (mC (.int 0))) (mC (.int 0))) (mOp rIxM (mOp rIxM (mVar 1) (mC (.int 0))) (mC (.int 1)))) (mOp rMul (mOp rIxM (mOp rIxM (mVar 1) (mC (.int 0))) (mC (.int 0))) (mOp rIxM (mOp rIxM (mVar 0) (mC (.int 0))) (mC (.int 1)))))) mNext)
  (mRet (mOp aLt (mOp rMul (mOp rIxM (mOp rIxM (mVar 0) (mC (.int 1))) (mC (.int 0))) (mOp rIxM (mOp rIxM (mVar 1) (mC (.int 1))) (mC (.int 1)))) (mOp rMul (mOp rIxM (mOp rIxM (mVar 1) (mC (.int 1))) (mC (.int 0))) (mOp rIxM (mOp rIxM (mVar 0) (mC (.int 1))) (mC (.int 1)))))))
theorem d_law_before {f : Addr} {cdv : Value} {A : Around} {outer : List Env} {s : Shared} {H : Hp} {E : XK} (T : Txt K mg)  (hr : Room 0 (cxM P w K mg base ["_law_one", "_law_other"] "_law_before" s_law_before f cdv A outer s H E).A) :
    PSs (cxM P w K mg base ["_law_one", "_law_other"] "_law_before" s_law_before f cdv A outer s H E) (defBody s_law_before) (upS K (wM E) b_law_before) :=
  (scons (sif (tcmp (op_neA hr.units) ol_ne (eix (ev 0) eint) (eix (ev 1) eint)) (sone (sret (ecmp (oa_lt (u65 hr)) la_lt (emul (eix (eix (ev 0) eint) eint) (eix (eix (ev 1) eint) eint)) (emul (eix (eix (ev 1) eint) eint) (eix (eix (ev 0) eint) eint))))) snil)
    (sone (sret (ecmp (oa_lt (u65 hr)) la_lt (emul (eix (eix (ev 0) eint) eint) (eix (eix (ev 1) eint) eint)) (emul (eix (eix (ev 1) eint) eint) (eix (eix (ev 0) eint) eint))))))
theorem sc_law_alone : FnScope ["_law_heard_here", "_law_place", "_law_kinds"] ["_law_heard_here", "_law_place"] (defScope s_law_alone) := ⟨rfl, rfl, rfl, by decide +kernel, rfl, by decide +kernel, by decide +kernel⟩
def b_law_alone : MS := (mSeq (mSet 2 (mLst (mCons (mIsX ["SpotError", "NoFraction", "NoWall", "TooMany", "Crossing", "Absent", "NoText", "NoRow"] "Absent" (mVar 0)) (mCons (mIsX ["SpotError", "NoFraction", "NoWall", "TooMany", "Crossing", "Absent", "NoText", "NoRow"] "Crossing" (mVar 0)) (mCons (mIsX ["SpotError", "NoFraction", "NoWall", "TooMany", "Crossing", "Absent", "NoText", "NoRow"] "NoFraction" (mVar 0)) mNil)))))
  (mSeq (mSet 2 (mOp rAddS (mVar 2) (mLstF (mCons (mIsX ["SpotError", "NoFraction", "NoWall", "TooMany", "Crossing", "Absent", "NoText", "NoRow"] "NoRow" (mVar 0)) (mCons (mIsX ["SpotError", "NoFraction", "NoWall", "TooMany", "Crossing", "Absent", "NoText", "NoRow"] "NoText" (mVar 0)) (mCons (mIsX ["SpotError", "NoFraction", "NoWall", "TooMany", "Crossing", "Absent", "NoText", "NoRow"] "NoWall" (mVar 0)) mNil))))))
  (mSeq (mExpr (mMt mtAppend (mVar 2) (mCons (mIsX ["SpotError", "NoFraction", "NoWall", "TooMany", "Crossing", "Absent", "NoText", "NoRow"] "TooMany" (mVar 0)) mNil)))
  (mRet (mAndV (mIsXV ["SpotError", "NoFraction", "NoWall", "TooMany", "Crossing", "Absent", "NoText", "NoRow"] (mVar 0)) (mAndV (mOp rEqM (mMt mtCount (mVar 2) (mCons (mC (.bl true)) mNil)) (mC (.int 1))) (mOp rIxM (mVar 2) (mVar 1))))))))
theorem d_law_alone {f : Addr} {cdv : Value} {A : Around} {outer : List Env} {s : Shared} {H : Hp} {E : XK} (T : Txt K mg)  (hr : Room 0 (cxM P w K mg base ["_law_heard_here", "_law_place", "_law_kinds"] "_law_alone" s_law_alone f cdv A outer s H E).A) :
    PSs (cxM P w K mg base ["_law_heard_here", "_law_place", "_law_kinds"] "_law_alone" s_law_alone f cdv A outer s H E) (defBody s_law_alone) (upS K (wM E) b_law_alone) :=
  (scons (sset (i := 2) sc_law_alone.nd (elst (acons (eisx T.xs T.f_isinstance T.g_Absent (by decide) (ev 0)) (acons (eisx T.xs T.f_isinstance T.g_Crossing (by decide) (ev 0)) (acons (eisx T.xs T.f_isinstance T.g_NoFraction (by decide) (ev 0)) anil)))))
    (scons (sset (i := 2) sc_law_alone.nd (eaddS (ev 2) (elstF (acons (eisx T.xs T.f_isinstance T.g_NoRow (by decide) (ev 0)) (acons (eisx T.xs T.f_isinstance T.g_NoText (by decide) (ev 0)) (acons (eisx T.xs T.f_isinstance T.g_NoWall (by decide) (ev 0)) anil))))))
    (scons (sexpr (emt PySem.F.slot_list_append PySem.F.type_list_append mt_append ml_append (ev 2) (acons (eisx T.xs T.f_isinstance T.g_TooMany (by decide) (ev 0)) anil)))
    (sone (sret (eand (eisxv T.xs T.f_isinstance T.f_ValueError (ev 0)) (eand (ecmp (op_eqA hr.units) ol_eq (emt PySem.F.slot_list_count PySem.F.type_list_count mt_countB ml_count (ev 2) (acons ebl anil)) eint) (eone (eix (ev 2) (ev 1))))))))))
theorem sc_fraction : FnScope ["top", "bottom", "by"] ["top", "bottom"] (defScope s_fraction) := ⟨rfl, rfl, rfl, by decide +kernel, rfl, by decide +kernel, by decide +kernel⟩
abbrev b_fraction : MS := FL.b_fraction
theorem l_fraction : ∀ ds S Q E, FL.sp_low ds S Q E → ds.length = ["top", "bottom"].length := FL.l_fraction
theorem r_fraction : ∀ ds S Q E, FL.sp_low ds S Q E → b_fraction (mends Q E) (mstart 1 ds) S := FL.r_fraction
theorem d_fraction {f : Addr} {cdv : Value} {A : Around} {outer : List Env} {s : Shared} {H : Hp} {E : XK} (T : Txt K mg) (h_divisor : Has P w K mg base "divisor" ["one", "other"] 1 FL.sp_divisor) (hr : Room 1 (cxM P w K mg base ["top", "bottom", "by"] "fraction" s_fraction f cdv A outer s H E).A) :
    PSs (cxM P w K mg base ["top", "bottom", "by"] "fraction" s_fraction f cdv A outer s H E) (defBody s_fraction) (upS K (wM E) b_fraction) :=
  (scons (sif (tcmp (op_eqA hr.units) ol_eq (ev 1) eint) (sone snever) snil)
    (scons (sset (i := 2) sc_fraction.nd (ecall (h_divisor.mono (k := 1) (by decide)) hr tkM (acons (eblt call_abs cl_abs T.f_abs (acons (ev 0) anil)) (acons (eblt call_abs cl_abs T.f_abs (acons (ev 1) anil)) anil))))
    (scons (sif (tcmp (oa_lt (u65 hr)) la_lt (ev 1) eint) (sone (sset (i := 2) sc_fraction.nd (eneg (ev 2)))) snil)
    (sone (sret (etup (acons (ediv (ev 0) (ev 2)) (acons (ediv (ev 1) (ev 2)) anil))))))))
theorem sc_is_ahead : FnScope ["one", "other"] ["one", "other"] (defScope s_is_ahead) := ⟨rfl, rfl, rfl, by decide +kernel, rfl, by decide +kernel, by decide +kernel⟩
abbrev b_is_ahead : MS := FL.b_is_ahead
theorem l_is_ahead : ∀ ds S Q E, FL.sp_is_ahead ds S Q E → ds.length = ["one", "other"].length := FL.l_is_ahead
theorem r_is_ahead : ∀ ds S Q E, FL.sp_is_ahead ds S Q E → b_is_ahead (mends Q E) (mstart 0 ds) S := FL.r_is_ahead
theorem d_is_ahead {f : Addr} {cdv : Value} {A : Around} {outer : List Env} {s : Shared} {H : Hp} {E : XK} (T : Txt K mg) (h_is_less : Has P w K mg base "is_less" ["one", "other"] 1 FL.sp_is_less) (hr : Room 1 (cxM P w K mg base ["one", "other"] "is_ahead" s_is_ahead f cdv A outer s H E).A) :
    PSs (cxM P w K mg base ["one", "other"] "is_ahead" s_is_ahead f cdv A outer s H E) (defBody s_is_ahead) (upS K (wM E) b_is_ahead) :=
  (scons (sif (tcmp (op_neA hr.units) ol_ne (eix (ev 0) eint) (eix (ev 1) eint)) (sone (sret (ecall (h_is_less.mono (k := 1) (by decide)) hr tkM (acons (eix (ev 0) eint) (acons (eix (ev 1) eint) anil))))) snil)
    (sone (sret (ecall (h_is_less.mono (k := 1) (by decide)) hr tkM (acons (eix (ev 0) eint) (acons (eix (ev 1) eint) anil))))))
theorem sc_fraction_in : FnScope ["word", "top", "stroke", "bottom", "figures"] ["word"] (defScope s_fraction_in) := ⟨rfl, rfl, rfl, by decide +kernel, rfl, by decide +kernel, by decide +kernel⟩
abbrev b_fraction_in : MS := FL.b_fraction_in
theorem l_fraction_in : ∀ ds S Q E, FL.sp_fraction_in ds S Q E → ds.length = ["word"].length := FL.l_fraction_in
theorem r_fraction_in : ∀ ds S Q E, FL.sp_fraction_in ds S Q E → b_fraction_in (mends Q E) (mstart 4 ds) S := FL.r_fraction_in
theorem d_fraction_in {f : Addr} {cdv : Value} {A : Around} {outer : List Env} {s : Shared} {H : Hp} {E : XK} (T : Txt K mg) (h_divisor : Has P w K mg base "divisor" ["one", "other"] 1 FL.sp_divisor) (h_is_whole : Has P w K mg base "is_whole" ["word"] 1 FL.sp_is_whole) (hr : Room 1 (cxM P w K mg base ["word", "top", "stroke", "bottom", "figures"] "fraction_in" s_fraction_in f cdv A outer s H E).A) :
    PSs (cxM P w K mg base ["word", "top", "stroke", "bottom", "figures"] "fraction_in" s_fraction_in f cdv A outer s H E) (defBody s_fraction_in) (upS K (wM E) b_fraction_in) :=
  (scons (sasg (epart (ev 0) estr) (gtp rfl (gcn (gnm (i := 1) sc_fraction_in.nd) (gcn (gnm (i := 2) sc_fraction_in.nd) (gcn (gnm (i := 3) sc_fraction_in.nd) gnl)))))
    (scons (sset (i := 4) sc_fraction_in.nd (ev 1))
    (scons (sif (tcmp (op_eqA hr.units) ol_eqS (ecutS (ev 1) ono (oso eint)) estr) (sone (sset (i := 4) sc_fraction_in.nd (ecutS (ev 1) (oso eint) ono))) snil)
    (scons (sif (L2.PW.pt (wor (tnot (ttru (ecall (h_is_whole.mono (k := 1) (by decide)) hr tkM (acons (ev 4) anil)))) (wor1 (tcmp (op_eqA hr.units) ol_eqS (ev 1) estr)))) (sone (sret enon)) snil)
    (scons (sif (tcmp (op_eqA hr.units) ol_eqS (ev 2) estr) (sone (sret (etup (acons (etyp call_int_str cl_intS T.f_int (acons (ev 1) anil)) (acons eint anil))))) snil)
    (scons (sif (L2.PW.pt (wor (tnot (ttru (ecall (h_is_whole.mono (k := 1) (by decide)) hr tkM (acons (ev 3) anil)))) (wor (tcmp (op_inA (u65 hr)) ol_in (ev 3) (etup (acons estr (acons estr anil)))) (wor1 (tcmp (op_neA hr.units) ol_ne (ecall (h_divisor.mono (k := 1) (by decide)) hr tkM (acons (etyp call_int_str cl_intS T.f_int (acons (ev 4) anil)) (acons (etyp call_int_str cl_intS T.f_int (acons (ev 3) anil)) anil))) eint))))) (sone (sret enon)) snil)
    (sone (sret (etup (acons (etyp call_int_str cl_intS T.f_int (acons (ev 1) anil)) (acons (etyp call_int_str cl_intS T.f_int (acons (ev 3) anil)) anil)))))))))))
theorem sc_law_number : FnScope ["_law_row", "_law_kind", "_law_most", "_law_bottom", "_law_top"] ["_law_row"] (defScope s_law_number) := ⟨rfl, rfl, rfl, by decide +kernel, rfl, by decide +kernel, by decide +kernel⟩
def b_law_number : MS := (mSeq (mSet 1 (mCall FL.sp_take (mCons (mVar 0) (mCons (mC (.int 6)) mNil))))
  (mSeq (mSet 2 (mOp rIxM (mLstF (mCons (mC (.int 9)) (mCons (mC (.int 9)) (mCons (mC (.int 1000)) (mCons (mOp rPow (mC (.int 10)) (mC (.int 9))) (mCons (mOp rPow (mC (.int 10)) (mC (.int 30))) (mCons (mC (.int 30)) mNil))))))) (mVar 1)))
  (mSeq (mSet 3 (mOp rAdd (mC (.int 1)) (mCall FL.sp_take (mCons (mVar 0) (mCons (mOp rIxM (mLstF (mCons (mC (.int 6)) (mCons (mC (.int 12)) (mCons (mC (.int 1000)) (mCons (mOp rPow (mC (.int 10)) (mC (.int 9))) (mCons (mOp rSub (mOp rPow (mC (.int 10)) (mC (.int 30))) (mC (.int 1))) (mCons (mC (.int 1)) mNil))))))) (mVar 1)) mNil)))))
  (mSeq (mSet 4 (mOp rAdd (mOp rSub (mCall FL.sp_take (mCons (mVar 0) (mCons (mOp rSub (mOp rMul (mC (.int 2)) (mVar 2)) (mC (.int 1))) mNil))) (mVar 2)) (mC (.int 1))))
  (mRet (mCall FL.sp_low (mCons (mVar 4) (mCons (mVar 3) mNil))))))))
theorem d_law_number {f : Addr} {cdv : Value} {A : Around} {outer : List Env} {s : Shared} {H : Hp} {E : XK} (T : Txt K mg) (h_law_low : Has P w K mg base "_law_low" ["_law_top", "_law_bottom"] 1 FL.sp_low) (h_law_take : Has P w K mg base "_law_take" ["_law_row", "_law_base"] 1 FL.sp_take) (hr : Room 1 (cxM P w K mg base ["_law_row", "_law_kind", "_law_most", "_law_bottom", "_law_top"] "_law_number" s_law_number f cdv A outer s H E).A) :
    PSs (cxM P w K mg base ["_law_row", "_law_kind", "_law_most", "_law_bottom", "_law_top"] "_law_number" s_law_number f cdv A outer s H E) (defBody s_law_number) (upS K (wM E) b_law_number) :=
  (scons (sset (i := 1) sc_law_number.nd (ecall (h_law_take.mono (k := 1) (by decide)) hr tkM (acons (ev 0) (acons eint anil))))
    (scons (sset (i := 2) sc_law_number.nd (eix (elstF (acons eint (acons eint (acons eint (acons (epow eint eint) (acons (epow eint eint) (acons eint anil))))))) (ev 1)))
    (scons (sset (i := 3) sc_law_number.nd (eadd eint (ecall (h_law_take.mono (k := 1) (by decide)) hr tkM (acons (ev 0) (acons (eix (elstF (acons eint (acons eint (acons eint (acons (epow eint eint) (acons (esub (epow eint eint) eint) (acons eint anil))))))) (ev 1)) anil)))))
    (scons (sset (i := 4) sc_law_number.nd (eadd (esub (ecall (h_law_take.mono (k := 1) (by decide)) hr tkM (acons (ev 0) (acons (esub (emul eint (ev 2)) eint) anil))) (ev 2)) eint))
    (sone (sret (ecall (h_law_low.mono (k := 1) (by decide)) hr tkM (acons (ev 4) (acons (ev 3) anil)))))))))
theorem sc_law_scale : FnScope ["_law_row", "_law_top", "_law_bottom", "_law_far"] ["_law_row"] (defScope s_law_scale) := ⟨rfl, rfl, rfl, by decide +kernel, rfl, by decide +kernel, by decide +kernel⟩
def b_law_scale : MS := (mSeq (mPar 1 2 (mCons (mOp rAdd (mC (.int 1)) (mCall FL.sp_take (mCons (mVar 0) (mCons (mC (.int 6)) mNil)))) (mCons (mOp rAdd (mC (.int 1)) (mCall FL.sp_take (mCons (mVar 0) (mCons (mC (.int 6)) mNil)))) mNil)))
  (mSeq (mIfJ (mTst (mOp rEqM (mCall FL.sp_take (mCons (mVar 0) (mCons (mC (.int 4)) mNil))) (mC (.int 0)))) (mPar 1 2 (mCons (mOp rAdd (mC (.int 1)) (mCall FL.sp_take (mCons (mVar 0) (mCons (mOp rPow (mC (.int 10)) (mC (.int 9))) mNil)))) (mCons (mOp rAdd (mC (.int 1)) (mCall FL.sp_take (mCons (mVar 0) (mCons (mOp rPow (mC (.int 10)) (mC (.int 9))) mNil)))) mNil))) mNext)
  (mSeq (mSet 3 (mOp rIxM (mLstF (mCons (mC (.int 1)) (mCons (mOp rPow (mC (.int 10)) (mC (.int 15))) mNil))) (mBlt bInt (mCons (mOp rEqM (mCall FL.sp_take (mCons (mVar 0) (mCons (mC (.int 6)) mNil))) (mC (.int 0))) mNil))))
  (mRet (mTup (mCons (mVar 1) (mCons (mVar 2) (mCons (mOp rMul (mVar 3) (mOp rSub (mCall FL.sp_take (mCons (mVar 0) (mCons (mC (.int 41)) mNil))) (mC (.int 20)))) (mCons (mOp rMul (mVar 3) (mOp rSub (mCall FL.sp_take (mCons (mVar 0) (mCons (mC (.int 41)) mNil))) (mC (.int 20)))) mNil)))))))))
theorem d_law_scale {f : Addr} {cdv : Value} {A : Around} {outer : List Env} {s : Shared} {H : Hp} {E : XK} (T : Txt K mg) (h_law_take : Has P w K mg base "_law_take" ["_law_row", "_law_base"] 1 FL.sp_take) (hr : Room 1 (cxM P w K mg base ["_law_row", "_law_top", "_law_bottom", "_law_far"] "_law_scale" s_law_scale f cdv A outer s H E).A) :
    PSs (cxM P w K mg base ["_law_row", "_law_top", "_law_bottom", "_law_far"] "_law_scale" s_law_scale f cdv A outer s H E) (defBody s_law_scale) (upS K (wM E) b_law_scale) :=
  (scons (spar (i := 1) (j := 2) rfl sc_law_scale.nd (acons (eadd eint (ecall (h_law_take.mono (k := 1) (by decide)) hr tkM (acons (ev 0) (acons eint anil)))) (acons (eadd eint (ecall (h_law_take.mono (k := 1) (by decide)) hr tkM (acons (ev 0) (acons eint anil)))) anil)))
    (scons (sifJ (tcmp (op_eqA hr.units) ol_eq (ecall (h_law_take.mono (k := 1) (by decide)) hr tkM (acons (ev 0) (acons eint anil))) eint) (sone (spar (i := 1) (j := 2) rfl sc_law_scale.nd (acons (eadd eint (ecall (h_law_take.mono (k := 1) (by decide)) hr tkM (acons (ev 0) (acons (epow eint eint) anil)))) (acons (eadd eint (ecall (h_law_take.mono (k := 1) (by decide)) hr tkM (acons (ev 0) (acons (epow eint eint) anil)))) anil)))) snil)
    (scons (sset (i := 3) sc_law_scale.nd (eix (elstF (acons eint (acons (epow eint eint) anil))) (etyp call_int1 cl_int T.f_int (acons (ecmp (op_eqA hr.units) ol_eq (ecall (h_law_take.mono (k := 1) (by decide)) hr tkM (acons (ev 0) (acons eint anil))) eint) anil))))
    (sone (sret (etup (acons (ev 1) (acons (ev 2) (acons (emul (ev 3) (esub (ecall (h_law_take.mono (k := 1) (by decide)) hr tkM (acons (ev 0) (acons eint anil))) eint)) (acons (emul (ev 3) (esub (ecall (h_law_take.mono (k := 1) (by decide)) hr tkM (acons (ev 0) (acons eint anil))) eint)) anil))))))))))
theorem sc_law_spot : FnScope ["_law_scale_here", "_law_unit", "_law_top", "_law_bottom", "_law_x", "_law_y"] ["_law_scale_here", "_law_unit"] (defScope s_law_spot) := ⟨rfl, rfl, rfl, by decide +kernel, rfl, by decide +kernel, by decide +kernel⟩
abbrev b_law_spot : MS := FL.b_uspot
theorem l_law_spot : ∀ ds S Q E, FL.sp_uspot ds S Q E → ds.length = ["_law_scale_here", "_law_unit"].length := FL.l_uspot
theorem r_law_spot : ∀ ds S Q E, FL.sp_uspot ds S Q E → b_law_spot (mends Q E) (mstart 4 ds) S := FL.r_uspot
theorem d_law_spot {f : Addr} {cdv : Value} {A : Around} {outer : List Env} {s : Shared} {H : Hp} {E : XK} (T : Txt K mg) (h_law_low : Has P w K mg base "_law_low" ["_law_top", "_law_bottom"] 1 FL.sp_low) (hr : Room 1 (cxM P w K mg base ["_law_scale_here", "_law_unit", "_law_top", "_law_bottom", "_law_x", "_law_y"] "_law_spot" s_law_spot f cdv A outer s H E).A) :
    PSs (cxM P w K mg base ["_law_scale_here", "_law_unit", "_law_top", "_law_bottom", "_law_x", "_law_y"] "_law_spot" s_law_spot f cdv A outer s H E) (defBody s_law_spot) (upS K (wM E) b_law_spot) :=
  (scons (sasg (ev 0) (gtp rfl (gcn (gnm (i := 2) sc_law_spot.nd) (gcn (gnm (i := 3) sc_law_spot.nd) (gcn (gnm (i := 4) sc_law_spot.nd) (gcn (gnm (i := 5) sc_law_spot.nd) gnl))))))
    (sone (sret (etup (acons (ecall (h_law_low.mono (k := 1) (by decide)) hr tkM (acons (eadd (emul (eix (ev 1) eint) (ev 2)) (ev 4)) (acons (ev 3) anil))) (acons (ecall (h_law_low.mono (k := 1) (by decide)) hr tkM (acons (eadd (emul (eix (ev 1) eint) (ev 2)) (ev 5)) (acons (ev 3) anil))) anil))))))
theorem sc_law_on : FnScope ["_law_shut", "_law_spot_here"] ["_law_shut", "_law_spot_here"] (defScope s_law_on) := ⟨rfl, rfl, rfl, by decide +kernel, rfl, by decide +kernel, by decide +kernel⟩
abbrev b_law_on : MS := FL.b_on
theorem l_law_on : ∀ ds S Q E, FL.sp_on ds S Q E → ds.length = ["_law_shut", "_law_spot_here"].length := FL.l_on
theorem r_law_on : ∀ ds S Q E, FL.sp_on ds S Q E → b_law_on (mends Q E) (mstart 0 ds) S := FL.r_on
theorem d_law_on {f : Addr} {cdv : Value} {A : Around} {outer : List Env} {s : Shared} {H : Hp} {E : XK} (T : Txt K mg) (h_law_turn : Has P w K mg base "_law_turn" ["_law_one", "_law_two", "_law_three"] 1 FL.sp_turn) (hr : Room 1 (cxM P w K mg base ["_law_shut", "_law_spot_here"] "_law_on" s_law_on f cdv A outer s H E).A) :
    PSs (cxM P w K mg base ["_law_shut", "_law_spot_here"] "_law_on" s_law_on f cdv A outer s H E) (defBody s_law_on) (upS K (wM E) b_law_on) :=
  (sone (sret (eand (echain (oa_le (u65 hr)) (oa_le (u65 hr)) la_le la_le (eix (ev 0) eint) (ev 1) (eix (ev 0) eint)) (eone (ecmp (op_eqA hr.units) ol_eq (ecall (h_law_turn.mono (k := 1) (by decide)) hr tkM (acons (eix (ev 0) eint) (acons (eix (ev 0) eint) (acons (ev 1) anil)))) eint)))))
theorem sc_law_rows : FnScope ["_law_plot", "_law_one", "_law_first", "_law_second"] ["_law_plot"] (defScope s_law_rows) := ⟨rfl, rfl, rfl, by decide +kernel, rfl, by decide +kernel, by decide +kernel⟩
def b_law_rows : MS := (mRet (mComp (iS (mVar 0)) (gTp 2 (gCn (gNm 2) (gCn (gNm 3) gNl))) mYes (mTx1 rmJoin (mC (.str " ")) (mOp rAdd (mLstF (mCons (mC (.str "wall")) mNil)) (mCompF (iS (mOp rAdd (mVar 2) (mVar 3))) (gNm 1) mYes (mCall FL.sp_fshown (mCons (mVar 1) mNil)) [1]))) [2, 3]))
theorem d_law_rows {f : Addr} {cdv : Value} {A : Around} {outer : List Env} {s : Shared} {H : Hp} {E : XK} (T : Txt K mg) (h_law_shown : Has P w K mg base "_law_shown" ["_law_one"] 1 FL.sp_fshown) (hr : Room 1 (cxM P w K mg base ["_law_plot", "_law_one", "_law_first", "_law_second"] "_law_rows" s_law_rows f cdv A outer s H E).A) :
    PSs (cxM P w K mg base ["_law_plot", "_law_one", "_law_first", "_law_second"] "_law_rows" s_law_rows f cdv A outer s H E) (defBody s_law_rows) (upS K (wM E) b_law_rows) :=
  (sone (sret (ecomp (own := [("_law_first", 2), ("_law_second", 3)]) rfl sc_law_rows.nd (is (ev 0)) (blkOk_by (by first | decide +kernel | kernel_rfl | rfl)) (fun _ _ _ _ _ => (gotp rfl (gocn (gonm sc_law_rows.nd (i := 2) (by decide)) (gocn (gonm sc_law_rows.nd (i := 3) (by decide)) gonl)))) (fun _ _ _ _ _ => tsNil) (fun _ _ _ _ _ => (ejoin estr (eadd (elstF (acons estr anil)) (ecompF (own := [("_law_one", 1)]) rfl sc_law_rows.nd (is (eadd (ev 2) (ev 3))) (blkOk_by (by first | decide +kernel | kernel_rfl | rfl)) (fun _ _ _ _ _ => (gonm sc_law_rows.nd (i := 1) (by decide))) (fun _ _ _ _ _ => tsNil) (fun _ _ _ _ _ => (ecall (h_law_shown.mono (k := 1) (by decide)) hr takes0 (acons (ev 1) anil))))))))))
theorem sc_law_fraction : FnScope ["_law_word", "_law_parts", "_law_top", "_law_bottom"] ["_law_word"] (defScope s_law_fraction) := ⟨rfl, rfl, rfl, by decide +kernel, rfl, by decide +kernel, by decide +kernel⟩
def b_law_fraction : MS := (mSeq (mSet 1 (mTx1 rmSplit (mVar 0) (mC (.str "/"))))
  (mSeq (mSet 2 (mOp rIxM (mVar 1) (mC (.int 0))))
  (mSeq (mIfS (mTst (mOp rEqS (mCutS (mVar 2) oNo (oSo (mC (.int 1)))) (mC (.str "-")))) (mSet 2 (mCutS (mVar 2) (oSo (mC (.int 1))) oNo)) mNext)
  (mSeq (mIfS (mOr (mTst (mOp aGt (mBlt bLen (mCons (mVar 1) mNil)) (mC (.int 2)))) (mOr (mNot (mTru (mCall sp_law_is_whole (mCons (mVar 2) mNil)))) (mTst (mOp rEqS (mOp rIxM (mVar 1) (mC (.int 0))) (mC (.str "-0")))))) (mRet (mC .non)) mNext)
  (mSeq (mSet 3 (mOp rIxM (mOp rAdd (mVar 1) (mLstF (mCons (mC (.str "1")) mNil))) (mC (.int 1))))
  (mSeq (mIfS (mOr (mNot (mTru (mCall sp_law_is_whole (mCons (mVar 3) mNil)))) (mOr (mTst (mOp rEqM (mBlt bIntS (mCons (mVar 3) mNil)) (mC (.int 0)))) (mAnd (mTst (mOp rEqM (mBlt bLen (mCons (mVar 1) mNil)) (mC (.int 2)))) (mTst (mOp rEqS (mVar 3) (mC (.str "1"))))))) (mRet (mC .non)) mNext)
  (mSeq (mIfS (mTst (mOp rNeM (mCall FL.sp_low (mCons (mBlt bIntS (mCons (mVar 2) mNil)) (mCons (mBlt bIntS (mCons (mVar 3) mNil)) mNil))) (mTup (mCons (mBlt bIntS (mCons (mVar 2) mNil)) (mCons (mBlt bIntS (mCons (mVar 3) mNil)) mNil))))) (mRet (mC .non)) mNext)
  (mRet (mTup (mCons (mBlt bIntS (mCons (mOp rIxM (mVar 1) (mC (.int 0))) mNil)) (mCons (mBlt bIntS (mCons (mVar 3) mNil)) mNil)))))))))))
theorem d_law_fraction {f : Addr} {cdv : Value} {A : Around} {outer : List Env} {s : Shared} {H : Hp} {E : XK} (T : Txt K mg) (h_law_low : Has P w K mg base "_law_low" ["_law_top", "_law_bottom"] 1 FL.sp_low) (h_law_is_whole : Has P w K mg base "_law_is_whole" ["_law_word"] 1 sp_law_is_whole) (hr : Room 1 (cxM P w K mg base ["_law_word", "_law_parts", "_law_top", "_law_bottom"] "_law_fraction" s_law_fraction f cdv A outer s H E).A) :
    PSs (cxM P w K mg base ["_law_word", "_law_parts", "_law_top", "_law_bottom"] "_law_fraction" s_law_fraction f cdv A outer s H E) (defBody s_law_fraction) (upS K (wM E) b_law_fraction) :=
  (scons (sset (i := 1) sc_law_fraction.nd (esplit (ev 0) estr))
    (scons (sset (i := 2) sc_law_fraction.nd (eix (ev 1) eint))
    (scons (sif (tcmp (op_eqA hr.units) ol_eqS (ecutS (ev 2) ono (oso eint)) estr) (sone (sset (i := 2) sc_law_fraction.nd (ecutS (ev 2) (oso eint) ono))) snil)
    (scons (sif (L2.PW.pt (wor (tcmp (oa_gt (u65 hr)) la_gt (eblt call_len cl_len T.f_len (acons (ev 1) anil) PySem.boot_len) eint) (wor (tnot (ttru (ecall (h_law_is_whole.mono (k := 1) (by decide)) hr tkM (acons (ev 2) anil)))) (wor1 (tcmp (op_eqA hr.units) ol_eqS (eix (ev 1) eint) estr))))) (sone (sret enon)) snil)
    (scons (sset (i := 3) sc_law_fraction.nd (eix (eadd (ev 1) (elstF (acons estr anil))) eint))
    (scons (sif (L2.PW.pt (wor (tnot (ttru (ecall (h_law_is_whole.mono (k := 1) (by decide)) hr tkM (acons (ev 3) anil)))) (wor (tcmp (op_eqA hr.units) ol_eq (etyp call_int_str cl_intS T.f_int (acons (ev 3) anil)) eint) (wor1 (L2.PW.pt (wand (tcmp (op_eqA hr.units) ol_eq (eblt call_len cl_len T.f_len (acons (ev 1) anil) PySem.boot_len) eint) (wand1 (tcmp (op_eqA hr.units) ol_eqS (ev 3) estr)))))))) (sone (sret enon)) snil)
    (scons (sif (tcmp (op_neA hr.units) ol_ne (ecall (h_law_low.mono (k := 1) (by decide)) hr tkM (acons (etyp call_int_str cl_intS T.f_int (acons (ev 2) anil)) (acons (etyp call_int_str cl_intS T.f_int (acons (ev 3) anil)) anil))) (etup (acons (etyp call_int_str cl_intS T.f_int (acons (ev 2) anil)) (acons (etyp call_int_str cl_intS T.f_int (acons (ev 3) anil)) anil)))) (sone (sret enon)) snil)
    (sone (sret (etup (acons (etyp call_int_str cl_intS T.f_int (acons (eix (ev 1) eint) anil)) (acons (etyp call_int_str cl_intS T.f_int (acons (ev 3) anil)) anil))))))))))))
theorem sc_law_bent : FnScope ["_law_row", "_law_lines", "_law_at", "_law_words", "_law_place", "_law_spot_here", "_law_signs", "_law_sign", "_law_way", "_law_line", "_law_some"] ["_law_row", "_law_lines"] (defScope s_law_bent) := ⟨rfl, rfl, rfl, by decide +kernel, rfl, by decide +kernel, by decide +kernel⟩
def b_law_bent : MS := (mSeq (mSet 2 (mCall FL.sp_take (mCons (mVar 0) (mCons (mBlt bLen (mCons (mVar 1) mNil)) mNil))))
  (mSeq (mSet 3 (mTx1 rmSplitO (mOp rIxM (mVar 1) (mVar 2)) (mC (.str " "))))
  (mSeq (mSet 4 (mCall FL.sp_take (mCons (mVar 0) (mCons (mBlt bLen (mCons (mVar 3) mNil)) mNil))))
  (mSeq (mSet 5 (mCall FL.sp_take (mCons (mVar 0) (mCons (mOp rAdd (mBlt bLen (mCons (mOp rIxM (mVar 1) (mVar 2)) mNil)) (mC (.int 1))) mNil))))
  (mSeq (mSet 6 (mC (.str " !\"#$&'()*+,-./0123456789:;<=>?@ABCDEFGHIJKLMNOPQRSTUVWXYZ[\\]^_`abcdefghijklmnopqrstuvwxyz{|}~\n")))
  (mSeq (mSet 7 (mOp rIxM (mOp rAdd (mLstF (mCons (mC (.str "a")) (mCons (mC (.str "0")) (mCons (mC (.str "/")) (mCons (mC (.str "-")) (mCons (mC (.str " ")) (mCons (mC (.str "1")) (mCons (mC (.str "\n")) (mCons (mC (.str "+")) (mCons (mC (.str ".")) mNil)))))))))) (mBlt bListT (mCons (mVar 6) mNil))) (mCall FL.sp_take (mCons (mVar 0) (mCons (mOp rAdd (mC (.int 9)) (mBlt bLen (mCons (mVar 6) mNil))) mNil)))))
  (mSeq (mSet 8 (mCall FL.sp_take (mCons (mVar 0) (mCons (mC (.int 10)) mNil))))
  (mSeq (mSet 9 (mOp rIxM (mVar 1) (mVar 2)))
  (mSeq (mIfS (mTst (mOp rEqM (mVar 8) (mC (.int 0)))) (mSet 9 (mOp rAdd (mOp rAdd (mCutS (mVar 9) oNo (oSo (mVar 5))) (mVar 7)) (mCutS (mVar 9) (oSo (mVar 5)) oNo))) mNext)
  (mSeq (mIfS (mTst (mOp rEqM (mVar 8) (mC (.int 1)))) (mSet 9 (mOp rAdd (mCutS (mVar 9) oNo (oSo (mVar 5))) (mCutS (mVar 9) (oSo (mOp rAdd (mVar 5) (mC (.int 1)))) oNo))) mNext)
  (mSeq (mIfS (mTst (mOp rEqM (mVar 8) (mC (.int 2)))) (mSet 9 (mTx1 rmJoin (mC (.str " ")) (mOp rAdd (mCut (mVar 3) oNo (oSo (mVar 4))) (mCut (mVar 3) (oSo (mOp rAdd (mVar 4) (mC (.int 1)))) oNo)))) mNext)
  (mSeq (mIfS (mTst (mOp rEqM (mVar 8) (mC (.int 3)))) (mSet 9 (mTx1 rmJoin (mC (.str " ")) (mOp rAdd (mCut (mVar 3) oNo (oSo (mOp rAdd (mVar 4) (mC (.int 1))))) (mCut (mVar 3) (oSo (mVar 4)) oNo)))) mNext)
  (mSeq (mIfS (mTst (mOp rEqM (mVar 8) (mC (.int 4)))) (mSet 9 (mTx1 rmJoin (mC (.str " ")) (mOp rAdd (mOp rAdd (mCut (mVar 3) oNo (oSo (mC (.int 1)))) (mCut (mVar 3) (oSo (mC (.int 3))) oNo)) (mCut (mVar 3) (oSo (mC (.int 1))) (oSo (mC (.int 3))))))) mNext)
  (mSeq (mSet 1 (mOp rAdd (mOp rAdd (mCut (mVar 1) oNo (oSo (mVar 2))) (mLstF (mCons (mVar 9) mNil))) (mCut (mVar 1) (oSo (mOp rAdd (mVar 2) (mC (.int 1)))) oNo)))
  (mSeq (mIfS (mTst (mOp rEqM (mVar 8) (mC (.int 5)))) (mSet 1 (mOp rAdd (mOp rAdd (mCut (mVar 1) oNo (oSo (mVar 2))) (mCut (mVar 1) (oSo (mVar 2)) (oSo (mOp rAdd (mVar 2) (mC (.int 1)))))) (mCut (mVar 1) (oSo (mVar 2)) oNo))) mNext)
  (mSeq (mIfS (mTst (mOp rEqM (mVar 8) (mC (.int 6)))) (mSeq (mSet 10 (mLstF (mCons (mC (.str "")) (mCons (mC (.str "wall")) (mCons (mC (.str "wall 0 0 1 2/4")) (mCons (mC (.str "wall 0 0 1 -0")) (mCons (mC (.str "wall 00 0 1 1")) (mCons (mC (.str "wall 0 0 1 1/1")) (mCons (mC (.str "wall 1 0 0 0")) mNil)))))))))
  (mSet 1 (mOp rAdd (mVar 1) (mLstF (mCons (mOp rIxM (mOp rAdd (mVar 10) (mLstF (mCons (mC (.str "wall 0 0 1 1/0")) (mCons (mC (.str "wall 0 0 0 0")) (mCons (mOp rAdd (mOp rAdd (mC (.str "wall 0 0 ")) (mOp rMulT (mC (.str "1")) (mC (.int 31)))) (mC (.str " 0"))) mNil))))) (mCall FL.sp_take (mCons (mVar 0) (mCons (mC (.int 10)) mNil)))) mNil))))) mNext)
  (mSeq (mIfS (mTst (mOp rEqM (mVar 8) (mC (.int 7)))) (mSet 1 (mOp rAdd (mCut (mVar 1) oNo (oSo (mVar 2))) (mCut (mVar 1) (oSo (mOp rAdd (mVar 2) (mC (.int 1)))) oNo))) mNext)
  (mSeq (mIfS (mTst (mOp rEqM (mVar 8) (mC (.int 8)))) (mSeq (mAsg (mOp rIxM (mLstF (mCons (mC (.str "0")) (mCons (mC (.str "-1")) (mCons (mC (.str "1/2")) (mCons (mC (.str "2/3")) (mCons (mC (.str "wall")) (mCons (mC (.str "ask")) (mCons (mC (.str "1_0")) (mCons (mC (.str "")) mNil))))))))) (mCall FL.sp_take (mCons (mVar 0) (mCons (mC (.int 8)) mNil)))) (gSb (mVar 3) (mVar 4)))
  (mSet 1 (mOp rAdd (mOp rAdd (mCut (mVar 1) oNo (oSo (mVar 2))) (mLstF (mCons (mTx1 rmJoin (mC (.str " ")) (mVar 3)) mNil))) (mCut (mVar 1) (oSo (mOp rAdd (mVar 2) (mC (.int 1)))) oNo)))) mNext)
  (mRet (mTx1 rmSplit (mTx1 rmJoin (mC (.str "\n")) (mVar 1)) (mC (.str "\n"))))))))))))))))))))))
theorem d_law_bent {f : Addr} {cdv : Value} {A : Around} {outer : List Env} {s : Shared} {H : Hp} {E : XK} (T : Txt K mg) (h_law_take : Has P w K mg base "_law_take" ["_law_row", "_law_base"] 1 FL.sp_take) (hr : Room 1 (cxM P w K mg base ["_law_row", "_law_lines", "_law_at", "_law_words", "_law_place", "_law_spot_here", "_law_signs", "_law_sign", "_law_way", "_law_line", "_law_some"] "_law_bent" s_law_bent f cdv A outer s H E).A) :
    PSs (cxM P w K mg base ["_law_row", "_law_lines", "_law_at", "_law_words", "_law_place", "_law_spot_here", "_law_signs", "_law_sign", "_law_way", "_law_line", "_law_some"] "_law_bent" s_law_bent f cdv A outer s H E) (defBody s_law_bent) (upS K (wM E) b_law_bent) :=
  (scons (sset (i := 2) sc_law_bent.nd (ecall (h_law_take.mono (k := 1) (by decide)) hr tkM (acons (ev 0) (acons (eblt call_len cl_len T.f_len (acons (ev 1) anil) PySem.boot_len) anil))))
    (scons (sset (i := 3) sc_law_bent.nd (esplitO (eix (ev 1) (ev 2)) estr))
    (scons (sset (i := 4) sc_law_bent.nd (ecall (h_law_take.mono (k := 1) (by decide)) hr tkM (acons (ev 0) (acons (eblt call_len cl_len T.f_len (acons (ev 3) anil) PySem.boot_len) anil))))
    (scons (sset (i := 5) sc_law_bent.nd (ecall (h_law_take.mono (k := 1) (by decide)) hr tkM (acons (ev 0) (acons (eadd (eblt call_len cl_len T.f_len (acons (eix (ev 1) (ev 2)) anil) PySem.boot_len) eint) anil))))
    (scons (sset (i := 6) sc_law_bent.nd estr)
    (scons (sset (i := 7) sc_law_bent.nd (eix (eadd (elstF (acons estr (acons estr (acons estr (acons estr (acons estr (acons estr (acons estr (acons estr (acons estr anil)))))))))) (etyp (call_list_T rfl) cl_listT T.f_list (acons (ev 6) anil))) (ecall (h_law_take.mono (k := 1) (by decide)) hr tkM (acons (ev 0) (acons (eadd eint (eblt call_len cl_len T.f_len (acons (ev 6) anil) PySem.boot_len)) anil)))))
    (scons (sset (i := 8) sc_law_bent.nd (ecall (h_law_take.mono (k := 1) (by decide)) hr tkM (acons (ev 0) (acons eint anil))))
    (scons (sset (i := 9) sc_law_bent.nd (eix (ev 1) (ev 2)))
    (scons (sif (tcmp (op_eqA hr.units) ol_eq (ev 8) eint) (sone (sset (i := 9) sc_law_bent.nd (eadd (eadd (ecutS (ev 9) ono (oso (ev 5))) (ev 7)) (ecutS (ev 9) (oso (ev 5)) ono)))) snil)
    (scons (sif (tcmp (op_eqA hr.units) ol_eq (ev 8) eint) (sone (sset (i := 9) sc_law_bent.nd (eadd (ecutS (ev 9) ono (oso (ev 5))) (ecutS (ev 9) (oso (eadd (ev 5) eint)) ono)))) snil)
    (scons (sif (tcmp (op_eqA hr.units) ol_eq (ev 8) eint) (sone (sset (i := 9) sc_law_bent.nd (ejoin estr (eadd (ecut (ev 3) ono (oso (ev 4))) (ecut (ev 3) (oso (eadd (ev 4) eint)) ono))))) snil)
    (scons (sif (tcmp (op_eqA hr.units) ol_eq (ev 8) eint) (sone (sset (i := 9) sc_law_bent.nd (ejoin estr (eadd (ecut (ev 3) ono (oso (eadd (ev 4) eint))) (ecut (ev 3) (oso (ev 4)) ono))))) snil)
    (scons (sif (tcmp (op_eqA hr.units) ol_eq (ev 8) eint) (sone (sset (i := 9) sc_law_bent.nd (ejoin estr (eadd (eadd (ecut (ev 3) ono (oso eint)) (ecut (ev 3) (oso eint) ono)) (ecut (ev 3) (oso eint) (oso eint)))))) snil)
    (scons (sset (i := 1) sc_law_bent.nd (eadd (eadd (ecut (ev 1) ono (oso (ev 2))) (elstF (acons (ev 9) anil))) (ecut (ev 1) (oso (eadd (ev 2) eint)) ono)))
    (scons (sif (tcmp (op_eqA hr.units) ol_eq (ev 8) eint) (sone (sset (i := 1) sc_law_bent.nd (eadd (eadd (ecut (ev 1) ono (oso (ev 2))) (ecut (ev 1) (oso (ev 2)) (oso (eadd (ev 2) eint)))) (ecut (ev 1) (oso (ev 2)) ono)))) snil)
    (scons (sif (tcmp (op_eqA hr.units) ol_eq (ev 8) eint) (scons (sset (i := 10) sc_law_bent.nd (elstF (acons estr (acons estr (acons estr (acons estr (acons estr (acons estr (acons estr anil)))))))))
    (sone (sset (i := 1) sc_law_bent.nd (eadd (ev 1) (elstF (acons (eix (eadd (ev 10) (elstF (acons estr (acons estr (acons (eadd (eadd estr (emulT estr eint)) estr) anil))))) (ecall (h_law_take.mono (k := 1) (by decide)) hr tkM (acons (ev 0) (acons eint anil)))) anil)))))) snil)
    (scons (sif (tcmp (op_eqA hr.units) ol_eq (ev 8) eint) (sone (sset (i := 1) sc_law_bent.nd (eadd (ecut (ev 1) ono (oso (ev 2))) (ecut (ev 1) (oso (eadd (ev 2) eint)) ono)))) snil)
    (scons (sif (tcmp (op_eqA hr.units) ol_eq (ev 8) eint) (scons (sasg (eix (elstF (acons estr (acons estr (acons estr (acons estr (acons estr (acons estr (acons estr (acons estr anil))))))))) (ecall (h_law_take.mono (k := 1) (by decide)) hr tkM (acons (ev 0) (acons eint anil)))) (gsb (ev 3) (ev 4)))
    (sone (sset (i := 1) sc_law_bent.nd (eadd (eadd (ecut (ev 1) ono (oso (ev 2))) (elstF (acons (ejoin estr (ev 3)) anil))) (ecut (ev 1) (oso (eadd (ev 2) eint)) ono))))) snil)
    (sone (sret (esplit (ejoin estr (ev 1)) estr)))))))))))))))))))))
theorem sc_law_fits : FnScope ["_law_one", "_law_other", "_law_shut", "_law_beside", "_law_spot_here", "_law_out", "_law_sides", "_law_others"] ["_law_one", "_law_other"] (defScope s_law_fits) := ⟨rfl, rfl, rfl, by decide +kernel, rfl, by decide +kernel, by decide +kernel⟩
def b_law_fits : MS := (mSeq (mIfS (mTst (mOp rEqM (mVar 0) (mVar 1))) (mRet (mC (.bl false))) mNext)
  (mSeq (mFor (iS (mTup (mCons (mTup (mCons (mVar 0) (mCons (mVar 1) mNil))) (mCons (mTup (mCons (mVar 1) (mCons (mVar 0) mNil))) mNil)))) (gTp 2 (gCn (gNm 2) (gCn (gNm 3) gNl))) (mFor (iS (mVar 3)) (gNm 4) (mSeq (mSet 5 (mOrV (mCall sp_law_before (mCons (mVar 4) (mCons (mOp rIxM (mVar 2) (mC (.int 0))) mNil))) (mCall sp_law_before (mCons (mOp rIxM (mVar 2) (mC (.int 1))) (mCons (mVar 4) mNil)))))
  (mIfS (mAnd (mTst (mOp (rInM true) (mVar 4) (mVar 2))) (mAnd (mNot (mTru (mVar 5))) (mTst (mOp rEqM (mCall sp_law_cross (mCons (mOp rIxM (mVar 2) (mC (.int 0))) (mCons (mOp rIxM (mVar 2) (mC (.int 1))) (mCons (mVar 4) mNil)))) (mC (.int 0)))))) (mRet (mC (.bl false))) mNext))))
  (mSeq (mSet 6 (mComp (iS (mVar 1)) (gNm 4) mYes (mCall sp_law_cross (mCons (mOp rIxM (mVar 0) (mC (.int 0))) (mCons (mOp rIxM (mVar 0) (mC (.int 1))) (mCons (mVar 4) mNil)))) [4]))
  (mSeq (mSet 7 (mComp (iS (mVar 0)) (gNm 4) mYes (mCall sp_law_cross (mCons (mOp rIxM (mVar 1) (mC (.int 0))) (mCons (mOp rIxM (mVar 1) (mC (.int 1))) (mCons (mVar 4) mNil)))) [4]))
  (mRet (mOrV (mOp aGe (mOp rMul (mOp rIxM (mVar 6) (mC (.int 0))) (mOp rIxM (mVar 6) (mC (.int 1)))) (mC (.int 0))) (mOp aGe (mOp rMul (mOp rIxM (mVar 7) (mC (.int 0))) (mOp rIxM (mVar 7) (mC (.int 1)))) (mC (.int 0)))))))))
theorem d_law_fits {f : Addr} {cdv : Value} {A : Around} {outer : List Env} {s : Shared} {H : Hp} {E : XK} (T : Txt K mg) (h_law_cross : Has P w K mg base "_law_cross" ["_law_one", "_law_two", "_law_three"] 1 sp_law_cross) (h_law_before : Has P w K mg base "_law_before" ["_law_one", "_law_other"] 1 sp_law_before) (hr : Room 1 (cxM P w K mg base ["_law_one", "_law_other", "_law_shut", "_law_beside", "_law_spot_here", "_law_out", "_law_sides", "_law_others"] "_law_fits" s_law_fits f cdv A outer s H E).A) :
    PSs (cxM P w K mg base ["_law_one", "_law_other", "_law_shut", "_law_beside", "_law_spot_here", "_law_out", "_law_sides", "_law_others"] "_law_fits" s_law_fits f cdv A outer s H E) (defBody s_law_fits) (upS K (wM E) b_law_fits) :=
  (scons (sif (tcmp (op_eqA hr.units) ol_eq (ev 0) (ev 1)) (sone (sret ebl)) snil)
    (scons (sfor poM rfl (is (etup (acons (etup (acons (ev 0) (acons (ev 1) anil))) (acons (etup (acons (ev 1) (acons (ev 0) anil))) anil)))) (gtp rfl (gcn (gnm (i := 2) sc_law_fits.nd) (gcn (gnm (i := 3) sc_law_fits.nd) gnl))) (sone (sfor poM rfl (is (ev 3)) (gnm (i := 4) sc_law_fits.nd) (scons (sset (i := 5) sc_law_fits.nd (eor (ecall (h_law_before.mono (k := 1) (by decide)) hr tkM (acons (ev 4) (acons (eix (ev 2) eint) anil))) (eone (ecall (h_law_before.mono (k := 1) (by decide)) hr tkM (acons (eix (ev 2) eint) (acons (ev 4) anil))))))
    (sone (sif (L2.PW.pt (wand (tcmp (op_notInA (u65 hr)) ol_notIn (ev 4) (ev 2)) (wand (tnot (ttru (ev 5))) (wand1 (tcmp (op_eqA hr.units) ol_eq (ecall (h_law_cross.mono (k := 1) (by decide)) hr tkM (acons (eix (ev 2) eint) (acons (eix (ev 2) eint) (acons (ev 4) anil)))) eint))))) (sone (sret ebl)) snil))))))
    (scons (ssetLc (i := 6) (own := [("_law_spot_here", 4)]) rfl sc_law_fits.nd (is (ev 1)) (blkOk_by (by first | decide +kernel | kernel_rfl | rfl)) (fun _ _ _ _ _ => (gonm sc_law_fits.nd (i := 4) (by decide))) (fun _ _ _ _ _ => tsNil) (fun _ _ _ _ _ => (ecall (h_law_cross.mono (k := 1) (by decide)) hr takes0 (acons (eix (ev 0) eint) (acons (eix (ev 0) eint) (acons (ev 4) anil))))))
    (scons (ssetLc (i := 7) (own := [("_law_spot_here", 4)]) rfl sc_law_fits.nd (is (ev 0)) (blkOk_by (by first | decide +kernel | kernel_rfl | rfl)) (fun _ _ _ _ _ => (gonm sc_law_fits.nd (i := 4) (by decide))) (fun _ _ _ _ _ => tsNil) (fun _ _ _ _ _ => (ecall (h_law_cross.mono (k := 1) (by decide)) hr takes0 (acons (eix (ev 1) eint) (acons (eix (ev 1) eint) (acons (ev 4) anil))))))
    (sone (sret (eor (ecmp (oa_ge (u65 hr)) la_ge (emul (eix (ev 6) eint) (eix (ev 6) eint)) eint) (eone (ecmp (oa_ge (u65 hr)) la_ge (emul (eix (ev 7) eint) (eix (ev 7) eint)) eint)))))))))
theorem sc_law_beyond : FnScope ["_law_one", "_law_other"] ["_law_one", "_law_other"] (defScope s_law_beyond) := ⟨rfl, rfl, rfl, by decide +kernel, rfl, by decide +kernel, by decide +kernel⟩
def b_law_beyond : MS := (mRet (mCall FL.sp_low (mCons (mOp rSub (mOp rMul (mOp rMul (mC (.int 2)) (mOp rIxM (mVar 1) (mC (.int 0)))) (mOp rIxM (mVar 0) (mC (.int 1)))) (mOp rMul (mOp rIxM (mVar 0) (mC (.int 0))) (mOp rIxM (mVar 1) (mC (.int 1))))) (mCons (mOp rMul (mOp rIxM (mVar 0) (mC (.int 1))) (mOp rIxM (mVar 1) (mC (.int 1)))) mNil))))
theorem d_law_beyond {f : Addr} {cdv : Value} {A : Around} {outer : List Env} {s : Shared} {H : Hp} {E : XK} (T : Txt K mg) (h_law_low : Has P w K mg base "_law_low" ["_law_top", "_law_bottom"] 1 FL.sp_low) (hr : Room 1 (cxM P w K mg base ["_law_one", "_law_other"] "_law_beyond" s_law_beyond f cdv A outer s H E).A) :
    PSs (cxM P w K mg base ["_law_one", "_law_other"] "_law_beyond" s_law_beyond f cdv A outer s H E) (defBody s_law_beyond) (upS K (wM E) b_law_beyond) :=
  (sone (sret (ecall (h_law_low.mono (k := 1) (by decide)) hr tkM (acons (esub (emul (emul eint (eix (ev 1) eint)) (eix (ev 0) eint)) (emul (eix (ev 0) eint) (eix (ev 1) eint))) (acons (emul (eix (ev 0) eint) (eix (ev 1) eint)) anil)))))
theorem sc_plus : FnScope ["one", "other"] ["one", "other"] (defScope s_plus) := ⟨rfl, rfl, rfl, by decide +kernel, rfl, by decide +kernel, by decide +kernel⟩
abbrev b_plus : MS := FL.b_plus
theorem l_plus : ∀ ds S Q E, FL.sp_plus ds S Q E → ds.length = ["one", "other"].length := FL.l_plus
theorem r_plus : ∀ ds S Q E, FL.sp_plus ds S Q E → b_plus (mends Q E) (mstart 0 ds) S := FL.r_plus
theorem d_plus {f : Addr} {cdv : Value} {A : Around} {outer : List Env} {s : Shared} {H : Hp} {E : XK} (T : Txt K mg) (h_fraction : Has P w K mg base "fraction" ["top", "bottom"] 2 FL.sp_low) (hr : Room 2 (cxM P w K mg base ["one", "other"] "plus" s_plus f cdv A outer s H E).A) :
    PSs (cxM P w K mg base ["one", "other"] "plus" s_plus f cdv A outer s H E) (defBody s_plus) (upS K (wM E) b_plus) :=
  (sone (sret (ecall (h_fraction.mono (k := 2) (by decide)) hr tkM (acons (eadd (emul (eix (ev 0) eint) (eix (ev 1) eint)) (emul (eix (ev 1) eint) (eix (ev 0) eint))) (acons (emul (eix (ev 0) eint) (eix (ev 1) eint)) anil)))))
theorem sc_less : FnScope ["one", "other"] ["one", "other"] (defScope s_less) := ⟨rfl, rfl, rfl, by decide +kernel, rfl, by decide +kernel, by decide +kernel⟩
abbrev b_less : MS := FL.b_less
theorem l_less : ∀ ds S Q E, FL.sp_less ds S Q E → ds.length = ["one", "other"].length := FL.l_less
theorem r_less : ∀ ds S Q E, FL.sp_less ds S Q E → b_less (mends Q E) (mstart 0 ds) S := FL.r_less
theorem d_less {f : Addr} {cdv : Value} {A : Around} {outer : List Env} {s : Shared} {H : Hp} {E : XK} (T : Txt K mg) (h_fraction : Has P w K mg base "fraction" ["top", "bottom"] 2 FL.sp_low) (hr : Room 2 (cxM P w K mg base ["one", "other"] "less" s_less f cdv A outer s H E).A) :
    PSs (cxM P w K mg base ["one", "other"] "less" s_less f cdv A outer s H E) (defBody s_less) (upS K (wM E) b_less) :=
  (sone (sret (ecall (h_fraction.mono (k := 2) (by decide)) hr tkM (acons (esub (emul (eix (ev 0) eint) (eix (ev 1) eint)) (emul (eix (ev 1) eint) (eix (ev 0) eint))) (acons (emul (eix (ev 0) eint) (eix (ev 1) eint)) anil)))))
theorem sc_times : FnScope ["one", "other"] ["one", "other"] (defScope s_times) := ⟨rfl, rfl, rfl, by decide +kernel, rfl, by decide +kernel, by decide +kernel⟩
abbrev b_times : MS := FL.b_times
theorem l_times : ∀ ds S Q E, FL.sp_times ds S Q E → ds.length = ["one", "other"].length := FL.l_times
theorem r_times : ∀ ds S Q E, FL.sp_times ds S Q E → b_times (mends Q E) (mstart 0 ds) S := FL.r_times
theorem d_times {f : Addr} {cdv : Value} {A : Around} {outer : List Env} {s : Shared} {H : Hp} {E : XK} (T : Txt K mg) (h_fraction : Has P w K mg base "fraction" ["top", "bottom"] 2 FL.sp_low) (hr : Room 2 (cxM P w K mg base ["one", "other"] "times" s_times f cdv A outer s H E).A) :
    PSs (cxM P w K mg base ["one", "other"] "times" s_times f cdv A outer s H E) (defBody s_times) (upS K (wM E) b_times) :=
  (sone (sret (ecall (h_fraction.mono (k := 2) (by decide)) hr tkM (acons (emul (eix (ev 0) eint) (eix (ev 1) eint)) (acons (emul (eix (ev 0) eint) (eix (ev 1) eint)) anil)))))
theorem sc_over : FnScope ["one", "other"] ["one", "other"] (defScope s_over) := ⟨rfl, rfl, rfl, by decide +kernel, rfl, by decide +kernel, by decide +kernel⟩
abbrev b_over : MS := FL.b_over
theorem l_over : ∀ ds S Q E, FL.sp_over ds S Q E → ds.length = ["one", "other"].length := FL.l_over
theorem r_over : ∀ ds S Q E, FL.sp_over ds S Q E → b_over (mends Q E) (mstart 0 ds) S := FL.r_over
theorem d_over {f : Addr} {cdv : Value} {A : Around} {outer : List Env} {s : Shared} {H : Hp} {E : XK} (T : Txt K mg) (h_fraction : Has P w K mg base "fraction" ["top", "bottom"] 2 FL.sp_low) (hr : Room 2 (cxM P w K mg base ["one", "other"] "over" s_over f cdv A outer s H E).A) :
    PSs (cxM P w K mg base ["one", "other"] "over" s_over f cdv A outer s H E) (defBody s_over) (upS K (wM E) b_over) :=
  (sone (sret (ecall (h_fraction.mono (k := 2) (by decide)) hr tkM (acons (emul (eix (ev 0) eint) (eix (ev 1) eint)) (acons (emul (eix (ev 0) eint) (eix (ev 1) eint)) anil)))))
theorem sc_spot_in : FnScope ["words", "x", "y", "word"] ["words"] (defScope s_spot_in) := ⟨rfl, rfl, rfl, by decide +kernel, rfl, by decide +kernel, by decide +kernel⟩
abbrev b_spot_in : MS := FL.b_spot_in
theorem l_spot_in : ∀ ds S Q E, FL.sp_spot_in ds S Q E → ds.length = ["words"].length := FL.l_spot_in
theorem r_spot_in : ∀ ds S Q E, FL.sp_spot_in ds S Q E → b_spot_in (mends Q E) (mstart 3 ds) S := FL.r_spot_in
theorem d_spot_in {f : Addr} {cdv : Value} {A : Around} {outer : List Env} {s : Shared} {H : Hp} {E : XK} (T : Txt K mg) (h_fraction_in : Has P w K mg base "fraction_in" ["word"] 2 FL.sp_fraction_in) (hr : Room 2 (cxM P w K mg base ["words", "x", "y", "word"] "spot_in" s_spot_in f cdv A outer s H E).A) :
    PSs (cxM P w K mg base ["words", "x", "y", "word"] "spot_in" s_spot_in f cdv A outer s H E) (defBody s_spot_in) (upS K (wM E) b_spot_in) :=
  (scons (sasg (ecompF (own := [("word", 3)]) rfl sc_spot_in.nd (is (ev 0)) (blkOk_by (by first | decide +kernel | kernel_rfl | rfl)) (fun _ _ _ _ _ => (gonm sc_spot_in.nd (i := 3) (by decide))) (fun _ _ _ _ _ => tsNil) (fun _ _ _ _ _ => (ecall (h_fraction_in.mono (k := 2) (by decide)) hr takes0 (acons (ev 3) anil)))) (gls rfl (gcn (gnm (i := 1) sc_spot_in.nd) (gcn (gnm (i := 2) sc_spot_in.nd) gnl))))
    (scons (sif (L2.PW.pt (wor (tcmp op_isN ol_isN (ev 1) enon) (wor1 (tcmp op_isN ol_isN (ev 2) enon)))) (sone (sret enon)) snil)
    (sone (sret (etup (acons (ev 1) (acons (ev 2) anil)))))))
theorem sc_law_made : FnScope ["_law_scale_here", "_law_shuts", "_law_first", "_law_second"] ["_law_scale_here", "_law_shuts"] (defScope s_law_made) := ⟨rfl, rfl, rfl, by decide +kernel, rfl, by decide +kernel, by decide +kernel⟩
abbrev b_law_made : MS := FL.b_made
theorem l_law_made : ∀ ds S Q E, FL.sp_made ds S Q E → ds.length = ["_law_scale_here", "_law_shuts"].length := FL.l_made
theorem r_law_made : ∀ ds S Q E, FL.sp_made ds S Q E → b_law_made (mends Q E) (mstart 2 ds) S := FL.r_made
theorem d_law_made {f : Addr} {cdv : Value} {A : Around} {outer : List Env} {s : Shared} {H : Hp} {E : XK} (T : Txt K mg) (h_law_spot : Has P w K mg base "_law_spot" ["_law_scale_here", "_law_unit"] 2 FL.sp_uspot) (hr : Room 2 (cxM P w K mg base ["_law_scale_here", "_law_shuts", "_law_first", "_law_second"] "_law_made" s_law_made f cdv A outer s H E).A) :
    PSs (cxM P w K mg base ["_law_scale_here", "_law_shuts", "_law_first", "_law_second"] "_law_made" s_law_made f cdv A outer s H E) (defBody s_law_made) (upS K (wM E) b_law_made) :=
  (sone (sret (etyp call_tuple_of cl_tuple T.f_tuple (acons (ecompF (own := [("_law_first", 2), ("_law_second", 3)]) rfl sc_law_made.nd (is (ev 1)) (blkOk_by (by first | decide +kernel | kernel_rfl | rfl)) (fun _ _ _ _ _ => (gotp rfl (gocn (gonm sc_law_made.nd (i := 2) (by decide)) (gocn (gonm sc_law_made.nd (i := 3) (by decide)) gonl)))) (fun _ _ _ _ _ => tsNil) (fun _ _ _ _ _ => (etup (acons (ecall (h_law_spot.mono (k := 2) (by decide)) hr takes0 (acons (ev 0) (acons (ev 2) anil))) (acons (ecall (h_law_spot.mono (k := 2) (by decide)) hr takes0 (acons (ev 0) (acons (ev 3) anil))) anil))))) anil))))
theorem sc_law_fair : FnScope ["_law_one", "_law_other", "_law_shut", "_law_beside", "_law_spot_here", "_law_sides", "_law_others"] ["_law_one", "_law_other"] (defScope s_law_fair) := ⟨rfl, rfl, rfl, by decide +kernel, rfl, by decide +kernel, by decide +kernel⟩
abbrev b_law_fair : MS := FL.b_fair
theorem l_law_fair : ∀ ds S Q E, FL.sp_fair ds S Q E → ds.length = ["_law_one", "_law_other"].length := FL.l_fair
theorem r_law_fair : ∀ ds S Q E, FL.sp_fair ds S Q E → b_law_fair (mends Q E) (mstart 5 ds) S := FL.r_fair
theorem d_law_fair {f : Addr} {cdv : Value} {A : Around} {outer : List Env} {s : Shared} {H : Hp} {E : XK} (T : Txt K mg) (h_law_turn : Has P w K mg base "_law_turn" ["_law_one", "_law_two", "_law_three"] 1 FL.sp_turn) (h_law_on : Has P w K mg base "_law_on" ["_law_shut", "_law_spot_here"] 2 FL.sp_on) (hr : Room 2 (cxM P w K mg base ["_law_one", "_law_other", "_law_shut", "_law_beside", "_law_spot_here", "_law_sides", "_law_others"] "_law_fair" s_law_fair f cdv A outer s H E).A) :
    PSs (cxM P w K mg base ["_law_one", "_law_other", "_law_shut", "_law_beside", "_law_spot_here", "_law_sides", "_law_others"] "_law_fair" s_law_fair f cdv A outer s H E) (defBody s_law_fair) (upS K (wM E) b_law_fair) :=
  (scons (sif (tcmp (op_eqA hr.units) ol_eq (ev 0) (ev 1)) (sone (sret ebl)) snil)
    (scons (sfor poM rfl (is (etup (acons (etup (acons (ev 0) (acons (ev 1) anil))) (acons (etup (acons (ev 1) (acons (ev 0) anil))) anil)))) (gtp rfl (gcn (gnm (i := 2) sc_law_fair.nd) (gcn (gnm (i := 3) sc_law_fair.nd) gnl))) (sone (sfor poM rfl (is (ev 3)) (gnm (i := 4) sc_law_fair.nd) (sone (sif (L2.PW.pt (wand (tcmp (op_notInA (u65 hr)) ol_notIn (ev 4) (ev 2)) (wand1 (ttru (ecall (h_law_on.mono (k := 2) (by decide)) hr tkM (acons (ev 2) (acons (ev 4) anil))))))) (sone (sret ebl)) snil)))))
    (scons (ssetLc (i := 5) (own := [("_law_spot_here", 4)]) rfl sc_law_fair.nd (is (ev 1)) (blkOk_by (by first | decide +kernel | kernel_rfl | rfl)) (fun _ _ _ _ _ => (gonm sc_law_fair.nd (i := 4) (by decide))) (fun _ _ _ _ _ => tsNil) (fun _ _ _ _ _ => (ecall (h_law_turn.mono (k := 2) (by decide)) hr takes0 (acons (eix (ev 0) eint) (acons (eix (ev 0) eint) (acons (ev 4) anil))))))
    (scons (ssetLc (i := 6) (own := [("_law_spot_here", 4)]) rfl sc_law_fair.nd (is (ev 0)) (blkOk_by (by first | decide +kernel | kernel_rfl | rfl)) (fun _ _ _ _ _ => (gonm sc_law_fair.nd (i := 4) (by decide))) (fun _ _ _ _ _ => tsNil) (fun _ _ _ _ _ => (ecall (h_law_turn.mono (k := 2) (by decide)) hr takes0 (acons (eix (ev 1) eint) (acons (eix (ev 1) eint) (acons (ev 4) anil))))))
    (sone (sret (eor (ecmp (oa_ge (u65 hr)) la_ge (emul (eix (ev 5) eint) (eix (ev 5) eint)) eint) (eone (ecmp (oa_ge (u65 hr)) la_ge (emul (eix (ev 6) eint) (eix (ev 6) eint)) eint)))))))))
theorem sc_law_shut_in : FnScope ["_law_line", "_law_words", "_law_found", "_law_word", "_law_one", "_law_two", "_law_three", "_law_four"] ["_law_line"] (defScope s_law_shut_in) := ⟨rfl, rfl, rfl, by decide +kernel, rfl, by decide +kernel, by decide +kernel⟩
def b_law_shut_in : MS := (mSeq (mSet 1 (mTx1 rmSplit (mVar 0) (mC (.str " "))))
  (mSeq (mSet 2 (mComp (iS (mCut (mVar 1) (oSo (mC (.int 1))) oNo)) (gNm 3) mYes (mCall sp_law_fraction (mCons (mVar 3) mNil)) [3]))
  (mSeq (mIfS (mOr (mTst (mOp rNeS (mOp rIxM (mVar 1) (mC (.int 0))) (mC (.str "wall")))) (mOr (mTst (mOp rNeM (mBlt bLen (mCons (mVar 1) mNil)) (mC (.int 5)))) (mTst (mOp (rInM false) (mC .non) (mVar 2))))) (mRet (mC .non)) mNext)
  (mSeq (mAsg (mVar 2) (gLs 4 (gCn (gNm 4) (gCn (gNm 5) (gCn (gNm 6) (gCn (gNm 7) gNl))))))
  (mSeq (mIfS (mTst (mOp rEqM (mVar 4) (mVar 6))) (mPar 4 6 (mCons (mVar 5) (mCons (mVar 7) mNil))) mNext)
  (mSeq (mIfS (mTst (mOp aGe (mOp rMul (mOp rIxM (mVar 4) (mC (.int 0))) (mOp rIxM (mVar 6) (mC (.int 1)))) (mOp rMul (mOp rIxM (mVar 6) (mC (.int 0))) (mOp rIxM (mVar 4) (mC (.int 1)))))) (mRet (mC .non)) mNext)
  (mRet (mTup (mCons (mTup (mCons (mOp rIxM (mVar 2) (mC (.int 0))) (mCons (mOp rIxM (mVar 2) (mC (.int 1))) mNil))) (mCons (mTup (mCons (mOp rIxM (mVar 2) (mC (.int 2))) (mCons (mOp rIxM (mVar 2) (mC (.int 3))) mNil))) mNil))))))))))
theorem d_law_shut_in {f : Addr} {cdv : Value} {A : Around} {outer : List Env} {s : Shared} {H : Hp} {E : XK} (T : Txt K mg) (h_law_fraction : Has P w K mg base "_law_fraction" ["_law_word"] 2 sp_law_fraction) (hr : Room 2 (cxM P w K mg base ["_law_line", "_law_words", "_law_found", "_law_word", "_law_one", "_law_two", "_law_three", "_law_four"] "_law_shut_in" s_law_shut_in f cdv A outer s H E).A) :
    PSs (cxM P w K mg base ["_law_line", "_law_words", "_law_found", "_law_word", "_law_one", "_law_two", "_law_three", "_law_four"] "_law_shut_in" s_law_shut_in f cdv A outer s H E) (defBody s_law_shut_in) (upS K (wM E) b_law_shut_in) :=
  (scons (sset (i := 1) sc_law_shut_in.nd (esplit (ev 0) estr))
    (scons (ssetLc (i := 2) (own := [("_law_word", 3)]) rfl sc_law_shut_in.nd (is (ecut (ev 1) (oso eint) ono)) (blkOk_by (by first | decide +kernel | kernel_rfl | rfl)) (fun _ _ _ _ _ => (gonm sc_law_shut_in.nd (i := 3) (by decide))) (fun _ _ _ _ _ => tsNil) (fun _ _ _ _ _ => (ecall (h_law_fraction.mono (k := 2) (by decide)) hr takes0 (acons (ev 3) anil))))
    (scons (sif (L2.PW.pt (wor (tcmp (op_neA hr.units) ol_neS (eix (ev 1) eint) estr) (wor (tcmp (op_neA hr.units) ol_ne (eblt call_len cl_len T.f_len (acons (ev 1) anil) PySem.boot_len) eint) (wor1 (tcmp (op_inA (u65 hr)) ol_in enon (ev 2)))))) (sone (sret enon)) snil)
    (scons (sasg (ev 2) (gls rfl (gcn (gnm (i := 4) sc_law_shut_in.nd) (gcn (gnm (i := 5) sc_law_shut_in.nd) (gcn (gnm (i := 6) sc_law_shut_in.nd) (gcn (gnm (i := 7) sc_law_shut_in.nd) gnl))))))
    (scons (sif (tcmp (op_eqA hr.units) ol_eq (ev 4) (ev 6)) (sone (spar (i := 4) (j := 6) rfl sc_law_shut_in.nd (acons (ev 5) (acons (ev 7) anil)))) snil)
    (scons (sif (tcmp (oa_ge (u65 hr)) la_ge (emul (eix (ev 4) eint) (eix (ev 6) eint)) (emul (eix (ev 6) eint) (eix (ev 4) eint))) (sone (sret enon)) snil)
    (sone (sret (etup (acons (etup (acons (eix (ev 2) eint) (acons (eix (ev 2) eint) anil))) (acons (etup (acons (eix (ev 2) eint) (acons (eix (ev 2) eint) anil))) anil)))))))))))
theorem sc_along : FnScope ["wall", "first", "second"] ["wall"] (defScope s_along) := ⟨rfl, rfl, rfl, by decide +kernel, rfl, by decide +kernel, by decide +kernel⟩
abbrev b_along : MS := FL.b_along
theorem l_along : ∀ ds S Q E, FL.sp_along ds S Q E → ds.length = ["wall"].length := FL.l_along
theorem r_along : ∀ ds S Q E, FL.sp_along ds S Q E → b_along (mends Q E) (mstart 2 ds) S := FL.r_along
theorem d_along {f : Addr} {cdv : Value} {A : Around} {outer : List Env} {s : Shared} {H : Hp} {E : XK} (T : Txt K mg) (h_less : Has P w K mg base "less" ["one", "other"] 3 FL.sp_less) (hr : Room 3 (cxM P w K mg base ["wall", "first", "second"] "along" s_along f cdv A outer s H E).A) :
    PSs (cxM P w K mg base ["wall", "first", "second"] "along" s_along f cdv A outer s H E) (defBody s_along) (upS K (wM E) b_along) :=
  (scons (sasg (ev 0) (gtp rfl (gcn (gnm (i := 1) sc_along.nd) (gcn (gnm (i := 2) sc_along.nd) gnl))))
    (sone (sret (etup (acons (ecall (h_less.mono (k := 3) (by decide)) hr tkM (acons (eix (ev 2) eint) (acons (eix (ev 1) eint) anil))) (acons (ecall (h_less.mono (k := 3) (by decide)) hr tkM (acons (eix (ev 2) eint) (acons (eix (ev 1) eint) anil))) anil))))))
theorem sc_crossed : FnScope ["one", "other"] ["one", "other"] (defScope s_crossed) := ⟨rfl, rfl, rfl, by decide +kernel, rfl, by decide +kernel, by decide +kernel⟩
def b_crossed : MS := (mRet (mCall FL.sp_less (mCons (mCall FL.sp_times (mCons (mOp rIxM (mVar 0) (mC (.int 0))) (mCons (mOp rIxM (mVar 1) (mC (.int 1))) mNil))) (mCons (mCall FL.sp_times (mCons (mOp rIxM (mVar 0) (mC (.int 1))) (mCons (mOp rIxM (mVar 1) (mC (.int 0))) mNil))) mNil))))
theorem d_crossed {f : Addr} {cdv : Value} {A : Around} {outer : List Env} {s : Shared} {H : Hp} {E : XK} (T : Txt K mg) (h_less : Has P w K mg base "less" ["one", "other"] 3 FL.sp_less) (h_times : Has P w K mg base "times" ["one", "other"] 3 FL.sp_times) (hr : Room 3 (cxM P w K mg base ["one", "other"] "crossed" s_crossed f cdv A outer s H E).A) :
    PSs (cxM P w K mg base ["one", "other"] "crossed" s_crossed f cdv A outer s H E) (defBody s_crossed) (upS K (wM E) b_crossed) :=
  (sone (sret (ecall (h_less.mono (k := 3) (by decide)) hr tkM (acons (ecall (h_times.mono (k := 3) (by decide)) hr tkM (acons (eix (ev 0) eint) (acons (eix (ev 1) eint) anil))) (acons (ecall (h_times.mono (k := 3) (by decide)) hr tkM (acons (eix (ev 0) eint) (acons (eix (ev 1) eint) anil))) anil)))))
theorem sc_wall_in : FnScope ["words", "first", "second"] ["words"] (defScope s_wall_in) := ⟨rfl, rfl, rfl, by decide +kernel, rfl, by decide +kernel, by decide +kernel⟩
abbrev b_wall_in : MS := FL.b_wall_in
theorem l_wall_in : ∀ ds S Q E, FL.sp_wall_in ds S Q E → ds.length = ["words"].length := FL.l_wall_in
theorem r_wall_in : ∀ ds S Q E, FL.sp_wall_in ds S Q E → b_wall_in (mends Q E) (mstart 2 ds) S := FL.r_wall_in
theorem d_wall_in {f : Addr} {cdv : Value} {A : Around} {outer : List Env} {s : Shared} {H : Hp} {E : XK} (T : Txt K mg) (h_is_ahead : Has P w K mg base "is_ahead" ["one", "other"] 2 FL.sp_is_ahead) (h_spot_in : Has P w K mg base "spot_in" ["words"] 3 FL.sp_spot_in) (hr : Room 3 (cxM P w K mg base ["words", "first", "second"] "wall_in" s_wall_in f cdv A outer s H E).A) :
    PSs (cxM P w K mg base ["words", "first", "second"] "wall_in" s_wall_in f cdv A outer s H E) (defBody s_wall_in) (upS K (wM E) b_wall_in) :=
  (scons (sif (L2.PW.pt (wor (tcmp (op_neA hr.units) ol_ne (eblt call_len cl_len T.f_len (acons (ev 0) anil) PySem.boot_len) eint) (wor1 (tcmp (op_neA hr.units) ol_neS (eix (ev 0) eint) estr)))) (sone (sret enon)) snil)
    (scons (sset (i := 1) sc_wall_in.nd (ecall (h_spot_in.mono (k := 3) (by decide)) hr tkM (acons (ecut (ev 0) (oso eint) (oso eint)) anil)))
    (scons (sset (i := 2) sc_wall_in.nd (ecall (h_spot_in.mono (k := 3) (by decide)) hr tkM (acons (ecut (ev 0) (oso eint) (oso eint)) anil)))
    (scons (sif (L2.PW.pt (wor (tcmp op_isN ol_isN (ev 1) enon) (wor (tcmp op_isN ol_isN (ev 2) enon) (wor1 (tnot (ttru (ecall (h_is_ahead.mono (k := 3) (by decide)) hr tkM (acons (ev 1) (acons (ev 2) anil))))))))) (sone (sret enon)) snil)
    (sone (sret (etup (acons (ev 1) (acons (ev 2) anil)))))))))
theorem sc_question_in : FnScope ["words"] ["words"] (defScope s_question_in) := ⟨rfl, rfl, rfl, by decide +kernel, rfl, by decide +kernel, by decide +kernel⟩
abbrev b_question_in : MS := FL.b_question_in
theorem l_question_in : ∀ ds S Q E, FL.sp_question_in ds S Q E → ds.length = ["words"].length := FL.l_question_in
theorem r_question_in : ∀ ds S Q E, FL.sp_question_in ds S Q E → b_question_in (mends Q E) (mstart 0 ds) S := FL.r_question_in
theorem d_question_in {f : Addr} {cdv : Value} {A : Around} {outer : List Env} {s : Shared} {H : Hp} {E : XK} (T : Txt K mg) (h_spot_in : Has P w K mg base "spot_in" ["words"] 3 FL.sp_spot_in) (hr : Room 3 (cxM P w K mg base ["words"] "question_in" s_question_in f cdv A outer s H E).A) :
    PSs (cxM P w K mg base ["words"] "question_in" s_question_in f cdv A outer s H E) (defBody s_question_in) (upS K (wM E) b_question_in) :=
  (scons (sif (L2.PW.pt (wor (tcmp (op_neA hr.units) ol_ne (eblt call_len cl_len T.f_len (acons (ev 0) anil) PySem.boot_len) eint) (wor1 (tcmp (op_neA hr.units) ol_neS (eix (ev 0) eint) estr)))) (sone (sret enon)) snil)
    (sone (sret (ecall (h_spot_in.mono (k := 3) (by decide)) hr tkM (acons (ecut (ev 0) (oso eint) (oso eint)) anil)))))
theorem sc_law_shuts_here : FnScope ["_law_row", "_law_most", "_law_size", "_law_shuts", "_law_turn_here", "_law_one", "_law_other", "_law_shut", "_law_beside"] ["_law_row", "_law_most", "_law_size"] (defScope s_law_shuts_here) := ⟨rfl, rfl, rfl, by decide +kernel, rfl, by decide +kernel, by decide +kernel⟩
abbrev b_law_shuts_here : MS := FL.b_shuts_here
theorem l_law_shuts_here : ∀ ds S Q E, FL.sp_shuts_here ds S Q E → ds.length = ["_law_row", "_law_most", "_law_size"].length := FL.l_shuts_here
theorem r_law_shuts_here : ∀ ds S Q E, FL.sp_shuts_here ds S Q E → b_law_shuts_here (mends Q E) (mstart 6 ds) S := FL.r_shuts_here
theorem d_law_shuts_here {f : Addr} {cdv : Value} {A : Around} {outer : List Env} {s : Shared} {H : Hp} {E : XK} (T : Txt K mg) (h_law_take : Has P w K mg base "_law_take" ["_law_row", "_law_base"] 1 FL.sp_take) (h_law_fair : Has P w K mg base "_law_fair" ["_law_one", "_law_other"] 3 FL.sp_fair) (hr : Room 3 (cxM P w K mg base ["_law_row", "_law_most", "_law_size", "_law_shuts", "_law_turn_here", "_law_one", "_law_other", "_law_shut", "_law_beside"] "_law_shuts_here" s_law_shuts_here f cdv A outer s H E).A) :
    PSs (cxM P w K mg base ["_law_row", "_law_most", "_law_size", "_law_shuts", "_law_turn_here", "_law_one", "_law_other", "_law_shut", "_law_beside"] "_law_shuts_here" s_law_shuts_here f cdv A outer s H E) (defBody s_law_shuts_here) (upS K (wM E) b_law_shuts_here) :=
  (scons (sset (i := 3) sc_law_shuts_here.nd (elst anil))
    (scons (sfor poM rfl (ir1 T.f_range (acons (ecall (h_law_take.mono (k := 3) (by decide)) hr tkM (acons (ev 0) (acons (eadd (ev 1) eint) anil))) anil)) (gnm (i := 4) sc_law_shuts_here.nd) (scons (sset (i := 5) sc_law_shuts_here.nd (etup (acons (ecall (h_law_take.mono (k := 3) (by decide)) hr tkM (acons (ev 0) (acons (ev 2) anil))) (acons (ecall (h_law_take.mono (k := 3) (by decide)) hr tkM (acons (ev 0) (acons (ev 2) anil))) anil))))
    (scons (sset (i := 6) sc_law_shuts_here.nd (etup (acons (ecall (h_law_take.mono (k := 3) (by decide)) hr tkM (acons (ev 0) (acons (ev 2) anil))) (acons (ecall (h_law_take.mono (k := 3) (by decide)) hr tkM (acons (ev 0) (acons (ev 2) anil))) anil))))
    (scons (sifJ (L2.PW.pt (wand (tcmp (op_neA hr.units) ol_ne (ev 3) (elstF anil)) (wand1 (tcmp (oa_gt (u65 hr)) la_gt (ecall (h_law_take.mono (k := 3) (by decide)) hr tkM (acons (ev 0) (acons eint anil))) eint)))) (sone (sset (i := 5) sc_law_shuts_here.nd (eix (eix (ev 3) (ecall (h_law_take.mono (k := 3) (by decide)) hr tkM (acons (ev 0) (acons (eblt call_len cl_len T.f_len (acons (ev 3) anil) PySem.boot_len) anil)))) (ecall (h_law_take.mono (k := 3) (by decide)) hr tkM (acons (ev 0) (acons eint anil)))))) snil)
    (scons (sset (i := 7) sc_law_shuts_here.nd (etup (acons (eblt (ca_min rfl (u65 hr)) cl_minA T.f_min (acons (ev 5) (acons (ev 6) anil))) (acons (eblt (ca_max rfl (u65 hr)) cl_maxA T.f_max (acons (ev 5) (acons (ev 6) anil))) anil))))
    (sone (sifJ (L2.PW.pt (wand (tcmp (op_neA hr.units) ol_ne (ev 5) (ev 6)) (wand1 (ttru (eblt (cr_all rfl) cl_all T.f_all (acons (ecompF (own := [("_law_beside", 8)]) rfl sc_law_shuts_here.nd (is (ev 3)) (blkOk_by (by first | decide +kernel | kernel_rfl | rfl)) (fun _ _ _ _ _ => (gonm sc_law_shuts_here.nd (i := 8) (by decide))) (fun _ _ _ _ _ => tsNil) (fun _ _ _ _ _ => (ecall (h_law_fair.mono (k := 3) (by decide)) hr takes0 (acons (ev 7) (acons (ev 8) anil))))) anil)))))) (sone (sexpr (emt PySem.F.slot_list_append PySem.F.type_list_append mt_append ml_append (ev 3) (acons (ev 7) anil)))) snil)))))))
    (sone (sret (ev 3)))))
theorem sc_law_odd : FnScope ["_law_row", "_law_lines", "_law_found", "_law_shut", "_law_line", "_law_first", "_law_second", "_law_far", "_law_at"] ["_law_row", "_law_lines"] (defScope s_law_odd) := ⟨rfl, rfl, rfl, by decide +kernel, rfl, by decide +kernel, by decide +kernel⟩
def b_law_odd : MS := (mSeq (mSet 2 (mComp (iS (mCompF (iS (mVar 1)) (gNm 4) mYes (mCall sp_law_shut_in (mCons (mVar 4) mNil)) [4])) (gNm 3) (mTst (mOp rNotN (mVar 3) (mC .non))) (mVar 3) [3]))
  (mSeq (mIfS (mOr (mTst (mOp rEqM (mVar 2) (mLstF mNil))) (mTst (mOp aGt (mCall FL.sp_take (mCons (mVar 0) (mCons (mC (.int 3)) mNil))) (mC (.int 0))))) (mRet (mCall sp_law_bent (mCons (mVar 0) (mCons (mVar 1) mNil)))) mNext)
  (mSeq (mAsg (mOp rIxM (mVar 2) (mCall FL.sp_take (mCons (mVar 0) (mCons (mBlt bLen (mCons (mVar 2) mNil)) mNil)))) (gTp 2 (gCn (gNm 5) (gCn (gNm 6) gNl))))
  (mSeq (mSet 7 (mTup (mCons (mCall sp_law_beyond (mCons (mOp rIxM (mVar 5) (mC (.int 0))) (mCons (mOp rIxM (mVar 6) (mC (.int 0))) mNil))) (mCons (mCall sp_law_beyond (mCons (mOp rIxM (mVar 5) (mC (.int 1))) (mCons (mOp rIxM (mVar 6) (mC (.int 1))) mNil))) mNil))))
  (mSeq (mSet 8 (mCall FL.sp_take (mCons (mVar 0) (mCons (mOp rAdd (mBlt bLen (mCons (mVar 1) mNil)) (mC (.int 1))) mNil))))
  (mRet (mOp rAdd (mOp rAdd (mCut (mVar 1) oNo (oSo (mVar 8))) (mCall sp_law_rows (mCons (mLstF (mCons (mTup (mCons (mVar 5) (mCons (mVar 7) mNil))) mNil)) mNil))) (mCut (mVar 1) (oSo (mVar 8)) oNo))))))))
theorem d_law_odd {f : Addr} {cdv : Value} {A : Around} {outer : List Env} {s : Shared} {H : Hp} {E : XK} (T : Txt K mg) (h_law_rows : Has P w K mg base "_law_rows" ["_law_plot"] 2 sp_law_rows) (h_law_take : Has P w K mg base "_law_take" ["_law_row", "_law_base"] 1 FL.sp_take) (h_law_beyond : Has P w K mg base "_law_beyond" ["_law_one", "_law_other"] 2 sp_law_beyond) (h_law_bent : Has P w K mg base "_law_bent" ["_law_row", "_law_lines"] 2 sp_law_bent) (h_law_shut_in : Has P w K mg base "_law_shut_in" ["_law_line"] 3 sp_law_shut_in) (hr : Room 3 (cxM P w K mg base ["_law_row", "_law_lines", "_law_found", "_law_shut", "_law_line", "_law_first", "_law_second", "_law_far", "_law_at"] "_law_odd" s_law_odd f cdv A outer s H E).A) :
    PSs (cxM P w K mg base ["_law_row", "_law_lines", "_law_found", "_law_shut", "_law_line", "_law_first", "_law_second", "_law_far", "_law_at"] "_law_odd" s_law_odd f cdv A outer s H E) (defBody s_law_odd) (upS K (wM E) b_law_odd) :=
  (scons (ssetLc (i := 2) (own := [("_law_shut", 3)]) rfl sc_law_odd.nd (is (ecompF (own := [("_law_line", 4)]) rfl sc_law_odd.nd (is (ev 1)) (blkOk_by (by first | decide +kernel | kernel_rfl | rfl)) (fun _ _ _ _ _ => (gonm sc_law_odd.nd (i := 4) (by decide))) (fun _ _ _ _ _ => tsNil) (fun _ _ _ _ _ => (ecall (h_law_shut_in.mono (k := 3) (by decide)) hr takes0 (acons (ev 4) anil))))) (blkOk_by (by first | decide +kernel | kernel_rfl | rfl)) (fun _ _ _ _ _ => (gonm sc_law_odd.nd (i := 3) (by decide))) (fun _ _ _ _ _ => (pts_one (tcmp op_notN ol_notN (ev 3) enon))) (fun _ _ _ _ _ => (ev 3)))
    (scons (sif (L2.PW.pt (wor (tcmp (op_eqA hr.units) ol_eq (ev 2) (elstF anil)) (wor1 (tcmp (oa_gt (u65 hr)) la_gt (ecall (h_law_take.mono (k := 3) (by decide)) hr tkM (acons (ev 0) (acons eint anil))) eint)))) (sone (sret (ecall (h_law_bent.mono (k := 3) (by decide)) hr tkM (acons (ev 0) (acons (ev 1) anil))))) snil)
    (scons (sasg (eix (ev 2) (ecall (h_law_take.mono (k := 3) (by decide)) hr tkM (acons (ev 0) (acons (eblt call_len cl_len T.f_len (acons (ev 2) anil) PySem.boot_len) anil)))) (gtp rfl (gcn (gnm (i := 5) sc_law_odd.nd) (gcn (gnm (i := 6) sc_law_odd.nd) gnl))))
    (scons (sset (i := 7) sc_law_odd.nd (etup (acons (ecall (h_law_beyond.mono (k := 3) (by decide)) hr tkM (acons (eix (ev 5) eint) (acons (eix (ev 6) eint) anil))) (acons (ecall (h_law_beyond.mono (k := 3) (by decide)) hr tkM (acons (eix (ev 5) eint) (acons (eix (ev 6) eint) anil))) anil))))
    (scons (sset (i := 8) sc_law_odd.nd (ecall (h_law_take.mono (k := 3) (by decide)) hr tkM (acons (ev 0) (acons (eadd (eblt call_len cl_len T.f_len (acons (ev 1) anil) PySem.boot_len) eint) anil))))
    (sone (sret (eadd (eadd (ecut (ev 1) ono (oso (ev 8))) (ecall (h_law_rows.mono (k := 3) (by decide)) hr tkM (acons (elstF (acons (etup (acons (ev 5) (acons (ev 7) anil))) anil)) anil))) (ecut (ev 1) (oso (ev 8)) ono)))))))))
theorem sc_law_due : FnScope ["_law_asks", "_law_lines", "_law_shuts", "_law_spots", "_law_number_here", "_law_line", "_law_words", "_law_shut", "_law_spot_here", "_law_word", "_law_other"] ["_law_asks", "_law_lines"] (defScope s_law_due) := ⟨rfl, rfl, rfl, by decide +kernel, rfl, by decide +kernel, by decide +kernel⟩
def b_law_due : MS := (mSeq (mSet 2 (mLst mNil))
  (mSeq (mSet 3 (mLst mNil))
  (mSeq (mFor (iEn (mCons (mVar 1) mNil)) (gTp 2 (gCn (gNm 4) (gCn (gNm 5) gNl))) (mSeq (mSet 6 (mTx1 rmSplit (mVar 5) (mC (.str " "))))
  (mSeq (mSet 7 (mCall sp_law_shut_in (mCons (mVar 5) mNil)))
  (mSeq (mSet 8 (mComp (iS (mCut (mVar 6) (oSo (mC (.int 1))) oNo)) (gNm 9) mYes (mCall sp_law_fraction (mCons (mVar 9) mNil)) [9]))
  (mIfS (mAnd (mTst (mOp rEqM (mVar 0) (mC (.int 1)))) (mAnd (mTst (mOp rEqS (mOp rIxM (mVar 6) (mC (.int 0))) (mC (.str "ask")))) (mAnd (mTst (mOp rEqM (mBlt bLen (mCons (mVar 8) mNil)) (mC (.int 2)))) (mTst (mOp (rInM true) (mC .non) (mVar 8)))))) (mExpr (mMt mtAppend (mVar 3) (mCons (mBlt bTuple (mCons (mVar 8) mNil)) mNil))) (mIfS (mOr (mTst (mOp rIsN (mVar 7) (mC .non))) (mOr (mTst (mOp rNeM (mVar 3) (mLstF mNil))) (mTst (mOp rEqM (mBlt bLen (mCons (mVar 2) mNil)) (mC (.int 40)))))) (mRet (mTup (mCons (mC (.str "no text")) (mCons (mVar 4) mNil)))) (mIfS (mNot (mTru (mBlt bAll (mCons (mCompF (iS (mVar 2)) (gNm 10) mYes (mCall sp_law_fits (mCons (mVar 7) (mCons (mVar 10) mNil))) [10]) mNil)))) (mRet (mTup (mCons (mC (.str "no text")) (mCons (mVar 4) mNil)))) (mExpr (mMt mtAppend (mVar 2) (mCons (mVar 7) mNil))))))))))
  (mRet (mTup (mCons (mC (.str "told")) (mCons (mOp rIxM (mLstF (mCons (mBlt bTuple (mCons (mVar 2) mNil)) (mCons (mTup (mCons (mBlt bTuple (mCons (mVar 2) mNil)) (mCons (mVar 3) mNil))) mNil))) (mVar 0)) mNil)))))))
theorem d_law_due {f : Addr} {cdv : Value} {A : Around} {outer : List Env} {s : Shared} {H : Hp} {E : XK} (T : Txt K mg) (h_law_fits : Has P w K mg base "_law_fits" ["_law_one", "_law_other"] 2 sp_law_fits) (h_law_fraction : Has P w K mg base "_law_fraction" ["_law_word"] 2 sp_law_fraction) (h_law_shut_in : Has P w K mg base "_law_shut_in" ["_law_line"] 3 sp_law_shut_in) (hr : Room 3 (cxM P w K mg base ["_law_asks", "_law_lines", "_law_shuts", "_law_spots", "_law_number_here", "_law_line", "_law_words", "_law_shut", "_law_spot_here", "_law_word", "_law_other"] "_law_due" s_law_due f cdv A outer s H E).A) :
    PSs (cxM P w K mg base ["_law_asks", "_law_lines", "_law_shuts", "_law_spots", "_law_number_here", "_law_line", "_law_words", "_law_shut", "_law_spot_here", "_law_word", "_law_other"] "_law_due" s_law_due f cdv A outer s H E) (defBody s_law_due) (upS K (wM E) b_law_due) :=
  (scons (sset (i := 2) sc_law_due.nd (elst anil))
    (scons (sset (i := 3) sc_law_due.nd (elst anil))
    (scons (sfor poM rfl (ien T.f_enumerate (acons (ev 1) anil)) (gtp rfl (gcn (gnm (i := 4) sc_law_due.nd) (gcn (gnm (i := 5) sc_law_due.nd) gnl))) (scons (sset (i := 6) sc_law_due.nd (esplit (ev 5) estr))
    (scons (sset (i := 7) sc_law_due.nd (ecall (h_law_shut_in.mono (k := 3) (by decide)) hr tkM (acons (ev 5) anil)))
    (scons (ssetLc (i := 8) (own := [("_law_word", 9)]) rfl sc_law_due.nd (is (ecut (ev 6) (oso eint) ono)) (blkOk_by (by first | decide +kernel | kernel_rfl | rfl)) (fun _ _ _ _ _ => (gonm sc_law_due.nd (i := 9) (by decide))) (fun _ _ _ _ _ => tsNil) (fun _ _ _ _ _ => (ecall (h_law_fraction.mono (k := 3) (by decide)) hr takes0 (acons (ev 9) anil))))
    (sone (sif (L2.PW.pt (wand (tcmp (op_eqA hr.units) ol_eq (ev 0) eint) (wand (tcmp (op_eqA hr.units) ol_eqS (eix (ev 6) eint) estr) (wand (tcmp (op_eqA hr.units) ol_eq (eblt call_len cl_len T.f_len (acons (ev 8) anil) PySem.boot_len) eint) (wand1 (tcmp (op_notInA (u65 hr)) ol_notIn enon (ev 8))))))) (sone (sexpr (emt PySem.F.slot_list_append PySem.F.type_list_append mt_append ml_append (ev 3) (acons (etyp call_tuple_of cl_tuple T.f_tuple (acons (ev 8) anil)) anil)))) (sone (sif (L2.PW.pt (wor (tcmp op_isN ol_isN (ev 7) enon) (wor (tcmp (op_neA hr.units) ol_ne (ev 3) (elstF anil)) (wor1 (tcmp (op_eqA hr.units) ol_eq (eblt call_len cl_len T.f_len (acons (ev 2) anil) PySem.boot_len) eint))))) (sone (sret (etup (acons estr (acons (ev 4) anil))))) (sone (sif (tnot (ttru (eblt (cr_all rfl) cl_all T.f_all (acons (ecompF (own := [("_law_other", 10)]) rfl sc_law_due.nd (is (ev 2)) (blkOk_by (by first | decide +kernel | kernel_rfl | rfl)) (fun _ _ _ _ _ => (gonm sc_law_due.nd (i := 10) (by decide))) (fun _ _ _ _ _ => tsNil) (fun _ _ _ _ _ => (ecall (h_law_fits.mono (k := 3) (by decide)) hr takes0 (acons (ev 7) (acons (ev 10) anil))))) anil)))) (sone (sret (etup (acons estr (acons (ev 4) anil))))) (sone (sexpr (emt PySem.F.slot_list_append PySem.F.type_list_append mt_append ml_append (ev 2) (acons (ev 7) anil))))))))))))))
    (sone (sret (etup (acons estr (acons (eix (elstF (acons (etyp call_tuple_of cl_tuple T.f_tuple (acons (ev 2) anil)) (acons (etup (acons (etyp call_tuple_of cl_tuple T.f_tuple (acons (ev 2) anil)) (acons (ev 3) anil))) anil))) (ev 0)) anil))))))))
theorem sc_leaning : FnScope ["one", "other", "found"] ["one", "other"] (defScope s_leaning) := ⟨rfl, rfl, rfl, by decide +kernel, rfl, by decide +kernel, by decide +kernel⟩
def b_leaning : MS := (mSeq (mSet 2 (mCall FL.sp_wcrossed (mCons (mVar 0) (mCons (mVar 1) mNil))))
  (mRet (mOp rSub (mBlt bInt (mCons (mOp aGt (mOp rIxM (mVar 2) (mC (.int 0))) (mC (.int 0))) mNil)) (mBlt bInt (mCons (mOp aLt (mOp rIxM (mVar 2) (mC (.int 0))) (mC (.int 0))) mNil)))))
theorem d_leaning {f : Addr} {cdv : Value} {A : Around} {outer : List Env} {s : Shared} {H : Hp} {E : XK} (T : Txt K mg) (h_crossed : Has P w K mg base "crossed" ["one", "other"] 4 FL.sp_wcrossed) (hr : Room 4 (cxM P w K mg base ["one", "other", "found"] "leaning" s_leaning f cdv A outer s H E).A) :
    PSs (cxM P w K mg base ["one", "other", "found"] "leaning" s_leaning f cdv A outer s H E) (defBody s_leaning) (upS K (wM E) b_leaning) :=
  (scons (sset (i := 2) sc_leaning.nd (ecall (h_crossed.mono (k := 4) (by decide)) hr tkM (acons (ev 0) (acons (ev 1) anil))))
    (sone (sret (esub (etyp call_int1 cl_int T.f_int (acons (ecmp (oa_gt (u65 hr)) la_gt (eix (ev 2) eint) eint) anil)) (etyp call_int1 cl_int T.f_int (acons (ecmp (oa_lt (u65 hr)) la_lt (eix (ev 2) eint) eint) anil))))))
theorem sc_spot_of_lines : FnScope ["one", "other", "far", "part"] ["one", "other"] (defScope s_spot_of_lines) := ⟨rfl, rfl, rfl, by decide +kernel, rfl, by decide +kernel, by decide +kernel⟩
def b_spot_of_lines : MS := (mSeq (mSet 2 (mCall FL.sp_along (mCons (mVar 0) mNil)))
  (mSeq (mSet 3 (mCall FL.sp_over (mCons (mCall FL.sp_wcrossed (mCons (mCall FL.sp_along (mCons (mTup (mCons (mOp rIxM (mVar 0) (mC (.int 0))) (mCons (mOp rIxM (mVar 1) (mC (.int 0))) mNil))) mNil)) (mCons (mCall FL.sp_along (mCons (mVar 1) mNil)) mNil))) (mCons (mCall FL.sp_wcrossed (mCons (mVar 2) (mCons (mCall FL.sp_along (mCons (mVar 1) mNil)) mNil))) mNil))))
  (mRet (mTup (mCons (mCall FL.sp_plus (mCons (mOp rIxM (mOp rIxM (mVar 0) (mC (.int 0))) (mC (.int 0))) (mCons (mCall FL.sp_times (mCons (mVar 3) (mCons (mOp rIxM (mVar 2) (mC (.int 0))) mNil))) mNil))) (mCons (mCall FL.sp_plus (mCons (mOp rIxM (mOp rIxM (mVar 0) (mC (.int 0))) (mC (.int 1))) (mCons (mCall FL.sp_times (mCons (mVar 3) (mCons (mOp rIxM (mVar 2) (mC (.int 1))) mNil))) mNil))) mNil))))))
theorem d_spot_of_lines {f : Addr} {cdv : Value} {A : Around} {outer : List Env} {s : Shared} {H : Hp} {E : XK} (T : Txt K mg) (h_plus : Has P w K mg base "plus" ["one", "other"] 3 FL.sp_plus) (h_times : Has P w K mg base "times" ["one", "other"] 3 FL.sp_times) (h_over : Has P w K mg base "over" ["one", "other"] 3 FL.sp_over) (h_crossed : Has P w K mg base "crossed" ["one", "other"] 4 FL.sp_wcrossed) (h_along : Has P w K mg base "along" ["wall"] 4 FL.sp_along) (hr : Room 4 (cxM P w K mg base ["one", "other", "far", "part"] "spot_of_lines" s_spot_of_lines f cdv A outer s H E).A) :
    PSs (cxM P w K mg base ["one", "other", "far", "part"] "spot_of_lines" s_spot_of_lines f cdv A outer s H E) (defBody s_spot_of_lines) (upS K (wM E) b_spot_of_lines) :=
  (scons (sset (i := 2) sc_spot_of_lines.nd (ecall (h_along.mono (k := 4) (by decide)) hr tkM (acons (ev 0) anil)))
    (scons (sset (i := 3) sc_spot_of_lines.nd (ecall (h_over.mono (k := 4) (by decide)) hr tkM (acons (ecall (h_crossed.mono (k := 4) (by decide)) hr tkM (acons (ecall (h_along.mono (k := 4) (by decide)) hr tkM (acons (etup (acons (eix (ev 0) eint) (acons (eix (ev 1) eint) anil))) anil)) (acons (ecall (h_along.mono (k := 4) (by decide)) hr tkM (acons (ev 1) anil)) anil))) (acons (ecall (h_crossed.mono (k := 4) (by decide)) hr tkM (acons (ev 2) (acons (ecall (h_along.mono (k := 4) (by decide)) hr tkM (acons (ev 1) anil)) anil))) anil))))
    (sone (sret (etup (acons (ecall (h_plus.mono (k := 4) (by decide)) hr tkM (acons (eix (eix (ev 0) eint) eint) (acons (ecall (h_times.mono (k := 4) (by decide)) hr tkM (acons (ev 3) (acons (eix (ev 2) eint) anil))) anil))) (acons (ecall (h_plus.mono (k := 4) (by decide)) hr tkM (acons (eix (eix (ev 0) eint) eint) (acons (ecall (h_times.mono (k := 4) (by decide)) hr tkM (acons (ev 3) (acons (eix (ev 2) eint) anil))) anil))) anil)))))))
theorem sc_side_of : FnScope ["wall", "spot"] ["wall", "spot"] (defScope s_side_of) := ⟨rfl, rfl, rfl, by decide +kernel, rfl, by decide +kernel, by decide +kernel⟩
def b_side_of : MS := (mRet (mCall FL.sp_wleaning (mCons (mCall FL.sp_along (mCons (mVar 0) mNil)) (mCons (mCall FL.sp_along (mCons (mTup (mCons (mOp rIxM (mVar 0) (mC (.int 0))) (mCons (mVar 1) mNil))) mNil)) mNil))))
theorem d_side_of {f : Addr} {cdv : Value} {A : Around} {outer : List Env} {s : Shared} {H : Hp} {E : XK} (T : Txt K mg) (h_leaning : Has P w K mg base "leaning" ["one", "other"] 5 FL.sp_wleaning) (h_along : Has P w K mg base "along" ["wall"] 4 FL.sp_along) (hr : Room 5 (cxM P w K mg base ["wall", "spot"] "side_of" s_side_of f cdv A outer s H E).A) :
    PSs (cxM P w K mg base ["wall", "spot"] "side_of" s_side_of f cdv A outer s H E) (defBody s_side_of) (upS K (wM E) b_side_of) :=
  (sone (sret (ecall (h_leaning.mono (k := 5) (by decide)) hr tkM (acons (ecall (h_along.mono (k := 5) (by decide)) hr tkM (acons (ev 0) anil)) (acons (ecall (h_along.mono (k := 5) (by decide)) hr tkM (acons (etup (acons (eix (ev 0) eint) (acons (ev 1) anil))) anil)) anil)))))
theorem sc_lies_on : FnScope ["wall", "spot", "first", "second"] ["wall", "spot"] (defScope s_lies_on) := ⟨rfl, rfl, rfl, by decide +kernel, rfl, by decide +kernel, by decide +kernel⟩
def b_lies_on : MS := (mSeq (mAsg (mVar 0) (gTp 2 (gCn (gNm 2) (gCn (gNm 3) gNl))))
  (mSeq (mIfS (mOr (mTru (mCall FL.sp_is_ahead (mCons (mVar 1) (mCons (mVar 2) mNil)))) (mTru (mCall FL.sp_is_ahead (mCons (mVar 3) (mCons (mVar 1) mNil))))) (mRet (mC (.bl false))) mNext)
  (mRet (mOp rEqM (mCall FL.sp_wside_of (mCons (mVar 0) (mCons (mVar 1) mNil))) (mC (.int 0))))))
theorem d_lies_on {f : Addr} {cdv : Value} {A : Around} {outer : List Env} {s : Shared} {H : Hp} {E : XK} (T : Txt K mg) (h_side_of : Has P w K mg base "side_of" ["wall", "spot"] 6 FL.sp_wside_of) (h_is_ahead : Has P w K mg base "is_ahead" ["one", "other"] 2 FL.sp_is_ahead) (hr : Room 6 (cxM P w K mg base ["wall", "spot", "first", "second"] "lies_on" s_lies_on f cdv A outer s H E).A) :
    PSs (cxM P w K mg base ["wall", "spot", "first", "second"] "lies_on" s_lies_on f cdv A outer s H E) (defBody s_lies_on) (upS K (wM E) b_lies_on) :=
  (scons (sasg (ev 0) (gtp rfl (gcn (gnm (i := 2) sc_lies_on.nd) (gcn (gnm (i := 3) sc_lies_on.nd) gnl))))
    (scons (sif (L2.PW.pt (wor (ttru (ecall (h_is_ahead.mono (k := 6) (by decide)) hr tkM (acons (ev 1) (acons (ev 2) anil)))) (wor1 (ttru (ecall (h_is_ahead.mono (k := 6) (by decide)) hr tkM (acons (ev 3) (acons (ev 1) anil))))))) (sone (sret ebl)) snil)
    (sone (sret (ecmp (op_eqA hr.units) ol_eq (ecall (h_side_of.mono (k := 6) (by decide)) hr tkM (acons (ev 0) (acons (ev 1) anil))) eint)))))
theorem sc_meeting_in_line : FnScope ["one", "other", "first", "second"] ["one", "other"] (defScope s_meeting_in_line) := ⟨rfl, rfl, rfl, by decide +kernel, rfl, by decide +kernel, by decide +kernel⟩
def b_meeting_in_line : MS := (mSeq (mIfS (mTst (mOp rNeM (mCall FL.sp_wside_of (mCons (mVar 0) (mCons (mOp rIxM (mVar 1) (mC (.int 0))) mNil))) (mC (.int 0)))) (mRet (mC .non)) mNext)
  (mSeq (mSet 2 (mOp rIxM (mVar 0) (mC (.int 0))))
  (mSeq (mIfJ (mTru (mCall FL.sp_is_ahead (mCons (mVar 2) (mCons (mOp rIxM (mVar 1) (mC (.int 0))) mNil)))) (mSet 2 (mOp rIxM (mVar 1) (mC (.int 0)))) mNext)
  (mSeq (mSet 3 (mOp rIxM (mVar 0) (mC (.int 1))))
  (mSeq (mIfJ (mTru (mCall FL.sp_is_ahead (mCons (mOp rIxM (mVar 1) (mC (.int 1))) (mCons (mVar 3) mNil)))) (mSet 3 (mOp rIxM (mVar 1) (mC (.int 1)))) mNext)
  (mSeq (mIfS (mTst (mOp rEqM (mVar 2) (mVar 3))) (mRet (mTup (mCons (mC (.str "spot")) (mCons (mVar 2) mNil)))) mNext)
  (mSeq (mIfS (mTru (mCall FL.sp_is_ahead (mCons (mVar 2) (mCons (mVar 3) mNil)))) (mRet (mTup (mCons (mC (.str "stretch")) (mCons (mTup (mCons (mVar 2) (mCons (mVar 3) mNil))) mNil)))) mNext)
  (mRet (mC .non)))))))))
theorem d_meeting_in_line {f : Addr} {cdv : Value} {A : Around} {outer : List Env} {s : Shared} {H : Hp} {E : XK} (T : Txt K mg) (h_is_ahead : Has P w K mg base "is_ahead" ["one", "other"] 2 FL.sp_is_ahead) (h_side_of : Has P w K mg base "side_of" ["wall", "spot"] 6 FL.sp_wside_of) (hr : Room 6 (cxM P w K mg base ["one", "other", "first", "second"] "meeting_in_line" s_meeting_in_line f cdv A outer s H E).A) :
    PSs (cxM P w K mg base ["one", "other", "first", "second"] "meeting_in_line" s_meeting_in_line f cdv A outer s H E) (defBody s_meeting_in_line) (upS K (wM E) b_meeting_in_line) :=
  (scons (sif (tcmp (op_neA hr.units) ol_ne (ecall (h_side_of.mono (k := 6) (by decide)) hr tkM (acons (ev 0) (acons (eix (ev 1) eint) anil))) eint) (sone (sret enon)) snil)
    (scons (sset (i := 2) sc_meeting_in_line.nd (eix (ev 0) eint))
    (scons (sifJ (ttru (ecall (h_is_ahead.mono (k := 6) (by decide)) hr tkM (acons (ev 2) (acons (eix (ev 1) eint) anil)))) (sone (sset (i := 2) sc_meeting_in_line.nd (eix (ev 1) eint))) snil)
    (scons (sset (i := 3) sc_meeting_in_line.nd (eix (ev 0) eint))
    (scons (sifJ (ttru (ecall (h_is_ahead.mono (k := 6) (by decide)) hr tkM (acons (eix (ev 1) eint) (acons (ev 3) anil)))) (sone (sset (i := 3) sc_meeting_in_line.nd (eix (ev 1) eint))) snil)
    (scons (sif (tcmp (op_eqA hr.units) ol_eq (ev 2) (ev 3)) (sone (sret (etup (acons estr (acons (ev 2) anil))))) snil)
    (scons (sif (ttru (ecall (h_is_ahead.mono (k := 6) (by decide)) hr tkM (acons (ev 2) (acons (ev 3) anil)))) (sone (sret (etup (acons estr (acons (etup (acons (ev 2) (acons (ev 3) anil))) anil))))) snil)
    (sone (sret enon)))))))))
theorem sc_meeting : FnScope ["one", "other", "spot"] ["one", "other"] (defScope s_meeting) := ⟨rfl, rfl, rfl, by decide +kernel, rfl, by decide +kernel, by decide +kernel⟩
def b_meeting : MS := (mSeq (mIfS (mTst (mOp rEqM (mCall FL.sp_wleaning (mCons (mCall FL.sp_along (mCons (mVar 0) mNil)) (mCons (mCall FL.sp_along (mCons (mVar 1) mNil)) mNil))) (mC (.int 0)))) (mRet (mCall FL.sp_wmeeting_in_line (mCons (mVar 0) (mCons (mVar 1) mNil)))) mNext)
  (mSeq (mSet 2 (mCall FL.sp_wspot_of_lines (mCons (mVar 0) (mCons (mVar 1) mNil))))
  (mSeq (mIfS (mAnd (mTru (mCall FL.sp_wlies_on (mCons (mVar 0) (mCons (mVar 2) mNil)))) (mTru (mCall FL.sp_wlies_on (mCons (mVar 1) (mCons (mVar 2) mNil))))) (mRet (mTup (mCons (mC (.str "spot")) (mCons (mVar 2) mNil)))) mNext)
  (mRet (mC .non)))))
theorem d_meeting {f : Addr} {cdv : Value} {A : Around} {outer : List Env} {s : Shared} {H : Hp} {E : XK} (T : Txt K mg) (h_lies_on : Has P w K mg base "lies_on" ["wall", "spot"] 7 FL.sp_wlies_on) (h_spot_of_lines : Has P w K mg base "spot_of_lines" ["one", "other"] 5 FL.sp_wspot_of_lines) (h_leaning : Has P w K mg base "leaning" ["one", "other"] 5 FL.sp_wleaning) (h_along : Has P w K mg base "along" ["wall"] 4 FL.sp_along) (h_meeting_in_line : Has P w K mg base "meeting_in_line" ["one", "other"] 7 FL.sp_wmeeting_in_line) (hr : Room 7 (cxM P w K mg base ["one", "other", "spot"] "meeting" s_meeting f cdv A outer s H E).A) :
    PSs (cxM P w K mg base ["one", "other", "spot"] "meeting" s_meeting f cdv A outer s H E) (defBody s_meeting) (upS K (wM E) b_meeting) :=
  (scons (sif (tcmp (op_eqA hr.units) ol_eq (ecall (h_leaning.mono (k := 7) (by decide)) hr tkM (acons (ecall (h_along.mono (k := 7) (by decide)) hr tkM (acons (ev 0) anil)) (acons (ecall (h_along.mono (k := 7) (by decide)) hr tkM (acons (ev 1) anil)) anil))) eint) (sone (sret (ecall (h_meeting_in_line.mono (k := 7) (by decide)) hr tkM (acons (ev 0) (acons (ev 1) anil))))) snil)
    (scons (sset (i := 2) sc_meeting.nd (ecall (h_spot_of_lines.mono (k := 7) (by decide)) hr tkM (acons (ev 0) (acons (ev 1) anil))))
    (scons (sif (L2.PW.pt (wand (ttru (ecall (h_lies_on.mono (k := 7) (by decide)) hr tkM (acons (ev 0) (acons (ev 2) anil)))) (wand1 (ttru (ecall (h_lies_on.mono (k := 7) (by decide)) hr tkM (acons (ev 1) (acons (ev 2) anil))))))) (sone (sret (etup (acons estr (acons (ev 2) anil))))) snil)
    (sone (sret enon)))))
theorem sc_is_fair : FnScope ["one", "other", "found"] ["one", "other"] (defScope s_is_fair) := ⟨rfl, rfl, rfl, by decide +kernel, rfl, by decide +kernel, by decide +kernel⟩
def b_is_fair : MS := (mSeq (mSet 2 (mCall FL.sp_wmeeting (mCons (mVar 0) (mCons (mVar 1) mNil))))
  (mSeq (mIfS (mTst (mOp rIsN (mVar 2) (mC .non))) (mRet (mC (.bl true))) mNext)
  (mRet (mAndV (mOp rEqM (mOp rIxM (mVar 2) (mC (.int 0))) (mC (.str "spot"))) (mAndV (mOp (rInM false) (mOp rIxM (mVar 2) (mC (.int 1))) (mVar 0)) (mOp (rInM false) (mOp rIxM (mVar 2) (mC (.int 1))) (mVar 1)))))))
theorem d_is_fair {f : Addr} {cdv : Value} {A : Around} {outer : List Env} {s : Shared} {H : Hp} {E : XK} (T : Txt K mg) (h_meeting : Has P w K mg base "meeting" ["one", "other"] 8 FL.sp_wmeeting) (hr : Room 8 (cxM P w K mg base ["one", "other", "found"] "is_fair" s_is_fair f cdv A outer s H E).A) :
    PSs (cxM P w K mg base ["one", "other", "found"] "is_fair" s_is_fair f cdv A outer s H E) (defBody s_is_fair) (upS K (wM E) b_is_fair) :=
  (scons (sset (i := 2) sc_is_fair.nd (ecall (h_meeting.mono (k := 8) (by decide)) hr tkM (acons (ev 0) (acons (ev 1) anil))))
    (scons (sif (tcmp op_isN ol_isN (ev 2) enon) (sone (sret ebl)) snil)
    (sone (sret (eand (ecmp (op_eqA hr.units) ol_eq (eix (ev 2) eint) estr) (eand (ecmp (op_inA (u65 hr)) ol_in (eix (ev 2) eint) (ev 0)) (eone (ecmp (op_inA (u65 hr)) ol_in (eix (ev 2) eint) (ev 1)))))))))
theorem sc_unfair_with : FnScope ["walls", "wall", "number", "other"] ["walls", "wall"] (defScope s_unfair_with) := ⟨rfl, rfl, rfl, by decide +kernel, rfl, by decide +kernel, by decide +kernel⟩
def b_unfair_with : MS := (mSeq (mFor (iEn (mCons (mVar 0) mNil)) (gTp 2 (gCn (gNm 2) (gCn (gNm 3) gNl))) (mIfS (mNot (mTru (mCall FL.sp_wis_fair (mCons (mVar 1) (mCons (mVar 3) mNil))))) (mRet (mVar 2)) mNext))
  (mRet (mC .non)))
theorem d_unfair_with {f : Addr} {cdv : Value} {A : Around} {outer : List Env} {s : Shared} {H : Hp} {E : XK} (T : Txt K mg) (h_is_fair : Has P w K mg base "is_fair" ["one", "other"] 9 FL.sp_wis_fair) (hr : Room 9 (cxM P w K mg base ["walls", "wall", "number", "other"] "unfair_with" s_unfair_with f cdv A outer s H E).A) :
    PSs (cxM P w K mg base ["walls", "wall", "number", "other"] "unfair_with" s_unfair_with f cdv A outer s H E) (defBody s_unfair_with) (upS K (wM E) b_unfair_with) :=
  (scons (sfor poM rfl (ien T.f_enumerate (acons (ev 0) anil)) (gtp rfl (gcn (gnm (i := 2) sc_unfair_with.nd) (gcn (gnm (i := 3) sc_unfair_with.nd) gnl))) (sone (sif (tnot (ttru (ecall (h_is_fair.mono (k := 9) (by decide)) hr tkM (acons (ev 1) (acons (ev 3) anil))))) (sone (sret (ev 2))) snil)))
    (sone (sret enon)))
theorem sc_put_read : FnScope ["walls", "wall", "row"] ["walls", "wall", "row"] (defScope s_put_read) := ⟨rfl, rfl, rfl, by decide +kernel, rfl, by decide +kernel, by decide +kernel⟩
def b_put_read : MS := (mSeq (mIfS (mOr (mTst (mOp rIsN (mVar 1) (mC .non))) (mOr (mTst (mOp rEqM (mBlt bLen (mCons (mVar 0) mNil)) (mC (.int 40)))) (mTst (mOp rNotN (mCall FL.sp_wunfair_with (mCons (mVar 0) (mCons (mVar 1) mNil))) (mC .non))))) (mRaiseF "NoText" ["row"] (mCons (mVar 2) mNil)) mNext)
  (mExpr (mMt mtAppend (mVar 0) (mCons (mVar 1) mNil))))
theorem d_put_read {f : Addr} {cdv : Value} {A : Around} {outer : List Env} {s : Shared} {H : Hp} {E : XK} (T : Txt K mg) (h_unfair_with : Has P w K mg base "unfair_with" ["walls", "wall"] 10 FL.sp_wunfair_with) (hx_NoText : HasX P w K mg base "NoText" 1 ["row"]) (hr : Room 10 (cxM P w K mg base ["walls", "wall", "row"] "put_read" s_put_read f cdv A outer s H E).A) :
    PSs (cxM P w K mg base ["walls", "wall", "row"] "put_read" s_put_read f cdv A outer s H E) (defBody s_put_read) (upS K (wM E) b_put_read) :=
  (scons (sif (L2.PW.pt (wor (tcmp op_isN ol_isN (ev 1) enon) (wor (tcmp (op_eqA hr.units) ol_eq (eblt call_len cl_len T.f_len (acons (ev 0) anil) PySem.boot_len) (eglobI T.c_MOST_WALLS)) (wor1 (tcmp op_notN ol_notN (ecall (h_unfair_with.mono (k := 10) (by decide)) hr tkM (acons (ev 0) (acons (ev 1) anil))) enon))))) (sone (sraiseF (hx_NoText.mono (k := 9) (by decide)) hr rfl tkM (acons (ev 2) anil))) snil)
    (sone (sexpr (emt PySem.F.slot_list_append PySem.F.type_list_append mt_append ml_append (ev 0) (acons (ev 1) anil)))))
theorem sc_read_plot : FnScope ["text", "walls", "row", "line"] ["text"] (defScope s_read_plot) := ⟨rfl, rfl, rfl, by decide +kernel, rfl, by decide +kernel, by decide +kernel⟩
def b_read_plot : MS := (mSeq (mSet 1 (mLst mNil))
  (mSeq (mFor (iEn (mCons (mCall FL.sp_rows_in (mCons (mVar 0) mNil)) mNil)) (gTp 2 (gCn (gNm 2) (gCn (gNm 3) gNl))) (mExpr (mCall sp_put_read (mCons (mVar 1) (mCons (mCall FL.sp_wall_in (mCons (mTx1 rmSplit (mVar 3) (mC (.str " "))) mNil)) (mCons (mVar 2) mNil))))))
  (mRet (mBlt bTuple (mCons (mVar 1) mNil)))))
theorem d_read_plot {f : Addr} {cdv : Value} {A : Around} {outer : List Env} {s : Shared} {H : Hp} {E : XK} (T : Txt K mg) (h_rows_in : Has P w K mg base "rows_in" ["text"] 1 FL.sp_rows_in) (h_put_read : Has P w K mg base "put_read" ["walls", "wall", "row"] 11 sp_put_read) (h_wall_in : Has P w K mg base "wall_in" ["words"] 4 FL.sp_wall_in) (hr : Room 11 (cxM P w K mg base ["text", "walls", "row", "line"] "read_plot" s_read_plot f cdv A outer s H E).A) :
    PSs (cxM P w K mg base ["text", "walls", "row", "line"] "read_plot" s_read_plot f cdv A outer s H E) (defBody s_read_plot) (upS K (wM E) b_read_plot) :=
  (scons (sset (i := 1) sc_read_plot.nd (elst anil))
    (scons (sfor poM rfl (ien T.f_enumerate (acons (ecall (h_rows_in.mono (k := 11) (by decide)) hr tkM (acons (ev 0) anil)) anil)) (gtp rfl (gcn (gnm (i := 2) sc_read_plot.nd) (gcn (gnm (i := 3) sc_read_plot.nd) gnl))) (sone (sexpr (ecall (h_put_read.mono (k := 11) (by decide)) hr tkM (acons (ev 1) (acons (ecall (h_wall_in.mono (k := 11) (by decide)) hr tkM (acons (esplit (ev 3) estr) anil)) (acons (ev 2) anil)))))))
    (sone (sret (etyp call_tuple_of cl_tuple T.f_tuple (acons (ev 1) anil))))))
theorem sc_read_questions : FnScope ["text", "walls", "spots", "row", "line", "words", "spot"] ["text"] (defScope s_read_questions) := ⟨rfl, rfl, rfl, by decide +kernel, rfl, by decide +kernel, by decide +kernel⟩
def b_read_questions : MS := (mSeq (mSet 1 (mLst mNil))
  (mSeq (mSet 2 (mLst mNil))
  (mSeq (mFor (iEn (mCons (mCall FL.sp_rows_in (mCons (mVar 0) mNil)) mNil)) (gTp 2 (gCn (gNm 3) (gCn (gNm 4) gNl))) (mSeq (mSet 5 (mTx1 rmSplit (mVar 4) (mC (.str " "))))
  (mSeq (mSet 6 (mCall FL.sp_question_in (mCons (mVar 5) mNil)))
  (mIfS (mTst (mOp rNotN (mVar 6) (mC .non))) (mExpr (mMt mtAppend (mVar 2) (mCons (mVar 6) mNil))) (mIfS (mTst (mOp rNeM (mVar 2) (mLstF mNil))) (mRaiseF "NoText" ["row"] (mCons (mVar 3) mNil)) (mExpr (mCall sp_put_read (mCons (mVar 1) (mCons (mCall FL.sp_wall_in (mCons (mVar 5) mNil)) (mCons (mVar 3) mNil))))))))))
  (mRet (mTup (mCons (mBlt bTuple (mCons (mVar 1) mNil)) (mCons (mVar 2) mNil)))))))
theorem d_read_questions {f : Addr} {cdv : Value} {A : Around} {outer : List Env} {s : Shared} {H : Hp} {E : XK} (T : Txt K mg) (h_rows_in : Has P w K mg base "rows_in" ["text"] 1 FL.sp_rows_in) (h_put_read : Has P w K mg base "put_read" ["walls", "wall", "row"] 11 sp_put_read) (h_wall_in : Has P w K mg base "wall_in" ["words"] 4 FL.sp_wall_in) (h_question_in : Has P w K mg base "question_in" ["words"] 4 FL.sp_question_in) (hx_NoText : HasX P w K mg base "NoText" 1 ["row"]) (hr : Room 11 (cxM P w K mg base ["text", "walls", "spots", "row", "line", "words", "spot"] "read_questions" s_read_questions f cdv A outer s H E).A) :
    PSs (cxM P w K mg base ["text", "walls", "spots", "row", "line", "words", "spot"] "read_questions" s_read_questions f cdv A outer s H E) (defBody s_read_questions) (upS K (wM E) b_read_questions) :=
  (scons (sset (i := 1) sc_read_questions.nd (elst anil))
    (scons (sset (i := 2) sc_read_questions.nd (elst anil))
    (scons (sfor poM rfl (ien T.f_enumerate (acons (ecall (h_rows_in.mono (k := 11) (by decide)) hr tkM (acons (ev 0) anil)) anil)) (gtp rfl (gcn (gnm (i := 3) sc_read_questions.nd) (gcn (gnm (i := 4) sc_read_questions.nd) gnl))) (scons (sset (i := 5) sc_read_questions.nd (esplit (ev 4) estr))
    (scons (sset (i := 6) sc_read_questions.nd (ecall (h_question_in.mono (k := 11) (by decide)) hr tkM (acons (ev 5) anil)))
    (sone (sif (tcmp op_notN ol_notN (ev 6) enon) (sone (sexpr (emt PySem.F.slot_list_append PySem.F.type_list_append mt_append ml_append (ev 2) (acons (ev 6) anil)))) (sone (sif (tcmp (op_neA hr.units) ol_ne (ev 2) (elstF anil)) (sone (sraiseF (hx_NoText.mono (k := 10) (by decide)) hr rfl tkM (acons (ev 3) anil))) (sone (sexpr (ecall (h_put_read.mono (k := 11) (by decide)) hr tkM (acons (ev 1) (acons (ecall (h_wall_in.mono (k := 11) (by decide)) hr tkM (acons (ev 5) anil)) (acons (ev 3) anil)))))))))))))
    (sone (sret (etup (acons (etyp call_tuple_of cl_tuple T.f_tuple (acons (ev 1) anil)) (acons (ev 2) anil))))))))
theorem sc_law_heard : FnScope ["_law_asks", "_law_text", "_law_heard_here", "_law_found", "_law_e"] ["_law_asks", "_law_text"] (defScope s_law_heard) := ⟨rfl, rfl, rfl, by decide +kernel, rfl, by decide +kernel, by decide +kernel⟩
def b_law_heard : MS := (mSeq (mSet 2 (mC .non))
  (mSeq (mSet 3 (mC .non))
  (mSeq (mTry ["SpotError", "NoFraction", "NoWall", "TooMany", "Crossing", "Absent", "NoText", "NoRow"] "SpotError" 4 (mIfS (mTst (mOp rEqM (mVar 0) (mC (.int 1)))) (mSet 3 (mCall sp_read_questions (mCons (mVar 1) mNil))) (mSet 3 (mCall sp_read_plot (mCons (mVar 1) mNil)))) (mSet 2 (mVar 4)))
  (mSeq (mIfS (mTst (mOp rIsN (mVar 2) (mC .non))) (mRet (mTup (mCons (mC (.str "told")) (mCons (mVar 3) mNil)))) mNext)
  (mSeq (mIfS (mAnd (mTru (mIsX ["SpotError", "NoFraction", "NoWall", "TooMany", "Crossing", "Absent", "NoText", "NoRow"] "NoText" (mVar 2))) (mTru (mCall sp_law_alone (mCons (mVar 2) (mCons (mC (.int 4)) mNil))))) (mRet (mTup (mCons (mC (.str "no text")) (mCons (mXf ["NoText"] "row" (mVar 2)) mNil)))) mNext)
  (mRet (mTup (mCons (mC (.str "another refusal")) (mCons (mC (.int 0)) mNil)))))))))
theorem d_law_heard {f : Addr} {cdv : Value} {A : Around} {outer : List Env} {s : Shared} {H : Hp} {E : XK} (T : Txt K mg) (h_law_alone : Has P w K mg base "_law_alone" ["_law_heard_here", "_law_place"] 1 sp_law_alone) (h_read_questions : Has P w K mg base "read_questions" ["text"] 12 sp_read_questions) (h_read_plot : Has P w K mg base "read_plot" ["text"] 12 sp_read_plot) (hr : Room 12 (cxM P w K mg base ["_law_asks", "_law_text", "_law_heard_here", "_law_found", "_law_e"] "_law_heard" s_law_heard f cdv A outer s H E).A) :
    PSs (cxM P w K mg base ["_law_asks", "_law_text", "_law_heard_here", "_law_found", "_law_e"] "_law_heard" s_law_heard f cdv A outer s H E) (defBody s_law_heard) (upS K (wM E) b_law_heard) :=
  (scons (sset (i := 2) sc_law_heard.nd enon)
    (scons (sset (i := 3) sc_law_heard.nd enon)
    (scons (stry (i := 4) T.xs T.g_SpotError (by decide) tkM sc_law_heard.nd (fun _ _ _ tk po => (sone (sif (tcmp (op_eqA hr.units) ol_eq (ev 0) eint) (sone (sset (i := 3) sc_law_heard.nd (ecall (h_read_questions.mono (k := 12) (by decide)) hr tk (acons (ev 1) anil)))) (sone (sset (i := 3) sc_law_heard.nd (ecall (h_read_plot.mono (k := 12) (by decide)) hr tk (acons (ev 1) anil))))))) (fun _ _ => (sone (sset (i := 2) sc_law_heard.nd (ev 4)))))
    (scons (sif (tcmp op_isN ol_isN (ev 2) enon) (sone (sret (etup (acons estr (acons (ev 3) anil))))) snil)
    (scons (sif (L2.PW.pt (wand (ttru (eisx T.xs T.f_isinstance T.g_NoText (by decide) (ev 2))) (wand1 (ttru (ecall (h_law_alone.mono (k := 12) (by decide)) hr tkM (acons (ev 2) (acons eint anil))))))) (sone (sret (etup (acons estr (acons (exf T.xf_row (ev 2)) anil))))) snil)
    (sone (sret (etup (acons estr (acons eint anil))))))))))
theorem sc_law : FnScope ["_law_script", "_law_k", "_law_row", "_law_scale_here", "_law_lines", "_law_many", "_law_at", "_law_asks", "_law_again", "_law_due_here"] ["_law_script"] (defScope s_law) := ⟨rfl, rfl, rfl, by decide +kernel, rfl, by decide +kernel, by decide +kernel⟩
def b_law : MS := (mSeq (mFor (iR1 (mCons (mBlt bMaxA (mCons (mC (.int 1)) (mCons (mBlt bMinA (mCons (mC (.int 4)) (mCons (mBlt bLen (mCons (mVar 0) mNil)) mNil))) mNil))) mNil)) (gNm 1) (mSeq (mSet 2 (mLst (mCons (mCall FL.sp_cell_at (mCons (mVar 0) (mCons (mVar 1) mNil))) (mCons (mC (.int 0)) mNil))))
  (mSeq (mSet 3 (mCall sp_law_scale (mCons (mVar 2) mNil)))
  (mSeq (mSet 4 (mCall sp_law_rows (mCons (mCall FL.sp_made (mCons (mVar 3) (mCons (mCall FL.sp_shuts_here (mCons (mVar 2) (mCons (mC (.int 6)) (mCons (mC (.int 5)) mNil)))) mNil))) mNil)))
  (mSeq (mSet 5 (mOp rIxM (mLstF (mCons (mC (.int 0)) (mCons (mC (.int 0)) (mCons (mC (.int 0)) (mCons (mC (.int 0)) (mCons (mC (.int 38)) (mCons (mC (.int 39)) (mCons (mC (.int 40)) (mCons (mC (.int 41)) mNil))))))))) (mCall FL.sp_take (mCons (mVar 2) (mCons (mC (.int 8)) mNil)))))
  (mSeq (mIfJ (mTst (mOp aGt (mVar 5) (mC (.int 0)))) (mSet 4 (mCall sp_law_rows (mCons (mCompF (iR1 (mCons (mVar 5) mNil)) (gNm 6) mYes (mTup (mCons (mTup (mCons (mTup (mCons (mVar 6) (mCons (mC (.int 1)) mNil))) (mCons (mTup (mCons (mC (.int 0)) (mCons (mC (.int 1)) mNil))) mNil))) (mCons (mTup (mCons (mTup (mCons (mVar 6) (mCons (mC (.int 1)) mNil))) (mCons (mTup (mCons (mC (.int 1)) (mCons (mC (.int 1)) mNil))) mNil))) mNil))) [6]) mNil))) mNext)
  (mSeq (mSet 7 (mCall FL.sp_take (mCons (mVar 2) (mCons (mC (.int 2)) mNil))))
  (mSeq (mFor (iR1 (mCons (mOp rMul (mVar 7) (mCall FL.sp_take (mCons (mVar 2) (mCons (mC (.int 4)) mNil)))) mNil)) (gNm 8) (mExpr (mMt mtAppend (mVar 4) (mCons (mTx1 rmJoin (mC (.str " ")) (mLstF (mCons (mC (.str "ask")) (mCons (mCall FL.sp_fshown (mCons (mCall sp_law_number (mCons (mVar 2) mNil)) mNil)) (mCons (mCall FL.sp_fshown (mCons (mCall sp_law_number (mCons (mVar 2) mNil)) mNil)) mNil))))) mNil))))
  (mSeq (mIfJ (mTst (mOp rEqM (mVar 4) (mLstF mNil))) (mSet 4 (mLst (mCons (mC (.str "wall 0 0 1 1")) mNil))) mNext)
  (mSeq (mFor (iR1 (mCons (mOp rAdd (mC (.int 2)) (mCall FL.sp_take (mCons (mVar 2) (mCons (mC (.int 2)) mNil)))) mNil)) (gNm 8) (mSet 4 (mCall sp_law_odd (mCons (mVar 2) (mCons (mVar 4) mNil)))))
  (mSeq (mSet 9 (mCall sp_law_due (mCons (mVar 7) (mCons (mVar 4) mNil))))
  (mSeq (mIfJ (mTst (mOp rEqM (mVar 4) (mLstF (mCons (mC (.str "")) mNil)))) (mSet 9 (mTup (mCons (mC (.str "told")) (mCons (mOp rIxM (mLstF (mCons (mTup mNil) (mCons (mTup (mCons (mTup mNil) (mCons (mLstF mNil) mNil))) mNil))) (mVar 7)) mNil)))) mNext)
  (mIfS (mTst (mOp rNeX (mCall sp_law_heard (mCons (mVar 7) (mCons (mTx1 rmJoin (mC (.str "\n")) (mVar 4)) mNil))) (mVar 9))) (mRet (mC (.bl false))) mNext)))))))))))))
  (mRet (mC (.bl true))))
theorem d_law {f : Addr} {cdv : Value} {A : Around} {outer : List Env} {s : Shared} {H : Hp} {E : XK} (T : Txt K mg) (h_law_heard : Has P w K mg base "_law_heard" ["_law_asks", "_law_text"] 13 sp_law_heard) (h_law_due : Has P w K mg base "_law_due" ["_law_asks", "_law_lines"] 4 sp_law_due) (h_law_take : Has P w K mg base "_law_take" ["_law_row", "_law_base"] 1 FL.sp_take) (h_law_odd : Has P w K mg base "_law_odd" ["_law_row", "_law_lines"] 4 sp_law_odd) (h_law_shown : Has P w K mg base "_law_shown" ["_law_one"] 1 FL.sp_fshown) (h_law_number : Has P w K mg base "_law_number" ["_law_row"] 2 sp_law_number) (h_law_rows : Has P w K mg base "_law_rows" ["_law_plot"] 2 sp_law_rows) (h_law_made : Has P w K mg base "_law_made" ["_law_scale_here", "_law_shuts"] 3 FL.sp_made) (h_law_shuts_here : Has P w K mg base "_law_shuts_here" ["_law_row", "_law_most", "_law_size"] 4 FL.sp_shuts_here) (h_law_scale : Has P w K mg base "_law_scale" ["_law_row"] 2 sp_law_scale) (h_law_cell_at : Has P w K mg base "_law_cell_at" ["_law_script", "_law_k"] 1 FL.sp_cell_at) (hr : Room 13 (cxM P w K mg base ["_law_script", "_law_k", "_law_row", "_law_scale_here", "_law_lines", "_law_many", "_law_at", "_law_asks", "_law_again", "_law_due_here"] "law" s_law f cdv A outer s H E).A) :
    PSs (cxM P w K mg base ["_law_script", "_law_k", "_law_row", "_law_scale_here", "_law_lines", "_law_many", "_law_at", "_law_asks", "_law_again", "_law_due_here"] "law" s_law f cdv A outer s H E) (defBody s_law) (upS K (wM E) b_law) :=
  (scons (sfor poM rfl (ir1 T.f_range (acons (eblt (ca_max rfl (u65 hr)) cl_maxA T.f_max (acons eint (acons (eblt (ca_min rfl (u65 hr)) cl_minA T.f_min (acons eint (acons (eblt call_len cl_len T.f_len (acons (ev 0) anil) PySem.boot_len) anil))) anil))) anil)) (gnm (i := 1) sc_law.nd) (scons (sset (i := 2) sc_law.nd (elst (acons (ecall (h_law_cell_at.mono (k := 13) (by decide)) hr tkM (acons (ev 0) (acons (ev 1) anil))) (acons eint anil))))
    (scons (sset (i := 3) sc_law.nd (ecall (h_law_scale.mono (k := 13) (by decide)) hr tkM (acons (ev 2) anil)))
    (scons (sset (i := 4) sc_law.nd (ecall (h_law_rows.mono (k := 13) (by decide)) hr tkM (acons (ecall (h_law_made.mono (k := 13) (by decide)) hr tkM (acons (ev 3) (acons (ecall (h_law_shuts_here.mono (k := 13) (by decide)) hr tkM (acons (ev 2) (acons eint (acons eint anil)))) anil))) anil)))
    (scons (sset (i := 5) sc_law.nd (eix (elstF (acons eint (acons eint (acons eint (acons eint (acons eint (acons eint (acons eint (acons eint anil))))))))) (ecall (h_law_take.mono (k := 13) (by decide)) hr tkM (acons (ev 2) (acons eint anil)))))
    (scons (sifJ (tcmp (oa_gt (u65 hr)) la_gt (ev 5) eint) (sone (sset (i := 4) (hs := by kernel_rfl) sc_law.nd (ecall (h_law_rows.mono (k := 13) (by decide)) hr tkM (acons (ecompF (own := [("_law_at", 6)]) rfl sc_law.nd (ir1 T.f_range (acons (ev 5) anil)) (blkOk_by (by first | decide +kernel | kernel_rfl | rfl)) (fun _ _ _ _ _ => (gonm sc_law.nd (i := 6) (by decide))) (fun _ _ _ _ _ => tsNil) (fun _ _ _ _ _ => (etup (acons (etup (acons (etup (acons (ev 6) (acons eint anil))) (acons (etup (acons eint (acons eint anil))) anil))) (acons (etup (acons (etup (acons (ev 6) (acons eint anil))) (acons (etup (acons eint (acons eint anil))) anil))) anil))))) anil)))) snil)
    (scons (sset (i := 7) sc_law.nd (ecall (h_law_take.mono (k := 13) (by decide)) hr tkM (acons (ev 2) (acons eint anil))))
    (scons (sfor poM rfl (ir1 T.f_range (acons (emul (ev 7) (ecall (h_law_take.mono (k := 13) (by decide)) hr tkM (acons (ev 2) (acons eint anil)))) anil)) (gnm (i := 8) sc_law.nd) (sone (sexpr (emt PySem.F.slot_list_append PySem.F.type_list_append mt_append ml_append (ev 4) (acons (ejoin estr (elstF (acons estr (acons (ecall (h_law_shown.mono (k := 13) (by decide)) hr tkM (acons (ecall (h_law_number.mono (k := 13) (by decide)) hr tkM (acons (ev 2) anil)) anil)) (acons (ecall (h_law_shown.mono (k := 13) (by decide)) hr tkM (acons (ecall (h_law_number.mono (k := 13) (by decide)) hr tkM (acons (ev 2) anil)) anil)) anil))))) anil)))))
    (scons (sifJ (tcmp (op_eqA hr.units) ol_eq (ev 4) (elstF anil)) (sone (sset (i := 4) sc_law.nd (elst (acons estr anil)))) snil)
    (scons (sfor poM rfl (ir1 T.f_range (acons (eadd eint (ecall (h_law_take.mono (k := 13) (by decide)) hr tkM (acons (ev 2) (acons eint anil)))) anil)) (gnm (i := 8) sc_law.nd) (sone (sset (i := 4) sc_law.nd (ecall (h_law_odd.mono (k := 13) (by decide)) hr tkM (acons (ev 2) (acons (ev 4) anil))))))
    (scons (sset (i := 9) sc_law.nd (ecall (h_law_due.mono (k := 13) (by decide)) hr tkM (acons (ev 7) (acons (ev 4) anil))))
    (scons (sifJ (tcmp (op_eqA hr.units) ol_eq (ev 4) (elstF (acons estr anil))) (sone (sset (i := 9) sc_law.nd (etup (acons estr (acons (eix (elstF (acons (etup anil) (acons (etup (acons (etup anil) (acons (elstF anil) anil))) anil))) (ev 7)) anil))))) snil)
    (sone (sif (tcmp (op_neA hr.units) ol_neX (ecall (h_law_heard.mono (k := 13) (by decide)) hr tkM (acons (ev 7) (acons (ejoin estr (ev 4)) anil))) (ev 9)) (sone (sret ebl)) snil))))))))))))))
    (sone (sret ebl)))
end
end Lk75
-- FLQ        
-- 
set_option maxRecDepth 100000
set_option maxHeartbeats 4000000
namespace Lk75
open PySem PySem.Spec L2 TL ML FL
-- counts /tmp/scratch/dev/N_k75.json
theorem l_law : ∀ ds S Q E, spLaw ds S Q E → ds.length = ["n"].length := by
  rintro _ _ _ _ ⟨n, rfl, _⟩; rfl
theorem sz120 {p : Pt} {n : Nat} (h : BP p n) : SzS n p := ⟨h.l, h.r⟩
theorem w_crossed {u v : Pt} {m n : Nat} {S : Sto} {Q : Hold MQ} {E : Hold MXQ} (h1 : BP u m) (h2 : BP v n) (h : m + n < 3900) (k : Q.v (fr (crs u v)) S) : @CallP sp_wcrossed [spD u, spD v] S Q E := ⟨u, v, rfl, ⟨m, n, sz120 h1, sz120 h2, h⟩, k⟩
theorem w_leaning {u v : Pt} {m n : Nat} {S : Sto} {Q : Hold MQ} {E : Hold MXQ} (h1 : BP u m) (h2 : BP v n) (h : m + n < 3900) (k : Q.v (.int (sgn (crs u v))) S) : @CallP sp_wleaning [spD u, spD v] S Q E := ⟨u, v, rfl, ⟨m, n, sz120 h1, sz120 h2, h⟩, k⟩
theorem w_side {w : Wl} {s : Pt} {m n : Nat} {S : Sto} {Q : Hold MQ} {E : Hold MXQ} (h1 : BW w m) (h2 : BP s n) (h : 3 * m + n < 3800) (k : Q.v (.int (side w s)) S) : @CallP sp_wside_of [wlD w, spD s] S Q E := ⟨w, s, rfl, ⟨m, n, sz120 h1.f, sz120 h1.s, sz120 h2, h⟩, k⟩
theorem w_lies {w : Wl} {s : Pt} {m n : Nat} {S : Sto} {Q : Hold MQ} {E : Hold MXQ} (h1 : BW w m) (h2 : BP s n) (h : 3 * m + n < 3800) (k : Q.v (.bl (decide (liesOn w s))) S) : @CallP sp_wlies_on [wlD w, spD s] S Q E := ⟨w, s, rfl, ⟨m, n, sz120 h1.f, sz120 h1.s, sz120 h2, h⟩, k⟩
theorem maxP_b2 {p q : Pt} {n : Nat} (h1 : BP p n) (h2 : BP q n) : BP (maxP p q) n := by unfold maxP; split <;> assumption
theorem minP_b2 {p q : Pt} {n : Nat} (h1 : BP p n) (h2 : BP q n) : BP (minP p q) n := by unfold minP; split <;> assumption
theorem signs_plain : ∀ {g : List Nat}, (∀ c ∈ g, c < 128) → D.plains (g.map fun c => D.str ⟨#[c]⟩) = true
  | [], _ => rfl
  | c :: r, h => by
    show (PyData.strOk (ofL [c]) && D.plains (r.map fun c => D.str ⟨#[c]⟩)) = true
    rw [signs_plain fun x hx => h x (List.mem_cons_of_mem _ hx), strOk_L (l := [c]) fun x hx => by rw [List.mem_singleton.mp hx]; have := h c List.mem_cons_self; omega]; rfl
theorem l_crossed : ∀ ds S Q E, FL.sp_wcrossed ds S Q E → ds.length = 2 := by rintro _ _ _ _ ⟨_, _, rfl, _⟩; rfl
theorem l_leaning : ∀ ds S Q E, FL.sp_wleaning ds S Q E → ds.length = 2 := by rintro _ _ _ _ ⟨_, _, rfl, _⟩; rfl
theorem l_side_of : ∀ ds S Q E, FL.sp_wside_of ds S Q E → ds.length = 2 := by rintro _ _ _ _ ⟨_, _, rfl, _⟩; rfl
theorem l_lies_on : ∀ ds S Q E, FL.sp_wlies_on ds S Q E → ds.length = 2 := by rintro _ _ _ _ ⟨_, _, rfl, _⟩; rfl
theorem l_spot_of_lines : ∀ ds S Q E, FL.sp_wspot_of_lines ds S Q E → ds.length = 2 := by rintro _ _ _ _ ⟨_, _, rfl, _⟩; rfl
theorem l_meeting_in_line : ∀ ds S Q E, FL.sp_wmeeting_in_line ds S Q E → ds.length = 2 := by rintro _ _ _ _ ⟨_, _, rfl, _⟩; rfl
theorem l_meeting : ∀ ds S Q E, FL.sp_wmeeting ds S Q E → ds.length = 2 := by rintro _ _ _ _ ⟨_, _, rfl, _⟩; rfl
theorem l_is_fair : ∀ ds S Q E, FL.sp_wis_fair ds S Q E → ds.length = 2 := by rintro _ _ _ _ ⟨_, _, rfl, _⟩; rfl
theorem l_unfair_with : ∀ ds S Q E, FL.sp_wunfair_with ds S Q E → ds.length = 2 := by rintro _ _ _ _ ⟨_, _, _, rfl, _⟩; rfl
theorem l_law_is_whole : ∀ ds S Q E, sp_law_is_whole ds S Q E → ds.length = 1 := by rintro _ _ _ _ ⟨_, rfl, _⟩; rfl
theorem l_law_fraction : ∀ ds S Q E, sp_law_fraction ds S Q E → ds.length = 1 := by rintro _ _ _ _ ⟨_, rfl, _⟩; rfl
theorem l_law_shut_in : ∀ ds S Q E, sp_law_shut_in ds S Q E → ds.length = 1 := by rintro _ _ _ _ ⟨_, rfl, _⟩; rfl
theorem l_law_before : ∀ ds S Q E, sp_law_before ds S Q E → ds.length = 2 := by rintro _ _ _ _ ⟨_, _, rfl, _⟩; rfl
theorem l_law_cross : ∀ ds S Q E, sp_law_cross ds S Q E → ds.length = 3 := by rintro _ _ _ _ ⟨_, _, _, rfl, _⟩; rfl
theorem l_law_fits : ∀ ds S Q E, sp_law_fits ds S Q E → ds.length = 2 := by rintro _ _ _ _ ⟨_, _, rfl, _⟩; rfl
theorem l_put_read : ∀ ds S Q E, sp_put_read ds S Q E → ds.length = 3 := by rintro _ _ _ _ ⟨_, _, _, _, rfl, _⟩; rfl
theorem l_law_alone : ∀ ds S Q E, sp_law_alone ds S Q E → ds.length = 2 := by rintro _ _ _ _ ⟨_, _, rfl, _⟩; rfl
theorem l_law_scale : ∀ ds S Q E, sp_law_scale ds S Q E → ds.length = 1 := by rintro _ _ _ _ ⟨_, _, _, rfl, _⟩; rfl
theorem l_law_due : ∀ ds S Q E, sp_law_due ds S Q E → ds.length = 2 := by rintro _ _ _ _ ⟨_, _, _, rfl, _⟩; rfl
theorem l_law_heard : ∀ ds S Q E, sp_law_heard ds S Q E → ds.length = 2 := by rintro _ _ _ _ ⟨_, _, rfl, _⟩; rfl
theorem l_law_odd : ∀ ds S Q E, sp_law_odd ds S Q E → ds.length = 2 := by rintro _ _ _ _ ⟨_, _, _, _, _, _, rfl, _⟩; rfl
theorem l_law_beyond : ∀ ds S Q E, sp_law_beyond ds S Q E → ds.length = 2 := by rintro _ _ _ _ ⟨_, _, rfl, _⟩; rfl
theorem l_law_take : ∀ ds S Q E, FL.sp_take ds S Q E → ds.length = 2 := by rintro _ _ _ _ ⟨_, _, _, _, rfl, _⟩; rfl
theorem l_read_plot : ∀ ds S Q E, sp_read_plot ds S Q E → ds.length = 1 := by rintro _ _ _ _ ⟨_, rfl, _⟩; rfl
theorem l_read_questions : ∀ ds S Q E, sp_read_questions ds S Q E → ds.length = 1 := by rintro _ _ _ _ ⟨_, rfl, _⟩; rfl
theorem l_law_bent : ∀ ds S Q E, sp_law_bent ds S Q E → ds.length = 2 := by rintro _ _ _ _ ⟨_, _, _, _, _, _, rfl, _⟩; rfl
theorem l_law_rows : ∀ ds S Q E, sp_law_rows ds S Q E → ds.length = 1 := by rintro _ _ _ _ ⟨_, _, rfl, _⟩; rfl
theorem l_law_number : ∀ ds S Q E, sp_law_number ds S Q E → ds.length = 1 := by rintro _ _ _ _ ⟨_, _, _, rfl, _⟩; rfl
theorem r_law_take : ∀ ds S Q E, FL.sp_take ds S Q E → b_law_take (mends Q E) (mstart 2 ds) S := by
  rintro _ S Q E ⟨p, c, n, z, rfl, hp, h0, h1, hn, q⟩
  have hz : z.natAbs < 2 ^ 200 := by omega
  unfold b_law_take
  simp only [ML.q_mstart, ML.q_mends, List.map_cons, List.map_nil, List.replicate, List.cons_append, List.nil_append]
  simp only [gz0, hp, rowO]
  have e : ((n + 1 : Nat) : Int) = (n : Int) + 1 := by omega
  rw [e] at q
  refine ⟨cp, ?_⟩
  split
  · refine ⟨cp, cp, divok_w (by omega) hz (by decide) (by decide), by omega, ?_⟩
    rw [put_put, fmod_pos (j := z) (by omega)]
    exact q _ _ (Int.emod_nonneg _ (by omega)) (Int.emod_lt_of_pos _ (by omega))
  · have m0 : 0 ≤ c.fmod 2147483399 ∧ c.fmod 2147483399 < 2147483399 := by rw [fmod_pos (by decide)]; omega
    refine ⟨by decide, mulok_r (by decide) (by decide), mulok_r (by omega) (by omega), mulok_r (by omega) (by omega), mulok_r (by omega) (by omega), by decide, ?_⟩
    generalize hx : ((c.fmod 2147483399) * 40692 + 104729 * ((n : Int) + 1) * ((n : Int) + 1) + 31 * ((n : Int) + 1) + 5).fmod 2147483399 = x
    rw [fmod_pos (by decide)] at hx
    have x0 : 0 ≤ x ∧ x < 2147483399 := by omega
    refine ⟨mulok_r (by omega) (by omega), mulok_r (by omega) (by omega), by decide, divok_s (by decide) (by decide), by omega, ?_⟩
    rw [fmod_pos (j := z) (by omega)]
    exact q _ _ (Int.emod_nonneg _ (by omega)) (Int.emod_lt_of_pos _ (by omega))
--CUT
theorem r_crossed : ∀ ds S Q E, FL.sp_wcrossed ds S Q E → b_crossed (mends Q E) (mstart 0 ds) S := by
  rintro _ S Q E ⟨u, v, rfl, ⟨m, n, ⟨h1, h2⟩, ⟨h3, h4⟩, hn⟩, k⟩
  unfold b_crossed
  simp only [ML.q_mstart, ML.q_mends, List.map_cons, List.map_nil, List.replicate, List.cons_append, List.nil_append]
  simp only [gz5]
  refine ⟨_, _, rfl, by omega, ?_⟩
  simp only [gz5]
  refine ⟨_, _, rfl, by omega, ?_⟩
  simp only [gz5]
  have := sz_mul u.1 v.2
  have := sz_mul u.2 v.1
  refine ⟨_, _, rfl, by omega, ?_⟩
  exact k
theorem r_leaning : ∀ ds S Q E, FL.sp_wleaning ds S Q E → b_leaning (mends Q E) (mstart 1 ds) S := by
  rintro _ S Q E ⟨u, v, rfl, hn, k⟩
  unfold b_leaning
  simp only [ML.q_mstart, ML.q_mends, List.map_cons, List.map_nil, List.replicate, List.cons_append, List.nil_append]
  simp only [gz5]
  refine ⟨_, _, rfl, hn, ?_⟩
  simp only [gz5]
  have e : ((if 0 < (crs u v).num then 1 else 0) - if (crs u v).num < 0 then 1 else 0 : Int) = sgn (crs u v) := by
    have h1 : 0 < (crs u v).num ↔ 0 < crs u v := by rw [Rat.lt_iff]; simp
    have h2 : (crs u v).num < 0 ↔ crs u v < 0 := by rw [Rat.lt_iff]; simp
    unfold sgn
    simp only [← h1, ← h2]
    by_cases a : 0 < (crs u v).num
    · rw [if_pos a, if_pos a, if_neg (by omega)]; rfl
    · by_cases b : (crs u v).num < 0
      · rw [if_neg a, if_neg a, if_pos b, if_pos b]; rfl
      · rw [if_neg a, if_neg a, if_neg b, if_neg b]; rfl
  rw [e]; exact k
theorem r_side_of : ∀ ds S Q E, FL.sp_wside_of ds S Q E → b_side_of (mends Q E) (mstart 0 ds) S := by
  rintro _ S Q E ⟨w, s, rfl, ⟨m, n, h1, h2, h3, hn⟩, k⟩
  unfold b_side_of
  simp only [ML.q_mstart, ML.q_mends, List.map_cons, List.map_nil, List.replicate, List.cons_append, List.nil_append]
  simp only [gz5]
  refine ⟨_, rfl, ⟨m, h1, h2, by omega⟩, ?_⟩
  simp only [gz5]
  refine ⟨(w.1, s), rfl, ⟨max m n, ⟨Nat.le_trans h1.1 (Nat.le_max_left _ _), Nat.le_trans h1.2 (Nat.le_max_left _ _)⟩, ⟨Nat.le_trans h3.1 (Nat.le_max_right _ _), Nat.le_trans h3.2 (Nat.le_max_right _ _)⟩, by omega⟩, ?_⟩
  simp only [gz5]
  exact ⟨_, _, rfl, ⟨2 * m + 1, m + n + 1, SzS.alng h1 h2, ⟨Nat.le_trans (z_a1 (w := (w.1, s)) h3.1 h1.1) (by omega), Nat.le_trans (z_a2 (w := (w.1, s)) h3.2 h1.2) (by omega)⟩, by omega⟩, k⟩
theorem r_lies_on : ∀ ds S Q E, FL.sp_wlies_on ds S Q E → b_lies_on (mends Q E) (mstart 2 ds) S := by
  rintro _ S Q E ⟨w, s, rfl, ⟨m, n, h1, h2, h3, hn⟩, k⟩
  unfold b_lies_on
  simp only [ML.q_mstart, ML.q_mends, List.map_cons, List.map_nil, List.replicate, List.cons_append, List.nil_append]
  have ll : ∀ {p : Pt}, SzS m p → SzS (max m n) p := fun h => ⟨Nat.le_trans h.1 (Nat.le_max_left _ _), Nat.le_trans h.2 (Nat.le_max_left _ _)⟩
  have rr : ∀ {p : Pt}, SzS n p → SzS (max m n) p := fun h => ⟨Nat.le_trans h.1 (Nat.le_max_right _ _), Nat.le_trans h.2 (Nat.le_max_right _ _)⟩
  simp only [gz5]
  refine ⟨_, _, rfl, ⟨max m n, rr h3, ll h1, by omega⟩, ?_⟩
  simp only [gz5]
  refine ⟨fun z1 => ?_, fun z1 => ?_⟩
  · simp only [gz5]
    have e : decide (liesOn w s) = false := by simp [liesOn, z1]
    rw [e] at k; exact k
  simp only [gz5]
  refine ⟨_, _, rfl, ⟨max m n, ll h2, rr h3, by omega⟩, ?_⟩
  simp only [gz5]
  refine ⟨fun z2 => ?_, fun z2 => ?_⟩
  · simp only [gz5]
    have e : decide (liesOn w s) = false := by simp [liesOn, z2]
    rw [e] at k; exact k
  simp only [gz5]
  refine ⟨_, _, rfl, ⟨m, n, h1, h2, h3, by omega⟩, ?_⟩
  simp only [gz5]
  have e : (side w s = 0) = liesOn w s := by simp [liesOn, z1, z2]
  simp only [e]; exact k
--CUT
theorem r_spot_of_lines : ∀ ds S Q E, FL.sp_wspot_of_lines ds S Q E → b_spot_of_lines (mends Q E) (mstart 2 ds) S := by
  rintro _ S Q E ⟨a, b, rfl, h1, h2, hc, k⟩
  unfold b_spot_of_lines
  simp only [ML.q_mstart, ML.q_mends, List.map_cons, List.map_nil, List.replicate, List.cons_append, List.nil_append]
  have i1 : BP (alng a) 241 := inferInstance
  have i2 : BP (alng b) 241 := inferInstance
  have i3 : BP (alng (a.1, b.1)) 241 := inferInstance
  simp (disch := (first | assumption | omega)) only [gz2]
  refine w_crossed i3 i2 (by decide) ?_
  simp (disch := (first | assumption | omega)) only [gz2]
  refine w_crossed i1 i2 (by decide) ?_
  simp (disch := (first | assumption | omega)) only [gz2]
  exact k
theorem r_meeting_in_line : ∀ ds S Q E, FL.sp_wmeeting_in_line ds S Q E → b_meeting_in_line (mends Q E) (mstart 2 ds) S := by
  rintro _ S Q E ⟨a, b, rfl, h1, h2, k⟩
  unfold b_meeting_in_line
  simp only [ML.q_mstart, ML.q_mends, List.map_cons, List.map_nil, List.replicate, List.cons_append, List.nil_append]
  simp (disch := (first | assumption | omega)) only [gz2]
  refine w_side h1 h2.f (by decide) ?_
  simp (disch := (first | assumption | omega)) only [gz2]
  have fin : ∀ m, m = inLine a b → Q (meD m) S := by rintro _ rfl; exact k
  refine ⟨fun hs => ?_, fun hs => ?_⟩
  · simp (disch := (first | assumption | omega)) only [gz2]
    exact fin .no (by unfold inLine; rw [if_pos hs])
  simp (disch := (first | assumption | omega)) only [gz2]
  refine jf (fun σ' S' => @KP ⟨σ' = [some (wlD a), some (wlD b), some (spD (maxP a.1 b.1)), none] ∧ S' = S⟩) (fun z => ?_) (fun z => ?_) ?_
  · simp (disch := (first | assumption | omega)) only [gz2]
    exact KP.mk ⟨by unfold maxP; rw [if_pos z], rfl⟩
  · simp (disch := (first | assumption | omega)) only [gz2]
    exact KP.mk ⟨by unfold maxP; rw [if_neg z], rfl⟩
  rintro _ S1 ⟨rfl, rfl⟩
  simp (disch := (first | assumption | omega)) only [gz2]
  refine jf (fun σ' S' => @KP ⟨σ' = [some (wlD a), some (wlD b), some (spD (maxP a.1 b.1)), some (spD (minP a.2 b.2))] ∧ S' = S1⟩) (fun z => ?_) (fun z => ?_) ?_
  · simp (disch := (first | assumption | omega)) only [gz2]
    exact KP.mk ⟨by unfold minP; rw [if_pos z], rfl⟩
  · simp (disch := (first | assumption | omega)) only [gz2]
    exact KP.mk ⟨by unfold minP; rw [if_neg z], rfl⟩
  rintro _ S2 ⟨rfl, rfl⟩
  have z1 : BP (maxP a.1 b.1) 120 := maxP_b2 h1.f h2.f
  have z2 : BP (minP a.2 b.2) 120 := minP_b2 h1.s h2.s
  simp (disch := (first | assumption | omega)) only [gz2]
  refine ⟨fun z => ?_, fun z => ?_⟩
  · simp (disch := (first | assumption | omega)) only [gz2]
    exact fin (.spot (maxP a.1 b.1)) (by unfold inLine; rw [if_neg hs, if_pos z])
  simp (disch := (first | assumption | omega)) only [gz2]
  refine ⟨fun y => ?_, fun y => ?_⟩
  · simp (disch := (first | assumption | omega)) only [gz2]
    exact fin (.stretch (maxP a.1 b.1, minP a.2 b.2)) (by unfold inLine; rw [if_neg hs, if_neg z, if_pos y])
  · simp (disch := (first | assumption | omega)) only [gz2]
    exact fin .no (by unfold inLine; rw [if_neg hs, if_neg z, if_neg y])
theorem r_meeting : ∀ ds S Q E, FL.sp_wmeeting ds S Q E → b_meeting (mends Q E) (mstart 1 ds) S := by
  rintro _ S Q E ⟨a, b, rfl, h1, h2, k⟩
  unfold b_meeting
  simp only [ML.q_mstart, ML.q_mends, List.map_cons, List.map_nil, List.replicate, List.cons_append, List.nil_append]
  have i1 : BP (alng a) 241 := inferInstance
  have i2 : BP (alng b) 241 := inferInstance
  simp (disch := (first | assumption | omega)) only [gz2]
  refine w_leaning i1 i2 (by decide) ?_
  simp (disch := (first | assumption | omega)) only [gz2]
  rw [sgn_0]
  have fin : ∀ m, m = meetW a b → Q (meD m) S := by rintro _ rfl; exact k
  refine ⟨fun hc => ?_, fun hc => ?_⟩
  · simp (disch := (first | assumption | omega)) only [gz2]
    exact ⟨a, b, rfl, h1, h2, fin _ (by unfold meetW; rw [if_pos hc])⟩
  simp (disch := (first | assumption | omega)) only [gz2]
  refine ⟨a, b, rfl, h1, h2, hc, ?_⟩
  have hz : BP (solW a b) 2300 := sol_120
  simp (disch := (first | assumption | omega)) only [gz2]
  refine w_lies h1 hz (by decide) ?_
  simp (disch := (first | assumption | omega)) only [gz2]
  refine ⟨fun y => ?_, fun y => ?_⟩
  · simp (disch := (first | assumption | omega)) only [gz2]
    refine w_lies h2 hz (by decide) ?_
    simp (disch := (first | assumption | omega)) only [gz2]
    refine ⟨fun x => ?_, fun x => ?_⟩
    · simp (disch := (first | assumption | omega)) only [gz2]
      exact fin (.spot (solW a b)) (by unfold meetW; rw [if_neg hc, if_pos ⟨y, x⟩])
    · simp (disch := (first | assumption | omega)) only [gz2]
      exact fin .no (by unfold meetW; rw [if_neg hc, if_neg (fun z => x z.2)])
  · simp (disch := (first | assumption | omega)) only [gz2]
    exact fin .no (by unfold meetW; rw [if_neg hc, if_neg (fun z => y z.1)])
theorem r_is_fair : ∀ ds S Q E, FL.sp_wis_fair ds S Q E → b_is_fair (mends Q E) (mstart 1 ds) S := by
  rintro _ S Q E ⟨a, b, rfl, ha, hb, k⟩
  unfold b_is_fair
  simp only [ML.q_mstart, ML.q_mends, List.map_cons, List.map_nil, List.replicate, List.cons_append, List.nil_append]
  simp only [gz1]
  refine ⟨a, b, rfl, ha, hb, ?_⟩
  simp only [gz1]
  unfold isFair at k
  have hw : ¬ (("stretch" : Str) = "spot") := by decide +kernel
  have o1 : eqOk (.str "spot") (.str "spot") = true := by decide +kernel
  have o2 : eqOk (.str "stretch") (.str "spot") = true := by decide +kernel
  cases e : meetW a b with
  | no => rw [e] at k; simp only [gz1, meD]; exact k
  | spot p =>
    rw [e] at k
    simp only [gz1, meD, o1, in_wl]
    simp only at k
    generalize (decide (a.1 = p) || decide (a.2 = p)) = x at k ⊢
    cases x
    · simp only [gz1, meD, o1, in_wl]; exact k
    · simp only [gz1, meD, o1, in_wl]; exact k
  | stretch w =>
    rw [e] at k; simp only [gz1, meD, o2, hw]; exact k
theorem r_unfair_with : ∀ ds S Q E, FL.sp_wunfair_with ds S Q E → b_unfair_with (mends Q E) (mstart 2 ds) S := by
  rintro _ S Q E ⟨d, ws, w, rfl, hd, hz, hb, hv, k⟩
  unfold b_unfair_with
  simp only [ML.q_mstart, ML.q_mends, List.map_cons, List.map_nil, List.replicate, List.cons_append, List.nil_append]
  simp only [gz1, ML.q_iEn, hd.of]
  refine wfor_inv (fun i σ S' => @KP ⟨(∃ a b, σ = [some d, some (wlD w), a, b]) ∧ S' = S ∧ ∀ v ∈ ws.take i, isFair w v = true⟩) ⟨⟨_, _, rfl⟩, rfl, fun v hv => by simp at hv⟩ ?_ ?_
  · rintro i x σ S' hx ⟨⟨a, b, rfl⟩, rfl, hf⟩
    obtain ⟨y, hy, rfl⟩ := enumD_get hx
    rw [List.getElem?_map] at hy
    cases ea : ws[i]? with
    | none => rw [ea] at hy; cases hy
    | some v =>
      rw [ea] at hy; cases hy
      have hm : v ∈ ws := List.mem_of_getElem? ea
      refine ⟨hd.of, ?_⟩
      simp only [gz1]
      refine ⟨w, v, rfl, hb, hv v hm, ?_⟩
      simp only [gz1]
      refine ⟨fun h => ?_, fun h => ?_⟩
      · simp only [gz1]
        have e : unfairAt ws w = some i := by
          unfold unfairAt
          rw [List.findIdx?_eq_some_iff_getElem]
          obtain ⟨hi, ei⟩ := List.getElem?_eq_some_iff.mp ea
          refine ⟨hi, by rw [ei, h]; rfl, fun j hj => ?_⟩
          have := hf ws[j] (List.mem_take_iff_getElem.mpr ⟨j, by omega, rfl⟩)
          rw [this]; simp
        rw [e] at k
        exact k
      · simp only [gz1]
        refine KP.mk ⟨⟨_, _, rfl⟩, rfl, fun u hu => ?_⟩
        rw [List.take_add_one, ea] at hu
        rcases List.mem_append.mp hu with z | z
        · exact hf u z
        · have : u = v := by simpa using z
          rw [this]; simpa using h
  · rintro σ S' ⟨⟨a, b, rfl⟩, rfl, hf⟩
    rw [enumD_len, List.length_map, List.take_length] at hf
    refine ⟨hd.of, ?_⟩
    simp only [gz1]
    rw [unfair_none hf] at k
    exact k
theorem r_law_is_whole : ∀ ds S Q E, sp_law_is_whole ds S Q E → b_law_is_whole (mends Q E) (mstart 1 ds) S := by
  rintro _ S Q E ⟨l, rfl, asc, hl, k⟩
  unfold b_law_is_whole
  simp only [ML.q_mstart, ML.q_mends, List.map_cons, List.map_nil, List.replicate, List.cons_append, List.nil_append]
  have e : lenD S (.str (ofL l)) = some l.length := by
    show (if (ofL l).length ≤ sizeLine then some (ofL l).length else none) = _
    rw [ofL_len, if_pos hl]
  simp only [gz5, e]
  have bad : ¬ (1 ≤ l.length ∧ l.length ≤ 30) → Q (.bl false) S := fun h => by
    have e2 : wholeL l = false := by unfold wholeL; rw [decide_eq_false h]; rfl
    rw [e2] at k; exact k
  refine ⟨fun h1 => ?_, fun h1 => ?_⟩
  · simp only [gz5]
    refine ⟨fun h2 => ?_, fun h2 => ?_⟩
    · simp only [gz5]
      exact bad (by omega)
    · have h2 : (l.length : Int) ≤ 30 := by omega
      simp only [gz5]
      intro p hp
      refine comp_filter (fun c => .str ⟨#[c]⟩) (fun c => .str ⟨#[c]⟩) (fun c => !decide (c ∈ ([48, 49, 50, 51, 52, 53, 54, 55, 56, 57] : List Nat))) l rfl (by omega) (fun _ => trivial) ?_ ?_
      · intro c acc Q0 Q1 hm q1 q0
        simp only [gz5, T_figs]
        refine ⟨fun h => q1 (by rw [decide_eq_false (show ¬ c ∈ ([48, 49, 50, 51, 52, 53, 54, 55, 56, 57] : List Nat) from h)]; rfl), fun h => q0 (by rw [decide_eq_true (show c ∈ ([48, 49, 50, 51, 52, 53, 54, 55, 56, 57] : List Nat) from Decidable.not_not.mp h)]; rfl)⟩
      · simp only [gz5, del_put hp]
        generalize hg : l.filter (fun c => !decide (c ∈ ([48, 49, 50, 51, 52, 53, 54, 55, 56, 57] : List Nat))) = g
        have hgm : ∀ c ∈ g, c < 128 := fun c hc => asc c (List.mem_filter.mp (by rw [← hg] at hc; exact hc)).1
        have pl : D.plain (.lst (g.map fun c => D.str ⟨#[c]⟩)) = true := signs_plain hgm
        have dl : D.dep (.lst (g.map fun c => D.str ⟨#[c]⟩)) ≤ 64 := by
          have := deps_of (f := fun c : Nat => D.str ⟨#[c]⟩) (k := 0) (fun _ => Nat.le_refl _) g
          show D.deps _ + 1 ≤ 64
          omega
        refine ⟨eqOk_of' pl rfl dl (by decide), ?_⟩
        unfold wholeL at k
        rw [decide_eq_true (⟨by omega, by omega⟩ : 1 ≤ l.length ∧ l.length ≤ 30), Bool.true_and] at k
        cases g with
        | cons a r =>
          refine ⟨fun _ => ?_, fun h => absurd rfl h⟩
          simp only [gz5, del_put hp]
          have : (l.all fun c => decide (c ∈ ([48, 49, 50, 51, 52, 53, 54, 55, 56, 57] : List Nat))) = false := by
            have ha : a ∈ l.filter (fun c => !decide (c ∈ ([48, 49, 50, 51, 52, 53, 54, 55, 56, 57] : List Nat))) := by rw [hg]; exact List.mem_cons_self
            obtain ⟨ha1, ha2⟩ := List.mem_filter.mp ha
            cases hh : l.all fun c => decide (c ∈ ([48, 49, 50, 51, 52, 53, 54, 55, 56, 57] : List Nat)) with
            | false => rfl
            | true =>
              have := List.all_eq_true.mp hh a ha1
              rw [this] at ha2; cases ha2
          rw [this, Bool.false_and] at k
          exact k
        | nil =>
          refine ⟨fun h => (by cases h), fun _ => ?_⟩
          simp only [gz5, del_put hp, T_0, ofL_inj]
          have : (l.all fun c => decide (c ∈ ([48, 49, 50, 51, 52, 53, 54, 55, 56, 57] : List Nat))) = true := by
            rw [List.all_eq_true]
            intro c hc
            cases hh : decide (c ∈ ([48, 49, 50, 51, 52, 53, 54, 55, 56, 57] : List Nat)) with
            | true => rfl
            | false =>
              have : c ∈ l.filter (fun c => !decide (c ∈ ([48, 49, 50, 51, 52, 53, 54, 55, 56, 57] : List Nat))) := List.mem_filter.mpr ⟨hc, by rw [hh]; rfl⟩
              rw [hg] at this; cases this
          rw [this, Bool.true_and] at k
          refine ⟨fun h3 => ?_, fun h3 => ?_⟩
          · simp only [gz5, del_put hp]
            rw [decide_eq_true h3, Bool.or_true] at k
            exact k
          · cases l with
            | nil => simp at h1
            | cons a r =>
              rw [decide_eq_false h3, Bool.or_false] at k
              simp only [gz5, del_put hp]
              refine ⟨a, ⟨by rw [ofL_len]; exact hl, by show atI (a :: r) 0 = some a; simp [atI, ixN]⟩, ?_⟩
              simp only [gz5, T_0]
              rw [show (⟨#[a]⟩ : Str) = ofL [a] from rfl]
              have e3 : (decide (ofL [a] = ofL [48])) = decide (a = 48) := by
                by_cases h : a = 48
                · rw [h]; simp
                · rw [decide_eq_false h, decide_eq_false]; exact fun e => h (by injection ofL_inj.mp e)
              have e4 : decide ((a :: r).head? ≠ some 48) = !decide (a = 48) := by by_cases h : a = 48 <;> simp [h]
              rw [e3]
              rw [e4] at k; exact k
  · simp only [gz5]
    exact bad (by omega)
theorem spl_par {s : Nat} : ∀ (l acc : List Nat), spl [s] 0 acc l = match par [s] acc l with
    | none => [acc ++ l]
    | some (a, b) => a :: spl [s] 0 [] b
  | [], acc => by rw [spl_nil]; show _ = [acc ++ []]; rw [List.append_nil]
  | c :: r, acc => by
    cases hp : pre [s] (c :: r) with
    | true => rw [spl_hit hp, par_hit hp]; rfl
    | false =>
      rw [spl_miss hp, par_miss hp, spl_par r (acc ++ [c])]
      cases par [s] (acc ++ [c]) r with
      | none => show [acc ++ [c] ++ r] = [acc ++ c :: r]; rw [List.append_assoc]; rfl
      | some ab => rfl
theorem par_mem {S : List Nat} : ∀ {l acc a b : List Nat}, par S acc l = some (a, b) → (∀ c ∈ a, c ∈ acc ∨ c ∈ l) ∧ ∀ c ∈ b, c ∈ l
  | [], acc, a, b, h => by cases h
  | c :: r, acc, a, b, h => by
    cases hp : pre S (c :: r) with
    | true =>
      rw [par_hit hp] at h
      injection h with h
      injection h with h1 h2
      rw [← h1, ← h2]
      exact ⟨fun c hc => .inl hc, fun c hc => List.mem_of_mem_drop hc⟩
    | false =>
      rw [par_miss hp] at h
      obtain ⟨p, q⟩ := par_mem h
      refine ⟨fun x hx => ?_, fun x hx => List.mem_cons_of_mem _ (q x hx)⟩
      rcases p x hx with h | h
      · rcases List.mem_append.mp h with h | h
        · exact .inl h
        · exact .inr (by rw [List.mem_singleton.mp h]; exact List.mem_cons_self)
      · exact .inr (List.mem_cons_of_mem _ h)
theorem deq_low {v d : Nat} (h0 : d ≠ 0) : D.deq (fr (Rat.divInt (v : Nat) (d : Nat))) (uD ((v : Nat), (d : Nat))) = decide (Nat.gcd v d = 1) := by
  by_cases h : Nat.gcd v d = 1
  · rw [decide_eq_true h, fr_divInt (n := (v : Nat)) (by rw [Int.natAbs_natCast]; exact h) h0]
    exact deq_refl _ rfl
  · rw [decide_eq_false h]
    generalize hq : Rat.divInt (v : Nat) (d : Nat) = q
    show ((q.num == (v : Int)) && ((((q.den : Nat) : Int) == (d : Int)) && true)) = false
    cases e1 : q.num == (v : Int) with
    | false => rfl
    | true =>
      cases e2 : ((q.den : Nat) : Int) == (d : Int) with
      | false => rfl
      | true =>
        refine absurd ?_ h
        have h1 : q.num = (v : Int) := by simpa using e1
        have h2 : q.den = d := by have : ((q.den : Nat) : Int) = (d : Int) := by simpa using e2
                                  omega
        have := q.reduced
        rw [h1, h2, Int.natAbs_natCast] at this
        exact this
theorem whole_no {b : List Nat} (h : wholeL b = true) : par [47] [] b = none := par_none1 fun hm => by
  have := (wholeL_digits h).1 47 hm; omega
theorem r_law_fraction : ∀ ds S Q E, sp_law_fraction ds S Q E → b_law_fraction (mends Q E) (mstart 3 ds) S := by
  rintro _ S Q E ⟨l, rfl, asc, hl, k⟩
  unfold b_law_fraction
  simp only [ML.q_mstart, ML.q_mends, List.map_cons, List.map_nil, List.replicate, List.cons_append, List.nil_append]
  have es : Txt.split (ofL l) (Str.ofString "/") = (spl [47] 0 [] l).map ofL := by rw [split_L (by decide) (by decide)]; rfl
  have hb : ((Str.ofString "/").length == 0) = false ∧ (ofL l).length + 2 ≤ sizeLine := ⟨by decide, by rw [ofL_len]; show _ ≤ 2 ^ 24; omega⟩
  cases hp : par [47] [] l with
  | none =>
    have e2 : (Txt.split (ofL l) (Str.ofString "/")).map D.str = [D.str (ofL l)] := by rw [es, spl_par, hp]; rfl
    simp only [gz5, e2, T_minus, T_mnought, T_1, cut_take1, cut_drop1, ofL_inj]
    have bad : wholeL (figL l) = false ∨ l = [45, 48] → Q .non S := fun h => by
      have : fracIn l = none := by
        unfold fracIn
        rw [hp]
        dsimp only
        rw [if_neg]
        rcases h with h | h
        · rw [h]; simp
        · rw [decide_eq_true h]; simp
      rw [this] at k; exact k
    have af : AscL (figL l) := fun c hc => by
      unfold figL at hc
      split at hc
      · exact asc c (List.mem_of_mem_drop hc)
      · exact asc c hc
    refine ⟨hb, by rw [ofL_len]; show _ ≤ 2 ^ 24; omega, ?_⟩
    refine ⟨fun h => ?_, fun h => ?_⟩
    · simp only [gz5, e2, T_mnought, T_1, cut_drop1, ofL_inj]
      have hf : l.drop 1 = figL l := by unfold figL; rw [if_pos h]
      refine ⟨by rw [ofL_len]; show _ ≤ 2 ^ 24; omega, figL l, by rw [hf], af, by rw [← hf, List.length_drop]; show _ ≤ 2 ^ 24; omega, ?_⟩
      simp only [gz5, T_mnought, T_1, ofL_inj]
      refine ⟨fun w => ?_, fun w => ?_⟩
      · simp only [gz5]
        exact bad (.inl w)
      have w := (Bool.not_eq_false _).mp w
      simp only [gz5, T_mnought, T_1, ofL_inj]
      refine ⟨fun h2 => ?_, fun h2 => ?_⟩
      · simp only [gz5]
        exact bad (.inr h2)
      simp only [gz5, T_mnought, T_1, ofL_inj]
      refine ⟨[49], rfl, fun c hc => by rw [List.mem_singleton.mp hc]; decide, by decide, ?_⟩
      rw [show wholeL [49] = true by decide]
      have j1 : intText? (ofL [49]) = some (1 : Int) := (int_whole (l := [49]) (by decide)).1
      have j2 : (ofL [49]).length ≤ 640 := by decide
      simp only [gz5]
      refine ⟨1, j1, j2, ?_⟩
      simp only [gz5]
      have iw : intText? (ofL (l.drop 1)) = some ((NumText.digitsVal (figL l) : Nat) : Int) ∧ (ofL (l.drop 1)).length ≤ 640 := by rw [hf]; exact int_whole w
      refine ⟨_, iw.1, iw.2, ?_⟩
      simp only [gz5]
      refine ⟨1, j1, j2, ?_⟩
      simp only [gz5]
      refine ⟨_, 1, rfl, by decide, by decide, ?_⟩
      simp only [gz5]
      refine ⟨_, iw.1, iw.2, ?_⟩
      simp only [gz5]
      refine ⟨1, j1, j2, ?_⟩
      simp only [gz5]
      have e5 : fr (Rat.divInt ((NumText.digitsVal (figL l) : Nat) : Int) 1) = .tup [.int ((NumText.digitsVal (figL l) : Nat) : Int), .int 1] := fr_divInt (d := 1) (Nat.gcd_one_right _) (by decide)
      simp only [e5]
      have pl : D.plain (.tup [.int ((NumText.digitsVal (figL l) : Nat) : Int), .int 1]) = true := rfl
      have dl : D.dep (.tup [.int ((NumText.digitsVal (figL l) : Nat) : Int), .int 1]) ≤ 64 := by simp [D.dep, D.deps]
      refine ⟨eqOk_of' pl pl dl dl, ?_⟩
      rw [show uD (((NumText.digitsVal (figL l) : Nat) : Int), 1) = .tup [.int ((NumText.digitsVal (figL l) : Nat) : Int), .int 1] from rfl, deq_refl _ pl]
      refine ⟨fun h => (by cases h), fun _ => ?_⟩
      simp only [gz5]
      refine ⟨_, (int_sign w).1, (int_sign w).2, ?_⟩
      simp only [gz5]
      refine ⟨1, j1, j2, ?_⟩
      simp only [gz5]
      have : fracIn l = some ((signL l : Int) : Rat) := by
        unfold fracIn
        rw [hp]
        dsimp only
        rw [if_pos]
        rw [w, decide_eq_false h2]; rfl
      rw [this] at k
      exact k
    · simp only [gz5, e2, T_mnought, T_1, ofL_inj]
      have hf : figL l = l := by unfold figL; rw [if_neg h]
      refine ⟨figL l, by rw [hf], af, by rw [hf]; show _ ≤ 2 ^ 24; omega, ?_⟩
      simp only [gz5, T_mnought, T_1, ofL_inj]
      refine ⟨fun w => ?_, fun w => ?_⟩
      · simp only [gz5]
        exact bad (.inl w)
      have w := (Bool.not_eq_false _).mp w
      simp only [gz5, T_mnought, T_1, ofL_inj]
      refine ⟨fun h2 => ?_, fun h2 => ?_⟩
      · simp only [gz5]
        exact bad (.inr h2)
      simp only [gz5, T_mnought, T_1, ofL_inj]
      refine ⟨[49], rfl, fun c hc => by rw [List.mem_singleton.mp hc]; decide, by decide, ?_⟩
      rw [show wholeL [49] = true by decide]
      have j1 : intText? (ofL [49]) = some (1 : Int) := (int_whole (l := [49]) (by decide)).1
      have j2 : (ofL [49]).length ≤ 640 := by decide
      simp only [gz5]
      refine ⟨1, j1, j2, ?_⟩
      simp only [gz5]
      have iw : intText? (ofL l) = some ((NumText.digitsVal (figL l) : Nat) : Int) ∧ (ofL l).length ≤ 640 := by have iw := int_whole w; rw [hf] at iw ⊢; exact iw
      refine ⟨_, iw.1, iw.2, ?_⟩
      simp only [gz5]
      refine ⟨1, j1, j2, ?_⟩
      simp only [gz5]
      refine ⟨_, 1, rfl, by decide, by decide, ?_⟩
      simp only [gz5]
      refine ⟨_, iw.1, iw.2, ?_⟩
      simp only [gz5]
      refine ⟨1, j1, j2, ?_⟩
      simp only [gz5]
      have e5 : fr (Rat.divInt ((NumText.digitsVal (figL l) : Nat) : Int) 1) = .tup [.int ((NumText.digitsVal (figL l) : Nat) : Int), .int 1] := fr_divInt (d := 1) (Nat.gcd_one_right _) (by decide)
      simp only [e5]
      have pl : D.plain (.tup [.int ((NumText.digitsVal (figL l) : Nat) : Int), .int 1]) = true := rfl
      have dl : D.dep (.tup [.int ((NumText.digitsVal (figL l) : Nat) : Int), .int 1]) ≤ 64 := by simp [D.dep, D.deps]
      refine ⟨eqOk_of' pl pl dl dl, ?_⟩
      rw [show uD (((NumText.digitsVal (figL l) : Nat) : Int), 1) = .tup [.int ((NumText.digitsVal (figL l) : Nat) : Int), .int 1] from rfl, deq_refl _ pl]
      refine ⟨fun h => (by cases h), fun _ => ?_⟩
      simp only [gz5]
      refine ⟨_, (int_sign w).1, (int_sign w).2, ?_⟩
      simp only [gz5]
      refine ⟨1, j1, j2, ?_⟩
      simp only [gz5]
      have : fracIn l = some ((signL l : Int) : Rat) := by
        unfold fracIn
        rw [hp]
        dsimp only
        rw [if_pos]
        rw [w, decide_eq_false h2]; rfl
      rw [this] at k
      exact k
  | some tb =>
    obtain ⟨t, b⟩ := tb
    have at_ : AscL t := fun c hc => by
      rcases (par_mem hp).1 c hc with h | h
      · cases h
      · exact asc c h
    have ab : AscL b := fun c hc => asc c ((par_mem hp).2 c hc)
    have ltb : t.length ≤ 1000000 ∧ b.length ≤ 1000000 := by have := par_len hp; simp only [List.length_nil] at this; omega
    have af : AscL (figL t) := fun c hc => by
      unfold figL at hc
      split at hc
      · exact at_ c (List.mem_of_mem_drop hc)
      · exact at_ c hc
    have bad : wholeL (figL t) = false ∨ t = [45, 48] ∨ wholeL b = false ∨ (b = [48] ∨ b = [49]) ∨ Nat.gcd (NumText.digitsVal (figL t)) (NumText.digitsVal b) ≠ 1 → Q .non S := fun h => by
      have : fracIn l = none := by
        unfold fracIn
        rw [hp]
        dsimp only
        rw [if_neg]
        rcases h with h | h | h | h | h
        · rw [h]; simp
        · rw [decide_eq_true h]; simp
        · rw [h]; simp
        · rw [decide_eq_true h]; simp
        · rw [decide_eq_false h]; simp
      rw [this] at k; exact k
    cases hq : par [47] [] b with
    | some cd =>
      obtain ⟨c1, d1⟩ := cd
      have e2 : (Txt.split (ofL l) (Str.ofString "/")).map D.str = D.str (ofL t) :: D.str (ofL c1) :: (spl [47] 0 [] d1).map fun x => D.str (ofL x) := by
        rw [es, spl_par, hp]
        dsimp only
        rw [spl_par b, hq, List.map_map]; rfl
      have nb : wholeL b = false := by
        cases h : wholeL b with
        | false => rfl
        | true => rw [whole_no h] at hq; cases hq
      have ln : 0 < (spl [47] 0 [] d1).length := by
        rw [spl_par]
        split <;> simp
      simp only [gz5, e2, T_minus, T_mnought, T_1, cut_take1, cut_drop1, ofL_inj]
      refine ⟨hb, by rw [ofL_len]; show _ ≤ 2 ^ 24; omega, fun h => ?_, fun h => ?_⟩
      · simp only [gz5, e2, T_mnought, T_1, cut_drop1, ofL_inj, List.length_cons, List.length_map]
        refine ⟨by rw [ofL_len]; show _ ≤ 2 ^ 24; omega, fun _ => ?_, fun h => absurd (by omega) h⟩
        simp only [gz5]
        exact bad (.inr (.inr (.inl nb)))
      · simp only [gz5, e2, T_mnought, T_1, cut_drop1, ofL_inj, List.length_cons, List.length_map]
        refine ⟨fun _ => ?_, fun h => absurd (by omega) h⟩
        simp only [gz5]
        exact bad (.inr (.inr (.inl nb)))
    | none =>
      have e2 : (Txt.split (ofL l) (Str.ofString "/")).map D.str = [D.str (ofL t), D.str (ofL b)] := by
        rw [es, spl_par, hp]
        dsimp only
        rw [spl_par b, hq]; rfl
      simp only [gz5, e2, T_minus, T_mnought, T_1, cut_take1, cut_drop1, ofL_inj]
      refine ⟨hb, by rw [ofL_len]; show _ ≤ 2 ^ 24; omega, ?_⟩
      refine ⟨fun h => ?_, fun h => ?_⟩
      · simp only [gz5, e2, T_mnought, T_1, cut_drop1, ofL_inj]
        have hf : t.drop 1 = figL t := by unfold figL; rw [if_pos h]
        refine ⟨by rw [ofL_len]; show _ ≤ 2 ^ 24; omega, figL t, by rw [hf], af, by rw [← hf, List.length_drop]; show _ ≤ 2 ^ 24; omega, ?_⟩
        simp only [gz5, T_mnought, T_1, ofL_inj]
        refine ⟨fun w => ?_, fun w => ?_⟩
        · simp only [gz5]
          exact bad (.inl w)
        have w := (Bool.not_eq_false _).mp w
        simp only [gz5, T_mnought, T_1, ofL_inj]
        refine ⟨fun h2 => ?_, fun h2 => ?_⟩
        · simp only [gz5]
          exact bad (.inr (.inl h2))
        simp only [gz5, T_mnought, T_1, ofL_inj]
        refine ⟨b, rfl, ab, by show _ ≤ 2 ^ 24; omega, ?_⟩
        simp only [gz5, T_1]
        refine ⟨fun w2 => ?_, fun w2 => ?_⟩
        · simp only [gz5]
          exact bad (.inr (.inr (.inl w2)))
        have w2 := (Bool.not_eq_false _).mp w2
        have j := int_whole w2
        have iw : intText? (ofL (t.drop 1)) = some ((NumText.digitsVal (figL t) : Nat) : Int) ∧ (ofL (t.drop 1)).length ≤ 640 := by rw [hf]; exact int_whole w
        simp only [gz5, T_1]
        refine ⟨_, j.1, j.2, ?_⟩
        simp only [gz5, T_1, ofL_inj]
        refine ⟨fun h3 => ?_, fun h3 => ?_⟩
        · simp only [gz5]
          refine bad (.inr (.inr (.inr (.inl (.inl ?_)))))
          exact Decidable.byContradiction fun hn => whole_pos w2 hn (by omega)
        have h3 : NumText.digitsVal b ≠ 0 := by omega
        simp only [gz5, T_1, ofL_inj]
        refine ⟨fun h4 => ?_, fun h4 => ?_⟩
        · simp only [gz5]
          exact bad (.inr (.inr (.inr (.inl (.inr h4)))))
        simp only [gz5]
        refine ⟨_, iw.1, iw.2, ?_⟩
        simp only [gz5]
        refine ⟨_, j.1, j.2, ?_⟩
        simp only [gz5]
        refine ⟨_, _, rfl, by omega, ?_, ?_⟩
        · have := whole_lt w2
          rw [Int.natAbs_natCast]
          exact Nat.lt_of_lt_of_le (log2_lt' (n := 100) (Nat.lt_of_lt_of_le this (by decide)) (by decide)) (by decide)
        simp only [gz5]
        refine ⟨_, iw.1, iw.2, ?_⟩
        simp only [gz5]
        refine ⟨_, j.1, j.2, ?_⟩
        simp only [gz5]
        refine ⟨eqOk_of' (plain_fr _) rfl (by rw [dep_fr]; decide) (by simp [uD, D.dep, D.deps]), ?_⟩
        rw [deq_low h3]
        refine ⟨fun h5 => ?_, fun h5 => ?_⟩
        · simp only [gz5]
          exact bad (.inr (.inr (.inr (.inr (by simpa using h5)))))
        have h5 : Nat.gcd (NumText.digitsVal (figL t)) (NumText.digitsVal b) = 1 := by simpa using h5
        simp only [gz5]
        refine ⟨_, (int_sign w).1, (int_sign w).2, ?_⟩
        simp only [gz5]
        refine ⟨_, j.1, j.2, ?_⟩
        simp only [gz5]
        have hnb : ¬ (b = [48] ∨ b = [49]) := by
          rintro (e | e)
          · rw [e] at h3; exact h3 rfl
          · exact h4 e
        have : fracIn l = some (Rat.divInt (signL t) (NumText.digitsVal b : Nat)) := by
          unfold fracIn
          rw [hp]
          dsimp only
          rw [if_pos]
          rw [w, w2, decide_eq_false h2, decide_eq_false hnb, decide_eq_true h5]; rfl
        rw [this] at k
        simp only [frO] at k
        rw [fr_divInt (by rw [signL_abs]; exact h5) h3] at k
        exact k
      · simp only [gz5, e2, T_mnought, T_1, ofL_inj]
        have hf : figL t = t := by unfold figL; rw [if_neg h]
        refine ⟨figL t, by rw [hf], af, by rw [hf]; show _ ≤ 2 ^ 24; omega, ?_⟩
        simp only [gz5, T_mnought, T_1, ofL_inj]
        refine ⟨fun w => ?_, fun w => ?_⟩
        · simp only [gz5]
          exact bad (.inl w)
        have w := (Bool.not_eq_false _).mp w
        simp only [gz5, T_mnought, T_1, ofL_inj]
        refine ⟨fun h2 => ?_, fun h2 => ?_⟩
        · simp only [gz5]
          exact bad (.inr (.inl h2))
        simp only [gz5, T_mnought, T_1, ofL_inj]
        refine ⟨b, rfl, ab, by show _ ≤ 2 ^ 24; omega, ?_⟩
        simp only [gz5, T_1]
        refine ⟨fun w2 => ?_, fun w2 => ?_⟩
        · simp only [gz5]
          exact bad (.inr (.inr (.inl w2)))
        have w2 := (Bool.not_eq_false _).mp w2
        have j := int_whole w2
        have iw : intText? (ofL t) = some ((NumText.digitsVal (figL t) : Nat) : Int) ∧ (ofL t).length ≤ 640 := by have iw := int_whole w; rw [hf] at iw ⊢; exact iw
        simp only [gz5, T_1]
        refine ⟨_, j.1, j.2, ?_⟩
        simp only [gz5, T_1, ofL_inj]
        refine ⟨fun h3 => ?_, fun h3 => ?_⟩
        · simp only [gz5]
          refine bad (.inr (.inr (.inr (.inl (.inl ?_)))))
          exact Decidable.byContradiction fun hn => whole_pos w2 hn (by omega)
        have h3 : NumText.digitsVal b ≠ 0 := by omega
        simp only [gz5, T_1, ofL_inj]
        refine ⟨fun h4 => ?_, fun h4 => ?_⟩
        · simp only [gz5]
          exact bad (.inr (.inr (.inr (.inl (.inr h4)))))
        simp only [gz5]
        refine ⟨_, iw.1, iw.2, ?_⟩
        simp only [gz5]
        refine ⟨_, j.1, j.2, ?_⟩
        simp only [gz5]
        refine ⟨_, _, rfl, by omega, ?_, ?_⟩
        · have := whole_lt w2
          rw [Int.natAbs_natCast]
          exact Nat.lt_of_lt_of_le (log2_lt' (n := 100) (Nat.lt_of_lt_of_le this (by decide)) (by decide)) (by decide)
        simp only [gz5]
        refine ⟨_, iw.1, iw.2, ?_⟩
        simp only [gz5]
        refine ⟨_, j.1, j.2, ?_⟩
        simp only [gz5]
        refine ⟨eqOk_of' (plain_fr _) rfl (by rw [dep_fr]; decide) (by simp [uD, D.dep, D.deps]), ?_⟩
        rw [deq_low h3]
        refine ⟨fun h5 => ?_, fun h5 => ?_⟩
        · simp only [gz5]
          exact bad (.inr (.inr (.inr (.inr (by simpa using h5)))))
        have h5 : Nat.gcd (NumText.digitsVal (figL t)) (NumText.digitsVal b) = 1 := by simpa using h5
        simp only [gz5]
        refine ⟨_, (int_sign w).1, (int_sign w).2, ?_⟩
        simp only [gz5]
        refine ⟨_, j.1, j.2, ?_⟩
        simp only [gz5]
        have hnb : ¬ (b = [48] ∨ b = [49]) := by
          rintro (e | e)
          · rw [e] at h3; exact h3 rfl
          · exact h4 e
        have : fracIn l = some (Rat.divInt (signL t) (NumText.digitsVal b : Nat)) := by
          unfold fracIn
          rw [hp]
          dsimp only
          rw [if_pos]
          rw [w, w2, decide_eq_false h2, decide_eq_false hnb, decide_eq_true h5]; rfl
        rw [this] at k
        simp only [frO] at k
        rw [fr_divInt (by rw [signL_abs]; exact h5) h3] at k
        exact k
--CUT
theorem spl_bd {s : Nat} : ∀ (l acc : List Nat), (spl [s] 0 acc l).length ≤ l.length + 1 ∧ ∀ p ∈ spl [s] 0 acc l, p.length ≤ acc.length + l.length ∧ ∀ c ∈ p, c ∈ acc ∨ c ∈ l
  | [], acc => by
    rw [spl_nil]
    refine ⟨Nat.le_refl _, fun p hp => ?_⟩
    rw [List.mem_singleton.mp hp]
    exact ⟨Nat.le_refl _, fun c hc => .inl hc⟩
  | c :: r, acc => by
    cases hp : pre [s] (c :: r) with
    | true =>
      rw [spl_hit hp]
      obtain ⟨h1, h2⟩ := spl_bd (s := s) r []
      refine ⟨by show _ + 1 ≤ _; rw [List.length_cons]; exact Nat.succ_le_succ h1, fun p hp2 => ?_⟩
      rcases List.mem_cons.mp hp2 with e | h
      · rw [e]; exact ⟨by omega, fun c hc => .inl hc⟩
      · obtain ⟨h3, h4⟩ := h2 p h
        refine ⟨by rw [List.length_cons]; simp only [List.length_nil] at h3; omega, fun x hx => ?_⟩
        rcases h4 x hx with h | h
        · cases h
        · exact .inr (List.mem_cons_of_mem _ h)
    | false =>
      rw [spl_miss hp]
      obtain ⟨h1, h2⟩ := spl_bd (s := s) r (acc ++ [c])
      refine ⟨by rw [List.length_cons]; omega, fun p hp2 => ?_⟩
      obtain ⟨h3, h4⟩ := h2 p hp2
      rw [List.length_append, List.length_singleton] at h3
      refine ⟨by rw [List.length_cons]; omega, fun x hx => ?_⟩
      rcases h4 x hx with h | h
      · rcases List.mem_append.mp h with h | h
        · exact .inl h
        · exact .inr (by rw [List.mem_singleton.mp h]; exact List.mem_cons_self)
      · exact .inr (List.mem_cons_of_mem _ h)
theorem spl_ne {s : Nat} (l : List Nat) : ∃ v r, spl [s] 0 [] l = v :: r := by
  rw [spl_par]
  split
  · exact ⟨_, _, rfl⟩
  · exact ⟨_, _, rfl⟩
theorem cut_tail {x : D} {xs : List D} : cutD (x :: xs) (some 1) none = xs := by
  have h : HT.sIx (x :: xs).length 0 (some 1) = 1 := by
    rw [List.length_cons]; exact (HT.sIx_nat _ _ 1).trans (by omega)
  show ((x :: xs).drop (HT.sIx (x :: xs).length 0 (some 1))).take (HT.sIx (x :: xs).length (x :: xs).length none - HT.sIx (x :: xs).length 0 (some 1)) = xs
  rw [h]
  show xs.take (xs.length + 1 - 1) = xs
  exact List.take_of_length_le (by omega)
theorem comp_mapw {α : Type} {σ : MSt} {S : Sto} {p : Addr} {own : List Nat} {G : Sto → Prop} {g : MG} {me : ME} {fin : List D → Sto → Prop} {items : List D} (enc res : α → D) (xs : List α) (hi : items = xs.map enc) (hz : xs.length < sizeLine) (hG : ∀ acc, G (put S p (.lst acc)))
    (h : ∀ a acc (Q : MQ), a ∈ xs → Q (res a) (put S p (.lst acc)) → g (enc a) (wipeM σ own) (put S p (.lst acc)) (fun σ2 S2 => me σ2 S2 Q noX) noX)
    (hf : fin (xs.map res) (put S p (.lst (xs.map res)))) : @CompP items σ (put S p (.lst [])) p own ⟨G⟩ ⟨g⟩ ⟨mYes⟩ ⟨me⟩ ⟨fin⟩ := by
  subst hi
  refine comp_inv (fun i acc S' => acc = (xs.take i).map res ∧ S' = put S p (.lst acc)) put_same ⟨by simp, rfl⟩ ?_ ?_
  · rintro i d acc S' e ⟨rfl, rfl⟩ -
    rw [List.getElem?_map] at e
    cases ea : xs[i]? with
    | none => rw [ea] at e; cases e
    | some a =>
      rw [ea] at e; cases e
      have hlt : i < xs.length := (List.getElem?_eq_some_iff.mp ea).1
      have hm : a ∈ xs := List.mem_of_getElem? ea
      refine ⟨hG _, h a _ _ hm ?_⟩
      refine CompNext.mk put_same (by simp only [List.length_map, List.length_take]; omega) ⟨?_, by rw [put_put]⟩
      rw [List.take_add_one, ea, List.map_append]; rfl
  · rintro acc S' ⟨rfl, rfl⟩ -
    refine ⟨hG _, ?_⟩
    rw [List.length_map, List.take_length]; exact hf
theorem r_law_shut_in : ∀ ds S Q E, sp_law_shut_in ds S Q E → b_law_shut_in (mends Q E) (mstart 7 ds) S := by
  rintro _ S Q E ⟨l, rfl, asc, hl, k⟩
  unfold b_law_shut_in
  simp only [ML.q_mstart, ML.q_mends, List.map_cons, List.map_nil, List.replicate, List.cons_append, List.nil_append]
  obtain ⟨v, r, hv⟩ := spl_ne (s := 32) l
  obtain ⟨bl, bm⟩ := spl_bd (s := 32) l []
  have es : (Txt.split (ofL l) (Str.ofString " ")).map D.str = D.str (ofL v) :: r.map fun x => D.str (ofL x) := by
    rw [T_blank, split_L (by decide) (by decide), tl_ofL, tl_ofL, hv, List.map_map]; rfl
  rw [hv] at bl bm k
  rw [List.length_cons] at bl
  simp only [gz5, es, cut_tail]
  refine ⟨⟨by decide, by rw [ofL_len]; show _ ≤ 2 ^ 24; omega⟩, fun p hp => ?_⟩
  refine comp_mapw (fun x => .str (ofL x)) (fun x => frO (fracIn x)) r rfl (by show _ < 2 ^ 24; omega) (fun _ => trivial) ?_ ?_
  · intro x acc Q1 hm q1
    simp only [gz5]
    have hx := bm x (List.mem_cons_of_mem _ hm)
    refine ⟨x, rfl, fun c hc => ?_, ?_, q1⟩
    · rcases hx.2 c hc with h | h
      · cases h
      · exact asc c h
    · have := hx.1; simp only [List.length_nil] at this; omega
  · simp only [gz5, T_wall, ofL_inj, List.length_cons, List.length_map]
    have kn : wallIn (v :: r) = none → ∀ o, Q .non (put S p o) := fun h o => by
      rw [h] at k
      exact k _ fun q u hq => by rw [put_ne (sne hq hp)]; exact hq
    refine ⟨fun h1 => ?_, fun h1 => ?_⟩
    · simp only [gz5]
      refine kn ?_ _
      unfold wallIn
      split
      · next w a b c d e => rw [if_neg]; injection e with e _; rw [← e]; exact h1
      · rfl
    have h1 : v = WALL := Decidable.not_not.mp h1
    simp only [gz5, List.length_cons, List.length_map]
    refine ⟨fun h2 => ?_, fun h2 => ?_⟩
    · simp only [gz5]
      refine kn ?_ _
      unfold wallIn
      split
      · next w a b c d e => injection e with _ e; rw [e] at h2; exact absurd rfl h2
      · rfl
    obtain ⟨a, b, c, d, rfl⟩ : ∃ a b c d, r = [a, b, c, d] := by
      match r, (by omega : r.length = 4) with
      | [a, b, c, d], _ => exact ⟨a, b, c, d, rfl⟩
    have hs : put S p (.lst [frO (fracIn a), frO (fracIn b), frO (fracIn c), frO (fracIn d)]) p = some (.lst [frO (fracIn a), frO (fracIn b), frO (fracIn c), frO (fracIn d)]) := put_same
    simp only [gz5]
    have pf : ∀ o : Option Rat, D.plain (frO o) = true ∧ D.dep (frO o) ≤ 1 := fun o => by
      cases o with
      | none => exact ⟨rfl, Nat.zero_le _⟩
      | some q => exact ⟨plain_fr _, by show D.dep (fr q) ≤ 1; rw [dep_fr]; decide⟩
    have mm : ∀ o : Option Rat, D.deq (frO o) .non = o.isNone := fun o => by cases o <;> rfl
    unfold rInM
    rw [look_ref' hs]
    refine ⟨⟨rfl, ?_, Nat.zero_le _, ?_⟩, ?_⟩
    · show (_ && (_ && (_ && (_ && true)))) = true
      rw [(pf _).1, (pf _).1, (pf _).1, (pf _).1]; rfl
    · have h1 := (pf (fracIn a)).2
      have h2 := (pf (fracIn b)).2
      have h3 := (pf (fracIn c)).2
      have h4 := (pf (fracIn d)).2
      show max _ (max _ (max _ (max _ 0))) ≤ 63
      omega
    have em : memD .non [frO (fracIn a), frO (fracIn b), frO (fracIn c), frO (fracIn d)] = ((fracIn a).isNone || ((fracIn b).isNone || ((fracIn c).isNone || ((fracIn d).isNone || false)))) := by
      show (D.deq _ .non || (D.deq _ .non || (D.deq _ .non || (D.deq _ .non || false)))) = _
      rw [mm, mm, mm, mm]
    rw [em]
    have wn : (fracIn a).isNone = true ∨ (fracIn b).isNone = true ∨ (fracIn c).isNone = true ∨ (fracIn d).isNone = true → wallIn (v :: [a, b, c, d]) = none := fun h => by
      unfold wallIn
      dsimp only
      rw [if_pos h1]
      unfold spotIn
      rcases h with h | h | h | h
      · rw [Option.isNone_iff_eq_none.mp h]
      · rw [Option.isNone_iff_eq_none.mp h]; cases fracIn a <;> rfl
      · rw [Option.isNone_iff_eq_none.mp h]; cases fracIn a <;> cases fracIn b <;> rfl
      · rw [Option.isNone_iff_eq_none.mp h]; cases fracIn a <;> cases fracIn b <;> cases fracIn c <;> rfl
    cases ea : fracIn a with
    | none =>
      refine ⟨fun _ => ?_, fun h => absurd rfl h⟩
      simp only [gz5]
      exact kn (wn (.inl (by rw [ea]; rfl))) _
    | some x1 => cases eb : fracIn b with
      | none =>
        refine ⟨fun _ => ?_, fun h => absurd rfl h⟩
        simp only [gz5]
        exact kn (wn (.inr (.inl (by rw [eb]; rfl)))) _
      | some x2 => cases ec : fracIn c with
        | none =>
          refine ⟨fun _ => ?_, fun h => absurd rfl h⟩
          simp only [gz5]
          exact kn (wn (.inr (.inr (.inl (by rw [ec]; rfl))))) _
        | some x3 => cases ed : fracIn d with
          | none =>
            refine ⟨fun _ => ?_, fun h => absurd rfl h⟩
            simp only [gz5]
            exact kn (wn (.inr (.inr (.inr (by rw [ed]; rfl))))) _
          | some x4 =>
            refine ⟨fun h => (by cases h), fun _ => ?_⟩
            have hs2 : put S p (.lst [frO (some x1), frO (some x2), frO (some x3), frO (some x4)]) p = some (.lst [frO (some x1), frO (some x2), frO (some x3), frO (some x4)]) := put_same
            rw [ea, eb, ec, ed] at hs
            simp only [gz5, hs]
            have fx : ∀ {l : List Nat} {x : Rat}, fracIn l = some x → sz x ≤ 100 := fun h => (fig_bd (fracIn_fig h)).le
            have s1 := fx ea
            have s2 := fx eb
            have s3 := fx ec
            have s4 := fx ed
            have key : ∀ {p q : Rat}, sz p ≤ 100 → sz q ≤ 100 → IntMulOk p.num (q.den : Nat) := fun h1 h2 => ok_nd (by omega)
            have res : wallIn (v :: [a, b, c, d]) = if ahead (x1, x2) (x3, x4) then some ((x1, x2), (x3, x4)) else none := by
              unfold wallIn
              dsimp only
              rw [if_pos h1]
              unfold spotIn
              rw [ea, eb, ec, ed]
            refine ⟨eqOk_fr, ?_⟩
            rw [show look (put S p (.lst [frO (some x1), frO (some x2), frO (some x3), frO (some x4)])) (frO (some x1)) = fr x1 from rfl, show look (put S p (.lst [frO (some x1), frO (some x2), frO (some x3), frO (some x4)])) (frO (some x3)) = fr x3 from rfl, deq_fr]
            have fin : ∀ o : MO, Q (wlO (if ahead (x1, x2) (x3, x4) then some ((x1, x2), (x3, x4)) else none)) (put S p o) := fun o => by
              rw [res] at k
              exact k _ fun q u hq => by rw [put_ne (sne hq hp)]; exact hq
            refine ⟨fun h => ?_, fun h => ?_⟩
            · have h : x1 = x3 := by simpa using h
              simp only [gz5, frO]
              refine ⟨key s2 s4, key s4 s2, fun z => ?_, fun z => ?_⟩
              · have na : ¬ ahead (x1, x2) (x3, x4) := by
                  rintro (e | ⟨-, e⟩)
                  · have e : x1 < x3 := e
                    rw [h] at e; exact absurd e Rat.lt_irrefl
                  · exact absurd z (Int.not_le.mpr ((Rat.lt_iff _ _).mp e))
                have f := fin
                rw [if_neg na] at f
                simp only [gz5]
                exact f _
              · have pa : ahead (x1, x2) (x3, x4) := .inr ⟨h, (Rat.lt_iff _ _).mpr (Int.not_le.mp z)⟩
                have f := fin
                rw [if_pos pa] at f
                simp only [gz5, hs2, frO]
                exact f _
            · have h : ¬ x1 = x3 := by simpa using h
              simp only [gz5, frO]
              refine ⟨key s1 s3, key s3 s1, fun z => ?_, fun z => ?_⟩
              · have na : ¬ ahead (x1, x2) (x3, x4) := by
                  rintro (e | ⟨e, -⟩)
                  · exact absurd z (Int.not_le.mpr ((Rat.lt_iff _ _).mp e))
                  · exact h e
                have f := fin
                rw [if_neg na] at f
                simp only [gz5]
                exact f _
              · have pa : ahead (x1, x2) (x3, x4) := .inl ((Rat.lt_iff _ _).mpr (Int.not_le.mp z))
                have f := fin
                rw [if_pos pa] at f
                simp only [gz5, hs2, frO]
                exact f _
theorem r_law_before : ∀ ds S Q E, sp_law_before ds S Q E → b_law_before (mends Q E) (mstart 0 ds) S := by
  rintro _ S Q E ⟨a, b, rfl, ha, hb, k⟩
  unfold b_law_before
  simp only [ML.q_mstart, ML.q_mends, List.map_cons, List.map_nil, List.replicate, List.cons_append, List.nil_append]
  simp only [gz5]
  have key : ∀ {p q : Rat}, sz p ≤ 120 → sz q ≤ 120 → IntMulOk p.num (q.den : Nat) := fun h1 h2 => ok_nd (by omega)
  refine ⟨fun h => ?_, fun h => ?_⟩
  · simp only [gz5]
    refine ⟨key ha.l hb.l, key hb.l ha.l, ?_⟩
    have e : (a.1.num * (b.1.den : Nat) < b.1.num * (a.1.den : Nat)) = ahead a b := by
      refine propext ⟨fun z => .inl (Rat.lt_iff _ _ |>.mpr z), fun z => ?_⟩
      rcases z with z | z
      · exact Rat.lt_iff _ _ |>.mp z
      · exact absurd z.1 h
    simp only [e]; exact k
  · have h : a.1 = b.1 := Decidable.not_not.mp h
    simp only [gz5]
    refine ⟨key ha.r hb.r, key hb.r ha.r, ?_⟩
    have e : (a.2.num * (b.2.den : Nat) < b.2.num * (a.2.den : Nat)) = ahead a b := by
      refine propext ⟨fun z => .inr ⟨h, Rat.lt_iff _ _ |>.mpr z⟩, fun z => ?_⟩
      rcases z with z | z
      · rw [h] at z; exact absurd z (Rat.lt_irrefl)
      · exact Rat.lt_iff _ _ |>.mp z.2
    simp only [e]; exact k
theorem wall_bd {ls : List (List Nat)} {w : Wl} (h : wallIn ls = some w) : BW w 120 ∧ ahead w.1 w.2 := by
  have fx : ∀ {l : List Nat} {x : Rat}, fracIn l = some x → sz x ≤ 120 := fun h => Nat.le_trans (fig_bd (fracIn_fig h)).le (by decide)
  have sp : ∀ {a b : List Nat} {u : Pt}, spotIn a b = some u → BP u 120 := fun {a b u} h => by
    unfold spotIn at h
    cases ea : fracIn a with
    | none => rw [ea] at h; cases h
    | some x => cases eb : fracIn b with
      | none => rw [ea, eb] at h; cases h
      | some y => rw [ea, eb] at h; injection h with h; rw [← h]; exact ⟨fx ea, fx eb⟩
  unfold wallIn at h
  split at h
  · next v a b c d =>
    split at h
    · cases e1 : spotIn a b with
      | none => rw [e1] at h; cases h
      | some u => cases e2 : spotIn c d with
        | none => rw [e1, e2] at h; cases h
        | some v =>
          rw [e1, e2] at h
          dsimp only at h
          split at h
          · next z => injection h with h; rw [← h]; exact ⟨⟨sp e1, sp e2⟩, z⟩
          · cases h
    · cases h
  · cases h
--CUT
theorem nb_of {q : Rat} (h : sz q ≤ 120) : q.num.natAbs < 2 ^ 120 ∧ ((q.den : Nat) : Int).natAbs < 2 ^ 120 := by
  unfold sz at h
  rw [Int.natAbs_natCast]
  exact ⟨Nat.lt_of_lt_of_le Nat.lt_log2_self (Nat.pow_le_pow_right (by decide) (by omega)), Nat.lt_of_lt_of_le Nat.lt_log2_self (Nat.pow_le_pow_right (by decide) (by omega))⟩
theorem mb {i j : Int} {a b : Nat} (h1 : i.natAbs < 2 ^ a) (h2 : j.natAbs < 2 ^ b) : (i * j).natAbs < 2 ^ (a + b) := by
  rw [Int.natAbs_mul, Nat.pow_add]; exact Nat.mul_lt_mul'' h1 h2
theorem sb {i j : Int} {a : Nat} (h1 : i.natAbs < 2 ^ a) (h2 : j.natAbs < 2 ^ a) : (i - j).natAbs < 2 ^ (a + 1) := by
  rw [Nat.pow_succ]; omega
theorem r_law_cross : ∀ ds S Q E, sp_law_cross ds S Q E → b_law_cross (mends Q E) (mstart 12 ds) S := by
  rintro _ S Q E ⟨a, b, c, rfl, ha, hb, hc, k⟩
  unfold b_law_cross
  simp only [ML.q_mstart, ML.q_mends, List.map_cons, List.map_nil, List.replicate, List.cons_append, List.nil_append]
  have okn : ∀ {p q : Rat}, sz p ≤ 120 → sz q ≤ 120 → IntMulOk p.num (q.den : Nat) := fun h1 h2 => ok_nd (by omega)
  have okd : ∀ {p q : Rat}, sz p ≤ 120 → sz q ≤ 120 → IntMulOk (p.den : Nat) (q.den : Nat) := fun h1 h2 => ok_dd (by omega)
  have nn : ∀ {p q : Rat}, sz p ≤ 120 → sz q ≤ 120 → (p.num * (q.den : Nat) - q.num * (p.den : Nat)).natAbs < 2 ^ 241 := fun h1 h2 => sb (a := 240) (mb (nb_of h1).1 (nb_of h2).2) (mb (nb_of h2).1 (nb_of h1).2)
  have dd : ∀ {p q : Rat}, sz p ≤ 120 → sz q ≤ 120 → (((p.den : Nat) : Int) * (q.den : Nat)).natAbs < 2 ^ 241 := fun h1 h2 => Nat.lt_of_lt_of_le (mb (nb_of h1).2 (nb_of h2).2) (Nat.pow_le_pow_right (by decide) (by decide))
  have lw : ∀ {x y : Int} {m n : Nat}, x.natAbs < 2 ^ m → y.natAbs < 2 ^ n → 0 < m → 0 < n → m + n ≤ 10000 → IntMulOk x y := fun h1 h2 z1 z2 z => mulok_w h1 h2 z1 z2 (by omega)
  have fin := sgn_int _ _ _ (Rat.mul_pos (Rat.mul_pos (Rat.mul_pos (den_pos' b.1) (den_pos' a.1)) (Rat.mul_pos (den_pos' b.2) (den_pos' a.2))) (Rat.mul_pos (Rat.mul_pos (den_pos' c.1) (den_pos' a.1)) (Rat.mul_pos (den_pos' c.2) (den_pos' a.2)))) (cross_rat a b c)
  have n1 := nn hb.l ha.l
  have d1 := dd hb.l ha.l
  have n2 := nn hb.r ha.r
  have d2 := dd hb.r ha.r
  have n3 := nn hc.l ha.l
  have d3 := dd hc.l ha.l
  have n4 := nn hc.r ha.r
  have d4 := dd hc.r ha.r
  simp only [gz5]
  intro p hp
  refine for_roll ?_
  simp only [gz5]
  refine for_roll ?_
  simp only [gz5]
  refine ⟨of_eq_true (isLst_ref put_same), okn hb.l ha.l, okn ha.l hb.l, okd hb.l ha.l, of_eq_true (isLst_ref put_same), okn hb.r ha.r, okn ha.r hb.r, okd hb.r ha.r, ?_⟩
  refine for_roll ?_
  simp only [gz5]
  refine ⟨of_eq_true (isLst_ref put_same), okn hc.l ha.l, okn ha.l hc.l, okd hc.l ha.l, of_eq_true (isLst_ref put_same), okn hc.r ha.r, okn ha.r hc.r, okd hc.r ha.r, ?_⟩
  generalize b.1.num * (a.1.den : Int) - a.1.num * (b.1.den : Int) = A at *
  generalize b.2.num * (a.2.den : Int) - a.2.num * (b.2.den : Int) = C at *
  generalize c.1.num * (a.1.den : Int) - a.1.num * (c.1.den : Int) = F at *
  generalize c.2.num * (a.2.den : Int) - a.2.num * (c.2.den : Int) = H at *
  generalize ((b.1.den : Int) * (a.1.den : Int)) = B at *
  generalize ((b.2.den : Int) * (a.2.den : Int)) = D at *
  generalize ((c.1.den : Int) * (a.1.den : Int)) = G at *
  generalize ((c.2.den : Int) * (a.2.den : Int)) = I at *
  refine ⟨lw n1 n4 (by decide) (by decide) (by decide), lw (mb n1 n4) d2 (by decide) (by decide) (by decide), lw (mb (mb n1 n4) d2) d3 (by decide) (by decide) (by decide), lw n2 n3 (by decide) (by decide) (by decide), lw (mb n2 n3) d1 (by decide) (by decide) (by decide), lw (mb (mb n2 n3) d1) d4 (by decide) (by decide) (by decide), ?_⟩
  rw [fin]; exact k _ fun q o hq => by rw [put_ne (sne hq hp)]; exact hq
--CUT
def chkE (u v : Wl) (s : Pt) : Prop := liesOn u s → u.1 = s ∨ u.2 = s
theorem two_get {α : Type} {x y d : α} {i : Nat} (h : [x, y][i]? = some d) : (i = 0 ∧ d = x) ∨ (i = 1 ∧ d = y) := by
  match i, h with
  | 0, h => exact .inl ⟨rfl, by injection h with h; exact h.symm⟩
  | 1, h => exact .inr ⟨rfl, by injection h with h; exact h.symm⟩
theorem t_before {a b : Pt} {S : Sto} {Q : Hold MQ} {E : Hold MXQ} (ha : BP a 120) (hb : BP b 120) (k : Q.v (.bl (decide (ahead a b))) S) : @CallP sp_law_before [spD a, spD b] S Q E := ⟨a, b, rfl, ha, hb, k⟩
theorem t_cross {a b c : Pt} {S : Sto} {Q : Hold MQ} {E : Hold MXQ} (ha : BP a 120) (hb : BP b 120) (hc : BP c 120) (k : ∀ S', Ext0 S S' → Q.v (.int (side (a, b) c)) S') : @CallP sp_law_cross [spD a, spD b, spD c] S Q E := ⟨a, b, c, rfl, ha, hb, hc, k⟩
theorem r_law_fits : ∀ ds S Q E, sp_law_fits ds S Q E → b_law_fits (mends Q E) (mstart 6 ds) S := by
  rintro _ S Q E ⟨a, b, rfl, ha, hb, pa, pb, k⟩
  unfold b_law_fits
  simp only [ML.q_mstart, ML.q_mends, List.map_cons, List.map_nil, List.replicate, List.cons_append, List.nil_append]
  have key := isFair_iff (a := a) (b := b) ⟨pa⟩ ⟨pb⟩
  have bad : ¬ FairW a b → ∀ S', Ext0 S S' → Q (.bl false) S' := fun h S' x => by
    have e : isFair a b = false := by
      cases h2 : isFair a b with
      | false => rfl
      | true => exact absurd (key.mp h2) h
    rw [e] at k; exact k S' x
  simp only [gz5]
  refine ⟨fun h => ?_, fun ne => ?_⟩
  · simp only [gz5]
    exact bad (fun f => f.ne h) S fun _ _ e => e
  simp only [gz5]
  refine wfor_inv (fun i σ S' => @KP ⟨(∃ x y z t r s, σ = [some (wlD a), some (wlD b), x, y, z, t, r, s]) ∧ Ext0 S S' ∧ (0 < i → ∀ s, s = b.1 ∨ s = b.2 → chkE a b s) ∧ (1 < i → ∀ s, s = a.1 ∨ s = a.2 → chkE b a s)⟩) ⟨⟨_, _, _, _, _, _, rfl⟩, fun _ _ e => e, fun h => absurd h (by decide), fun h => absurd h (by decide)⟩ ?_ ?_
  · rintro i d σ S1 hd ⟨⟨x, y, z, t, r, s, rfl⟩, x1, c1, c2⟩
    refine ⟨trivial, ?_⟩
    obtain ⟨u, v, rfl, hu, hv, nxt, bd⟩ : ∃ u v : Wl, d = .tup [wlD u, wlD v] ∧ BW u 120 ∧ BW v 120 ∧ ((∀ s, s = v.1 ∨ s = v.2 → chkE u v s) → (0 < i + 1 → ∀ s, s = b.1 ∨ s = b.2 → chkE a b s) ∧ (1 < i + 1 → ∀ s, s = a.1 ∨ s = a.2 → chkE b a s)) ∧ (∀ s, s = v.1 ∨ s = v.2 → ¬ chkE u v s → ¬ FairW a b) := by
      rcases two_get hd with ⟨rfl, rfl⟩ | ⟨rfl, rfl⟩
      · refine ⟨a, b, rfl, ha, hb, fun h => ⟨fun _ => h, fun h => absurd h (by decide)⟩, fun s hs n f => n fun l => ?_⟩
        rcases hs with rfl | rfl
        · exact (f.e1 l).imp Eq.symm Eq.symm
        · exact (f.e2 l).imp Eq.symm Eq.symm
      · refine ⟨b, a, rfl, hb, ha, fun h => ⟨fun _ => c1 (by decide), fun _ => h⟩, fun s hs n f => n fun l => ?_⟩
        rcases hs with rfl | rfl
        · exact (f.e3 l).imp Eq.symm Eq.symm
        · exact (f.e4 l).imp Eq.symm Eq.symm
    simp only [gz5]
    refine wfor_inv (fun j σ S' => @KP ⟨(∃ z t r s, σ = [some (wlD a), some (wlD b), some (wlD u), some (wlD v), z, t, r, s]) ∧ Ext0 S S' ∧ (0 < j → chkE u v v.1) ∧ (1 < j → chkE u v v.2)⟩) ⟨⟨_, _, _, _, rfl⟩, x1, fun h => absurd h (by decide), fun h => absurd h (by decide)⟩ ?_ ?_
    · rintro j d σ S2 hd2 ⟨⟨z, t, r, s, rfl⟩, x2, e1, e2⟩
      refine ⟨trivial, ?_⟩
      obtain ⟨p, rfl, hp, pv, nx2⟩ : ∃ p : Pt, d = spD p ∧ BP p 120 ∧ (p = v.1 ∨ p = v.2) ∧ (chkE u v p → (0 < j + 1 → chkE u v v.1) ∧ (1 < j + 1 → chkE u v v.2)) := by
        rcases two_get hd2 with ⟨rfl, rfl⟩ | ⟨rfl, rfl⟩
        · exact ⟨v.1, rfl, hv.f, .inl rfl, fun h => ⟨fun _ => h, fun h => absurd h (by decide)⟩⟩
        · exact ⟨v.2, rfl, hv.s, .inr rfl, fun h => ⟨fun _ => e1 (by decide), fun _ => h⟩⟩
      simp only [gz5]
      refine t_before hp hu.f ?_
      simp only [gz5]
      refine ⟨fun h1 => ?_, fun h1 => ?_⟩
      · simp only [gz5, in_wl]
        have cn : chkE u v p := fun l => absurd h1 l.1
        refine ⟨fun h2 => ?_, fun h2 => ?_⟩
        · simp only [gz5]
          exact KP.mk ⟨⟨_, _, _, _, rfl⟩, x2, nx2 cn⟩
        · simp only [gz5]
          exact KP.mk ⟨⟨_, _, _, _, rfl⟩, x2, nx2 cn⟩
      · simp only [gz5, in_wl]
        refine t_before hu.s hp ?_
        simp only [gz5, in_wl]
        refine ⟨fun h2 => ?_, fun h2 => ?_⟩
        · have n1 : ¬ (u.1 = p ∨ u.2 = p) := by simpa using h2
          simp only [gz5]
          refine ⟨fun h3 => ?_, fun h3 => ?_⟩
          · simp only [gz5]
            refine t_cross hu.f hu.s hp fun S3 x3 => ?_
            simp only [gz5]
            refine ⟨fun h4 => ?_, fun h4 => ?_⟩
            · simp only [gz5]
              exact bad (bd p pv fun c => n1 (c ⟨h1, h3, h4⟩)) S3 fun q o e => x3 q o (x2 q o e)
            · simp only [gz5]
              exact KP.mk ⟨⟨_, _, _, _, rfl⟩, fun q o e => x3 q o (x2 q o e), nx2 fun l => absurd l.2.2 h4⟩
          · simp only [gz5]
            exact KP.mk ⟨⟨_, _, _, _, rfl⟩, x2, nx2 fun l => absurd l.2.1 h3⟩
        · have n1 : u.1 = p ∨ u.2 = p := by
            rcases Decidable.em (u.1 = p) with e | e
            · exact .inl e
            · rcases Decidable.em (u.2 = p) with e2 | e2
              · exact .inr e2
              · exact absurd (by rw [decide_eq_false e, decide_eq_false e2]; rfl) h2
          simp only [gz5]
          exact KP.mk ⟨⟨_, _, _, _, rfl⟩, x2, nx2 fun _ => n1⟩
    · rintro σ S2 ⟨⟨z, t, r, s, rfl⟩, x2, e1, e2⟩
      refine ⟨trivial, KP.mk ⟨⟨_, _, _, _, _, _, rfl⟩, x2, nxt fun s hs => ?_⟩⟩
      rcases hs with rfl | rfl
      · exact e1 (by show 0 < 2; decide)
      · exact e2 (by show 1 < 2; decide)
  · rintro σ S1 ⟨⟨x, y, z, t, r, s, rfl⟩, x1, c1, c2⟩
    refine ⟨trivial, ?_⟩
    have c1 := c1 (by show 0 < 2; decide)
    have c2 := c2 (by show 1 < 2; decide)
    have key2 : FairW a b ↔ (0 ≤ side a b.1 * side a b.2 ∨ 0 ≤ side b a.1 * side b a.2) := by
      have e : (0 ≤ cx a b.1 * cx a b.2 ∨ 0 ≤ cx b a.1 * cx b a.2) ↔ (0 ≤ side a b.1 * side a b.2 ∨ 0 ≤ side b a.1 * side b a.2) := by
        rw [side_cx, side_cx, side_cx, side_cx, sgn_mul, sgn_mul, sgn_nonneg, sgn_nonneg]
      rw [← e]
      exact ⟨fun f => f.cr, fun h => ⟨ne, fun l => (c1 _ (.inl rfl) l).imp Eq.symm Eq.symm, fun l => (c1 _ (.inr rfl) l).imp Eq.symm Eq.symm, fun l => (c2 _ (.inl rfl) l).imp Eq.symm Eq.symm, fun l => (c2 _ (.inr rfl) l).imp Eq.symm Eq.symm, h⟩⟩
    simp only [gz5]
    intro p hp
    refine comp_grow (S0 := S1) spD (fun c => .int (side a c)) (fun _ => true) [b.1, b.2] rfl (by show 2 ≤ 1000; decide) put_same Grow.rfl.put (fun _ _ => trivial) ?_ ?_
    · intro c acc S' Q1 Q2 hc g hS' q1 q2
      simp only [gz5]
      have hc2 : BP c 120 := by
        rcases List.mem_cons.mp hc with rfl | hc
        · exact hb.f
        · rw [List.mem_singleton.mp hc]; exact hb.s
      exact t_cross ha.f ha.s hc2 fun S3 x3 => q1 rfl S3 x3
    intro S2 g2 hp2
    simp only [gz5]
    intro p' hp'
    have np : p ≠ p' := sne hp2 hp'
    refine comp_grow (S0 := S2) spD (fun c => .int (side b c)) (fun _ => true) [a.1, a.2] rfl (by show 2 ≤ 1000; decide) put_same Grow.rfl.put (fun _ _ => trivial) ?_ ?_
    · intro c acc S' Q1 Q2 hc g hS' q1 q2
      simp only [gz5]
      have hc2 : BP c 120 := by
        rcases List.mem_cons.mp hc with rfl | hc
        · exact ha.f
        · rw [List.mem_singleton.mp hc]; exact ha.s
      exact t_cross hb.f hb.s hc2 fun S3 x3 => q1 rfl S3 x3
    intro S3 g3 hp3
    have hp2' : S3 p = some (.lst [.int (side a b.1), .int (side a b.2)]) := g3 p _ np hp2
    have hp3' : S3 p' = some (.lst [.int (side b a.1), .int (side b a.2)]) := hp3
    have e3 : Ext0 S S3 := fun q o e => by
      have e1 := x1 q o e
      have e2 := g2 q o (sne e1 hp) e1
      exact g3 q o (sne e2 hp') e2
    simp only [gz5, hp2', hp3']
    have ok : ∀ (w w' : Wl) (x y : Pt), IntMulOk (side w x) (side w' y) := fun w w' x y => by
      have := sgn_bd (cx w' y)
      rw [← side_cx] at this
      exact mulok_r (by omega) (by omega)
    have yes : FairW a b → Q (.bl true) S3 := fun f => by rw [key.mpr f] at k; exact k S3 e3
    refine ⟨ok _ _ _ _, fun h => ?_, fun h => ?_⟩
    · simp only [gz5]
      exact yes (key2.mpr (.inl h))
    · simp only [gz5, hp2', hp3']
      refine ⟨ok _ _ _ _, ?_⟩
      by_cases h2 : 0 ≤ side b a.1 * side b a.2
      · rw [decide_eq_true h2]; exact yes (key2.mpr (.inr h2))
      · rw [decide_eq_false h2]
        exact bad (fun f => (key2.mp f).elim h h2) S3 e3
--CUT
theorem r_put_read : ∀ ds S Q E, sp_put_read ds S Q E → b_put_read (mends Q E) (mstart 0 ds) S := by
  rintro _ S Q E ⟨p, ws, o, i, rfl, hp, hn, bw, hv, k1, k2⟩
  unfold b_put_read
  simp only [ML.q_mstart, ML.q_mends, List.map_cons, List.map_nil, List.replicate, List.cons_append, List.nil_append]
  cases o with
  | none =>
    simp only [gz5, wlO, hp]
    exact k2 fun w h => by cases h
  | some w =>
    have bw := bw w rfl
    simp only [gz5, wlO, hp, List.length_map]
    refine ⟨fun h => ?_, fun h => ?_⟩
    · simp only [gz5]
      exact k2 fun w _ h2 => absurd (by omega) h2
    · simp only [gz5]
      refine ⟨.ref p, ws, w, rfl, .ref hp, by omega, bw, hv, ?_⟩
      cases hu : unfairAt ws w with
      | none =>
        simp only [gz5, onD, hp]
        refine ⟨of_eq_true (isLst_ref hp), by show _ < 2 ^ 24; omega, ?_⟩
        have k1 := k1 w rfl (by omega) hu
        rw [List.map_append] at k1; exact k1
      | some j =>
        simp only [gz5, onD]
        exact k2 fun w' h2 _ e => by injection h2 with h2; rw [← h2, hu] at e; cases e
--CUT
theorem r_law_alone : ∀ ds S Q E, sp_law_alone ds S Q E → b_law_alone (mends Q E) (mstart 1 ds) S := by
  rintro _ S Q E ⟨p, fs, rfl, hp, q⟩
  unfold b_law_alone
  simp only [ML.q_mstart, ML.q_mends, List.map_cons, List.map_nil, List.replicate, List.cons_append, List.nil_append]
  simp only [gz5, hp]
  intro k hk
  have nk : p ≠ k := fun z => by rw [z, hk] at hp; cases hp
  simp only [gz5, put_ne nk, hp]
  intro r hr
  have nr : p ≠ r := fun z => by rw [← z, put_ne nk, hp] at hr; cases hr
  simp only [gz5, put_ne nk, put_ne nr, hp]
  refine ⟨of_eq_true (isLst_ref put_same), of_eq_true (isLst_ref put_same), fun _ => ?_, fun h => (h (by decide)).elim⟩
  simp only [gz5]
  exact q _ (fun z u e => by
    have n1 : z ≠ k := fun y => by rw [y, hk] at e; cases e
    have n2 : z ≠ r := fun y => by rw [← y, put_ne n1, e] at hr; cases hr
    rw [put_ne n2, put_ne n1]; exact e)
--CUT
theorem t_fits {a b : Wl} {S : Sto} {Q : Hold MQ} {E : Hold MXQ} (ha : BW a 120) (hb : BW b 120) (pa : ahead a.1 a.2) (pb : ahead b.1 b.2) (k : ∀ S', Ext0 S S' → Q.v (.bl (isFair a b)) S') : @CallP sp_law_fits [wlD a, wlD b] S Q E := ⟨a, b, rfl, ha, hb, pa, pb, k⟩
--CUT
theorem lit_at {xs : List Str} {P : List Nat → Prop} (h : ∀ s ∈ xs, P (tl s)) {i : Nat} (hi : i < xs.length) : ∃ x, P x ∧ (xs.map D.str)[i]? = some (.str (ofL x)) :=
  ⟨tl xs[i], h _ (List.getElem_mem hi), by rw [List.getElem?_map, List.getElem?_eq_getElem hi, ← str_ofL]; rfl⟩
theorem sum_wt : ∀ {ls : List (List Nat)}, ((ls.map ofL).map (·.length)).sum + (ls.map ofL).length * 1 = wt ls
  | [] => rfl
  | a :: r => by
    have := sum_wt (ls := r)
    rw [wt_cons]
    simp only [List.map_cons, List.sum_cons, List.length_cons, ofL_len] at this ⊢
    omega
theorem wt_le {B : Nat} : ∀ {ls : List (List Nat)}, (∀ l ∈ ls, l.length ≤ B) → wt ls ≤ ls.length * (B + 1)
  | [], _ => Nat.zero_le _
  | a :: r, h => by
    have := wt_le fun l hl => h l (List.mem_cons_of_mem _ hl)
    have := h a List.mem_cons_self
    rw [wt_cons, List.length_cons, Nat.add_mul]; omega
theorem t_jw {ps : List (List Nat)} {d : D} {S : Sto} {Q : Hold MQ} (hd : seqOf S d = some ((ps.map ofL).map .str)) (hw : wt ps ≤ 10000000) (k : Q.v (.str (ofL (joinL [32] ps))) S) : @JoinP (Str.ofString " ") d S Q :=
  ⟨ps.map ofL, hd, by have := sum_wt (ls := ps); show _ + _ * 1 ≤ _; omega, by rw [join_L, T_blank]; exact k⟩
theorem t_jn {ls : List (List Nat)} {S : Sto} {Q : Hold MQ} (hw : wt ls ≤ 10000000) (k : Q.v (.str (ofL (joinL [10] ls))) S) : @JoinP (Str.ofString "\n") (.lst (ls.map fun l => .str (ofL l))) S Q :=
  ⟨ls.map ofL, by rw [List.map_map]; rfl, by have := sum_wt (ls := ls); show _ + _ * 1 ≤ _; omega, by rw [join_L, T_line]; exact k⟩
theorem wt_N {B N : Nat} {ls : List (List Nat)} (h : ∀ l ∈ ls, LinB B l) (hn : ls.length ≤ N) (h1 : N ≤ 400) (h2 : B ≤ 5100) : wt ls ≤ 2500000 := by
  have := wt_le (B := B) fun l hl => (h l hl).len
  have : ls.length * (B + 1) ≤ 400 * 5101 := Nat.mul_le_mul (by omega) (by omega)
  omega
def SIGNS : Str := Str.ofString " !\"#$&'()*+,-./0123456789:;<=>?@ABCDEFGHIJKLMNOPQRSTUVWXYZ[\\]^_`abcdefghijklmnopqrstuvwxyz{|}~\n"
--CUT
theorem r_law_scale : ∀ ds S Q E, sp_law_scale ds S Q E → b_law_scale (mends Q E) (mstart 3 ds) S := by
  rintro _ S Q E ⟨p, c, n, rfl, hp, hn, k⟩
  unfold b_law_scale
  simp only [ML.q_mstart, ML.q_mends, List.map_cons, List.map_nil, List.replicate, List.cons_append, List.nil_append]
  simp only [gz1]
  refine t_take hp (by decide) (by decide) (by omega) fun t0 c1 t1 t2 => ?_
  simp only [gz1]
  refine t_take put_same (by decide) (by decide) (by omega) fun b0 c2 b1 b2 => ?_
  simp only [gz1]
  refine t_take put_same (by decide) (by decide) (by omega) fun v c3 v1 v2 => ?_
  simp only [gz1]
  refine jf (fun σ' S' => ∃ (t b c' : Int) (n' : Nat), 1 ≤ t ∧ t ≤ 2 ^ 30 ∧ 1 ≤ b ∧ b ≤ 2 ^ 30 ∧ n' ≤ n + 5 ∧ σ' = [some (.ref p), some (.int t), some (.int b), none] ∧ S' = put S p (rowO c' n')) ?_ ?_ ?_
  · intro hv
    simp only [gz1]
    refine t_take put_same (by decide) (by decide) (by omega) fun t3 c4 t4 t5 => ?_
    simp only [gz1]
    refine t_take put_same (by decide) (by decide) (by omega) fun b3 c5 b4 b5 => ?_
    simp only [gz1]
    exact ⟨1 + t3, 1 + b3, c5, _, by omega, by omega, by omega, by omega, Nat.le_refl _, rfl, rfl⟩
  · intro hv
    simp only [gz1]
    exact ⟨1 + t0, 1 + b0, c3, n + 1 + 1 + 1, by omega, by omega, by omega, by omega, by omega, rfl, rfl⟩
  rintro _ _ ⟨t, b, c4, n4, t3, t4, b3, b4, hn4, rfl, rfl⟩
  simp only [gz1]
  refine t_take put_same (by decide) (by decide) (by omega) fun f c5 f1 f2 => ?_
  have hf : ∃ F : Int, ixL [D.int 1, D.int 1000000000000000] (if f = 0 then 1 else 0) = some (.int F) ∧ 0 ≤ F ∧ F ≤ 1000000000000000 := by
    by_cases h : f = 0
    · rw [if_pos h]; exact ⟨_, rfl, by decide, by decide⟩
    · rw [if_neg h]; exact ⟨_, rfl, by decide, by decide⟩
  obtain ⟨F, eF, F1, F2⟩ := hf
  simp only [gz1, eF]
  refine t_take put_same (by decide) (by decide) (by omega) fun x0 c6 x1 x2 => ?_
  simp only [gz1]
  refine ⟨mulok_l (by omega) (by omega), t_take put_same (by decide) (by decide) (by omega) fun y0 c7 y1 y2 => ?_⟩
  simp only [gz1]
  refine ⟨mulok_l (by omega) (by omega), ?_⟩
  have bd : ∀ z : Int, 0 ≤ z → z < 41 → -(2 ^ 55) ≤ F * (z - 20) ∧ F * (z - 20) ≤ 2 ^ 55 := by
    intro z z1 z2
    have h1 : (F * (z - 20)).natAbs < 2 ^ 55 := natAbs_mul_lt (a := 50) (b := 5) (by omega) (by omega)
    omega
  exact k ⟨t, b, F * (x0 - 20), F * (y0 - 20)⟩ c7 _ (scT_of t3 t4 b3 b4 F1 F2 x1 x2 y1 y2) (by omega)
--CUT
theorem r_law_bent : ∀ ds S Q E, sp_law_bent ds S Q E → b_law_bent (mends Q E) (mstart 9 ds) S := by
  rintro _ S Q E ⟨p, d, c, n, B, ls, rfl, hd, dp, hp, hn, h0, hl, b1, b2, hls, k⟩
  unfold b_law_bent
  simp only [ML.q_mstart, ML.q_mends, List.map_cons, List.map_nil, List.replicate, List.cons_append, List.nil_append]
  have l0 : 0 < ls.length := List.length_pos_iff.mpr h0
  have gen : ∀ S' : Sto, (∀ z, z ≠ p → ∀ o, S z = some o → S' z = some o) → ∀ q0, d = .ref q0 → S' q0 = some (.lst (ls.map fun l => .str (ofL l))) := fun S' h q0 e => by subst e; cases hd with | ref k => exact h q0 (fun z => dp (by rw [z])) _ k
  cases hd with
  | lst =>
    have hx0 := gen S fun _ _ _ e => e
    first | simp only [gz5, hx0 _ rfl, List.length_map] | simp only [gz5, List.length_map]
    refine t_takeA hp (by omega) (by omega) (by omega) fun a c1 S1 a0 a1 hp1 e1 => ?_
    have hx1 := gen S1 fun z zp o e => (e1 z zp).trans e
    obtain ⟨at_, rfl⟩ := Int.eq_ofNat_of_zero_le a0
    have ha : at_ < ls.length := by omega
    have ga : (ls.map fun l => D.str (ofL l))[at_]? = some (.str (ofL ls[at_])) := by rw [List.getElem?_map, List.getElem?_eq_getElem ha]; rfl
    have hL : Lin B ls[at_] := hls _ (List.getElem_mem ha)
    generalize hL0 : ls[at_] = L at *
    have es : Txt.split (ofL L) (Str.ofString " ") = (spl [32] 0 [] L).map ofL := by rw [T_blank, split_L (by decide) (by decide), tl_ofL, tl_ofL]
    obtain ⟨wk, ww, wl⟩ := hL.words
    obtain ⟨w0, r0, hW⟩ := spl_ne (s := 32) L
    have wn : 0 < (spl [32] 0 [] L).length := by rw [hW]; simp
    have hLl := hL.len
    first | simp only [gz5, hx1 _ rfl, ga, es] | simp only [gz5, ga, es]
    generalize spl [32] 0 [] L = W at *
    refine ⟨⟨by decide, by rw [ofL_len]; show _ ≤ 2 ^ 24; omega⟩, fun q hq => ?_⟩
    have npq : p ≠ q := sne hp1 hq
    refine t_takeA (by rw [put_ne npq]; exact hp1) (by omega) (by omega) (by omega) fun a c2 S2 d0 d1 hp2 e2 => ?_
    obtain ⟨pl, rfl⟩ := Int.eq_ofNat_of_zero_le d0
    have hq2 : S2 q = some (.lst ((W.map ofL).map .str)) := by rw [e2 q npq.symm]; exact put_same
    have x2 : ∀ z o, z ≠ p → S z = some o → S2 z = some o := fun z o zp e => by
      have e := (e1 z zp).trans e
      rw [e2 z zp, put_ne (sne e hq)]; exact e
    have hx2 := gen S2 fun z zp o e => x2 z o zp e
    first | simp only [gz5, hx2 _ rfl, ga] | simp only [gz5, ga]
    have lenL : lenD S2 (.str (ofL L)) = some L.length := by
      show (if (ofL L).length ≤ sizeLine then some (ofL L).length else none) = _
      rw [ofL_len, if_pos (by show _ ≤ 2 ^ 24; omega)]
    simp only [gz5, lenL]
    refine t_takeA hp2 (by omega) (by omega) (by omega) fun a c3 S3 s0 s1 hp3 e3 => ?_
    obtain ⟨sp, rfl⟩ := Int.eq_ofNat_of_zero_le s0
    simp only [gz5]
    have g1 : (SIGNS.cps.all fun x => decide (x < 128)) = true := by decide +kernel
    have g2 : SIGNS.cps.size = 95 := by decide +kernel
    have g3 : SIGNS.cps.toList.length = 95 := by rw [Array.length_toList]; exact g2
    have g4 : SIGNS.length = 95 := g2
    have lenG : ∀ S', lenD S' (.str SIGNS) = some 95 := fun S' => by
      show (if SIGNS.length ≤ sizeLine then some SIGNS.length else none) = _
      rw [g4, if_pos (by decide)]
    have g5 : ∀ c ∈ SIGNS.cps.toList, c < 128 := fun c hc => by
      have := Array.all_toList ▸ g1
      simpa using List.all_eq_true.mp this c hc
    rw [show Str.ofString " !\"#$&'()*+,-./0123456789:;<=>?@ABCDEFGHIJKLMNOPQRSTUVWXYZ[\\]^_`abcdefghijklmnopqrstuvwxyz{|}~\n" = SIGNS from rfl]
    generalize SIGNS = SG at *
    simp only [gz5, lenG]
    refine ⟨⟨g1, by rw [g2]; decide⟩, by rw [g3]; decide, ?_⟩
    refine t_takeA hp3 (by omega) (by omega) (by omega) fun a c4 S4 u0 u1 hp4 e4 => ?_
    obtain ⟨sg, rfl⟩ := Int.eq_ofNat_of_zero_le u0
    simp only [gz5]
    obtain ⟨sc, sc1, gs⟩ : ∃ c0 : Nat, c0 < 128 ∧ (D.str (Str.ofString "a") :: D.str (Str.ofString "0") :: D.str (Str.ofString "/") :: D.str (Str.ofString "-") :: D.str (Str.ofString " ") :: D.str (Str.ofString "1") :: D.str (Str.ofString "\n") :: D.str (Str.ofString "+") :: D.str (Str.ofString ".") :: List.map (fun c => D.str { cps := #[c] }) SG.cps.toList)[sg]? = some (.str (ofL [c0])) := by
      have e : (D.str (Str.ofString "a") :: D.str (Str.ofString "0") :: D.str (Str.ofString "/") :: D.str (Str.ofString "-") :: D.str (Str.ofString " ") :: D.str (Str.ofString "1") :: D.str (Str.ofString "\n") :: D.str (Str.ofString "+") :: D.str (Str.ofString ".") :: List.map (fun c => D.str { cps := #[c] }) SG.cps.toList) = ([97, 48, 47, 45, 32, 49, 10, 43, 46] ++ SG.cps.toList).map fun c => D.str (ofL [c]) := rfl
      rw [e, List.getElem?_map]
      have hlt : sg < ([97, 48, 47, 45, 32, 49, 10, 43, 46] ++ SG.cps.toList).length := by rw [List.length_append, g3]; show sg < 9 + 95; omega
      refine ⟨([97, 48, 47, 45, 32, 49, 10, 43, 46] ++ SG.cps.toList)[sg], ?_, by rw [List.getElem?_eq_getElem hlt]; rfl⟩
      rcases List.mem_append.mp (List.getElem_mem hlt) with h | h
      · have : ∀ x ∈ ([97, 48, 47, 45, 32, 49, 10, 43, 46] : List Nat), x < 128 := by decide
        exact this _ h
      · exact g5 _ h
    rw [gs]
    simp only [gz5]
    refine t_takeA hp4 (by decide) (by decide) (by omega) fun way c5 S5 w0' w1 hp5 e5 => ?_
    have hq5 : S5 q = some (.lst ((W.map ofL).map .str)) := by rw [e5 q npq.symm, e4 q npq.symm, e3 q npq.symm]; exact hq2
    have x5 : ∀ z o, z ≠ p → S z = some o → S5 z = some o := fun z o zp e => by rw [e5 z zp, e4 z zp, e3 z zp]; exact x2 z o zp e
    have hx5 := gen S5 fun z zp o e => x5 z o zp e
    have cD1 : (ls.map fun l => D.str (ofL l)).take at_ = (ls.take at_).map fun l => D.str (ofL l) := by rw [List.map_take]
    have cD2 : cutD (ls.map fun l => D.str (ofL l)) (some ((at_ : Int) + 1)) none = (ls.drop (at_ + 1)).map fun l => D.str (ofL l) := by
      rw [show ((at_ : Int) + 1) = ((at_ + 1 : Nat) : Int) from rfl, cutD_drop, List.map_drop]
    clear es lenG g1 g2 g3 g4 g5 gs lenL hp2 e2 hq2 x2 hp3 e3 hp4 e4
    have hw : way = 0 ∨ way = 1 ∨ way = 2 ∨ way = 3 ∨ way = 4 ∨ way = 5 ∨ way = 6 ∨ way = 7 ∨ way = 8 ∨ way = 9 := by omega
    have eLS : (ls.take at_).map (fun l => D.str (ofL l)) ++ [D.str (ofL L)] ++ (ls.drop (at_ + 1)).map (fun l => D.str (ofL l)) = ls.map fun l => D.str (ofL l) := by
      have : ls = ls.take at_ ++ [L] ++ ls.drop (at_ + 1) := by
        rw [← hL0, List.append_assoc]
        show ls = ls.take at_ ++ ls[at_] :: ls.drop (at_ + 1)
        rw [← List.drop_eq_getElem_cons ha, List.take_append_drop]
      conv => rhs; rw [this]
      rw [List.map_append, List.map_append]; rfl
    have eX : ∀ x : List Nat, (ls.take at_).map (fun l => D.str (ofL l)) ++ [D.str (ofL x)] ++ (ls.drop (at_ + 1)).map (fun l => D.str (ofL l)) = (ls.take at_ ++ [x] ++ ls.drop (at_ + 1)).map fun l => D.str (ofL l) := fun x => by
      rw [List.map_append, List.map_append]; rfl
    have bX : ∀ x : List Nat, LinB (2 * B + 2) x → BntR (2 * B + 2) (ls.take at_ ++ [x] ++ ls.drop (at_ + 1)) := fun x hx => BntR.mid (B := B) (fun l hm => hls l (List.mem_of_mem_take hm)) (fun l hm => hls l (List.mem_of_mem_drop hm)) hx (by omega)
    have nX : ∀ x : List Nat, (ls.take at_ ++ [x] ++ ls.drop (at_ + 1)).length ≤ ls.length + 1 := fun x => by
      rw [List.length_append, List.length_append, List.length_take, List.length_drop, List.length_singleton]; omega
    have ltk : (ls.take at_).length = at_ := by rw [List.length_take]; omega
    have ldr : (ls.drop (at_ + 1)).length = ls.length - (at_ + 1) := List.length_drop
    have cS1 : cutS (ofL L) (some ((sp : Int) + 1)) none = ofL (L.drop (sp + 1)) := cutS_drop (sp + 1)
    have tW : ∀ k, ((W.map ofL).map D.str).take k = ((W.take k).map ofL).map D.str := fun k => by rw [List.map_take, List.map_take]
    have dW : ∀ k : Nat, cutD ((W.map ofL).map D.str) (some (k : Int)) none = ((W.drop k).map ofL).map D.str := fun k => by rw [cutD_drop, List.map_drop, List.map_drop]
    have cW1 : cutD ((W.map ofL).map D.str) (some ((pl : Int) + 1)) none = ((W.drop (pl + 1)).map ofL).map D.str := dW (pl + 1)
    have cW2 : cutD ((W.map ofL).map D.str) none (some ((pl : Int) + 1)) = ((W.take (pl + 1)).map ofL).map D.str := (cutD_take (pl + 1)).trans (tW _)
    have c41 : cutD ((W.map ofL).map D.str) none (some 1) = ((W.take 1).map ofL).map D.str := (cutD_take 1).trans (tW _)
    have c43 : cutD ((W.map ofL).map D.str) (some 3) none = ((W.drop 3).map ofL).map D.str := dW 3
    have c413 : cutD ((W.map ofL).map D.str) (some 1) (some 3) = (((W.drop 1).take 2).map ofL).map D.str := (cutD_mid 1 3).trans (by rw [List.map_take, List.map_take, List.map_drop, List.map_drop])
    have aW : ∀ a b : List (List Nat), (a.map ofL).map D.str ++ (b.map ofL).map D.str = ((a ++ b).map ofL).map D.str := fun a b => by rw [List.map_append, List.map_append]
    have aX : ∀ a b : List (List Nat), a.map (fun l => D.str (ofL l)) ++ b.map (fun l => D.str (ofL l)) = (a ++ b).map fun l => D.str (ofL l) := fun a b => by rw [List.map_append]
    have m5 : cutD (ls.map fun l => D.str (ofL l)) (some (at_ : Int)) (some ((at_ : Int) + 1)) = ((ls.drop at_).take 1).map fun l => D.str (ofL l) := by
      rw [show ((at_ : Int) + 1) = ((at_ + 1 : Nat) : Int) from rfl, cutD_mid, show at_ + 1 - at_ = 1 by omega, List.map_take, List.map_drop]
    have d5 : cutD (ls.map fun l => D.str (ofL l)) (some (at_ : Int)) none = (ls.drop at_).map fun l => D.str (ofL l) := by rw [cutD_drop, List.map_drop]
    have eR : ∀ x : List Nat, ls.map (fun l => D.str (ofL l)) ++ [D.str (ofL x)] = (ls ++ [x]).map fun l => D.str (ofL l) := fun x => by rw [List.map_append]; rfl
    have B0 : ∀ l ∈ ls, Lin (2 * B + 2) l := fun l hm => (hls l hm).mono (by omega)
    rcases hw with rfl | rfl | rfl | rfl | rfl | rfl | rfl | rfl | rfl | rfl
    · first | simp only [gz5, hx5 _ rfl, ga, cutS_take, cutS_drop, cutD_take, cD1, cD2, ofL_app, eX, ofL_len, List.length_append, List.length_singleton, List.length_take, List.length_drop, List.length_map] | simp only [gz5, ga, cutS_take, cutS_drop, cutD_take, cD1, cD2, ofL_app, eX, ofL_len, List.length_append, List.length_singleton, List.length_take, List.length_drop, List.length_map]
      refine ⟨by show _ ≤ 2 ^ 24; omega, by show _ ≤ 2 ^ 24; omega, by show _ ≤ 2 ^ 24; omega, by show _ ≤ 2 ^ 24; omega, by show _ ≤ 2 ^ 24; omega, by show _ ≤ 2 ^ 24; omega, ?_⟩
      have hB := bX _ ((bend_put (n := sp) hL sc1).mono (by omega))
      have hN := nX (L.take sp ++ [sc] ++ L.drop sp)
      have hW := wt_N hB.1 hN (by omega) (by omega)
      refine t_jn (by omega) ?_
      simp only [gz5]
      refine ⟨⟨by decide, by rw [ofL_len]; exact Nat.le_trans (Nat.add_le_add_right (Nat.le_trans join_wt hW) 2) (by decide)⟩, ?_⟩
      rw [T_line, split_L (by decide) (by decide), tl_ofL, tl_ofL, List.map_map]
      obtain ⟨m1, m2, m3⟩ := bent_fin2 hB hN
      exact k _ _ _ _ m1 m2 m3 (by omega) hp5 x5
    · first | simp only [gz5, hx5 _ rfl, ga, cutS_take, cS1, cutD_take, cD1, cD2, ofL_app, eX, ofL_len, List.length_append, List.length_singleton, List.length_take, List.length_drop, List.length_map] | simp only [gz5, ga, cutS_take, cS1, cutD_take, cD1, cD2, ofL_app, eX, ofL_len, List.length_append, List.length_singleton, List.length_take, List.length_drop, List.length_map]
      refine ⟨by show _ ≤ 2 ^ 24; omega, by show _ ≤ 2 ^ 24; omega, by show _ ≤ 2 ^ 24; omega, by show _ ≤ 2 ^ 24; omega, by show _ ≤ 2 ^ 24; omega, ?_⟩
      have hB := bX _ ((bend_out (n := sp) hL).mono (C := 2 * B + 2) (by omega)).bent
      have hN := nX (L.take sp ++ L.drop (sp + 1))
      have hW := wt_N hB.1 hN (by omega) (by omega)
      refine t_jn (by omega) ?_
      simp only [gz5]
      refine ⟨⟨by decide, by rw [ofL_len]; exact Nat.le_trans (Nat.add_le_add_right (Nat.le_trans join_wt hW) 2) (by decide)⟩, ?_⟩
      rw [T_line, split_L (by decide) (by decide), tl_ofL, tl_ofL, List.map_map]
      obtain ⟨m1, m2, m3⟩ := bent_fin2 hB hN
      exact k _ _ _ _ m1 m2 m3 (by omega) hp5 x5
    · first | simp only [gz5, hx5 _ rfl, ga, cutD_take, cD1, cD2, hq5, cW1, cW2, tW, dW, aW, List.length_append, List.length_singleton, List.length_take, List.length_drop, List.length_map] | simp only [gz5, ga, cutD_take, cD1, cD2, hq5, cW1, cW2, tW, dW, aW, List.length_append, List.length_singleton, List.length_take, List.length_drop, List.length_map]
      refine ⟨by show _ ≤ 2 ^ 24; omega, ?_⟩
      have w2 : wt (W.take pl ++ W.drop (pl + 1)) ≤ 2 * B + 2 := by rw [wt_app]; have := wt_take_le (ws := W) pl; have := wt_drop_le (ws := W) (pl + 1); omega
      refine t_jw (ps := W.take pl ++ W.drop (pl + 1)) rfl (by omega) ?_
      first | simp only [gz5, hx5 _ rfl, cutD_take, cD1, cD2, eX, List.length_append, List.length_singleton, List.length_take, List.length_drop, List.length_map] | simp only [gz5, cutD_take, cD1, cD2, eX, List.length_append, List.length_singleton, List.length_take, List.length_drop, List.length_map]
      refine ⟨by show _ ≤ 2 ^ 24; omega, by show _ ≤ 2 ^ 24; omega, ?_⟩
      have hB := bX _ (((wk.take pl).app (wk.drop (pl + 1))).lin w2).bent
      have hN := nX (joinL [32] (W.take pl ++ W.drop (pl + 1)))
      have hW := wt_N hB.1 hN (by omega) (by omega)
      refine t_jn (by omega) ?_
      simp only [gz5]
      refine ⟨⟨by decide, by rw [ofL_len]; exact Nat.le_trans (Nat.add_le_add_right (Nat.le_trans join_wt hW) 2) (by decide)⟩, ?_⟩
      rw [T_line, split_L (by decide) (by decide), tl_ofL, tl_ofL, List.map_map]
      obtain ⟨m1, m2, m3⟩ := bent_fin2 hB hN
      exact k _ _ _ _ m1 m2 m3 (by omega) hp5 x5
    · first | simp only [gz5, hx5 _ rfl, ga, cutD_take, cD1, cD2, hq5, cW1, cW2, tW, dW, aW, List.length_append, List.length_singleton, List.length_take, List.length_drop, List.length_map] | simp only [gz5, ga, cutD_take, cD1, cD2, hq5, cW1, cW2, tW, dW, aW, List.length_append, List.length_singleton, List.length_take, List.length_drop, List.length_map]
      refine ⟨by show _ ≤ 2 ^ 24; omega, ?_⟩
      have w2 : wt (W.take (pl + 1) ++ W.drop pl) ≤ 2 * B + 2 := by rw [wt_app]; have := wt_take_le (ws := W) (pl + 1); have := wt_drop_le (ws := W) pl; omega
      refine t_jw (ps := W.take (pl + 1) ++ W.drop pl) rfl (by omega) ?_
      first | simp only [gz5, hx5 _ rfl, cutD_take, cD1, cD2, eX, List.length_append, List.length_singleton, List.length_take, List.length_drop, List.length_map] | simp only [gz5, cutD_take, cD1, cD2, eX, List.length_append, List.length_singleton, List.length_take, List.length_drop, List.length_map]
      refine ⟨by show _ ≤ 2 ^ 24; omega, by show _ ≤ 2 ^ 24; omega, ?_⟩
      have hB := bX _ (((wk.take (pl + 1)).app (wk.drop pl)).lin w2).bent
      have hN := nX (joinL [32] (W.take (pl + 1) ++ W.drop pl))
      have hW := wt_N hB.1 hN (by omega) (by omega)
      refine t_jn (by omega) ?_
      simp only [gz5]
      refine ⟨⟨by decide, by rw [ofL_len]; exact Nat.le_trans (Nat.add_le_add_right (Nat.le_trans join_wt hW) 2) (by decide)⟩, ?_⟩
      rw [T_line, split_L (by decide) (by decide), tl_ofL, tl_ofL, List.map_map]
      obtain ⟨m1, m2, m3⟩ := bent_fin2 hB hN
      exact k _ _ _ _ m1 m2 m3 (by omega) hp5 x5
    · first | simp only [gz5, hx5 _ rfl, ga, cutD_take, cD1, cD2, hq5, c41, c43, c413, aW, List.length_append, List.length_singleton, List.length_take, List.length_drop, List.length_map] | simp only [gz5, ga, cutD_take, cD1, cD2, hq5, c41, c43, c413, aW, List.length_append, List.length_singleton, List.length_take, List.length_drop, List.length_map]
      refine ⟨by show _ ≤ 2 ^ 24; omega, by show _ ≤ 2 ^ 24; omega, ?_⟩
      have w2 : wt (W.take 1 ++ W.drop 3 ++ (W.drop 1).take 2) ≤ 2 * B + 2 := by rw [wt_app, wt_app]; have := wt_take_le (ws := W) 1; have := wt_drop_le (ws := W) 3; have := wt_take_le (ws := W.drop 1) 2; have := wt_take (ws := W) 1; omega
      refine t_jw (ps := W.take 1 ++ W.drop 3 ++ (W.drop 1).take 2) rfl (by omega) ?_
      first | simp only [gz5, hx5 _ rfl, cutD_take, cD1, cD2, eX, List.length_append, List.length_singleton, List.length_take, List.length_drop, List.length_map] | simp only [gz5, cutD_take, cD1, cD2, eX, List.length_append, List.length_singleton, List.length_take, List.length_drop, List.length_map]
      refine ⟨by show _ ≤ 2 ^ 24; omega, by show _ ≤ 2 ^ 24; omega, ?_⟩
      have hB := bX _ ((((wk.take 1).app (wk.drop 3)).app ((wk.drop 1).take 2)).lin w2).bent
      have hN := nX (joinL [32] (W.take 1 ++ W.drop 3 ++ (W.drop 1).take 2))
      have hW := wt_N hB.1 hN (by omega) (by omega)
      refine t_jn (by omega) ?_
      simp only [gz5]
      refine ⟨⟨by decide, by rw [ofL_len]; exact Nat.le_trans (Nat.add_le_add_right (Nat.le_trans join_wt hW) 2) (by decide)⟩, ?_⟩
      rw [T_line, split_L (by decide) (by decide), tl_ofL, tl_ofL, List.map_map]
      obtain ⟨m1, m2, m3⟩ := bent_fin2 hB hN
      exact k _ _ _ _ m1 m2 m3 (by omega) hp5 x5
    · first | simp only [gz5, hx5 _ rfl, ga, cutD_take, cD1, cD2, eLS, m5, d5, aX, List.length_append, List.length_singleton, List.length_take, List.length_drop, List.length_map] | simp only [gz5, ga, cutD_take, cD1, cD2, eLS, m5, d5, aX, List.length_append, List.length_singleton, List.length_take, List.length_drop, List.length_map]
      refine ⟨by show _ ≤ 2 ^ 24; omega, by show _ ≤ 2 ^ 24; omega, by show _ ≤ 2 ^ 24; omega, by show _ ≤ 2 ^ 24; omega, ?_⟩
      have hB : ∀ l ∈ ls.take at_ ++ (ls.drop at_).take 1 ++ ls.drop at_, Lin (2 * B + 2) l := fun l hm => by
        rcases List.mem_append.mp hm with hm | hm
        · rcases List.mem_append.mp hm with hm | hm
          · exact B0 l (List.mem_of_mem_take hm)
          · exact B0 l (List.mem_of_mem_drop (List.mem_of_mem_take hm))
        · exact B0 l (List.mem_of_mem_drop hm)
      have hB := BntR.of hB
      have hN : (ls.take at_ ++ (ls.drop at_).take 1 ++ ls.drop at_).length ≤ ls.length + 1 := by
        rw [List.length_append, List.length_append, List.length_take, List.length_take, List.length_drop]; omega
      have hW := wt_N hB.1 hN (by omega) (by omega)
      refine t_jn (by omega) ?_
      simp only [gz5]
      refine ⟨⟨by decide, by rw [ofL_len]; exact Nat.le_trans (Nat.add_le_add_right (Nat.le_trans join_wt hW) 2) (by decide)⟩, ?_⟩
      rw [T_line, split_L (by decide) (by decide), tl_ofL, tl_ofL, List.map_map]
      obtain ⟨m1, m2, m3⟩ := bent_fin2 hB hN
      exact k _ _ _ _ m1 m2 m3 (by omega) hp5 x5
    · first | simp only [gz5, hx5 _ rfl, ga, cutD_take, cD1, cD2, eLS, List.length_append, List.length_singleton, List.length_take, List.length_drop, List.length_map] | simp only [gz5, ga, cutD_take, cD1, cD2, eLS, List.length_append, List.length_singleton, List.length_take, List.length_drop, List.length_map]
      refine ⟨by show _ ≤ 2 ^ 24; omega, by show _ ≤ 2 ^ 24; omega, 31, rfl, ⟨by decide, by decide, by decide, by decide, by decide +kernel⟩, ?_⟩
      simp only [gz5]
      refine ⟨by decide +kernel, by decide +kernel, ?_⟩
      refine t_takeA hp5 (by decide) (by decide) (by omega) fun a c6 S6 v0 v1 hp6 e6 => ?_
      obtain ⟨ix, rfl⟩ := Int.eq_ofNat_of_zero_le v0
      have x6 : ∀ z o, z ≠ p → S z = some o → S6 z = some o := fun z o zp e => by rw [e6 z zp]; exact x5 z o zp e
      obtain ⟨x, hx, gx⟩ := lit_at (xs := [Str.ofString "", Str.ofString "wall", Str.ofString "wall 0 0 1 2/4", Str.ofString "wall 0 0 1 -0", Str.ofString "wall 00 0 1 1", Str.ofString "wall 0 0 1 1/1", Str.ofString "wall 1 0 0 0", Str.ofString "wall 0 0 1 1/0", Str.ofString "wall 0 0 0 0", Str.ofString "wall 0 0 " ++ timesT (Str.ofString "1") 31 ++ Str.ofString " 0"]) (P := Lin 50)
        (by
          intro s hs
          simp only [List.mem_cons, List.not_mem_nil, or_false] at hs
          rcases hs with rfl | rfl | rfl | rfl | rfl | rfl | rfl | rfl | rfl | rfl
          all_goals exact ⟨by decide +kernel, by decide +kernel, by decide +kernel⟩) (i := ix) (by show ix < 10; omega)
      simp only [List.map_cons, List.map_nil] at gx
      simp only [gz5, gx, eLS, eR, List.length_append, List.length_singleton, List.length_take, List.length_drop, List.length_map]
      refine ⟨by show _ ≤ 2 ^ 24; omega, ?_⟩
      have hB : ∀ l ∈ ls ++ [x], Lin (2 * B + 2) l := fun l hm => by
        rcases List.mem_append.mp hm with hm | hm
        · exact B0 l hm
        · rw [List.mem_singleton.mp hm]; exact hx.mono (by omega)
      have hB := BntR.of hB
      have hN : (ls ++ [x]).length ≤ ls.length + 1 := by rw [List.length_append, List.length_singleton]; exact Nat.le_refl _
      have hW := wt_N hB.1 hN (by omega) (by omega)
      refine t_jn (by omega) ?_
      simp only [gz5]
      refine ⟨⟨by decide, by rw [ofL_len]; exact Nat.le_trans (Nat.add_le_add_right (Nat.le_trans join_wt hW) 2) (by decide)⟩, ?_⟩
      rw [T_line, split_L (by decide) (by decide), tl_ofL, tl_ofL, List.map_map]
      obtain ⟨m1, m2, m3⟩ := bent_fin2 hB hN
      exact k _ _ _ _ m1 m2 m3 (by omega) hp6 x6
    · first | simp only [gz5, hx5 _ rfl, ga, cutD_take, cD1, cD2, eLS, aX, List.length_append, List.length_singleton, List.length_take, List.length_drop, List.length_map] | simp only [gz5, ga, cutD_take, cD1, cD2, eLS, aX, List.length_append, List.length_singleton, List.length_take, List.length_drop, List.length_map]
      refine ⟨by show _ ≤ 2 ^ 24; omega, by show _ ≤ 2 ^ 24; omega, by show _ ≤ 2 ^ 24; omega, ?_⟩
      have hB : ∀ l ∈ ls.take at_ ++ ls.drop (at_ + 1), Lin (2 * B + 2) l := fun l hm => by
        rcases List.mem_append.mp hm with hm | hm
        · exact B0 l (List.mem_of_mem_take hm)
        · exact B0 l (List.mem_of_mem_drop hm)
      have hB := BntR.of hB
      have hN : (ls.take at_ ++ ls.drop (at_ + 1)).length ≤ ls.length + 1 := by
        rw [List.length_append, List.length_take, List.length_drop]; omega
      have hW := wt_N hB.1 hN (by omega) (by omega)
      refine t_jn (by omega) ?_
      simp only [gz5]
      refine ⟨⟨by decide, by rw [ofL_len]; exact Nat.le_trans (Nat.add_le_add_right (Nat.le_trans join_wt hW) 2) (by decide)⟩, ?_⟩
      rw [T_line, split_L (by decide) (by decide), tl_ofL, tl_ofL, List.map_map]
      obtain ⟨m1, m2, m3⟩ := bent_fin2 hB hN
      exact k _ _ _ _ m1 m2 m3 (by omega) hp5 x5
    · first | simp only [gz5, hx5 _ rfl, ga, cutD_take, cD1, cD2, eLS, List.length_append, List.length_singleton, List.length_take, List.length_drop, List.length_map] | simp only [gz5, ga, cutD_take, cD1, cD2, eLS, List.length_append, List.length_singleton, List.length_take, List.length_drop, List.length_map]
      refine ⟨by show _ ≤ 2 ^ 24; omega, by show _ ≤ 2 ^ 24; omega, ?_⟩
      refine t_takeA hp5 (by decide) (by decide) (by omega) fun a c6 S6 v0 v1 hp6 e6 => ?_
      obtain ⟨ix, rfl⟩ := Int.eq_ofNat_of_zero_le v0
      have hq6 : S6 q = some (.lst ((W.map ofL).map .str)) := by rw [e6 q npq.symm]; exact hq5
      have x6 : ∀ z o, z ≠ p → S z = some o → S6 z = some o := fun z o zp e => by rw [e6 z zp]; exact x5 z o zp e
      obtain ⟨x, hx, gx⟩ := lit_at (xs := [Str.ofString "0", Str.ofString "-1", Str.ofString "1/2", Str.ofString "2/3", Str.ofString "wall", Str.ofString "ask", Str.ofString "1_0", Str.ofString ""]) (P := fun x => (∀ c ∈ x, c < 128 ∧ c ≠ 10) ∧ x.length ≤ 4)
        (by
          intro s hs
          simp only [List.mem_cons, List.not_mem_nil, or_false] at hs
          rcases hs with rfl | rfl | rfl | rfl | rfl | rfl | rfl | rfl
          all_goals exact ⟨by decide +kernel, by decide +kernel⟩) (i := ix) (by show ix < 8; omega)
      simp only [List.map_cons, List.map_nil] at gx
      simp only [gz5, hq6, gx]
      rw [if_pos (by omega), show ((W.map ofL).map D.str).set pl (D.str (ofL x)) = ((W.set pl x).map ofL).map D.str by rw [List.map_set, List.map_set]]
      have npq' : q ≠ p := npq.symm
      have hq7 : put S6 q (.lst (((W.set pl x).map ofL).map .str)) q = some (.lst (((W.set pl x).map ofL).map .str)) := put_same
      have hp7 : put S6 q (.lst (((W.set pl x).map ofL).map .str)) p = some (rowO c6 (n + 1 + 1 + 1 + 1 + 1 + 1 : Nat)) := by rw [put_ne npq]; exact hp6
      have x7 : ∀ z o, z ≠ p → S z = some o → put S6 q (.lst (((W.set pl x).map ofL).map .str)) z = some o := fun z o zp e => by
        have zq : z ≠ q := fun h => by
          have e' := (e1 z zp).trans e
          rw [h, hq] at e'; cases e'
        rw [put_ne zq]; exact x6 z o zp e
      first | simp only [gz5, hx5 _ rfl, hq7, cutD_take, cD1, cD2, eLS, List.length_append, List.length_singleton, List.length_take, List.length_drop, List.length_map] | simp only [gz5, hq7, cutD_take, cD1, cD2, eLS, List.length_append, List.length_singleton, List.length_take, List.length_drop, List.length_map]
      have w2 : wt (W.set pl x) ≤ 2 * B + 2 := by have := wt_set (w := x) (ws := W) pl; have := hx.2; omega
      refine t_jw (ps := W.set pl x) (by show olP (put S6 q _ q) = _; rw [put_same]; rfl) (by omega) ?_
      first | simp only [gz5, hx5 _ rfl, cutD_take, cD1, cD2, eLS, List.length_append, List.length_singleton, List.length_take, List.length_drop, List.length_map] | simp only [gz5, cutD_take, cD1, cD2, eLS, List.length_append, List.length_singleton, List.length_take, List.length_drop, List.length_map]
      simp only [eX]
      refine ⟨by show _ ≤ 2 ^ 24; omega, by show _ ≤ 2 ^ 24; omega, ?_⟩
      have hB := bX _ ((wk.set pl hx.1).lin w2).bent
      have hN := nX (joinL [32] (W.set pl x))
      have hW := wt_N hB.1 hN (by omega) (by omega)
      refine t_jn (by omega) ?_
      simp only [gz5]
      refine ⟨⟨by decide, by rw [ofL_len]; exact Nat.le_trans (Nat.add_le_add_right (Nat.le_trans join_wt hW) 2) (by decide)⟩, ?_⟩
      rw [T_line, split_L (by decide) (by decide), tl_ofL, tl_ofL, List.map_map]
      obtain ⟨m1, m2, m3⟩ := bent_fin2 hB hN
      exact k _ _ _ _ m1 m2 m3 (by omega) hp7 x7
    · first | simp only [gz5, hx5 _ rfl, ga, cutD_take, cD1, cD2, eLS, List.length_append, List.length_singleton, List.length_take, List.length_drop, List.length_map] | simp only [gz5, ga, cutD_take, cD1, cD2, eLS, List.length_append, List.length_singleton, List.length_take, List.length_drop, List.length_map]
      refine ⟨by show _ ≤ 2 ^ 24; omega, by show _ ≤ 2 ^ 24; omega, ?_⟩
      have hB : ∀ l ∈ ls, Lin (2 * B + 2) l := B0
      have hB := BntR.of hB
      have hN : ls.length ≤ ls.length + 1 := Nat.le_succ _
      have hW := wt_N hB.1 hN (by omega) (by omega)
      refine t_jn (by omega) ?_
      simp only [gz5]
      refine ⟨⟨by decide, by rw [ofL_len]; exact Nat.le_trans (Nat.add_le_add_right (Nat.le_trans join_wt hW) 2) (by decide)⟩, ?_⟩
      rw [T_line, split_L (by decide) (by decide), tl_ofL, tl_ofL, List.map_map]
      obtain ⟨m1, m2, m3⟩ := bent_fin2 hB hN
      exact k _ _ _ _ m1 m2 m3 (by omega) hp5 x5
  | ref h =>
    have hx0 := gen S fun _ _ _ e => e
    first | simp only [gz5, hx0 _ rfl, List.length_map] | simp only [gz5, List.length_map]
    refine t_takeA hp (by omega) (by omega) (by omega) fun a c1 S1 a0 a1 hp1 e1 => ?_
    have hx1 := gen S1 fun z zp o e => (e1 z zp).trans e
    obtain ⟨at_, rfl⟩ := Int.eq_ofNat_of_zero_le a0
    have ha : at_ < ls.length := by omega
    have ga : (ls.map fun l => D.str (ofL l))[at_]? = some (.str (ofL ls[at_])) := by rw [List.getElem?_map, List.getElem?_eq_getElem ha]; rfl
    have hL : Lin B ls[at_] := hls _ (List.getElem_mem ha)
    generalize hL0 : ls[at_] = L at *
    have es : Txt.split (ofL L) (Str.ofString " ") = (spl [32] 0 [] L).map ofL := by rw [T_blank, split_L (by decide) (by decide), tl_ofL, tl_ofL]
    obtain ⟨wk, ww, wl⟩ := hL.words
    obtain ⟨w0, r0, hW⟩ := spl_ne (s := 32) L
    have wn : 0 < (spl [32] 0 [] L).length := by rw [hW]; simp
    have hLl := hL.len
    first | simp only [gz5, hx1 _ rfl, ga, es] | simp only [gz5, ga, es]
    generalize spl [32] 0 [] L = W at *
    refine ⟨⟨by decide, by rw [ofL_len]; show _ ≤ 2 ^ 24; omega⟩, fun q hq => ?_⟩
    have npq : p ≠ q := sne hp1 hq
    refine t_takeA (by rw [put_ne npq]; exact hp1) (by omega) (by omega) (by omega) fun a c2 S2 d0 d1 hp2 e2 => ?_
    obtain ⟨pl, rfl⟩ := Int.eq_ofNat_of_zero_le d0
    have hq2 : S2 q = some (.lst ((W.map ofL).map .str)) := by rw [e2 q npq.symm]; exact put_same
    have x2 : ∀ z o, z ≠ p → S z = some o → S2 z = some o := fun z o zp e => by
      have e := (e1 z zp).trans e
      rw [e2 z zp, put_ne (sne e hq)]; exact e
    have hx2 := gen S2 fun z zp o e => x2 z o zp e
    first | simp only [gz5, hx2 _ rfl, ga] | simp only [gz5, ga]
    have lenL : lenD S2 (.str (ofL L)) = some L.length := by
      show (if (ofL L).length ≤ sizeLine then some (ofL L).length else none) = _
      rw [ofL_len, if_pos (by show _ ≤ 2 ^ 24; omega)]
    simp only [gz5, lenL]
    refine t_takeA hp2 (by omega) (by omega) (by omega) fun a c3 S3 s0 s1 hp3 e3 => ?_
    obtain ⟨sp, rfl⟩ := Int.eq_ofNat_of_zero_le s0
    simp only [gz5]
    have g1 : (SIGNS.cps.all fun x => decide (x < 128)) = true := by decide +kernel
    have g2 : SIGNS.cps.size = 95 := by decide +kernel
    have g3 : SIGNS.cps.toList.length = 95 := by rw [Array.length_toList]; exact g2
    have g4 : SIGNS.length = 95 := g2
    have lenG : ∀ S', lenD S' (.str SIGNS) = some 95 := fun S' => by
      show (if SIGNS.length ≤ sizeLine then some SIGNS.length else none) = _
      rw [g4, if_pos (by decide)]
    have g5 : ∀ c ∈ SIGNS.cps.toList, c < 128 := fun c hc => by
      have := Array.all_toList ▸ g1
      simpa using List.all_eq_true.mp this c hc
    rw [show Str.ofString " !\"#$&'()*+,-./0123456789:;<=>?@ABCDEFGHIJKLMNOPQRSTUVWXYZ[\\]^_`abcdefghijklmnopqrstuvwxyz{|}~\n" = SIGNS from rfl]
    generalize SIGNS = SG at *
    simp only [gz5, lenG]
    refine ⟨⟨g1, by rw [g2]; decide⟩, by rw [g3]; decide, ?_⟩
    refine t_takeA hp3 (by omega) (by omega) (by omega) fun a c4 S4 u0 u1 hp4 e4 => ?_
    obtain ⟨sg, rfl⟩ := Int.eq_ofNat_of_zero_le u0
    simp only [gz5]
    obtain ⟨sc, sc1, gs⟩ : ∃ c0 : Nat, c0 < 128 ∧ (D.str (Str.ofString "a") :: D.str (Str.ofString "0") :: D.str (Str.ofString "/") :: D.str (Str.ofString "-") :: D.str (Str.ofString " ") :: D.str (Str.ofString "1") :: D.str (Str.ofString "\n") :: D.str (Str.ofString "+") :: D.str (Str.ofString ".") :: List.map (fun c => D.str { cps := #[c] }) SG.cps.toList)[sg]? = some (.str (ofL [c0])) := by
      have e : (D.str (Str.ofString "a") :: D.str (Str.ofString "0") :: D.str (Str.ofString "/") :: D.str (Str.ofString "-") :: D.str (Str.ofString " ") :: D.str (Str.ofString "1") :: D.str (Str.ofString "\n") :: D.str (Str.ofString "+") :: D.str (Str.ofString ".") :: List.map (fun c => D.str { cps := #[c] }) SG.cps.toList) = ([97, 48, 47, 45, 32, 49, 10, 43, 46] ++ SG.cps.toList).map fun c => D.str (ofL [c]) := rfl
      rw [e, List.getElem?_map]
      have hlt : sg < ([97, 48, 47, 45, 32, 49, 10, 43, 46] ++ SG.cps.toList).length := by rw [List.length_append, g3]; show sg < 9 + 95; omega
      refine ⟨([97, 48, 47, 45, 32, 49, 10, 43, 46] ++ SG.cps.toList)[sg], ?_, by rw [List.getElem?_eq_getElem hlt]; rfl⟩
      rcases List.mem_append.mp (List.getElem_mem hlt) with h | h
      · have : ∀ x ∈ ([97, 48, 47, 45, 32, 49, 10, 43, 46] : List Nat), x < 128 := by decide
        exact this _ h
      · exact g5 _ h
    rw [gs]
    simp only [gz5]
    refine t_takeA hp4 (by decide) (by decide) (by omega) fun way c5 S5 w0' w1 hp5 e5 => ?_
    have hq5 : S5 q = some (.lst ((W.map ofL).map .str)) := by rw [e5 q npq.symm, e4 q npq.symm, e3 q npq.symm]; exact hq2
    have x5 : ∀ z o, z ≠ p → S z = some o → S5 z = some o := fun z o zp e => by rw [e5 z zp, e4 z zp, e3 z zp]; exact x2 z o zp e
    have hx5 := gen S5 fun z zp o e => x5 z o zp e
    have cD1 : (ls.map fun l => D.str (ofL l)).take at_ = (ls.take at_).map fun l => D.str (ofL l) := by rw [List.map_take]
    have cD2 : cutD (ls.map fun l => D.str (ofL l)) (some ((at_ : Int) + 1)) none = (ls.drop (at_ + 1)).map fun l => D.str (ofL l) := by
      rw [show ((at_ : Int) + 1) = ((at_ + 1 : Nat) : Int) from rfl, cutD_drop, List.map_drop]
    clear es lenG g1 g2 g3 g4 g5 gs lenL hp2 e2 hq2 x2 hp3 e3 hp4 e4
    have hw : way = 0 ∨ way = 1 ∨ way = 2 ∨ way = 3 ∨ way = 4 ∨ way = 5 ∨ way = 6 ∨ way = 7 ∨ way = 8 ∨ way = 9 := by omega
    have eLS : (ls.take at_).map (fun l => D.str (ofL l)) ++ [D.str (ofL L)] ++ (ls.drop (at_ + 1)).map (fun l => D.str (ofL l)) = ls.map fun l => D.str (ofL l) := by
      have : ls = ls.take at_ ++ [L] ++ ls.drop (at_ + 1) := by
        rw [← hL0, List.append_assoc]
        show ls = ls.take at_ ++ ls[at_] :: ls.drop (at_ + 1)
        rw [← List.drop_eq_getElem_cons ha, List.take_append_drop]
      conv => rhs; rw [this]
      rw [List.map_append, List.map_append]; rfl
    have eX : ∀ x : List Nat, (ls.take at_).map (fun l => D.str (ofL l)) ++ [D.str (ofL x)] ++ (ls.drop (at_ + 1)).map (fun l => D.str (ofL l)) = (ls.take at_ ++ [x] ++ ls.drop (at_ + 1)).map fun l => D.str (ofL l) := fun x => by
      rw [List.map_append, List.map_append]; rfl
    have bX : ∀ x : List Nat, LinB (2 * B + 2) x → BntR (2 * B + 2) (ls.take at_ ++ [x] ++ ls.drop (at_ + 1)) := fun x hx => BntR.mid (B := B) (fun l hm => hls l (List.mem_of_mem_take hm)) (fun l hm => hls l (List.mem_of_mem_drop hm)) hx (by omega)
    have nX : ∀ x : List Nat, (ls.take at_ ++ [x] ++ ls.drop (at_ + 1)).length ≤ ls.length + 1 := fun x => by
      rw [List.length_append, List.length_append, List.length_take, List.length_drop, List.length_singleton]; omega
    have ltk : (ls.take at_).length = at_ := by rw [List.length_take]; omega
    have ldr : (ls.drop (at_ + 1)).length = ls.length - (at_ + 1) := List.length_drop
    have cS1 : cutS (ofL L) (some ((sp : Int) + 1)) none = ofL (L.drop (sp + 1)) := cutS_drop (sp + 1)
    have tW : ∀ k, ((W.map ofL).map D.str).take k = ((W.take k).map ofL).map D.str := fun k => by rw [List.map_take, List.map_take]
    have dW : ∀ k : Nat, cutD ((W.map ofL).map D.str) (some (k : Int)) none = ((W.drop k).map ofL).map D.str := fun k => by rw [cutD_drop, List.map_drop, List.map_drop]
    have cW1 : cutD ((W.map ofL).map D.str) (some ((pl : Int) + 1)) none = ((W.drop (pl + 1)).map ofL).map D.str := dW (pl + 1)
    have cW2 : cutD ((W.map ofL).map D.str) none (some ((pl : Int) + 1)) = ((W.take (pl + 1)).map ofL).map D.str := (cutD_take (pl + 1)).trans (tW _)
    have c41 : cutD ((W.map ofL).map D.str) none (some 1) = ((W.take 1).map ofL).map D.str := (cutD_take 1).trans (tW _)
    have c43 : cutD ((W.map ofL).map D.str) (some 3) none = ((W.drop 3).map ofL).map D.str := dW 3
    have c413 : cutD ((W.map ofL).map D.str) (some 1) (some 3) = (((W.drop 1).take 2).map ofL).map D.str := (cutD_mid 1 3).trans (by rw [List.map_take, List.map_take, List.map_drop, List.map_drop])
    have aW : ∀ a b : List (List Nat), (a.map ofL).map D.str ++ (b.map ofL).map D.str = ((a ++ b).map ofL).map D.str := fun a b => by rw [List.map_append, List.map_append]
    have aX : ∀ a b : List (List Nat), a.map (fun l => D.str (ofL l)) ++ b.map (fun l => D.str (ofL l)) = (a ++ b).map fun l => D.str (ofL l) := fun a b => by rw [List.map_append]
    have m5 : cutD (ls.map fun l => D.str (ofL l)) (some (at_ : Int)) (some ((at_ : Int) + 1)) = ((ls.drop at_).take 1).map fun l => D.str (ofL l) := by
      rw [show ((at_ : Int) + 1) = ((at_ + 1 : Nat) : Int) from rfl, cutD_mid, show at_ + 1 - at_ = 1 by omega, List.map_take, List.map_drop]
    have d5 : cutD (ls.map fun l => D.str (ofL l)) (some (at_ : Int)) none = (ls.drop at_).map fun l => D.str (ofL l) := by rw [cutD_drop, List.map_drop]
    have eR : ∀ x : List Nat, ls.map (fun l => D.str (ofL l)) ++ [D.str (ofL x)] = (ls ++ [x]).map fun l => D.str (ofL l) := fun x => by rw [List.map_append]; rfl
    have B0 : ∀ l ∈ ls, Lin (2 * B + 2) l := fun l hm => (hls l hm).mono (by omega)
    rcases hw with rfl | rfl | rfl | rfl | rfl | rfl | rfl | rfl | rfl | rfl
    · first | simp only [gz5, hx5 _ rfl, ga, cutS_take, cutS_drop, cutD_take, cD1, cD2, ofL_app, eX, ofL_len, List.length_append, List.length_singleton, List.length_take, List.length_drop, List.length_map] | simp only [gz5, ga, cutS_take, cutS_drop, cutD_take, cD1, cD2, ofL_app, eX, ofL_len, List.length_append, List.length_singleton, List.length_take, List.length_drop, List.length_map]
      refine ⟨by show _ ≤ 2 ^ 24; omega, by show _ ≤ 2 ^ 24; omega, by show _ ≤ 2 ^ 24; omega, by show _ ≤ 2 ^ 24; omega, by show _ ≤ 2 ^ 24; omega, by show _ ≤ 2 ^ 24; omega, ?_⟩
      have hB := bX _ ((bend_put (n := sp) hL sc1).mono (by omega))
      have hN := nX (L.take sp ++ [sc] ++ L.drop sp)
      have hW := wt_N hB.1 hN (by omega) (by omega)
      refine t_jn (by omega) ?_
      simp only [gz5]
      refine ⟨⟨by decide, by rw [ofL_len]; exact Nat.le_trans (Nat.add_le_add_right (Nat.le_trans join_wt hW) 2) (by decide)⟩, ?_⟩
      rw [T_line, split_L (by decide) (by decide), tl_ofL, tl_ofL, List.map_map]
      obtain ⟨m1, m2, m3⟩ := bent_fin2 hB hN
      exact k _ _ _ _ m1 m2 m3 (by omega) hp5 x5
    · first | simp only [gz5, hx5 _ rfl, ga, cutS_take, cS1, cutD_take, cD1, cD2, ofL_app, eX, ofL_len, List.length_append, List.length_singleton, List.length_take, List.length_drop, List.length_map] | simp only [gz5, ga, cutS_take, cS1, cutD_take, cD1, cD2, ofL_app, eX, ofL_len, List.length_append, List.length_singleton, List.length_take, List.length_drop, List.length_map]
      refine ⟨by show _ ≤ 2 ^ 24; omega, by show _ ≤ 2 ^ 24; omega, by show _ ≤ 2 ^ 24; omega, by show _ ≤ 2 ^ 24; omega, by show _ ≤ 2 ^ 24; omega, ?_⟩
      have hB := bX _ ((bend_out (n := sp) hL).mono (C := 2 * B + 2) (by omega)).bent
      have hN := nX (L.take sp ++ L.drop (sp + 1))
      have hW := wt_N hB.1 hN (by omega) (by omega)
      refine t_jn (by omega) ?_
      simp only [gz5]
      refine ⟨⟨by decide, by rw [ofL_len]; exact Nat.le_trans (Nat.add_le_add_right (Nat.le_trans join_wt hW) 2) (by decide)⟩, ?_⟩
      rw [T_line, split_L (by decide) (by decide), tl_ofL, tl_ofL, List.map_map]
      obtain ⟨m1, m2, m3⟩ := bent_fin2 hB hN
      exact k _ _ _ _ m1 m2 m3 (by omega) hp5 x5
    · first | simp only [gz5, hx5 _ rfl, ga, cutD_take, cD1, cD2, hq5, cW1, cW2, tW, dW, aW, List.length_append, List.length_singleton, List.length_take, List.length_drop, List.length_map] | simp only [gz5, ga, cutD_take, cD1, cD2, hq5, cW1, cW2, tW, dW, aW, List.length_append, List.length_singleton, List.length_take, List.length_drop, List.length_map]
      refine ⟨by show _ ≤ 2 ^ 24; omega, ?_⟩
      have w2 : wt (W.take pl ++ W.drop (pl + 1)) ≤ 2 * B + 2 := by rw [wt_app]; have := wt_take_le (ws := W) pl; have := wt_drop_le (ws := W) (pl + 1); omega
      refine t_jw (ps := W.take pl ++ W.drop (pl + 1)) rfl (by omega) ?_
      first | simp only [gz5, hx5 _ rfl, cutD_take, cD1, cD2, eX, List.length_append, List.length_singleton, List.length_take, List.length_drop, List.length_map] | simp only [gz5, cutD_take, cD1, cD2, eX, List.length_append, List.length_singleton, List.length_take, List.length_drop, List.length_map]
      refine ⟨by show _ ≤ 2 ^ 24; omega, by show _ ≤ 2 ^ 24; omega, ?_⟩
      have hB := bX _ (((wk.take pl).app (wk.drop (pl + 1))).lin w2).bent
      have hN := nX (joinL [32] (W.take pl ++ W.drop (pl + 1)))
      have hW := wt_N hB.1 hN (by omega) (by omega)
      refine t_jn (by omega) ?_
      simp only [gz5]
      refine ⟨⟨by decide, by rw [ofL_len]; exact Nat.le_trans (Nat.add_le_add_right (Nat.le_trans join_wt hW) 2) (by decide)⟩, ?_⟩
      rw [T_line, split_L (by decide) (by decide), tl_ofL, tl_ofL, List.map_map]
      obtain ⟨m1, m2, m3⟩ := bent_fin2 hB hN
      exact k _ _ _ _ m1 m2 m3 (by omega) hp5 x5
    · first | simp only [gz5, hx5 _ rfl, ga, cutD_take, cD1, cD2, hq5, cW1, cW2, tW, dW, aW, List.length_append, List.length_singleton, List.length_take, List.length_drop, List.length_map] | simp only [gz5, ga, cutD_take, cD1, cD2, hq5, cW1, cW2, tW, dW, aW, List.length_append, List.length_singleton, List.length_take, List.length_drop, List.length_map]
      refine ⟨by show _ ≤ 2 ^ 24; omega, ?_⟩
      have w2 : wt (W.take (pl + 1) ++ W.drop pl) ≤ 2 * B + 2 := by rw [wt_app]; have := wt_take_le (ws := W) (pl + 1); have := wt_drop_le (ws := W) pl; omega
      refine t_jw (ps := W.take (pl + 1) ++ W.drop pl) rfl (by omega) ?_
      first | simp only [gz5, hx5 _ rfl, cutD_take, cD1, cD2, eX, List.length_append, List.length_singleton, List.length_take, List.length_drop, List.length_map] | simp only [gz5, cutD_take, cD1, cD2, eX, List.length_append, List.length_singleton, List.length_take, List.length_drop, List.length_map]
      refine ⟨by show _ ≤ 2 ^ 24; omega, by show _ ≤ 2 ^ 24; omega, ?_⟩
      have hB := bX _ (((wk.take (pl + 1)).app (wk.drop pl)).lin w2).bent
      have hN := nX (joinL [32] (W.take (pl + 1) ++ W.drop pl))
      have hW := wt_N hB.1 hN (by omega) (by omega)
      refine t_jn (by omega) ?_
      simp only [gz5]
      refine ⟨⟨by decide, by rw [ofL_len]; exact Nat.le_trans (Nat.add_le_add_right (Nat.le_trans join_wt hW) 2) (by decide)⟩, ?_⟩
      rw [T_line, split_L (by decide) (by decide), tl_ofL, tl_ofL, List.map_map]
      obtain ⟨m1, m2, m3⟩ := bent_fin2 hB hN
      exact k _ _ _ _ m1 m2 m3 (by omega) hp5 x5
    · first | simp only [gz5, hx5 _ rfl, ga, cutD_take, cD1, cD2, hq5, c41, c43, c413, aW, List.length_append, List.length_singleton, List.length_take, List.length_drop, List.length_map] | simp only [gz5, ga, cutD_take, cD1, cD2, hq5, c41, c43, c413, aW, List.length_append, List.length_singleton, List.length_take, List.length_drop, List.length_map]
      refine ⟨by show _ ≤ 2 ^ 24; omega, by show _ ≤ 2 ^ 24; omega, ?_⟩
      have w2 : wt (W.take 1 ++ W.drop 3 ++ (W.drop 1).take 2) ≤ 2 * B + 2 := by rw [wt_app, wt_app]; have := wt_take_le (ws := W) 1; have := wt_drop_le (ws := W) 3; have := wt_take_le (ws := W.drop 1) 2; have := wt_take (ws := W) 1; omega
      refine t_jw (ps := W.take 1 ++ W.drop 3 ++ (W.drop 1).take 2) rfl (by omega) ?_
      first | simp only [gz5, hx5 _ rfl, cutD_take, cD1, cD2, eX, List.length_append, List.length_singleton, List.length_take, List.length_drop, List.length_map] | simp only [gz5, cutD_take, cD1, cD2, eX, List.length_append, List.length_singleton, List.length_take, List.length_drop, List.length_map]
      refine ⟨by show _ ≤ 2 ^ 24; omega, by show _ ≤ 2 ^ 24; omega, ?_⟩
      have hB := bX _ ((((wk.take 1).app (wk.drop 3)).app ((wk.drop 1).take 2)).lin w2).bent
      have hN := nX (joinL [32] (W.take 1 ++ W.drop 3 ++ (W.drop 1).take 2))
      have hW := wt_N hB.1 hN (by omega) (by omega)
      refine t_jn (by omega) ?_
      simp only [gz5]
      refine ⟨⟨by decide, by rw [ofL_len]; exact Nat.le_trans (Nat.add_le_add_right (Nat.le_trans join_wt hW) 2) (by decide)⟩, ?_⟩
      rw [T_line, split_L (by decide) (by decide), tl_ofL, tl_ofL, List.map_map]
      obtain ⟨m1, m2, m3⟩ := bent_fin2 hB hN
      exact k _ _ _ _ m1 m2 m3 (by omega) hp5 x5
    · first | simp only [gz5, hx5 _ rfl, ga, cutD_take, cD1, cD2, eLS, m5, d5, aX, List.length_append, List.length_singleton, List.length_take, List.length_drop, List.length_map] | simp only [gz5, ga, cutD_take, cD1, cD2, eLS, m5, d5, aX, List.length_append, List.length_singleton, List.length_take, List.length_drop, List.length_map]
      refine ⟨by show _ ≤ 2 ^ 24; omega, by show _ ≤ 2 ^ 24; omega, by show _ ≤ 2 ^ 24; omega, by show _ ≤ 2 ^ 24; omega, ?_⟩
      have hB : ∀ l ∈ ls.take at_ ++ (ls.drop at_).take 1 ++ ls.drop at_, Lin (2 * B + 2) l := fun l hm => by
        rcases List.mem_append.mp hm with hm | hm
        · rcases List.mem_append.mp hm with hm | hm
          · exact B0 l (List.mem_of_mem_take hm)
          · exact B0 l (List.mem_of_mem_drop (List.mem_of_mem_take hm))
        · exact B0 l (List.mem_of_mem_drop hm)
      have hB := BntR.of hB
      have hN : (ls.take at_ ++ (ls.drop at_).take 1 ++ ls.drop at_).length ≤ ls.length + 1 := by
        rw [List.length_append, List.length_append, List.length_take, List.length_take, List.length_drop]; omega
      have hW := wt_N hB.1 hN (by omega) (by omega)
      refine t_jn (by omega) ?_
      simp only [gz5]
      refine ⟨⟨by decide, by rw [ofL_len]; exact Nat.le_trans (Nat.add_le_add_right (Nat.le_trans join_wt hW) 2) (by decide)⟩, ?_⟩
      rw [T_line, split_L (by decide) (by decide), tl_ofL, tl_ofL, List.map_map]
      obtain ⟨m1, m2, m3⟩ := bent_fin2 hB hN
      exact k _ _ _ _ m1 m2 m3 (by omega) hp5 x5
    · first | simp only [gz5, hx5 _ rfl, ga, cutD_take, cD1, cD2, eLS, List.length_append, List.length_singleton, List.length_take, List.length_drop, List.length_map] | simp only [gz5, ga, cutD_take, cD1, cD2, eLS, List.length_append, List.length_singleton, List.length_take, List.length_drop, List.length_map]
      refine ⟨by show _ ≤ 2 ^ 24; omega, by show _ ≤ 2 ^ 24; omega, 31, rfl, ⟨by decide, by decide, by decide, by decide, by decide +kernel⟩, ?_⟩
      simp only [gz5]
      refine ⟨by decide +kernel, by decide +kernel, ?_⟩
      refine t_takeA hp5 (by decide) (by decide) (by omega) fun a c6 S6 v0 v1 hp6 e6 => ?_
      obtain ⟨ix, rfl⟩ := Int.eq_ofNat_of_zero_le v0
      have x6 : ∀ z o, z ≠ p → S z = some o → S6 z = some o := fun z o zp e => by rw [e6 z zp]; exact x5 z o zp e
      obtain ⟨x, hx, gx⟩ := lit_at (xs := [Str.ofString "", Str.ofString "wall", Str.ofString "wall 0 0 1 2/4", Str.ofString "wall 0 0 1 -0", Str.ofString "wall 00 0 1 1", Str.ofString "wall 0 0 1 1/1", Str.ofString "wall 1 0 0 0", Str.ofString "wall 0 0 1 1/0", Str.ofString "wall 0 0 0 0", Str.ofString "wall 0 0 " ++ timesT (Str.ofString "1") 31 ++ Str.ofString " 0"]) (P := Lin 50)
        (by
          intro s hs
          simp only [List.mem_cons, List.not_mem_nil, or_false] at hs
          rcases hs with rfl | rfl | rfl | rfl | rfl | rfl | rfl | rfl | rfl | rfl
          all_goals exact ⟨by decide +kernel, by decide +kernel, by decide +kernel⟩) (i := ix) (by show ix < 10; omega)
      simp only [List.map_cons, List.map_nil] at gx
      simp only [gz5, gx, eLS, eR, List.length_append, List.length_singleton, List.length_take, List.length_drop, List.length_map]
      refine ⟨by show _ ≤ 2 ^ 24; omega, ?_⟩
      have hB : ∀ l ∈ ls ++ [x], Lin (2 * B + 2) l := fun l hm => by
        rcases List.mem_append.mp hm with hm | hm
        · exact B0 l hm
        · rw [List.mem_singleton.mp hm]; exact hx.mono (by omega)
      have hB := BntR.of hB
      have hN : (ls ++ [x]).length ≤ ls.length + 1 := by rw [List.length_append, List.length_singleton]; exact Nat.le_refl _
      have hW := wt_N hB.1 hN (by omega) (by omega)
      refine t_jn (by omega) ?_
      simp only [gz5]
      refine ⟨⟨by decide, by rw [ofL_len]; exact Nat.le_trans (Nat.add_le_add_right (Nat.le_trans join_wt hW) 2) (by decide)⟩, ?_⟩
      rw [T_line, split_L (by decide) (by decide), tl_ofL, tl_ofL, List.map_map]
      obtain ⟨m1, m2, m3⟩ := bent_fin2 hB hN
      exact k _ _ _ _ m1 m2 m3 (by omega) hp6 x6
    · first | simp only [gz5, hx5 _ rfl, ga, cutD_take, cD1, cD2, eLS, aX, List.length_append, List.length_singleton, List.length_take, List.length_drop, List.length_map] | simp only [gz5, ga, cutD_take, cD1, cD2, eLS, aX, List.length_append, List.length_singleton, List.length_take, List.length_drop, List.length_map]
      refine ⟨by show _ ≤ 2 ^ 24; omega, by show _ ≤ 2 ^ 24; omega, by show _ ≤ 2 ^ 24; omega, ?_⟩
      have hB : ∀ l ∈ ls.take at_ ++ ls.drop (at_ + 1), Lin (2 * B + 2) l := fun l hm => by
        rcases List.mem_append.mp hm with hm | hm
        · exact B0 l (List.mem_of_mem_take hm)
        · exact B0 l (List.mem_of_mem_drop hm)
      have hB := BntR.of hB
      have hN : (ls.take at_ ++ ls.drop (at_ + 1)).length ≤ ls.length + 1 := by
        rw [List.length_append, List.length_take, List.length_drop]; omega
      have hW := wt_N hB.1 hN (by omega) (by omega)
      refine t_jn (by omega) ?_
      simp only [gz5]
      refine ⟨⟨by decide, by rw [ofL_len]; exact Nat.le_trans (Nat.add_le_add_right (Nat.le_trans join_wt hW) 2) (by decide)⟩, ?_⟩
      rw [T_line, split_L (by decide) (by decide), tl_ofL, tl_ofL, List.map_map]
      obtain ⟨m1, m2, m3⟩ := bent_fin2 hB hN
      exact k _ _ _ _ m1 m2 m3 (by omega) hp5 x5
    · first | simp only [gz5, hx5 _ rfl, ga, cutD_take, cD1, cD2, eLS, List.length_append, List.length_singleton, List.length_take, List.length_drop, List.length_map] | simp only [gz5, ga, cutD_take, cD1, cD2, eLS, List.length_append, List.length_singleton, List.length_take, List.length_drop, List.length_map]
      refine ⟨by show _ ≤ 2 ^ 24; omega, by show _ ≤ 2 ^ 24; omega, ?_⟩
      refine t_takeA hp5 (by decide) (by decide) (by omega) fun a c6 S6 v0 v1 hp6 e6 => ?_
      obtain ⟨ix, rfl⟩ := Int.eq_ofNat_of_zero_le v0
      have hq6 : S6 q = some (.lst ((W.map ofL).map .str)) := by rw [e6 q npq.symm]; exact hq5
      have x6 : ∀ z o, z ≠ p → S z = some o → S6 z = some o := fun z o zp e => by rw [e6 z zp]; exact x5 z o zp e
      obtain ⟨x, hx, gx⟩ := lit_at (xs := [Str.ofString "0", Str.ofString "-1", Str.ofString "1/2", Str.ofString "2/3", Str.ofString "wall", Str.ofString "ask", Str.ofString "1_0", Str.ofString ""]) (P := fun x => (∀ c ∈ x, c < 128 ∧ c ≠ 10) ∧ x.length ≤ 4)
        (by
          intro s hs
          simp only [List.mem_cons, List.not_mem_nil, or_false] at hs
          rcases hs with rfl | rfl | rfl | rfl | rfl | rfl | rfl | rfl
          all_goals exact ⟨by decide +kernel, by decide +kernel⟩) (i := ix) (by show ix < 8; omega)
      simp only [List.map_cons, List.map_nil] at gx
      simp only [gz5, hq6, gx]
      rw [if_pos (by omega), show ((W.map ofL).map D.str).set pl (D.str (ofL x)) = ((W.set pl x).map ofL).map D.str by rw [List.map_set, List.map_set]]
      have npq' : q ≠ p := npq.symm
      have hq7 : put S6 q (.lst (((W.set pl x).map ofL).map .str)) q = some (.lst (((W.set pl x).map ofL).map .str)) := put_same
      have hp7 : put S6 q (.lst (((W.set pl x).map ofL).map .str)) p = some (rowO c6 (n + 1 + 1 + 1 + 1 + 1 + 1 : Nat)) := by rw [put_ne npq]; exact hp6
      have x7 : ∀ z o, z ≠ p → S z = some o → put S6 q (.lst (((W.set pl x).map ofL).map .str)) z = some o := fun z o zp e => by
        have zq : z ≠ q := fun h => by
          have e' := (e1 z zp).trans e
          rw [h, hq] at e'; cases e'
        rw [put_ne zq]; exact x6 z o zp e
      first | simp only [gz5, hx5 _ rfl, hq7, cutD_take, cD1, cD2, eLS, List.length_append, List.length_singleton, List.length_take, List.length_drop, List.length_map] | simp only [gz5, hq7, cutD_take, cD1, cD2, eLS, List.length_append, List.length_singleton, List.length_take, List.length_drop, List.length_map]
      have w2 : wt (W.set pl x) ≤ 2 * B + 2 := by have := wt_set (w := x) (ws := W) pl; have := hx.2; omega
      refine t_jw (ps := W.set pl x) (by show olP (put S6 q _ q) = _; rw [put_same]; rfl) (by omega) ?_
      first | simp only [gz5, hx5 _ rfl, cutD_take, cD1, cD2, eLS, List.length_append, List.length_singleton, List.length_take, List.length_drop, List.length_map] | simp only [gz5, cutD_take, cD1, cD2, eLS, List.length_append, List.length_singleton, List.length_take, List.length_drop, List.length_map]
      simp only [eX]
      refine ⟨by show _ ≤ 2 ^ 24; omega, by show _ ≤ 2 ^ 24; omega, ?_⟩
      have hB := bX _ ((wk.set pl hx.1).lin w2).bent
      have hN := nX (joinL [32] (W.set pl x))
      have hW := wt_N hB.1 hN (by omega) (by omega)
      refine t_jn (by omega) ?_
      simp only [gz5]
      refine ⟨⟨by decide, by rw [ofL_len]; exact Nat.le_trans (Nat.add_le_add_right (Nat.le_trans join_wt hW) 2) (by decide)⟩, ?_⟩
      rw [T_line, split_L (by decide) (by decide), tl_ofL, tl_ofL, List.map_map]
      obtain ⟨m1, m2, m3⟩ := bent_fin2 hB hN
      exact k _ _ _ _ m1 m2 m3 (by omega) hp7 x7
    · first | simp only [gz5, hx5 _ rfl, ga, cutD_take, cD1, cD2, eLS, List.length_append, List.length_singleton, List.length_take, List.length_drop, List.length_map] | simp only [gz5, ga, cutD_take, cD1, cD2, eLS, List.length_append, List.length_singleton, List.length_take, List.length_drop, List.length_map]
      refine ⟨by show _ ≤ 2 ^ 24; omega, by show _ ≤ 2 ^ 24; omega, ?_⟩
      have hB : ∀ l ∈ ls, Lin (2 * B + 2) l := B0
      have hB := BntR.of hB
      have hN : ls.length ≤ ls.length + 1 := Nat.le_succ _
      have hW := wt_N hB.1 hN (by omega) (by omega)
      refine t_jn (by omega) ?_
      simp only [gz5]
      refine ⟨⟨by decide, by rw [ofL_len]; exact Nat.le_trans (Nat.add_le_add_right (Nat.le_trans join_wt hW) 2) (by decide)⟩, ?_⟩
      rw [T_line, split_L (by decide) (by decide), tl_ofL, tl_ofL, List.map_map]
      obtain ⟨m1, m2, m3⟩ := bent_fin2 hB hN
      exact k _ _ _ _ m1 m2 m3 (by omega) hp5 x5
--CUT
theorem r_law_rows : ∀ ds S Q E, sp_law_rows ds S Q E → b_law_rows (mends Q E) (mstart 3 ds) S := by
  rintro _ S Q E ⟨d, ws, rfl, hd, hn, hf, k⟩
  unfold b_law_rows
  simp only [ML.q_mstart, ML.q_mends, List.map_cons, List.map_nil, List.replicate, List.cons_append, List.nil_append]
  rcases hd with rfl | rfl | ⟨q, rfl, hq⟩
  · simp only [gz5]
    intro p hp
    have GG : ∀ acc : List D, (fun _ : Sto => True) (put S p (.lst acc)) := fun _ => trivial
    refine comp_map wlD (fun w => .str (ofL (waL w))) ws rfl (by omega) GG ?_ ?_
    · intro w acc Q1 hm q1
      have ff := hf w hm
      obtain ⟨h1, h2, h3, h4⟩ := ff
      simp only [gz5]
      unfold spD
      unfold ML.rAdd
      refine ⟨⟨by simp, by show 2 + 2 ≤ 2 ^ 24; decide⟩, ?_⟩
      simp only [gz5]
      intro p1 hp1
      refine comp_map fr (fun q => .str (ofL (shL q))) [w.1.1, w.1.2, w.2.1, w.2.2] rfl (by simp) (fun _ => trivial) ?_ ?_
      · intro q acc2 Q2 hm2 q2
        simp only [gz5]
        have hq : Num q := by
          simp only [List.mem_cons, List.not_mem_nil, or_false] at hm2
          rcases hm2 with rfl | rfl | rfl | rfl <;> assumption
        exact ⟨q, rfl, hq.1, q2⟩
      · simp only [gz5]
        refine ⟨(wordsL w).map ofL, by rw [T_wall]; rfl, ?_, ?_⟩
        · have h1 : (((wordsL w).map ofL).map (·.length)).sum ≤ (wordsL w).length * 130 := by
            rw [List.map_map]
            exact sum_bd fun p hp => by
              show (ofL p).length ≤ 130
              rw [ofL_len]
              simp only [wordsL, List.mem_cons, List.not_mem_nil, or_false] at hp
              rcases hp with rfl | rfl | rfl | rfl | rfl
              · decide
              · exact h1.2
              · exact h2.2
              · exact h3.2
              · exact h4.2
          have hw : (wordsL w).length = 5 := rfl
          rw [List.length_map, T_blank, ofL_len, hw]
          rw [hw] at h1
          simp only [List.length_singleton]
          omega
        · rw [del_put hp1, join_L, T_blank]; exact q1
    · simp only [gz5]
      exact k p hp
  · simp only [gz5]
    intro p hp
    have GG : ∀ acc : List D, (fun _ : Sto => True) (put S p (.lst acc)) := fun _ => trivial
    refine comp_map wlD (fun w => .str (ofL (waL w))) ws rfl (by omega) GG ?_ ?_
    · intro w acc Q1 hm q1
      have ff := hf w hm
      obtain ⟨h1, h2, h3, h4⟩ := ff
      simp only [gz5]
      unfold spD
      unfold ML.rAdd
      refine ⟨⟨by simp, by show 2 + 2 ≤ 2 ^ 24; decide⟩, ?_⟩
      simp only [gz5]
      intro p1 hp1
      refine comp_map fr (fun q => .str (ofL (shL q))) [w.1.1, w.1.2, w.2.1, w.2.2] rfl (by simp) (fun _ => trivial) ?_ ?_
      · intro q acc2 Q2 hm2 q2
        simp only [gz5]
        have hq : Num q := by
          simp only [List.mem_cons, List.not_mem_nil, or_false] at hm2
          rcases hm2 with rfl | rfl | rfl | rfl <;> assumption
        exact ⟨q, rfl, hq.1, q2⟩
      · simp only [gz5]
        refine ⟨(wordsL w).map ofL, by rw [T_wall]; rfl, ?_, ?_⟩
        · have h1 : (((wordsL w).map ofL).map (·.length)).sum ≤ (wordsL w).length * 130 := by
            rw [List.map_map]
            exact sum_bd fun p hp => by
              show (ofL p).length ≤ 130
              rw [ofL_len]
              simp only [wordsL, List.mem_cons, List.not_mem_nil, or_false] at hp
              rcases hp with rfl | rfl | rfl | rfl | rfl
              · decide
              · exact h1.2
              · exact h2.2
              · exact h3.2
              · exact h4.2
          have hw : (wordsL w).length = 5 := rfl
          rw [List.length_map, T_blank, ofL_len, hw]
          rw [hw] at h1
          simp only [List.length_singleton]
          omega
        · rw [del_put hp1, join_L, T_blank]; exact q1
    · simp only [gz5]
      exact k p hp
  · simp only [gz5, hq, sqI_at hq]
    intro p hp
    have GG : ∀ acc : List D, (fun S' : Sto => olP (S' q) = some (ws.map wlD)) (put S p (.lst acc)) := fun _ => by show olP (put S p _ q) = _; rw [put_ne (sne hq hp), hq]; rfl
    refine comp_map wlD (fun w => .str (ofL (waL w))) ws rfl (by omega) GG ?_ ?_
    · intro w acc Q1 hm q1
      have ff := hf w hm
      obtain ⟨h1, h2, h3, h4⟩ := ff
      simp only [gz5]
      unfold spD
      unfold ML.rAdd
      refine ⟨⟨by simp, by show 2 + 2 ≤ 2 ^ 24; decide⟩, ?_⟩
      simp only [gz5]
      intro p1 hp1
      refine comp_map fr (fun q => .str (ofL (shL q))) [w.1.1, w.1.2, w.2.1, w.2.2] rfl (by simp) (fun _ => trivial) ?_ ?_
      · intro q acc2 Q2 hm2 q2
        simp only [gz5]
        have hq : Num q := by
          simp only [List.mem_cons, List.not_mem_nil, or_false] at hm2
          rcases hm2 with rfl | rfl | rfl | rfl <;> assumption
        exact ⟨q, rfl, hq.1, q2⟩
      · simp only [gz5]
        refine ⟨(wordsL w).map ofL, by rw [T_wall]; rfl, ?_, ?_⟩
        · have h1 : (((wordsL w).map ofL).map (·.length)).sum ≤ (wordsL w).length * 130 := by
            rw [List.map_map]
            exact sum_bd fun p hp => by
              show (ofL p).length ≤ 130
              rw [ofL_len]
              simp only [wordsL, List.mem_cons, List.not_mem_nil, or_false] at hp
              rcases hp with rfl | rfl | rfl | rfl | rfl
              · decide
              · exact h1.2
              · exact h2.2
              · exact h3.2
              · exact h4.2
          have hw : (wordsL w).length = 5 := rfl
          rw [List.length_map, T_blank, ofL_len, hw]
          rw [hw] at h1
          simp only [List.length_singleton]
          omega
        · rw [del_put hp1, join_L, T_blank]; exact q1
    · simp only [gz5]
      exact k p hp
theorem r_law_number : ∀ ds S Q E, sp_law_number ds S Q E → b_law_number (mends Q E) (mstart 4 ds) S := by
  rintro _ S Q E ⟨p, c, n, rfl, hp, hn, k⟩
  unfold b_law_number
  simp only [ML.q_mstart, ML.q_mends, List.map_cons, List.map_nil, List.replicate, List.cons_append, List.nil_append]
  simp only [gz0]
  refine ⟨p, c, n, 6, rfl, hp, by decide, by decide, by omega, fun r c' r0 r1 => ?_⟩
  have hr : r = 0 ∨ r = 1 ∨ r = 2 ∨ r = 3 ∨ r = 4 ∨ r = 5 := by omega
  rcases hr with rfl | rfl | rfl | rfl | rfl | rfl <;>
  · simp only [gz0]
    refine ⟨cp, cp, line_le (by decide), cp, cp, line_le (by decide), p, c', n + 1, _, rfl, put_same, by decide, by decide, by omega, fun r2 c2 h0 h1 => ?_⟩
    simp only [gz0, put_put]
    refine ⟨mulok_l (by decide) (by decide), p, c2, n + 2, _, rfl, put_same, by decide, by decide, by omega, fun r3 c3 h2 h3 => ?_⟩
    simp only [gz0, put_put]
    refine ⟨_, _, rfl, by omega, log2_b (by omega), k _ _ (fig_divInt (by omega) (by omega))⟩
--CUT
theorem readQ_ask {i : Nat} {ws : List Wl} {us : List Pt} {l : List Nat} {r : List (List Nat)} {u : Pt} (h : questIn (spl [32] 0 [] l) = some u) : readG true i ws us (l :: r) = readG true (i + 1) ws (us ++ [u]) r := readG_ask h
theorem readQ_late {i : Nat} {ws : List Wl} {us : List Pt} {l : List Nat} {r : List (List Nat)} (h : questIn (spl [32] 0 [] l) = none) (h2 : us ≠ []) : readG true i ws us (l :: r) = .inr i := readG_late h h2
theorem readQ_no {i : Nat} {ws : List Wl} {us : List Pt} {l : List Nat} {r : List (List Nat)} (h : questIn (spl [32] 0 [] l) = none) (h2 : ∀ w, wallIn (spl [32] 0 [] l) = some w → ws.length ≠ 40 → unfairAt ws w ≠ none) : readG true i ws us (l :: r) = .inr i := readG_no h h2
theorem readQ_wall {i : Nat} {ws : List Wl} {l : List Nat} {r : List (List Nat)} {w : Wl} (h : questIn (spl [32] 0 [] l) = none) (h2 : wallIn (spl [32] 0 [] l) = some w) (h3 : ws.length ≠ 40) (h4 : unfairAt ws w = none) : readG true i ws [] (l :: r) = readG true (i + 1) (ws ++ [w]) [] r := readG_wall h h2 h3 h4
theorem r_read_questions : ∀ ds S Q E, sp_read_questions ds S Q E → b_read_questions (mends Q E) (mstart 6 ds) S := by
  rintro _ S Q E ⟨l, rfl, hl, k⟩
  unfold b_read_questions
  simp only [ML.q_mstart, ML.q_mends, List.map_cons, List.map_nil, List.replicate, List.cons_append, List.nil_append]
  simp only [gz5]
  intro p hp p2 hp2
  have np : p2 ≠ p := fun e => by rw [e, put_same] at hp2; cases hp2
  refine ⟨l, rfl, by omega, ?_⟩
  have hr : (rowsIn l).length ≤ l.length + 1 ∧ ∀ x ∈ rowsIn l, x.length ≤ l.length := by
    unfold rowsIn
    split
    · exact ⟨Nat.zero_le _, fun x hx => by cases hx⟩
    · have := spl_bd (s := 10) l []
      exact ⟨this.1, fun x hx => by have := (this.2 x hx).1; simpa using this⟩
  generalize rowsIn l = rs at *
  simp only [gz5]
  refine wfor_inv (fun i σ S' => @KP ⟨(∃ a b c d, σ = [some (.str (ofL l)), some (.ref p), some (.ref p2), a, b, c, d]) ∧ ∃ ws us, readG true 0 [] [] rs = readG true i ws us (rs.drop i) ∧ ws.length ≤ 40 ∧ us.length ≤ i ∧ (∀ v ∈ ws, BW v 120) ∧ S' p = some (.lst (ws.map wlD)) ∧ S' p2 = some (.lst (us.map spD)) ∧ ∀ q o, S q = some o → S' q = some o⟩) ⟨⟨_, _, _, _, rfl⟩, [], [], rfl, Nat.zero_le _, Nat.zero_le _, (fun v hv => by cases hv), by rw [put_ne np.symm, put_same]; rfl, put_same, fun q o e => by rw [put_ne (sne (show put S p (.lst []) q = some o by rw [put_ne (sne e hp)]; exact e) hp2), put_ne (sne e hp)]; exact e⟩ ?_ ?_
  · rintro i x σ S1 hx ⟨⟨a, b, c, d, rfl⟩, ws, us, er, wn, un, wb, hp1, hq1, x1⟩
    refine ⟨rfl, ?_⟩
    obtain ⟨y, hy, rfl⟩ := enumD_get hx
    rw [List.getElem?_map] at hy
    cases ea : rs[i]? with
    | none => rw [ea] at hy; cases hy
    | some t =>
      rw [ea] at hy; cases hy
      have hm : t ∈ rs := List.mem_of_getElem? ea
      have hi : i < rs.length := (List.getElem?_eq_some_iff.mp ea).1
      have ew : rs[i] = t := (List.getElem?_eq_some_iff.mp ea).2
      have hd : rs.drop i = t :: rs.drop (i + 1) := by rw [← ew]; exact List.drop_eq_getElem_cons hi
      rw [hd] at er
      have ht := hr.2 t hm
      have es : (Txt.split (ofL t) (ofL [32])).map D.str = (spl [32] 0 [] t).map fun l => .str (ofL l) := by rw [split_L (by decide) (by decide), tl_ofL, tl_ofL, List.map_map]; rfl
      have hs := spl_bd (s := 32) t []
      have wl : ∀ x ∈ spl [32] 0 [] t, x.length ≤ 1000000 := fun x hx => by
        have := (hs.2 x hx).1; simp only [List.length_nil] at this; omega
      simp only [gz5, T_blank, es]
      refine ⟨⟨by decide, by rw [ofL_len]; show _ ≤ 2 ^ 24; omega⟩, spl [32] 0 [] t, rfl, by omega, wl, ?_⟩
      have fail : readG true i ws us (t :: rs.drop (i + 1)) = .inr i → E (textX (i : Nat)) S1 := fun e => by
        have k := k S1 x1
        rw [er, e] at k; exact k
      cases hq : questIn (spl [32] 0 [] t) with
      | some u =>
        simp only [gz5, spO, isN_sp, hq1]
        refine ⟨of_eq_true (isLst_ref hq1), by show _ < 2 ^ 24; omega, ?_⟩
        refine KP.mk ⟨⟨_, _, _, _, rfl⟩, ws, us ++ [u], by rw [er, readQ_ask hq], wn, by rw [List.length_append, List.length_singleton]; omega, wb, by rw [put_ne np.symm]; exact hp1, by rw [put_same, List.map_append]; rfl, fun q o e => ?_⟩
        have : q ≠ p2 := fun z => by
          have e2 : put S p (.lst []) q = some o := by rw [put_ne (sne e hp)]; exact e
          rw [z, hp2] at e2; cases e2
        rw [put_ne this]; exact x1 q o e
      | none =>
        simp only [gz5, spO, look_ref' hq1]
        have e0 : (D.lst []) = .lst (([] : List Pt).map spD) := rfl
        rw [e0, eqOk_lsp, deq_lsp]
        refine ⟨rfl, fun h => ?_, fun h => ?_⟩
        · have h : us ≠ [] := by simpa using h
          simp only [gz5]
          exact fail (readQ_late hq h)
        · have h : us = [] := by simpa using h
          subst h
          simp only [gz5]
          refine ⟨spl [32] 0 [] t, rfl, by omega, wl, ?_⟩
          simp only [gz5]
          refine ⟨p, ws, wallIn (spl [32] 0 [] t), (i : Nat), rfl, hp1, wn, fun w hw => (wall_bd hw).1, wb, fun w hw h40 hu => ?_, fun hb => ?_⟩
          · refine KP.mk ⟨⟨_, _, _, _, rfl⟩, ws ++ [w], [], by rw [er, readQ_wall hq hw h40 hu], by rw [List.length_append, List.length_singleton]; omega, Nat.zero_le _, fun v hv => ?_, put_same, by rw [put_ne np]; exact hq1, fun q o e => by rw [put_ne (sne e hp)]; exact x1 q o e⟩
            rcases List.mem_append.mp hv with hv | hv
            · exact wb v hv
            · rw [List.mem_singleton.mp hv]; exact (wall_bd hw).1
          · exact fail (readQ_no hq hb)
  · rintro σ S1 ⟨⟨a, b, c, d, rfl⟩, ws, us, er, wn, un, wb, hp1, hq1, x1⟩
    refine ⟨rfl, ?_⟩
    have e : readG true 0 [] [] rs = .inl (ws, us) := by
      rw [er, List.drop_of_length_le (by rw [enumD_len, List.length_map]; exact Nat.le_refl _)]; rfl
    have k := k S1 x1
    rw [e] at k
    simp only [gz5, hp1]
    exact k p2 hq1
--CUT
theorem r_read_plot : ∀ ds S Q E, sp_read_plot ds S Q E → b_read_plot (mends Q E) (mstart 3 ds) S := by
  rintro _ S Q E ⟨l, rfl, hl, k⟩
  unfold b_read_plot
  simp only [ML.q_mstart, ML.q_mends, List.map_cons, List.map_nil, List.replicate, List.cons_append, List.nil_append]
  simp only [gz5]
  intro p hp
  refine ⟨l, rfl, by omega, ?_⟩
  have hr : (rowsIn l).length ≤ l.length + 1 ∧ ∀ x ∈ rowsIn l, x.length ≤ l.length := by
    unfold rowsIn
    split
    · exact ⟨Nat.zero_le _, fun x hx => by cases hx⟩
    · have := spl_bd (s := 10) l []
      exact ⟨this.1, fun x hx => by have := (this.2 x hx).1; simpa using this⟩
  generalize rowsIn l = rs at *
  simp only [gz5]
  refine wfor_inv (fun i σ S' => @KP ⟨(∃ a b, σ = [some (.str (ofL l)), some (.ref p), a, b]) ∧ ∃ ws, readL 0 [] rs = readL i ws (rs.drop i) ∧ ws.length ≤ 40 ∧ (∀ v ∈ ws, BW v 120) ∧ S' = put S p (.lst (ws.map wlD))⟩) ⟨⟨_, _, rfl⟩, [], rfl, Nat.zero_le _, (fun v hv => by cases hv), rfl⟩ ?_ ?_
  · rintro i x σ S' hx ⟨⟨a, b, rfl⟩, ws, er, wn, wb, rfl⟩
    refine ⟨rfl, ?_⟩
    obtain ⟨y, hy, rfl⟩ := enumD_get hx
    rw [List.getElem?_map] at hy
    cases ea : rs[i]? with
    | none => rw [ea] at hy; cases hy
    | some t =>
      rw [ea] at hy; cases hy
      have hm : t ∈ rs := List.mem_of_getElem? ea
      have hi : i < rs.length := (List.getElem?_eq_some_iff.mp ea).1
      have ew : rs[i] = t := (List.getElem?_eq_some_iff.mp ea).2
      have hd : rs.drop i = t :: rs.drop (i + 1) := by rw [← ew]; exact List.drop_eq_getElem_cons hi
      have ht := hr.2 t hm
      simp only [gz5]
      refine ⟨⟨by decide, by rw [ofL_len]; show _ ≤ 2 ^ 24; omega⟩, ?_⟩
      rw [T_blank, split_L (by decide) (by decide), tl_ofL, tl_ofL, List.map_map]
      have hs := spl_bd (s := 32) t []
      refine ⟨spl [32] 0 [] t, rfl, by omega, fun x hx => ?_, ?_⟩
      · have := (hs.2 x hx).1; simp only [List.length_nil] at this; omega
      simp only [gz5]
      refine ⟨p, ws, wallIn (spl [32] 0 [] t), (i : Nat), rfl, put_same, wn, fun w hw => (wall_bd hw).1, wb, fun w hw h40 hu => ?_, fun hb => ?_⟩
      · rw [put_put]
        refine KP.mk ⟨⟨_, _, rfl⟩, ws ++ [w], ?_, by rw [List.length_append, List.length_singleton]; omega, fun v hv => ?_, rfl⟩
        · rw [er, hd]
          show (match wallIn (spl [32] 0 [] t) with | some w => _ | none => _) = _
          rw [hw]
          exact if_pos ⟨h40, hu⟩
        · rcases List.mem_append.mp hv with hv | hv
          · exact wb v hv
          · rw [List.mem_singleton.mp hv]; exact (wall_bd hw).1
      · have e : readL 0 [] rs = .inr i := by
          rw [er, hd]
          show (match wallIn (spl [32] 0 [] t) with | some w => _ | none => _) = _
          cases hw : wallIn (spl [32] 0 [] t) with
          | none => rfl
          | some w => exact if_neg fun h => hb w hw h.1 h.2
        have k := k (put S p (.lst (ws.map wlD))) fun q o hq => by rw [put_ne (sne hq hp)]; exact hq
        rw [e] at k
        exact k
  · rintro σ S' ⟨⟨a, b, rfl⟩, ws, er, wn, wb, rfl⟩
    refine ⟨rfl, ?_⟩
    have e : readL 0 [] rs = .inl ws := by
      rw [er, List.drop_of_length_le (by rw [enumD_len, List.length_map]; exact Nat.le_refl _)]; rfl
    have k := k (put S p (.lst (ws.map wlD))) fun q o hq => by rw [put_ne (sne hq hp)]; exact hq
    rw [e] at k
    simp only [gz5]
    exact k
--CUT
theorem r_law_beyond : ∀ ds S Q E, sp_law_beyond ds S Q E → b_law_beyond (mends Q E) (mstart 0 ds) S := by
  rintro _ S Q E ⟨a, b, rfl, ha, hb, k⟩
  unfold b_law_beyond
  simp only [ML.q_mstart, ML.q_mends, List.map_cons, List.map_nil, List.replicate, List.cons_append, List.nil_append]
  have s1 := (fig_bd ha).le
  have s2 := (fig_bd hb).le
  simp only [gz5]
  have n1 := (nb_of (Nat.le_trans s2 (by decide : 100 ≤ 120))).1
  have n2 := (nb_of (Nat.le_trans s1 (by decide : 100 ≤ 120))).2
  have n3 := (nb_of (Nat.le_trans s2 (by decide : 100 ≤ 120))).2
  refine ⟨mulok_w (a := 122) (b := 120) (mb (a := 2) (b := 120) (by decide) n1) n2 (by decide) (by decide) (by decide), ok_nd (by omega), ok_dd (by omega), _, _, rfl, ?_, ?_, k⟩
  · have := a.den_pos; have := b.den_pos
    exact Int.mul_ne_zero (by omega) (by omega)
  · have := mb n2 n3
    have := log2_lt' this (by decide)
    omega
theorem wall_fig {ls : List (List Nat)} {w : Wl} (h : wallIn ls = some w) : FigW w := by
  have sp : ∀ {a b : List Nat} {u : Pt}, spotIn a b = some u → Fig u.1 ∧ Fig u.2 := fun {a b u} h => by
    unfold spotIn at h
    cases ea : fracIn a with
    | none => rw [ea] at h; cases h
    | some x => cases eb : fracIn b with
      | none => rw [ea, eb] at h; cases h
      | some y => rw [ea, eb] at h; injection h with h; rw [← h]; exact ⟨fracIn_fig ea, fracIn_fig eb⟩
  unfold wallIn at h
  split at h
  · next v a b c d =>
    split at h
    · cases e1 : spotIn a b with
      | none => rw [e1] at h; cases h
      | some u => cases e2 : spotIn c d with
        | none => rw [e1, e2] at h; cases h
        | some v =>
          rw [e1, e2] at h
          dsimp only at h
          split at h
          · next z => injection h with h; rw [← h]; exact ⟨(sp e1).1, (sp e1).2, (sp e2).1, (sp e2).2⟩
          · cases h
    · cases h
  · cases h
theorem filt_wl : ∀ os : List (Option Wl), (os.filter (·.isSome)).map wlO = (os.filterMap id).map wlD
  | [] => rfl
  | none :: r => by rw [List.filter_cons_of_neg (by simp)]; exact filt_wl r
  | some w :: r => by rw [List.filter_cons_of_pos (by simp)]; exact congrArg (wlD w :: ·) (filt_wl r)
theorem r_law_odd : ∀ ds S Q E, sp_law_odd ds S Q E → b_law_odd (mends Q E) (mstart 7 ds) S := by
  rintro _ S Q E ⟨p, d, c, n, B, ls, rfl, hd, dp, hp, hn, h0, hl, b1, b2, hls, k⟩
  unfold b_law_odd
  simp only [ML.q_mstart, ML.q_mends, List.map_cons, List.map_nil, List.replicate, List.cons_append, List.nil_append]
  have gen : ∀ S' : Sto, (∀ z, z ≠ p → ∀ o, S z = some o → S' z = some o) → ∀ q0, d = .ref q0 → S' q0 = some (.lst (ls.map fun l => .str (ofL l))) := fun S' h q0 e => by subst e; cases hd with | ref k => exact h q0 (fun z => dp (by rw [z])) _ k
  cases hd with
  | lst =>
    have hx0 := gen S fun _ _ _ e => e
    first | simp only [gz5, hx0 _ rfl, sqI_at (hx0 _ rfl)] | simp only [gz5]
    intro p1 hp1
    refine comp_grow (S0 := S) (fun l => .str (ofL l)) (fun l => wlO (wallIn (spl [32] 0 [] l))) (fun _ => true) ls rfl (by omega) put_same Grow.rfl.put (fun S' g => by first | exact trivial | (show olP (S' _) = _; rw [g _ _ (sne (hx0 _ rfl) hp1) (hx0 _ rfl)]; rfl)) ?_ ?_
    · intro l acc S' Q1 Q2 hm g hS' q1 q2
      simp only [gz5]
      exact ⟨l, rfl, (hls l hm).asc, by have := (hls l hm).len; omega, fun S3 x3 => q1 rfl S3 x3⟩
    intro S1 g1 hr1
    have x2 : ∀ z o, S z = some o → ML.del S1 p1 z = some o := fun z o e => by have nz := sne e hp1; unfold ML.del; rw [if_neg nz]; exact g1 z o nz e
    generalize ML.del S1 p1 = S2 at *
    have eo : ((ls.filter fun _ => true).map fun l => wlO (wallIn (spl [32] 0 [] l))) = (ls.map fun l => wallIn (spl [32] 0 [] l)).map wlO := by rw [List.filter_eq_self.mpr fun _ _ => rfl, List.map_map]; rfl
    have hos : ∀ o ∈ ls.map (fun l => wallIn (spl [32] 0 [] l)), ∀ w, o = some w → FigW w := fun o ho w e => by
      obtain ⟨l, hl, rfl⟩ := List.mem_map.mp ho
      exact wall_fig e
    have hlo : (ls.map fun l => wallIn (spl [32] 0 [] l)).length ≤ 1000 := by rw [List.length_map]; omega
    rw [eo]
    generalize ls.map (fun l => wallIn (spl [32] 0 [] l)) = os at *
    simp only [gz5]
    intro q2 hq2
    refine comp_filter wlO wlO (·.isSome) os rfl hlo (fun _ => trivial) ?_ ?_
    · intro o acc Q1 Q2 ho y1 y2
      cases o with
      | none =>
        simp only [gz5, wlO]
        exact y2 rfl
      | some w =>
        simp only [gz5, wlO]
        exact y1 rfl
    rw [filt_wl]
    have hvs : ∀ w ∈ os.filterMap id, FigW w := fun w hw => by
      obtain ⟨o, ho, e⟩ := List.mem_filterMap.mp hw
      exact hos o ho w e
    have hlv : (os.filterMap id).length ≤ 1000 := Nat.le_trans (List.length_filterMap_le ..) hlo
    generalize os.filterMap id = vs at *
    have hv3 : put S2 q2 (.lst (vs.map wlD)) q2 = some (.lst (vs.map wlD)) := put_same
    have x3 : ∀ z o, S z = some o → put S2 q2 (.lst (vs.map wlD)) z = some o := fun z o e => by rw [put_ne (sne (x2 z o e) hq2)]; exact x2 z o e
    have hx3 := gen _ fun z _ o e => x3 z o e
    have hp3 := x3 _ _ hp
    have npq : p ≠ q2 := fun e => by rw [← e, x2 _ _ hp] at hq2; cases hq2
    generalize put S2 q2 (.lst (vs.map wlD)) = S3 at *
    simp only [gz5, look_ref' hv3]
    have e0 : (D.lst []) = .lst (([] : List Wl).map wlD) := rfl
    rw [e0, eqOk_lwl, deq_lwl]
    refine ⟨rfl, fun h => ?_, fun h => ?_⟩
    · simp only [gz5]
      refine ⟨p, _, c, n, B, ls, rfl, ?_, dp, hp3, by omega, h0, hl, by omega, b2, hls, fun ms c' n' S' y1 y2 y3 y4 y5 y6 => ?_⟩
      · first | exact .lst | exact .ref (hx3 _ rfl)
      · simp only [gz5]
        exact k ms c' n' S' y1 y2 y3 (by omega) y5 fun z o zp e => y6 z o zp (x3 z o e)
    · simp only [gz5]
      refine t_takeA hp3 (by decide) (by decide) (by omega) fun w c4 S4 w0 w1 hp4 e4 => ?_
      have x4 : ∀ z o, z ≠ p → S z = some o → S4 z = some o := fun z o zp e => by rw [e4 z zp]; exact x3 z o e
      have hx4 := gen S4 fun z zp o e => x4 z o zp e
      have hv4 : S4 q2 = some (.lst (vs.map wlD)) := by rw [e4 q2 npq.symm]; exact hv3
      simp only [gz5]
      refine ⟨fun h2 => ?_, fun h2 => ?_⟩
      · simp only [gz5]
        refine ⟨p, _, c4, n + 1, B, ls, rfl, ?_, dp, hp4, by omega, h0, hl, by omega, b2, hls, fun ms c' n' S' y1 y2 y3 y4 y5 y6 => ?_⟩
        · first | exact .lst | exact .ref (hx4 _ rfl)
        · simp only [gz5]
          exact k ms c' n' S' y1 y2 y3 (by omega) y5 fun z o zp e => y6 z o zp (x4 z o zp e)
      · have hne : vs ≠ [] := by simpa using h
        have hv0 : 0 < vs.length := List.length_pos_iff.mpr hne
        simp only [gz5, hv4, List.length_map]
        refine t_takeA hp4 (by omega) (by omega) (by omega) fun ix c5 S5 v0 v1 hp5 e5 => ?_
        obtain ⟨ix, rfl⟩ := Int.eq_ofNat_of_zero_le v0
        have hix : ix < vs.length := by omega
        have x5 : ∀ z o, z ≠ p → S z = some o → S5 z = some o := fun z o zp e => by rw [e5 z zp]; exact x4 z o zp e
        have hx5 := gen S5 fun z zp o e => x5 z o zp e
        have hv5 : S5 q2 = some (.lst (vs.map wlD)) := by rw [e5 q2 npq.symm]; exact hv4
        have gx : (vs.map wlD)[ix]? = some (wlD vs[ix]) := by rw [List.getElem?_map, List.getElem?_eq_getElem hix]; rfl
        have hw : FigW vs[ix] := hvs _ (List.getElem_mem hix)
        generalize vs[ix] = wx at *
        simp only [gz5, hv5, gx]
        refine ⟨wx.1.1, wx.2.1, rfl, hw.1, hw.2.2.1, ?_⟩
        simp only [gz5]
        refine ⟨wx.1.2, wx.2.2, rfl, hw.2.1, hw.2.2.2, ?_⟩
        first | simp only [gz5, hx5 _ rfl, List.length_map] | simp only [gz5, List.length_map]
        refine t_takeA hp5 (by omega) (by omega) (by omega) fun at_ c6 S6 z0 z1 hp6 e6 => ?_
        obtain ⟨at_, rfl⟩ := Int.eq_ofNat_of_zero_le z0
        have x6 : ∀ z o, z ≠ p → S z = some o → S6 z = some o := fun z o zp e => by rw [e6 z zp]; exact x5 z o zp e
        have hx6 := gen S6 fun z zp o e => x6 z o zp e
        have hnw : ∀ v ∈ [(wx.1, ((beyQ wx.1.1 wx.2.1, beyQ wx.1.2 wx.2.2) : Pt))], NumW v := fun v hv => by
          rw [List.mem_singleton.mp hv]
          exact ⟨Fig.num hw.1, Fig.num hw.2.1, beyQ_num hw.1 hw.2.2.1, beyQ_num hw.2.1 hw.2.2.2⟩
        first | simp only [gz5, hx6 _ rfl] | simp only [gz5]
        refine ⟨_, [(wx.1, ((beyQ wx.1.1 wx.2.1, beyQ wx.1.2 wx.2.2) : Pt))], rfl, .inr (.inl rfl), by show 1 ≤ 50; decide, hnw, fun r hr => ?_⟩
        have x7 : ∀ z o, z ≠ p → S z = some o → put S6 r (.lst (([(wx.1, ((beyQ wx.1.1 wx.2.1, beyQ wx.1.2 wx.2.2) : Pt))] : List Wl).map fun w => .str (ofL (waL w)))) z = some o := fun z o zp e => by rw [put_ne (sne (x6 z o zp e) hr)]; exact x6 z o zp e
        have hx7 := gen _ fun z zp o e => x7 z o zp e
        have hr7 : put S6 r (.lst (([(wx.1, ((beyQ wx.1.1 wx.2.1, beyQ wx.1.2 wx.2.2) : Pt))] : List Wl).map fun w => .str (ofL (waL w)))) r = some (.lst [.str (ofL (waL (wx.1, ((beyQ wx.1.1 wx.2.1, beyQ wx.1.2 wx.2.2) : Pt))))]) := put_same
        have hp7 : put S6 r (.lst (([(wx.1, ((beyQ wx.1.1 wx.2.1, beyQ wx.1.2 wx.2.2) : Pt))] : List Wl).map fun w => .str (ofL (waL w)))) p = some (rowO c6 (n + 1 + 1 + 1 : Nat)) := by rw [put_ne (sne hp6 hr)]; exact hp6
        have lx := waL_lin2 (hnw _ List.mem_cons_self)
        generalize waL (wx.1, ((beyQ wx.1.1 wx.2.1, beyQ wx.1.2 wx.2.2) : Pt)) = X at *
        generalize put S6 r (.lst (([(wx.1, ((beyQ wx.1.1 wx.2.1, beyQ wx.1.2 wx.2.2) : Pt))] : List Wl).map fun w => .str (ofL (waL w)))) = S7 at *
        have cd1 : (ls.map fun l => D.str (ofL l)).take at_ = (ls.take at_).map fun l => D.str (ofL l) := by rw [List.map_take]
        have cd2 : cutD (ls.map fun l => D.str (ofL l)) (some (at_ : Int)) none = (ls.drop at_).map fun l => D.str (ofL l) := by rw [cutD_drop, List.map_drop]
        have eX : (ls.take at_).map (fun l => D.str (ofL l)) ++ [D.str (ofL X)] ++ (ls.drop at_).map (fun l => D.str (ofL l)) = (ls.take at_ ++ [X] ++ ls.drop at_).map fun l => D.str (ofL l) := by
          rw [List.map_append, List.map_append]; rfl
        first | simp only [gz5, hx7 _ rfl, hr7, cutD_take, cd1, cd2, eX, List.length_append, List.length_singleton, List.length_take, List.length_drop, List.length_map] | simp only [gz5, hr7, cutD_take, cd1, cd2, eX, List.length_append, List.length_singleton, List.length_take, List.length_drop, List.length_map]
        refine ⟨by show _ ≤ 2 ^ 24; omega, by show _ ≤ 2 ^ 24; omega, ?_⟩
        refine k _ c6 _ S7 (by simp) (by rw [List.length_append, List.length_append, List.length_take, List.length_drop, List.length_singleton]; omega) (fun l hl => ?_) (by omega) hp7 x7
        rcases List.mem_append.mp hl with hl | hl
        · rcases List.mem_append.mp hl with hl | hl
          · exact (hls l (List.mem_of_mem_take hl)).mono (by omega)
          · rw [List.mem_singleton.mp hl]; exact lx.mono (by omega)
        · exact (hls l (List.mem_of_mem_drop hl)).mono (by omega)
  | ref h =>
    have hx0 := gen S fun _ _ _ e => e
    first | simp only [gz5, hx0 _ rfl, sqI_at (hx0 _ rfl)] | simp only [gz5]
    intro p1 hp1
    refine comp_grow (S0 := S) (fun l => .str (ofL l)) (fun l => wlO (wallIn (spl [32] 0 [] l))) (fun _ => true) ls rfl (by omega) put_same Grow.rfl.put (fun S' g => by first | exact trivial | (show olP (S' _) = _; rw [g _ _ (sne (hx0 _ rfl) hp1) (hx0 _ rfl)]; rfl)) ?_ ?_
    · intro l acc S' Q1 Q2 hm g hS' q1 q2
      simp only [gz5]
      exact ⟨l, rfl, (hls l hm).asc, by have := (hls l hm).len; omega, fun S3 x3 => q1 rfl S3 x3⟩
    intro S1 g1 hr1
    have x2 : ∀ z o, S z = some o → ML.del S1 p1 z = some o := fun z o e => by have nz := sne e hp1; unfold ML.del; rw [if_neg nz]; exact g1 z o nz e
    generalize ML.del S1 p1 = S2 at *
    have eo : ((ls.filter fun _ => true).map fun l => wlO (wallIn (spl [32] 0 [] l))) = (ls.map fun l => wallIn (spl [32] 0 [] l)).map wlO := by rw [List.filter_eq_self.mpr fun _ _ => rfl, List.map_map]; rfl
    have hos : ∀ o ∈ ls.map (fun l => wallIn (spl [32] 0 [] l)), ∀ w, o = some w → FigW w := fun o ho w e => by
      obtain ⟨l, hl, rfl⟩ := List.mem_map.mp ho
      exact wall_fig e
    have hlo : (ls.map fun l => wallIn (spl [32] 0 [] l)).length ≤ 1000 := by rw [List.length_map]; omega
    rw [eo]
    generalize ls.map (fun l => wallIn (spl [32] 0 [] l)) = os at *
    simp only [gz5]
    intro q2 hq2
    refine comp_filter wlO wlO (·.isSome) os rfl hlo (fun _ => trivial) ?_ ?_
    · intro o acc Q1 Q2 ho y1 y2
      cases o with
      | none =>
        simp only [gz5, wlO]
        exact y2 rfl
      | some w =>
        simp only [gz5, wlO]
        exact y1 rfl
    rw [filt_wl]
    have hvs : ∀ w ∈ os.filterMap id, FigW w := fun w hw => by
      obtain ⟨o, ho, e⟩ := List.mem_filterMap.mp hw
      exact hos o ho w e
    have hlv : (os.filterMap id).length ≤ 1000 := Nat.le_trans (List.length_filterMap_le ..) hlo
    generalize os.filterMap id = vs at *
    have hv3 : put S2 q2 (.lst (vs.map wlD)) q2 = some (.lst (vs.map wlD)) := put_same
    have x3 : ∀ z o, S z = some o → put S2 q2 (.lst (vs.map wlD)) z = some o := fun z o e => by rw [put_ne (sne (x2 z o e) hq2)]; exact x2 z o e
    have hx3 := gen _ fun z _ o e => x3 z o e
    have hp3 := x3 _ _ hp
    have npq : p ≠ q2 := fun e => by rw [← e, x2 _ _ hp] at hq2; cases hq2
    generalize put S2 q2 (.lst (vs.map wlD)) = S3 at *
    simp only [gz5, look_ref' hv3]
    have e0 : (D.lst []) = .lst (([] : List Wl).map wlD) := rfl
    rw [e0, eqOk_lwl, deq_lwl]
    refine ⟨rfl, fun h => ?_, fun h => ?_⟩
    · simp only [gz5]
      refine ⟨p, _, c, n, B, ls, rfl, ?_, dp, hp3, by omega, h0, hl, by omega, b2, hls, fun ms c' n' S' y1 y2 y3 y4 y5 y6 => ?_⟩
      · first | exact .lst | exact .ref (hx3 _ rfl)
      · simp only [gz5]
        exact k ms c' n' S' y1 y2 y3 (by omega) y5 fun z o zp e => y6 z o zp (x3 z o e)
    · simp only [gz5]
      refine t_takeA hp3 (by decide) (by decide) (by omega) fun w c4 S4 w0 w1 hp4 e4 => ?_
      have x4 : ∀ z o, z ≠ p → S z = some o → S4 z = some o := fun z o zp e => by rw [e4 z zp]; exact x3 z o e
      have hx4 := gen S4 fun z zp o e => x4 z o zp e
      have hv4 : S4 q2 = some (.lst (vs.map wlD)) := by rw [e4 q2 npq.symm]; exact hv3
      simp only [gz5]
      refine ⟨fun h2 => ?_, fun h2 => ?_⟩
      · simp only [gz5]
        refine ⟨p, _, c4, n + 1, B, ls, rfl, ?_, dp, hp4, by omega, h0, hl, by omega, b2, hls, fun ms c' n' S' y1 y2 y3 y4 y5 y6 => ?_⟩
        · first | exact .lst | exact .ref (hx4 _ rfl)
        · simp only [gz5]
          exact k ms c' n' S' y1 y2 y3 (by omega) y5 fun z o zp e => y6 z o zp (x4 z o zp e)
      · have hne : vs ≠ [] := by simpa using h
        have hv0 : 0 < vs.length := List.length_pos_iff.mpr hne
        simp only [gz5, hv4, List.length_map]
        refine t_takeA hp4 (by omega) (by omega) (by omega) fun ix c5 S5 v0 v1 hp5 e5 => ?_
        obtain ⟨ix, rfl⟩ := Int.eq_ofNat_of_zero_le v0
        have hix : ix < vs.length := by omega
        have x5 : ∀ z o, z ≠ p → S z = some o → S5 z = some o := fun z o zp e => by rw [e5 z zp]; exact x4 z o zp e
        have hx5 := gen S5 fun z zp o e => x5 z o zp e
        have hv5 : S5 q2 = some (.lst (vs.map wlD)) := by rw [e5 q2 npq.symm]; exact hv4
        have gx : (vs.map wlD)[ix]? = some (wlD vs[ix]) := by rw [List.getElem?_map, List.getElem?_eq_getElem hix]; rfl
        have hw : FigW vs[ix] := hvs _ (List.getElem_mem hix)
        generalize vs[ix] = wx at *
        simp only [gz5, hv5, gx]
        refine ⟨wx.1.1, wx.2.1, rfl, hw.1, hw.2.2.1, ?_⟩
        simp only [gz5]
        refine ⟨wx.1.2, wx.2.2, rfl, hw.2.1, hw.2.2.2, ?_⟩
        first | simp only [gz5, hx5 _ rfl, List.length_map] | simp only [gz5, List.length_map]
        refine t_takeA hp5 (by omega) (by omega) (by omega) fun at_ c6 S6 z0 z1 hp6 e6 => ?_
        obtain ⟨at_, rfl⟩ := Int.eq_ofNat_of_zero_le z0
        have x6 : ∀ z o, z ≠ p → S z = some o → S6 z = some o := fun z o zp e => by rw [e6 z zp]; exact x5 z o zp e
        have hx6 := gen S6 fun z zp o e => x6 z o zp e
        have hnw : ∀ v ∈ [(wx.1, ((beyQ wx.1.1 wx.2.1, beyQ wx.1.2 wx.2.2) : Pt))], NumW v := fun v hv => by
          rw [List.mem_singleton.mp hv]
          exact ⟨Fig.num hw.1, Fig.num hw.2.1, beyQ_num hw.1 hw.2.2.1, beyQ_num hw.2.1 hw.2.2.2⟩
        first | simp only [gz5, hx6 _ rfl] | simp only [gz5]
        refine ⟨_, [(wx.1, ((beyQ wx.1.1 wx.2.1, beyQ wx.1.2 wx.2.2) : Pt))], rfl, .inr (.inl rfl), by show 1 ≤ 50; decide, hnw, fun r hr => ?_⟩
        have x7 : ∀ z o, z ≠ p → S z = some o → put S6 r (.lst (([(wx.1, ((beyQ wx.1.1 wx.2.1, beyQ wx.1.2 wx.2.2) : Pt))] : List Wl).map fun w => .str (ofL (waL w)))) z = some o := fun z o zp e => by rw [put_ne (sne (x6 z o zp e) hr)]; exact x6 z o zp e
        have hx7 := gen _ fun z zp o e => x7 z o zp e
        have hr7 : put S6 r (.lst (([(wx.1, ((beyQ wx.1.1 wx.2.1, beyQ wx.1.2 wx.2.2) : Pt))] : List Wl).map fun w => .str (ofL (waL w)))) r = some (.lst [.str (ofL (waL (wx.1, ((beyQ wx.1.1 wx.2.1, beyQ wx.1.2 wx.2.2) : Pt))))]) := put_same
        have hp7 : put S6 r (.lst (([(wx.1, ((beyQ wx.1.1 wx.2.1, beyQ wx.1.2 wx.2.2) : Pt))] : List Wl).map fun w => .str (ofL (waL w)))) p = some (rowO c6 (n + 1 + 1 + 1 : Nat)) := by rw [put_ne (sne hp6 hr)]; exact hp6
        have lx := waL_lin2 (hnw _ List.mem_cons_self)
        generalize waL (wx.1, ((beyQ wx.1.1 wx.2.1, beyQ wx.1.2 wx.2.2) : Pt)) = X at *
        generalize put S6 r (.lst (([(wx.1, ((beyQ wx.1.1 wx.2.1, beyQ wx.1.2 wx.2.2) : Pt))] : List Wl).map fun w => .str (ofL (waL w)))) = S7 at *
        have cd1 : (ls.map fun l => D.str (ofL l)).take at_ = (ls.take at_).map fun l => D.str (ofL l) := by rw [List.map_take]
        have cd2 : cutD (ls.map fun l => D.str (ofL l)) (some (at_ : Int)) none = (ls.drop at_).map fun l => D.str (ofL l) := by rw [cutD_drop, List.map_drop]
        have eX : (ls.take at_).map (fun l => D.str (ofL l)) ++ [D.str (ofL X)] ++ (ls.drop at_).map (fun l => D.str (ofL l)) = (ls.take at_ ++ [X] ++ ls.drop at_).map fun l => D.str (ofL l) := by
          rw [List.map_append, List.map_append]; rfl
        first | simp only [gz5, hx7 _ rfl, hr7, cutD_take, cd1, cd2, eX, List.length_append, List.length_singleton, List.length_take, List.length_drop, List.length_map] | simp only [gz5, hr7, cutD_take, cd1, cd2, eX, List.length_append, List.length_singleton, List.length_take, List.length_drop, List.length_map]
        refine ⟨by show _ ≤ 2 ^ 24; omega, by show _ ≤ 2 ^ 24; omega, ?_⟩
        refine k _ c6 _ S7 (by simp) (by rw [List.length_append, List.length_append, List.length_take, List.length_drop, List.length_singleton]; omega) (fun l hl => ?_) (by omega) hp7 x7
        rcases List.mem_append.mp hl with hl | hl
        · rcases List.mem_append.mp hl with hl | hl
          · exact (hls l (List.mem_of_mem_take hl)).mono (by omega)
          · rw [List.mem_singleton.mp hl]; exact lx.mono (by omega)
        · exact (hls l (List.mem_of_mem_drop hl)).mono (by omega)
--CUT
theorem r_law_due : ∀ ds S Q E, sp_law_due ds S Q E → b_law_due (mends Q E) (mstart 9 ds) S := by
  rintro _ S Q E ⟨ab, d, ls, rfl, rfl, hl, hm, k⟩
  unfold b_law_due
  simp only [ML.q_mstart, ML.q_mends, List.map_cons, List.map_nil, List.replicate, List.cons_append, List.nil_append]
  obtain ⟨aI, hA, hB⟩ : ∃ aI : Int, askD ab = .int aI ∧ ((ab = true ∧ aI = 1) ∨ (ab = false ∧ aI = 0)) := by
    cases ab with
    | true => exact ⟨1, rfl, .inl ⟨rfl, rfl⟩⟩
    | false => exact ⟨0, rfl, .inr ⟨rfl, rfl⟩⟩
  rw [hA]
  simp only [gz5]
  intro p hp p2 hp2
  have np : p2 ≠ p := fun e => by rw [e, put_same] at hp2; cases hp2
  refine wfor_inv (fun i σ S' => @KP ⟨(∃ a b c d e f g, σ = [some (.int aI), some (.lst (ls.map fun l => .str (ofL l))), some (.ref p), some (.ref p2), a, b, c, d, e, f, g]) ∧ ∃ ws us, readG ab 0 [] [] ls = readG ab i ws us (ls.drop i) ∧ ws.length ≤ 40 ∧ us.length ≤ i ∧ (∀ v ∈ ws, BW v 120 ∧ ahead v.1 v.2) ∧ S' p = some (.lst (ws.map wlD)) ∧ S' p2 = some (.lst (us.map spD)) ∧ Ext0 S S'⟩) ⟨⟨_, _, _, _, _, _, _, rfl⟩, [], [], rfl, Nat.zero_le _, Nat.zero_le _, (fun v hv => by cases hv), by rw [put_ne np.symm, put_same]; rfl, put_same, fun q o e => by rw [put_ne (sne (show put S p (.lst []) q = some o by rw [put_ne (sne e hp)]; exact e) hp2), put_ne (sne e hp)]; exact e⟩ ?_ ?_
  · rintro i x σ S1 hx ⟨⟨a, b, c, d, e, f, g, rfl⟩, ws, us, er, wn, un, wb, hp1, hq1, x1⟩
    refine ⟨rfl, ?_⟩
    obtain ⟨y, hy, rfl⟩ := enumD_get hx
    rw [List.getElem?_map] at hy
    cases ea : ls[i]? with
    | none => rw [ea] at hy; cases hy
    | some t =>
      rw [ea] at hy; cases hy
      have hmt : t ∈ ls := List.mem_of_getElem? ea
      have hi : i < ls.length := (List.getElem?_eq_some_iff.mp ea).1
      have ew : ls[i] = t := (List.getElem?_eq_some_iff.mp ea).2
      have hd : ls.drop i = t :: ls.drop (i + 1) := by rw [← ew]; exact List.drop_eq_getElem_cons hi
      rw [hd] at er
      have ht := hm t hmt
      have bad : ∀ S', Ext0 S S' → readG ab i ws us (t :: ls.drop (i + 1)) = .inr i → Q (.tup [.str "no text", .int (i : Nat)]) S' := fun S' x' e => by
        have k := fun v h => k S' v x' h
        rw [er, e] at k; exact k _ .no
      obtain ⟨v, r, hv⟩ := spl_ne (s := 32) t
      obtain ⟨bl, bm⟩ := spl_bd (s := 32) t []
      have es : (Txt.split (ofL t) (Str.ofString " ")).map D.str = D.str (ofL v) :: r.map fun x => D.str (ofL x) := by
        rw [T_blank, split_L (by decide) (by decide), tl_ofL, tl_ofL, hv, List.map_map]; rfl
      simp only [gz5, es, cut_tail]
      refine ⟨⟨by decide, by rw [ofL_len]; show _ ≤ 2 ^ 24; omega⟩, ?_⟩
      refine ⟨t, rfl, ht.1, by omega, fun S2 x2 => ?_⟩
      have hp2' := x2 _ _ hp1
      have hq2' := x2 _ _ hq1
      have x02 : Ext0 S S2 := fun q o e => x2 q o (x1 q o e)
      rw [hv] at bl bm
      rw [List.length_cons] at bl
      simp only [gz5, es, cut_tail, hv]
      intro q3 hq3
      have n31 : p ≠ q3 := sne hp2' hq3
      have n32 : p2 ≠ q3 := sne hq2' hq3
      refine comp_mapw (fun x => .str (ofL x)) (fun x => frO (fracIn x)) r rfl (by show _ < 2 ^ 24; omega) (fun _ => trivial) ?_ ?_
      · intro x acc Q1 hm q1
        simp only [gz5]
        have hx := bm x (List.mem_cons_of_mem _ hm)
        refine ⟨x, rfl, fun c hc => ?_, ?_, q1⟩
        · rcases hx.2 c hc with h | h
          · cases h
          · exact ht.1 c h
        · have := hx.1; simp only [List.length_nil] at this; omega
      have hp3 : put S2 q3 (.lst (r.map fun x => frO (fracIn x))) p = some (.lst (ws.map wlD)) := by rw [put_ne n31]; exact hp2'
      have hq3' : put S2 q3 (.lst (r.map fun x => frO (fracIn x))) p2 = some (.lst (us.map spD)) := by rw [put_ne n32]; exact hq2'
      have hr3 : put S2 q3 (.lst (r.map fun x => frO (fracIn x))) q3 = some (.lst (r.map fun x => frO (fracIn x))) := put_same
      have x03 : Ext0 S (put S2 q3 (.lst (r.map fun x => frO (fracIn x)))) := fun q o e => by rw [put_ne (sne (x02 q o e) hq3)]; exact x02 q o e
      simp only [gz5, T_ask, ofL_inj]
      refine ⟨fun hone => ?_, fun hone => ?_⟩
      rotate_left
      · have hqn : qIn ab (v :: r) = none := by
          rcases hB with ⟨rfl, rfl⟩ | ⟨rfl, rfl⟩
          · exact absurd rfl hone
          · rfl
        generalize put S2 q3 (.lst (r.map fun x => frO (fracIn x))) = S4 at *
        cases hw : wallIn (v :: r) with
        | none =>
          simp only [gz5, wlO]
          exact bad S4 x03 (readG_no (by rw [hv]; exact hqn) fun w h => by rw [hv, hw] at h; cases h)
        | some w =>
          obtain ⟨bw, aw⟩ := wall_bd hw
          simp only [gz5, wlO, look_ref' hq3']
          have e0 : (D.lst []) = .lst (([] : List Pt).map spD) := rfl
          rw [e0, eqOk_lsp, deq_lsp]
          refine ⟨rfl, fun h => ?_, fun h => ?_⟩
          · have h : us ≠ [] := by simpa using h
            simp only [gz5]
            exact bad S4 x03 (readG_late (by rw [hv]; exact hqn) h)
          have h : us = [] := by simpa using h
          subst h
          simp only [gz5, hp3, List.length_map]
          refine ⟨fun h => ?_, fun h => ?_⟩
          · simp only [gz5]
            exact bad S4 x03 (readG_no (by rw [hv]; exact hqn) fun w _ z => absurd (by omega) z)
          simp only [gz5, hp3, sqI_at hp3]
          intro r4 hr4
          have npr : p ≠ r4 := sne hp3 hr4
          refine comp_grow (S0 := S4) wlD (fun v => .bl (isFair w v)) (fun _ => true) ws rfl (by omega) put_same Grow.rfl.put (fun S' g => by show olP (S' p) = _; rw [g p _ npr hp3]; rfl) ?_ ?_
          · intro v acc S' Q1 Q2 hv g hS' q1 q2
            simp only [gz5]
            exact t_fits bw (wb v hv).1 aw (wb v hv).2 fun S3 x3 => q1 rfl S3 x3
          intro S5 g5 hr5
          have em : ((ws.filter fun _ => true).map fun v => D.bl (isFair w v)) = (ws.map (isFair w)).map .bl := by rw [List.filter_eq_self.mpr fun _ _ => rfl, List.map_map]; rfl
          have ee : (ws.map (isFair w)).all id = ws.all (isFair w) := by rw [List.all_map]; rfl
          have hp6 : ML.del S5 r4 p = some (.lst (ws.map wlD)) := by unfold ML.del; rw [if_neg npr]; exact g5 p _ npr hp3
          have hq6 : ML.del S5 r4 p2 = some (.lst (([] : List Pt).map spD)) := by have n := sne hq3' hr4; unfold ML.del; rw [if_neg n]; exact g5 p2 _ n hq3'
          have x6 : Ext0 S (ML.del S5 r4) := fun q o e => by have n := sne (x03 q o e) hr4; unfold ML.del; rw [if_neg n]; exact g5 q o n (x03 q o e)
          generalize ML.del S5 r4 = S6 at *
          simp only [gz5, em, l_bAll, ee]
          refine ⟨fun hb => ?_, fun hb => ?_⟩
          · simp only [gz5]
            refine bad S6 x6 (readG_no (by rw [hv]; exact hqn) fun w' hw' _ z => ?_)
            rw [hv, hw] at hw'
            injection hw' with hw'
            rw [← hw'] at z
            have z := List.findIdx?_eq_none_iff.mp z
            have : ws.all (isFair w) = true := List.all_eq_true.mpr fun v hv => by simpa using z v hv
            rw [this] at hb; cases hb
          · simp only [gz5, hp6]
            have hu : unfairAt ws w = none := List.findIdx?_eq_none_iff.mpr fun v hv => by
              have := List.all_eq_true.mp (by simpa using hb) v hv
              simpa using this
            refine ⟨of_eq_true (isLst_ref hp6), by show _ < 2 ^ 24; omega, ?_⟩
            refine KP.mk ⟨⟨_, _, _, _, _, _, _, rfl⟩, ws ++ [w], [], by rw [er, readG_wall (by rw [hv]; exact hqn) (by rw [hv]; exact hw) (fun z => h (by omega)) hu], by rw [List.length_append, List.length_singleton]; omega, Nat.zero_le _, fun v hv => ?_, by rw [put_same, List.map_append]; rfl, by rw [put_ne np]; exact hq6, fun q o e => by rw [put_ne (sne e hp)]; exact x6 q o e⟩
            rcases List.mem_append.mp hv with hv | hv
            · exact wb v hv
            · rw [List.mem_singleton.mp hv]; exact ⟨bw, aw⟩
      obtain ⟨rfl, -⟩ : ab = true ∧ True := by
        rcases hB with ⟨rfl, rfl⟩ | ⟨rfl, rfl⟩
        · exact ⟨rfl, trivial⟩
        · exact absurd hone (by decide)
      simp only [gz5, T_ask, ofL_inj]
      refine ⟨fun h1 => ?_, fun h1 => ?_⟩
      · simp only [gz5, hr3, List.length_map]
        refine ⟨fun h2 => ?_, fun h2 => ?_⟩
        · simp only [gz5, hr3]
          obtain ⟨ta, tb, rfl⟩ : ∃ a b, r = [a, b] := by
            match r, (by omega : r.length = 2) with
            | [a, b], _ => exact ⟨a, b, rfl⟩
          have pf : ∀ o : Option Rat, D.plain (frO o) = true ∧ D.dep (frO o) ≤ 1 := fun o => by
            cases o with
            | none => exact ⟨rfl, Nat.zero_le _⟩
            | some q => exact ⟨plain_fr _, by show D.dep (fr q) ≤ 1; rw [dep_fr]; decide⟩
          have mm : ∀ o : Option Rat, D.deq (frO o) .non = o.isNone := fun o => by cases o <;> rfl
          unfold rInM
          rw [look_ref' hr3]
          refine ⟨⟨rfl, ?_, Nat.zero_le _, ?_⟩, ?_⟩
          · show (_ && (_ && true)) = true
            rw [(pf _).1, (pf _).1]; rfl
          · have h1 := (pf (fracIn ta)).2
            have h2 := (pf (fracIn tb)).2
            show max (D.dep (frO (fracIn ta))) (max (D.dep (frO (fracIn tb))) 0) ≤ 63
            omega
          have em : memD .non ([ta, tb].map fun x => frO (fracIn x)) = ((fracIn ta).isNone || ((fracIn tb).isNone || false)) := by
            show (D.deq _ .non || (D.deq _ .non || false)) = _
            rw [mm, mm]
          rw [em]
          have hqn : (fracIn ta).isNone = true ∨ (fracIn tb).isNone = true → questIn (v :: [ta, tb]) = none := fun h => by
            unfold questIn
            dsimp only
            rw [if_pos h1]
            unfold spotIn
            rcases h with h | h
            · rw [Option.isNone_iff_eq_none.mp h]
            · rw [Option.isNone_iff_eq_none.mp h]; cases fracIn ta <;> rfl
          cases ea : fracIn ta with
          | none =>
            have hqn := hqn (.inl (by rw [ea]; rfl))
            refine ⟨fun h => (by cases h), fun _ => ?_⟩
            generalize hR : [ta, tb] = r at *
            generalize put S2 q3 (.lst (r.map fun x => frO (fracIn x))) = S4 at *
            cases hw : wallIn (v :: r) with
            | none =>
              simp only [gz5, wlO]
              exact bad S4 x03 (readG_no (by rw [hv]; exact hqn) fun w h => by rw [hv, hw] at h; cases h)
            | some w =>
              obtain ⟨bw, aw⟩ := wall_bd hw
              simp only [gz5, wlO, look_ref' hq3']
              have e0 : (D.lst []) = .lst (([] : List Pt).map spD) := rfl
              rw [e0, eqOk_lsp, deq_lsp]
              refine ⟨rfl, fun h => ?_, fun h => ?_⟩
              · have h : us ≠ [] := by simpa using h
                simp only [gz5]
                exact bad S4 x03 (readG_late (by rw [hv]; exact hqn) h)
              have h : us = [] := by simpa using h
              subst h
              simp only [gz5, hp3, List.length_map]
              refine ⟨fun h => ?_, fun h => ?_⟩
              · simp only [gz5]
                exact bad S4 x03 (readG_no (by rw [hv]; exact hqn) fun w _ z => absurd (by omega) z)
              simp only [gz5, hp3, sqI_at hp3]
              intro r4 hr4
              have npr : p ≠ r4 := sne hp3 hr4
              refine comp_grow (S0 := S4) wlD (fun v => .bl (isFair w v)) (fun _ => true) ws rfl (by omega) put_same Grow.rfl.put (fun S' g => by show olP (S' p) = _; rw [g p _ npr hp3]; rfl) ?_ ?_
              · intro v acc S' Q1 Q2 hv g hS' q1 q2
                simp only [gz5]
                exact t_fits bw (wb v hv).1 aw (wb v hv).2 fun S3 x3 => q1 rfl S3 x3
              intro S5 g5 hr5
              have em : ((ws.filter fun _ => true).map fun v => D.bl (isFair w v)) = (ws.map (isFair w)).map .bl := by rw [List.filter_eq_self.mpr fun _ _ => rfl, List.map_map]; rfl
              have ee : (ws.map (isFair w)).all id = ws.all (isFair w) := by rw [List.all_map]; rfl
              have hp6 : ML.del S5 r4 p = some (.lst (ws.map wlD)) := by unfold ML.del; rw [if_neg npr]; exact g5 p _ npr hp3
              have hq6 : ML.del S5 r4 p2 = some (.lst (([] : List Pt).map spD)) := by have n := sne hq3' hr4; unfold ML.del; rw [if_neg n]; exact g5 p2 _ n hq3'
              have x6 : Ext0 S (ML.del S5 r4) := fun q o e => by have n := sne (x03 q o e) hr4; unfold ML.del; rw [if_neg n]; exact g5 q o n (x03 q o e)
              generalize ML.del S5 r4 = S6 at *
              simp only [gz5, em, l_bAll, ee]
              refine ⟨fun hb => ?_, fun hb => ?_⟩
              · simp only [gz5]
                refine bad S6 x6 (readG_no (by rw [hv]; exact hqn) fun w' hw' _ z => ?_)
                rw [hv, hw] at hw'
                injection hw' with hw'
                rw [← hw'] at z
                have z := List.findIdx?_eq_none_iff.mp z
                have : ws.all (isFair w) = true := List.all_eq_true.mpr fun v hv => by simpa using z v hv
                rw [this] at hb; cases hb
              · simp only [gz5, hp6]
                have hu : unfairAt ws w = none := List.findIdx?_eq_none_iff.mpr fun v hv => by
                  have := List.all_eq_true.mp (by simpa using hb) v hv
                  simpa using this
                refine ⟨of_eq_true (isLst_ref hp6), by show _ < 2 ^ 24; omega, ?_⟩
                refine KP.mk ⟨⟨_, _, _, _, _, _, _, rfl⟩, ws ++ [w], [], by rw [er, readG_wall (by rw [hv]; exact hqn) (by rw [hv]; exact hw) (fun z => h (by omega)) hu], by rw [List.length_append, List.length_singleton]; omega, Nat.zero_le _, fun v hv => ?_, by rw [put_same, List.map_append]; rfl, by rw [put_ne np]; exact hq6, fun q o e => by rw [put_ne (sne e hp)]; exact x6 q o e⟩
                rcases List.mem_append.mp hv with hv | hv
                · exact wb v hv
                · rw [List.mem_singleton.mp hv]; exact ⟨bw, aw⟩
          | some xa =>
            cases eb : fracIn tb with
            | none =>
              have hqn := hqn (.inr (by rw [eb]; rfl))
              refine ⟨fun h => (by cases h), fun _ => ?_⟩
              generalize hR : [ta, tb] = r at *
              generalize put S2 q3 (.lst (r.map fun x => frO (fracIn x))) = S4 at *
              cases hw : wallIn (v :: r) with
              | none =>
                simp only [gz5, wlO]
                exact bad S4 x03 (readG_no (by rw [hv]; exact hqn) fun w h => by rw [hv, hw] at h; cases h)
              | some w =>
                obtain ⟨bw, aw⟩ := wall_bd hw
                simp only [gz5, wlO, look_ref' hq3']
                have e0 : (D.lst []) = .lst (([] : List Pt).map spD) := rfl
                rw [e0, eqOk_lsp, deq_lsp]
                refine ⟨rfl, fun h => ?_, fun h => ?_⟩
                · have h : us ≠ [] := by simpa using h
                  simp only [gz5]
                  exact bad S4 x03 (readG_late (by rw [hv]; exact hqn) h)
                have h : us = [] := by simpa using h
                subst h
                simp only [gz5, hp3, List.length_map]
                refine ⟨fun h => ?_, fun h => ?_⟩
                · simp only [gz5]
                  exact bad S4 x03 (readG_no (by rw [hv]; exact hqn) fun w _ z => absurd (by omega) z)
                simp only [gz5, hp3, sqI_at hp3]
                intro r4 hr4
                have npr : p ≠ r4 := sne hp3 hr4
                refine comp_grow (S0 := S4) wlD (fun v => .bl (isFair w v)) (fun _ => true) ws rfl (by omega) put_same Grow.rfl.put (fun S' g => by show olP (S' p) = _; rw [g p _ npr hp3]; rfl) ?_ ?_
                · intro v acc S' Q1 Q2 hv g hS' q1 q2
                  simp only [gz5]
                  exact t_fits bw (wb v hv).1 aw (wb v hv).2 fun S3 x3 => q1 rfl S3 x3
                intro S5 g5 hr5
                have em : ((ws.filter fun _ => true).map fun v => D.bl (isFair w v)) = (ws.map (isFair w)).map .bl := by rw [List.filter_eq_self.mpr fun _ _ => rfl, List.map_map]; rfl
                have ee : (ws.map (isFair w)).all id = ws.all (isFair w) := by rw [List.all_map]; rfl
                have hp6 : ML.del S5 r4 p = some (.lst (ws.map wlD)) := by unfold ML.del; rw [if_neg npr]; exact g5 p _ npr hp3
                have hq6 : ML.del S5 r4 p2 = some (.lst (([] : List Pt).map spD)) := by have n := sne hq3' hr4; unfold ML.del; rw [if_neg n]; exact g5 p2 _ n hq3'
                have x6 : Ext0 S (ML.del S5 r4) := fun q o e => by have n := sne (x03 q o e) hr4; unfold ML.del; rw [if_neg n]; exact g5 q o n (x03 q o e)
                generalize ML.del S5 r4 = S6 at *
                simp only [gz5, em, l_bAll, ee]
                refine ⟨fun hb => ?_, fun hb => ?_⟩
                · simp only [gz5]
                  refine bad S6 x6 (readG_no (by rw [hv]; exact hqn) fun w' hw' _ z => ?_)
                  rw [hv, hw] at hw'
                  injection hw' with hw'
                  rw [← hw'] at z
                  have z := List.findIdx?_eq_none_iff.mp z
                  have : ws.all (isFair w) = true := List.all_eq_true.mpr fun v hv => by simpa using z v hv
                  rw [this] at hb; cases hb
                · simp only [gz5, hp6]
                  have hu : unfairAt ws w = none := List.findIdx?_eq_none_iff.mpr fun v hv => by
                    have := List.all_eq_true.mp (by simpa using hb) v hv
                    simpa using this
                  refine ⟨of_eq_true (isLst_ref hp6), by show _ < 2 ^ 24; omega, ?_⟩
                  refine KP.mk ⟨⟨_, _, _, _, _, _, _, rfl⟩, ws ++ [w], [], by rw [er, readG_wall (by rw [hv]; exact hqn) (by rw [hv]; exact hw) (fun z => h (by omega)) hu], by rw [List.length_append, List.length_singleton]; omega, Nat.zero_le _, fun v hv => ?_, by rw [put_same, List.map_append]; rfl, by rw [put_ne np]; exact hq6, fun q o e => by rw [put_ne (sne e hp)]; exact x6 q o e⟩
                  rcases List.mem_append.mp hv with hv | hv
                  · exact wb v hv
                  · rw [List.mem_singleton.mp hv]; exact ⟨bw, aw⟩
            | some xb =>
              refine ⟨fun _ => ?_, fun h => absurd rfl h⟩
              have hqs : questIn (v :: [ta, tb]) = some (xa, xb) := by
                unfold questIn
                dsimp only
                rw [if_pos h1]
                unfold spotIn
                rw [ea, eb]
              have hv3 : put S2 q3 (.lst ([ta, tb].map fun x => frO (fracIn x))) q3 = some (.lst [fr xa, fr xb]) := by rw [put_same]; show some (MO.lst [frO (fracIn ta), frO (fracIn tb)]) = _; rw [ea, eb]; rfl
              generalize put S2 q3 (.lst ([ta, tb].map fun x => frO (fracIn x))) = S4 at *
              simp only [gz5, hv3, hq3']
              refine ⟨of_eq_true (isLst_ref hq3'), by show _ < 2 ^ 24; omega, ?_⟩
              refine KP.mk ⟨⟨_, _, _, _, _, _, _, rfl⟩, ws, us ++ [(xa, xb)], by rw [er, readG_ask (by rw [hv]; exact hqs)], wn, by rw [List.length_append, List.length_singleton]; omega, wb, by rw [put_ne np.symm]; exact hp3, by rw [put_same, List.map_append]; rfl, fun q o e => ?_⟩
              have : q ≠ p2 := fun z => by
                have e2 : put S p (.lst []) q = some o := by rw [put_ne (sne e hp)]; exact e
                rw [z, hp2] at e2; cases e2
              rw [put_ne this]; exact x03 q o e
        · have hqn : questIn (v :: r) = none := by
            unfold questIn
            split
            · next a b c e => injection e with _ e; rw [e] at h2; exact absurd rfl h2
            · rfl
          generalize put S2 q3 (.lst (r.map fun x => frO (fracIn x))) = S4 at *
          cases hw : wallIn (v :: r) with
          | none =>
            simp only [gz5, wlO]
            exact bad S4 x03 (readG_no (by rw [hv]; exact hqn) fun w h => by rw [hv, hw] at h; cases h)
          | some w =>
            obtain ⟨bw, aw⟩ := wall_bd hw
            simp only [gz5, wlO, look_ref' hq3']
            have e0 : (D.lst []) = .lst (([] : List Pt).map spD) := rfl
            rw [e0, eqOk_lsp, deq_lsp]
            refine ⟨rfl, fun h => ?_, fun h => ?_⟩
            · have h : us ≠ [] := by simpa using h
              simp only [gz5]
              exact bad S4 x03 (readG_late (by rw [hv]; exact hqn) h)
            have h : us = [] := by simpa using h
            subst h
            simp only [gz5, hp3, List.length_map]
            refine ⟨fun h => ?_, fun h => ?_⟩
            · simp only [gz5]
              exact bad S4 x03 (readG_no (by rw [hv]; exact hqn) fun w _ z => absurd (by omega) z)
            simp only [gz5, hp3, sqI_at hp3]
            intro r4 hr4
            have npr : p ≠ r4 := sne hp3 hr4
            refine comp_grow (S0 := S4) wlD (fun v => .bl (isFair w v)) (fun _ => true) ws rfl (by omega) put_same Grow.rfl.put (fun S' g => by show olP (S' p) = _; rw [g p _ npr hp3]; rfl) ?_ ?_
            · intro v acc S' Q1 Q2 hv g hS' q1 q2
              simp only [gz5]
              exact t_fits bw (wb v hv).1 aw (wb v hv).2 fun S3 x3 => q1 rfl S3 x3
            intro S5 g5 hr5
            have em : ((ws.filter fun _ => true).map fun v => D.bl (isFair w v)) = (ws.map (isFair w)).map .bl := by rw [List.filter_eq_self.mpr fun _ _ => rfl, List.map_map]; rfl
            have ee : (ws.map (isFair w)).all id = ws.all (isFair w) := by rw [List.all_map]; rfl
            have hp6 : ML.del S5 r4 p = some (.lst (ws.map wlD)) := by unfold ML.del; rw [if_neg npr]; exact g5 p _ npr hp3
            have hq6 : ML.del S5 r4 p2 = some (.lst (([] : List Pt).map spD)) := by have n := sne hq3' hr4; unfold ML.del; rw [if_neg n]; exact g5 p2 _ n hq3'
            have x6 : Ext0 S (ML.del S5 r4) := fun q o e => by have n := sne (x03 q o e) hr4; unfold ML.del; rw [if_neg n]; exact g5 q o n (x03 q o e)
            generalize ML.del S5 r4 = S6 at *
            simp only [gz5, em, l_bAll, ee]
            refine ⟨fun hb => ?_, fun hb => ?_⟩
            · simp only [gz5]
              refine bad S6 x6 (readG_no (by rw [hv]; exact hqn) fun w' hw' _ z => ?_)
              rw [hv, hw] at hw'
              injection hw' with hw'
              rw [← hw'] at z
              have z := List.findIdx?_eq_none_iff.mp z
              have : ws.all (isFair w) = true := List.all_eq_true.mpr fun v hv => by simpa using z v hv
              rw [this] at hb; cases hb
            · simp only [gz5, hp6]
              have hu : unfairAt ws w = none := List.findIdx?_eq_none_iff.mpr fun v hv => by
                have := List.all_eq_true.mp (by simpa using hb) v hv
                simpa using this
              refine ⟨of_eq_true (isLst_ref hp6), by show _ < 2 ^ 24; omega, ?_⟩
              refine KP.mk ⟨⟨_, _, _, _, _, _, _, rfl⟩, ws ++ [w], [], by rw [er, readG_wall (by rw [hv]; exact hqn) (by rw [hv]; exact hw) (fun z => h (by omega)) hu], by rw [List.length_append, List.length_singleton]; omega, Nat.zero_le _, fun v hv => ?_, by rw [put_same, List.map_append]; rfl, by rw [put_ne np]; exact hq6, fun q o e => by rw [put_ne (sne e hp)]; exact x6 q o e⟩
              rcases List.mem_append.mp hv with hv | hv
              · exact wb v hv
              · rw [List.mem_singleton.mp hv]; exact ⟨bw, aw⟩
      · have hqn : questIn (v :: r) = none := by
          unfold questIn
          split
          · next a b c e => rw [if_neg]; injection e with e _; rw [← e]; exact h1
          · rfl
        generalize put S2 q3 (.lst (r.map fun x => frO (fracIn x))) = S4 at *
        cases hw : wallIn (v :: r) with
        | none =>
          simp only [gz5, wlO]
          exact bad S4 x03 (readG_no (by rw [hv]; exact hqn) fun w h => by rw [hv, hw] at h; cases h)
        | some w =>
          obtain ⟨bw, aw⟩ := wall_bd hw
          simp only [gz5, wlO, look_ref' hq3']
          have e0 : (D.lst []) = .lst (([] : List Pt).map spD) := rfl
          rw [e0, eqOk_lsp, deq_lsp]
          refine ⟨rfl, fun h => ?_, fun h => ?_⟩
          · have h : us ≠ [] := by simpa using h
            simp only [gz5]
            exact bad S4 x03 (readG_late (by rw [hv]; exact hqn) h)
          have h : us = [] := by simpa using h
          subst h
          simp only [gz5, hp3, List.length_map]
          refine ⟨fun h => ?_, fun h => ?_⟩
          · simp only [gz5]
            exact bad S4 x03 (readG_no (by rw [hv]; exact hqn) fun w _ z => absurd (by omega) z)
          simp only [gz5, hp3, sqI_at hp3]
          intro r4 hr4
          have npr : p ≠ r4 := sne hp3 hr4
          refine comp_grow (S0 := S4) wlD (fun v => .bl (isFair w v)) (fun _ => true) ws rfl (by omega) put_same Grow.rfl.put (fun S' g => by show olP (S' p) = _; rw [g p _ npr hp3]; rfl) ?_ ?_
          · intro v acc S' Q1 Q2 hv g hS' q1 q2
            simp only [gz5]
            exact t_fits bw (wb v hv).1 aw (wb v hv).2 fun S3 x3 => q1 rfl S3 x3
          intro S5 g5 hr5
          have em : ((ws.filter fun _ => true).map fun v => D.bl (isFair w v)) = (ws.map (isFair w)).map .bl := by rw [List.filter_eq_self.mpr fun _ _ => rfl, List.map_map]; rfl
          have ee : (ws.map (isFair w)).all id = ws.all (isFair w) := by rw [List.all_map]; rfl
          have hp6 : ML.del S5 r4 p = some (.lst (ws.map wlD)) := by unfold ML.del; rw [if_neg npr]; exact g5 p _ npr hp3
          have hq6 : ML.del S5 r4 p2 = some (.lst (([] : List Pt).map spD)) := by have n := sne hq3' hr4; unfold ML.del; rw [if_neg n]; exact g5 p2 _ n hq3'
          have x6 : Ext0 S (ML.del S5 r4) := fun q o e => by have n := sne (x03 q o e) hr4; unfold ML.del; rw [if_neg n]; exact g5 q o n (x03 q o e)
          generalize ML.del S5 r4 = S6 at *
          simp only [gz5, em, l_bAll, ee]
          refine ⟨fun hb => ?_, fun hb => ?_⟩
          · simp only [gz5]
            refine bad S6 x6 (readG_no (by rw [hv]; exact hqn) fun w' hw' _ z => ?_)
            rw [hv, hw] at hw'
            injection hw' with hw'
            rw [← hw'] at z
            have z := List.findIdx?_eq_none_iff.mp z
            have : ws.all (isFair w) = true := List.all_eq_true.mpr fun v hv => by simpa using z v hv
            rw [this] at hb; cases hb
          · simp only [gz5, hp6]
            have hu : unfairAt ws w = none := List.findIdx?_eq_none_iff.mpr fun v hv => by
              have := List.all_eq_true.mp (by simpa using hb) v hv
              simpa using this
            refine ⟨of_eq_true (isLst_ref hp6), by show _ < 2 ^ 24; omega, ?_⟩
            refine KP.mk ⟨⟨_, _, _, _, _, _, _, rfl⟩, ws ++ [w], [], by rw [er, readG_wall (by rw [hv]; exact hqn) (by rw [hv]; exact hw) (fun z => h (by omega)) hu], by rw [List.length_append, List.length_singleton]; omega, Nat.zero_le _, fun v hv => ?_, by rw [put_same, List.map_append]; rfl, by rw [put_ne np]; exact hq6, fun q o e => by rw [put_ne (sne e hp)]; exact x6 q o e⟩
            rcases List.mem_append.mp hv with hv | hv
            · exact wb v hv
            · rw [List.mem_singleton.mp hv]; exact ⟨bw, aw⟩
  · rintro σ S1 ⟨⟨a, b, c, d, e, f, g, rfl⟩, ws, us, er, wn, un, wb, hp1, hq1, x1⟩
    refine ⟨rfl, ?_⟩
    have e : readG ab 0 [] [] ls = .inl (ws, us) := by
      rw [er, List.drop_of_length_le (by rw [enumD_len, List.length_map]; exact Nat.le_refl _)]; rfl
    have k := fun v h => k S1 v x1 h
    rw [e] at k
    rcases hB with ⟨rfl, rfl⟩ | ⟨rfl, rfl⟩
    · simp only [gz5, hp1]
      exact k _ (.told hq1)
    · simp only [gz5, hp1]
      exact k _ .plot
--CUT
theorem r_law_heard : ∀ ds S Q E, sp_law_heard ds S Q E → b_law_heard (mends Q E) (mstart 3 ds) S := by
  rintro _ S Q E ⟨ab, l, rfl, hl, k⟩
  unfold b_law_heard
  simp only [ML.q_mstart, ML.q_mends, List.map_cons, List.map_nil, List.replicate, List.cons_append, List.nil_append]
  cases ab with
  | true =>
    rw [show askD true = .int 1 from rfl]
    simp only [gz5]
    refine ⟨l, rfl, hl, fun S1 x1 => ?_⟩
    cases e : readG true 0 [] [] (rowsIn l) with
    | inl r =>
      obtain ⟨ws, us⟩ := r
      simp only []
      intro q hq
      simp only [gz5]
      have k := fun v h => k S1 v x1 h
      rw [e] at k
      exact k _ (.told hq)
    | inr i =>
      simp only []
      refine TryP_at (by decide) (by decide) fun p hp => ?_
      have hp' : put S1 p (.exc "NoText" (some [("row", .int (i : Nat))])) p = some (.exc "NoText" (some [("row", .int (i : Nat))])) := put_same
      have x2 : Ext0 S1 (put S1 p (.exc "NoText" (some [("row", .int (i : Nat))]))) := fun q o e => by rw [put_ne (sne e hp)]; exact e
      generalize put S1 p (.exc "NoText" (some [("row", .int (i : Nat))])) = S2 at *
      simp only [gz5, hp']
      refine ⟨p, _, rfl, hp', fun S3 x3 => ?_⟩
      have hp3 := x3 _ _ hp'
      simp only [gz5, hp3]
      refine ⟨by decide, ?_⟩
      rw [show List.lookup ("row" : Str) [(("row" : Str), D.int (i : Nat))] = some (D.int (i : Nat)) from rfl]
      simp only [gz5]
      have k := fun v h => k S3 v (fun q o hq => x3 q o (x2 q o (x1 q o hq))) h
      rw [e] at k
      exact k _ .no
  | false =>
    rw [show askD false = .int 0 from rfl]
    simp only [gz5]
    refine ⟨l, rfl, hl, fun S1 x1 => ?_⟩
    have ep := readG_plot (ls := rowsIn l) (i := 0) (ws := [])
    cases e' : readL 0 [] (rowsIn l) with
    | inl ws =>
      rw [e'] at ep
      simp only [gz5]
      have k := fun v h => k S1 v x1 h
      rw [ep] at k
      exact k _ .plot
    | inr i =>
      rw [e'] at ep
      have e := ep
      simp only []
      refine TryP_at (by decide) (by decide) fun p hp => ?_
      have hp' : put S1 p (.exc "NoText" (some [("row", .int (i : Nat))])) p = some (.exc "NoText" (some [("row", .int (i : Nat))])) := put_same
      have x2 : Ext0 S1 (put S1 p (.exc "NoText" (some [("row", .int (i : Nat))]))) := fun q o e => by rw [put_ne (sne e hp)]; exact e
      generalize put S1 p (.exc "NoText" (some [("row", .int (i : Nat))])) = S2 at *
      simp only [gz5, hp']
      refine ⟨p, _, rfl, hp', fun S3 x3 => ?_⟩
      have hp3 := x3 _ _ hp'
      simp only [gz5, hp3]
      refine ⟨by decide, ?_⟩
      rw [show List.lookup ("row" : Str) [(("row" : Str), D.int (i : Nat))] = some (D.int (i : Nat)) from rfl]
      simp only [gz5]
      have k := fun v h => k S3 v (fun q o hq => x3 q o (x2 q o (x1 q o hq))) h
      rw [e] at k
      exact k _ .no
--CUT
theorem plains_rows : ∀ {ls : List (List Nat)}, (∀ l ∈ ls, ∀ c ∈ l, c < 128) → D.plains (ls.map fun l => D.str (ofL l)) = true
  | [], _ => rfl
  | a :: r, h => by
    show (PyData.strOk (ofL a) && D.plains (r.map fun l => D.str (ofL l))) = true
    rw [plains_rows fun l hl => h l (List.mem_cons_of_mem _ hl), strOk_L fun c hc => Nat.lt_trans (h a List.mem_cons_self c hc) (by decide)]; rfl
theorem deps_rows : ∀ {ls : List (List Nat)}, D.deps (ls.map fun l => D.str (ofL l)) = 0
  | [] => rfl
  | a :: r => by
    show max (D.dep (.str (ofL a))) (D.deps (r.map fun l => D.str (ofL l))) = 0
    rw [deps_rows]; rfl
theorem eqOk_rows {ls ms : List (List Nat)} (h : ∀ l ∈ ls, ∀ c ∈ l, c < 128) (k : ∀ l ∈ ms, ∀ c ∈ l, c < 128) : eqOk (.lst (ls.map fun l => D.str (ofL l))) (.lst (ms.map fun l => D.str (ofL l))) = true :=
  eqOk_of' (plains_rows h) (plains_rows k) (by rw [D.dep, deps_rows]; decide) (by rw [D.dep, deps_rows]; decide)
theorem deq_rows {ls ms : List (List Nat)} : D.deq (.lst (ls.map fun l => D.str (ofL l))) (.lst (ms.map fun l => D.str (ofL l))) = decide (ls = ms) := by
  rw [D.deq]
  exact deqs_map (fun a b => by rw [deq_str]; exact decide_eq_decide.mpr ofL_inj) ls ms
theorem lin_dec {B : Nat} {ls : List (List Nat)} (h : (ls.all fun l => l.all (fun c => decide (c < 128) && decide (c ≠ 10)) && decide (l.length ≤ B)) = true) : ∀ l ∈ ls, Lin B l := fun l hl => by
  have := List.all_eq_true.mp h l hl
  obtain ⟨h1, h2⟩ := Bool.and_eq_true_iff.mp this
  have h3 := List.all_eq_true.mp h1
  exact ⟨fun c hc => of_decide_eq_true (Bool.and_eq_true_iff.mp (h3 c hc)).1, fun hc => absurd (Bool.and_eq_true_iff.mp (h3 10 hc)).2 (by decide), of_decide_eq_true h2⟩
def upr (i : Nat) : Wl := ((((i : Int) : Rat), ((0 : Int) : Rat)), (((i : Int) : Rat), ((1 : Int) : Rat)))
theorem upr_fig {i : Nat} (h : i < 1000) : FigW (upr i) := by
  have a : Fig ((i : Int) : Rat) := ⟨by rw [Rat.num_intCast, Int.natAbs_natCast]; exact Nat.lt_of_lt_of_le h (by decide), by rw [Rat.den_intCast]; decide⟩
  have b : ∀ j : Int, j.natAbs < 1000 → Fig (j : Rat) := fun j hj => ⟨by rw [Rat.num_intCast]; exact Nat.lt_of_lt_of_le hj (by decide), by rw [Rat.den_intCast]; decide⟩
  exact ⟨a, b 0 (by decide), a, b 1 (by decide)⟩
def qA : Bool → List Wl → List Pt → D
  | true, ws, us => qX ws us
  | false, ws, _ => .tup (ws.map wlD)
def cD (a : Bool) : (List Wl × List Pt) ⊕ Nat → D
  | .inl (ws, us) => .tup [.str "told", qA a ws us]
  | .inr i => .tup [.str "no text", .int (i : Nat)]
theorem cD_plain {a : Bool} : ∀ r, D.plain (cD a r) = true
  | .inl (ws, us) => by
    show (PyData.strOk _ && (D.plain (qA a ws us) && true)) = true
    have : D.plain (qA a ws us) = true := by
      cases a with
      | true => exact qX_plain
      | false => exact plains_of plain_wl ws
    rw [this]; decide +kernel
  | .inr i => by show (PyData.strOk _ && (true && true)) = true; decide +kernel
theorem cD_dep {a : Bool} : ∀ r, D.dep (cD a r) ≤ 64
  | .inl (ws, us) => by
    have h1 := deps_of (f := wlD) (k := 3) (fun w => by rw [dep_wl]; exact Nat.le_refl _) ws
    have h2 := deps_of (f := spD) (k := 3) (fun w => by rw [dep_sp]; decide) us
    cases a with
    | true =>
      show max 0 (max (max (D.deps (ws.map wlD) + 1) (max (D.deps (us.map spD) + 1) 0) + 1) 0) + 1 ≤ 64
      omega
    | false =>
      show max 0 (max (D.deps (ws.map wlD) + 1) 0) + 1 ≤ 64
      omega
  | .inr i => by show max 0 (max 0 0) + 1 ≤ 64; decide
theorem ResD.mono {S S' : Sto} {a : Bool} {r : (List Wl × List Pt) ⊕ Nat} {v : D} (h : ResD S a r v) (x : ∀ q o, S q = some o → S' q = some o) : ResD S' a r v := by
  cases h with
  | told h => exact .told (x _ _ h)
  | none => exact .none
  | plot => exact .plot
  | no => exact .no
theorem res_deep {S : Sto} {a : Bool} {r : (List Wl × List Pt) ⊕ Nat} {v : D} (h : ResD S a r v) : Deep S v (cD a r) := by
  cases h with
  | told h => exact .tup (.cons (.same (by show PyData.strOk _ = true; decide +kernel)) (.cons (qX_deep h) .nil))
  | none => exact .same (cD_plain (a := true) (.inl ([], [])))
  | plot => exact .same (cD_plain (a := false) (.inl (_, [])))
  | no => exact .same (cD_plain (a := true) (.inr _))
def bdN (k : Nat) : Nat := 602 * 2 ^ k - 2
theorem r_law : ∀ ds S Q E, spLaw ds S Q E → b_law (mends Q E) (mstart 9 ds) S := by
  rintro _ S Q E ⟨ns, rfl, hl, q⟩
  unfold b_law
  simp only [ML.q_mstart, ML.q_mends, List.map_cons, List.map_nil, List.replicate, List.cons_append, List.nil_append]
  simp only [gz5]
  refine ⟨by split <;> omega, ?_⟩
  refine rng_inv (fun i σ S' => @KP ⟨∃ a b c d e f g h j, σ = [some (.scr (ns.map .int)), a, b, c, d, e, f, g, h, j]⟩) ⟨_, _, _, _, _, _, _, _, _, rfl⟩ ?_ ?_
  · rintro i σ S1 - ⟨a, b, c, d, e, f, g, h, j, rfl⟩
    simp only [gz5]
    refine t_cell fun c0 => ?_
    simp only [gz5]
    intro p hp
    refine ⟨p, c0, 0, rfl, put_same, by decide, fun s c1 n1 hs hn1 => ?_⟩
    simp only [gz5]
    refine t_shuts (most := 6) rfl put_same (by omega) (by decide) (by decide) (by decide) fun ws r c2 n2 S3 dr hn2 hr rp ext hp3 hr2 => ?_
    simp only [gz5]
    have lw := dr.len
    refine t_made hs.ok (.ref hr2) (by omega) (fun w hw => (dr.wok (by decide) hw).mono (by decide)) ?_
    rw [plt_enc]
    have hl2 : (pltW s ws).length ≤ 6 := by rw [plt_len]; omega
    have hfig := plt_tight hs dr (by decide)
    generalize pltW s ws = P at hl2 hfig ⊢
    simp only [gz5]
    refine ⟨_, P, rfl, .inl rfl, by omega, fun v hv => FigW.num (hfig v hv), fun rL hrL => ?_⟩
    have npl : p ≠ rL := sne hp3 hrL
    simp only [gz5]
    refine t_takeA (by rw [put_ne npl]; exact hp3) (by decide) (by decide) (by omega) fun m c4 S4 w0 w1 hp4 e4 => ?_
    have hL4 : S4 rL = some (.lst ((P.map waL).map fun l => .str (ofL l))) := by rw [e4 rL npl.symm, put_same, List.map_map]; rfl
    have lin4 : ∀ l ∈ P.map waL, Lin 600 l := fun l hl => by obtain ⟨v, hv, rfl⟩ := List.mem_map.mp hl; exact (waL_lin (hfig v hv)).mono (by decide)
    obtain ⟨M, hM, hM2⟩ : ∃ M : Nat, ([D.int 0, D.int 0, D.int 0, D.int 0, D.int 38, D.int 39, D.int 40, D.int 41] : List D)[m.toNat]? = some (.int (M : Nat)) ∧ M ≤ 41 := by
      have : m = 0 ∨ m = 1 ∨ m = 2 ∨ m = 3 ∨ m = 4 ∨ m = 5 ∨ m = 6 ∨ m = 7 := by omega
      rcases this with rfl | rfl | rfl | rfl | rfl | rfl | rfl | rfl
      · exact ⟨0, rfl, by decide⟩
      · exact ⟨0, rfl, by decide⟩
      · exact ⟨0, rfl, by decide⟩
      · exact ⟨0, rfl, by decide⟩
      · exact ⟨38, rfl, by decide⟩
      · exact ⟨39, rfl, by decide⟩
      · exact ⟨40, rfl, by decide⟩
      · exact ⟨41, rfl, by decide⟩
    obtain ⟨m, rfl⟩ := Int.eq_ofNat_of_zero_le w0
    rw [Int.toNat_natCast] at hM
    simp only [gz5, hM]
    refine jf (fun σ' S' => ∃ (rL : Addr) (L0 : List (List Nat)) (o : Option D), σ' = [some (.scr (ns.map .int)), some (.int (i : Nat)), some (.ref p), some (scD s), some (.ref rL), some (.int (M : Nat)), o, g, h, j] ∧ p ≠ rL ∧ S' rL = some (.lst (L0.map fun l => .str (ofL l))) ∧ S' p = some (rowO c4 (n2 + 1 : Nat)) ∧ L0.length ≤ 41 ∧ (∀ l ∈ L0, Lin 600 l)) ?_ ?_ ?_
    · intro hz
      simp only [gz5]
      refine ⟨by omega, fun p1 hp1 => ?_⟩
      rw [Int.toNat_natCast]
      refine comp_prng (fun i => wlD (upr i)) (by omega) ?_ ?_
      · intro i acc Q1 hi q1
        simp only [gz5]
        exact q1
      · simp only [gz5, del_put hp1]
        have ef : ((List.range M).map fun i => wlD (upr i)) = ((List.range M).map upr).map wlD := by rw [List.map_map]; rfl
        have hF : ∀ w ∈ (List.range M).map upr, FigW w := fun w hw => by
          obtain ⟨i, hi, rfl⟩ := List.mem_map.mp hw
          have := List.mem_range.mp hi
          exact upr_fig (by omega)
        refine ⟨_, (List.range M).map upr, rfl, .inr (.inl (by rw [ef])), by rw [List.length_map, List.length_range]; omega, fun w hw => FigW.num (hF w hw), fun r2 hr2' => ?_⟩
        simp only [gz5]
        refine ⟨r2, ((List.range M).map upr).map waL, _, rfl, sne hp4 hr2', by rw [put_same, List.map_map (f := waL)]; rfl, by rw [put_ne (sne hp4 hr2')]; exact hp4, by rw [List.length_map, List.length_map, List.length_range]; exact hM2, fun l hl => by obtain ⟨v, hv, rfl⟩ := List.mem_map.mp hl; exact (waL_lin (hF v hv)).mono (by decide)⟩
    · intro hz
      simp only [gz5]
      exact ⟨rL, P.map waL, _, rfl, npl, hL4, hp4, by rw [List.length_map]; omega, lin4⟩
    clear hL4 lin4 hp4 e4 npl
    rintro _ S5 ⟨rL, L0, o5, rfl, npl, hL5, hp5, len5, lin5⟩
    simp only [gz5]
    refine t_takeA hp5 (by decide) (by decide) (by omega) fun aI c6 S6 a0 a1 hp6 e6 => ?_
    have hL6 : S6 rL = some (.lst (L0.map fun l => .str (ofL l))) := by rw [e6 rL npl.symm]; exact hL5
    obtain ⟨ab, hA⟩ : ∃ ab : Bool, D.int aI = askD ab ∧ aI = (if ab = true then 1 else 0) := by
      have : aI = 0 ∨ aI = 1 := by omega
      rcases this with rfl | rfl
      · exact ⟨false, rfl, rfl⟩
      · exact ⟨true, rfl, rfl⟩
    simp only [gz5]
    refine t_takeA hp6 (by decide) (by decide) (by omega) fun m2 c7 S7 m0 m1 hp7 e7 => ?_
    have hL7 : S7 rL = some (.lst (L0.map fun l => .str (ofL l))) := by rw [e7 rL npl.symm]; exact hL6
    simp only [gz5]
    obtain ⟨m2, rfl⟩ := Int.eq_ofNat_of_zero_le m0
    have hK : ∃ K : Nat, aI * (m2 : Int) = (K : Int) ∧ K ≤ 3 := by
      have : aI = 0 ∨ aI = 1 := by omega
      rcases this with rfl | rfl
      · exact ⟨0, by omega, by omega⟩
      · exact ⟨m2, by omega, by omega⟩
    obtain ⟨K, hK, hK3⟩ := hK
    rw [hK, Int.toNat_natCast]
    refine ⟨mulok_l (by omega) (by omega), by omega, ?_⟩
    refine rng_inv (fun k σ S' => @KP ⟨(∃ o, σ = [some (.scr (ns.map .int)), some (.int (i : Nat)), some (.ref p), some (scD s), some (.ref rL), some (.int (M : Nat)), o5, some (.int aI), o, j]) ∧ ∃ (us : List Pt) (cc : Int) (n : Nat), us.length ≤ k ∧ n ≤ n2 + 3 + 6 * k ∧ (∀ u ∈ us, FigP u) ∧ S' rL = some (.lst ((L0 ++ us.map asL).map fun l => .str (ofL l))) ∧ S' p = some (rowO cc n)⟩) ⟨⟨_, rfl⟩, [], c7, n2 + 1 + 1 + 1, Nat.le_refl _, by omega, (fun u hu => by cases hu), by rw [List.map_nil, List.append_nil]; exact hL7, hp7⟩ ?_ ?_
    · rintro k σ S8 hk ⟨⟨o, rfl⟩, us, cc, n, hu, hn, hf, hL8, hp8⟩
      simp only [gz5]
      refine ⟨of_eq_true (isLst_ref hL8), p, cc, n, rfl, hp8, by omega, fun x cx hx => ?_⟩
      simp only [gz5]
      refine ⟨x, rfl, Nat.le_trans (fig_bd hx).le (by decide), ?_⟩
      simp only [gz5]
      refine ⟨p, cx, n + 3, rfl, put_same, by omega, fun y cy hy => ?_⟩
      simp only [gz5]
      refine ⟨y, rfl, Nat.le_trans (fig_bd hy).le (by decide), ?_⟩
      simp only [gz5]
      have hxl := fig_len hx
      have hyl := fig_len hy
      refine t_jw (ps := askL (x, y)) (by rw [T_ask]; rfl) (by show (3 + 1) + ((shL x).length + 1 + ((shL y).length + 1 + 0)) ≤ _; omega) ?_
      have hL9 : put S8 p (rowO cy (n + 3 + 3 : Nat)) rL = some (.lst ((L0 ++ us.map asL).map fun l => .str (ofL l))) := by rw [put_ne npl.symm]; exact hL8
      simp only [gz5, put_put, hL9]
      refine ⟨by rw [List.length_append, List.length_map]; show _ < 2 ^ 24; omega, ?_⟩
      refine KP.mk ⟨⟨_, rfl⟩, us ++ [(x, y)], cy, n + 3 + 3, by rw [List.length_append, List.length_singleton]; omega, by omega, fun u hu => ?_, ?_, ?_⟩
      · rcases List.mem_append.mp hu with hu | hu
        · exact hf u hu
        · rw [List.mem_singleton.mp hu]; exact ⟨hx, hy⟩
      · rw [put_same, List.map_append (f := asL), ← List.append_assoc, List.map_append (l₂ := [(x, y)].map asL)]; rfl
      · rw [put_ne npl, put_same]
    · rintro σ S8 ⟨⟨o, rfl⟩, us, cc, n, hu, hn, hf, hL8, hp8⟩
      have lin8 : ∀ l ∈ L0 ++ us.map asL, Lin 600 l := fun l hl => by
        rcases List.mem_append.mp hl with hl | hl
        · exact lin5 l hl
        · obtain ⟨v, hv, rfl⟩ := List.mem_map.mp hl; exact (asL_lin (hf v hv)).mono (by decide)
      have len8 : (L0 ++ us.map asL).length ≤ 44 := by rw [List.length_append, List.length_map]; omega
      generalize L0 ++ us.map asL = L1 at *
      have ep : (D.lst []) = .lst (([] : List (List Nat)).map fun l => D.str (ofL l)) := rfl
      simp only [gz5, look_ref' hL8]
      rw [ep, eqOk_rows (fun l hl => (lin8 l hl).asc) (fun l hl => by cases hl), deq_rows]
      refine ⟨rfl, ?_⟩
      refine jf (fun σ' S' => ∃ (q0 : Addr) (L2 : List (List Nat)), σ' = [some (.scr (ns.map .int)), some (.int (i : Nat)), some (.ref p), some (scD s), some (.ref q0), some (.int (M : Nat)), o5, some (.int aI), o, j] ∧ p ≠ q0 ∧ S' q0 = some (.lst (L2.map fun l => .str (ofL l))) ∧ S' p = some (rowO cc n) ∧ L2 ≠ [] ∧ L2.length ≤ 44 ∧ (∀ l ∈ L2, Lin 600 l)) ?_ ?_ ?_
      · intro hz
        simp only [gz5]
        intro q0 hq0
        refine ⟨q0, [tl (Str.ofString "wall 0 0 1 1")], rfl, sne hp8 hq0, put_same, by rw [put_ne (sne hp8 hq0)]; exact hp8, by simp, by decide, lin_dec (by decide +kernel)⟩
      · intro hz
        simp only [gz5]
        exact ⟨rL, L1, rfl, npl, hL8, hp8, by simpa using hz, len8, lin8⟩
      clear hL8 hp8 len8 lin8
      rintro _ S9 ⟨q0, L2, rfl, npq, hL9, hp9, ne9, len9, lin9⟩
      simp only [gz5]
      refine t_takeA hp9 (by decide) (by decide) (by omega) fun w c9 SA z0 z1 hpA eA => ?_
      have hLA : SA q0 = some (.lst (L2.map fun l => .str (ofL l))) := by rw [eA q0 npq.symm]; exact hL9
      obtain ⟨w, rfl⟩ := Int.eq_ofNat_of_zero_le z0
      simp only [gz5]
      refine ⟨by omega, ?_⟩
      rw [show (2 + (w : Int)).toNat = 2 + w by omega]
      refine rng_inv (fun k σ S' => @KP ⟨∃ (d o : Option D) (dl : D) (ms : List (List Nat)) (cc : Int) (n' : Nat), σ = [some (.scr (ns.map .int)), some (.int (i : Nat)), some (.ref p), some (scD s), some dl, some (.int (M : Nat)), o5, some (.int aI), o, j] ∧ LstK S' dl (ms.map fun l => .str (ofL l)) ∧ dl ≠ .ref p ∧ ms ≠ [] ∧ ms.length ≤ 44 + 2 * k ∧ (∀ l ∈ ms, Lin (bdN k) l) ∧ S' p = some (rowO cc n') ∧ n' ≤ n + 1 + 20 * k ∧ (0 < k → dl = .lst (ms.map fun l => .str (ofL l)))⟩) ⟨none, _, _, L2, c9, n + 1, rfl, .ref hLA, fun z => npq.symm (by injection z), ne9, len9, fun l hl => (lin9 l hl).mono (by decide), hpA, by omega, fun h => absurd h (by decide)⟩ ?_ ?_
      · rintro k σ SB hk ⟨d, o, dl, ms, cc, n', rfl, hdl, dp, m0, m1, m2, hpB, hn', -⟩
        simp only [gz5]
        have hk3 : k = 0 ∨ k = 1 ∨ k = 2 := by omega
        refine ⟨p, dl, cc, n', bdN k, ms, rfl, hdl, dp, hpB, by omega, m0, by omega, by rcases hk3 with rfl | rfl | rfl <;> decide, by rcases hk3 with rfl | rfl | rfl <;> decide, m2, fun ms' cd nd SC y1 y2 y3 y4 y5 y6 => ?_⟩
        simp only [gz5]
        refine KP.mk ⟨none, _, _, ms', cd, nd, rfl, .lst, (fun z => by cases z), y1, by omega, fun l hl => (y3 l hl).mono (by rcases hk3 with rfl | rfl | rfl <;> decide), y5, by omega, fun _ => rfl⟩
      · rintro σ SB ⟨d, o, dl, ms, cc, n', rfl, hdl, dp, m0, m1, m2, hpB, hn', hval⟩
        have hval := hval (by omega)
        subst hval
        have hB : bdN (2 + w) ≤ 5000 := by
          have : w = 0 ∨ w = 1 := by omega
          rcases this with rfl | rfl <;> decide
        have m2 : ∀ l ∈ ms, Lin 5000 l := fun l hl => (m2 l hl).mono hB
        have m1 : ms.length ≤ 50 := by omega
        simp only [gz5]
        refine ⟨ab, _, ms, by rw [hA.1], rfl, by omega, fun l hl => ⟨(m2 l hl).asc, (m2 l hl).len⟩, fun SC v xC rC => ?_⟩
        have asc : ∀ l ∈ ms, ∀ c ∈ l, c < 128 := fun l hl => (m2 l hl).asc
        have e1 : D.lst [D.str (Str.ofString "")] = .lst (([[]] : List (List Nat)).map fun l => D.str (ofL l)) := rfl
        have hwt : wt ms ≤ 50 * 5001 := Nat.le_trans (wt_le fun l hl => (m2 l hl).len) (Nat.mul_le_mul_right _ m1)
        have hjl : (joinL [10] ms).length ≤ 999000 := by have := join_wt (s := 10) (ws := ms); omega
        simp only [gz5]
        rw [e1, eqOk_rows asc (by intro l hl; rw [List.mem_singleton.mp hl]; intro c hc; cases hc), deq_rows]
        refine ⟨rfl, ?_⟩
        refine jf (fun σ' S' => ∃ u : D, σ' = [some (.scr (ns.map .int)), some (.int (i : Nat)), some (.ref p), some (scD s), some (.lst (ms.map fun l => .str (ofL l))), some (.int (M : Nat)), o5, some (.int aI), o, some u] ∧ Ext0 SC S' ∧ ResD S' ab (readG ab 0 [] [] (rowsIn (joinL [10] ms))) u) ?_ ?_ ?_
        · intro hz
          have h1 : ms = [[]] := by simpa using hz
          subst h1
          obtain ⟨hA1, hA2⟩ := hA
          cases ab with
          | true =>
            have hA2 : aI = 1 := hA2
            subst hA2
            simp only [gz5]
            exact ⟨_, rfl, fun _ _ e => e, (show ResD _ true (.inl ([], [])) _ from .none)⟩
          | false =>
            have hA2 : aI = 0 := hA2
            subst hA2
            simp only [gz5]
            exact ⟨_, rfl, fun _ _ e => e, (show ResD _ false (.inl ([], [])) _ from .plot)⟩
        · intro hz
          simp only [gz5]
          refine ⟨v, rfl, fun _ _ e => e, ?_⟩
          rw [rows_join (fun l hl => (m2 l hl).fr) m0 (by simpa using hz)]
          exact rC
        rintro _ SD ⟨u, rfl, xD, rD⟩
        simp only [gz5]
        refine t_jn (by omega) ?_
        simp only [gz5]
        refine ⟨ab, _, by rw [hA.1], hjl, fun SE t xE rE => ?_⟩
        simp only [gz5]
        refine neXP (res_deep rE) (res_deep (rD.mono xE)) ⟨cD_plain _, cD_plain _, cD_dep _, cD_dep _⟩ ?_
        rw [deq_refl _ (cD_plain _)]
        simp only [gz5]
        exact KP.mk ⟨_, _, _, _, _, _, _, _, _, rfl⟩
  · rintro σ S1 ⟨a, b, c, d, e, f, g, h, j, rfl⟩
    simp only [gz5]
    exact q _
end Lk75
set_option maxRecDepth 100000
set_option maxHeartbeats 0
namespace Lk75
open PySem PySem.Spec L2 ML
open PyProof.Rows hiding St
section
variable {P : Program} {w : World} {K : PySem.W.Frag} {mg : Str → Option Value} {base : Heap}
abbrev FnP (K : PySem.W.Frag) (x : Str) (st : Stmt) (f : Addr) (fd : FuncData) : Prop := FunD K x x (defArgs st) (defBody st) (defScope st) [] [] f fd
abbrev FnM (K : PySem.W.Frag) (x q : Str) (st : Stmt) (f : Addr) (fd : FuncData) : Prop := FunD K x q (defArgs st) (defBody st) (defScope st) [] [] f fd
theorem fn_divisor {f : Addr} {fd : FuncData} (T : Txt K mg) (F : FnP K "divisor" s_divisor f fd)  : FnOk P w K mg base (L2.CX P w) 1 f fd ["one", "other"] (upSp K FL.sp_divisor) :=
  fn_mk (N := ["one", "other"]) F sc_divisor rfl l_divisor (fun _ _ _ _ _ _ hr => d_divisor T  hr) r_divisor
theorem h_divisor {f : Addr} {fd : FuncData} (T : Txt K mg) (F : FnP K "divisor" s_divisor f fd) (g : mg "divisor" = some (.ref f))  : Has P w K mg base "divisor" ["one", "other"] 1 FL.sp_divisor :=
  ⟨f, fd, g, F.kp, F.bindsN fun _ _ _ _ _ _ us hl => match us, hl with | [_, _], _ => rfl, fn_divisor T F ⟩
theorem fn_is_less {f : Addr} {fd : FuncData} (T : Txt K mg) (F : FnP K "is_less" s_is_less f fd)  : FnOk P w K mg base (L2.CX P w) 1 f fd ["one", "other"] (upSp K FL.sp_is_less) :=
  fn_mk (N := ["one", "other"]) F sc_is_less rfl l_is_less (fun _ _ _ _ _ _ hr => d_is_less T  hr) r_is_less
theorem h_is_less {f : Addr} {fd : FuncData} (T : Txt K mg) (F : FnP K "is_less" s_is_less f fd) (g : mg "is_less" = some (.ref f))  : Has P w K mg base "is_less" ["one", "other"] 1 FL.sp_is_less :=
  ⟨f, fd, g, F.kp, F.bindsN fun _ _ _ _ _ _ us hl => match us, hl with | [_, _], _ => rfl, fn_is_less T F ⟩
theorem fn_is_whole {f : Addr} {fd : FuncData} (T : Txt K mg) (F : FnP K "is_whole" s_is_whole f fd)  : FnOk P w K mg base (L2.CX P w) 1 f fd ["word"] (upSp K FL.sp_is_whole) :=
  fn_mk (N := ["word", "sign"]) F sc_is_whole rfl l_is_whole (fun _ _ _ _ _ _ hr => d_is_whole T  hr) r_is_whole
theorem h_is_whole {f : Addr} {fd : FuncData} (T : Txt K mg) (F : FnP K "is_whole" s_is_whole f fd) (g : mg "is_whole" = some (.ref f))  : Has P w K mg base "is_whole" ["word"] 1 FL.sp_is_whole :=
  ⟨f, fd, g, F.kp, F.bindsN fun _ _ _ _ _ _ us hl => match us, hl with | [_], _ => rfl, fn_is_whole T F ⟩
theorem fn_rows_in {f : Addr} {fd : FuncData} (T : Txt K mg) (F : FnP K "rows_in" s_rows_in f fd)  : FnOk P w K mg base (L2.CX P w) 1 f fd ["text"] (upSp K FL.sp_rows_in) :=
  fn_mk (N := ["text"]) F sc_rows_in rfl l_rows_in (fun _ _ _ _ _ _ hr => d_rows_in T  hr) r_rows_in
theorem h_rows_in {f : Addr} {fd : FuncData} (T : Txt K mg) (F : FnP K "rows_in" s_rows_in f fd) (g : mg "rows_in" = some (.ref f))  : Has P w K mg base "rows_in" ["text"] 1 FL.sp_rows_in :=
  ⟨f, fd, g, F.kp, F.bindsN fun _ _ _ _ _ _ us hl => match us, hl with | [_], _ => rfl, fn_rows_in T F ⟩
theorem fn_law_cell_at {f : Addr} {fd : FuncData} (T : Txt K mg) (F : FnP K "_law_cell_at" s_law_cell_at f fd)  : FnOk P w K mg base (L2.CX P w) 1 f fd ["_law_script", "_law_k"] (upSp K FL.sp_cell_at) :=
  fn_mk (N := ["_law_script", "_law_k"]) F sc_law_cell_at rfl l_law_cell_at (fun _ _ _ _ _ _ hr => d_law_cell_at T  hr) r_law_cell_at
theorem h_law_cell_at {f : Addr} {fd : FuncData} (T : Txt K mg) (F : FnP K "_law_cell_at" s_law_cell_at f fd) (g : mg "_law_cell_at" = some (.ref f))  : Has P w K mg base "_law_cell_at" ["_law_script", "_law_k"] 1 FL.sp_cell_at :=
  ⟨f, fd, g, F.kp, F.bindsN fun _ _ _ _ _ _ us hl => match us, hl with | [_, _], _ => rfl, fn_law_cell_at T F ⟩
theorem fn_law_take {f : Addr} {fd : FuncData} (T : Txt K mg) (F : FnP K "_law_take" s_law_take f fd)  : FnOk P w K mg base (L2.CX P w) 1 f fd ["_law_row", "_law_base"] (upSp K FL.sp_take) :=
  fn_mk (N := ["_law_row", "_law_base", "_law_rest", "_law_number_here"]) F sc_law_take rfl l_law_take (fun _ _ _ _ _ _ hr => d_law_take T  hr) r_law_take
theorem h_law_take {f : Addr} {fd : FuncData} (T : Txt K mg) (F : FnP K "_law_take" s_law_take f fd) (g : mg "_law_take" = some (.ref f))  : Has P w K mg base "_law_take" ["_law_row", "_law_base"] 1 FL.sp_take :=
  ⟨f, fd, g, F.kp, F.bindsN fun _ _ _ _ _ _ us hl => match us, hl with | [_, _], _ => rfl, fn_law_take T F ⟩
theorem fn_law_low {f : Addr} {fd : FuncData} (T : Txt K mg) (F : FnP K "_law_low" s_law_low f fd)  : FnOk P w K mg base (L2.CX P w) 1 f fd ["_law_top", "_law_bottom"] (upSp K FL.sp_low) :=
  fn_mk (N := ["_law_top", "_law_bottom", "_law_one", "_law_other"]) F sc_law_low rfl l_law_low (fun _ _ _ _ _ _ hr => d_law_low T  hr) r_law_low
theorem h_law_low {f : Addr} {fd : FuncData} (T : Txt K mg) (F : FnP K "_law_low" s_law_low f fd) (g : mg "_law_low" = some (.ref f))  : Has P w K mg base "_law_low" ["_law_top", "_law_bottom"] 1 FL.sp_low :=
  ⟨f, fd, g, F.kp, F.bindsN fun _ _ _ _ _ _ us hl => match us, hl with | [_, _], _ => rfl, fn_law_low T F ⟩
theorem fn_law_turn {f : Addr} {fd : FuncData} (T : Txt K mg) (F : FnP K "_law_turn" s_law_turn f fd)  : FnOk P w K mg base (L2.CX P w) 1 f fd ["_law_one", "_law_two", "_law_three"] (upSp K FL.sp_turn) :=
  fn_mk (N := ["_law_one", "_law_two", "_law_three", "_law_far", "_law_beside", "_law_found"]) F sc_law_turn rfl l_law_turn (fun _ _ _ _ _ _ hr => d_law_turn T  hr) r_law_turn
theorem h_law_turn {f : Addr} {fd : FuncData} (T : Txt K mg) (F : FnP K "_law_turn" s_law_turn f fd) (g : mg "_law_turn" = some (.ref f))  : Has P w K mg base "_law_turn" ["_law_one", "_law_two", "_law_three"] 1 FL.sp_turn :=
  ⟨f, fd, g, F.kp, F.bindsN fun _ _ _ _ _ _ us hl => match us, hl with | [_, _, _], _ => rfl, fn_law_turn T F ⟩
theorem fn_law_shown {f : Addr} {fd : FuncData} (T : Txt K mg) (F : FnP K "_law_shown" s_law_shown f fd)  : FnOk P w K mg base (L2.CX P w) 1 f fd ["_law_one"] (upSp K FL.sp_fshown) :=
  fn_mk (N := ["_law_one"]) F sc_law_shown rfl l_law_shown (fun _ _ _ _ _ _ hr => d_law_shown T  hr) r_law_shown
theorem h_law_shown {f : Addr} {fd : FuncData} (T : Txt K mg) (F : FnP K "_law_shown" s_law_shown f fd) (g : mg "_law_shown" = some (.ref f))  : Has P w K mg base "_law_shown" ["_law_one"] 1 FL.sp_fshown :=
  ⟨f, fd, g, F.kp, F.bindsN fun _ _ _ _ _ _ us hl => match us, hl with | [_], _ => rfl, fn_law_shown T F ⟩
theorem fn_law_is_whole {f : Addr} {fd : FuncData} (T : Txt K mg) (F : FnP K "_law_is_whole" s_law_is_whole f fd)  : FnOk P w K mg base (L2.CX P w) 1 f fd ["_law_word"] (upSp K sp_law_is_whole) :=
  fn_mk (N := ["_law_word", "_law_sign"]) F sc_law_is_whole rfl l_law_is_whole (fun _ _ _ _ _ _ hr => d_law_is_whole T  hr) r_law_is_whole
theorem h_law_is_whole {f : Addr} {fd : FuncData} (T : Txt K mg) (F : FnP K "_law_is_whole" s_law_is_whole f fd) (g : mg "_law_is_whole" = some (.ref f))  : Has P w K mg base "_law_is_whole" ["_law_word"] 1 sp_law_is_whole :=
  ⟨f, fd, g, F.kp, F.bindsN fun _ _ _ _ _ _ us hl => match us, hl with | [_], _ => rfl, fn_law_is_whole T F ⟩
theorem fn_law_cross {f : Addr} {fd : FuncData} (T : Txt K mg) (F : FnP K "_law_cross" s_law_cross f fd)  : FnOk P w K mg base (L2.CX P w) 1 f fd ["_law_one", "_law_two", "_law_three"] (upSp K sp_law_cross) :=
  fn_mk (N := ["_law_one", "_law_two", "_law_three", "_law_gaps", "_law_spot_here", "_law_place", "_law_a", "_law_b", "_law_c", "_law_d", "_law_e", "_law_f", "_law_g", "_law_h", "_law_found"]) F sc_law_cross rfl l_law_cross (fun _ _ _ _ _ _ hr => d_law_cross T  hr) r_law_cross
theorem h_law_cross {f : Addr} {fd : FuncData} (T : Txt K mg) (F : FnP K "_law_cross" s_law_cross f fd) (g : mg "_law_cross" = some (.ref f))  : Has P w K mg base "_law_cross" ["_law_one", "_law_two", "_law_three"] 1 sp_law_cross :=
  ⟨f, fd, g, F.kp, F.bindsN fun _ _ _ _ _ _ us hl => match us, hl with | [_, _, _], _ => rfl, fn_law_cross T F ⟩
theorem fn_law_before {f : Addr} {fd : FuncData} (T : Txt K mg) (F : FnP K "_law_before" s_law_before f fd)  : FnOk P w K mg base (L2.CX P w) 1 f fd ["_law_one", "_law_other"] (upSp K sp_law_before) :=
  fn_mk (N := ["_law_one", "_law_other"]) F sc_law_before rfl l_law_before (fun _ _ _ _ _ _ hr => d_law_before T  hr) r_law_before
theorem h_law_before {f : Addr} {fd : FuncData} (T : Txt K mg) (F : FnP K "_law_before" s_law_before f fd) (g : mg "_law_before" = some (.ref f))  : Has P w K mg base "_law_before" ["_law_one", "_law_other"] 1 sp_law_before :=
  ⟨f, fd, g, F.kp, F.bindsN fun _ _ _ _ _ _ us hl => match us, hl with | [_, _], _ => rfl, fn_law_before T F ⟩
theorem fn_law_alone {f : Addr} {fd : FuncData} (T : Txt K mg) (F : FnP K "_law_alone" s_law_alone f fd)  : FnOk P w K mg base (L2.CX P w) 1 f fd ["_law_heard_here", "_law_place"] (upSp K sp_law_alone) :=
  fn_mk (N := ["_law_heard_here", "_law_place", "_law_kinds"]) F sc_law_alone rfl l_law_alone (fun _ _ _ _ _ _ hr => d_law_alone T  hr) r_law_alone
theorem h_law_alone {f : Addr} {fd : FuncData} (T : Txt K mg) (F : FnP K "_law_alone" s_law_alone f fd) (g : mg "_law_alone" = some (.ref f))  : Has P w K mg base "_law_alone" ["_law_heard_here", "_law_place"] 1 sp_law_alone :=
  ⟨f, fd, g, F.kp, F.bindsN fun _ _ _ _ _ _ us hl => match us, hl with | [_, _], _ => rfl, fn_law_alone T F ⟩
theorem fn_fraction {f : Addr} {fd : FuncData} (T : Txt K mg) (F : FnP K "fraction" s_fraction f fd) (h_divisor : Has P w K mg base "divisor" ["one", "other"] 1 FL.sp_divisor) : FnOk P w K mg base (L2.CX P w) 2 f fd ["top", "bottom"] (upSp K FL.sp_low) :=
  fn_mk (N := ["top", "bottom", "by"]) F sc_fraction rfl l_fraction (fun _ _ _ _ _ _ hr => d_fraction T h_divisor hr) r_fraction
theorem h_fraction {f : Addr} {fd : FuncData} (T : Txt K mg) (F : FnP K "fraction" s_fraction f fd) (g : mg "fraction" = some (.ref f)) (h_divisor : Has P w K mg base "divisor" ["one", "other"] 1 FL.sp_divisor) : Has P w K mg base "fraction" ["top", "bottom"] 2 FL.sp_low :=
  ⟨f, fd, g, F.kp, F.bindsN fun _ _ _ _ _ _ us hl => match us, hl with | [_, _], _ => rfl, fn_fraction T F h_divisor⟩
theorem fn_is_ahead {f : Addr} {fd : FuncData} (T : Txt K mg) (F : FnP K "is_ahead" s_is_ahead f fd) (h_is_less : Has P w K mg base "is_less" ["one", "other"] 1 FL.sp_is_less) : FnOk P w K mg base (L2.CX P w) 2 f fd ["one", "other"] (upSp K FL.sp_is_ahead) :=
  fn_mk (N := ["one", "other"]) F sc_is_ahead rfl l_is_ahead (fun _ _ _ _ _ _ hr => d_is_ahead T h_is_less hr) r_is_ahead
theorem h_is_ahead {f : Addr} {fd : FuncData} (T : Txt K mg) (F : FnP K "is_ahead" s_is_ahead f fd) (g : mg "is_ahead" = some (.ref f)) (h_is_less : Has P w K mg base "is_less" ["one", "other"] 1 FL.sp_is_less) : Has P w K mg base "is_ahead" ["one", "other"] 2 FL.sp_is_ahead :=
  ⟨f, fd, g, F.kp, F.bindsN fun _ _ _ _ _ _ us hl => match us, hl with | [_, _], _ => rfl, fn_is_ahead T F h_is_less⟩
theorem fn_fraction_in {f : Addr} {fd : FuncData} (T : Txt K mg) (F : FnP K "fraction_in" s_fraction_in f fd) (h_divisor : Has P w K mg base "divisor" ["one", "other"] 1 FL.sp_divisor) (h_is_whole : Has P w K mg base "is_whole" ["word"] 1 FL.sp_is_whole) : FnOk P w K mg base (L2.CX P w) 2 f fd ["word"] (upSp K FL.sp_fraction_in) :=
  fn_mk (N := ["word", "top", "stroke", "bottom", "figures"]) F sc_fraction_in rfl l_fraction_in (fun _ _ _ _ _ _ hr => d_fraction_in T h_divisor h_is_whole hr) r_fraction_in
theorem h_fraction_in {f : Addr} {fd : FuncData} (T : Txt K mg) (F : FnP K "fraction_in" s_fraction_in f fd) (g : mg "fraction_in" = some (.ref f)) (h_divisor : Has P w K mg base "divisor" ["one", "other"] 1 FL.sp_divisor) (h_is_whole : Has P w K mg base "is_whole" ["word"] 1 FL.sp_is_whole) : Has P w K mg base "fraction_in" ["word"] 2 FL.sp_fraction_in :=
  ⟨f, fd, g, F.kp, F.bindsN fun _ _ _ _ _ _ us hl => match us, hl with | [_], _ => rfl, fn_fraction_in T F h_divisor h_is_whole⟩
theorem fn_law_number {f : Addr} {fd : FuncData} (T : Txt K mg) (F : FnP K "_law_number" s_law_number f fd) (h_law_low : Has P w K mg base "_law_low" ["_law_top", "_law_bottom"] 1 FL.sp_low) (h_law_take : Has P w K mg base "_law_take" ["_law_row", "_law_base"] 1 FL.sp_take) : FnOk P w K mg base (L2.CX P w) 2 f fd ["_law_row"] (upSp K sp_law_number) :=
  fn_mk (N := ["_law_row", "_law_kind", "_law_most", "_law_bottom", "_law_top"]) F sc_law_number rfl l_law_number (fun _ _ _ _ _ _ hr => d_law_number T h_law_low h_law_take hr) r_law_number
theorem h_law_number {f : Addr} {fd : FuncData} (T : Txt K mg) (F : FnP K "_law_number" s_law_number f fd) (g : mg "_law_number" = some (.ref f)) (h_law_low : Has P w K mg base "_law_low" ["_law_top", "_law_bottom"] 1 FL.sp_low) (h_law_take : Has P w K mg base "_law_take" ["_law_row", "_law_base"] 1 FL.sp_take) : Has P w K mg base "_law_number" ["_law_row"] 2 sp_law_number :=
  ⟨f, fd, g, F.kp, F.bindsN fun _ _ _ _ _ _ us hl => match us, hl with | [_], _ => rfl, fn_law_number T F h_law_low h_law_take⟩
theorem fn_law_scale {f : Addr} {fd : FuncData} (T : Txt K mg) (F : FnP K "_law_scale" s_law_scale f fd) (h_law_take : Has P w K mg base "_law_take" ["_law_row", "_law_base"] 1 FL.sp_take) : FnOk P w K mg base (L2.CX P w) 2 f fd ["_law_row"] (upSp K sp_law_scale) :=
  fn_mk (N := ["_law_row", "_law_top", "_law_bottom", "_law_far"]) F sc_law_scale rfl l_law_scale (fun _ _ _ _ _ _ hr => d_law_scale T h_law_take hr) r_law_scale
theorem h_law_scale {f : Addr} {fd : FuncData} (T : Txt K mg) (F : FnP K "_law_scale" s_law_scale f fd) (g : mg "_law_scale" = some (.ref f)) (h_law_take : Has P w K mg base "_law_take" ["_law_row", "_law_base"] 1 FL.sp_take) : Has P w K mg base "_law_scale" ["_law_row"] 2 sp_law_scale :=
  ⟨f, fd, g, F.kp, F.bindsN fun _ _ _ _ _ _ us hl => match us, hl with | [_], _ => rfl, fn_law_scale T F h_law_take⟩
theorem fn_law_spot {f : Addr} {fd : FuncData} (T : Txt K mg) (F : FnP K "_law_spot" s_law_spot f fd) (h_law_low : Has P w K mg base "_law_low" ["_law_top", "_law_bottom"] 1 FL.sp_low) : FnOk P w K mg base (L2.CX P w) 2 f fd ["_law_scale_here", "_law_unit"] (upSp K FL.sp_uspot) :=
  fn_mk (N := ["_law_scale_here", "_law_unit", "_law_top", "_law_bottom", "_law_x", "_law_y"]) F sc_law_spot rfl l_law_spot (fun _ _ _ _ _ _ hr => d_law_spot T h_law_low hr) r_law_spot
theorem h_law_spot {f : Addr} {fd : FuncData} (T : Txt K mg) (F : FnP K "_law_spot" s_law_spot f fd) (g : mg "_law_spot" = some (.ref f)) (h_law_low : Has P w K mg base "_law_low" ["_law_top", "_law_bottom"] 1 FL.sp_low) : Has P w K mg base "_law_spot" ["_law_scale_here", "_law_unit"] 2 FL.sp_uspot :=
  ⟨f, fd, g, F.kp, F.bindsN fun _ _ _ _ _ _ us hl => match us, hl with | [_, _], _ => rfl, fn_law_spot T F h_law_low⟩
theorem fn_law_on {f : Addr} {fd : FuncData} (T : Txt K mg) (F : FnP K "_law_on" s_law_on f fd) (h_law_turn : Has P w K mg base "_law_turn" ["_law_one", "_law_two", "_law_three"] 1 FL.sp_turn) : FnOk P w K mg base (L2.CX P w) 2 f fd ["_law_shut", "_law_spot_here"] (upSp K FL.sp_on) :=
  fn_mk (N := ["_law_shut", "_law_spot_here"]) F sc_law_on rfl l_law_on (fun _ _ _ _ _ _ hr => d_law_on T h_law_turn hr) r_law_on
theorem h_law_on {f : Addr} {fd : FuncData} (T : Txt K mg) (F : FnP K "_law_on" s_law_on f fd) (g : mg "_law_on" = some (.ref f)) (h_law_turn : Has P w K mg base "_law_turn" ["_law_one", "_law_two", "_law_three"] 1 FL.sp_turn) : Has P w K mg base "_law_on" ["_law_shut", "_law_spot_here"] 2 FL.sp_on :=
  ⟨f, fd, g, F.kp, F.bindsN fun _ _ _ _ _ _ us hl => match us, hl with | [_, _], _ => rfl, fn_law_on T F h_law_turn⟩
theorem fn_law_rows {f : Addr} {fd : FuncData} (T : Txt K mg) (F : FnP K "_law_rows" s_law_rows f fd) (h_law_shown : Has P w K mg base "_law_shown" ["_law_one"] 1 FL.sp_fshown) : FnOk P w K mg base (L2.CX P w) 2 f fd ["_law_plot"] (upSp K sp_law_rows) :=
  fn_mk (N := ["_law_plot", "_law_one", "_law_first", "_law_second"]) F sc_law_rows rfl l_law_rows (fun _ _ _ _ _ _ hr => d_law_rows T h_law_shown hr) r_law_rows
theorem h_law_rows {f : Addr} {fd : FuncData} (T : Txt K mg) (F : FnP K "_law_rows" s_law_rows f fd) (g : mg "_law_rows" = some (.ref f)) (h_law_shown : Has P w K mg base "_law_shown" ["_law_one"] 1 FL.sp_fshown) : Has P w K mg base "_law_rows" ["_law_plot"] 2 sp_law_rows :=
  ⟨f, fd, g, F.kp, F.bindsN fun _ _ _ _ _ _ us hl => match us, hl with | [_], _ => rfl, fn_law_rows T F h_law_shown⟩
theorem fn_law_fraction {f : Addr} {fd : FuncData} (T : Txt K mg) (F : FnP K "_law_fraction" s_law_fraction f fd) (h_law_low : Has P w K mg base "_law_low" ["_law_top", "_law_bottom"] 1 FL.sp_low) (h_law_is_whole : Has P w K mg base "_law_is_whole" ["_law_word"] 1 sp_law_is_whole) : FnOk P w K mg base (L2.CX P w) 2 f fd ["_law_word"] (upSp K sp_law_fraction) :=
  fn_mk (N := ["_law_word", "_law_parts", "_law_top", "_law_bottom"]) F sc_law_fraction rfl l_law_fraction (fun _ _ _ _ _ _ hr => d_law_fraction T h_law_low h_law_is_whole hr) r_law_fraction
theorem h_law_fraction {f : Addr} {fd : FuncData} (T : Txt K mg) (F : FnP K "_law_fraction" s_law_fraction f fd) (g : mg "_law_fraction" = some (.ref f)) (h_law_low : Has P w K mg base "_law_low" ["_law_top", "_law_bottom"] 1 FL.sp_low) (h_law_is_whole : Has P w K mg base "_law_is_whole" ["_law_word"] 1 sp_law_is_whole) : Has P w K mg base "_law_fraction" ["_law_word"] 2 sp_law_fraction :=
  ⟨f, fd, g, F.kp, F.bindsN fun _ _ _ _ _ _ us hl => match us, hl with | [_], _ => rfl, fn_law_fraction T F h_law_low h_law_is_whole⟩
theorem fn_law_bent {f : Addr} {fd : FuncData} (T : Txt K mg) (F : FnP K "_law_bent" s_law_bent f fd) (h_law_take : Has P w K mg base "_law_take" ["_law_row", "_law_base"] 1 FL.sp_take) : FnOk P w K mg base (L2.CX P w) 2 f fd ["_law_row", "_law_lines"] (upSp K sp_law_bent) :=
  fn_mk (N := ["_law_row", "_law_lines", "_law_at", "_law_words", "_law_place", "_law_spot_here", "_law_signs", "_law_sign", "_law_way", "_law_line", "_law_some"]) F sc_law_bent rfl l_law_bent (fun _ _ _ _ _ _ hr => d_law_bent T h_law_take hr) r_law_bent
theorem h_law_bent {f : Addr} {fd : FuncData} (T : Txt K mg) (F : FnP K "_law_bent" s_law_bent f fd) (g : mg "_law_bent" = some (.ref f)) (h_law_take : Has P w K mg base "_law_take" ["_law_row", "_law_base"] 1 FL.sp_take) : Has P w K mg base "_law_bent" ["_law_row", "_law_lines"] 2 sp_law_bent :=
  ⟨f, fd, g, F.kp, F.bindsN fun _ _ _ _ _ _ us hl => match us, hl with | [_, _], _ => rfl, fn_law_bent T F h_law_take⟩
theorem fn_law_fits {f : Addr} {fd : FuncData} (T : Txt K mg) (F : FnP K "_law_fits" s_law_fits f fd) (h_law_cross : Has P w K mg base "_law_cross" ["_law_one", "_law_two", "_law_three"] 1 sp_law_cross) (h_law_before : Has P w K mg base "_law_before" ["_law_one", "_law_other"] 1 sp_law_before) : FnOk P w K mg base (L2.CX P w) 2 f fd ["_law_one", "_law_other"] (upSp K sp_law_fits) :=
  fn_mk (N := ["_law_one", "_law_other", "_law_shut", "_law_beside", "_law_spot_here", "_law_out", "_law_sides", "_law_others"]) F sc_law_fits rfl l_law_fits (fun _ _ _ _ _ _ hr => d_law_fits T h_law_cross h_law_before hr) r_law_fits
theorem h_law_fits {f : Addr} {fd : FuncData} (T : Txt K mg) (F : FnP K "_law_fits" s_law_fits f fd) (g : mg "_law_fits" = some (.ref f)) (h_law_cross : Has P w K mg base "_law_cross" ["_law_one", "_law_two", "_law_three"] 1 sp_law_cross) (h_law_before : Has P w K mg base "_law_before" ["_law_one", "_law_other"] 1 sp_law_before) : Has P w K mg base "_law_fits" ["_law_one", "_law_other"] 2 sp_law_fits :=
  ⟨f, fd, g, F.kp, F.bindsN fun _ _ _ _ _ _ us hl => match us, hl with | [_, _], _ => rfl, fn_law_fits T F h_law_cross h_law_before⟩
theorem fn_law_beyond {f : Addr} {fd : FuncData} (T : Txt K mg) (F : FnP K "_law_beyond" s_law_beyond f fd) (h_law_low : Has P w K mg base "_law_low" ["_law_top", "_law_bottom"] 1 FL.sp_low) : FnOk P w K mg base (L2.CX P w) 2 f fd ["_law_one", "_law_other"] (upSp K sp_law_beyond) :=
  fn_mk (N := ["_law_one", "_law_other"]) F sc_law_beyond rfl l_law_beyond (fun _ _ _ _ _ _ hr => d_law_beyond T h_law_low hr) r_law_beyond
theorem h_law_beyond {f : Addr} {fd : FuncData} (T : Txt K mg) (F : FnP K "_law_beyond" s_law_beyond f fd) (g : mg "_law_beyond" = some (.ref f)) (h_law_low : Has P w K mg base "_law_low" ["_law_top", "_law_bottom"] 1 FL.sp_low) : Has P w K mg base "_law_beyond" ["_law_one", "_law_other"] 2 sp_law_beyond :=
  ⟨f, fd, g, F.kp, F.bindsN fun _ _ _ _ _ _ us hl => match us, hl with | [_, _], _ => rfl, fn_law_beyond T F h_law_low⟩
theorem fn_plus {f : Addr} {fd : FuncData} (T : Txt K mg) (F : FnP K "plus" s_plus f fd) (h_fraction : Has P w K mg base "fraction" ["top", "bottom"] 2 FL.sp_low) : FnOk P w K mg base (L2.CX P w) 3 f fd ["one", "other"] (upSp K FL.sp_plus) :=
  fn_mk (N := ["one", "other"]) F sc_plus rfl l_plus (fun _ _ _ _ _ _ hr => d_plus T h_fraction hr) r_plus
theorem h_plus {f : Addr} {fd : FuncData} (T : Txt K mg) (F : FnP K "plus" s_plus f fd) (g : mg "plus" = some (.ref f)) (h_fraction : Has P w K mg base "fraction" ["top", "bottom"] 2 FL.sp_low) : Has P w K mg base "plus" ["one", "other"] 3 FL.sp_plus :=
  ⟨f, fd, g, F.kp, F.bindsN fun _ _ _ _ _ _ us hl => match us, hl with | [_, _], _ => rfl, fn_plus T F h_fraction⟩
theorem fn_less {f : Addr} {fd : FuncData} (T : Txt K mg) (F : FnP K "less" s_less f fd) (h_fraction : Has P w K mg base "fraction" ["top", "bottom"] 2 FL.sp_low) : FnOk P w K mg base (L2.CX P w) 3 f fd ["one", "other"] (upSp K FL.sp_less) :=
  fn_mk (N := ["one", "other"]) F sc_less rfl l_less (fun _ _ _ _ _ _ hr => d_less T h_fraction hr) r_less
theorem h_less {f : Addr} {fd : FuncData} (T : Txt K mg) (F : FnP K "less" s_less f fd) (g : mg "less" = some (.ref f)) (h_fraction : Has P w K mg base "fraction" ["top", "bottom"] 2 FL.sp_low) : Has P w K mg base "less" ["one", "other"] 3 FL.sp_less :=
  ⟨f, fd, g, F.kp, F.bindsN fun _ _ _ _ _ _ us hl => match us, hl with | [_, _], _ => rfl, fn_less T F h_fraction⟩
theorem fn_times {f : Addr} {fd : FuncData} (T : Txt K mg) (F : FnP K "times" s_times f fd) (h_fraction : Has P w K mg base "fraction" ["top", "bottom"] 2 FL.sp_low) : FnOk P w K mg base (L2.CX P w) 3 f fd ["one", "other"] (upSp K FL.sp_times) :=
  fn_mk (N := ["one", "other"]) F sc_times rfl l_times (fun _ _ _ _ _ _ hr => d_times T h_fraction hr) r_times
theorem h_times {f : Addr} {fd : FuncData} (T : Txt K mg) (F : FnP K "times" s_times f fd) (g : mg "times" = some (.ref f)) (h_fraction : Has P w K mg base "fraction" ["top", "bottom"] 2 FL.sp_low) : Has P w K mg base "times" ["one", "other"] 3 FL.sp_times :=
  ⟨f, fd, g, F.kp, F.bindsN fun _ _ _ _ _ _ us hl => match us, hl with | [_, _], _ => rfl, fn_times T F h_fraction⟩
theorem fn_over {f : Addr} {fd : FuncData} (T : Txt K mg) (F : FnP K "over" s_over f fd) (h_fraction : Has P w K mg base "fraction" ["top", "bottom"] 2 FL.sp_low) : FnOk P w K mg base (L2.CX P w) 3 f fd ["one", "other"] (upSp K FL.sp_over) :=
  fn_mk (N := ["one", "other"]) F sc_over rfl l_over (fun _ _ _ _ _ _ hr => d_over T h_fraction hr) r_over
theorem h_over {f : Addr} {fd : FuncData} (T : Txt K mg) (F : FnP K "over" s_over f fd) (g : mg "over" = some (.ref f)) (h_fraction : Has P w K mg base "fraction" ["top", "bottom"] 2 FL.sp_low) : Has P w K mg base "over" ["one", "other"] 3 FL.sp_over :=
  ⟨f, fd, g, F.kp, F.bindsN fun _ _ _ _ _ _ us hl => match us, hl with | [_, _], _ => rfl, fn_over T F h_fraction⟩
theorem fn_spot_in {f : Addr} {fd : FuncData} (T : Txt K mg) (F : FnP K "spot_in" s_spot_in f fd) (h_fraction_in : Has P w K mg base "fraction_in" ["word"] 2 FL.sp_fraction_in) : FnOk P w K mg base (L2.CX P w) 3 f fd ["words"] (upSp K FL.sp_spot_in) :=
  fn_mk (N := ["words", "x", "y", "word"]) F sc_spot_in rfl l_spot_in (fun _ _ _ _ _ _ hr => d_spot_in T h_fraction_in hr) r_spot_in
theorem h_spot_in {f : Addr} {fd : FuncData} (T : Txt K mg) (F : FnP K "spot_in" s_spot_in f fd) (g : mg "spot_in" = some (.ref f)) (h_fraction_in : Has P w K mg base "fraction_in" ["word"] 2 FL.sp_fraction_in) : Has P w K mg base "spot_in" ["words"] 3 FL.sp_spot_in :=
  ⟨f, fd, g, F.kp, F.bindsN fun _ _ _ _ _ _ us hl => match us, hl with | [_], _ => rfl, fn_spot_in T F h_fraction_in⟩
theorem fn_law_made {f : Addr} {fd : FuncData} (T : Txt K mg) (F : FnP K "_law_made" s_law_made f fd) (h_law_spot : Has P w K mg base "_law_spot" ["_law_scale_here", "_law_unit"] 2 FL.sp_uspot) : FnOk P w K mg base (L2.CX P w) 3 f fd ["_law_scale_here", "_law_shuts"] (upSp K FL.sp_made) :=
  fn_mk (N := ["_law_scale_here", "_law_shuts", "_law_first", "_law_second"]) F sc_law_made rfl l_law_made (fun _ _ _ _ _ _ hr => d_law_made T h_law_spot hr) r_law_made
theorem h_law_made {f : Addr} {fd : FuncData} (T : Txt K mg) (F : FnP K "_law_made" s_law_made f fd) (g : mg "_law_made" = some (.ref f)) (h_law_spot : Has P w K mg base "_law_spot" ["_law_scale_here", "_law_unit"] 2 FL.sp_uspot) : Has P w K mg base "_law_made" ["_law_scale_here", "_law_shuts"] 3 FL.sp_made :=
  ⟨f, fd, g, F.kp, F.bindsN fun _ _ _ _ _ _ us hl => match us, hl with | [_, _], _ => rfl, fn_law_made T F h_law_spot⟩
theorem fn_law_fair {f : Addr} {fd : FuncData} (T : Txt K mg) (F : FnP K "_law_fair" s_law_fair f fd) (h_law_turn : Has P w K mg base "_law_turn" ["_law_one", "_law_two", "_law_three"] 1 FL.sp_turn) (h_law_on : Has P w K mg base "_law_on" ["_law_shut", "_law_spot_here"] 2 FL.sp_on) : FnOk P w K mg base (L2.CX P w) 3 f fd ["_law_one", "_law_other"] (upSp K FL.sp_fair) :=
  fn_mk (N := ["_law_one", "_law_other", "_law_shut", "_law_beside", "_law_spot_here", "_law_sides", "_law_others"]) F sc_law_fair rfl l_law_fair (fun _ _ _ _ _ _ hr => d_law_fair T h_law_turn h_law_on hr) r_law_fair
theorem h_law_fair {f : Addr} {fd : FuncData} (T : Txt K mg) (F : FnP K "_law_fair" s_law_fair f fd) (g : mg "_law_fair" = some (.ref f)) (h_law_turn : Has P w K mg base "_law_turn" ["_law_one", "_law_two", "_law_three"] 1 FL.sp_turn) (h_law_on : Has P w K mg base "_law_on" ["_law_shut", "_law_spot_here"] 2 FL.sp_on) : Has P w K mg base "_law_fair" ["_law_one", "_law_other"] 3 FL.sp_fair :=
  ⟨f, fd, g, F.kp, F.bindsN fun _ _ _ _ _ _ us hl => match us, hl with | [_, _], _ => rfl, fn_law_fair T F h_law_turn h_law_on⟩
theorem fn_law_shut_in {f : Addr} {fd : FuncData} (T : Txt K mg) (F : FnP K "_law_shut_in" s_law_shut_in f fd) (h_law_fraction : Has P w K mg base "_law_fraction" ["_law_word"] 2 sp_law_fraction) : FnOk P w K mg base (L2.CX P w) 3 f fd ["_law_line"] (upSp K sp_law_shut_in) :=
  fn_mk (N := ["_law_line", "_law_words", "_law_found", "_law_word", "_law_one", "_law_two", "_law_three", "_law_four"]) F sc_law_shut_in rfl l_law_shut_in (fun _ _ _ _ _ _ hr => d_law_shut_in T h_law_fraction hr) r_law_shut_in
theorem h_law_shut_in {f : Addr} {fd : FuncData} (T : Txt K mg) (F : FnP K "_law_shut_in" s_law_shut_in f fd) (g : mg "_law_shut_in" = some (.ref f)) (h_law_fraction : Has P w K mg base "_law_fraction" ["_law_word"] 2 sp_law_fraction) : Has P w K mg base "_law_shut_in" ["_law_line"] 3 sp_law_shut_in :=
  ⟨f, fd, g, F.kp, F.bindsN fun _ _ _ _ _ _ us hl => match us, hl with | [_], _ => rfl, fn_law_shut_in T F h_law_fraction⟩
theorem fn_along {f : Addr} {fd : FuncData} (T : Txt K mg) (F : FnP K "along" s_along f fd) (h_less : Has P w K mg base "less" ["one", "other"] 3 FL.sp_less) : FnOk P w K mg base (L2.CX P w) 4 f fd ["wall"] (upSp K FL.sp_along) :=
  fn_mk (N := ["wall", "first", "second"]) F sc_along rfl l_along (fun _ _ _ _ _ _ hr => d_along T h_less hr) r_along
theorem h_along {f : Addr} {fd : FuncData} (T : Txt K mg) (F : FnP K "along" s_along f fd) (g : mg "along" = some (.ref f)) (h_less : Has P w K mg base "less" ["one", "other"] 3 FL.sp_less) : Has P w K mg base "along" ["wall"] 4 FL.sp_along :=
  ⟨f, fd, g, F.kp, F.bindsN fun _ _ _ _ _ _ us hl => match us, hl with | [_], _ => rfl, fn_along T F h_less⟩
theorem fn_crossed {f : Addr} {fd : FuncData} (T : Txt K mg) (F : FnP K "crossed" s_crossed f fd) (h_less : Has P w K mg base "less" ["one", "other"] 3 FL.sp_less) (h_times : Has P w K mg base "times" ["one", "other"] 3 FL.sp_times) : FnOk P w K mg base (L2.CX P w) 4 f fd ["one", "other"] (upSp K FL.sp_wcrossed) :=
  fn_mk (N := ["one", "other"]) F sc_crossed rfl l_crossed (fun _ _ _ _ _ _ hr => d_crossed T h_less h_times hr) r_crossed
theorem h_crossed {f : Addr} {fd : FuncData} (T : Txt K mg) (F : FnP K "crossed" s_crossed f fd) (g : mg "crossed" = some (.ref f)) (h_less : Has P w K mg base "less" ["one", "other"] 3 FL.sp_less) (h_times : Has P w K mg base "times" ["one", "other"] 3 FL.sp_times) : Has P w K mg base "crossed" ["one", "other"] 4 FL.sp_wcrossed :=
  ⟨f, fd, g, F.kp, F.bindsN fun _ _ _ _ _ _ us hl => match us, hl with | [_, _], _ => rfl, fn_crossed T F h_less h_times⟩
theorem fn_wall_in {f : Addr} {fd : FuncData} (T : Txt K mg) (F : FnP K "wall_in" s_wall_in f fd) (h_is_ahead : Has P w K mg base "is_ahead" ["one", "other"] 2 FL.sp_is_ahead) (h_spot_in : Has P w K mg base "spot_in" ["words"] 3 FL.sp_spot_in) : FnOk P w K mg base (L2.CX P w) 4 f fd ["words"] (upSp K FL.sp_wall_in) :=
  fn_mk (N := ["words", "first", "second"]) F sc_wall_in rfl l_wall_in (fun _ _ _ _ _ _ hr => d_wall_in T h_is_ahead h_spot_in hr) r_wall_in
theorem h_wall_in {f : Addr} {fd : FuncData} (T : Txt K mg) (F : FnP K "wall_in" s_wall_in f fd) (g : mg "wall_in" = some (.ref f)) (h_is_ahead : Has P w K mg base "is_ahead" ["one", "other"] 2 FL.sp_is_ahead) (h_spot_in : Has P w K mg base "spot_in" ["words"] 3 FL.sp_spot_in) : Has P w K mg base "wall_in" ["words"] 4 FL.sp_wall_in :=
  ⟨f, fd, g, F.kp, F.bindsN fun _ _ _ _ _ _ us hl => match us, hl with | [_], _ => rfl, fn_wall_in T F h_is_ahead h_spot_in⟩
theorem fn_question_in {f : Addr} {fd : FuncData} (T : Txt K mg) (F : FnP K "question_in" s_question_in f fd) (h_spot_in : Has P w K mg base "spot_in" ["words"] 3 FL.sp_spot_in) : FnOk P w K mg base (L2.CX P w) 4 f fd ["words"] (upSp K FL.sp_question_in) :=
  fn_mk (N := ["words"]) F sc_question_in rfl l_question_in (fun _ _ _ _ _ _ hr => d_question_in T h_spot_in hr) r_question_in
theorem h_question_in {f : Addr} {fd : FuncData} (T : Txt K mg) (F : FnP K "question_in" s_question_in f fd) (g : mg "question_in" = some (.ref f)) (h_spot_in : Has P w K mg base "spot_in" ["words"] 3 FL.sp_spot_in) : Has P w K mg base "question_in" ["words"] 4 FL.sp_question_in :=
  ⟨f, fd, g, F.kp, F.bindsN fun _ _ _ _ _ _ us hl => match us, hl with | [_], _ => rfl, fn_question_in T F h_spot_in⟩
theorem fn_law_shuts_here {f : Addr} {fd : FuncData} (T : Txt K mg) (F : FnP K "_law_shuts_here" s_law_shuts_here f fd) (h_law_take : Has P w K mg base "_law_take" ["_law_row", "_law_base"] 1 FL.sp_take) (h_law_fair : Has P w K mg base "_law_fair" ["_law_one", "_law_other"] 3 FL.sp_fair) : FnOk P w K mg base (L2.CX P w) 4 f fd ["_law_row", "_law_most", "_law_size"] (upSp K FL.sp_shuts_here) :=
  fn_mk (N := ["_law_row", "_law_most", "_law_size", "_law_shuts", "_law_turn_here", "_law_one", "_law_other", "_law_shut", "_law_beside"]) F sc_law_shuts_here rfl l_law_shuts_here (fun _ _ _ _ _ _ hr => d_law_shuts_here T h_law_take h_law_fair hr) r_law_shuts_here
theorem h_law_shuts_here {f : Addr} {fd : FuncData} (T : Txt K mg) (F : FnP K "_law_shuts_here" s_law_shuts_here f fd) (g : mg "_law_shuts_here" = some (.ref f)) (h_law_take : Has P w K mg base "_law_take" ["_law_row", "_law_base"] 1 FL.sp_take) (h_law_fair : Has P w K mg base "_law_fair" ["_law_one", "_law_other"] 3 FL.sp_fair) : Has P w K mg base "_law_shuts_here" ["_law_row", "_law_most", "_law_size"] 4 FL.sp_shuts_here :=
  ⟨f, fd, g, F.kp, F.bindsN fun _ _ _ _ _ _ us hl => match us, hl with | [_, _, _], _ => rfl, fn_law_shuts_here T F h_law_take h_law_fair⟩
theorem fn_law_odd {f : Addr} {fd : FuncData} (T : Txt K mg) (F : FnP K "_law_odd" s_law_odd f fd) (h_law_rows : Has P w K mg base "_law_rows" ["_law_plot"] 2 sp_law_rows) (h_law_take : Has P w K mg base "_law_take" ["_law_row", "_law_base"] 1 FL.sp_take) (h_law_beyond : Has P w K mg base "_law_beyond" ["_law_one", "_law_other"] 2 sp_law_beyond) (h_law_bent : Has P w K mg base "_law_bent" ["_law_row", "_law_lines"] 2 sp_law_bent) (h_law_shut_in : Has P w K mg base "_law_shut_in" ["_law_line"] 3 sp_law_shut_in) : FnOk P w K mg base (L2.CX P w) 4 f fd ["_law_row", "_law_lines"] (upSp K sp_law_odd) :=
  fn_mk (N := ["_law_row", "_law_lines", "_law_found", "_law_shut", "_law_line", "_law_first", "_law_second", "_law_far", "_law_at"]) F sc_law_odd rfl l_law_odd (fun _ _ _ _ _ _ hr => d_law_odd T h_law_rows h_law_take h_law_beyond h_law_bent h_law_shut_in hr) r_law_odd
theorem h_law_odd {f : Addr} {fd : FuncData} (T : Txt K mg) (F : FnP K "_law_odd" s_law_odd f fd) (g : mg "_law_odd" = some (.ref f)) (h_law_rows : Has P w K mg base "_law_rows" ["_law_plot"] 2 sp_law_rows) (h_law_take : Has P w K mg base "_law_take" ["_law_row", "_law_base"] 1 FL.sp_take) (h_law_beyond : Has P w K mg base "_law_beyond" ["_law_one", "_law_other"] 2 sp_law_beyond) (h_law_bent : Has P w K mg base "_law_bent" ["_law_row", "_law_lines"] 2 sp_law_bent) (h_law_shut_in : Has P w K mg base "_law_shut_in" ["_law_line"] 3 sp_law_shut_in) : Has P w K mg base "_law_odd" ["_law_row", "_law_lines"] 4 sp_law_odd :=
  ⟨f, fd, g, F.kp, F.bindsN fun _ _ _ _ _ _ us hl => match us, hl with | [_, _], _ => rfl, fn_law_odd T F h_law_rows h_law_take h_law_beyond h_law_bent h_law_shut_in⟩
theorem fn_law_due {f : Addr} {fd : FuncData} (T : Txt K mg) (F : FnP K "_law_due" s_law_due f fd) (h_law_fits : Has P w K mg base "_law_fits" ["_law_one", "_law_other"] 2 sp_law_fits) (h_law_fraction : Has P w K mg base "_law_fraction" ["_law_word"] 2 sp_law_fraction) (h_law_shut_in : Has P w K mg base "_law_shut_in" ["_law_line"] 3 sp_law_shut_in) : FnOk P w K mg base (L2.CX P w) 4 f fd ["_law_asks", "_law_lines"] (upSp K sp_law_due) :=
  fn_mk (N := ["_law_asks", "_law_lines", "_law_shuts", "_law_spots", "_law_number_here", "_law_line", "_law_words", "_law_shut", "_law_spot_here", "_law_word", "_law_other"]) F sc_law_due rfl l_law_due (fun _ _ _ _ _ _ hr => d_law_due T h_law_fits h_law_fraction h_law_shut_in hr) r_law_due
theorem h_law_due {f : Addr} {fd : FuncData} (T : Txt K mg) (F : FnP K "_law_due" s_law_due f fd) (g : mg "_law_due" = some (.ref f)) (h_law_fits : Has P w K mg base "_law_fits" ["_law_one", "_law_other"] 2 sp_law_fits) (h_law_fraction : Has P w K mg base "_law_fraction" ["_law_word"] 2 sp_law_fraction) (h_law_shut_in : Has P w K mg base "_law_shut_in" ["_law_line"] 3 sp_law_shut_in) : Has P w K mg base "_law_due" ["_law_asks", "_law_lines"] 4 sp_law_due :=
  ⟨f, fd, g, F.kp, F.bindsN fun _ _ _ _ _ _ us hl => match us, hl with | [_, _], _ => rfl, fn_law_due T F h_law_fits h_law_fraction h_law_shut_in⟩
theorem fn_leaning {f : Addr} {fd : FuncData} (T : Txt K mg) (F : FnP K "leaning" s_leaning f fd) (h_crossed : Has P w K mg base "crossed" ["one", "other"] 4 FL.sp_wcrossed) : FnOk P w K mg base (L2.CX P w) 5 f fd ["one", "other"] (upSp K FL.sp_wleaning) :=
  fn_mk (N := ["one", "other", "found"]) F sc_leaning rfl l_leaning (fun _ _ _ _ _ _ hr => d_leaning T h_crossed hr) r_leaning
theorem h_leaning {f : Addr} {fd : FuncData} (T : Txt K mg) (F : FnP K "leaning" s_leaning f fd) (g : mg "leaning" = some (.ref f)) (h_crossed : Has P w K mg base "crossed" ["one", "other"] 4 FL.sp_wcrossed) : Has P w K mg base "leaning" ["one", "other"] 5 FL.sp_wleaning :=
  ⟨f, fd, g, F.kp, F.bindsN fun _ _ _ _ _ _ us hl => match us, hl with | [_, _], _ => rfl, fn_leaning T F h_crossed⟩
theorem fn_spot_of_lines {f : Addr} {fd : FuncData} (T : Txt K mg) (F : FnP K "spot_of_lines" s_spot_of_lines f fd) (h_plus : Has P w K mg base "plus" ["one", "other"] 3 FL.sp_plus) (h_times : Has P w K mg base "times" ["one", "other"] 3 FL.sp_times) (h_over : Has P w K mg base "over" ["one", "other"] 3 FL.sp_over) (h_crossed : Has P w K mg base "crossed" ["one", "other"] 4 FL.sp_wcrossed) (h_along : Has P w K mg base "along" ["wall"] 4 FL.sp_along) : FnOk P w K mg base (L2.CX P w) 5 f fd ["one", "other"] (upSp K FL.sp_wspot_of_lines) :=
  fn_mk (N := ["one", "other", "far", "part"]) F sc_spot_of_lines rfl l_spot_of_lines (fun _ _ _ _ _ _ hr => d_spot_of_lines T h_plus h_times h_over h_crossed h_along hr) r_spot_of_lines
theorem h_spot_of_lines {f : Addr} {fd : FuncData} (T : Txt K mg) (F : FnP K "spot_of_lines" s_spot_of_lines f fd) (g : mg "spot_of_lines" = some (.ref f)) (h_plus : Has P w K mg base "plus" ["one", "other"] 3 FL.sp_plus) (h_times : Has P w K mg base "times" ["one", "other"] 3 FL.sp_times) (h_over : Has P w K mg base "over" ["one", "other"] 3 FL.sp_over) (h_crossed : Has P w K mg base "crossed" ["one", "other"] 4 FL.sp_wcrossed) (h_along : Has P w K mg base "along" ["wall"] 4 FL.sp_along) : Has P w K mg base "spot_of_lines" ["one", "other"] 5 FL.sp_wspot_of_lines :=
  ⟨f, fd, g, F.kp, F.bindsN fun _ _ _ _ _ _ us hl => match us, hl with | [_, _], _ => rfl, fn_spot_of_lines T F h_plus h_times h_over h_crossed h_along⟩
theorem fn_side_of {f : Addr} {fd : FuncData} (T : Txt K mg) (F : FnP K "side_of" s_side_of f fd) (h_leaning : Has P w K mg base "leaning" ["one", "other"] 5 FL.sp_wleaning) (h_along : Has P w K mg base "along" ["wall"] 4 FL.sp_along) : FnOk P w K mg base (L2.CX P w) 6 f fd ["wall", "spot"] (upSp K FL.sp_wside_of) :=
  fn_mk (N := ["wall", "spot"]) F sc_side_of rfl l_side_of (fun _ _ _ _ _ _ hr => d_side_of T h_leaning h_along hr) r_side_of
theorem h_side_of {f : Addr} {fd : FuncData} (T : Txt K mg) (F : FnP K "side_of" s_side_of f fd) (g : mg "side_of" = some (.ref f)) (h_leaning : Has P w K mg base "leaning" ["one", "other"] 5 FL.sp_wleaning) (h_along : Has P w K mg base "along" ["wall"] 4 FL.sp_along) : Has P w K mg base "side_of" ["wall", "spot"] 6 FL.sp_wside_of :=
  ⟨f, fd, g, F.kp, F.bindsN fun _ _ _ _ _ _ us hl => match us, hl with | [_, _], _ => rfl, fn_side_of T F h_leaning h_along⟩
theorem fn_lies_on {f : Addr} {fd : FuncData} (T : Txt K mg) (F : FnP K "lies_on" s_lies_on f fd) (h_side_of : Has P w K mg base "side_of" ["wall", "spot"] 6 FL.sp_wside_of) (h_is_ahead : Has P w K mg base "is_ahead" ["one", "other"] 2 FL.sp_is_ahead) : FnOk P w K mg base (L2.CX P w) 7 f fd ["wall", "spot"] (upSp K FL.sp_wlies_on) :=
  fn_mk (N := ["wall", "spot", "first", "second"]) F sc_lies_on rfl l_lies_on (fun _ _ _ _ _ _ hr => d_lies_on T h_side_of h_is_ahead hr) r_lies_on
theorem h_lies_on {f : Addr} {fd : FuncData} (T : Txt K mg) (F : FnP K "lies_on" s_lies_on f fd) (g : mg "lies_on" = some (.ref f)) (h_side_of : Has P w K mg base "side_of" ["wall", "spot"] 6 FL.sp_wside_of) (h_is_ahead : Has P w K mg base "is_ahead" ["one", "other"] 2 FL.sp_is_ahead) : Has P w K mg base "lies_on" ["wall", "spot"] 7 FL.sp_wlies_on :=
  ⟨f, fd, g, F.kp, F.bindsN fun _ _ _ _ _ _ us hl => match us, hl with | [_, _], _ => rfl, fn_lies_on T F h_side_of h_is_ahead⟩
theorem fn_meeting_in_line {f : Addr} {fd : FuncData} (T : Txt K mg) (F : FnP K "meeting_in_line" s_meeting_in_line f fd) (h_is_ahead : Has P w K mg base "is_ahead" ["one", "other"] 2 FL.sp_is_ahead) (h_side_of : Has P w K mg base "side_of" ["wall", "spot"] 6 FL.sp_wside_of) : FnOk P w K mg base (L2.CX P w) 7 f fd ["one", "other"] (upSp K FL.sp_wmeeting_in_line) :=
  fn_mk (N := ["one", "other", "first", "second"]) F sc_meeting_in_line rfl l_meeting_in_line (fun _ _ _ _ _ _ hr => d_meeting_in_line T h_is_ahead h_side_of hr) r_meeting_in_line
theorem h_meeting_in_line {f : Addr} {fd : FuncData} (T : Txt K mg) (F : FnP K "meeting_in_line" s_meeting_in_line f fd) (g : mg "meeting_in_line" = some (.ref f)) (h_is_ahead : Has P w K mg base "is_ahead" ["one", "other"] 2 FL.sp_is_ahead) (h_side_of : Has P w K mg base "side_of" ["wall", "spot"] 6 FL.sp_wside_of) : Has P w K mg base "meeting_in_line" ["one", "other"] 7 FL.sp_wmeeting_in_line :=
  ⟨f, fd, g, F.kp, F.bindsN fun _ _ _ _ _ _ us hl => match us, hl with | [_, _], _ => rfl, fn_meeting_in_line T F h_is_ahead h_side_of⟩
theorem fn_meeting {f : Addr} {fd : FuncData} (T : Txt K mg) (F : FnP K "meeting" s_meeting f fd) (h_lies_on : Has P w K mg base "lies_on" ["wall", "spot"] 7 FL.sp_wlies_on) (h_spot_of_lines : Has P w K mg base "spot_of_lines" ["one", "other"] 5 FL.sp_wspot_of_lines) (h_leaning : Has P w K mg base "leaning" ["one", "other"] 5 FL.sp_wleaning) (h_along : Has P w K mg base "along" ["wall"] 4 FL.sp_along) (h_meeting_in_line : Has P w K mg base "meeting_in_line" ["one", "other"] 7 FL.sp_wmeeting_in_line) : FnOk P w K mg base (L2.CX P w) 8 f fd ["one", "other"] (upSp K FL.sp_wmeeting) :=
  fn_mk (N := ["one", "other", "spot"]) F sc_meeting rfl l_meeting (fun _ _ _ _ _ _ hr => d_meeting T h_lies_on h_spot_of_lines h_leaning h_along h_meeting_in_line hr) r_meeting
theorem h_meeting {f : Addr} {fd : FuncData} (T : Txt K mg) (F : FnP K "meeting" s_meeting f fd) (g : mg "meeting" = some (.ref f)) (h_lies_on : Has P w K mg base "lies_on" ["wall", "spot"] 7 FL.sp_wlies_on) (h_spot_of_lines : Has P w K mg base "spot_of_lines" ["one", "other"] 5 FL.sp_wspot_of_lines) (h_leaning : Has P w K mg base "leaning" ["one", "other"] 5 FL.sp_wleaning) (h_along : Has P w K mg base "along" ["wall"] 4 FL.sp_along) (h_meeting_in_line : Has P w K mg base "meeting_in_line" ["one", "other"] 7 FL.sp_wmeeting_in_line) : Has P w K mg base "meeting" ["one", "other"] 8 FL.sp_wmeeting :=
  ⟨f, fd, g, F.kp, F.bindsN fun _ _ _ _ _ _ us hl => match us, hl with | [_, _], _ => rfl, fn_meeting T F h_lies_on h_spot_of_lines h_leaning h_along h_meeting_in_line⟩
theorem fn_is_fair {f : Addr} {fd : FuncData} (T : Txt K mg) (F : FnP K "is_fair" s_is_fair f fd) (h_meeting : Has P w K mg base "meeting" ["one", "other"] 8 FL.sp_wmeeting) : FnOk P w K mg base (L2.CX P w) 9 f fd ["one", "other"] (upSp K FL.sp_wis_fair) :=
  fn_mk (N := ["one", "other", "found"]) F sc_is_fair rfl l_is_fair (fun _ _ _ _ _ _ hr => d_is_fair T h_meeting hr) r_is_fair
theorem h_is_fair {f : Addr} {fd : FuncData} (T : Txt K mg) (F : FnP K "is_fair" s_is_fair f fd) (g : mg "is_fair" = some (.ref f)) (h_meeting : Has P w K mg base "meeting" ["one", "other"] 8 FL.sp_wmeeting) : Has P w K mg base "is_fair" ["one", "other"] 9 FL.sp_wis_fair :=
  ⟨f, fd, g, F.kp, F.bindsN fun _ _ _ _ _ _ us hl => match us, hl with | [_, _], _ => rfl, fn_is_fair T F h_meeting⟩
theorem fn_unfair_with {f : Addr} {fd : FuncData} (T : Txt K mg) (F : FnP K "unfair_with" s_unfair_with f fd) (h_is_fair : Has P w K mg base "is_fair" ["one", "other"] 9 FL.sp_wis_fair) : FnOk P w K mg base (L2.CX P w) 10 f fd ["walls", "wall"] (upSp K FL.sp_wunfair_with) :=
  fn_mk (N := ["walls", "wall", "number", "other"]) F sc_unfair_with rfl l_unfair_with (fun _ _ _ _ _ _ hr => d_unfair_with T h_is_fair hr) r_unfair_with
theorem h_unfair_with {f : Addr} {fd : FuncData} (T : Txt K mg) (F : FnP K "unfair_with" s_unfair_with f fd) (g : mg "unfair_with" = some (.ref f)) (h_is_fair : Has P w K mg base "is_fair" ["one", "other"] 9 FL.sp_wis_fair) : Has P w K mg base "unfair_with" ["walls", "wall"] 10 FL.sp_wunfair_with :=
  ⟨f, fd, g, F.kp, F.bindsN fun _ _ _ _ _ _ us hl => match us, hl with | [_, _], _ => rfl, fn_unfair_with T F h_is_fair⟩
theorem fn_put_read {f : Addr} {fd : FuncData} (T : Txt K mg) (F : FnP K "put_read" s_put_read f fd) (h_unfair_with : Has P w K mg base "unfair_with" ["walls", "wall"] 10 FL.sp_wunfair_with) (hx_NoText : HasX P w K mg base "NoText" 1 ["row"]) : FnOk P w K mg base (L2.CX P w) 11 f fd ["walls", "wall", "row"] (upSp K sp_put_read) :=
  fn_mk (N := ["walls", "wall", "row"]) F sc_put_read rfl l_put_read (fun _ _ _ _ _ _ hr => d_put_read T h_unfair_with hx_NoText hr) r_put_read
theorem h_put_read {f : Addr} {fd : FuncData} (T : Txt K mg) (F : FnP K "put_read" s_put_read f fd) (g : mg "put_read" = some (.ref f)) (h_unfair_with : Has P w K mg base "unfair_with" ["walls", "wall"] 10 FL.sp_wunfair_with) (hx_NoText : HasX P w K mg base "NoText" 1 ["row"]) : Has P w K mg base "put_read" ["walls", "wall", "row"] 11 sp_put_read :=
  ⟨f, fd, g, F.kp, F.bindsN fun _ _ _ _ _ _ us hl => match us, hl with | [_, _, _], _ => rfl, fn_put_read T F h_unfair_with hx_NoText⟩
theorem fn_read_plot {f : Addr} {fd : FuncData} (T : Txt K mg) (F : FnP K "read_plot" s_read_plot f fd) (h_rows_in : Has P w K mg base "rows_in" ["text"] 1 FL.sp_rows_in) (h_put_read : Has P w K mg base "put_read" ["walls", "wall", "row"] 11 sp_put_read) (h_wall_in : Has P w K mg base "wall_in" ["words"] 4 FL.sp_wall_in) : FnOk P w K mg base (L2.CX P w) 12 f fd ["text"] (upSp K sp_read_plot) :=
  fn_mk (N := ["text", "walls", "row", "line"]) F sc_read_plot rfl l_read_plot (fun _ _ _ _ _ _ hr => d_read_plot T h_rows_in h_put_read h_wall_in hr) r_read_plot
theorem h_read_plot {f : Addr} {fd : FuncData} (T : Txt K mg) (F : FnP K "read_plot" s_read_plot f fd) (g : mg "read_plot" = some (.ref f)) (h_rows_in : Has P w K mg base "rows_in" ["text"] 1 FL.sp_rows_in) (h_put_read : Has P w K mg base "put_read" ["walls", "wall", "row"] 11 sp_put_read) (h_wall_in : Has P w K mg base "wall_in" ["words"] 4 FL.sp_wall_in) : Has P w K mg base "read_plot" ["text"] 12 sp_read_plot :=
  ⟨f, fd, g, F.kp, F.bindsN fun _ _ _ _ _ _ us hl => match us, hl with | [_], _ => rfl, fn_read_plot T F h_rows_in h_put_read h_wall_in⟩
theorem fn_read_questions {f : Addr} {fd : FuncData} (T : Txt K mg) (F : FnP K "read_questions" s_read_questions f fd) (h_rows_in : Has P w K mg base "rows_in" ["text"] 1 FL.sp_rows_in) (h_put_read : Has P w K mg base "put_read" ["walls", "wall", "row"] 11 sp_put_read) (h_wall_in : Has P w K mg base "wall_in" ["words"] 4 FL.sp_wall_in) (h_question_in : Has P w K mg base "question_in" ["words"] 4 FL.sp_question_in) (hx_NoText : HasX P w K mg base "NoText" 1 ["row"]) : FnOk P w K mg base (L2.CX P w) 12 f fd ["text"] (upSp K sp_read_questions) :=
  fn_mk (N := ["text", "walls", "spots", "row", "line", "words", "spot"]) F sc_read_questions rfl l_read_questions (fun _ _ _ _ _ _ hr => d_read_questions T h_rows_in h_put_read h_wall_in h_question_in hx_NoText hr) r_read_questions
theorem h_read_questions {f : Addr} {fd : FuncData} (T : Txt K mg) (F : FnP K "read_questions" s_read_questions f fd) (g : mg "read_questions" = some (.ref f)) (h_rows_in : Has P w K mg base "rows_in" ["text"] 1 FL.sp_rows_in) (h_put_read : Has P w K mg base "put_read" ["walls", "wall", "row"] 11 sp_put_read) (h_wall_in : Has P w K mg base "wall_in" ["words"] 4 FL.sp_wall_in) (h_question_in : Has P w K mg base "question_in" ["words"] 4 FL.sp_question_in) (hx_NoText : HasX P w K mg base "NoText" 1 ["row"]) : Has P w K mg base "read_questions" ["text"] 12 sp_read_questions :=
  ⟨f, fd, g, F.kp, F.bindsN fun _ _ _ _ _ _ us hl => match us, hl with | [_], _ => rfl, fn_read_questions T F h_rows_in h_put_read h_wall_in h_question_in hx_NoText⟩
theorem fn_law_heard {f : Addr} {fd : FuncData} (T : Txt K mg) (F : FnP K "_law_heard" s_law_heard f fd) (h_law_alone : Has P w K mg base "_law_alone" ["_law_heard_here", "_law_place"] 1 sp_law_alone) (h_read_questions : Has P w K mg base "read_questions" ["text"] 12 sp_read_questions) (h_read_plot : Has P w K mg base "read_plot" ["text"] 12 sp_read_plot) : FnOk P w K mg base (L2.CX P w) 13 f fd ["_law_asks", "_law_text"] (upSp K sp_law_heard) :=
  fn_mk (N := ["_law_asks", "_law_text", "_law_heard_here", "_law_found", "_law_e"]) F sc_law_heard rfl l_law_heard (fun _ _ _ _ _ _ hr => d_law_heard T h_law_alone h_read_questions h_read_plot hr) r_law_heard
theorem h_law_heard {f : Addr} {fd : FuncData} (T : Txt K mg) (F : FnP K "_law_heard" s_law_heard f fd) (g : mg "_law_heard" = some (.ref f)) (h_law_alone : Has P w K mg base "_law_alone" ["_law_heard_here", "_law_place"] 1 sp_law_alone) (h_read_questions : Has P w K mg base "read_questions" ["text"] 12 sp_read_questions) (h_read_plot : Has P w K mg base "read_plot" ["text"] 12 sp_read_plot) : Has P w K mg base "_law_heard" ["_law_asks", "_law_text"] 13 sp_law_heard :=
  ⟨f, fd, g, F.kp, F.bindsN fun _ _ _ _ _ _ us hl => match us, hl with | [_, _], _ => rfl, fn_law_heard T F h_law_alone h_read_questions h_read_plot⟩
theorem fn_law {f : Addr} {fd : FuncData} (T : Txt K mg) (F : FnP K "law" s_law f fd) (h_law_heard : Has P w K mg base "_law_heard" ["_law_asks", "_law_text"] 13 sp_law_heard) (h_law_due : Has P w K mg base "_law_due" ["_law_asks", "_law_lines"] 4 sp_law_due) (h_law_take : Has P w K mg base "_law_take" ["_law_row", "_law_base"] 1 FL.sp_take) (h_law_odd : Has P w K mg base "_law_odd" ["_law_row", "_law_lines"] 4 sp_law_odd) (h_law_shown : Has P w K mg base "_law_shown" ["_law_one"] 1 FL.sp_fshown) (h_law_number : Has P w K mg base "_law_number" ["_law_row"] 2 sp_law_number) (h_law_rows : Has P w K mg base "_law_rows" ["_law_plot"] 2 sp_law_rows) (h_law_made : Has P w K mg base "_law_made" ["_law_scale_here", "_law_shuts"] 3 FL.sp_made) (h_law_shuts_here : Has P w K mg base "_law_shuts_here" ["_law_row", "_law_most", "_law_size"] 4 FL.sp_shuts_here) (h_law_scale : Has P w K mg base "_law_scale" ["_law_row"] 2 sp_law_scale) (h_law_cell_at : Has P w K mg base "_law_cell_at" ["_law_script", "_law_k"] 1 FL.sp_cell_at) : FnOk P w K mg base (L2.CX P w) 14 f fd ["_law_script"] (upSp K spLaw) :=
  fn_mk (N := ["_law_script", "_law_k", "_law_row", "_law_scale_here", "_law_lines", "_law_many", "_law_at", "_law_asks", "_law_again", "_law_due_here"]) F sc_law rfl l_law (fun _ _ _ _ _ _ hr => d_law T h_law_heard h_law_due h_law_take h_law_odd h_law_shown h_law_number h_law_rows h_law_made h_law_shuts_here h_law_scale h_law_cell_at hr) r_law
theorem hx_NoText' {f : Addr} {fd : FuncData} (F : FnM K "__init__" "NoText.__init__" s_NoText_init f fd) (g : mg "NoText" = some (.ref (He.ga K "NoText"))) (fx : XinC K (He.ga K "NoText") f ["row"]) : HasX P w K mg base "NoText" 1 ["row"] :=
  ⟨f, fd, ["self", "row"], g, fx.o, fx.i, fx.t, F.bindsN fun _ _ _ _ _ _ us hl => match us, hl with | [_, _], _ => rfl, fn_xi1 (k := 0) F sc_NoText_init fx.o (fx.n _ (by decide)) (fun _ _ _ _ _ _ => dx_NoText)⟩
end
theorem facts {P : Program} {w : World} {K : PySem.W.Frag} {h : Heap} {mg : Str → Option Value} {f : Addr} (X : K.In h) (G : h.Ns mainGlobals mg) (hfa : mg ("law" : Str) = some (.ref f)) (c0 : SaysK fa fn [] K) (ct0 : ((tupsB [] K && (excsB ["SpotError", "NoFraction", "NoWall", "TooMany", "Crossing", "Absent", "NoText", "NoRow"] K && cfunsB [] K)) && xinB [("NoText", ["row"])] K) = true) :
    ∃ fd : FuncData, (∀ (s : Shared) (v : Value), BindsTo s fd ⟨[v], []⟩ [("_law_script", v)]) ∧ ∀ base : Heap, K.In base → base.Ns mainGlobals mg → FnOk P w K mg base (L2.CX P w) 14 f fd ["_law_script"] (upSp K spLaw) := by
  have c := c0.says
  obtain ⟨ct, cx⟩ := Bool.and_eq_true_iff.mp ct0
  obtain ⟨fd_divisor, F_divisor⟩ := c.def_ 0 (d := mkD "divisor" s_divisor) rfl
  have g_divisor := He.glo_ok X G (c.fact 0 (f := .glo "divisor") rfl)
  obtain ⟨fd_is_less, F_is_less⟩ := c.def_ 1 (d := mkD "is_less" s_is_less) rfl
  have g_is_less := He.glo_ok X G (c.fact 1 (f := .glo "is_less") rfl)
  obtain ⟨fd_is_whole, F_is_whole⟩ := c.def_ 2 (d := mkD "is_whole" s_is_whole) rfl
  have g_is_whole := He.glo_ok X G (c.fact 2 (f := .glo "is_whole") rfl)
  obtain ⟨fd_rows_in, F_rows_in⟩ := c.def_ 3 (d := mkD "rows_in" s_rows_in) rfl
  have g_rows_in := He.glo_ok X G (c.fact 3 (f := .glo "rows_in") rfl)
  obtain ⟨fd_law_cell_at, F_law_cell_at⟩ := c.def_ 4 (d := mkD "_law_cell_at" s_law_cell_at) rfl
  have g_law_cell_at := He.glo_ok X G (c.fact 4 (f := .glo "_law_cell_at") rfl)
  obtain ⟨fd_law_take, F_law_take⟩ := c.def_ 5 (d := mkD "_law_take" s_law_take) rfl
  have g_law_take := He.glo_ok X G (c.fact 5 (f := .glo "_law_take") rfl)
  obtain ⟨fd_law_low, F_law_low⟩ := c.def_ 6 (d := mkD "_law_low" s_law_low) rfl
  have g_law_low := He.glo_ok X G (c.fact 6 (f := .glo "_law_low") rfl)
  obtain ⟨fd_law_turn, F_law_turn⟩ := c.def_ 7 (d := mkD "_law_turn" s_law_turn) rfl
  have g_law_turn := He.glo_ok X G (c.fact 7 (f := .glo "_law_turn") rfl)
  obtain ⟨fd_law_shown, F_law_shown⟩ := c.def_ 8 (d := mkD "_law_shown" s_law_shown) rfl
  have g_law_shown := He.glo_ok X G (c.fact 8 (f := .glo "_law_shown") rfl)
  obtain ⟨fd_law_is_whole, F_law_is_whole⟩ := c.def_ 9 (d := mkD "_law_is_whole" s_law_is_whole) rfl
  have g_law_is_whole := He.glo_ok X G (c.fact 9 (f := .glo "_law_is_whole") rfl)
  obtain ⟨fd_law_cross, F_law_cross⟩ := c.def_ 10 (d := mkD "_law_cross" s_law_cross) rfl
  have g_law_cross := He.glo_ok X G (c.fact 10 (f := .glo "_law_cross") rfl)
  obtain ⟨fd_law_before, F_law_before⟩ := c.def_ 11 (d := mkD "_law_before" s_law_before) rfl
  have g_law_before := He.glo_ok X G (c.fact 11 (f := .glo "_law_before") rfl)
  obtain ⟨fd_law_alone, F_law_alone⟩ := c.def_ 12 (d := mkD "_law_alone" s_law_alone) rfl
  have g_law_alone := He.glo_ok X G (c.fact 12 (f := .glo "_law_alone") rfl)
  obtain ⟨fd_fraction, F_fraction⟩ := c.def_ 13 (d := mkD "fraction" s_fraction) rfl
  have g_fraction := He.glo_ok X G (c.fact 13 (f := .glo "fraction") rfl)
  obtain ⟨fd_is_ahead, F_is_ahead⟩ := c.def_ 14 (d := mkD "is_ahead" s_is_ahead) rfl
  have g_is_ahead := He.glo_ok X G (c.fact 14 (f := .glo "is_ahead") rfl)
  obtain ⟨fd_fraction_in, F_fraction_in⟩ := c.def_ 15 (d := mkD "fraction_in" s_fraction_in) rfl
  have g_fraction_in := He.glo_ok X G (c.fact 15 (f := .glo "fraction_in") rfl)
  obtain ⟨fd_law_number, F_law_number⟩ := c.def_ 16 (d := mkD "_law_number" s_law_number) rfl
  have g_law_number := He.glo_ok X G (c.fact 16 (f := .glo "_law_number") rfl)
  obtain ⟨fd_law_scale, F_law_scale⟩ := c.def_ 17 (d := mkD "_law_scale" s_law_scale) rfl
  have g_law_scale := He.glo_ok X G (c.fact 17 (f := .glo "_law_scale") rfl)
  obtain ⟨fd_law_spot, F_law_spot⟩ := c.def_ 18 (d := mkD "_law_spot" s_law_spot) rfl
  have g_law_spot := He.glo_ok X G (c.fact 18 (f := .glo "_law_spot") rfl)
  obtain ⟨fd_law_on, F_law_on⟩ := c.def_ 19 (d := mkD "_law_on" s_law_on) rfl
  have g_law_on := He.glo_ok X G (c.fact 19 (f := .glo "_law_on") rfl)
  obtain ⟨fd_law_rows, F_law_rows⟩ := c.def_ 20 (d := mkD "_law_rows" s_law_rows) rfl
  have g_law_rows := He.glo_ok X G (c.fact 20 (f := .glo "_law_rows") rfl)
  obtain ⟨fd_law_fraction, F_law_fraction⟩ := c.def_ 21 (d := mkD "_law_fraction" s_law_fraction) rfl
  have g_law_fraction := He.glo_ok X G (c.fact 21 (f := .glo "_law_fraction") rfl)
  obtain ⟨fd_law_bent, F_law_bent⟩ := c.def_ 22 (d := mkD "_law_bent" s_law_bent) rfl
  have g_law_bent := He.glo_ok X G (c.fact 22 (f := .glo "_law_bent") rfl)
  obtain ⟨fd_law_fits, F_law_fits⟩ := c.def_ 23 (d := mkD "_law_fits" s_law_fits) rfl
  have g_law_fits := He.glo_ok X G (c.fact 23 (f := .glo "_law_fits") rfl)
  obtain ⟨fd_law_beyond, F_law_beyond⟩ := c.def_ 24 (d := mkD "_law_beyond" s_law_beyond) rfl
  have g_law_beyond := He.glo_ok X G (c.fact 24 (f := .glo "_law_beyond") rfl)
  obtain ⟨fd_plus, F_plus⟩ := c.def_ 25 (d := mkD "plus" s_plus) rfl
  have g_plus := He.glo_ok X G (c.fact 25 (f := .glo "plus") rfl)
  obtain ⟨fd_less, F_less⟩ := c.def_ 26 (d := mkD "less" s_less) rfl
  have g_less := He.glo_ok X G (c.fact 26 (f := .glo "less") rfl)
  obtain ⟨fd_times, F_times⟩ := c.def_ 27 (d := mkD "times" s_times) rfl
  have g_times := He.glo_ok X G (c.fact 27 (f := .glo "times") rfl)
  obtain ⟨fd_over, F_over⟩ := c.def_ 28 (d := mkD "over" s_over) rfl
  have g_over := He.glo_ok X G (c.fact 28 (f := .glo "over") rfl)
  obtain ⟨fd_spot_in, F_spot_in⟩ := c.def_ 29 (d := mkD "spot_in" s_spot_in) rfl
  have g_spot_in := He.glo_ok X G (c.fact 29 (f := .glo "spot_in") rfl)
  obtain ⟨fd_law_made, F_law_made⟩ := c.def_ 30 (d := mkD "_law_made" s_law_made) rfl
  have g_law_made := He.glo_ok X G (c.fact 30 (f := .glo "_law_made") rfl)
  obtain ⟨fd_law_fair, F_law_fair⟩ := c.def_ 31 (d := mkD "_law_fair" s_law_fair) rfl
  have g_law_fair := He.glo_ok X G (c.fact 31 (f := .glo "_law_fair") rfl)
  obtain ⟨fd_law_shut_in, F_law_shut_in⟩ := c.def_ 32 (d := mkD "_law_shut_in" s_law_shut_in) rfl
  have g_law_shut_in := He.glo_ok X G (c.fact 32 (f := .glo "_law_shut_in") rfl)
  obtain ⟨fd_along, F_along⟩ := c.def_ 33 (d := mkD "along" s_along) rfl
  have g_along := He.glo_ok X G (c.fact 33 (f := .glo "along") rfl)
  obtain ⟨fd_crossed, F_crossed⟩ := c.def_ 34 (d := mkD "crossed" s_crossed) rfl
  have g_crossed := He.glo_ok X G (c.fact 34 (f := .glo "crossed") rfl)
  obtain ⟨fd_wall_in, F_wall_in⟩ := c.def_ 35 (d := mkD "wall_in" s_wall_in) rfl
  have g_wall_in := He.glo_ok X G (c.fact 35 (f := .glo "wall_in") rfl)
  obtain ⟨fd_question_in, F_question_in⟩ := c.def_ 36 (d := mkD "question_in" s_question_in) rfl
  have g_question_in := He.glo_ok X G (c.fact 36 (f := .glo "question_in") rfl)
  obtain ⟨fd_law_shuts_here, F_law_shuts_here⟩ := c.def_ 37 (d := mkD "_law_shuts_here" s_law_shuts_here) rfl
  have g_law_shuts_here := He.glo_ok X G (c.fact 37 (f := .glo "_law_shuts_here") rfl)
  obtain ⟨fd_law_odd, F_law_odd⟩ := c.def_ 38 (d := mkD "_law_odd" s_law_odd) rfl
  have g_law_odd := He.glo_ok X G (c.fact 38 (f := .glo "_law_odd") rfl)
  obtain ⟨fd_law_due, F_law_due⟩ := c.def_ 39 (d := mkD "_law_due" s_law_due) rfl
  have g_law_due := He.glo_ok X G (c.fact 39 (f := .glo "_law_due") rfl)
  obtain ⟨fd_leaning, F_leaning⟩ := c.def_ 40 (d := mkD "leaning" s_leaning) rfl
  have g_leaning := He.glo_ok X G (c.fact 40 (f := .glo "leaning") rfl)
  obtain ⟨fd_spot_of_lines, F_spot_of_lines⟩ := c.def_ 41 (d := mkD "spot_of_lines" s_spot_of_lines) rfl
  have g_spot_of_lines := He.glo_ok X G (c.fact 41 (f := .glo "spot_of_lines") rfl)
  obtain ⟨fd_side_of, F_side_of⟩ := c.def_ 42 (d := mkD "side_of" s_side_of) rfl
  have g_side_of := He.glo_ok X G (c.fact 42 (f := .glo "side_of") rfl)
  obtain ⟨fd_lies_on, F_lies_on⟩ := c.def_ 43 (d := mkD "lies_on" s_lies_on) rfl
  have g_lies_on := He.glo_ok X G (c.fact 43 (f := .glo "lies_on") rfl)
  obtain ⟨fd_meeting_in_line, F_meeting_in_line⟩ := c.def_ 44 (d := mkD "meeting_in_line" s_meeting_in_line) rfl
  have g_meeting_in_line := He.glo_ok X G (c.fact 44 (f := .glo "meeting_in_line") rfl)
  obtain ⟨fd_meeting, F_meeting⟩ := c.def_ 45 (d := mkD "meeting" s_meeting) rfl
  have g_meeting := He.glo_ok X G (c.fact 45 (f := .glo "meeting") rfl)
  obtain ⟨fd_is_fair, F_is_fair⟩ := c.def_ 46 (d := mkD "is_fair" s_is_fair) rfl
  have g_is_fair := He.glo_ok X G (c.fact 46 (f := .glo "is_fair") rfl)
  obtain ⟨fd_unfair_with, F_unfair_with⟩ := c.def_ 47 (d := mkD "unfair_with" s_unfair_with) rfl
  have g_unfair_with := He.glo_ok X G (c.fact 47 (f := .glo "unfair_with") rfl)
  obtain ⟨fd_put_read, F_put_read⟩ := c.def_ 48 (d := mkD "put_read" s_put_read) rfl
  have g_put_read := He.glo_ok X G (c.fact 48 (f := .glo "put_read") rfl)
  obtain ⟨fd_read_plot, F_read_plot⟩ := c.def_ 49 (d := mkD "read_plot" s_read_plot) rfl
  have g_read_plot := He.glo_ok X G (c.fact 49 (f := .glo "read_plot") rfl)
  obtain ⟨fd_read_questions, F_read_questions⟩ := c.def_ 50 (d := mkD "read_questions" s_read_questions) rfl
  have g_read_questions := He.glo_ok X G (c.fact 50 (f := .glo "read_questions") rfl)
  obtain ⟨fd_law_heard, F_law_heard⟩ := c.def_ 51 (d := mkD "_law_heard" s_law_heard) rfl
  have g_law_heard := He.glo_ok X G (c.fact 51 (f := .glo "_law_heard") rfl)
  obtain ⟨fd_law, F_law⟩ := c.def_ 52 (d := mkD "law" s_law) rfl
  have g_law := He.glo_ok X G (c.fact 52 (f := .glo "law") rfl)
  have T : Txt K mg := { f_ValueError := He.free_ok X G (c.fact 53 (f := .free "ValueError") rfl), f_abs := He.free_ok X G (c.fact 54 (f := .free "abs") rfl), f_all := He.free_ok X G (c.fact 55 (f := .free "all") rfl), f_enumerate := He.free_ok X G (c.fact 56 (f := .free "enumerate") rfl), f_int := He.free_ok X G (c.fact 57 (f := .free "int") rfl), f_isinstance := He.free_ok X G (c.fact 58 (f := .free "isinstance") rfl), f_len := He.free_ok X G (c.fact 59 (f := .free "len") rfl), f_list := He.free_ok X G (c.fact 60 (f := .free "list") rfl), f_max := He.free_ok X G (c.fact 61 (f := .free "max") rfl), f_min := He.free_ok X G (c.fact 62 (f := .free "min") rfl), f_range := He.free_ok X G (c.fact 63 (f := .free "range") rfl), f_str := He.free_ok X G (c.fact 64 (f := .free "str") rfl), f_tuple := He.free_ok X G (c.fact 65 (f := .free "tuple") rfl), c_FIGURES := He.str_ok X G (c.fact 66 (f := .str "FIGURES" "0123456789") rfl), c_MOST_FIGURES := He.int_ok X G (c.fact 67 (f := .int "MOST_FIGURES" 30) rfl), c_MOST_WALLS := He.int_ok X G (c.fact 68 (f := .int "MOST_WALLS" 40) rfl), g_TooMany := He.glo_ok X G (c.fact 69 (f := .glo "TooMany") rfl), g_NoWall := He.glo_ok X G (c.fact 70 (f := .glo "NoWall") rfl), g_NoText := He.glo_ok X G (c.fact 71 (f := .glo "NoText") rfl), g_NoRow := He.glo_ok X G (c.fact 72 (f := .glo "NoRow") rfl), g_NoFraction := He.glo_ok X G (c.fact 73 (f := .glo "NoFraction") rfl), g_Crossing := He.glo_ok X G (c.fact 74 (f := .glo "Crossing") rfl), g_Absent := He.glo_ok X G (c.fact 75 (f := .glo "Absent") rfl), g_SpotError := He.glo_ok X G (c.fact 76 (f := .glo "SpotError") rfl), xf_row := List.forall_mem_cons.mpr ⟨⟨(xinB_ok cx ("NoText", ["row"]) (by decide)).x, (xinB_ok cx ("NoText", ["row"]) (by decide)).n _ (by decide)⟩, (List.forall_mem_nil _)⟩, xs := excsB_ok (Bool.and_eq_true_iff.mp (Bool.and_eq_true_iff.mp ct).2).1 }
  have e := hfa.symm.trans g_law
  cases e
  have b := FunD.bindsA (ps := ["_law_script"]) F_law fun _ _ _ _ _ _ us hl => match us, hl with | [_], _ => rfl
  refine ⟨fd_law, fun s v => b s [v] rfl, fun base _ _ => ?_⟩
  obtain ⟨fx_NoText, Fx_NoText⟩ := c.def_ 53 (d := mkM "NoText" "__init__" "NoText.__init__" s_NoText_init) rfl
  have Hx_NoText := hx_NoText' (P := P) (w := w) (base := base) Fx_NoText T.g_NoText (xinB_ok cx ("NoText", ["row"]) (by decide))
  have H_divisor := h_divisor (P := P) (w := w) (base := base) T F_divisor g_divisor 
  have H_is_less := h_is_less (P := P) (w := w) (base := base) T F_is_less g_is_less 
  have H_is_whole := h_is_whole (P := P) (w := w) (base := base) T F_is_whole g_is_whole 
  have H_rows_in := h_rows_in (P := P) (w := w) (base := base) T F_rows_in g_rows_in 
  have H_law_cell_at := h_law_cell_at (P := P) (w := w) (base := base) T F_law_cell_at g_law_cell_at 
  have H_law_take := h_law_take (P := P) (w := w) (base := base) T F_law_take g_law_take 
  have H_law_low := h_law_low (P := P) (w := w) (base := base) T F_law_low g_law_low 
  have H_law_turn := h_law_turn (P := P) (w := w) (base := base) T F_law_turn g_law_turn 
  have H_law_shown := h_law_shown (P := P) (w := w) (base := base) T F_law_shown g_law_shown 
  have H_law_is_whole := h_law_is_whole (P := P) (w := w) (base := base) T F_law_is_whole g_law_is_whole 
  have H_law_cross := h_law_cross (P := P) (w := w) (base := base) T F_law_cross g_law_cross 
  have H_law_before := h_law_before (P := P) (w := w) (base := base) T F_law_before g_law_before 
  have H_law_alone := h_law_alone (P := P) (w := w) (base := base) T F_law_alone g_law_alone 
  have H_fraction := h_fraction (P := P) (w := w) (base := base) T F_fraction g_fraction H_divisor
  have H_is_ahead := h_is_ahead (P := P) (w := w) (base := base) T F_is_ahead g_is_ahead H_is_less
  have H_fraction_in := h_fraction_in (P := P) (w := w) (base := base) T F_fraction_in g_fraction_in H_divisor H_is_whole
  have H_law_number := h_law_number (P := P) (w := w) (base := base) T F_law_number g_law_number H_law_low H_law_take
  have H_law_scale := h_law_scale (P := P) (w := w) (base := base) T F_law_scale g_law_scale H_law_take
  have H_law_spot := h_law_spot (P := P) (w := w) (base := base) T F_law_spot g_law_spot H_law_low
  have H_law_on := h_law_on (P := P) (w := w) (base := base) T F_law_on g_law_on H_law_turn
  have H_law_rows := h_law_rows (P := P) (w := w) (base := base) T F_law_rows g_law_rows H_law_shown
  have H_law_fraction := h_law_fraction (P := P) (w := w) (base := base) T F_law_fraction g_law_fraction H_law_low H_law_is_whole
  have H_law_bent := h_law_bent (P := P) (w := w) (base := base) T F_law_bent g_law_bent H_law_take
  have H_law_fits := h_law_fits (P := P) (w := w) (base := base) T F_law_fits g_law_fits H_law_cross H_law_before
  have H_law_beyond := h_law_beyond (P := P) (w := w) (base := base) T F_law_beyond g_law_beyond H_law_low
  have H_plus := h_plus (P := P) (w := w) (base := base) T F_plus g_plus H_fraction
  have H_less := h_less (P := P) (w := w) (base := base) T F_less g_less H_fraction
  have H_times := h_times (P := P) (w := w) (base := base) T F_times g_times H_fraction
  have H_over := h_over (P := P) (w := w) (base := base) T F_over g_over H_fraction
  have H_spot_in := h_spot_in (P := P) (w := w) (base := base) T F_spot_in g_spot_in H_fraction_in
  have H_law_made := h_law_made (P := P) (w := w) (base := base) T F_law_made g_law_made H_law_spot
  have H_law_fair := h_law_fair (P := P) (w := w) (base := base) T F_law_fair g_law_fair H_law_turn H_law_on
  have H_law_shut_in := h_law_shut_in (P := P) (w := w) (base := base) T F_law_shut_in g_law_shut_in H_law_fraction
  have H_along := h_along (P := P) (w := w) (base := base) T F_along g_along H_less
  have H_crossed := h_crossed (P := P) (w := w) (base := base) T F_crossed g_crossed H_less H_times
  have H_wall_in := h_wall_in (P := P) (w := w) (base := base) T F_wall_in g_wall_in H_is_ahead H_spot_in
  have H_question_in := h_question_in (P := P) (w := w) (base := base) T F_question_in g_question_in H_spot_in
  have H_law_shuts_here := h_law_shuts_here (P := P) (w := w) (base := base) T F_law_shuts_here g_law_shuts_here H_law_take H_law_fair
  have H_law_odd := h_law_odd (P := P) (w := w) (base := base) T F_law_odd g_law_odd H_law_rows H_law_take H_law_beyond H_law_bent H_law_shut_in
  have H_law_due := h_law_due (P := P) (w := w) (base := base) T F_law_due g_law_due H_law_fits H_law_fraction H_law_shut_in
  have H_leaning := h_leaning (P := P) (w := w) (base := base) T F_leaning g_leaning H_crossed
  have H_spot_of_lines := h_spot_of_lines (P := P) (w := w) (base := base) T F_spot_of_lines g_spot_of_lines H_plus H_times H_over H_crossed H_along
  have H_side_of := h_side_of (P := P) (w := w) (base := base) T F_side_of g_side_of H_leaning H_along
  have H_lies_on := h_lies_on (P := P) (w := w) (base := base) T F_lies_on g_lies_on H_side_of H_is_ahead
  have H_meeting_in_line := h_meeting_in_line (P := P) (w := w) (base := base) T F_meeting_in_line g_meeting_in_line H_is_ahead H_side_of
  have H_meeting := h_meeting (P := P) (w := w) (base := base) T F_meeting g_meeting H_lies_on H_spot_of_lines H_leaning H_along H_meeting_in_line
  have H_is_fair := h_is_fair (P := P) (w := w) (base := base) T F_is_fair g_is_fair H_meeting
  have H_unfair_with := h_unfair_with (P := P) (w := w) (base := base) T F_unfair_with g_unfair_with H_is_fair
  have H_put_read := h_put_read (P := P) (w := w) (base := base) T F_put_read g_put_read H_unfair_with Hx_NoText
  have H_read_plot := h_read_plot (P := P) (w := w) (base := base) T F_read_plot g_read_plot H_rows_in H_put_read H_wall_in
  have H_read_questions := h_read_questions (P := P) (w := w) (base := base) T F_read_questions g_read_questions H_rows_in H_put_read H_wall_in H_question_in Hx_NoText
  have H_law_heard := h_law_heard (P := P) (w := w) (base := base) T F_law_heard g_law_heard H_law_alone H_read_questions H_read_plot
  exact fn_law T F_law H_law_heard H_law_due H_law_take H_law_odd H_law_shown H_law_number H_law_rows H_law_made H_law_shuts_here H_law_scale H_law_cell_at
end Lk75
open PySem PySem.W PySem.Calls PyProof.Rows
theorem PySem.Challenge.cw_spotlook_k75_wrong_rows_together_holds : PySem.Challenge.rw_spotlook_k75_wrong_rows_together.Holds := by
  w_on; o_law
  refine HandSHeadRun.head_any (r := Lk75.R) (q := view Lk75.R.prog [69]) (H := Lk75.hk) (ob := Lk75.ob) (M := 7400) (loose := Lk75.names) (d := HandSHeadRun.topDef Lk75.R.prog 69) (kwd := []) Lk75.ob_eq
    (by kernel_rfl) (fun s => by kernel_rfl) Lk75.run (by kernel_rfl) (by kernel_rfl) (by kernel_rfl) (by rfl) (by first | assumption | decide +kernel) (by decide +kernel) ⟨rfl, rfl, rfl, rfl, rfl, by decide +kernel⟩ ?hw ?hc
  case hw => w_witness2
  case hc =>
    refine ML.law_end (k := 14) (x := "_law_script") rfl (by kernel_rfl) ⟨rfl, by decide, by decide⟩ ?_
    intro w mg fa h Y G hmg0
    obtain ⟨K, KX, c, ct, lm, nd⟩ := Y
    have hmg : mg ("law" : PySem.Str) = some (.ref fa) := by
      have e : (HandSHeadRun.topDef Lk75.R.prog 69).name = ("law" : PySem.Str) := by kernel_rfl
      rw [← e]
      exact hmg0
    obtain ⟨fd, hb, hF⟩ := Lk75.facts (P := PySem.Challenge.rw_spotlook_k75_wrong_rows_together.prog) (w := w) KX G hmg c ct
    exact ⟨K, fd, KX, hb, hF⟩
