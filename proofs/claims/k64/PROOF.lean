import PyProof.Rows.All
import Wide.All
import OpenK.AllK
import Wide.FinOn
import KE.KStateDown
import HandS.ForMost
import HandS.ForExc
import HandS.Wide
import HandS.IsInst
import HandS.Deep
import HandS.Conv
import HandS.Flow
import HandS.Defaults
import HandS.Rev
import HandS.Small
import HandS.Head0
import HandS.Head1
import HandS.Head2
import HandS.HeadEnd
import HandS.HeadHook1
import HandS.HeadHook2
import KE.KDictKeyed
import KE.KeyNested
import HandS.Lambda
import HandS.Style
import HandS.TupLe
import HandS.TupSets
import PyProof.ReprRoads
import HandS.Exc
import HandS.ExcOwn
import HandS.ExcIs
import HandS.ExcValue
import HandS.SetFor
import KE.KExcStr
import PyProof.Draws
import PyProof.EnumMake
import HandS.SortInts
import HandS.SetKeys
import KE.DatumOrd
import PyProof.ReprLen
import HandS.ExcInit
import HandS.ExcField
import KE.SortData
import HandS.Sort
import HandS.TupAny
import HandS.Strs
import KE.SortKeyHeap
import HandS.SortKw
import HandS.WordsDict
import HandS.Text
import HandS.FStr
import PySem.Challenge.RW_spotlook_k64_questions_and_answers_writt
set_option Elab.async false
set_option linter.all false
set_option maxRecDepth 100000
set_option hygiene false in
local macro_rules | `(tactic| simp $c:optConfig $[$d:discharger]? only [gz0] $[$l:location]?) => `(tactic| simp $c $[$d]? only [ML.q_mSeq, ML.q_mSet, ML.q_mC, ML.q_mVar, ML.q_mOp, ML.q_mUn, ML.q_mTst, ML.q_mTru, ML.q_mIfS, ML.q_mIf, ML.q_mAnd, ML.q_mOr, ML.q_mNot, ML.q_mAndV, ML.q_mOrV, ML.q_mNotV, ML.q_mRet, ML.q_mRetN, ML.q_mExpr, ML.q_mNext, ML.q_mBreak, ML.q_mCont, ML.q_mAsg, ML.q_mPar, ML.q_gNm, ML.q_gLs, ML.q_gCn, ML.q_gNl, ML.q_gSb, ML.q_mTup, ML.q_mLst, ML.q_mLstF, ML.q_mCons, ML.q_mNil, ML.q_mCall, ML.q_mBlt, ML.q_bLen, ML.q_bAbs, ML.q_bMax2, ML.q_bMin2, ML.q_bInt, ML.q_bTuple, ML.q_bList, ML.q_bListF, ML.q_bAll, ML.q_lenD, ML.q_truD, ML.q_lstOf, ML.q_ownOf, ML.q_rInt, ML.q_rInt0, ML.q_rSub, ML.q_rMul, ML.q_rDiv, ML.q_rMod, ML.q_rPow, ML.q_rAdd, ML.q_rLt, ML.q_rLe, ML.q_rGt, ML.q_rGe, ML.q_rNeg, ML.q_rIxM, ML.q_ixL, ML.q_rIsN, ML.q_rNotN, ML.q_isN, ML.q_rEqM, ML.q_rNeM, ML.q_rInM, ML.q_mIsi, ML.q_tyD, ML.q_mCut, ML.q_oNo, ML.q_oSo, ML.q_mMt, ML.q_mMt0, ML.q_mtAppend, ML.q_mtInsert, ML.q_mtPop, ML.q_mtPop0, ML.q_mtReverse, ML.q_mtClear, ML.q_mtExtend, ML.q_mtIndex, ML.q_rSetM, ML.q_setAt, ML.q_mends, ML.q_mstart, ML.q_mFor, ML.q_iL, ML.q_iT, ML.q_iR1, ML.q_iR2, ML.q_iEn, ML.q_iZp, ML.q_mChain, ML.q_mYes, ML.q_mCompF, ML.q_mComp, ML.q_wipeM, ML.q_rIsBM, ML.q_xAt, ML.put_same, ML.noX, ML.deq_int, ML.deq_bl, ML.deq_str, ML.deq_non, ML.eqOk_int, ML.eqOk_bl, ML.isTy_NoneType_int, ML.isTy_NoneType_bool, ML.isTy_NoneType_tuple, ML.isTy_NoneType_list, ML.isTy_NoneType_str, ML.isTy_bool_int, ML.isTy_bool_bool, ML.isTy_bool_tuple, ML.isTy_bool_list, ML.isTy_bool_str, ML.isTy_int_int, ML.isTy_int_bool, ML.isTy_int_tuple, ML.isTy_int_list, ML.isTy_int_str, ML.isTy_str_int, ML.isTy_str_bool, ML.isTy_str_tuple, ML.isTy_str_list, ML.isTy_str_str, ML.isTy_tuple_int, ML.isTy_tuple_bool, ML.isTy_tuple_tuple, ML.isTy_tuple_list, ML.isTy_tuple_str, ML.isTy_list_int, ML.isTy_list_bool, ML.isTy_list_tuple, ML.isTy_list_list, ML.isTy_list_str, ML.isTy_dict_int, ML.isTy_dict_bool, ML.isTy_dict_tuple, ML.isTy_dict_list, ML.isTy_dict_str, List.length_map, List.map_cons, List.map_nil, List.replicate, List.set_cons_zero, List.set_cons_succ, List.getElem?_cons_zero, List.getElem?_cons_succ, List.cons_append, List.nil_append, List.length_cons, List.length_nil, Option.bind_some, Option.map_some, ↓reduceIte, Nat.reduceAdd, Nat.reduceSub, Nat.reduceLT, Nat.reduceLeDiff, Nat.zero_add, decide_eq_true_eq, Bool.not_eq_true, ne_eq, reduceCtorEq, not_false_eq_true, true_and, and_true, Bool.false_eq_true, Bool.not_true, Bool.not_false, decide_true, decide_false, not_true_eq_false, eq_self, Bool.not_eq_eq_eq_not, if_true, if_false, FL.tup_fr, FL.tup_sp, FL.tup_wl, ML.tupOf_tup, FL.tupOf_fr, FL.tupOf_sp, FL.tupOf_wl, FL.gTp_at, FL.nz0, FL.nz1, FL.nz2, FL.nz3, FL.seqOf_tup, FL.seqOf_lst, FL.seqOf_scr, FL.seqOf_ref, FL.look_non, FL.look_int, FL.look_bl, FL.look_str, FL.look_tup, FL.look_lst, FL.look_scr, FL.seqOf_fr, FL.seqOf_sp, FL.seqOf_wl, FL.look_fr, FL.look_sp, FL.look_wl, FL.eqOk_fr, FL.eqOk_sp, FL.eqOk_wl, FL.deq_fr, FL.deq_sp, FL.deq_wl, Int.reduceToNat, Int.reducePow, Int.reduceAdd, Int.reduceSub, Int.reduceMul, Int.reduceNeg, ML.l_aLt_int, ML.l_aGt_int, ML.l_aLe_int, ML.l_aGe_int, ML.l_bMaxA_int, ML.l_bMinA_int] $[$l]?)
set_option hygiene false in
local macro_rules | `(tactic| simp $c:optConfig $[$d:discharger]? only [gz0, $ls,*] $[$l:location]?) => `(tactic| simp $c $[$d]? only [ML.q_mSeq, ML.q_mSet, ML.q_mC, ML.q_mVar, ML.q_mOp, ML.q_mUn, ML.q_mTst, ML.q_mTru, ML.q_mIfS, ML.q_mIf, ML.q_mAnd, ML.q_mOr, ML.q_mNot, ML.q_mAndV, ML.q_mOrV, ML.q_mNotV, ML.q_mRet, ML.q_mRetN, ML.q_mExpr, ML.q_mNext, ML.q_mBreak, ML.q_mCont, ML.q_mAsg, ML.q_mPar, ML.q_gNm, ML.q_gLs, ML.q_gCn, ML.q_gNl, ML.q_gSb, ML.q_mTup, ML.q_mLst, ML.q_mLstF, ML.q_mCons, ML.q_mNil, ML.q_mCall, ML.q_mBlt, ML.q_bLen, ML.q_bAbs, ML.q_bMax2, ML.q_bMin2, ML.q_bInt, ML.q_bTuple, ML.q_bList, ML.q_bListF, ML.q_bAll, ML.q_lenD, ML.q_truD, ML.q_lstOf, ML.q_ownOf, ML.q_rInt, ML.q_rInt0, ML.q_rSub, ML.q_rMul, ML.q_rDiv, ML.q_rMod, ML.q_rPow, ML.q_rAdd, ML.q_rLt, ML.q_rLe, ML.q_rGt, ML.q_rGe, ML.q_rNeg, ML.q_rIxM, ML.q_ixL, ML.q_rIsN, ML.q_rNotN, ML.q_isN, ML.q_rEqM, ML.q_rNeM, ML.q_rInM, ML.q_mIsi, ML.q_tyD, ML.q_mCut, ML.q_oNo, ML.q_oSo, ML.q_mMt, ML.q_mMt0, ML.q_mtAppend, ML.q_mtInsert, ML.q_mtPop, ML.q_mtPop0, ML.q_mtReverse, ML.q_mtClear, ML.q_mtExtend, ML.q_mtIndex, ML.q_rSetM, ML.q_setAt, ML.q_mends, ML.q_mstart, ML.q_mFor, ML.q_iL, ML.q_iT, ML.q_iR1, ML.q_iR2, ML.q_iEn, ML.q_iZp, ML.q_mChain, ML.q_mYes, ML.q_mCompF, ML.q_mComp, ML.q_wipeM, ML.q_rIsBM, ML.q_xAt, ML.put_same, ML.noX, ML.deq_int, ML.deq_bl, ML.deq_str, ML.deq_non, ML.eqOk_int, ML.eqOk_bl, ML.isTy_NoneType_int, ML.isTy_NoneType_bool, ML.isTy_NoneType_tuple, ML.isTy_NoneType_list, ML.isTy_NoneType_str, ML.isTy_bool_int, ML.isTy_bool_bool, ML.isTy_bool_tuple, ML.isTy_bool_list, ML.isTy_bool_str, ML.isTy_int_int, ML.isTy_int_bool, ML.isTy_int_tuple, ML.isTy_int_list, ML.isTy_int_str, ML.isTy_str_int, ML.isTy_str_bool, ML.isTy_str_tuple, ML.isTy_str_list, ML.isTy_str_str, ML.isTy_tuple_int, ML.isTy_tuple_bool, ML.isTy_tuple_tuple, ML.isTy_tuple_list, ML.isTy_tuple_str, ML.isTy_list_int, ML.isTy_list_bool, ML.isTy_list_tuple, ML.isTy_list_list, ML.isTy_list_str, ML.isTy_dict_int, ML.isTy_dict_bool, ML.isTy_dict_tuple, ML.isTy_dict_list, ML.isTy_dict_str, List.length_map, List.map_cons, List.map_nil, List.replicate, List.set_cons_zero, List.set_cons_succ, List.getElem?_cons_zero, List.getElem?_cons_succ, List.cons_append, List.nil_append, List.length_cons, List.length_nil, Option.bind_some, Option.map_some, ↓reduceIte, Nat.reduceAdd, Nat.reduceSub, Nat.reduceLT, Nat.reduceLeDiff, Nat.zero_add, decide_eq_true_eq, Bool.not_eq_true, ne_eq, reduceCtorEq, not_false_eq_true, true_and, and_true, Bool.false_eq_true, Bool.not_true, Bool.not_false, decide_true, decide_false, not_true_eq_false, eq_self, Bool.not_eq_eq_eq_not, if_true, if_false, FL.tup_fr, FL.tup_sp, FL.tup_wl, ML.tupOf_tup, FL.tupOf_fr, FL.tupOf_sp, FL.tupOf_wl, FL.gTp_at, FL.nz0, FL.nz1, FL.nz2, FL.nz3, FL.seqOf_tup, FL.seqOf_lst, FL.seqOf_scr, FL.seqOf_ref, FL.look_non, FL.look_int, FL.look_bl, FL.look_str, FL.look_tup, FL.look_lst, FL.look_scr, FL.seqOf_fr, FL.seqOf_sp, FL.seqOf_wl, FL.look_fr, FL.look_sp, FL.look_wl, FL.eqOk_fr, FL.eqOk_sp, FL.eqOk_wl, FL.deq_fr, FL.deq_sp, FL.deq_wl, Int.reduceToNat, Int.reducePow, Int.reduceAdd, Int.reduceSub, Int.reduceMul, Int.reduceNeg, ML.l_aLt_int, ML.l_aGt_int, ML.l_aLe_int, ML.l_aGe_int, ML.l_bMaxA_int, ML.l_bMinA_int, $ls,*] $[$l]?)
set_option hygiene false in
local macro_rules | `(tactic| simp $c:optConfig $[$d:discharger]? only [gy1] $[$l:location]?) => `(tactic| simp $c $[$d]? only [↓ML.q_mSeq, ↓ML.q_mC, ↓ML.q_mOp, ↓ML.q_mUn, ↓ML.q_mTst, ↓ML.q_mNot, ↓ML.q_mNotV, ↓ML.q_mRet, ↓ML.q_mRetN, ↓ML.q_mExpr, ↓ML.q_mNext, ↓ML.q_mBreak, ↓ML.q_mCont, ↓ML.q_mAsg, ↓ML.q_gSb, ↓ML.q_mTup, ↓ML.q_mLst, ↓ML.q_mLstF, ↓ML.q_mCons, ↓ML.q_mNil, ↓ML.q_mBlt, ↓ML.q_rEqM, ↓ML.q_rNeM, ↓ML.q_iR1, ↓ML.q_iR2, ↓ML.q_iEn, ↓ML.q_iZp, ↓ML.q_mMt, ↓ML.q_mMt0, ↓ML.q_mYes, ↓ML.q_mCut, ↓ML.q_oNo, ↓ML.q_oSo, ↓ML.l_mCall, ↓ML.l_mAnd, ↓ML.l_mOr, ↓ML.l_mAndV, ↓ML.l_mOrV, ↓ML.l_mIf, ↓ML.l_mIfS, ↓ML.l_mChain, ↓ML.l_mVar, ↓ML.l_mFor, ↓ML.l_mWhile, ↓ML.l_mComp, ↓ML.l_mCompF, ↓ML.l_optP, ↓ML.l_Go, ↓ML.Hold_v, ↓ML.l_mSet, ↓ML.l_gNm, ↓ML.l_mPar, ↓ML.l_rIxM, ↓ML.l_rSetM, ↓ML.l_rInt, ↓ML.l_rInt0, ↓ML.l_rAdd_int, ↓ML.l_rAdd_str, ↓ML.l_rAdd_tup, ↓ML.l_rNeg, ↓ML.l_rIsN, ↓ML.l_rNotN, ↓ML.l_rIsBM, ↓ML.l_mTru, ↓ML.l_bLen, ↓ML.l_bAbs, ↓ML.l_bMax2, ↓ML.l_bMin2, ↓ML.l_bInt_i, ↓ML.l_bInt_b, ↓ML.l_bTuple, ↓ML.l_bListF, ↓ML.l_bList, ↓ML.l_mIsi, ↓ML.l_iL, ↓ML.l_iT, ↓ML.l_gTp, ↓ML.l_gLs, ↓ML.l_gCn, ↓ML.l_gNl, ↓ML.l_mtAppend, ML.Hold_v, ML.l_mVar_z, ML.l_mVar_s, ML.OptP_some, ML.Go_eq, ML.IteP_true, ML.IteP_false, ML.lstOf_ref', ML.lstOf_lst, ML.lstOf_scr, ML.lstOf_tup, ML.ownOf_ref', ML.ownOf_lst, ML.seqOf_tup', ML.seqOf_lst', ML.seqOf_scr', ML.seqOf_ref', ML.olP_lst, ML.tupOf_tup, ML.ixL_lit, ML.ixL_cast, ML.ixL_m1, ML.setAt_lit, ML.setAt_cast, ML.truD_bl, ML.truD_int, ML.truD_tup, ML.truD_lst, ML.truD_scr, ML.truD_non, ML.lenD_tup, ML.lenD_lst, ML.lenD_scr, ML.lenD_ref, ML.tyD_non, ML.tyD_bl, ML.tyD_int, ML.tyD_str, ML.tyD_tup, ML.tyD_lst, ML.szl, ML.szlt, ML.cpow_lit, ML.mulok_rl, ML.mulok_ll, ML.divok_l, ML.put_same, ML.put_put, ML.q_wipeM, ML.deq_int, ML.deq_bl, ML.deq_str, ML.deq_non, ML.eqOk_int, ML.eqOk_bl, ML.isTy_NoneType_int, ML.isTy_NoneType_bool, ML.isTy_NoneType_tuple, ML.isTy_NoneType_list, ML.isTy_NoneType_str, ML.isTy_bool_int, ML.isTy_bool_bool, ML.isTy_bool_tuple, ML.isTy_bool_list, ML.isTy_bool_str, ML.isTy_int_int, ML.isTy_int_bool, ML.isTy_int_tuple, ML.isTy_int_list, ML.isTy_int_str, ML.isTy_str_int, ML.isTy_str_bool, ML.isTy_str_tuple, ML.isTy_str_list, ML.isTy_str_str, ML.isTy_tuple_int, ML.isTy_tuple_bool, ML.isTy_tuple_tuple, ML.isTy_tuple_list, ML.isTy_tuple_str, ML.isTy_list_int, ML.isTy_list_bool, ML.isTy_list_tuple, ML.isTy_list_list, ML.isTy_list_str, ML.isTy_dict_int, ML.isTy_dict_bool, ML.isTy_dict_tuple, ML.isTy_dict_list, ML.isTy_dict_str, FL.tup_fr, FL.tup_sp, FL.tup_wl, FL.tupOf_fr, FL.tupOf_sp, FL.tupOf_wl, FL.nz0, FL.nz1, FL.nz2, FL.nz3, FL.look_non, FL.look_int, FL.look_bl, FL.look_str, FL.look_tup, FL.look_lst, FL.look_scr, FL.seqOf_fr, FL.seqOf_sp, FL.seqOf_wl, FL.look_fr, FL.look_sp, FL.look_wl, FL.eqOk_fr, FL.eqOk_sp, FL.eqOk_wl, FL.deq_fr, FL.deq_sp, FL.deq_wl, FL.tyD_fr, FL.tyD_sp, FL.tyD_wl, FL.isN_fr, FL.isN_sp, FL.isN_wl, FL.lenD_sp, FL.lenD_wl, FL.rAdd_wl_tup, List.length_map, List.map_cons, List.map_nil, List.replicate, List.set_cons_zero, List.set_cons_succ, List.getElem?_cons_zero, List.getElem?_cons_succ, List.cons_append, List.nil_append, List.length_cons, List.length_nil, Option.bind_some, Option.map_some, ↓reduceIte, Nat.reduceAdd, Nat.reduceSub, Nat.reduceLT, Nat.reduceLeDiff, Nat.zero_add, decide_eq_true_eq, Bool.not_eq_true, ne_eq, reduceCtorEq, not_false_eq_true, true_and, and_true, Bool.false_eq_true, Bool.not_true, Bool.not_false, decide_true, decide_false, not_true_eq_false, eq_self, Bool.not_eq_eq_eq_not, if_true, if_false, decide_eq_false_iff_not, ML.ncast, Int.reduceToNat, Int.reducePow, Int.reduceAdd, Int.reduceSub, Int.reduceMul, Int.reduceNeg, Int.reduceLT, Int.reduceLE, Int.reduceEq, Nat.reduceEqDiff, Int.zero_add, gt_iff_lt, beq_self_eq_true, Bool.true_beq, Bool.false_beq, Bool.and_true, Bool.and_false, Bool.true_and, Bool.false_and, ↓ML.l_mtInsert, ↓ML.l_mtReverse, ↓ML.l_mtClear, ↓ML.l_bSortU, ↓ML.q_mMt0, ↓ML.l_bMaxL, ↓ML.l_bMinL, ↓ML.l_aLt_int, ↓ML.l_aLt_u, ↓ML.l_aGt_int, ↓ML.l_aGt_u, ↓ML.l_aLe_int, ↓ML.l_aLe_u, ↓ML.l_aGe_int, ↓ML.l_aGe_u, ↓ML.l_bMaxA_int, ↓ML.l_bMaxA_u, ↓ML.l_bMinA_int, ↓ML.l_bMinA_u, ML.tup_u, ML.tupOf_u, ML.seqOf_u, ML.sqI_u, ML.look_u, ML.isN_u, ML.lenD_u, ML.tyD_u, ML.tup_uw, ML.tupOf_uw, ML.seqOf_uw, ML.sqI_uw, ML.look_uw, ML.isN_uw, ML.lenD_uw, ML.tyD_uw, ML.eqOk_u, ML.eqOk_uw, ML.deq_u, ML.deq_uw, ML.in_uw, ↓ML.l_mRaise, ↓ML.l_mTry, ↓ML.l_mIsE, ↓ML.l_mIsV, ↓ML.l_mtCount, ↓ML.l_rAddS_rl, ↓ML.l_rAddS_ll, ML.excD_ref, ML.excOf_exc, ML.blsOf_nil, ML.blsOf_cons, ML.endM_nx, ML.endM_rt, ↓ML.l_mYes, ↓ML.l_iS, ↓ML.l_mIfJ, ↓ML.l_mJ, ↓ML.CrollP_nil, ↓ML.CrollP_cons, ↓ML.CrA_at, ↓ML.FrollP_nil, ↓ML.FrollP_cons, ML.isN_non, ML.isN_int, ML.isN_bl, ML.isN_str, ML.isN_tup, ML.isN_lst, ML.isN_ref, ML.sqI_tup, ML.sqI_lst, ML.sqI_scr, ML.sqI_ref, ML.sqI_at, ML.rngD_0, ML.rngD_1, ML.rngD_2, ML.rngD_3, ML.rngD_4, ML.rngD_6, ML.q_wipeM_nil, ML.q_wipeM_cons, FL.sqI_sp, FL.sqI_wl] $[$l]?)
set_option hygiene false in
local macro_rules | `(tactic| simp $c:optConfig $[$d:discharger]? only [gy1, $ls,*] $[$l:location]?) => `(tactic| simp $c $[$d]? only [↓ML.q_mSeq, ↓ML.q_mC, ↓ML.q_mOp, ↓ML.q_mUn, ↓ML.q_mTst, ↓ML.q_mNot, ↓ML.q_mNotV, ↓ML.q_mRet, ↓ML.q_mRetN, ↓ML.q_mExpr, ↓ML.q_mNext, ↓ML.q_mBreak, ↓ML.q_mCont, ↓ML.q_mAsg, ↓ML.q_gSb, ↓ML.q_mTup, ↓ML.q_mLst, ↓ML.q_mLstF, ↓ML.q_mCons, ↓ML.q_mNil, ↓ML.q_mBlt, ↓ML.q_rEqM, ↓ML.q_rNeM, ↓ML.q_iR1, ↓ML.q_iR2, ↓ML.q_iEn, ↓ML.q_iZp, ↓ML.q_mMt, ↓ML.q_mMt0, ↓ML.q_mYes, ↓ML.q_mCut, ↓ML.q_oNo, ↓ML.q_oSo, ↓ML.l_mCall, ↓ML.l_mAnd, ↓ML.l_mOr, ↓ML.l_mAndV, ↓ML.l_mOrV, ↓ML.l_mIf, ↓ML.l_mIfS, ↓ML.l_mChain, ↓ML.l_mVar, ↓ML.l_mFor, ↓ML.l_mWhile, ↓ML.l_mComp, ↓ML.l_mCompF, ↓ML.l_optP, ↓ML.l_Go, ↓ML.Hold_v, ↓ML.l_mSet, ↓ML.l_gNm, ↓ML.l_mPar, ↓ML.l_rIxM, ↓ML.l_rSetM, ↓ML.l_rInt, ↓ML.l_rInt0, ↓ML.l_rAdd_int, ↓ML.l_rAdd_str, ↓ML.l_rAdd_tup, ↓ML.l_rNeg, ↓ML.l_rIsN, ↓ML.l_rNotN, ↓ML.l_rIsBM, ↓ML.l_mTru, ↓ML.l_bLen, ↓ML.l_bAbs, ↓ML.l_bMax2, ↓ML.l_bMin2, ↓ML.l_bInt_i, ↓ML.l_bInt_b, ↓ML.l_bTuple, ↓ML.l_bListF, ↓ML.l_bList, ↓ML.l_mIsi, ↓ML.l_iL, ↓ML.l_iT, ↓ML.l_gTp, ↓ML.l_gLs, ↓ML.l_gCn, ↓ML.l_gNl, ↓ML.l_mtAppend, ML.Hold_v, ML.l_mVar_z, ML.l_mVar_s, ML.OptP_some, ML.Go_eq, ML.IteP_true, ML.IteP_false, ML.lstOf_ref', ML.lstOf_lst, ML.lstOf_scr, ML.lstOf_tup, ML.ownOf_ref', ML.ownOf_lst, ML.seqOf_tup', ML.seqOf_lst', ML.seqOf_scr', ML.seqOf_ref', ML.olP_lst, ML.tupOf_tup, ML.ixL_lit, ML.ixL_cast, ML.ixL_m1, ML.setAt_lit, ML.setAt_cast, ML.truD_bl, ML.truD_int, ML.truD_tup, ML.truD_lst, ML.truD_scr, ML.truD_non, ML.lenD_tup, ML.lenD_lst, ML.lenD_scr, ML.lenD_ref, ML.tyD_non, ML.tyD_bl, ML.tyD_int, ML.tyD_str, ML.tyD_tup, ML.tyD_lst, ML.szl, ML.szlt, ML.cpow_lit, ML.mulok_rl, ML.mulok_ll, ML.divok_l, ML.put_same, ML.put_put, ML.q_wipeM, ML.deq_int, ML.deq_bl, ML.deq_str, ML.deq_non, ML.eqOk_int, ML.eqOk_bl, ML.isTy_NoneType_int, ML.isTy_NoneType_bool, ML.isTy_NoneType_tuple, ML.isTy_NoneType_list, ML.isTy_NoneType_str, ML.isTy_bool_int, ML.isTy_bool_bool, ML.isTy_bool_tuple, ML.isTy_bool_list, ML.isTy_bool_str, ML.isTy_int_int, ML.isTy_int_bool, ML.isTy_int_tuple, ML.isTy_int_list, ML.isTy_int_str, ML.isTy_str_int, ML.isTy_str_bool, ML.isTy_str_tuple, ML.isTy_str_list, ML.isTy_str_str, ML.isTy_tuple_int, ML.isTy_tuple_bool, ML.isTy_tuple_tuple, ML.isTy_tuple_list, ML.isTy_tuple_str, ML.isTy_list_int, ML.isTy_list_bool, ML.isTy_list_tuple, ML.isTy_list_list, ML.isTy_list_str, ML.isTy_dict_int, ML.isTy_dict_bool, ML.isTy_dict_tuple, ML.isTy_dict_list, ML.isTy_dict_str, FL.tup_fr, FL.tup_sp, FL.tup_wl, FL.tupOf_fr, FL.tupOf_sp, FL.tupOf_wl, FL.nz0, FL.nz1, FL.nz2, FL.nz3, FL.look_non, FL.look_int, FL.look_bl, FL.look_str, FL.look_tup, FL.look_lst, FL.look_scr, FL.seqOf_fr, FL.seqOf_sp, FL.seqOf_wl, FL.look_fr, FL.look_sp, FL.look_wl, FL.eqOk_fr, FL.eqOk_sp, FL.eqOk_wl, FL.deq_fr, FL.deq_sp, FL.deq_wl, FL.tyD_fr, FL.tyD_sp, FL.tyD_wl, FL.isN_fr, FL.isN_sp, FL.isN_wl, FL.lenD_sp, FL.lenD_wl, FL.rAdd_wl_tup, List.length_map, List.map_cons, List.map_nil, List.replicate, List.set_cons_zero, List.set_cons_succ, List.getElem?_cons_zero, List.getElem?_cons_succ, List.cons_append, List.nil_append, List.length_cons, List.length_nil, Option.bind_some, Option.map_some, ↓reduceIte, Nat.reduceAdd, Nat.reduceSub, Nat.reduceLT, Nat.reduceLeDiff, Nat.zero_add, decide_eq_true_eq, Bool.not_eq_true, ne_eq, reduceCtorEq, not_false_eq_true, true_and, and_true, Bool.false_eq_true, Bool.not_true, Bool.not_false, decide_true, decide_false, not_true_eq_false, eq_self, Bool.not_eq_eq_eq_not, if_true, if_false, decide_eq_false_iff_not, ML.ncast, Int.reduceToNat, Int.reducePow, Int.reduceAdd, Int.reduceSub, Int.reduceMul, Int.reduceNeg, Int.reduceLT, Int.reduceLE, Int.reduceEq, Nat.reduceEqDiff, Int.zero_add, gt_iff_lt, beq_self_eq_true, Bool.true_beq, Bool.false_beq, Bool.and_true, Bool.and_false, Bool.true_and, Bool.false_and, ↓ML.l_mtInsert, ↓ML.l_mtReverse, ↓ML.l_mtClear, ↓ML.l_bSortU, ↓ML.q_mMt0, ↓ML.l_bMaxL, ↓ML.l_bMinL, ↓ML.l_aLt_int, ↓ML.l_aLt_u, ↓ML.l_aGt_int, ↓ML.l_aGt_u, ↓ML.l_aLe_int, ↓ML.l_aLe_u, ↓ML.l_aGe_int, ↓ML.l_aGe_u, ↓ML.l_bMaxA_int, ↓ML.l_bMaxA_u, ↓ML.l_bMinA_int, ↓ML.l_bMinA_u, ML.tup_u, ML.tupOf_u, ML.seqOf_u, ML.sqI_u, ML.look_u, ML.isN_u, ML.lenD_u, ML.tyD_u, ML.tup_uw, ML.tupOf_uw, ML.seqOf_uw, ML.sqI_uw, ML.look_uw, ML.isN_uw, ML.lenD_uw, ML.tyD_uw, ML.eqOk_u, ML.eqOk_uw, ML.deq_u, ML.deq_uw, ML.in_uw, ↓ML.l_mRaise, ↓ML.l_mTry, ↓ML.l_mIsE, ↓ML.l_mIsV, ↓ML.l_mtCount, ↓ML.l_rAddS_rl, ↓ML.l_rAddS_ll, ML.excD_ref, ML.excOf_exc, ML.blsOf_nil, ML.blsOf_cons, ML.endM_nx, ML.endM_rt, ↓ML.l_mYes, ↓ML.l_iS, ↓ML.l_mIfJ, ↓ML.l_mJ, ↓ML.CrollP_nil, ↓ML.CrollP_cons, ↓ML.CrA_at, ↓ML.FrollP_nil, ↓ML.FrollP_cons, ML.isN_non, ML.isN_int, ML.isN_bl, ML.isN_str, ML.isN_tup, ML.isN_lst, ML.isN_ref, ML.sqI_tup, ML.sqI_lst, ML.sqI_scr, ML.sqI_ref, ML.sqI_at, ML.rngD_0, ML.rngD_1, ML.rngD_2, ML.rngD_3, ML.rngD_4, ML.rngD_6, ML.q_wipeM_nil, ML.q_wipeM_cons, FL.sqI_sp, FL.sqI_wl, $ls,*] $[$l]?)
set_option hygiene false in
local macro_rules | `(tactic| simp $c:optConfig $[$d:discharger]? only [gz1] $[$l:location]?) => `(tactic| simp $c $[$d]? only [gy1] $[$l]?)
set_option hygiene false in
local macro_rules | `(tactic| simp $c:optConfig $[$d:discharger]? only [gz1, $ls,*] $[$l:location]?) => `(tactic| simp $c $[$d]? only [gy1, $ls,*] $[$l]?)
set_option hygiene false in
local macro_rules | `(tactic| simp $c:optConfig $[$d:discharger]? only [gz2] $[$l:location]?) => `(tactic| simp $c $[$d]? only [gy1, ↓FL.c_plus, ↓FL.c_less, ↓FL.c_law_less, ↓FL.c_times, ↓FL.c_over, ↓FL.c_is_less, ↓FL.c_is_ahead, ↓FL.c_along, ↓FL.c_crossed, ↓FL.c_leaning, ↓FL.c_side_of, ↓FL.c_lies_on, ↓FL.c_spans] $[$l]?)
set_option hygiene false in
local macro_rules | `(tactic| simp $c:optConfig $[$d:discharger]? only [gz2, $ls,*] $[$l:location]?) => `(tactic| simp $c $[$d]? only [gy1, ↓FL.c_plus, ↓FL.c_less, ↓FL.c_law_less, ↓FL.c_times, ↓FL.c_over, ↓FL.c_is_less, ↓FL.c_is_ahead, ↓FL.c_along, ↓FL.c_crossed, ↓FL.c_leaning, ↓FL.c_side_of, ↓FL.c_lies_on, ↓FL.c_spans, $ls,*] $[$l]?)
set_option hygiene false in
local macro_rules | `(tactic| simp $c:optConfig $[$d:discharger]? only [gz3] $[$l:location]?) => `(tactic| simp $c $[$d]? only [gy1, FL.l_rAdd_rl, FL.l_rAdd_ll, FL.l_rAdd_lr, FL.l_rAdd_rr, FL.in_ints] $[$l]?)
set_option hygiene false in
local macro_rules | `(tactic| simp $c:optConfig $[$d:discharger]? only [gz3, $ls,*] $[$l:location]?) => `(tactic| simp $c $[$d]? only [gy1, FL.l_rAdd_rl, FL.l_rAdd_ll, FL.l_rAdd_lr, FL.l_rAdd_rr, FL.in_ints, $ls,*] $[$l]?)
set_option hygiene false in
local macro_rules | `(tactic| simp $c:optConfig $[$d:discharger]? only [gz4] $[$l:location]?) => `(tactic| simp $c $[$d]? only [gy1, FL.l_rAdd_rl, FL.l_rAdd_ll, FL.l_rAdd_lr, FL.l_rAdd_rr, FL.in_ints, FL.in_lu, ↓ML.l_bMinU, ↓ML.l_bMaxU, ↓ML.l_bReprO, ↓ML.l_rEqS, ↓ML.l_bSortI, ↓ML.l_rNeX, ↓ML.l_bStrI, ↓ML.l_bIntS, ↓ML.l_mTx1, ↓ML.l_rmSplit, ↓ML.l_rmPart, ↓ML.l_rmJoin, ↓ML.l_mFmt, ↓ML.l_mJoined, ↓ML.l_mJns_nil, ↓ML.l_mJns_cons, ↓ML.l_mCutS, ↓ML.l_rIxT, ↓ML.l_rInS, ↓ML.l_iStrM, ↓ML.l_rNeS] $[$l]?)
set_option hygiene false in
local macro_rules | `(tactic| simp $c:optConfig $[$d:discharger]? only [gz4, $ls,*] $[$l:location]?) => `(tactic| simp $c $[$d]? only [gy1, FL.l_rAdd_rl, FL.l_rAdd_ll, FL.l_rAdd_lr, FL.l_rAdd_rr, FL.in_ints, FL.in_lu, ↓ML.l_bMinU, ↓ML.l_bMaxU, ↓ML.l_bReprO, ↓ML.l_rEqS, ↓ML.l_bSortI, ↓ML.l_rNeX, ↓ML.l_bStrI, ↓ML.l_bIntS, ↓ML.l_mTx1, ↓ML.l_rmSplit, ↓ML.l_rmPart, ↓ML.l_rmJoin, ↓ML.l_mFmt, ↓ML.l_mJoined, ↓ML.l_mJns_nil, ↓ML.l_mJns_cons, ↓ML.l_mCutS, ↓ML.l_rIxT, ↓ML.l_rInS, ↓ML.l_iStrM, ↓ML.l_rNeS, $ls,*] $[$l]?)
/-! A layer of trees over the hand layer: tuples and lists that nobody changes any more are plain data (D), the lists that may change stand in a store (Sto). -/
namespace ML
open PySem PySem.Spec L2
open PyProof.Rows hiding St
/-- data: a value with all tuples (and all lists that stay as they are) opened -/
inductive D where
  | non | bl (b : Bool) | int (i : Int) | str (x : Str) | tup (ds : List D) | lst (ds : List D) | scr (ds : List D) | ref (a : Addr)
/-- what may change -/
inductive MO where
  | lst (ds : List D)
  | dK (kvs : List (Key × D))
  | ins (C : Str) (fs : List (Str × D))
  | exc (C : Str) (fs : Option (List (Str × D)))
  | dT (kvs : List (List Key × D))
  | dS (kvs : List (((Int × Int) × (Int × Int)) × D))
  | tbl (at_ : Str × Option Str) (q : Str)
  | dF (o : Obj) (vs : List (Key × V)) (kvs : List (Key × D))
abbrev Sto := Addr → Option MO
def put (S : Sto) (a : Addr) (o : MO) : Sto := fun b => if b = a then some o else S b
theorem put_same {S : Sto} {a : Addr} {o : MO} : put S a o a = some o := if_pos rfl
theorem put_ne {S : Sto} {a b : Addr} {o : MO} (h : b ≠ a) : put S a o b = S b := if_neg h
theorem put_put {S : Sto} {a : Addr} {o u : MO} : put (put S a o) a u = put S a u := by
  funext b; unfold put; split <;> rfl
theorem sne {S : Sto} {a b : Addr} {o : MO} (h : S a = some o) (h' : S b = none) : a ≠ b := by
  intro e; subst e; rw [h] at h'; cases h'
theorem put_comm {S : Sto} {a b : Addr} {o u : MO} (h : a ≠ b) : put (put S a o) b u = put (put S b u) a o := by
  funext c; unfold put
  by_cases h1 : c = b
  · subst h1; rw [if_pos rfl, if_neg (Ne.symm h), if_pos rfl]
  · rw [if_neg h1, if_neg h1]
mutual
inductive RD (K : PySem.W.Frag) (H : Hp) (S : Sto) : V → D → Prop
  | non : RD K H S .non .non
  | bl (b : Bool) : RD K H S (.bl b) (.bl b)
  | int (i : Int) : RD K H S (.int i) (.int i)
  | str (x : Str) : RD K H S (.str x) (.str x)
  | ref (a : Addr) : RD K H S (.ref a) (.ref a)
  | tup {a : Addr} {vs : List V} {ds : List D} : Rd H a (.tup vs) → S a = none → RDs K H S vs ds → RD K H S (.ref a) (.tup ds)
  | lst {a : Addr} {vs : List V} {ds : List D} : H a = some (.lst vs) → S a = none → RDs K H S vs ds → RD K H S (.ref a) (.lst ds)
  | scr {a : Addr} {o : Obj} {vs : List V} {ds : List D} : H a = some (.frz o (.lst vs)) → S a = none → RDs K H S vs ds → RD K H S (.ref a) (.scr ds)
  | ktup {a : Addr} {o : Obj} {its : Array Value} {n : Nat} {vs : List V} {ds : List D} : K.lookup a = some o → o.cls = .type "tuple" → o.data = .seq its n → its.size ≤ sizeLine → Vals vs its.toList → RDs K H S vs ds → RD K H S (.ref a) (.tup ds)
  | klst {a : Addr} {o : Obj} {its : Array Value} {n : Nat} {vs : List V} {ds : List D} : K.lookup a = some o → o.cls = .type "list" → o.dict = none → o.data = .seq its n → its.size ≤ sizeLine → Vals vs its.toList → RDs K H S vs ds → RD K H S (.ref a) (.scr ds)
inductive RDs (K : PySem.W.Frag) (H : Hp) (S : Sto) : List V → List D → Prop
  | nil : RDs K H S [] []
  | cons {v : V} {d : D} {vs : List V} {ds : List D} : RD K H S v d → RDs K H S vs ds → RDs K H S (v :: vs) (d :: ds)
end
/-- all that does not change stays -/
def Ext (H : Hp) (S : Sto) (H' : Hp) (S' : Sto) : Prop := ∀ a o, H a = some o → S a = none → H' a = some o ∧ S' a = none
theorem Ext.refl {H : Hp} {S : Sto} : Ext H S H S := fun _ _ h n => ⟨h, n⟩
theorem Ext.trans {H H1 H2 : Hp} {S S1 S2 : Sto} (a : Ext H S H1 S1) (b : Ext H1 S1 H2 S2) : Ext H S H2 S2 := fun c o h n =>
  let ⟨h1, n1⟩ := a c o h n
  b c o h1 n1
section
variable {K : PySem.W.Frag} {H H' : Hp} {S S' : Sto}
theorem Ext.rd (e : Ext H S H' S') {a : Addr} {u : HO} (h : Rd H a u) (n : S a = none) : Rd H' a u ∧ S' a = none := by
  rcases h with h | ⟨o, h⟩
  · exact ⟨.inl (e _ _ h n).1, (e _ _ h n).2⟩
  · exact ⟨.inr ⟨o, (e _ _ h n).1⟩, (e _ _ h n).2⟩
mutual
theorem RD.ext (e : Ext H S H' S') : ∀ {v : V} {d : D}, RD K H S v d → RD K H' S' v d
  | _, _, .non => .non
  | _, _, .bl b => .bl b
  | _, _, .int i => .int i
  | _, _, .str x => .str x
  | _, _, .ref a => .ref a
  | _, _, .tup h n r => .tup (e.rd h n).1 (e.rd h n).2 (RDs.ext e r)
  | _, _, .lst h n r => .lst (e _ _ h n).1 (e _ _ h n).2 (RDs.ext e r)
  | _, _, .scr h n r => .scr (e _ _ h n).1 (e _ _ h n).2 (RDs.ext e r)
  | _, _, .ktup a b c d f r => .ktup a b c d f (RDs.ext e r)
  | _, _, .klst a b b' c d f r => .klst a b b' c d f (RDs.ext e r)
theorem RDs.ext (e : Ext H S H' S') : ∀ {vs : List V} {ds : List D}, RDs K H S vs ds → RDs K H' S' vs ds
  | _, _, .nil => .nil
  | _, _, .cons h r => .cons (RD.ext e h) (RDs.ext e r)
end
theorem RDs.length : ∀ {vs : List V} {ds : List D}, RDs K H S vs ds → vs.length = ds.length
  | _, _, .nil => rfl
  | _, _, .cons _ r => congrArg (· + 1) (RDs.length r)
theorem RDs.get : ∀ {vs : List V} {ds : List D} {i : Nat} {d : D}, RDs K H S vs ds → ds[i]? = some d → ∃ v, vs[i]? = some v ∧ RD K H S v d
  | _, _, _, _, .nil, e => by simp at e
  | _, _, 0, _, .cons r _, e => by simp at e; subst e; exact ⟨_, rfl, r⟩
  | _, _, i + 1, d, .cons _ r, e => by
    obtain ⟨v, h1, h2⟩ := RDs.get (i := i) (d := d) r (by simpa using e)
    exact ⟨v, by simpa using h1, h2⟩
theorem RDs.append : ∀ {vs ws : List V} {ds es : List D}, RDs K H S vs ds → RDs K H S ws es → RDs K H S (vs ++ ws) (ds ++ es)
  | _, _, _, _, .nil, s => s
  | _, _, _, _, .cons h r, s => .cons h (RDs.append r s)
theorem RDs.take : ∀ {vs : List V} {ds : List D} (n : Nat), RDs K H S vs ds → RDs K H S (vs.take n) (ds.take n)
  | _, _, 0, _ => by simp only [List.take_zero]; exact .nil
  | _, _, _ + 1, .nil => by simp only [List.take_nil]; exact .nil
  | _, _, n + 1, .cons h r => by simp only [List.take_succ_cons]; exact .cons h (RDs.take n r)
theorem RDs.drop : ∀ {vs : List V} {ds : List D} (n : Nat), RDs K H S vs ds → RDs K H S (vs.drop n) (ds.drop n)
  | _, _, 0, r => by simpa only [List.drop_zero] using r
  | _, _, _ + 1, .nil => by simp only [List.drop_nil]; exact .nil
  | _, _, n + 1, .cons _ r => by simp only [List.drop_succ_cons]; exact RDs.drop n r
theorem RDs.set {v : V} {d : D} (h : RD K H S v d) : ∀ {vs : List V} {ds : List D} (i : Nat), RDs K H S vs ds → RDs K H S (vs.set i v) (ds.set i d)
  | _, _, _, .nil => .nil
  | _, _, 0, .cons _ r => .cons h r
  | _, _, i + 1, .cons q r => .cons q (RDs.set h i r)
theorem RDs.reverse : ∀ {vs : List V} {ds : List D}, RDs K H S vs ds → RDs K H S vs.reverse ds.reverse
  | _, _, .nil => .nil
  | _, _, .cons h r => by simp only [List.reverse_cons]; exact RDs.append (RDs.reverse r) (.cons h .nil)
theorem RDs.dropLast : ∀ {vs : List V} {ds : List D}, RDs K H S vs ds → RDs K H S vs.dropLast ds.dropLast
  | _, _, .nil => .nil
  | _, _, .cons _ .nil => .nil
  | _, _, .cons h (.cons h2 r) => by simp only [List.dropLast_cons₂]; exact .cons h (RDs.dropLast (.cons h2 r))
theorem RDs.of_ints : ∀ {ns : List Int}, RDs K H S (ns.map V.int) (ns.map .int)
  | [] => .nil
  | n :: _ => .cons (.int n) RDs.of_ints
theorem RDs.bls : ∀ {vs : List V} {ns : List Bool}, RDs K H S vs (ns.map .bl) → vs = ns.map V.bl
  | _, [], .nil => rfl
  | _, _ :: _, .cons h r => by cases h; rw [RDs.bls r]; rfl
end
/-- pairs of a dict, attributes of an instance -/
inductive RKs {κ : Type} (K : PySem.W.Frag) (H : Hp) (S : Sto) : List (κ × V) → List (κ × D) → Prop
  | nil : RKs K H S [] []
  | cons {k : κ} {v : V} {d : D} {vs : List (κ × V)} {ds : List (κ × D)} : RD K H S v d → RKs K H S vs ds → RKs K H S ((k, v) :: vs) ((k, d) :: ds)
theorem RKs.ext {κ : Type} {K : PySem.W.Frag} {H H' : Hp} {S S' : Sto} (e : Ext H S H' S') : ∀ {vs : List (κ × V)} {ds : List (κ × D)}, RKs K H S vs ds → RKs K H' S' vs ds
  | _, _, .nil => .nil
  | _, _, .cons h r => .cons (h.ext e) (RKs.ext e r)
theorem RKs.length {κ : Type} {K : PySem.W.Frag} {H : Hp} {S : Sto} : ∀ {vs : List (κ × V)} {ds : List (κ × D)}, RKs K H S vs ds → vs.length = ds.length
  | _, _, .nil => rfl
  | _, _, .cons _ r => congrArg (· + 1) (RKs.length r)
/-! ### exceptions -/
/-- an own exception: its class, its fields (none: it has no dict) -/
structure MX where
  C : Str
  fs : Option (List (Str × D))
def RX (K : PySem.W.Frag) (H : Hp) (S : Sto) (x : MX) (cls : Value) (d : Option Addr) : Prop :=
  cls = .ref (He.ga K x.C) ∧ match x.fs with
    | none => d = none
    | some fs => ∃ dd vs, d = some dd ∧ H dd = some (.xd vs) ∧ S dd = none ∧ RKs K H S vs fs
theorem RX.ext {K : PySem.W.Frag} {H H' : Hp} {S S' : Sto} {x : MX} {cls : Value} {d : Option Addr} (e : Ext H S H' S') (r : RX K H S x cls d) : RX K H' S' x cls d := by
  obtain ⟨C, fs⟩ := x
  cases fs with
  | none => exact r
  | some fs =>
    obtain ⟨h1, dd, vs, h2, h3, h4, h5⟩ := r
    exact ⟨h1, dd, vs, h2, (e _ _ h3 h4).1, (e _ _ h3 h4).2, h5.ext e⟩
/-- an exception object, kept: its class, its dict -/
def ExS (cls : Value) (d : Option Addr) (a : Addr) : HO := .ext fun h => ∃ (oe : Obj) (vs : Array Value), h.get? a = some oe ∧ Zc cls d oe ∧ oe.data = .fields vs
/-! ### dicts whose keys are spots: pairs of pairs of whole numbers -/
abbrev K4 := (Int × Int) × (Int × Int)
def nkey (k : K4) : NestedKey := .tup [.tup [.num k.1.1, .num k.1.2], .tup [.num k.2.1, .num k.2.2]]
def hash4 (k : K4) : Int := reduceHash (Builtin.Tuple.tupleHashOf [reduceHash (Builtin.Tuple.tupleHashOf [hashInt k.1.1, hashInt k.1.2]), reduceHash (Builtin.Tuple.tupleHashOf [hashInt k.2.1, hashInt k.2.2])])
def entry4 (x : K4 × Addr × Value) : DictEntry := ⟨hash4 x.1, .ref x.2.1, x.2.2⟩
def DicS (xs : List (K4 × Addr × Value)) (a : Addr) : HO := .ext fun h => ∃ o es ep, h.get? a = some o ∧ o.ExactDict ∧ o.data = .dict es ep ∧ es.toList = xs.map entry4 ∧ (xs.map (·.1)).Nodup
def k4D (k : K4) : D := .tup [.tup [.int k.1.1, .int k.1.2], .tup [.int k.2.1, .int k.2.2]]
/-- what stands in such a dict -/
def R4 (K : PySem.W.Frag) (H : Hp) (S : Sto) : List (K4 × D) → List (K4 × Addr × Value) → Prop :=
  Paired fun p q => p.1 = q.1 ∧ RD K H S (.ref q.2.1) (k4D p.1) ∧ ∃ v, RelV v q.2.2 ∧ RD K H S v p.2
theorem R4.ext {K : PySem.W.Frag} {H H' : Hp} {S S' : Sto} (e : Ext H S H' S') {kvs : List (K4 × D)} {xs : List (K4 × Addr × Value)} (r : R4 K H S kvs xs) : R4 K H' S' kvs xs :=
  Paired.mapP r fun _ _ ⟨h1, h2, v, h3, h4⟩ => ⟨h1, h2.ext e, v, h3, h4.ext e⟩
/-! ### tables of code objects: of the def that stands at a place of the module -/
def codeA (K : PySem.W.Frag) (p : Str × Option Str) : Addr := match K.lookup (He.fAd K p) with
  | some ⟨_, _, .func fd, _⟩ => (match fd.code with
    | .ref c => c
    | _ => 0)
  | _ => 0
def tabA (K : PySem.W.Frag) (p : Str × Option Str) : Addr := match K.lookup (codeA K p) with
  | some ⟨_, _, .fields vs, _⟩ => (match vs.getD 11 .none with
    | .ref P => P
    | _ => 0)
  | _ => 0
/-- the table at P: each code object that it tells bears the name q, and is so -/
def TabG (H : Hp) (P : Addr) (q : Str) (G : Addr → Prop) : Prop := ∃ ps : Array Value, H P = some (.tbl ps) ∧ TriplesOk ps.toList ∧ ∀ (pos : Pos) (cv : Value), codeAmong pos ps.toList = some cv → ∃ c, cv = .ref c ∧ H c = some (LamX.CodeO c q) ∧ G c
def RO (K : PySem.W.Frag) (H : Hp) (S : Sto) (a : Addr) : MO → Prop
  | .tbl p q => a = tabA K p ∧ TabG H a q fun c => S c = none
  | .lst ds => ∃ vs, H a = some (.lst vs) ∧ RDs K H S vs ds
  | .dK kvs => ∃ vs, H a = some (.dK vs) ∧ RKs K H S vs kvs
  | .dF o vs kvs => H a = some (.frz o (.dK vs)) ∧ RKs K H S vs kvs
  | .ins C fs => ∃ dx vs, H a = some (.ins (He.ga K C) dx vs) ∧ RKs K H S vs fs
  | .dT kvs => ∃ vs, H a = some (.dT vs) ∧ RKs K H S vs kvs
  | .dS kvs => ∃ xs, H a = some (DicS xs a) ∧ (a == sysModules) = false ∧ R4 K H S kvs xs
  | .exc C fs => ∃ d, H a = some (ExS (.ref (He.ga K C)) d a) ∧ RX K H S ⟨C, fs⟩ (.ref (He.ga K C)) d
/-- the store is held -/
def RSto (K : PySem.W.Frag) (H : Hp) (S : Sto) : Prop := ∀ a o, S a = some o → RO K H S a o
section
variable {K : PySem.W.Frag} {H H' : Hp} {S S' : Sto}
theorem RSto.there (s : RSto K H S) {a : Addr} {o : MO} (h : S a = some o) : ∃ u, H a = some u := by
  have q := s a o h
  cases o with
  | lst ds => obtain ⟨vs, e, _⟩ := q; exact ⟨_, e⟩
  | dK kvs => obtain ⟨vs, e, _⟩ := q; exact ⟨_, e⟩
  | ins C fs => obtain ⟨dx, vs, e, _⟩ := q; exact ⟨_, e⟩
  | exc C fs => obtain ⟨d, e, _⟩ := q; exact ⟨_, e⟩
  | dT kvs => obtain ⟨vs, e, _⟩ := q; exact ⟨_, e⟩
  | dS kvs => obtain ⟨xs, e, _⟩ := q; exact ⟨_, e⟩
  | tbl p q' => obtain ⟨_, ps, e, _⟩ := q; exact ⟨_, e⟩
  | dF o vs kvs => exact ⟨_, q.1⟩
theorem RSto.fresh (s : RSto K H S) {a : Addr} (h : H a = none) : S a = none := by
  cases q : S a with
  | none => rfl
  | some o =>
    obtain ⟨u, e⟩ := s.there q
    rw [h] at e; cases e
theorem RO.ext (e : Ext H S H' S') {a : Addr} {o : MO} (h : RO K H S a o) (k : H' a = H a) : RO K H' S' a o := by
  cases o with
  | lst ds => obtain ⟨vs, e1, r⟩ := h; exact ⟨vs, k.trans e1, r.ext e⟩
  | dK kvs => obtain ⟨vs, e1, r⟩ := h; exact ⟨vs, k.trans e1, r.ext e⟩
  | ins C fs => obtain ⟨dx, vs, e1, r⟩ := h; exact ⟨dx, vs, k.trans e1, r.ext e⟩
  | exc C fs => obtain ⟨d, e1, r⟩ := h; exact ⟨d, k.trans e1, r.ext e⟩
  | dT kvs => obtain ⟨vs, e1, r⟩ := h; exact ⟨vs, k.trans e1, r.ext e⟩
  | dS kvs => obtain ⟨xs, e1, e2, r⟩ := h; exact ⟨xs, k.trans e1, e2, r.ext e⟩
  | tbl p q' =>
    obtain ⟨z, ps, e1, e2, e3⟩ := h
    refine ⟨z, ps, k.trans e1, e2, fun pos cv hc => ?_⟩
    obtain ⟨c, c1, c2, c3⟩ := e3 pos cv hc
    exact ⟨c, c1, e _ _ c2 c3⟩
  | dF o vs kvs => exact ⟨k.trans h.1, h.2.ext e⟩
/-- a new object, not tracked in the store -/
theorem Ext.new (s : RSto K H S) {p : Addr} {u : HO} (h : H p = none) : Ext H S (upd H p u) S := fun a o e n => ⟨by rw [upd_ne (ne_of_none e h)]; exact e, n⟩
theorem RSto.new (s : RSto K H S) {p : Addr} {u : HO} (h : H p = none) : RSto K (upd H p u) S := fun a o e => by
  have ne : a ≠ p := fun z => by rw [z, s.fresh h] at e; cases e
  exact (s a o e).ext (Ext.new s h) (upd_ne ne)
/-- a new object, tracked -/
theorem Ext.newS (s : RSto K H S) {p : Addr} {u : HO} {o : MO} (h : H p = none) : Ext H S (upd H p u) (put S p o) := fun a o e n => by
  have ne := ne_of_none e h
  exact ⟨by rw [upd_ne ne]; exact e, by rw [put_ne ne]; exact n⟩
theorem RSto.newS (s : RSto K H S) {p : Addr} {u : HO} {o : MO} (h : H p = none) (r : RO K (upd H p u) (put S p o) p o) : RSto K (upd H p u) (put S p o) := fun a o' e => by
  by_cases ne : a = p
  · subst ne; rw [put_same] at e; cases e; exact r
  · rw [put_ne ne] at e
    exact (s a o' e).ext (Ext.newS s h) (upd_ne ne)
/-- an object of the store is changed -/
theorem Ext.chg {p : Addr} {u : HO} {o o' : MO} (h : S p = some o') : Ext H S (upd H p u) (put S p o) := fun a o e n => by
  have ne : a ≠ p := fun z => by rw [z, h] at n; cases n
  exact ⟨by rw [upd_ne ne]; exact e, by rw [put_ne ne]; exact n⟩
theorem RSto.chg (s : RSto K H S) {p : Addr} {u : HO} {o o' : MO} (h : S p = some o') (r : RO K (upd H p u) (put S p o) p o) : RSto K (upd H p u) (put S p o) := fun a o' e => by
  by_cases ne : a = p
  · subst ne; rw [put_same] at e; cases e; exact r
  · rw [put_ne ne] at e
    exact (s a o' e).ext (Ext.chg h) (upd_ne ne)
/-- the items of a list that may be read: of the store, or one that stays -/
def lstOf (S : Sto) : D → Option (List D)
  | .lst ds => some ds
  | .scr ds => some ds
  | .ref p => match S p with
    | some (.lst ds) => some ds
    | _ => none
  | _ => none
/-- the same of a list that the program made -/
def ownOf (S : Sto) : D → Option (List D)
  | .lst ds => some ds
  | .ref p => match S p with
    | some (.lst ds) => some ds
    | _ => none
  | _ => none
theorem lst_store {S : Sto} {p : Addr} {ds : List D} (h : (match S p with
    | some (.lst ds) => some ds
    | _ => none) = some ds) : S p = some (.lst ds) := by
  cases e : S p with
  | none => rw [e] at h; cases h
  | some o =>
    rw [e] at h
    cases o with
    | lst xs => cases h; rfl
    | _ => cases h
theorem own_sq (s : RSto K H S) {v : V} {d : D} {ds : List D} (r : RD K H S v d) (h : ownOf S d = some ds) : ∃ a vs, v = .ref a ∧ H a = some (.lst vs) ∧ RDs K H S vs ds := by
  cases d with
  | lst xs => cases h; cases r with | lst h n r => exact ⟨_, _, rfl, h, r⟩
  | ref p =>
    cases r
    obtain ⟨vs, e1, r⟩ := s p _ (lst_store h)
    exact ⟨p, vs, rfl, e1, r⟩
  | _ => cases h
theorem lst_sq (s : RSto K H S) {v : V} {d : D} {ds : List D} (r : RD K H S v d) (h : lstOf S d = some ds) : ∃ a vs, v = .ref a ∧ SqL K H a vs ∧ RDs K H S vs ds := by
  cases d with
  | lst xs => cases h; cases r with | lst h n r => exact ⟨_, _, rfl, .inl (.inl h), r⟩
  | scr xs =>
    cases h
    cases r with
    | scr h n r => exact ⟨_, _, rfl, .inl (.inr ⟨_, h⟩), r⟩
    | klst h1 h2 h3 h4 h5 h6 r => exact ⟨_, _, rfl, .inr ⟨_, _, _, h1, h2, h3, h4, h5, h6⟩, r⟩
  | ref p =>
    cases r
    obtain ⟨vs, e1, r⟩ := s p _ (lst_store h)
    exact ⟨p, vs, rfl, .inl (.inl e1), r⟩
  | _ => cases h
theorem RD.tupSq {v : V} {ds : List D} (r : RD K H S v (.tup ds)) : ∃ a vs, v = .ref a ∧ SqT K H a vs ∧ RDs K H S vs ds := by
  cases r with
  | tup h n r => exact ⟨_, _, rfl, .inl h, r⟩
  | ktup h1 h2 h3 h4 h5 r => exact ⟨_, _, rfl, .inr ⟨_, _, _, h1, h2, h3, h4, h5⟩, r⟩
end
/-! ### slots -/
abbrev MSt := List (Option D)
inductive RSt (K : PySem.W.Frag) (H : Hp) (S : Sto) : St → MSt → Prop
  | nil : RSt K H S [] []
  | vac {o : Option V} {σ : St} {m : MSt} : RSt K H S σ m → RSt K H S (o :: σ) (Option.none :: m)
  | val {v : V} {d : D} {σ : St} {m : MSt} : RD K H S v d → RSt K H S σ m → RSt K H S (Option.some v :: σ) (Option.some d :: m)
section
variable {K : PySem.W.Frag} {H H' : Hp} {S S' : Sto}
theorem RSt.ext (e : Ext H S H' S') : ∀ {σ : St} {m : MSt}, RSt K H S σ m → RSt K H' S' σ m
  | _, _, .nil => .nil
  | _, _, .vac r => .vac (RSt.ext e r)
  | _, _, .val h r => .val (h.ext e) (RSt.ext e r)
theorem RSt.get : ∀ {σ : St} {m : MSt} {i : Nat} {d : D}, RSt K H S σ m → m[i]? = some (some d) → ∃ v, σ[i]? = some (some v) ∧ RD K H S v d
  | _, _, _, _, .nil, e => by simp at e
  | _, _, 0, _, .vac _, e => by simp at e
  | _, _, 0, _, .val h _, e => by simp at e; subst e; exact ⟨_, rfl, h⟩
  | _, _, i + 1, d, .vac r, e => by
    obtain ⟨v, h1, h2⟩ := RSt.get (i := i) (d := d) r (by simpa using e)
    exact ⟨v, by simpa using h1, h2⟩
  | _, _, i + 1, d, .val _ r, e => by
    obtain ⟨v, h1, h2⟩ := RSt.get (i := i) (d := d) r (by simpa using e)
    exact ⟨v, by simpa using h1, h2⟩
theorem RSt.set {v : V} {d : D} (h : RD K H S v d) : ∀ {σ : St} {m : MSt} (i : Nat), RSt K H S σ m → RSt K H S (σ.set i (some v)) (m.set i (some d))
  | _, _, _, .nil => .nil
  | _, _, 0, .vac r => .val h r
  | _, _, 0, .val _ r => .val h r
  | _, _, i + 1, .vac r => .vac (RSt.set h i r)
  | _, _, i + 1, .val q r => .val q (RSt.set h i r)
theorem RSt.unset : ∀ {σ : St} {m : MSt} (i : Nat) (o : Option V), RSt K H S σ m → RSt K H S (σ.set i o) (m.set i none)
  | _, _, _, _, .nil => .nil
  | _, _, 0, _, .vac r => .vac r
  | _, _, 0, _, .val _ r => .vac r
  | _, _, i + 1, o, .vac r => .vac (RSt.unset i o r)
  | _, _, i + 1, o, .val q r => .val q (RSt.unset i o r)
theorem RSt.nones : ∀ n : Nat, RSt K H S (List.replicate n Option.none) (List.replicate n Option.none)
  | 0 => .nil
  | n + 1 => .vac (RSt.nones n)
theorem RSt.start {vs : List V} {ds : List D} (n : Nat) (r : RDs K H S vs ds) : RSt K H S (vs.map Option.some ++ List.replicate n Option.none) (ds.map Option.some ++ List.replicate n Option.none) := by
  induction vs generalizing ds with
  | nil => cases r; exact RSt.nones n
  | cons v vs ih =>
    cases r with
    | cons h r => exact .val h (ih r)
end
/-! ### readings over the store, and what they are below -/
abbrev MQ := D → Sto → Prop
abbrev MXQ := MX → Sto → Prop
abbrev ME := MSt → Sto → MQ → MXQ → Prop
abbrev MT := MSt → Sto → (Bool → Sto → Prop) → MXQ → Prop
abbrev MA := MSt → Sto → (List D → Sto → Prop) → MXQ → Prop
structure MEnds where
  nx : MSt → Sto → Prop
  rt : MQ
  bk : MSt → Sto → Prop := fun _ _ => False
  ct : MSt → Sto → Prop := fun _ _ => False
  ex : MX → MSt → Sto → Prop := fun _ _ _ => False
abbrev MS := MEnds → MSt → Sto → Prop
/-- a def's promise -/
abbrev MSp := List D → Sto → MQ → MXQ → Prop
section
variable (K : PySem.W.Frag) (H : Hp) (S : Sto)
def Ref (Qm : MQ) (Q : V → Hp → Prop) : Prop := ∀ d S' v H', Qm d S' → Ext H S H' S' → RSto K H' S' → RD K H' S' v d → Q v H'
def RefA (Qm : List D → Sto → Prop) (Q : List V → Hp → Prop) : Prop := ∀ ds S' vs H', Qm ds S' → Ext H S H' S' → RSto K H' S' → RDs K H' S' vs ds → Q vs H'
def RefT (Qm : Bool → Sto → Prop) (Q : Bool → Hp → Prop) : Prop := ∀ b S' H', Qm b S' → Ext H S H' S' → RSto K H' S' → Q b H'
def RefN (Qm : MSt → Sto → Prop) (Q : St → Hp → Prop) : Prop := ∀ m S' σ H', Qm m S' → Ext H S H' S' → RSto K H' S' → RSt K H' S' σ m → Q σ H'
def RefX (Em : MXQ) (E : XK) : Prop := ∀ x S' cls d H', Em x S' → Ext H S H' S' → RSto K H' S' → RX K H' S' x cls d → E cls d H'
def RefW (Em : MX → MSt → Sto → Prop) (W : WX) : Prop := ∀ x m S' cls d σ H', Em x m S' → Ext H S H' S' → RSto K H' S' → RSt K H' S' σ m → RX K H' S' x cls d → W cls d σ H'
structure RefE (Dm : MEnds) (D : Ends) (W : WX) : Prop where
  nx : RefN K H S Dm.nx D.nx
  rt : Ref K H S Dm.rt D.rt
  bk : RefN K H S Dm.bk D.bk
  ct : RefN K H S Dm.ct D.ct
  ex : RefW K H S Dm.ex W
end
section
variable {K : PySem.W.Frag} {H H' : Hp} {S S' : Sto}
theorem Ref.ext {Qm : MQ} {Q : V → Hp → Prop} (r : Ref K H S Qm Q) (e : Ext H S H' S') : Ref K H' S' Qm Q := fun d S1 v H1 q e1 s h => r d S1 v H1 q (e.trans e1) s h
theorem RefA.ext {Qm : List D → Sto → Prop} {Q : List V → Hp → Prop} (r : RefA K H S Qm Q) (e : Ext H S H' S') : RefA K H' S' Qm Q := fun d S1 v H1 q e1 s h => r d S1 v H1 q (e.trans e1) s h
theorem RefT.ext {Qm : Bool → Sto → Prop} {Q : Bool → Hp → Prop} (r : RefT K H S Qm Q) (e : Ext H S H' S') : RefT K H' S' Qm Q := fun d S1 H1 q e1 s => r d S1 H1 q (e.trans e1) s
theorem RefN.ext {Qm : MSt → Sto → Prop} {Q : St → Hp → Prop} (r : RefN K H S Qm Q) (e : Ext H S H' S') : RefN K H' S' Qm Q := fun d S1 v H1 q e1 s h => r d S1 v H1 q (e.trans e1) s h
theorem RefX.ext {Em : MXQ} {E : XK} (r : RefX K H S Em E) (e : Ext H S H' S') : RefX K H' S' Em E := fun x S1 c d H1 q e1 s h => r x S1 c d H1 q (e.trans e1) s h
theorem RefW.ext {Em : MX → MSt → Sto → Prop} {W : WX} (r : RefW K H S Em W) (e : Ext H S H' S') : RefW K H' S' Em W := fun x m S1 c d σ H1 q e1 s h1 h => r x m S1 c d σ H1 q (e.trans e1) s h1 h
theorem RefE.ext {Dm : MEnds} {D : Ends} {W : WX} (r : RefE K H S Dm D W) (e : Ext H S H' S') : RefE K H' S' Dm D W := ⟨r.nx.ext e, r.rt.ext e, r.bk.ext e, r.ct.ext e, r.ex.ext e⟩
end
section
variable (K : PySem.W.Frag) (W : WX)
def upE (m : ME) : TE := fun σ H Q => ∃ mσ S Qm Em, RSt K H S σ mσ ∧ RSto K H S ∧ m mσ S Qm Em ∧ Ref K H S Qm Q ∧ RefX K H S Em (fun c d H' => W c d σ H')
def upT (m : MT) : TT := fun σ H Q => ∃ mσ S Qm Em, RSt K H S σ mσ ∧ RSto K H S ∧ m mσ S Qm Em ∧ RefT K H S Qm Q ∧ RefX K H S Em (fun c d H' => W c d σ H')
def upA (m : MA) : TA := fun σ H Q => ∃ mσ S Qm Em, RSt K H S σ mσ ∧ RSto K H S ∧ m mσ S Qm Em ∧ RefA K H S Qm Q ∧ RefX K H S Em (fun c d H' => W c d σ H')
def upS (m : MS) : TS := fun D σ H => ∃ mσ S Dm, RSt K H S σ mσ ∧ RSto K H S ∧ m Dm mσ S ∧ RefE K H S Dm D W
end
def upSp (K : PySem.W.Frag) (sp : MSp) : Sp := fun vs H Q E => ∃ ds S Qm Em, RDs K H S vs ds ∧ RSto K H S ∧ sp ds S Qm Em ∧ Ref K H S Qm Q ∧ RefX K H S Em E
end ML
namespace L2
open PySem PySem.Spec
section
variable {X : Cx}
theorem PE.to {e : Expr} {t t' : TE} (h : PE X e t) (i : ∀ σ H Q, t' σ H Q → t σ H Q) : PE X e t' := ⟨fun pins s σ H Q I q => h.run pins s σ H Q I (i σ H Q q)⟩
theorem PT.to {e : Expr} {t t' : TT} (h : PT X e t) (i : ∀ σ H Q, t' σ H Q → t σ H Q) : PT X e t' := ⟨fun pins s σ H Q I q => h.run pins s σ H Q I (i σ H Q q)⟩
theorem PW.to {e : Expr} {t t' : TT} (h : PW X e t) (i : ∀ σ H Q, t' σ H Q → t σ H Q) : PW X e t' := ⟨fun w pins s σ H Q I q => h.run w pins s σ H Q I (i σ H Q q)⟩
theorem PA.to {e : List Expr} {t t' : TA} (h : PA X e t) (i : ∀ σ H Q, t' σ H Q → t σ H Q) : PA X e t' := ⟨fun pos pins s σ H Q I q => h.run pos pins s σ H Q I (i σ H Q q)⟩
theorem PS.to {st : Stmt} {t t' : TS} (h : PS X st t) (i : ∀ D σ H, t' D σ H → t D σ H) : PS X st t' := ⟨fun pins s σ H D I q => h.run pins s σ H D I (i D σ H q)⟩
theorem PSs.to {st : List Stmt} {t t' : TS} (h : PSs X st t) (i : ∀ D σ H, t' D σ H → t D σ H) : PSs X st t' := ⟨fun pins s σ H D I q => h.run pins s σ H D I (i D σ H q)⟩
end
end L2
set_option maxRecDepth 100000
namespace ML
open PySem PySem.Spec L2
open PyProof.Rows hiding St
section
variable {X : Cx} {W : WX} {a b c e : Expr} {ma mb mc m : ME} {pos : Pos}
/-! ### names, constants -/
def mVar (i : Nat) : ME := fun σ S Q _ => match σ[i]? with
  | some (some d) => Q d S
  | _ => False
theorem mVar_at {i : Nat} {σ : MSt} {S : Sto} {Q : MQ} {E : MXQ} (h : mVar i σ S Q E) : ∃ d, σ[i]? = some (some d) ∧ Q d S := by
  unfold mVar at h
  split at h
  · next d e => exact ⟨d, e, h⟩
  · exact h.elim
theorem ev (i : Nat) {x : Str} {pos : Pos} (hN : X.N[i]? = some x := by rfl) (hv : Vis X.env.scope x := by first | exact Or.inl rfl | exact Or.inr (Or.inl rfl) | exact Or.inr (Or.inr rfl)) (hd : (x == ("__debug__" : Str)) = false := by decide)
    (hcd : (x == ("__classdict__" : Str)) = false := by decide) : PE X (.Name x pos) (upE X.K W (mVar i)) := (pv i hN hv hd hcd).to fun σ H Q ⟨m, S, Qm, Em, h1, h2, h3, h4, _⟩ => by
  obtain ⟨d, e, q⟩ := mVar_at h3
  obtain ⟨v, e1, r⟩ := h1.get e
  exact ⟨v, e1, h4 d S v H q Ext.refl h2 r⟩
def mC (d : D) : ME := fun _ S Q _ => Q d S
theorem mC_to {v : V} {d : D} (r : ∀ K H S, RD K H S v d) : ∀ σ H Q, upE X.K W (mC d) σ H Q → tC v σ H Q := fun σ H Q ⟨m, S, Qm, Em, h1, h2, h3, h4, _⟩ => h4 d S v H h3 Ext.refl h2 (r _ _ _)
theorem eint {i j pos} : PE X (.Constant (.int i) j pos) (upE X.K W (mC (.int i))) := pe_int.to (mC_to fun _ _ _ => .int i)
theorem ebl {i j pos} : PE X (.Constant (.bool i) j pos) (upE X.K W (mC (.bl i))) := pe_bl.to (mC_to fun _ _ _ => .bl i)
theorem enon {j pos} : PE X (.Constant .none j pos) (upE X.K W (mC .non)) := pe_non.to (mC_to fun _ _ _ => .non)
theorem estr {i j pos} : PE X (.Constant (.str i) j pos) (upE X.K W (mC (.str i))) := pe_str.to (mC_to fun _ _ _ => .str i)
/-- a module's own int or text -/
theorem eglob {x : Str} {v : V} {d : D} {u : Value} {pos : Pos} (r : ∀ K H S, RD K H S v d) (rv : RelV v u) (hm : X.mg x = some u) (hg : Gl X x := by rfl) (hd : (x == ("__debug__" : Str)) = false := by decide) : PE X (.Name x pos) (upE X.K W (mC d)) :=
  (pe_glob hg hm rv hd).to (mC_to r)
/-! ### two values -/
abbrev R2m := D → D → Sto → MQ → Prop
def OpL (K : PySem.W.Frag) (r : R2) (rm : R2m) : Prop := ∀ (H : Hp) (S : Sto) (x y : V) (d e : D) (Qm : MQ) (Q : VK), RSto K H S → RD K H S x d → RD K H S y e → rm d e S Qm → Ref K H S Qm Q → r x y H Q
def mOp (rm : R2m) (ma mb : ME) : ME := fun σ S Q E => ma σ S (fun d S1 => mb σ S1 (fun e S2 => rm d e S2 Q) E) E
theorem op_to {r : R2} {rm : R2m} (hl : OpL X.K r rm) (σ : L2.St) (H : Hp) (Q : VK) (h : upE X.K W (mOp rm ma mb) σ H Q) : tOp r (upE X.K W ma) (upE X.K W mb) σ H Q := by
  obtain ⟨m, S, Qm, Em, h1, h2, h3, h4, h5⟩ := h
  refine ⟨m, S, _, Em, h1, h2, h3, fun d S1 x H1 q1 e1 s1 r1 => ⟨m, S1, _, Em, h1.ext e1, s1, q1, fun e S2 y H2 q2 e2 s2 r2 => ?_, h5.ext e1⟩, h5⟩
  exact hl H2 S2 x y d e Qm Q s2 (r1.ext e2) r2 q2 (h4.ext (e1.trans e2))
theorem eop {op : Operator} {r : R2} {rm : R2m} (ho : OpR X (binaryOp op) r) (hl : OpL X.K r rm) (ha : PE X a (upE X.K W ma)) (hb : PE X b (upE X.K W mb)) : PE X (.BinOp a op b pos) (upE X.K W (mOp rm ma mb)) := (pe_op ho ha hb).to (op_to hl)
/-- two ints to a value -/
def rInt (C : Int → Int → Prop) (g : Int → Int → D) : R2m := fun d e S Q => match d, e with
  | .int i, .int j => C i j ∧ Q (g i j) S
  | _, _ => False
def rInt0 (g : Int → Int → D) : R2m := fun d e S Q => match d, e with
  | .int i, .int j => Q (g i j) S
  | _, _ => False
theorem rInt_at {C : Int → Int → Prop} {g : Int → Int → D} {d e : D} {S : Sto} {Q : MQ} (h : rInt C g d e S Q) : ∃ i j, d = .int i ∧ e = .int j ∧ C i j ∧ Q (g i j) S := by
  unfold rInt at h
  split at h
  · exact ⟨_, _, rfl, rfl, h⟩
  · exact h.elim
theorem rInt0_at {g : Int → Int → D} {d e : D} {S : Sto} {Q : MQ} (h : rInt0 g d e S Q) : ∃ i j, d = .int i ∧ e = .int j ∧ Q (g i j) S := by
  unfold rInt0 at h
  split at h
  · exact ⟨_, _, rfl, rfl, h⟩
  · exact h.elim
theorem opl_int {K : PySem.W.Frag} {C : Int → Int → Prop} {g : Int → Int → V} {gm : Int → Int → D} (r : ∀ i j H S, RD K H S (g i j) (gm i j)) : OpL K (rI C g) (rInt C gm) := fun H S x y d e Qm Q s rx ry h k => by
  obtain ⟨i, j, rfl, rfl, hc, q⟩ := rInt_at h
  cases rx; cases ry
  exact ⟨i, j, rfl, rfl, hc, k _ S _ H q Ext.refl s (r ..)⟩
theorem opl_int0 {K : PySem.W.Frag} {g : Int → Int → V} {gm : Int → Int → D} (r : ∀ i j H S, RD K H S (g i j) (gm i j)) : OpL K (rI0 g) (rInt0 gm) := fun H S x y d e Qm Q s rx ry h k => by
  obtain ⟨i, j, rfl, rfl, q⟩ := rInt0_at h
  cases rx; cases ry
  exact ⟨i, j, rfl, rfl, k _ S _ H q Ext.refl s (r ..)⟩
abbrev rSub : R2m := rInt0 fun i j => .int (i - j)
abbrev rMul : R2m := rInt IntMulOk fun i j => .int (i * j)
def DivOk (i j : Int) : Prop := j ≠ 0 ∧ Builtin.divisionGoesByPylong i j = false
abbrev rDiv : R2m := rInt DivOk fun i j => .int (i.fdiv j)
abbrev rMod : R2m := rInt (fun _ j => j ≠ 0) fun i j => .int (i.fmod j)
abbrev rPow : R2m := rInt CPow fun i j => .int (i ^ j.toNat)
theorem esub (ha : PE X a (upE X.K W ma)) (hb : PE X b (upE X.K W mb)) : PE X (.BinOp a .Sub b pos) (upE X.K W (mOp rSub ma mb)) := eop op_sub (opl_int0 fun _ _ _ _ => .int _) ha hb
theorem emul (ha : PE X a (upE X.K W ma)) (hb : PE X b (upE X.K W mb)) : PE X (.BinOp a .Mult b pos) (upE X.K W (mOp rMul ma mb)) :=
  eop (opI (C := IntMulOk) fun _ _ _ _ _ _ _ hc q => mul_int q hc) (opl_int fun _ _ _ _ => .int _) ha hb
theorem ediv (ha : PE X a (upE X.K W ma)) (hb : PE X b (upE X.K W mb)) : PE X (.BinOp a .FloorDiv b pos) (upE X.K W (mOp rDiv ma mb)) :=
  eop (opI (C := DivOk) fun _ _ _ _ _ _ _ hc q => floordiv_int hc.1 q (.inl hc.2)) (opl_int fun _ _ _ _ => .int _) ha hb
theorem emod (ha : PE X a (upE X.K W ma)) (hb : PE X b (upE X.K W mb)) : PE X (.BinOp a .Mod b pos) (upE X.K W (mOp rMod ma mb)) := eop op_modN (opl_int fun _ _ _ _ => .int _) ha hb
theorem epow (ha : PE X a (upE X.K W ma)) (hb : PE X b (upE X.K W mb)) : PE X (.BinOp a .Pow b pos) (upE X.K W (mOp rPow ma mb)) := eop op_pow (opl_int fun _ _ _ _ => .int _) ha hb
/-- +: ints, texts, lists that the program made (a new one that stays), tuples -/
def rAdd : R2m := fun d e S Q => match d, e with
  | .int i, .int j => Q (.int (i + j)) S
  | .str x, .str y => x.length + y.length ≤ sizeLine ∧ Q (.str (x ++ y)) S
  | .tup xs, .tup ys => (xs ≠ [] ∧ xs.length + ys.length ≤ sizeLine) ∧ Q (.tup (xs ++ ys)) S
  | d, e => match ownOf S d, ownOf S e with
    | some xs, some ys => xs.length + ys.length ≤ sizeLine ∧ Q (.lst (xs ++ ys)) S
    | _, _ => False
theorem op_addAll : OpR X (binaryOp .Add) (fun x y H Q => rI0 (fun i j => .int (i + j)) x y H Q ∨ ((∃ i j, x = .str i ∧ y = .str j ∧ i.length + j.length ≤ sizeLine ∧ Q (.str (i ++ j)) H) ∨ (rCatT X.K x y H Q ∨ rCat x y H Q))) := op_add.or (op_add_str.or (op_catT.or op_cat))
theorem rAdd_at {d e : D} {S : Sto} {Q : MQ} (h : rAdd d e S Q) : (∃ i j, d = .int i ∧ e = .int j ∧ Q (.int (i + j)) S) ∨ (∃ x y, d = .str x ∧ e = .str y ∧ x.length + y.length ≤ sizeLine ∧ Q (.str (x ++ y)) S) ∨
    (∃ xs ys, d = .tup xs ∧ e = .tup ys ∧ (xs ≠ [] ∧ xs.length + ys.length ≤ sizeLine) ∧ Q (.tup (xs ++ ys)) S) ∨ ∃ xs ys, ownOf S d = some xs ∧ ownOf S e = some ys ∧ xs.length + ys.length ≤ sizeLine ∧ Q (.lst (xs ++ ys)) S := by
  unfold rAdd at h
  split at h
  · exact .inl ⟨_, _, rfl, rfl, h⟩
  · exact .inr (.inl ⟨_, _, rfl, rfl, h⟩)
  · exact .inr (.inr (.inl ⟨_, _, rfl, rfl, h⟩))
  · split at h
    · next e1 e2 => exact .inr (.inr (.inr ⟨_, _, e1, e2, h⟩))
    · exact h.elim
theorem eadd (ha : PE X a (upE X.K W ma)) (hb : PE X b (upE X.K W mb)) : PE X (.BinOp a .Add b pos) (upE X.K W (mOp rAdd ma mb)) := by
  refine eop op_addAll (fun H S x y d e Qm Q s rx ry h k => ?_) ha hb
  rcases rAdd_at h with ⟨i, j, rfl, rfl, q⟩ | ⟨i, j, rfl, rfl, hz, q⟩ | ⟨xs, ys, rfl, rfl, ⟨hne, hz⟩, q⟩ | ⟨xs, ys, e1, e2, hz, q⟩
  · cases rx; cases ry
    exact .inl ⟨i, j, rfl, rfl, k _ S _ H q Ext.refl s (.int _)⟩
  · cases rx; cases ry
    exact .inr (.inl ⟨i, j, rfl, rfl, hz, k _ S _ H q Ext.refl s (.str _)⟩)
  · obtain ⟨p, vs, rfl, h1, r1⟩ := rx.tupSq
    obtain ⟨p2, ws, rfl, h2, r2⟩ := ry.tupSq
    have l1 := r1.length
    have l2 := r2.length
    refine .inr (.inr (.inl ⟨p, p2, vs, ws, rfl, rfl, h1, h2, fun z => hne (List.length_eq_zero_iff.mp (by rw [← l1, z]; rfl)), by omega, ?_⟩))
    refine ⟨fun z => ?_, fun _ q' hq => k _ S _ _ q (Ext.new s hq) (s.new hq) (.tup (.inl upd_same) (s.fresh hq) ((r1.append r2).ext (Ext.new s hq)))⟩
    subst z
    cases r2
    rw [List.append_nil] at q
    exact k _ S _ H q Ext.refl s rx
  · obtain ⟨p, vs, rfl, h1, r1⟩ := own_sq s rx e1
    obtain ⟨p2, ws, rfl, h2, r2⟩ := own_sq s ry e2
    have l1 := r1.length
    have l2 := r2.length
    refine .inr (.inr (.inr ⟨p, p2, vs, ws, rfl, rfl, h1, h2, by omega, fun q' hq => ?_⟩))
    exact k _ S _ _ q (Ext.new s hq) (s.new hq) (.lst upd_same (s.fresh hq) ((r1.append r2).ext (Ext.new s hq)))
/-! ### one value -/
def UnL (K : PySem.W.Frag) (r : V → Hp → VK → Prop) (rm : D → Sto → MQ → Prop) : Prop := ∀ (H : Hp) (S : Sto) (x : V) (d : D) (Qm : MQ) (Q : VK), RSto K H S → RD K H S x d → rm d S Qm → Ref K H S Qm Q → r x H Q
def mUn (rm : D → Sto → MQ → Prop) (ma : ME) : ME := fun σ S Q E => ma σ S (fun d S1 => rm d S1 Q) E
theorem eun {op : UnaryOp} {r : V → Hp → VK → Prop} {rm : D → Sto → MQ → Prop} (ho : UnR X (unaryOp op) r) (hl : UnL X.K r rm) (ha : PE X a (upE X.K W ma)) : PE X (.UnaryOp op a pos) (upE X.K W (mUn rm ma)) :=
  (pe_un ho ha).to fun σ H Q ⟨m, S, Qm, Em, h1, h2, h3, h4, h5⟩ => ⟨m, S, _, Em, h1, h2, h3, fun d S1 x H1 q1 e1 s1 r1 => hl H1 S1 x d Qm Q s1 r1 q1 (h4.ext e1), h5⟩
def rNeg : D → Sto → MQ → Prop := fun d S Q => match d with
  | .int i => Q (.int (-i)) S
  | _ => False
theorem eneg (ha : PE X a (upE X.K W ma)) : PE X (.UnaryOp .USub a pos) (upE X.K W (mUn rNeg ma)) := eun un_neg (fun H S x d Qm Q s r h k => by
  unfold rNeg at h
  split at h
  · cases r; exact ⟨_, rfl, k _ S _ H h Ext.refl s (.int _)⟩
  · exact h.elim) ha
/-! ### comparisons -/
abbrev rLt : R2m := rInt0 fun i j => .bl (decide (i < j))
abbrev rLe : R2m := rInt0 fun i j => .bl (decide (i ≤ j))
abbrev rGt : R2m := rInt0 fun i j => .bl (decide (j < i))
abbrev rGe : R2m := rInt0 fun i j => .bl (decide (j ≤ i))
theorem ecmp {op : CmpOp} {r : R2} {rm : R2m} (ho : OpR X (compareOp op) r) (hl : OpL X.K r rm) (ha : PE X a (upE X.K W ma)) (hb : PE X b (upE X.K W mb)) (hm : behindInMarks op b = false := by first | exact nomark _ | with_unfolding_all rfl) :
    PE X (.Compare a [op] [b] pos) (upE X.K W (mOp rm ma mb)) := (pe_cmpR ho ha hb hm).to (op_to hl)
/-- a value that is a truth, as a test -/
def mTst (m : ME) : MT := fun σ S Q E => m σ S (fun d S1 => match d with
  | .bl k => Q k S1
  | _ => False) E
theorem tst_to {t : TE} (i : ∀ σ H Q, upE X.K W m σ H Q → t σ H Q) (σ : L2.St) (H : Hp) (Q : Bool → Hp → Prop) (h : upT X.K W (mTst m) σ H Q) : tTest t σ H Q := by
  obtain ⟨mσ, S, Qm, Em, h1, h2, h3, h4, h5⟩ := h
  refine i σ H _ ⟨mσ, S, _, Em, h1, h2, h3, fun d S1 x H1 q1 e1 s1 r1 => ?_, h5⟩
  cases d with
  | bl k => cases r1; exact ⟨k, rfl, h4 k S1 H1 q1 e1 s1⟩
  | _ => exact q1.elim
theorem tcmp {op : CmpOp} {r : R2} {rm : R2m} (ho : OpR X (compareOp op) r) (hl : OpL X.K r rm) (ha : PE X a (upE X.K W ma)) (hb : PE X b (upE X.K W mb)) (hm : behindInMarks op b = false := by first | exact nomark _ | with_unfolding_all rfl) :
    PT X (.Compare a [op] [b] pos) (upT X.K W (mTst (mOp rm ma mb))) := (pt_cmpR ho ha hb hm).to (tst_to (op_to hl))
/-- a op b op2 c -/
def mChain (r r' : R2m) (ma mb mc : ME) : ME := fun σ S Q E => ma σ S (fun x S1 => mb σ S1 (fun y S2 => r x y S2 fun z S3 => match z with
  | .bl k => if k = true then mc σ S3 (fun w S4 => r' y w S4 Q) E else Q (.bl false) S3
  | _ => False) E) E
theorem chain_to {r r' : R2} {rm rm' : R2m} (hl : OpL X.K r rm) (hl' : OpL X.K r' rm') (σ : L2.St) (H : Hp) (Q : VK) (h : upE X.K W (mChain rm rm' ma mb mc) σ H Q) : tChain r r' (upE X.K W ma) (upE X.K W mb) (upE X.K W mc) σ H Q := by
  obtain ⟨m, S, Qm, Em, h1, h2, h3, h4, h5⟩ := h
  refine ⟨m, S, _, Em, h1, h2, h3, fun d S1 x H1 q1 e1 s1 r1 => ⟨m, S1, _, Em, h1.ext e1, s1, q1, fun e S2 y H2 q2 e2 s2 r2 => ?_, h5.ext e1⟩, h5⟩
  refine hl H2 S2 x y d e _ _ s2 (r1.ext e2) r2 q2 fun z S3 v H3 q3 e3 s3 r3 => ?_
  cases z with
  | bl k =>
    cases r3
    refine ⟨k, rfl, ?_⟩
    have e123 := e1.trans (e2.trans e3)
    cases k with
    | true =>
      have q3' : mc m S3 (fun w S4 => rm' e w S4 Qm) Em := by simpa using q3
      rw [if_pos rfl]
      exact ⟨m, S3, _, Em, h1.ext e123, s3, q3', fun w S4 v4 H4 q4 e4 s4 r4 => hl' H4 S4 y v4 e w Qm Q s4 (r2.ext (e3.trans e4)) r4 q4 (h4.ext (e123.trans e4)), h5.ext e123⟩
    | false =>
      have q3' : Qm (.bl false) S3 := by simpa using q3
      rw [if_neg Bool.false_ne_true]
      exact h4 _ S3 _ H3 q3' e123 s3 (.bl false)
  | _ => exact q3.elim
theorem echain {op op' : CmpOp} {r r' : R2} {rm rm' : R2m} (ho : OpR X (compareOp op) r) (ho' : OpR X (compareOp op') r') (hl : OpL X.K r rm) (hl' : OpL X.K r' rm') (ha : PE X a (upE X.K W ma)) (hb : PE X b (upE X.K W mb)) (hc : PE X c (upE X.K W mc))
    (hm : lastMarks [op, op'] [b, c] = false := by with_unfolding_all rfl) : PE X (.Compare a [op, op'] [b, c] pos) (upE X.K W (mChain rm rm' ma mb mc)) := (pe_chain ho ho' ha hb hc hm).to (chain_to hl hl')
theorem tchain {op op' : CmpOp} {r r' : R2} {rm rm' : R2m} (ho : OpR X (compareOp op) r) (ho' : OpR X (compareOp op') r') (hl : OpL X.K r rm) (hl' : OpL X.K r' rm') (ha : PE X a (upE X.K W ma)) (hb : PE X b (upE X.K W mb)) (hc : PE X c (upE X.K W mc))
    (hm : lastMarks [op, op'] [b, c] = false := by with_unfolding_all rfl) : PT X (.Compare a [op, op'] [b, c] pos) (upT X.K W (mTst (mChain rm rm' ma mb mc))) := (pt_chain ho ho' ha hb hc hm).to (tst_to (chain_to hl hl'))
/-- is None -/
def isN : D → Bool
  | .non => true
  | _ => false
theorem isN_eq {K : PySem.W.Frag} {H : Hp} {S : Sto} {v : V} {d : D} (r : RD K H S v d) : decide (v = .non) = isN d := by
  cases r <;> simp [isN]
def rIsN : R2m := fun d e S Q => match e with
  | .non => Q (.bl (isN d)) S
  | _ => False
def rNotN : R2m := fun d e S Q => match e with
  | .non => Q (.bl (!isN d)) S
  | _ => False
theorem ol_isN : OpL X.K (fun x y H Q => y = .non ∧ Q (.bl (decide (x = .non))) H) rIsN := fun H S x y d e Qm Q s rx ry h k => by
  unfold rIsN at h
  split at h
  · cases ry; refine ⟨rfl, k _ S _ H h Ext.refl s ?_⟩; rw [isN_eq rx]; exact .bl _
  · exact h.elim
theorem ol_notN : OpL X.K (fun x y H Q => y = .non ∧ Q (.bl (!decide (x = .non))) H) rNotN := fun H S x y d e Qm Q s rx ry h k => by
  unfold rNotN at h
  split at h
  · cases ry; refine ⟨rfl, k _ S _ H h Ext.refl s ?_⟩; rw [isN_eq rx]; exact .bl _
  · exact h.elim
/-! ### and, or, not, if -/
variable {tA tB' tA' : MT} {rest : List Expr}
def mAnd (t u : MT) : MT := fun σ S Q E => t σ S (fun c S1 => if c = true then u σ S1 Q E else Q false S1) E
def mOr (t u : MT) : MT := fun σ S Q E => t σ S (fun c S1 => if c = true then Q true S1 else u σ S1 Q E) E
def mNot (t : MT) : MT := fun σ S Q E => t σ S (fun c S1 => Q (!c) S1) E
theorem wand1 (ha : PT X a (upT X.K W tA)) : PW X (.BoolOp .And [a] pos) (upT X.K W tA) := pw_and1 ha
theorem wor1 (ha : PT X a (upT X.K W tA)) : PW X (.BoolOp .Or [a] pos) (upT X.K W tA) := pw_or1 ha
theorem wand (ha : PT X a (upT X.K W tA)) (hb : PW X (.BoolOp .And (b :: rest) pos) (upT X.K W tB')) : PW X (.BoolOp .And (a :: b :: rest) pos) (upT X.K W (mAnd tA tB')) :=
  (pw_and ha hb).to fun σ H Q ⟨m, S, Qm, Em, h1, h2, h3, h4, h5⟩ => ⟨m, S, _, Em, h1, h2, h3, fun k S1 H1 q1 e1 s1 => by
    cases k with
    | true => rw [if_pos rfl]; exact ⟨m, S1, Qm, Em, h1.ext e1, s1, by simpa using q1, h4.ext e1, h5.ext e1⟩
    | false => rw [if_neg Bool.false_ne_true]; exact h4 false S1 H1 (by simpa using q1) e1 s1, h5⟩
theorem wor (ha : PT X a (upT X.K W tA)) (hb : PW X (.BoolOp .Or (b :: rest) pos) (upT X.K W tB')) : PW X (.BoolOp .Or (a :: b :: rest) pos) (upT X.K W (mOr tA tB')) :=
  (pw_or ha hb).to fun σ H Q ⟨m, S, Qm, Em, h1, h2, h3, h4, h5⟩ => ⟨m, S, _, Em, h1, h2, h3, fun k S1 H1 q1 e1 s1 => by
    cases k with
    | false => rw [if_neg Bool.false_ne_true]; exact ⟨m, S1, Qm, Em, h1.ext e1, s1, by simpa using q1, h4.ext e1, h5.ext e1⟩
    | true => rw [if_pos rfl]; exact h4 true S1 H1 (by simpa using q1) e1 s1, h5⟩
theorem tnot (ha : PT X a (upT X.K W tA)) : PT X (.UnaryOp .Not a pos) (upT X.K W (mNot tA)) :=
  (pt_not ha).to fun σ H Q ⟨m, S, Qm, Em, h1, h2, h3, h4, h5⟩ => ⟨m, S, _, Em, h1, h2, h3, fun k S1 H1 q1 e1 s1 => h4 (!k) S1 H1 q1 e1 s1, h5⟩
/-- as values -/
def mAndV (ma mb : ME) : ME := fun σ S Q E => ma σ S (fun d S1 => match d with
  | .bl k => if k = true then mb σ S1 Q E else Q (.bl false) S1
  | _ => False) E
def mOrV (ma mb : ME) : ME := fun σ S Q E => ma σ S (fun d S1 => match d with
  | .bl k => if k = true then Q (.bl true) S1 else mb σ S1 Q E
  | _ => False) E
def mNotV (ma : ME) : ME := fun σ S Q E => ma σ S (fun d S1 => match d with
  | .bl k => Q (.bl (!k)) S1
  | _ => False) E
theorem eone {op} (h : PE X a (upE X.K W ma)) : PE X (.BoolOp op [a] pos) (upE X.K W ma) := pe_one h
theorem eand (ha : PE X a (upE X.K W ma)) (hb : PE X (.BoolOp .And (b :: rest) pos) (upE X.K W mb)) : PE X (.BoolOp .And (a :: b :: rest) pos) (upE X.K W (mAndV ma mb)) :=
  (pe_and ha hb).to fun σ H Q ⟨m, S, Qm, Em, h1, h2, h3, h4, h5⟩ => ⟨m, S, _, Em, h1, h2, h3, fun d S1 v H1 q1 e1 s1 r1 => by
    cases d with
    | bl k =>
      cases r1
      refine ⟨k, rfl, ?_⟩
      cases k with
      | true => rw [if_pos rfl]; exact ⟨m, S1, Qm, Em, h1.ext e1, s1, by simpa using q1, h4.ext e1, h5.ext e1⟩
      | false => rw [if_neg Bool.false_ne_true]; exact h4 _ S1 _ H1 (show Qm (.bl false) S1 by simpa using q1) e1 s1 (.bl false)
    | _ => exact q1.elim, h5⟩
theorem eor (ha : PE X a (upE X.K W ma)) (hb : PE X (.BoolOp .Or (b :: rest) pos) (upE X.K W mb)) : PE X (.BoolOp .Or (a :: b :: rest) pos) (upE X.K W (mOrV ma mb)) :=
  (pe_or ha hb).to fun σ H Q ⟨m, S, Qm, Em, h1, h2, h3, h4, h5⟩ => ⟨m, S, _, Em, h1, h2, h3, fun d S1 v H1 q1 e1 s1 r1 => by
    cases d with
    | bl k =>
      cases r1
      refine ⟨k, rfl, ?_⟩
      cases k with
      | false => rw [if_neg Bool.false_ne_true]; exact ⟨m, S1, Qm, Em, h1.ext e1, s1, by simpa using q1, h4.ext e1, h5.ext e1⟩
      | true => rw [if_pos rfl]; exact h4 _ S1 _ H1 (show Qm (.bl true) S1 by simpa using q1) e1 s1 (.bl true)
    | _ => exact q1.elim, h5⟩
def mIf (t : MT) (ma mb : ME) : ME := fun σ S Q E => t σ S (fun c S1 => if c = true then ma σ S1 Q E else mb σ S1 Q E) E
/-- any value's truth -/
def truD (S : Sto) : D → Option Bool
  | .non => some false
  | .bl b => some b
  | .int i => some (i != 0)
  | .str y => if y.length ≤ sizeLine then some ((y.length : Int) != 0) else none
  | .tup ds => some (!ds.isEmpty)
  | .lst ds => some (!ds.isEmpty)
  | .scr ds => some (!ds.isEmpty)
  | .ref p => match S p with
    | some (.lst ds) => some (!ds.isEmpty)
    | some (.dK kvs) => some (!kvs.isEmpty)
    | _ => none
def mTru (m : ME) : MT := fun σ S Q E => m σ S (fun d S1 => match truD S1 d with
  | some k => Q k S1
  | none => False) E
theorem emp_rds {K : PySem.W.Frag} {H : Hp} {S : Sto} {vs : List V} {ds : List D} (r : RDs K H S vs ds) : (!vs.isEmpty) = !ds.isEmpty := by cases r <;> rfl
theorem emp_rks {κ : Type} {K : PySem.W.Frag} {H : Hp} {S : Sto} {vs : List (κ × V)} {ds : List (κ × D)} (r : RKs K H S vs ds) : (!vs.isEmpty) = !ds.isEmpty := by cases r <;> rfl
theorem truD_ok {K : PySem.W.Frag} {H : Hp} {S : Sto} {v : V} {d : D} {k : Bool} (s : RSto K H S) (r : RD K H S v d) (h : truD S d = some k) : TruV K v H k := by
  cases r with
  | non => cases h; rfl
  | bl b => cases h; rfl
  | int i => cases h; rfl
  | str x =>
    simp only [truD] at h
    split at h
    · next z => cases h; exact ⟨z, rfl⟩
    · cases h
  | tup h1 n r => cases h; exact .inr (.inl ⟨_, .inl h1, (emp_rds r).symm⟩)
  | lst h1 n r => cases h; exact .inl ⟨_, .inl (.inl h1), (emp_rds r).symm⟩
  | scr h1 n r => cases h; exact .inl ⟨_, .inl (.inr ⟨_, h1⟩), (emp_rds r).symm⟩
  | ktup h1 h2 h3 h4 h5 r => cases h; exact .inr (.inl ⟨_, .inr ⟨_, _, _, h1, h2, h3, h4, h5⟩, (emp_rds r).symm⟩)
  | klst h1 h2 h3 h4 h5 h6 r => cases h; exact .inl ⟨_, .inr ⟨_, _, _, h1, h2, h3, h4, h5, h6⟩, (emp_rds r).symm⟩
  | ref p =>
    simp only [truD] at h
    cases e : S p with
    | none => rw [e] at h; cases h
    | some o =>
      rw [e] at h
      have q := s p o e
      cases o with
      | lst ds => obtain ⟨vs, e1, r⟩ := q; cases h; exact .inl ⟨_, .inl (.inl e1), (emp_rds r).symm⟩
      | dK kvs => obtain ⟨vs, e1, r⟩ := q; cases h; exact .inr (.inr ⟨_, e1, (emp_rks r).symm⟩)
      | ins C fs => cases h
      | exc C fs => cases h
      | dT kvs => cases h
      | dS kvs => cases h
      | tbl p q' => cases h
      | dF o vs kvs => cases h
theorem ttru (ha : PE X a (upE X.K W ma)) (he : ∀ whole, isTrue a X.env whole = (do let v ← whole; standAt a.pos; holding [v] (truthy v)) := by intro _; rfl) : PT X a (upT X.K W (mTru ma)) :=
  (pt_truth ha he).to fun σ H Q ⟨m, S, Qm, Em, h1, h2, h3, h4, h5⟩ => ⟨m, S, _, Em, h1, h2, h3, fun d S1 v H1 q1 e1 s1 r1 => by
    dsimp only at q1
    cases e : truD S1 d with
    | none => rw [e] at q1; exact q1.elim
    | some k => rw [e] at q1; exact ⟨k, truD_ok s1 r1 e, h4 k S1 H1 q1 e1 s1⟩, h5⟩
/-! ### lists of arguments, displays, calls -/
variable {es : List Expr} {mas : MA}
def mNil : MA := fun _ S Q _ => Q [] S
def mCons (m : ME) (r : MA) : MA := fun σ S Q E => m σ S (fun d S1 => r σ S1 (fun ds S2 => Q (d :: ds) S2) E) E
theorem anil : PA X [] (upA X.K W mNil) := pa_nil.to fun σ H Q ⟨m, S, Qm, Em, h1, h2, h3, h4, h5⟩ => h4 [] S [] H h3 Ext.refl h2 .nil
theorem acons (ha : PE X e (upE X.K W m)) (hr : PA X es (upA X.K W mas)) (hs : starEach (e :: es) X.env = (false, eval e X.env) :: starEach es X.env := by rfl) : PA X (e :: es) (upA X.K W (mCons m mas)) :=
  (pa_cons ha hr hs).to fun σ H Q ⟨m, S, Qm, Em, h1, h2, h3, h4, h5⟩ => ⟨m, S, _, Em, h1, h2, h3, fun d S1 v H1 q1 e1 s1 r1 => ⟨m, S1, _, Em, h1.ext e1, s1, q1, fun ds S2 vs H2 q2 e2 s2 r2 =>
    h4 (d :: ds) S2 (v :: vs) H2 q2 (e1.trans e2) s2 (.cons (r1.ext e2) r2), h5.ext e1⟩, h5⟩
/-- (a, b, ..) -/
def mTup (t : MA) : ME := fun σ S Q E => t σ S (fun ds S1 => ds.length ≤ sizeLine ∧ Q (.tup ds) S1) E
theorem etup {x1} (h : PA X es (upA X.K W mas)) : PE X (.Tuple es x1 pos) (upE X.K W (mTup mas)) :=
  (pe_tup h).to fun σ H Q ⟨m, S, Qm, Em, h1, h2, h3, h4, h5⟩ => ⟨m, S, _, Em, h1, h2, h3, fun ds S1 vs H1 q1 e1 s1 r1 => ⟨by rw [r1.length]; exact q1.1, fun p hp =>
    h4 _ S1 _ _ q1.2 (e1.trans (Ext.new s1 hp)) (s1.new hp) (.tup (.inl upd_same) (s1.fresh hp) (r1.ext (Ext.new s1 hp)))⟩, h5⟩
/-- [a, b, ..], a list that stays -/
def mLstF (t : MA) : ME := fun σ S Q E => t σ S (fun ds S1 => ds.length ≤ sizeLine ∧ Q (.lst ds) S1) E
theorem elstF (h : PA X es (upA X.K W mas)) : PE X (.List es pos) (upE X.K W (mLstF mas)) :=
  (pe_lst h).to fun σ H Q ⟨m, S, Qm, Em, h1, h2, h3, h4, h5⟩ => ⟨m, S, _, Em, h1, h2, h3, fun ds S1 vs H1 q1 e1 s1 r1 => ⟨by rw [r1.length]; exact q1.1, fun p hp =>
    h4 _ S1 _ _ q1.2 (e1.trans (Ext.new s1 hp)) (s1.new hp) (.lst upd_same (s1.fresh hp) (r1.ext (Ext.new s1 hp)))⟩, h5⟩
/-- [a, b, ..], a list of the store -/
def mLst (t : MA) : ME := fun σ S Q E => t σ S (fun ds S1 => ds.length ≤ sizeLine ∧ ∀ p, S1 p = none → Q (.ref p) (put S1 p (.lst ds))) E
theorem elst (h : PA X es (upA X.K W mas)) : PE X (.List es pos) (upE X.K W (mLst mas)) :=
  (pe_lst h).to fun σ H Q ⟨m, S, Qm, Em, h1, h2, h3, h4, h5⟩ => ⟨m, S, _, Em, h1, h2, h3, fun ds S1 vs H1 q1 e1 s1 r1 => ⟨by rw [r1.length]; exact q1.1, fun p hp =>
    h4 _ (put S1 p (.lst ds)) _ _ (q1.2 p (s1.fresh hp)) (e1.trans (Ext.newS s1 hp)) (s1.newS hp ⟨vs, upd_same, r1.ext (Ext.newS s1 hp)⟩) (.ref p)⟩, h5⟩
/-- what is known of a def of the module -/
structure Has (P : Program) (w : World) (K : PySem.W.Frag) (mg : Str → Option Value) (base : Heap) (x : Str) (ps : List Str) (k : Nat) (sp : MSp) : Prop where
  ex : ∃ f fd, mg x = some (.ref f) ∧ PySem.W.keepIn K (.ref f) = true ∧ Binds K fd ps [] ∧ FnOk P w K mg base (L2.CX P w) k f fd ps (upSp K sp)
theorem Has.mono {P : Program} {w : World} {K : PySem.W.Frag} {mg : Str → Option Value} {base : Heap} {x : Str} {ps : List Str} {j k : Nat} {sp : MSp} (h : Has P w K mg base x ps j sp) (l : j ≤ k) : Has P w K mg base x ps k sp :=
  let ⟨f, fd, a, b, c, d⟩ := h.ex
  ⟨f, fd, a, b, c, d.mono l⟩
/-- a promise that asks more -/
theorem Has.imp {P : Program} {w : World} {K : PySem.W.Frag} {mg : Str → Option Value} {base : Heap} {x : Str} {ps : List Str} {k : Nat} {sp sp' : MSp} (h : Has P w K mg base x ps k sp) (i : ∀ ds S Q E, sp' ds S Q E → sp ds S Q E) : Has P w K mg base x ps k sp' :=
  let ⟨f, fd, a, b, c, d⟩ := h.ex
  ⟨f, fd, a, b, c, d.imp fun vs H Q E ⟨ds, S, Qm, Em, h1, h2, h3, h4⟩ => ⟨ds, S, Qm, Em, h1, h2, i _ _ _ _ h3, h4⟩⟩
def mCall (sp : MSp) (t : MA) : ME := fun σ S Q E => t σ S (fun ds S1 => sp ds S1 Q E) E
theorem ecall {k : Nat} {x : Str} {ps : List Str} {sp : MSp} {p : Pos} (F : Has X.prog X.w X.K X.mg X.base x ps k sp) (hr : Room k X.A) (tk : Takes X W) (ha : PA X (e :: es) (upA X.K W mas)) (hg : Gl X x := by rfl)
    (hdb : (x == ("__debug__" : Str)) = false := by decide) (he : starEach (e :: es) X.env = (false, eval e X.env) :: starEach es X.env := by rfl) (hpl : (backTo pos (starEach es X.env)).any (·.1) = false := by rfl) :
    PE X (.Call (.Name x p) (e :: es) [] pos) (upE X.K W (mCall sp mas)) := by
  obtain ⟨f, fd, hm, hk, hb, G⟩ := F.ex
  refine (pe_callS (E := WE W) G hr hg hm hk hb (fun σ => passAt tk σ) ha hdb he hpl).to fun σ H Q ⟨m, S, Qm, Em, h1, h2, h3, h4, h5⟩ => ?_
  exact ⟨m, S, _, Em, h1, h2, h3, fun ds S1 vs H1 q1 e1 s1 r1 => ⟨ds, S1, Qm, Em, r1, s1, q1, h4.ext e1, h5.ext e1⟩, h5⟩
/-! ### calls of built-ins -/
def CaL (K : PySem.W.Frag) (r : List V → Hp → VK → Prop) (rm : List D → Sto → MQ → Prop) : Prop := ∀ (H : Hp) (S : Sto) (xs : List V) (ds : List D) (Qm : MQ) (Q : VK), RSto K H S → RDs K H S xs ds → rm ds S Qm → Ref K H S Qm Q → r xs H Q
def mBlt (rm : List D → Sto → MQ → Prop) (t : MA) : ME := fun σ S Q E => t σ S (fun ds S1 => rm ds S1 Q) E
theorem eblt {id : String} {r : List V → Hp → VK → Prop} {rm : List D → Sto → MQ → Prop} {x : Str} {p : Pos} (hc : CallR X (.builtin id) r) (hl : CaL X.K r rm) (hm : X.mg x = none) (ha : PA X (e :: es) (upA X.K W mas)) (hv : bootBuiltins x = some (.builtin id) := by decide +kernel) (hg : Gl X x := by rfl)
    (hn : x ≠ "__name__" := by decide) (hdb : (x == ("__debug__" : Str)) = false := by decide)
    (he : starEach (e :: es) X.env = (false, eval e X.env) :: starEach es X.env := by rfl) (hpl : (backTo pos (starEach es X.env)).any (·.1) = false := by rfl) : PE X (.Call (.Name x p) (e :: es) [] pos) (upE X.K W (mBlt rm mas)) :=
  (pe_callB hc hg hm hv ha hn hdb he hpl).to fun σ H Q ⟨m, S, Qm, Em, h1, h2, h3, h4, h5⟩ => ⟨m, S, _, Em, h1, h2, h3, fun ds S1 xs H1 q1 e1 s1 r1 => hl H1 S1 xs ds Qm Q s1 r1 q1 (h4.ext e1), h5⟩
theorem etyp {T : String} {r : List V → Hp → VK → Prop} {rm : List D → Sto → MQ → Prop} {x : Str} {p : Pos} (hc : CallR X (.type T) r) (hl : CaL X.K r rm) (hm : X.mg x = none) (ha : PA X (e :: es) (upA X.K W mas)) (hv : bootBuiltins x = some (.type T) := by decide +kernel) (hg : Gl X x := by rfl)
    (hn : x ≠ "__name__" := by decide) (hdb : (x == ("__debug__" : Str)) = false := by decide)
    (he : starEach (e :: es) X.env = (false, eval e X.env) :: starEach es X.env := by rfl) (hpl : (backTo pos (starEach es X.env)).any (·.1) = false := by rfl) : PE X (.Call (.Name x p) (e :: es) [] pos) (upE X.K W (mBlt rm mas)) :=
  (pe_callTy hc hg hm hv ha hn hdb he hpl).to fun σ H Q ⟨m, S, Qm, Em, h1, h2, h3, h4, h5⟩ => ⟨m, S, _, Em, h1, h2, h3, fun ds S1 xs H1 q1 e1 s1 r1 => hl H1 S1 xs ds Qm Q s1 r1 q1 (h4.ext e1), h5⟩
theorem rds1 {K : PySem.W.Frag} {H : Hp} {S : Sto} {xs : List V} {d : D} (r : RDs K H S xs [d]) : ∃ v, xs = [v] ∧ RD K H S v d := by
  cases r with | cons h r => cases r; exact ⟨_, rfl, h⟩
theorem rds2 {K : PySem.W.Frag} {H : Hp} {S : Sto} {xs : List V} {d e : D} (r : RDs K H S xs [d, e]) : ∃ v w, xs = [v, w] ∧ RD K H S v d ∧ RD K H S w e := by
  cases r with | cons h r => obtain ⟨w, rfl, h2⟩ := rds1 r; exact ⟨_, _, rfl, h, h2⟩
/-- len -/
def lenD (S : Sto) : D → Option Nat
  | .tup ds => some ds.length
  | .str x => if x.length ≤ sizeLine then some x.length else none
  | d => (lstOf S d).map List.length
def bLen : List D → Sto → MQ → Prop := fun ds S Q => match ds with
  | [d] => match lenD S d with
    | some n => Q (.int n) S
    | none => False
  | _ => False
theorem lenD_ok {K : PySem.W.Frag} {H : Hp} {S : Sto} {v : V} {d : D} {n : Nat} (s : RSto K H S) (r : RD K H S v d) (h : lenD S d = some n) : LenV K v H n := by
  unfold lenD at h
  split at h
  · obtain ⟨a, vs, rfl, h1, r1⟩ := r.tupSq
    cases h
    exact .inr ⟨vs, h1, r1.length.symm⟩
  · next x =>
    cases r
    split at h
    · next z => cases h; exact ⟨z, rfl⟩
    · cases h
  · cases e : lstOf S d with
    | none => rw [e] at h; cases h
    | some ds =>
      rw [e] at h; cases h
      obtain ⟨a, vs, rfl, h1, r1⟩ := lst_sq s r e
      exact .inl ⟨vs, h1, r1.length.symm⟩
theorem cl_len : CaL X.K (fun xs H Q => ∃ x n, xs = [x] ∧ LenV X.K x H n ∧ Q (.int n) H) bLen := fun H S xs ds Qm Q s r h k => by
  unfold bLen at h
  split at h
  · next d =>
    obtain ⟨v, rfl, r1⟩ := rds1 r
    cases e : lenD S d with
    | none => rw [e] at h; exact h.elim
    | some n => rw [e] at h; exact ⟨v, n, rfl, lenD_ok s r1 e, k _ S _ H h Ext.refl s (.int _)⟩
  · exact h.elim
def bAbs : List D → Sto → MQ → Prop := fun ds S Q => match ds with
  | [.int i] => Q (.int (if i < 0 then -i else i)) S
  | _ => False
theorem cl_abs : CaL X.K (fun xs H Q => ∃ i, xs = [.int i] ∧ Q (.int (if i < 0 then -i else i)) H) bAbs := fun H S xs ds Qm Q s r h k => by
  unfold bAbs at h
  split at h
  · obtain ⟨v, rfl, r1⟩ := rds1 r
    cases r1
    exact ⟨_, rfl, k _ S _ H h Ext.refl s (.int _)⟩
  · exact h.elim
def bMax2 : List D → Sto → MQ → Prop := fun ds S Q => match ds with
  | [.int i, .int j] => Q (.int (if j > i then j else i)) S
  | _ => False
def bMin2 : List D → Sto → MQ → Prop := fun ds S Q => match ds with
  | [.int i, .int j] => Q (.int (if j < i then j else i)) S
  | _ => False
def bInt : List D → Sto → MQ → Prop := fun ds S Q => match ds with
  | [.int i] => Q (.int i) S
  | [.bl k] => Q (.int (if k then 1 else 0)) S
  | _ => False
theorem cl_int : CaL X.K (fun xs H Q => (∃ i, xs = [.int i] ∧ Q (.int i) H) ∨ ∃ k, xs = [.bl k] ∧ Q (.int (if k then 1 else 0)) H) bInt := fun H S xs ds Qm Q s r h k => by
  unfold bInt at h
  split at h
  · obtain ⟨v, rfl, r1⟩ := rds1 r
    cases r1
    exact .inl ⟨_, rfl, k _ S _ H h Ext.refl s (.int _)⟩
  · obtain ⟨v, rfl, r1⟩ := rds1 r
    cases r1
    exact .inr ⟨_, rfl, k _ S _ H h Ext.refl s (.int _)⟩
  · exact h.elim
/-- tuple(a list or a tuple); list(..): a list that stays -/
def bTuple : List D → Sto → MQ → Prop := fun ds S Q => match ds with
  | [.tup xs] => Q (.tup xs) S
  | [d] => match lstOf S d with
    | some xs => Q (.tup xs) S
    | none => False
  | _ => False
theorem cl_tuple : CaL X.K (fun xs H Q => ∃ p ys, xs = [.ref p] ∧ ((SqL X.K H p ys ∧ ∀ l, H l = none → Q (.ref l) (upd H l (.tup ys))) ∨ (SqT X.K H p ys ∧ Q (.ref p) H))) bTuple := fun H S xs ds Qm Q s r h k => by
  unfold bTuple at h
  split at h
  · obtain ⟨v, rfl, r1⟩ := rds1 r
    obtain ⟨a, vs, rfl, h1, r2⟩ := r1.tupSq
    exact ⟨a, vs, rfl, .inr ⟨h1, k _ S _ H h Ext.refl s r1⟩⟩
  · next d hd =>
    obtain ⟨v, rfl, r1⟩ := rds1 r
    cases e : lstOf S d with
    | none => rw [e] at h; exact h.elim
    | some ys =>
      rw [e] at h
      obtain ⟨a, vs, rfl, h1, r2⟩ := lst_sq s r1 e
      exact ⟨a, vs, rfl, .inl ⟨h1, fun l hl => k _ S _ _ h (Ext.new s hl) (s.new hl) (.tup (.inl upd_same) (s.fresh hl) (r2.ext (Ext.new s hl)))⟩⟩
  · exact h.elim
def seqOf (S : Sto) : D → Option (List D)
  | .tup ds => some ds
  | d => lstOf S d
theorem seq_sq {K : PySem.W.Frag} {H : Hp} {S : Sto} (s : RSto K H S) {v : V} {d : D} {ds : List D} (r : RD K H S v d) (h : seqOf S d = some ds) : ∃ a vs, v = .ref a ∧ (SqL K H a vs ∨ SqT K H a vs) ∧ RDs K H S vs ds := by
  unfold seqOf at h
  split at h
  · cases h
    obtain ⟨a, vs, rfl, h1, r2⟩ := r.tupSq
    exact ⟨a, vs, rfl, .inr h1, r2⟩
  · obtain ⟨a, vs, rfl, h1, r2⟩ := lst_sq s r h
    exact ⟨a, vs, rfl, .inl h1, r2⟩
def bListF : List D → Sto → MQ → Prop := fun ds S Q => match ds with
  | [d] => match seqOf S d with
    | some xs => Q (.lst xs) S
    | none => False
  | _ => False
def bList : List D → Sto → MQ → Prop := fun ds S Q => match ds with
  | [d] => match seqOf S d with
    | some xs => ∀ p, S p = none → Q (.ref p) (put S p (.lst xs))
    | none => False
  | _ => False
theorem cl_list : CaL X.K (fun xs H Q => ∃ p ys, xs = [.ref p] ∧ (SqL X.K H p ys ∨ SqT X.K H p ys) ∧ ∀ l, H l = none → Q (.ref l) (upd H l (.lst ys))) bList := fun H S xs ds Qm Q s r h k => by
  unfold bList at h
  split at h
  · next d =>
    obtain ⟨v, rfl, r1⟩ := rds1 r
    cases e : seqOf S d with
    | none => rw [e] at h; exact h.elim
    | some ys =>
      rw [e] at h
      obtain ⟨a, vs, rfl, h1, r2⟩ := seq_sq s r1 e
      exact ⟨a, vs, rfl, h1, fun l hl => k _ (put S l (.lst ys)) _ _ (h l (s.fresh hl)) (Ext.newS s hl) (s.newS hl ⟨vs, upd_same, r2.ext (Ext.newS s hl)⟩) (.ref l)⟩
  · exact h.elim
/-- all, any of a list of truths -/
def blsOf : List D → Option (List Bool)
  | [] => some []
  | .bl b :: r => (blsOf r).map (b :: ·)
  | _ => none
theorem blsOf_eq : ∀ {ds : List D} {bs : List Bool}, blsOf ds = some bs → ds = bs.map .bl
  | [], bs, h => by cases h; rfl
  | .bl b :: r, bs, h => by
    cases e : blsOf r with
    | none => rw [show blsOf (.bl b :: r) = (blsOf r).map (b :: ·) from rfl, e] at h; cases h
    | some cs => rw [show blsOf (.bl b :: r) = (blsOf r).map (b :: ·) from rfl, e] at h; cases h; rw [blsOf_eq e]; rfl
  | .non :: _, _, h => by cases h
  | .int _ :: _, _, h => by cases h
  | .str _ :: _, _, h => by cases h
  | .tup _ :: _, _, h => by cases h
  | .lst _ :: _, _, h => by cases h
  | .scr _ :: _, _, h => by cases h
  | .ref _ :: _, _, h => by cases h
theorem blsOf_map (bs : List Bool) : blsOf (bs.map .bl) = some bs := by
  induction bs with
  | nil => rfl
  | cons b r ih => show (blsOf (r.map .bl)).map (b :: ·) = _; rw [ih]; rfl
def bAll : List D → Sto → MQ → Prop := fun ds S Q => match ds with
  | [d] => match (lstOf S d).bind blsOf with
    | some bs => Q (.bl (bs.all id)) S
    | none => False
  | _ => False
theorem cl_all : CaL X.K (rAll X.K) bAll := fun H S xs ds Qm Q s r h k => by
  unfold bAll at h
  split at h
  · next d =>
    obtain ⟨v, rfl, r1⟩ := rds1 r
    cases e : lstOf S d with
    | none => rw [e] at h; exact h.elim
    | some ys =>
      rw [e] at h
      cases e2 : blsOf ys with
      | none => rw [Option.bind_some, e2] at h; exact h.elim
      | some bs =>
        rw [Option.bind_some, e2] at h
        obtain ⟨a, vs, rfl, h1, r2⟩ := lst_sq s r1 e
        rw [blsOf_eq e2] at r2
        rw [RDs.bls r2] at h1
        exact ⟨a, bs, rfl, h1, k _ S _ H h Ext.refl s (.bl _)⟩
  · exact h.elim
/-! ### subscripts, slices -/
def ixL {α : Type} (xs : List α) (i : Int) : Option α := match i with
  | .ofNat n => xs[n]?
  | .negSucc n => if n < xs.length then xs[xs.length - (n + 1)]? else none
theorem ixL_at {α : Type} {xs : List α} {i : Int} {v : α} (h : ixL xs i = some v) : atI xs i = some v := by
  unfold ixL at h
  split at h
  · exact atI_nat h
  · next n =>
    split at h
    · next hl =>
      unfold atI ixN
      rw [if_neg (by omega), if_pos (by omega)]
      have e : (Int.negSucc n + (xs.length : Int)).toNat = xs.length - (n + 1) := by omega
      rw [Option.bind_some, e]; exact h
    · cases h
def rIxM : R2m := fun d e S Q => match e with
  | .int i => match seqOf S d with
    | some xs => match ixL xs i with
      | some x => Q x S
      | none => False
    | none => False
  | _ => False
theorem atI_rds {K : PySem.W.Frag} {H : Hp} {S : Sto} {vs : List V} {ds : List D} {i : Int} {d : D} (r : RDs K H S vs ds) (h : atI ds i = some d) : ∃ v, atI vs i = some v ∧ RD K H S v d := by
  unfold atI at h ⊢
  rw [r.length]
  cases e : ixN ds.length i with
  | none => rw [e] at h; cases h
  | some j => rw [e, Option.bind_some] at h; rw [Option.bind_some]; exact r.get h
theorem ol_ix : OpL X.K (fun x y H Q => rIxL X.K x y H Q ∨ rIxT X.K x y H Q) rIxM := fun H S x y d e Qm Q s rx ry h k => by
  unfold rIxM at h
  split at h
  · next i =>
    cases ry
    cases e1 : seqOf S d with
    | none => rw [e1] at h; exact h.elim
    | some xs =>
      rw [e1] at h
      cases e2 : ixL xs i with
      | none => simp only [e2] at h
      | some z =>
        simp only [e2] at h
        obtain ⟨a, vs, rfl, h1, r1⟩ := seq_sq s rx e1
        obtain ⟨v, e3, r2⟩ := atI_rds r1 (ixL_at e2)
        rcases h1 with h1 | h1
        · exact .inl ⟨a, vs, i, v, rfl, rfl, h1, e3, k _ S _ H h Ext.refl s r2⟩
        · exact .inr ⟨a, vs, i, v, rfl, rfl, h1, e3, k _ S _ H h Ext.refl s r2⟩
  · exact h.elim
theorem eix (ha : PE X a (upE X.K W ma)) (hb : PE X b (upE X.K W mb)) (hs : PlainIx b := by exact fun _ _ => rfl) : PE X (.Subscript a b pos) (upE X.K W (mOp rIxM ma mb)) := (pe_ix (ix_list.or ix_tup) ha hb hs).to (op_to ol_ix)
end
end ML
set_option maxRecDepth 100000
namespace ML
open PySem PySem.Spec L2
open PyProof.Rows hiding St
/-! ### targets -/
abbrev MG := D → MSt → Sto → (MSt → Sto → Prop) → MXQ → Prop
abbrev MGs := List D → MSt → Sto → (MSt → Sto → Prop) → MXQ → Prop
section
variable (K : PySem.W.Frag) (W : WX)
def upG (g : MG) : TG := fun v σ H Q => ∃ d mσ S Qm Em, RD K H S v d ∧ RSt K H S σ mσ ∧ RSto K H S ∧ g d mσ S Qm Em ∧ RefN K H S Qm Q ∧ RefX K H S Em (fun c d H' => W c d σ H')
def upGs (g : MGs) : TGs := fun vs σ H Q => ∃ ds mσ S Qm Em, RDs K H S vs ds ∧ RSt K H S σ mσ ∧ RSto K H S ∧ g ds mσ S Qm Em ∧ RefN K H S Qm Q ∧ RefX K H S Em (fun c d H' => W c d σ H')
end
section
variable {X : Cx} {W : WX} {a b c e tg : Expr} {ma mb mc m : ME} {pos : Pos} {g : MG} {gs : MGs}
theorem _root_.L2.PG.to {t t' : TG} (h : PG X tg t) (i : ∀ v σ H Q, t' v σ H Q → t v σ H Q) : PG X tg t' := ⟨fun pins s σ H v u Q I r q => h.run pins s σ H v u Q I r (i v σ H Q q)⟩
def gNm (i : Nat) : MG := fun d σ S Q _ => Q (σ.set i (some d)) S
theorem gnm {i : Nat} {x : Str} (hN : X.N.Nodup) (hi : X.N[i]? = some x := by rfl) (hx : Loc X.env.scope x := by first | exact Or.inl rfl | exact Or.inr rfl) (hf : X.fn x = true ∨ X.env.scope.names.lookup x = some .local := by first | exact .inl rfl | exact .inr rfl | assumption) :
    PG X (.Name x pos) (upG X.K W (gNm i)) := L2.PG.to (pg_name hN hi hx hf) fun v σ H Q ⟨d, m, S, Qm, Em, r, h1, h2, h3, h4, _⟩ => h4 _ S _ H h3 Ext.refl h2 (h1.set r i)
def gNl : MGs := fun ds σ S Q _ => match ds with
  | [] => Q σ S
  | _ => False
def gCn (g : MG) (gs : MGs) : MGs := fun ds σ S Q E => match ds with
  | d :: r => g d σ S (fun σ' S' => gs r σ' S' Q E) E
  | [] => False
theorem gnl : PGs X [] (upGs X.K W gNl) := ⟨fun pins s σ H vs us Q I r ⟨ds, m, S, Qm, Em, r1, h1, h2, h3, h4, _⟩ => by
  cases ds with
  | nil => cases r1; exact pgs_nil.run pins s σ H [] us Q I r ⟨rfl, h4 m S σ H h3 Ext.refl h2 h1⟩
  | cons _ _ => exact h3.elim⟩
theorem gcn {es : List Expr} (h1 : PG X e (upG X.K W g)) (h2 : PGs X es (upGs X.K W gs)) (hs : (assignEach (e :: es) X.env).map (·.2) = assign e X.env :: (assignEach es X.env).map (·.2) := by rfl)
    (hx : ∀ d σ S Q E E', g d σ S Q E → g d σ S Q E' := by intro _ _ _ _ _ _ h; exact h) (hx' : ∀ d σ S Q E E', gs d σ S Q E → gs d σ S Q E' := by intro _ _ _ _ _ _ h; exact h) : PGs X (e :: es) (upGs X.K W (gCn g gs)) :=
  ⟨fun pins s σ H vs us Q I r ⟨ds, m, S, Qm, Em, r1, k1, k2, k3, k4, k5⟩ => (pgs_cons h1 h2 hs).run pins s σ H vs us Q I r (by
    cases ds with
    | nil => exact k3.elim
    | cons d ds =>
      cases r1 with
      | cons rd rds =>
        refine ⟨_, _, rfl, d, m, S, _, _, rd, k1, k2, hx _ _ _ _ _ (fun _ _ => False) k3, fun m' S' σ' H' q e s' st => ?_, fun x S' c d H' z => z.elim⟩
        exact ⟨ds, m', S', Qm, fun _ _ => False, rds.ext e, st, s', hx' _ _ _ _ _ _ q, k4.ext e, fun x S' c d H' z => z.elim⟩)⟩
def gTp (n : Nat) (gs : MGs) : MG := fun d σ S Q E => match d with
  | .tup ds => ds.length = n ∧ gs ds σ S Q E
  | _ => False
theorem gtp {es : List Expr} {k n : Nat} (hc : X.calm = true) (h : PGs X es (upGs X.K W gs)) (hn : (assignEach es X.env).length = n := by rfl) (hst : (assignEach es X.env).findIdx? (·.1) = none := by rfl) : PG X (.Tuple es k pos) (upG X.K W (gTp n gs)) :=
  L2.PG.to (pg_tup hc h hn hst) fun v σ H Q ⟨d, m, S, Qm, Em, r, h1, h2, h3, h4, h5⟩ => by
    cases d with
    | tup ds =>
      obtain ⟨a, vs, rfl, hq, rs⟩ := r.tupSq
      exact ⟨a, vs, rfl, hq, rs.length.trans h3.1, ds, m, S, Qm, Em, rs, h1, h2, h3.2, h4, h5⟩
    | _ => exact h3.elim
/-- a, b = a list -/
def gLs (n : Nat) (gs : MGs) : MG := fun d σ S Q E => match lstOf S d with
  | some ds => ds.length = n ∧ gs ds σ S Q E
  | none => False
theorem gls {es : List Expr} {k n : Nat} (hc : X.calm = true) (h : PGs X es (upGs X.K W gs)) (hn : (assignEach es X.env).length = n := by rfl) (hst : (assignEach es X.env).findIdx? (·.1) = none := by rfl) : PG X (.Tuple es k pos) (upG X.K W (gLs n gs)) :=
  L2.PG.to (pg_lst hc h hn hst) fun v σ H Q ⟨d, m, S, Qm, Em, r, h1, h2, h3, h4, h5⟩ => by
    unfold gLs at h3
    cases e : lstOf S d with
    | none => rw [e] at h3; exact h3.elim
    | some ds =>
      rw [e] at h3
      obtain ⟨a, vs, rfl, hq, rs⟩ := lst_sq h2 r e
      exact ⟨a, vs, rfl, hq, rs.length.trans h3.1, ds, m, S, Qm, Em, rs, h1, h2, h3.2, h4, h5⟩
/-- xs[i] = v, a list of the store -/
def setAt {α : Type} (xs : List α) (i : Int) (v : α) : Option (List α) := match i with
  | .ofNat n => if n < xs.length then some (xs.set n v) else none
  | .negSucc n => if n < xs.length then some (xs.set (xs.length - (n + 1)) v) else none
def rSetM (o i v : D) (S : Sto) (Q : Sto → Prop) : Prop := match o, i with
  | .ref p, .int k => match S p with
    | some (.lst xs) => match setAt xs k v with
      | some ys => Q (put S p (.lst ys))
      | none => False
    | _ => False
  | _, _ => False
theorem setAt_ix {α β : Type} {xs ys : List α} {zs : List β} {i : Int} {v : α} (hl : zs.length = xs.length) (h : setAt xs i v = some ys) : ∃ j, ixN zs.length i = some j ∧ ys = xs.set j v := by
  unfold setAt at h
  rw [hl]
  split at h
  · next n =>
    split at h
    · next hn =>
      cases h
      refine ⟨n, ?_, rfl⟩
      unfold ixN
      rw [if_pos (by show (0 : Int) ≤ (n : Int); omega), if_pos (by show (n : Int) < _; omega)]
      rfl
    · cases h
  · next n =>
    split at h
    · next hn =>
      cases h
      refine ⟨xs.length - (n + 1), ?_, rfl⟩
      unfold ixN
      rw [if_neg (by omega), if_pos (by omega)]
      congr 1; omega
    · cases h
def gSb (mo mi : ME) : MG := fun v σ S Q E => mo σ S (fun o S1 => mi σ S1 (fun i S2 => rSetM o i v S2 (fun S3 => Q σ S3)) E) E
theorem gsb {o i : Expr} {mo mi : ME} (ho : PE X o (upE X.K W mo)) (hi : PE X i (upE X.K W mi)) (ha : ∀ v, assign (.Subscript o i pos) X.env v = (do
      let ov ← holding [v] (eval o X.env)
      let iv ← holding [v, ov] (eval i X.env)
      standAt pos
      holding [v, ov, iv] (setItem ov iv v)
      release [v, ov, iv] []) := by intro _; rfl) : PG X (.Subscript o i pos) (upG X.K W (gSb mo mi)) :=
  L2.PG.to (pg_sub ho hi set_list ha) fun v σ H Q ⟨d, m, S, Qm, Em, r, h1, h2, h3, h4, h5⟩ => by
    refine ⟨m, S, _, Em, h1, h2, h3, fun o S1 ov H1 q1 e1 s1 r1 => ⟨m, S1, _, Em, h1.ext e1, s1, q1, fun i S2 iv H2 q2 e2 s2 r2 => ?_, h5.ext e1⟩, h5⟩
    have r1' := r1.ext e2
    have rv := r.ext (e1.trans e2)
    replace q2 : rSetM o i d S2 (fun S3 => Qm m S3) := q2
    unfold rSetM at q2
    split at q2
    · next p k =>
      cases e : S2 p with
      | none => rw [e] at q2; exact q2.elim
      | some mo =>
        rw [e] at q2
        cases mo with
        | lst xs =>
          dsimp only at q2
          cases e3 : setAt xs k d with
          | none => rw [e3] at q2; exact q2.elim
          | some ys =>
            rw [e3] at q2
            cases r1'; cases r2
            obtain ⟨vs, hv, rs⟩ := s2 p _ e
            obtain ⟨j, hj, ey⟩ := setAt_ix rs.length e3
            subst ey
            have ec : Ext H2 S2 (upd H2 p (.lst (vs.set j v))) (put S2 p (.lst (xs.set j d))) := Ext.chg e
            exact ⟨p, vs, k, j, rfl, rfl, hv, hj, h4 m _ σ _ q2 (e1.trans (e2.trans ec)) (s2.chg e ⟨_, upd_same, (rs.set rv j).ext ec⟩) (h1.ext (e1.trans (e2.trans ec)))⟩
        | _ => exact q2.elim
    · exact q2.elim
/-! ### statements -/
variable {st : Stmt} {rest : List Stmt} {mt mu : MS}
def xAt (D : MEnds) (σ : MSt) : MXQ := fun x S => D.ex x σ S
theorem xAt_ref {K : PySem.W.Frag} {H : Hp} {S : Sto} {σ : L2.St} {m : MSt} {Dm : MEnds} {W : WX} (h : RSt K H S σ m) (w : RefW K H S Dm.ex W) : RefX K H S (xAt Dm m) (fun c d H' => W c d σ H') :=
  fun x S' c d H' q e s r => w x m S' c d σ H' q e s (h.ext e) r
def mNext : MS := fun D σ S => D.nx σ S
def mSeq (t u : MS) : MS := fun D σ S => t { D with nx := u D } σ S
theorem snil : PSs X [] (upS X.K W mNext) := L2.PSs.to pss_nil fun D σ H ⟨m, S, Dm, h1, h2, h3, h4⟩ => h4.nx m S σ H h3 Ext.refl h2 h1
theorem scons (h1 : PS X st (upS X.K W mt)) (h2 : PSs X rest (upS X.K W mu)) : PSs X (st :: rest) (upS X.K W (mSeq mt mu)) := L2.PSs.to (pss_cons h1 h2) fun D σ H ⟨m, S, Dm, k1, k2, k3, k4⟩ =>
  ⟨m, S, { Dm with nx := mu Dm }, k1, k2, k3, ⟨fun m' S' σ' H' q e s r => ⟨m', S', Dm, r, s, q, k4.ext e⟩, k4.rt, k4.bk, k4.ct, k4.ex⟩⟩
theorem sone (h1 : PS X st (upS X.K W mt)) : PSs X [st] (upS X.K W mt) := pss_one h1
def mBreak : MS := fun D σ S => D.bk σ S
def mCont : MS := fun D σ S => D.ct σ S
def mExpr (m : ME) : MS := fun D σ S => m σ S (fun _ S1 => D.nx σ S1) (xAt D σ)
theorem sexpr (he : PE X e (upE X.K W m)) (hs : swapsWith e none pos.line X.env = pure false := by rfl) : PS X (.Expr e pos) (upS X.K W (mExpr m)) := L2.PS.to (ps_expr he hs) fun D σ H ⟨m, S, Dm, h1, h2, h3, h4⟩ =>
  ⟨m, S, _, _, h1, h2, h3, fun d S' v H' q e s r => h4.nx m S' σ H' q e s (h1.ext e), xAt_ref h1 h4.ex⟩
def mRet (m : ME) : MS := fun D σ S => m σ S D.rt (xAt D σ)
theorem sret (he : PE X e (upE X.K W m)) : PS X (.Return (some e) pos) (upS X.K W (mRet m)) := L2.PS.to (ps_ret he) fun D σ H ⟨m, S, Dm, h1, h2, h3, h4⟩ => ⟨m, S, _, _, h1, h2, h3, h4.rt, xAt_ref h1 h4.ex⟩
def mRetN : MS := fun D _ S => D.rt .non S
def mIfS (c : MT) (t u : MS) : MS := fun D σ S => c σ S (fun b S1 => if b = true then t D σ S1 else u D σ S1) (xAt D σ)
theorem sif {tc : MT} {as bs : List Stmt} (hc : PT X c (upT X.K W tc)) (ha : PSs X as (upS X.K W mt)) (hb : PSs X bs (upS X.K W mu)) : PS X (.If c as bs pos) (upS X.K W (mIfS tc mt mu)) := L2.PS.to (ps_if hc ha hb) fun D σ H ⟨m, S, Dm, h1, h2, h3, h4⟩ =>
  ⟨m, S, _, _, h1, h2, h3, fun k S1 H1 q e s => by
    cases k with
    | true => rw [if_pos rfl]; exact ⟨m, S1, Dm, h1.ext e, s, by simpa using q, h4.ext e⟩
    | false => rw [if_neg Bool.false_ne_true]; exact ⟨m, S1, Dm, h1.ext e, s, by simpa using q, h4.ext e⟩, xAt_ref h1 h4.ex⟩
/-- never come to -/
def mNever : MS := fun _ _ _ => False
theorem snever : PS X st (upS X.K W mNever) := ⟨fun _ _ _ _ _ _ ⟨_, _, _, _, _, h, _⟩ => h.elim⟩
def mAsg (m : ME) (g : MG) : MS := fun D σ S => m σ S (fun d S1 => g d σ S1 D.nx (xAt D σ)) (xAt D σ)
theorem sasg (he : PE X e (upE X.K W m)) (hg : PG X tg (upG X.K W g)) (hs : swapsWithSole [tg] e pos.line X.env = pure false := by rfl) (hw : swappedStores [tg] e X.env = pure none := by rfl)
    (h1 : (assignEach [tg] X.env).map (·.2) = [assign tg X.env] := by rfl) : PS X (.Assign [tg] e pos) (upS X.K W (mAsg m g)) := L2.PS.to (ps_asg he hg hs hw h1) fun D σ H ⟨m, S, Dm, h1, h2, h3, h4⟩ =>
  ⟨m, S, _, _, h1, h2, h3, fun d S1 v H1 q e s r => ⟨d, m, S1, _, _, r, h1.ext e, s, q, h4.nx.ext e, (xAt_ref h1 h4.ex).ext e⟩, xAt_ref h1 h4.ex⟩
def mSet (i : Nat) (m : ME) : MS := fun D σ S => m σ S (fun d S1 => D.nx (σ.set i (some d)) S1) (xAt D σ)
theorem sset {i : Nat} {x : Str} {pos' : Pos} (hN : X.N.Nodup) (he : PE X e (upE X.K W m)) (hi : X.N[i]? = some x := by rfl) (hx : Loc X.env.scope x := by first | exact Or.inl rfl | exact Or.inr rfl) (hs : swapsWith e (some (.Name x pos')) pos.line X.env = pure false := by rfl)
    (hf : X.fn x = true ∨ X.env.scope.names.lookup x = some .local := by first | exact .inl rfl | exact .inr rfl | assumption) : PS X (.Assign [.Name x pos'] e pos) (upS X.K W (mSet i m)) := L2.PS.to (ps_set hN hi hx he hs hf) fun D σ H ⟨m, S, Dm, h1, h2, h3, h4⟩ =>
  ⟨m, S, _, _, h1, h2, h3, fun d S1 v H1 q e s r => h4.nx _ S1 _ H1 q e s ((h1.ext e).set r i), xAt_ref h1 h4.ex⟩
def mPar (i j : Nat) (t : MA) : MS := fun D σ S => t σ S (fun ds S1 => match ds with
  | [d, e] => D.nx ((σ.set i (some d)).set j (some e)) S1
  | _ => False) (xAt D σ)
theorem spar {i j : Nat} {x y : Str} {mas : MA} {px py pt : Pos} {kt k2 pt2} (hc : X.calm = true) (hN : X.N.Nodup) (ha : PA X [a, b] (upA X.K W mas)) (hi : X.N[i]? = some x := by rfl) (hj : X.N[j]? = some y := by rfl) (hij : i ≠ j := by decide)
    (hx : X.env.scope.names.lookup x = some .local := by rfl) (hy : X.env.scope.names.lookup y = some .local := by rfl)
    (hw : swappedStores [.Tuple [.Name x px, .Name y py] kt pt] (.Tuple [a, b] k2 pt2) X.env = pure (some [x, y]) := by rfl)
    (hs : swapsWithSole [.Tuple [.Name x px, .Name y py] kt pt] (.Tuple [a, b] k2 pt2) pos.line X.env = pure false := by rfl) :
    PS X (.Assign [.Tuple [.Name x px, .Name y py] kt pt] (.Tuple [a, b] k2 pt2) pos) (upS X.K W (mPar i j mas)) := L2.PS.to (ps_par hc hN hi hj hij hx hy ha hw hs) fun D σ H ⟨m, S, Dm, h1, h2, h3, h4⟩ =>
  ⟨m, S, _, _, h1, h2, h3, fun ds S1 vs H1 q e s r => by
    dsimp only at q
    split at q
    · obtain ⟨v, w, rfl, r1, r2⟩ := rds2 r
      exact ⟨v, w, rfl, h4.nx _ S1 _ H1 q e s (((h1.ext e).set r1 i).set r2 j)⟩
    · exact q.elim, xAt_ref h1 h4.ex⟩
/-! ### while -/
/-- I: what holds between the turns, with a measure -/
def mWhile (c : MT) (tb : MS) : MS := fun D σ S => ∃ I : Nat → MSt → Sto → Prop, (∃ n, I n σ S) ∧ ∀ n σ S, I n σ S →
  c σ S (fun b S1 => if b = true then tb { D with nx := fun σ' S' => ∃ m, m < n ∧ I m σ' S', ct := fun σ' S' => ∃ m, m < n ∧ I m σ' S', bk := D.nx } σ S1 else D.nx σ S1) (xAt D σ)
theorem swhile {tc : MT} {tb : MS} {body : List Stmt} (hp : PassesOwn (model X.prog X.w) X.A X.env X.xe) (hc : PT X c (upT X.K W tc)) (hb : PSs X body (upS X.K W tb)) : PS X (.While c body [] pos) (upS X.K W (mWhile tc tb)) :=
  L2.PS.to (ps_while hp hc hb) fun D σ H ⟨m, S, Dm, h1, h2, ⟨I, ⟨n0, i0⟩, turn⟩, h4⟩ => by
    refine ⟨fun n σ' H' => ∃ m' S', RSt X.K H' S' σ' m' ∧ RSto X.K H' S' ∧ Ext H S H' S' ∧ I n m' S', ⟨n0, m, S, h1, h2, Ext.refl, i0⟩, ?_⟩
    rintro n σ1 H1 ⟨m1, S1, k1, k2, k3, k4⟩
    have D4 := h4.ext k3
    refine ⟨m1, S1, _, _, k1, k2, turn n m1 S1 k4, fun k S2 H2 q e s => ?_, xAt_ref k1 D4.ex⟩
    cases k with
    | true =>
      have q' : tb { Dm with nx := fun σ' S' => ∃ m, m < n ∧ I m σ' S', ct := fun σ' S' => ∃ m, m < n ∧ I m σ' S', bk := Dm.nx } m1 S2 := by simpa using q
      rw [if_pos rfl]
      have N : RefN X.K H2 S2 (fun σ' S' => ∃ m, m < n ∧ I m σ' S') (fun σ' H' => ∃ m', m' < n ∧ ∃ m'' S', RSt X.K H' S' σ' m'' ∧ RSto X.K H' S' ∧ Ext H S H' S' ∧ I m' m'' S') :=
        fun m3 S3 σ3 H3 ⟨n3, l3, i3⟩ e3 s3 r3 => ⟨n3, l3, m3, S3, r3, s3, k3.trans (e.trans e3), i3⟩
      exact ⟨fun σ' H' => ∃ m', m' < n ∧ ∃ m'' S', RSt X.K H' S' σ' m'' ∧ RSto X.K H' S' ∧ Ext H S H' S' ∧ I m' m'' S', fun σ' H' z => z, m1, S2, _, k1.ext e, s, q', ⟨N, D4.rt.ext e, D4.nx.ext e, N, D4.ex.ext e⟩⟩
    | false =>
      have q' : Dm.nx m1 S2 := by simpa using q
      rw [if_neg Bool.false_ne_true]
      exact D4.nx m1 S2 σ1 H2 q' e s (k1.ext e)
/-! ### what a loop walks -/
abbrev MI := MSt → Sto → (List D → (Sto → Prop) → Sto → Prop) → MXQ → Prop
/-- J yields the items, as long as G holds of the store -/
structure ItOk (K : PySem.W.Frag) (H0 : Hp) (S0 : Sto) (J : It) (items : List D) (G : Sto → Prop) : Prop where
  go : ∀ (i : Nat) (H : Hp) (S : Sto), Ext H0 S0 H S → RSto K H S → G S → i < items.length → J.go i H
  yld : ∀ (i : Nat) (H : Hp) (S : Sto) (v : V) (H' : Hp) (d : D), Ext H0 S0 H S → RSto K H S → G S → items[i]? = some d → J.yld i H v H' → Ext H S H' S ∧ RSto K H' S ∧ RD K H' S v d
  stop : ∀ (i : Nat) (H : Hp) (S : Sto), Ext H0 S0 H S → RSto K H S → G S → items.length ≤ i → J.stop i H
def RefI (K : PySem.W.Frag) (H : Hp) (S : Sto) (Rm : List D → (Sto → Prop) → Sto → Prop) (R : It → Hp → Prop) : Prop := ∀ items G S' J H', Rm items G S' → Ext H S H' S' → RSto K H' S' → ItOk K H' S' J items G → R J H'
theorem RefI.ext {K : PySem.W.Frag} {H H' : Hp} {S S' : Sto} {Rm : List D → (Sto → Prop) → Sto → Prop} {R : It → Hp → Prop} (r : RefI K H S Rm R) (e : Ext H S H' S') : RefI K H' S' Rm R := fun items G S1 J H1 q e1 s k => r items G S1 J H1 q (e.trans e1) s k
def upI (K : PySem.W.Frag) (W : WX) (mi : MI) : TI := fun σ H R => ∃ mσ S Rm Em, RSt K H S σ mσ ∧ RSto K H S ∧ mi mσ S Rm Em ∧ RefI K H S Rm R ∧ RefX K H S Em (fun c d H' => W c d σ H')
theorem _root_.L2.PI.to {iter : Expr} {t t' : TI} (h : PI X tg iter t) (i : ∀ σ H R, t' σ H R → t σ H R) : PI X tg iter t' := ⟨fun pins s σ H R I q => h.run pins s σ H R I (i σ H R q)⟩
/-- I: what holds ahead of each turn -/
def wfor (G : Sto → Prop) (g : MG) (mb : MS) (D : MEnds) (items : List ML.D) (σ : MSt) (S : Sto) : Prop := ∃ I : Nat → MSt → Sto → Prop, I 0 σ S ∧ ∀ i σ S, i ≤ items.length → I i σ S → G S ∧ match items[i]? with
  | some d => g d σ S (fun σ' S' => mb { D with nx := I (i + 1), ct := I (i + 1), bk := D.nx } σ' S') (xAt D σ)
  | none => D.nx σ S
def mFor (mi : MI) (g : MG) (mb : MS) : MS := fun D σ S => mi σ S (fun items G S1 => wfor G g mb D items σ S1) (xAt D σ)
theorem sfor {iter : Expr} {body : List Stmt} {mi : MI} {mb : MS} (hp : PassesOwn (model X.prog X.w) X.A X.env X.xe) (hc : X.calm = true) (hi : PI X tg iter (upI X.K W mi)) (hg : PG X tg (upG X.K W g)) (hb : PSs X body (upS X.K W mb))
    (hs : ∀ x, foldedSetIterable iter X.env x = pure x := by intro _; rfl) : PS X (.For tg iter body [] pos) (upS X.K W (mFor mi g mb)) :=
  L2.PS.to (ps_for hp hc hi hg hb hs) fun D σ H ⟨m, S, Dm, h1, h2, h3, h4⟩ => by
    refine ⟨m, S, _, _, h1, h2, h3, fun items G S1 J H1 q e1 s1 it => ?_, xAt_ref h1 h4.ex⟩
    obtain ⟨I, i0, turn⟩ := q
    refine ⟨fun i n σ' H' => n = items.length - i ∧ i ≤ items.length ∧ ∃ m' S', RSt X.K H' S' σ' m' ∧ RSto X.K H' S' ∧ Ext H1 S1 H' S' ∧ I i m' S', ⟨items.length, by simp, Nat.zero_le _, m, S1, h1.ext e1, s1, Ext.refl, i0⟩, ?_⟩
    rintro i n σ2 H2 ⟨rfl, hle, m2, S2, k1, k2, k3, k4⟩
    have D4 := h4.ext (e1.trans k3)
    obtain ⟨gS, k4⟩ := turn i m2 S2 hle k4
    by_cases hlt : i < items.length
    · rw [List.getElem?_eq_getElem hlt] at k4
      refine .inr ⟨it.go i H2 S2 k3 k2 gS hlt, fun σ' H' => ∃ m' S', RSt X.K H' S' σ' m' ∧ RSto X.K H' S' ∧ Ext H1 S1 H' S' ∧ I (i + 1) m' S', fun σ' H' z => ⟨items.length - (i + 1), by omega, rfl, hlt, z⟩, fun v H3 y => ?_⟩
      obtain ⟨e3, s3, r3⟩ := it.yld i H2 S2 v H3 _ k3 k2 gS (List.getElem?_eq_getElem hlt) y
      refine ⟨_, m2, S2, _, _, r3, k1.ext e3, s3, k4, fun m4 S4 σ4 H4 q4 e4 s4 r4 => ?_, (xAt_ref k1 D4.ex).ext e3⟩
      have e34 := e3.trans e4
      have N : RefN X.K H4 S4 (I (i + 1)) (fun σ' H' => ∃ m' S', RSt X.K H' S' σ' m' ∧ RSto X.K H' S' ∧ Ext H1 S1 H' S' ∧ I (i + 1) m' S') :=
        fun m5 S5 σ5 H5 q5 e5 s5 r5 => ⟨m5, S5, r5, s5, k3.trans (e34.trans e5), q5⟩
      exact ⟨m4, S4, _, r4, s4, q4, ⟨N, D4.rt.ext e34, D4.nx.ext e34, N, D4.ex.ext e34⟩⟩
    · rw [List.getElem?_eq_none (by omega)] at k4
      exact .inl ⟨it.stop i H2 S2 k3 k2 gS (by omega), D4.nx m2 S2 σ2 H2 k4 Ext.refl k2 k1⟩
/-- turn by turn -/
def wroll (G : Sto → Prop) (g : MG) (mb : MS) (D : MEnds) : List ML.D → MSt → Sto → Prop
  | [], σ, S => G S ∧ D.nx σ S
  | d :: ds, σ, S => G S ∧ g d σ S (fun σ' S' => mb { D with nx := wroll G g mb D ds, ct := wroll G g mb D ds, bk := D.nx } σ' S') (xAt D σ)
theorem wfor_roll {G : Sto → Prop} {mb : MS} {D : MEnds} {items : List ML.D} {σ : MSt} {S : Sto} (h : wroll G g mb D items σ S) : wfor G g mb D items σ S := by
  refine ⟨fun i => wroll G g mb D (items.drop i), by simpa using h, fun i σ S hi h => ?_⟩
  dsimp only at h ⊢
  by_cases hlt : i < items.length
  · have hd : items.drop i = items[i] :: items.drop (i + 1) := List.drop_eq_getElem_cons hlt
    rw [hd] at h
    rw [List.getElem?_eq_getElem hlt]
    exact h
  · have e : i = items.length := by omega
    subst e
    rw [List.drop_length] at h
    rw [List.getElem?_eq_none (by omega)]
    exact h
/-- a list, a tuple -/
def iL (m : ME) : MI := fun σ S R E => m σ S (fun d S1 => match lstOf S1 d with
  | some ds => R ds (fun S' => lstOf S' d = some ds) S1
  | none => False) E
def iT (m : ME) : MI := fun σ S R E => m σ S (fun d S1 => match d with
  | .tup ds => R ds (fun _ => True) S1
  | _ => False) E
theorem itok_list {K : PySem.W.Frag} {H : Hp} {S : Sto} {d : D} {v : V} {ds : List D} (s : RSto K H S) (r : RD K H S v d) (h : lstOf S d = some ds) : ∃ a, v = .ref a ∧ (∃ xs, SqL K H a xs) ∧ ItOk K H S (Itl K a) ds (fun S' => lstOf S' d = some ds) := by
  obtain ⟨a, vs, rfl, hq, _⟩ := lst_sq s r h
  refine ⟨a, rfl, ⟨vs, hq⟩, fun i H' S' e s' g hi => ?_, fun i H' S' v H'' x e s' g hx y => ?_, fun i H' S' e s' g hi => ?_⟩
  · obtain ⟨a', vs', ea, hq', rs'⟩ := lst_sq s' (r.ext e) g
    cases ea
    exact ⟨vs', vs'[i]'(by rw [rs'.length]; exact hi), hq', List.getElem?_eq_getElem _⟩
  · obtain ⟨a', vs', ea, hq', rs'⟩ := lst_sq s' (r.ext e) g
    cases ea
    obtain ⟨rfl, y⟩ := y
    obtain ⟨w, hw, rw'⟩ := rs'.get hx
    have : v = w := Option.some.inj ((y _ hq').symm.trans hw)
    subst this
    exact ⟨Ext.refl, s', rw'⟩
  · obtain ⟨a', vs', ea, hq', rs'⟩ := lst_sq s' (r.ext e) g
    cases ea
    exact ⟨vs', hq', by rw [rs'.length]; exact hi⟩
theorem itok_tup {K : PySem.W.Frag} {H : Hp} {S : Sto} {v : V} {ds : List D} (s : RSto K H S) (r : RD K H S v (.tup ds)) : ∃ a, v = .ref a ∧ (∃ xs, SqT K H a xs) ∧ ItOk K H S (Itt K a) ds (fun _ => True) := by
  obtain ⟨a, vs, rfl, hq, _⟩ := r.tupSq
  refine ⟨a, rfl, ⟨vs, hq⟩, fun i H' S' e s' g hi => ?_, fun i H' S' v H'' x e s' g hx y => ?_, fun i H' S' e s' g hi => ?_⟩
  · obtain ⟨a', vs', ea, hq', rs'⟩ := (r.ext e).tupSq
    cases ea
    exact ⟨vs', vs'[i]'(by rw [rs'.length]; exact hi), hq', List.getElem?_eq_getElem _⟩
  · obtain ⟨a', vs', ea, hq', rs'⟩ := (r.ext e).tupSq
    cases ea
    obtain ⟨rfl, y⟩ := y
    obtain ⟨w, hw, rw'⟩ := rs'.get hx
    have : v = w := Option.some.inj ((y _ hq').symm.trans hw)
    subst this
    exact ⟨Ext.refl, s', rw'⟩
  · obtain ⟨a', vs', ea, hq', rs'⟩ := (r.ext e).tupSq
    cases ea
    exact ⟨vs', hq', by rw [rs'.length]; exact hi⟩
theorem it {l : Expr} (h : PE X l (upE X.K W m)) : PI X tg l (upI X.K W (iT m)) := L2.PI.to (pi_tup h) fun σ H R ⟨m, S, Rm, Em, h1, h2, h3, h4, h5⟩ =>
  ⟨m, S, _, Em, h1, h2, h3, fun d S1 v H1 q e s r => by
    cases d with
    | tup ds =>
      obtain ⟨a, rfl, hx, it⟩ := itok_tup s r
      exact ⟨a, rfl, hx, h4 ds _ S1 _ H1 q e s it⟩
    | _ => exact q.elim, h5⟩
/-- range -/
def rngD (lo : Int) (n : Nat) : List D := (List.range n).map fun i => .int (lo + (i : Nat))
theorem rngD_get {lo : Int} {n i : Nat} {d : D} (h : (rngD lo n)[i]? = some d) : d = .int (lo + (i : Nat)) := by
  unfold rngD at h
  rw [List.getElem?_map] at h
  by_cases hi : i < n
  · rw [List.getElem?_eq_getElem (by simpa using hi), List.getElem_range] at h; cases h; rfl
  · rw [List.getElem?_eq_none (by simpa using Nat.le_of_not_lt hi)] at h; cases h
theorem rngD_len (lo : Int) (n : Nat) : (rngD lo n).length = n := by unfold rngD; rw [List.length_map, List.length_range]
theorem itok_rng {K : PySem.W.Frag} {H : Hp} {S : Sto} (lo : Int) (n : Nat) : ItOk K H S (Itr lo n) (rngD lo n) (fun _ => True) :=
  ⟨fun i H' S' e s' g hi => by rw [rngD_len] at hi; exact hi, fun i H' S' v H'' x e s' g hx ⟨y1, y2⟩ => by subst y1 y2; rw [rngD_get hx]; exact ⟨Ext.refl, s', .int _⟩, fun i H' S' e s' g hi => by rw [rngD_len] at hi; exact hi⟩
def iR1 (t : MA) : MI := fun σ S R E => t σ S (fun ds S1 => match ds with
  | [.int j] => (-(2 ^ 62) ≤ j ∧ j < 2 ^ 62) ∧ R (rngD 0 j.toNat) (fun _ => True) S1
  | _ => False) E
def iR2 (t : MA) : MI := fun σ S R E => t σ S (fun ds S1 => match ds with
  | [.int i, .int j] => (-(2 ^ 62) ≤ i ∧ i < 2 ^ 62 ∧ -(2 ^ 62) ≤ j ∧ j < 2 ^ 62) ∧ R (rngD i (j - i).toNat) (fun _ => True) S1
  | _ => False) E
theorem ir1 {mas : MA} {p : Pos} (hm : X.mg "range" = none) (ha : PA X [a] (upA X.K W mas)) (hg : Gl X "range" := by rfl) (hs : starEach [a] X.env = [(false, eval a X.env)] := by rfl) : PI X tg (.Call (.Name "range" p) [a] [] pos) (upI X.K W (iR1 mas)) :=
  L2.PI.to (pi_range1 hg hm ha hs) fun σ H R ⟨m, S, Rm, Em, h1, h2, h3, h4, h5⟩ => ⟨m, S, _, Em, h1, h2, h3, fun ds S1 vs H1 q e s r => by
    dsimp only at q
    split at q
    · obtain ⟨v, rfl, r1⟩ := rds1 r
      cases r1
      exact ⟨_, rfl, q.1.1, q.1.2, h4 _ _ S1 _ H1 q.2 e s (itok_rng _ _)⟩
    · exact q.elim, h5⟩
/-- two values in a new pair -/
theorem pair_new {K : PySem.W.Frag} {H : Hp} {S : Sto} {T : Addr} {v w : V} {d e : D} (s : RSto K H S) (hT : H T = none) (r1 : RD K H S v d) (r2 : RD K H S w e) : Ext H S (upd H T (.tup [v, w])) S ∧ RSto K (upd H T (.tup [v, w])) S ∧ RD K (upd H T (.tup [v, w])) S (.ref T) (.tup [d, e]) := by
  have x := Ext.new (u := .tup [v, w]) s hT
  exact ⟨x, s.new hT, .tup (.inl upd_same) (s.fresh hT) (.cons (r1.ext x) (.cons (r2.ext x) .nil))⟩
/-- enumerate(a list) -/
def enumD (ds : List D) : List D := ds.zipIdx.map fun p => .tup [.int (p.2 : Nat), p.1]
theorem enumD_len (ds : List D) : (enumD ds).length = ds.length := by unfold enumD; rw [List.length_map, List.length_zipIdx]
theorem enumD_get {ds : List D} {i : Nat} {d : D} (h : (enumD ds)[i]? = some d) : ∃ x, ds[i]? = some x ∧ d = .tup [.int (i : Nat), x] := by
  unfold enumD at h
  rw [List.getElem?_map, List.getElem?_zipIdx] at h
  cases e : ds[i]? with
  | none => rw [e] at h; cases h
  | some x => rw [e] at h; cases h; exact ⟨x, rfl, by rw [Nat.zero_add]⟩
def iEn (t : MA) : MI := fun σ S R E => t σ S (fun ds S1 => match ds with
  | [d] => match lstOf S1 d with
    | some xs => R (enumD xs) (fun S' => lstOf S' d = some xs) S1
    | none => False
  | _ => False) E
theorem ien {mas : MA} {p tpos : Pos} {elts : List Expr} {kk : Nat} (hm : X.mg "enumerate" = none) (ha : PA X [e] (upA X.K W mas)) (hg : Gl X "enumerate" := by rfl) (hs : starEach [e] X.env = [(false, eval e X.env)] := by rfl) :
    PI X (.Tuple elts kk tpos) (.Call (.Name "enumerate" p) [e] [] pos) (upI X.K W (iEn mas)) :=
  L2.PI.to (pi_enum hg hm ha hs) fun σ H R ⟨m, S, Rm, Em, h1, h2, h3, h4, h5⟩ => ⟨m, S, _, Em, h1, h2, h3, fun ds S1 vs H1 q e1 s r => by
    dsimp only at q
    split at q
    · next d =>
      obtain ⟨v, rfl, r1⟩ := rds1 r
      cases e2 : lstOf S1 d with
      | none => rw [e2] at q; exact q.elim
      | some xs =>
        rw [e2] at q
        obtain ⟨a, us, rfl, hq, _⟩ := lst_sq s r1 e2
        refine ⟨a, us, rfl, hq, h4 _ _ S1 _ H1 q e1 s ⟨fun i H' S' e s' g hi => ?_, fun i H' S' v H'' x e s' g hx y => ?_, fun i H' S' e s' g hi => ?_⟩⟩
        · rw [enumD_len] at hi
          obtain ⟨a', vs', ea, hq', rs'⟩ := lst_sq s' (r1.ext e) g
          cases ea
          exact ⟨vs', vs'[i]'(by rw [rs'.length]; exact hi), hq', List.getElem?_eq_getElem _⟩
        · obtain ⟨a', vs', ea, hq', rs'⟩ := lst_sq s' (r1.ext e) g
          cases ea
          obtain ⟨T, w, rfl, hT, rfl, hy⟩ := y
          obtain ⟨z, hz, rfl⟩ := enumD_get hx
          obtain ⟨w', hw, rw'⟩ := rs'.get hz
          have : w = w' := Option.some.inj ((hy _ hq').symm.trans hw)
          subst this
          exact pair_new s' hT (.int _) rw'
        · rw [enumD_len] at hi
          obtain ⟨a', vs', ea, hq', rs'⟩ := lst_sq s' (r1.ext e) g
          cases ea
          exact ⟨vs', hq', by rw [rs'.length]; exact hi⟩
    · exact q.elim, h5⟩
/-- zip of two lists -/
def zipD (xs ys : List D) : List D := List.zipWith (fun x y => .tup [x, y]) xs ys
def iZp (t : MA) : MI := fun σ S R E => t σ S (fun ds S1 => match ds with
  | [d, e] => match lstOf S1 d, lstOf S1 e with
    | some xs, some ys => R (zipD xs ys) (fun S' => lstOf S' d = some xs ∧ lstOf S' e = some ys) S1
    | _, _ => False
  | _ => False) E
end
/-! ### a def keeps its promise -/
/-- the wish of a def about exceptions -/
abbrev wM (E : XK) : WX := fun cls d _ H => E cls d H
abbrev cxM (P : Program) (w : World) (K : PySem.W.Frag) (mg : Str → Option Value) (base : Heap) (N : List Str) (qual : Str) (st : Stmt) (f : Addr) (cdv : Value) (A : Around) (outer : List Env) (s : Shared) (H : Hp) (E : XK) : Cx :=
  cxOf (L2.CX P w) P w K mg base N qual (defScope st) f cdv A outer s H E
theorem tkM {P : Program} {w : World} {K : PySem.W.Frag} {mg : Str → Option Value} {base : Heap} {N : List Str} {qual : Str} {st : Stmt} {f : Addr} {cdv : Value} {A : Around} {outer : List Env} {s : Shared} {H : Hp} {E : XK} :
    Takes (cxM P w K mg base N qual st f cdv A outer s H E) (wM E) := takes_of rfl rfl rfl rfl
theorem poM {P : Program} {w : World} {K : PySem.W.Frag} {mg : Str → Option Value} {base : Heap} {N : List Str} {qual : Str} {st : Stmt} {f : Addr} {cdv : Value} {A : Around} {outer : List Env} {s : Shared} {H : Hp} {E : XK} :
    PassesOwn (model P w) (cxM P w K mg base N qual st f cdv A outer s H E).A (cxM P w K mg base N qual st f cdv A outer s H E).env (cxM P w K mg base N qual st f cdv A outer s H E).xe := passes_of rfl
/-- the slots at a def's entry -/
def mstart (n : Nat) (ds : List D) : MSt := ds.map some ++ List.replicate n none
def mends (Q : MQ) (E : MXQ) : MEnds := { nx := fun _ S' => Q .non S', rt := Q, ex := fun x _ S' => E x S' }
/-- a def keeps its promise: its body by the rules, and the reading -/
theorem fn_mk {P : Program} {w : World} {K : PySem.W.Frag} {mg : Str → Option Value} {base : Heap} {x qual : Str} {st : Stmt} {f : Addr} {fd : FuncData} {N ps : List Str} {k n : Nat} {sp : MSp} {body : MS}
    (F : FunD K x qual (defArgs st) (defBody st) (defScope st) [] [] f fd) (S : FnScope N ps (defScope st)) (hn : N.length - ps.length = n)
    (len : ∀ ds S Q E, sp ds S Q E → ds.length = ps.length)
    (hbody : ∀ (cdv : Value) (A : Around) (outer : List Env) (s : Shared) (H : Hp) (E : XK), Room k (cxM P w K mg base N qual st f cdv A outer s H E).A → PSs (cxM P w K mg base N qual st f cdv A outer s H E) (defBody st) (upS K (wM E) body))
    (read : ∀ ds S Q E, sp ds S Q E → body (mends Q E) (mstart n ds) S) : FnOk P w K mg base (L2.CX P w) (k + 1) f fd ps (upSp K sp) := by
  refine F.ok S (fun vs H Q E ⟨ds, S, Qm, Em, h1, h2, h3, h4⟩ => by rw [h1.length]; exact len ds S Qm Em h3) fun cdv A outer s H vs Q E hr hsp => ?_
  refine ⟨_, hbody cdv A outer s H E hr, ?_⟩
  obtain ⟨ds, S, Qm, Em, h1, h2, h3, h4, h5⟩ := hsp
  have hl : vs.length = ps.length := by rw [h1.length]; exact len ds S Qm Em h3
  refine ⟨_, S, _, ?_, h2, read ds S Qm Em h3, ⟨fun m S' σ H' q e s r => h4 .non S' .non H' q e s .non, h4, fun _ _ _ _ z => z.elim, fun _ _ _ _ z => z.elim, fun x m S' c d σ H' q e s r rx => h5 x S' c d H' q e s rx⟩⟩
  unfold L2.start
  rw [hl, hn]
  exact RSt.start _ h1
/-! ### the law -/
def spLaw : MSp := fun ds _ Q _ => ∃ ns : List Int, ds = [.scr (ns.map .int)] ∧ ns.length ≤ 63 ∧ ∀ S', Q (.bl true) S'
theorem law_sp {K : PySem.W.Frag} {H : Hp} {a : Addr} {ns : List Int} (hl : ns.length ≤ 63) (hO : Only H) (hS : SqL K H a (ns.map V.int)) : upSp K spLaw [.ref a] H (fun v _ => v = .bl true) fun _ _ _ => False := by
  have r : RD K H (fun _ => none) (.ref a) (.scr (ns.map .int)) := by
    rcases hS with (h | ⟨o, h⟩) | ⟨o, its, n, h1, h2, h3, h4, h5, h6⟩
    · rcases hO a with z | ⟨o, xs, z⟩
      · rw [h] at z; cases z
      · rw [h] at z; cases z
    · exact .scr h rfl RDs.of_ints
    · exact .klst h1 h2 h3 h4 h5 h6 RDs.of_ints
  refine ⟨[.scr (ns.map .int)], fun _ => none, fun d _ => d = .bl true, fun _ _ => False, .cons r .nil, ?_, ⟨ns, rfl, hl, fun _ => rfl⟩, ?_, ?_⟩
  · intro _ _ e; cases e
  · intro d S' v H' q _ _ r
    have q' : d = .bl true := q
    rw [q'] at r
    cases r; rfl
  · intro x S' cls d H' q _ _ _; exact q
theorem law_cx {P : Program} {w : World} (H : Hp) (s : Shared) (e : Value) (s' : Shared) (h : L2.CX P w [] H s (fun _ _ _ => False) e s') : False := by
  obtain ⟨_, _, _, _, _, _, _, _, _, _, _, _, z⟩ := h
  exact z.elim
/-- the goal that the head leaves -/
theorem law_end {l : PySem.W.OpenLaw} {k : Nat} {q : Program} {loose : List Str} {XP : (Str → Option Value) → Heap → Prop} {YP : World → Heap → Prop} {d : DefRec} {x : Str} (hn : l.most = some 63) (hdf : d.params.defaults = []) (hr : Room k callerA)
    (F : ∀ (w : World) (mg : Str → Option Value) (fa : Addr) (h : Heap), YP w h → h.Ns mainGlobals mg → mg d.name = some (.ref fa) → ∃ (K : PySem.W.Frag) (fd : FuncData), K.In h ∧ (∀ (s : Shared) (u : Value), BindsTo s fd ⟨[u], []⟩ [(x, u)]) ∧
      ∀ base : Heap, K.In base → base.Ns mainGlobals mg → FnOk l.prog w K mg base (L2.CX l.prog w) k fa fd [x] (upSp K spLaw)) : PySem.W.WalkO q loose XP YP l.row.toRowW d [] (fun f vs => PySem.call f vs) := by
  apply Att.attach_call hn hdf
  intro w _ s1 mg _ fa _ _ _ _ a vs ns G Y _ _ _ hmg hobj hints hlen hg
  have ⟨K, fd, KX, hb, hF⟩ := F w mg fa _ Y G.T.g hmg
  have h63 : ns.length ≤ sizeLine := by rw [sizeLine_eq]; omega
  refine law_call KX G.T.g G.T.b G.T.builtins G.T.nolimit hg hobj hints h63 hr hF hb ?_ ?_
  · intro H hO hS; exact law_sp hlen hO hS
  · intro H e s' z; exact law_cx H s1 e s' z
end ML
set_option maxRecDepth 100000
namespace ML
open PySem PySem.Spec L2
open PyProof.Rows hiding St
/-! ### equality of data -/
mutual
def D.py : D → PyData
  | .non => .none
  | .bl b => .bool b
  | .int i => .int i
  | .str x => .str x
  | .tup ds => .tuple (D.pys ds)
  | .lst ds => .list (D.pys ds)
  | .scr ds => .list (D.pys ds)
  | .ref _ => .none
def D.pys : List D → List PyData
  | [] => []
  | d :: ds => D.py d :: D.pys ds
end
mutual
/-- no address, no truth within; texts as the model's equality wants them -/
def D.plain : D → Bool
  | .non => true
  | .bl _ => false
  | .int _ => true
  | .str x => PyData.strOk x
  | .tup ds => D.plains ds
  | .lst ds => D.plains ds
  | .scr ds => D.plains ds
  | .ref _ => false
def D.plains : List D → Bool
  | [] => true
  | d :: ds => D.plain d && D.plains ds
end
mutual
def D.deq : D → D → Bool
  | .non, .non => true
  | .bl a, .bl b => a == b
  | .int a, .int b => a == b
  | .str a, .str b => a == b
  | .tup a, .tup b => D.deqs a b
  | .lst a, .lst b => D.deqs a b
  | .lst a, .scr b => D.deqs a b
  | .scr a, .lst b => D.deqs a b
  | .scr a, .scr b => D.deqs a b
  | _, _ => false
def D.deqs : List D → List D → Bool
  | [], [] => true
  | a :: as, b :: bs => D.deq a b && D.deqs as bs
  | _, _ => false
end
mutual
def D.dep : D → Nat
  | .tup ds => D.deps ds + 1
  | .lst ds => D.deps ds + 1
  | .scr ds => D.deps ds + 1
  | _ => 0
def D.deps : List D → Nat
  | [] => 0
  | d :: ds => max (D.dep d) (D.deps ds)
end
mutual
theorem D.dep_py : ∀ d : D, (D.py d).depth = D.dep d
  | .non => rfl
  | .bl _ => rfl
  | .int _ => rfl
  | .str _ => rfl
  | .tup ds => by rw [D.py, PyData.depth, D.dep, D.deps_py ds]
  | .lst ds => by rw [D.py, PyData.depth, D.dep, D.deps_py ds]
  | .scr ds => by rw [D.py, PyData.depth, D.dep, D.deps_py ds]
  | .ref _ => rfl
theorem D.deps_py : ∀ ds : List D, PyData.depthAll (D.pys ds) = D.deps ds
  | [] => rfl
  | d :: ds => by rw [D.pys, PyData.depthAll, D.deps, D.dep_py d, D.deps_py ds]
end
mutual
theorem D.lay_py : ∀ d : D, D.plain d = true → (D.py d).canLay0 = true
  | .non, _ => by rw [D.py, PyData.canLay0]
  | .bl _, h => by cases h
  | .int _, _ => by rw [D.py, PyData.canLay0]
  | .str x, h => by rw [D.py, PyData.canLay0]; exact h
  | .tup ds, h => by rw [D.py, PyData.canLay0]; exact D.lays_py ds h
  | .lst ds, h => by rw [D.py, PyData.canLay0]; exact D.lays_py ds h
  | .scr ds, h => by rw [D.py, PyData.canLay0]; exact D.lays_py ds h
  | .ref _, h => by cases h
theorem D.lays_py : ∀ ds : List D, D.plains ds = true → PyData.canLayAll0 (D.pys ds) = true
  | [], _ => by rw [D.pys, PyData.canLayAll0]
  | d :: ds, h => by
    obtain ⟨h1, h2⟩ := Bool.and_eq_true_iff.mp (show (D.plain d && D.plains ds) = true from h)
    rw [D.pys, PyData.canLayAll0, D.lay_py d h1, D.lays_py ds h2]; rfl
end
mutual
theorem D.eqv_py : ∀ d e : D, D.plain d = true → D.plain e = true → PyData.eqv (D.py d) (D.py e) = D.deq d e
  | .bl _, _, h, _ => by cases h
  | .ref _, _, h, _ => by cases h
  | .non, e, _, h => by cases e <;> first | (cases h; done) | simp [D.py, PyData.eqv, D.deq]
  | .int _, e, _, h => by cases e <;> first | (cases h; done) | simp [D.py, PyData.eqv, D.deq]
  | .str _, e, _, h => by cases e <;> first | (cases h; done) | simp [D.py, PyData.eqv, D.deq]
  | .tup ds, e, h1, h => by
    cases e with
    | tup es => rw [D.py, D.py, PyData.eqv, D.deq]; exact D.eqvs_py ds es h1 h
    | bl _ => cases h
    | ref _ => cases h
    | _ => simp [D.py, PyData.eqv, D.deq]
  | .lst ds, e, h1, h => by
    cases e with
    | lst es => rw [D.py, D.py, PyData.eqv, D.deq]; exact D.eqvs_py ds es h1 h
    | scr es => rw [D.py, D.py, PyData.eqv, D.deq]; exact D.eqvs_py ds es h1 h
    | bl _ => cases h
    | ref _ => cases h
    | _ => simp [D.py, PyData.eqv, D.deq]
  | .scr ds, e, h1, h => by
    cases e with
    | lst es => rw [D.py, D.py, PyData.eqv, D.deq]; exact D.eqvs_py ds es h1 h
    | scr es => rw [D.py, D.py, PyData.eqv, D.deq]; exact D.eqvs_py ds es h1 h
    | bl _ => cases h
    | ref _ => cases h
    | _ => simp [D.py, PyData.eqv, D.deq]
theorem D.eqvs_py : ∀ ds es : List D, D.plains ds = true → D.plains es = true → PyData.eqvAll (D.pys ds) (D.pys es) = D.deqs ds es
  | [], [], _, _ => by rw [D.pys, PyData.eqvAll, D.deqs]
  | [], _ :: _, _, _ => by simp [D.pys, PyData.eqvAll, D.deqs]
  | _ :: _, [], _, _ => by simp [D.pys, PyData.eqvAll, D.deqs]
  | d :: ds, e :: es, h1, h2 => by
    obtain ⟨a1, a2⟩ := Bool.and_eq_true_iff.mp (show (D.plain d && D.plains ds) = true from h1)
    obtain ⟨b1, b2⟩ := Bool.and_eq_true_iff.mp (show (D.plain e && D.plains es) = true from h2)
    rw [D.pys, D.pys, PyData.eqvAll, D.deqs, D.eqv_py d e a1 b1, D.eqvs_py ds es a2 b2]
end
theorem D.shaped_py {d : D} (h : D.plain d = true) (hd : D.dep d ≤ 64) : SeqAt.shaped (D.py d) = true := by
  unfold SeqAt.shaped
  rw [D.lay_py d h, D.dep_py d, decide_eq_true hd]; rfl
mutual
theorem RD.dp {K : PySem.W.Frag} {H : Hp} {S : Sto} : ∀ {v : V} {d : D}, RD K H S v d → D.plain d = true → Dp K H v (D.py d)
  | _, _, .non, _ => by rw [D.py]; exact .non
  | _, _, .bl _, h => by cases h
  | _, _, .int i, _ => by rw [D.py]; exact .int i
  | _, _, .str x, _ => by rw [D.py]; exact .str x
  | _, _, .ref _, h => by cases h
  | _, _, .tup h n r, k => by rw [D.py]; exact .tup (.inl h) (RDs.dp r k)
  | _, _, .lst h n r, k => by rw [D.py]; exact .lst (.inl (.inl h)) (RDs.dp r k)
  | _, _, .scr h n r, k => by rw [D.py]; exact .lst (.inl (.inr ⟨_, h⟩)) (RDs.dp r k)
  | _, _, .ktup h1 h2 h3 h4 h5 r, k => by rw [D.py]; exact .tup (.inr ⟨_, _, _, h1, h2, h3, h4, h5⟩) (RDs.dp r k)
  | _, _, .klst h1 h2 h3 h4 h5 h6 r, k => by rw [D.py]; exact .lst (.inr ⟨_, _, _, h1, h2, h3, h4, h5, h6⟩) (RDs.dp r k)
theorem RDs.dp {K : PySem.W.Frag} {H : Hp} {S : Sto} : ∀ {vs : List V} {ds : List D}, RDs K H S vs ds → D.plains ds = true → DpAll K H vs (D.pys ds)
  | _, _, .nil, _ => by rw [D.pys]; exact .nil
  | _, _, .cons (d := d) (ds := ds) h r, k => by
    obtain ⟨a1, a2⟩ := Bool.and_eq_true_iff.mp (show (D.plain d && D.plains ds) = true from k)
    rw [D.pys]; exact .cons (RD.dp h a1) (RDs.dp r a2)
end
/-- a list of the store is looked at as it stands -/
def look (S : Sto) : D → D
  | .ref p => match S p with
    | some (.lst ds) => .lst ds
    | _ => .ref p
  | d => d
theorem look_dp {K : PySem.W.Frag} {H : Hp} {S : Sto} {v : V} {d : D} (s : RSto K H S) (r : RD K H S v d) (h : D.plain (look S d) = true) : Dp K H v (D.py (look S d)) := by
  cases d with
  | ref p =>
    cases r
    simp only [look] at h ⊢
    cases e : S p with
    | none => rw [e] at h; cases h
    | some o =>
      rw [e] at h
      cases o with
      | lst ds =>
        obtain ⟨vs, e1, r1⟩ := s p _ e
        simp only
        rw [D.py]
        exact .lst (.inl (.inl e1)) (r1.dp h)
      | _ => cases h
  | _ => exact r.dp h
def eqOk (d e : D) : Bool := match d, e with
  | .bl _, .bl _ => true
  | d, e => D.plain d && D.plain e && decide (D.dep d ≤ 64) && decide (D.dep e ≤ 64)
theorem eqOk_at {d e : D} (h : eqOk d e = true) : (∃ a b, d = .bl a ∧ e = .bl b) ∨ (D.plain d = true ∧ D.plain e = true ∧ D.dep d ≤ 64 ∧ D.dep e ≤ 64) := by
  unfold eqOk at h
  split at h
  · exact .inl ⟨_, _, rfl, rfl⟩
  · simp only [Bool.and_eq_true, decide_eq_true_eq] at h
    exact .inr ⟨h.1.1.1, h.1.1.2, h.1.2, h.2⟩
def rEqM : R2m := fun d e S Q => eqOk (look S d) (look S e) = true ∧ Q (.bl (D.deq (look S d) (look S e))) S
def rNeM : R2m := fun d e S Q => eqOk (look S d) (look S e) = true ∧ Q (.bl (!D.deq (look S d) (look S e))) S
section
variable {X : Cx} {W : WX} {a b c e tg : Expr} {ma mb mc m : ME} {pos : Pos}
theorem look_bl {S : Sto} {d : D} {a : Bool} (h : look S d = .bl a) : d = .bl a := by
  cases d with
  | ref p => simp only [look] at h; split at h <;> cases h
  | _ => exact h
theorem ol_eq : OpL X.K (fun x y H Q => rEq x y H Q ∨ rEqD X.K x y H Q) rEqM := fun H S x y d e Qm Q s rx ry ⟨h1, h2⟩ k => by
  rcases eqOk_at h1 with ⟨p, q, e1, e2⟩ | ⟨p1, p2, d1, d2⟩
  · rw [e1, e2] at h2
    cases look_bl e1; cases look_bl e2
    cases rx; cases ry
    refine .inl ⟨rfl, k _ S _ H h2 Ext.refl s ?_⟩
    rw [dec_bl]; rw [D.deq]; exact .bl _
  · refine .inr ⟨_, _, look_dp s rx p1, look_dp s ry p2, D.shaped_py p1 d1, D.shaped_py p2 d2, k _ S _ H h2 Ext.refl s ?_⟩
    rw [D.eqv_py _ _ p1 p2]; exact .bl _
theorem ol_ne : OpL X.K (fun x y H Q => rNe x y H Q ∨ rNeD X.K x y H Q) rNeM := fun H S x y d e Qm Q s rx ry ⟨h1, h2⟩ k => by
  rcases eqOk_at h1 with ⟨p, q, e1, e2⟩ | ⟨p1, p2, d1, d2⟩
  · rw [e1, e2] at h2
    cases look_bl e1; cases look_bl e2
    cases rx; cases ry
    refine .inl ⟨rfl, k _ S _ H h2 Ext.refl s ?_⟩
    rw [dec_bl]; rw [D.deq]; exact .bl _
  · refine .inr ⟨_, _, look_dp s rx p1, look_dp s ry p2, D.shaped_py p1 d1, D.shaped_py p2 d2, k _ S _ H h2 Ext.refl s ?_⟩
    rw [D.eqv_py _ _ p1 p2]; exact .bl _
theorem op_eqA (hu : X.A.units + 64 < cLine) : OpR X (compareOp .Eq) (fun x y H Q => rEq x y H Q ∨ rEqD X.K x y H Q) := op_eq.or (op_eqD hu)
theorem op_neA (hu : X.A.units + 64 < cLine) : OpR X (compareOp .NotEq) (fun x y H Q => rNe x y H Q ∨ rNeD X.K x y H Q) := op_ne.or (op_neD hu)
/-! ### in -/
theorem op_inDT (hu : X.A.units + 65 < cLine) : OpR X (compareOp .In) (fun x y H Q => ∃ d ds, Dp X.K H x d ∧ Dp X.K H y (.tuple ds) ∧ SeqAt.shaped d = true ∧ SeqAt.shaped (.tuple ds) = true ∧ Q (.bl (ds.any fun z => PyData.eqv z d)) H) := by
  intro pins s σ H x y v u Q I rx ry h
  have ⟨d, ds, hd, he, sd, se, q⟩ := h
  have ⟨as, r1⟩ := Dp.reads I d x v hd rx
  have ⟨bs, r2⟩ := Dp.reads I (.tuple ds) y u he ry
  have hm : min (PyData.depthAll ds) d.depth ≤ d.depth := Nat.min_le_right _ _
  have hd64 := SeqAt.depth_of_shaped sd
  exact SeqAt.in_tuple_reads r2 r1 (SeqAt.canLay_of_shaped se) (SeqAt.canLay_of_shaped sd) (by omega) ⟨.bl _, H, I, rfl, q⟩
theorem op_notInDT (hu : X.A.units + 65 < cLine) : OpR X (compareOp .NotIn) (fun x y H Q => ∃ d ds, Dp X.K H x d ∧ Dp X.K H y (.tuple ds) ∧ SeqAt.shaped d = true ∧ SeqAt.shaped (.tuple ds) = true ∧ Q (.bl (!ds.any fun z => PyData.eqv z d)) H) := by
  intro pins s σ H x y v u Q I rx ry h
  have ⟨d, ds, hd, he, sd, se, q⟩ := h
  have ⟨as, r1⟩ := Dp.reads I d x v hd rx
  have ⟨bs, r2⟩ := Dp.reads I (.tuple ds) y u he ry
  have hm : min (PyData.depthAll ds) d.depth ≤ d.depth := Nat.min_le_right _ _
  have hd64 := SeqAt.depth_of_shaped sd
  exact SeqAt.notIn_tuple_reads r2 r1 (SeqAt.canLay_of_shaped se) (SeqAt.canLay_of_shaped sd) (by omega) ⟨.bl _, H, I, rfl, q⟩
def memD (d : D) (ds : List D) : Bool := ds.any fun z => D.deq z d
theorem memD_py {d : D} {ds : List D} (h : D.plain d = true) (hs : D.plains ds = true) : ((D.pys ds).any fun z => PyData.eqv z (D.py d)) = memD d ds := by
  induction ds with
  | nil => rw [D.pys]; rfl
  | cons e es ih =>
    obtain ⟨a1, a2⟩ := Bool.and_eq_true_iff.mp (show (D.plain e && D.plains es) = true from hs)
    rw [D.pys]
    show (PyData.eqv (D.py e) (D.py d) || (D.pys es).any _) = (D.deq e d || memD d es)
    rw [D.eqv_py e d a1 h, ih a2]
/-- x in a list or a tuple -/
def rInM (neg : Bool) : R2m := fun d e S Q => match look S e with
  | .tup ds => (D.plain d = true ∧ D.plains ds = true ∧ D.dep d ≤ 64 ∧ D.deps ds ≤ 63) ∧ Q (.bl (if neg then !memD d ds else memD d ds)) S
  | .lst ds => (D.plain d = true ∧ D.plains ds = true ∧ D.dep d ≤ 64 ∧ D.deps ds ≤ 63) ∧ Q (.bl (if neg then !memD d ds else memD d ds)) S
  | .scr ds => (D.plain d = true ∧ D.plains ds = true ∧ D.dep d ≤ 64 ∧ D.deps ds ≤ 63) ∧ Q (.bl (if neg then !memD d ds else memD d ds)) S
  | _ => False
theorem rInM_at {neg : Bool} {d e : D} {S : Sto} {Q : MQ} (h : rInM neg d e S Q) : ∃ ds, (look S e = .tup ds ∨ look S e = .lst ds ∨ look S e = .scr ds) ∧ (D.plain d = true ∧ D.plains ds = true ∧ D.dep d ≤ 64 ∧ D.deps ds ≤ 63) ∧ Q (.bl (if neg then !memD d ds else memD d ds)) S := by
  unfold rInM at h
  split at h
  · next ds q => exact ⟨ds, .inl q, h⟩
  · next ds q => exact ⟨ds, .inr (.inl q), h⟩
  · next ds q => exact ⟨ds, .inr (.inr q), h⟩
  · exact h.elim
theorem ol_in : OpL X.K (fun x y H Q => rInD X.K x y H Q ∨ ∃ d ds, Dp X.K H x d ∧ Dp X.K H y (.tuple ds) ∧ SeqAt.shaped d = true ∧ SeqAt.shaped (.tuple ds) = true ∧ Q (.bl (ds.any fun z => PyData.eqv z d)) H) (rInM false) := fun H S x y d e Qm Q s rx ry h k => by
  obtain ⟨ds, hl, ⟨p1, p2, d1, d2⟩, q⟩ := rInM_at h
  have pl : D.plain (look S e) = true := by rcases hl with z | z | z <;> (rw [z]; exact p2)
  have dl : D.dep (look S e) ≤ 64 := by rcases hl with z | z | z <;> (rw [z, D.dep]; omega)
  have dp := look_dp s ry pl
  have sh := D.shaped_py pl dl
  have fin : ∀ K', RD K' H S (.bl ((D.pys ds).any fun z => PyData.eqv z (D.py d))) (.bl (memD d ds)) := fun _ => by rw [memD_py p1 p2]; exact .bl _
  rcases hl with z | z | z
  · rw [z, D.py] at dp sh
    exact .inr ⟨_, _, rx.dp p1, dp, D.shaped_py p1 d1, sh, k _ S _ H q Ext.refl s (fin _)⟩
  · rw [z, D.py] at dp sh
    exact .inl ⟨_, _, rx.dp p1, dp, D.shaped_py p1 d1, sh, k _ S _ H q Ext.refl s (fin _)⟩
  · rw [z, D.py] at dp sh
    exact .inl ⟨_, _, rx.dp p1, dp, D.shaped_py p1 d1, sh, k _ S _ H q Ext.refl s (fin _)⟩
theorem ol_notIn : OpL X.K (fun x y H Q => rNotInD X.K x y H Q ∨ ∃ d ds, Dp X.K H x d ∧ Dp X.K H y (.tuple ds) ∧ SeqAt.shaped d = true ∧ SeqAt.shaped (.tuple ds) = true ∧ Q (.bl (!ds.any fun z => PyData.eqv z d)) H) (rInM true) := fun H S x y d e Qm Q s rx ry h k => by
  obtain ⟨ds, hl, ⟨p1, p2, d1, d2⟩, q⟩ := rInM_at h
  have pl : D.plain (look S e) = true := by rcases hl with z | z | z <;> (rw [z]; exact p2)
  have dl : D.dep (look S e) ≤ 64 := by rcases hl with z | z | z <;> (rw [z, D.dep]; omega)
  have dp := look_dp s ry pl
  have sh := D.shaped_py pl dl
  have fin : ∀ K', RD K' H S (.bl (!(D.pys ds).any fun z => PyData.eqv z (D.py d))) (.bl (!memD d ds)) := fun _ => by rw [memD_py p1 p2]; exact .bl _
  rcases hl with z | z | z
  · rw [z, D.py] at dp sh
    exact .inr ⟨_, _, rx.dp p1, dp, D.shaped_py p1 d1, sh, k _ S _ H q Ext.refl s (fin _)⟩
  · rw [z, D.py] at dp sh
    exact .inl ⟨_, _, rx.dp p1, dp, D.shaped_py p1 d1, sh, k _ S _ H q Ext.refl s (fin _)⟩
  · rw [z, D.py] at dp sh
    exact .inl ⟨_, _, rx.dp p1, dp, D.shaped_py p1 d1, sh, k _ S _ H q Ext.refl s (fin _)⟩
theorem op_inA (hu : X.A.units + 65 < cLine) : OpR X (compareOp .In) (fun x y H Q => rInD X.K x y H Q ∨ ∃ d ds, Dp X.K H x d ∧ Dp X.K H y (.tuple ds) ∧ SeqAt.shaped d = true ∧ SeqAt.shaped (.tuple ds) = true ∧ Q (.bl (ds.any fun z => PyData.eqv z d)) H) := (op_inD hu).or (op_inDT hu)
theorem op_notInA (hu : X.A.units + 65 < cLine) : OpR X (compareOp .NotIn) (fun x y H Q => rNotInD X.K x y H Q ∨ ∃ d ds, Dp X.K H x d ∧ Dp X.K H y (.tuple ds) ∧ SeqAt.shaped d = true ∧ SeqAt.shaped (.tuple ds) = true ∧ Q (.bl (!ds.any fun z => PyData.eqv z d)) H) := (op_notInD hu).or (op_notInDT hu)
/-! ### is True, is False -/
def rIsBM (neg : Bool) : R2m := fun d e S Q => match d, e with
  | .bl p, .bl q => Q (.bl (if neg then !decide (p = q) else decide (p = q))) S
  | _, _ => False
/-! ### isinstance with built-in types -/
def tyD (S : Sto) : D → Option String
  | .non => some "NoneType"
  | .bl _ => some "bool"
  | .int _ => some "int"
  | .str _ => some "str"
  | .tup _ => some "tuple"
  | .lst _ => some "list"
  | .scr _ => some "list"
  | .ref p => match S p with
    | some (.lst _) => some "list"
    | some (.dK _) => some "dict"
    | _ => none
/-- isinstance of these types by these -/
def isTy (t u : String) : Bool := t == u || (t == "bool" && u == "int")
theorem tyD_ok {K : PySem.W.Frag} {H : Hp} {S : Sto} {v : V} {d : D} {t : String} (s : RSto K H S) (r : RD K H S v d) (h : tyD S d = some t) : TyX K H v (.type t) := by
  cases r with
  | non => cases h; exact .base .non
  | bl b => cases h; exact .base (.bl b)
  | int i => cases h; exact .base (.int i)
  | str x => cases h; exact .base (.str x)
  | tup h1 n r =>
    cases h
    rcases h1 with h1 | ⟨o, h1⟩
    · exact .base (.tup h1)
    · exact .fTuple h1
  | lst h1 n r => cases h; exact .base (.lst h1)
  | scr h1 n r => cases h; exact .base (.frz h1)
  | ktup h1 h2 h3 h4 h5 r => cases h; exact .kTuple h1 h2
  | klst h1 h2 h3 h4 h5 h6 r => cases h; exact .kList h1 h2
  | ref p =>
    simp only [tyD] at h
    cases e : S p with
    | none => rw [e] at h; cases h
    | some o =>
      rw [e] at h
      have q := s p o e
      cases o with
      | lst ds => obtain ⟨vs, e1, _⟩ := q; cases h; exact .base (.lst e1)
      | dK kvs => obtain ⟨vs, e1, _⟩ := q; cases h; exact .base (.dK e1)
      | ins C fs => cases h
      | exc C fs => cases h
      | dT kvs => cases h
      | dS kvs => cases h
      | tbl p q' => cases h
      | dF o vs kvs => cases h
def mIsi (u : String) (m : ME) : ME := fun σ S Q E => m σ S (fun d S1 => match tyD S1 d with
  | some t => Q (.bl (isTy t u)) S1
  | none => False) E
/-- the model's own answers on these types -/
def kitTab (K : PySem.W.Frag) (u : String) : Prop := ∀ t, t ∈ ["NoneType", "bool", "int", "str", "tuple", "list", "dict"] → PySem.W.kitOne K (.type t) (.type u) = some (isTy t u)
theorem tyD_mem {S : Sto} {d : D} {t : String} (h : tyD S d = some t) : t ∈ ["NoneType", "bool", "int", "str", "tuple", "list", "dict"] := by
  cases d with
  | ref p =>
    simp only [tyD] at h
    split at h
    · cases h; decide
    · cases h; decide
    · cases h
  | _ => cases h; decide
theorem eisi {u : String} {x : Str} {p px : Pos} (kt : kitTab X.K u) (hm : X.mg "isinstance" = none) (hmu : X.mg x = none) (ha : PE X a (upE X.K W m)) (hu : bootBuiltins x = some (.type u) := by decide +kernel) (hg : Gl X "isinstance" := by rfl) (hgu : Gl X x := by rfl)
    (hn : x ≠ "__name__" := by decide) (hdb : (x == ("__debug__" : Str)) = false := by decide)
    (hs : starEach (a :: [.Name x px]) X.env = (false, eval a X.env) :: starEach [.Name x px] X.env := by rfl) (hs2 : starEach (.Name x px :: []) X.env = (false, eval (.Name x px) X.env) :: starEach [] X.env := by rfl) (hpl : (backTo pos (starEach [.Name x px] X.env)).any (·.1) = false := by rfl) :
    PE X (.Call (.Name "isinstance" p) [a, .Name x px] [] pos) (upE X.K W (mIsi u m)) :=
  (pe_callB call_isi hg hm (by decide +kernel) (pa_cons ha (pa_cons (pe_bltn (v := .ty u) hgu hmu hu rfl hn hdb) pa_nil hs2) hs) (by decide) (by decide) hs hpl).to fun σ H Q ⟨m, S, Qm, Em, h1, h2, h3, h4, h5⟩ =>
    ⟨m, S, _, Em, h1, h2, h3, fun d S1 v H1 q e s r => by
      dsimp only at q
      cases ht : tyD S1 d with
      | none => rw [ht] at q; exact q.elim
      | some t =>
        rw [ht] at q
        exact ⟨v, .ty u, .type t, .type u, isTy t u, rfl, .ty u, tyD_ok s r ht, kt t (tyD_mem ht), h4 _ S1 _ H1 q e s (.bl _)⟩, h5⟩
/-! ### slices -/
def cutD (xs : List D) (lo hi : Option Int) : List D := (xs.drop (HT.sIx xs.length 0 lo)).take (HT.sIx xs.length xs.length hi - HT.sIx xs.length 0 lo)
theorem cut_rds {K : PySem.W.Frag} {H : Hp} {S : Sto} {vs : List V} {ds : List D} (r : RDs K H S vs ds) (lo hi : Option Int) : RDs K H S (cutV vs lo hi) (cutD ds lo hi) := by
  unfold cutV cutD
  rw [r.length]
  exact (r.drop _).take _
abbrev MO' := MSt → Sto → (Option Int → Sto → Prop) → MXQ → Prop
def upO (K : PySem.W.Frag) (W : WX) (m : MO') : TO := fun σ H Q => ∃ mσ S Qm Em, RSt K H S σ mσ ∧ RSto K H S ∧ m mσ S Qm Em ∧ (∀ o S' H', Qm o S' → Ext H S H' S' → RSto K H' S' → Q o H') ∧ RefX K H S Em (fun c d H' => W c d σ H')
def oNo : MO' := fun _ S Q _ => Q none S
def oSo (m : ME) : MO' := fun σ S Q E => m σ S (fun d S1 => match d with
  | .int i => Q (some i) S1
  | _ => False) E
theorem PO_to {oe : Option Expr} {t t' : TO} (h : PO X oe t) (i : ∀ σ H Q, t' σ H Q → t σ H Q) : PO X oe t' := by
  constructor
  intros
  apply h.run
  · assumption
  · exact i _ _ _ (by assumption)
theorem ono : PO X none (upO X.K W oNo) := PO_to po_none fun σ H Q ⟨m, S, Qm, Em, h1, h2, h3, h4, h5⟩ => h4 none S H h3 Ext.refl h2
theorem oso (h : PE X e (upE X.K W m)) : PO X (some e) (upO X.K W (oSo m)) := PO_to (po_some h) fun σ H Q ⟨m, S, Qm, Em, h1, h2, h3, h4, h5⟩ => ⟨m, S, _, Em, h1, h2, h3, fun d S1 v H1 q e s r => by
  cases d with
  | int i => cases r; exact ⟨i, rfl, h4 _ S1 H1 q e s⟩
  | _ => exact q.elim, h5⟩
/-- xs[lo:hi] of a list: a new one, which stays; of a tuple (not the whole of it) -/
def mCut (m : ME) (lo hi : MO') : ME := fun σ S Q E => m σ S (fun d S1 => lo σ S1 (fun l S2 => hi σ S2 (fun u S3 => match d with
  | .tup xs => ¬ (HT.sIx xs.length 0 l = 0 ∧ HT.sIx xs.length xs.length u = xs.length) ∧ Q (.tup (cutD xs l u)) S3
  | d => match lstOf S3 d with
    | some xs => Q (.lst (cutD xs l u)) S3
    | none => False) E) E) E
theorem ecut {lo hi : Option Expr} {ml mh : MO'} {p2 : Pos} (he : PE X e (upE X.K W m)) (hl : PO X lo (upO X.K W ml)) (hu : PO X hi (upO X.K W mh)) : PE X (.Subscript e (.Slice lo hi none p2) pos) (upE X.K W (mCut m ml mh)) :=
  (pe_slice (sl_tup.or sl_list) he hl hu).to fun σ H Q ⟨m, S, Qm, Em, h1, h2, h3, h4, h5⟩ => by
    refine ⟨m, S, _, Em, h1, h2, h3, fun d S1 v H1 q1 e1 s1 r1 => ⟨m, S1, _, Em, h1.ext e1, s1, q1, fun l S2 H2 q2 e2 s2 => ⟨m, S2, _, Em, h1.ext (e1.trans e2), s2, q2, fun u S3 H3 q3 e3 s3 => ?_, h5.ext (e1.trans e2)⟩, h5.ext e1⟩, h5⟩
    have r3 := r1.ext (e2.trans e3)
    have e123 := e1.trans (e2.trans e3)
    split at q3
    · next xs =>
      obtain ⟨a, vs, rfl, hq, rs⟩ := r3.tupSq
      refine .inl ⟨a, vs, rfl, hq, by rw [rs.length]; exact q3.1, fun p hp => ?_⟩
      exact h4 _ S3 _ _ q3.2 (e123.trans (Ext.new s3 hp)) (s3.new hp) (.tup (.inl upd_same) (s3.fresh hp) ((cut_rds rs l u).ext (Ext.new s3 hp)))
    · cases e : lstOf S3 d with
      | none => rw [e] at q3; exact q3.elim
      | some xs =>
        rw [e] at q3
        obtain ⟨a, vs, rfl, hq, rs⟩ := lst_sq s3 r3 e
        exact .inr ⟨a, vs, rfl, hq, fun p hp => h4 _ S3 _ _ q3 (e123.trans (Ext.new s3 hp)) (s3.new hp) (.lst upd_same (s3.fresh hp) ((cut_rds rs l u).ext (Ext.new s3 hp)))⟩
/-! ### methods of lists -/
/-- the receiver is a list -/
def isLst (S : Sto) (d : D) : Prop := ∃ xs, lstOf S d = some xs
abbrev RMm := D → List D → Sto → MQ → Prop
def MtL (K : PySem.W.Frag) (r : V → List V → Hp → VK → Prop) (rm : RMm) : Prop := ∀ (H : Hp) (S : Sto) (x : V) (xs : List V) (d : D) (ds : List D) (Qm : MQ) (Q : VK), RSto K H S → RD K H S x d → RDs K H S xs ds → rm d ds S Qm → Ref K H S Qm Q → r x xs H Q
def mMt (rm : RMm) (mo : ME) (t : MA) : ME := fun σ S Q E => mo σ S (fun d S1 => isLst S1 d ∧ t σ S1 (fun ds S2 => rm d ds S2 Q) E) E
def mMt0 (rm : RMm) (mo : ME) : ME := fun σ S Q E => mo σ S (fun d S1 => isLst S1 d ∧ rm d [] S1 Q) E
theorem isLst_ty {K : PySem.W.Frag} {H : Hp} {S : Sto} {v : V} {d : D} (s : RSto K H S) (r : RD K H S v d) (h : isLst S d) : tyV K "list" v H := by
  obtain ⟨xs, e⟩ := h
  obtain ⟨a, vs, rfl, hq, _⟩ := lst_sq s r e
  exact .inl ⟨rfl, vs, hq⟩
theorem emt {id : String} {name : Str} {r : V → List V → Hp → VK → Prop} {rm : RMm} {o : Expr} {mo : ME} {es : List Expr} {mas : MA} {apos cpos : Pos} (slot : Slot "list" name id) (hty : typeOf (.builtin id) = pure (.type "method_descriptor")) (hm : MtR X id r) (hl : MtL X.K r rm) (ho : PE X o (upE X.K W mo)) (ha : PA X (e :: es) (upA X.K W mas))
    (hbase : attributeBase o name X.env (eval o X.env) = eval o X.env := by rfl)
    (hfew : ((backTo cpos (starEach (e :: es) X.env)).all (fun x => !x.1) && (backToKw cpos (keywordEach [] X.env)).all (fun x => x.1.isSome)
      && decide ((e :: es).length + ([] : List Keyword).length + (if ([] : List Keyword).isEmpty then 0 else 1) < 30)) = true := by rfl)
    (hline : (apos.endLine == cpos.line) = true := by rfl) (hs : starEach (e :: es) X.env = (false, eval e X.env) :: starEach es X.env := by rfl) (hplain : (backTo cpos (starEach es X.env)).any (·.1) = false := by rfl) :
    PE X (.Call (.Attribute o name apos) (e :: es) [] cpos) (upE X.K W (mMt rm mo mas)) :=
  (pe_bm PySem.F.plainAttrs_list slot hty hm ho ha hbase hfew hline hs hplain).to fun σ H Q ⟨m, S, Qm, Em, h1, h2, h3, h4, h5⟩ =>
    ⟨m, S, _, Em, h1, h2, h3, fun d S1 v H1 q1 e1 s1 r1 => ⟨isLst_ty s1 r1 q1.1, m, S1, _, Em, h1.ext e1, s1, q1.2, fun ds S2 vs H2 q2 e2 s2 r2 => hl H2 S2 v vs d ds Qm Q s2 (r1.ext e2) r2 q2 (h4.ext (e1.trans e2)), h5.ext e1⟩, h5⟩
/-- a list of the store becomes another one -/
theorem chg_lst {K : PySem.W.Frag} {H : Hp} {S : Sto} {p : Addr} {xs ys : List D} {vs : List V} (s : RSto K H S) (e : S p = some (.lst xs)) (r : RDs K H S vs ys) : Ext H S (upd H p (.lst vs)) (put S p (.lst ys)) ∧ RSto K (upd H p (.lst vs)) (put S p (.lst ys)) :=
  ⟨Ext.chg e, s.chg e ⟨vs, upd_same, r.ext (Ext.chg e)⟩⟩
def mtAppend : RMm := fun d ds S Q => match d, ds with
  | .ref p, [y] => match S p with
    | some (.lst xs) => xs.length < sizeLine ∧ Q .non (put S p (.lst (xs ++ [y])))
    | _ => False
  | _, _ => False
theorem ml_append : MtL X.K rAppend mtAppend := fun H S x vs d ds Qm Q s rx rs h k => by
  unfold mtAppend at h
  split at h
  · next p y =>
    cases rx
    obtain ⟨w, rfl, rw1⟩ := rds1 rs
    split at h
    · next xs e =>
      obtain ⟨us, eu, ru⟩ := s p _ e
      obtain ⟨x1, x2⟩ := chg_lst s e (ru.append (.cons rw1 .nil))
      exact ⟨p, us, w, rfl, rfl, eu, by rw [ru.length]; exact h.1, k _ _ _ _ h.2 x1 x2 .non⟩
    · exact h.elim
  · exact h.elim
def mtInsert : RMm := fun d ds S Q => match d, ds with
  | .ref p, [.int i, y] => match S p with
    | some (.lst xs) => (xs.length < sizeLine ∧ 0 ≤ i ∧ i < 2 ^ 63) ∧ Q .non (put S p (.lst (xs.take i.toNat ++ [y] ++ xs.drop i.toNat)))
    | _ => False
  | _, _ => False
/-- pop(): the last one; pop(i) -/
def mtPop : RMm := fun d ds S Q => match d, ds with
  | .ref p, [] => match S p with
    | some (.lst xs) => match xs[xs.length - 1]? with
      | some y => Q y (put S p (.lst xs.dropLast))
      | none => False
    | _ => False
  | _, _ => False
def mtPop0 : RMm := fun d ds S Q => match d, ds with
  | .ref p, [.int 0] => match S p with
    | some (.lst (y :: xs)) => Q y (put S p (.lst xs))
    | _ => False
  | _, _ => False
def mtReverse : RMm := fun d ds S Q => match d, ds with
  | .ref p, [] => match S p with
    | some (.lst xs) => Q .non (put S p (.lst xs.reverse))
    | _ => False
  | _, _ => False
def mtClear : RMm := fun d ds S Q => match d, ds with
  | .ref p, [] => match S p with
    | some (.lst xs) => Q .non (put S p (.lst []))
    | _ => False
  | _, _ => False
def mtExtend : RMm := fun d ds S Q => match d, ds with
  | .ref p, [y] => match S p, ownOf S y with
    | some (.lst xs), some ys => xs.length + ys.length ≤ sizeLine ∧ Q .non (put S p (.lst (xs ++ ys)))
    | _, _ => False
  | _, _ => False
/-- index: the first place of an equal one -/
def idxD (d : D) : List D → Option Nat
  | [] => none
  | e :: es => if D.deq e d = true then some 0 else (idxD d es).map (· + 1)
def mtIndex : RMm := fun d ds S Q => match ds with
  | [y] => match lstOf S d with
    | some xs => (D.plain y = true ∧ D.plains xs = true ∧ D.dep y ≤ 64 ∧ D.deps xs ≤ 63) ∧ match idxD y xs with
      | some j => Q (.int (j : Nat)) S
      | none => False
    | none => False
  | _ => False
end
end ML
set_option maxRecDepth 100000
namespace ML
open PySem PySem.Spec L2
open PyProof.Rows hiding St
theorem u65 {k : Nat} {A : Around} (r : Room k A) : A.units + 65 < cLine := by have := r.un; omega
section
variable {X : Cx} {W : WX} {a b c e tg : Expr} {ma mb mc m : ME} {pos : Pos} {g : MG}
theorem eglobI {x : Str} {i : Int} {pos : Pos} (hm : ∃ t, X.mg x = some (.int i t)) (hg : Gl X x := by rfl) (hd : (x == ("__debug__" : Str)) = false := by decide) : PE X (.Name x pos) (upE X.K W (mC (.int i))) := by
  obtain ⟨t, h⟩ := hm
  exact eglob (v := .int i) (fun _ _ _ => .int i) ⟨t, rfl⟩ h hg hd
theorem eglobS {x : Str} {i : Str} {pos : Pos} (hm : ∃ t, X.mg x = some (.str i t)) (hg : Gl X x := by rfl) (hd : (x == ("__debug__" : Str)) = false := by decide) : PE X (.Name x pos) (upE X.K W (mC (.str i))) := by
  obtain ⟨t, h⟩ := hm
  exact eglob (v := .str i) (fun _ _ _ => .str i) ⟨t, rfl⟩ h hg hd
/-! ### comprehensions -/
def wipeM (σ : MSt) : List Nat → MSt
  | [] => σ
  | v :: vs => (wipeM σ vs).set v none
theorem wipe_rst {K : PySem.W.Frag} {H : Hp} {S : Sto} {σ : L2.St} {m : MSt} (r : RSt K H S σ m) : ∀ vs : List Nat, RSt K H S (wipe σ vs) (wipeM m vs)
  | [] => r
  | v :: vs => (wipe_rst r vs).unset v none
theorem wipe_get {σ : L2.St} {i : Nat} : ∀ {vs : List Nat}, i < σ.length → (wipe σ vs)[i]? = if i ∈ vs then some none else σ[i]?
  | [], _ => by simp [wipe]
  | v :: vs, h => by
    unfold wipe
    by_cases hv : v = i
    · subst hv
      rw [List.getElem?_set_self (by rw [wipe_length]; exact h)]
      simp
    · rw [List.getElem?_set_ne hv, wipe_get h]
      simp [Ne.symm hv]
theorem wipe_ext {σ τ : L2.St} {vs : List Nat} (hl : σ.length = τ.length) (h : ∀ i, i ∉ vs → σ[i]? = τ[i]?) : wipe σ vs = wipe τ vs := by
  apply List.ext_getElem?
  intro i
  by_cases hi : i < σ.length
  · rw [wipe_get hi, wipe_get (by omega)]
    split
    · rfl
    · next hn => exact h i hn
  · rw [List.getElem?_eq_none (by rw [wipe_length]; omega), List.getElem?_eq_none (by rw [wipe_length]; omega)]
theorem wipe_idem {σ : L2.St} {vs : List Nat} : wipe (wipe σ vs) vs = wipe σ vs :=
  wipe_ext (wipe_length _ _) fun i hi => by
    by_cases hl : i < σ.length
    · rw [wipe_get hl, if_neg hi]
    · rw [List.getElem?_eq_none (by rw [wipe_length]; omega), List.getElem?_eq_none (by omega)]
theorem wipe_set {σ : L2.St} {vs : List Nat} {i : Nat} {o : Option V} (h : i ∈ vs) : wipe (σ.set i o) vs = wipe σ vs :=
  wipe_ext (List.length_set ..) fun j hj => List.getElem?_set_ne (fun e => by subst e; exact hj h)
/-- a target that stores the names at vs alone, and raises nothing -/
def upGo (K : PySem.W.Frag) (vs : List Nat) (g : MG) : TG := fun v σ H Q => ∃ d mσ S Qm, RD K H S v d ∧ RSt K H S σ mσ ∧ RSto K H S ∧ g d mσ S Qm (fun _ _ => False) ∧ ∀ m S' σ' H', Qm m S' → Ext H S H' S' → RSto K H' S' → RSt K H' S' σ' m → wipe σ' vs = wipe σ vs → Q σ' H'
theorem gonm {i : Nat} {x : Str} {vs : List Nat} (hN : X.N.Nodup) (hv : i ∈ vs) (hi : X.N[i]? = some x := by rfl) (hx : Loc X.env.scope x := by first | exact Or.inl rfl | exact Or.inr rfl) (hf : X.fn x = true ∨ X.env.scope.names.lookup x = some .local := by first | exact .inr rfl | exact .inl rfl | assumption) :
    PG X (.Name x pos) (upGo X.K vs (gNm i)) := (pg_name hN hi hx hf).to fun v σ H Q ⟨d, m, S, Qm, r, h1, h2, h3, h4⟩ => h4 _ S _ H h3 Ext.refl h2 (h1.set r i) (wipe_set hv)
def upGos (K : PySem.W.Frag) (vs : List Nat) (g : MGs) : TGs := fun us σ H Q => ∃ ds mσ S Qm, RDs K H S us ds ∧ RSt K H S σ mσ ∧ RSto K H S ∧ g ds mσ S Qm (fun _ _ => False) ∧ ∀ m S' σ' H', Qm m S' → Ext H S H' S' → RSto K H' S' → RSt K H' S' σ' m → wipe σ' vs = wipe σ vs → Q σ' H'
theorem gonl {vs : List Nat} : PGs X [] (upGos X.K vs gNl) := by
  constructor
  intro pins s σ H us ws Q I r ⟨ds, m, S, Qm, r1, h1, h2, h3, h4⟩
  cases ds with
  | nil => cases r1; exact pgs_nil.run pins s σ H [] ws Q I r ⟨rfl, h4 m S σ H h3 Ext.refl h2 h1 rfl⟩
  | cons _ _ => exact h3.elim
theorem gocn {vs : List Nat} {gs : MGs} {es : List Expr} (h1 : PG X e (upGo X.K vs g)) (h2 : PGs X es (upGos X.K vs gs)) (hs : (assignEach (e :: es) X.env).map (·.2) = assign e X.env :: (assignEach es X.env).map (·.2) := by rfl) : PGs X (e :: es) (upGos X.K vs (gCn g gs)) := by
  constructor
  intro pins s σ H us ws Q I r ⟨ds, m, S, Qm, r1, k1, k2, k3, k4⟩
  refine (pgs_cons h1 h2 hs).run pins s σ H us ws Q I r ?_
  cases ds with
  | nil => exact k3.elim
  | cons d ds =>
    cases r1 with
    | cons rd rds =>
      refine ⟨_, _, rfl, d, m, S, _, rd, k1, k2, k3, fun m' S' σ' H' q e s' st w1 => ?_⟩
      exact ⟨ds, m', S', Qm, rds.ext e, st, s', q, fun m2 S2 σ2 H2 q2 e2 s2 r2 w2 => k4 m2 S2 σ2 H2 q2 (e.trans e2) s2 r2 (w2.trans w1)⟩
theorem gotp {vs : List Nat} {gs : MGs} {es : List Expr} {k n : Nat} (hc : X.calm = true) (h : PGs X es (upGos X.K vs gs)) (hn : (assignEach es X.env).length = n := by rfl) (hst : (assignEach es X.env).findIdx? (·.1) = none := by rfl) : PG X (.Tuple es k pos) (upGo X.K vs (gTp n gs)) :=
  (pg_tup hc h hn hst).to fun v σ H Q ⟨d, m, S, Qm, r, h1, h2, h3, h4⟩ => by
    cases d with
    | tup ds =>
      obtain ⟨a, us, rfl, hq, rs⟩ := r.tupSq
      exact ⟨a, us, rfl, hq, rs.length.trans h3.1, ds, m, S, Qm, rs, h1, h2, h3.2, h4⟩
    | _ => exact h3.elim
abbrev W0 : WX := fun _ _ _ _ => False
def mYes : MT := fun _ S Q _ => Q true S
theorem tsNil : PTs X [] (upT X.K W0 mYes) := by
  constructor
  intro pins s σ H Q I ⟨m, S, Qm, Em, h1, h2, h3, h4, _⟩
  exact pts_nil.run pins s σ H Q I (h4 true S H h3 Ext.refl h2)
def noX : MXQ := fun _ _ => False
def wlc (G : Sto → Prop) (g : MG) (mt : MT) (me : ME) (p : Addr) (own : List Nat) (σ : MSt) (fin : List D → Sto → Prop) (items : List D) (S : Sto) : Prop := ∃ I : Nat → Sto → Prop, I 0 S ∧ ∀ i S, i ≤ items.length → I i S → G S ∧ match items[i]? with
  | some d => g d (wipeM σ own) S (fun σ2 S2 => mt σ2 S2 (fun k S3 => if k = true then me σ2 S3 (fun y S4 => ∃ acc, S4 p = some (.lst acc) ∧ acc.length < sizeLine ∧ I (i + 1) (put S4 p (.lst (acc ++ [y])))) noX else I (i + 1) S3) noX) noX
  | none => ∃ acc, S p = some (.lst acc) ∧ fin acc S
def del (S : Sto) (p : Addr) : Sto := fun b => if b = p then none else S b
theorem del_put {S : Sto} {p : Addr} {o : MO} (h : S p = none) : del (put S p o) p = S := by
  funext b; unfold del put
  by_cases e : b = p
  · subst e; rw [if_pos rfl, h]
  · rw [if_neg e, if_neg e]
/-- a new list of the store; one that stays -/
def mComp (mi : MI) (g : MG) (mt : MT) (me : ME) (own : List Nat) : ME := fun σ S Q E => mi σ S (fun items G S1 => ∀ p, S1 p = none → wlc G g mt me p own σ (fun _ S2 => Q (.ref p) S2) items (put S1 p (.lst []))) E
def mCompF (mi : MI) (g : MG) (mt : MT) (me : ME) (own : List Nat) : ME := fun σ S Q E => mi σ S (fun items G S1 => ∀ p, S1 p = none → wlc G g mt me p own σ (fun acc S2 => Q (.lst acc) (del S2 p)) items (put S1 p (.lst []))) E
/-- what the rule below wants, from the reading -/
theorem lc_to {mt : MT} {me : ME} {vs : List Nat} {K : PySem.W.Frag} {σ : L2.St} {m : MSt} {H1 : Hp} {S1 : Sto} {J : It} {items : List D} {G : Sto → Prop} {Dp : Addr} {Q : VK} {fin : List D → Sto → Prop} (h1 : RSt K H1 S1 σ m) (s1 : RSto K H1 S1) (it : ItOk K H1 S1 J items G)
    (hD : H1 Dp = none) (h : wlc G g mt me Dp vs m fin items (put S1 Dp (.lst [])))
    (hf : ∀ acc H S, fin acc S → S Dp = some (.lst acc) → Ext H1 S1 H S → RSto K H S → Q (.ref Dp) H) :
    ∃ W : Nat → Nat → Hp → Prop, (∃ n, W 0 n (upd H1 Dp (.lst []))) ∧ ∀ i n H, W i n H → (J.stop i H ∧ Q (.ref Dp) H) ∨ (J.go i H ∧ ∃ Nx : Hp → Prop, (∀ H', Nx H' → ∃ m', m' < n ∧ W (i + 1) m' H') ∧ ∀ x H', J.yld i H x H' →
      upGo K vs g x (wipe σ vs) H' fun σ2 H2 => wipe σ2 vs = wipe σ vs ∧ upT K W0 mt σ2 H2 fun b H3 => if b = true then upE K W0 me σ2 H3 fun y H4 => ∃ acc, H4 Dp = some (.lst acc) ∧ acc.length < sizeLine ∧ Nx (upd H4 Dp (.lst (acc ++ [y]))) else Nx H3) := by
  have x0 : Ext H1 S1 (upd H1 Dp (.lst [])) (put S1 Dp (.lst [])) := Ext.newS s1 hD
  obtain ⟨I, i0, turn⟩ := h
  refine ⟨fun i n H => n = items.length - i ∧ i ≤ items.length ∧ ∃ S, RSto K H S ∧ Ext H1 S1 H S ∧ I i S, ⟨items.length, by simp, Nat.zero_le _, _, s1.newS (o := .lst []) hD ⟨[], upd_same, .nil⟩, x0, i0⟩, ?_⟩
  rintro i n H ⟨rfl, hle, S, s, e, q⟩
  obtain ⟨gS, q⟩ := turn i S hle q
  by_cases hlt : i < items.length
  · rw [List.getElem?_eq_getElem hlt] at q
    refine .inr ⟨it.go i H S e s gS hlt, fun H' => ∃ S', RSto K H' S' ∧ Ext H1 S1 H' S' ∧ I (i + 1) S', fun H' z => ⟨items.length - (i + 1), by omega, rfl, hlt, z⟩, fun v H2 y => ?_⟩
    obtain ⟨e2, s2, r2⟩ := it.yld i H S v H2 _ e s gS (List.getElem?_eq_getElem hlt) y
    refine ⟨_, wipeM m vs, S, _, r2, wipe_rst (h1.ext (e.trans e2)) vs, s2, q, fun m3 S3 σ3 H3 q3 e3 s3 r3 w3 => ⟨w3.trans wipe_idem, m3, S3, _, noX, r3, s3, q3, fun k S4 H4 q4 e4 s4 => ?_, fun _ _ _ _ _ z => z.elim⟩⟩
    have e1234 := e.trans (e2.trans (e3.trans e4))
    cases k with
    | true =>
      rw [if_pos rfl] at q4
      show (if true = true then _ else _)
      rw [if_pos rfl]
      refine ⟨m3, S4, _, noX, r3.ext e4, s4, q4, fun d S5 w5 H5 q5 e5 s5 r5 => ?_, fun _ _ _ _ _ z => z.elim⟩
      obtain ⟨acc, ea, hz, q6⟩ := q5
      obtain ⟨us, eu, ru⟩ := s5 _ _ ea
      obtain ⟨x1, x2⟩ := chg_lst s5 ea (ru.append (.cons r5 .nil))
      exact ⟨us, eu, by rw [ru.length]; exact hz, _, x2, e1234.trans (e5.trans x1), q6⟩
    | false =>
      rw [if_neg Bool.false_ne_true] at q4
      show (if false = true then _ else _)
      rw [if_neg Bool.false_ne_true]
      exact ⟨S4, s4, e1234, q4⟩
  · rw [List.getElem?_eq_none (by omega)] at q
    obtain ⟨acc, ea, q⟩ := q
    exact .inl ⟨it.stop i H S e s gS (by omega), hf acc H S q ea e s⟩
theorem rsto_del {K : PySem.W.Frag} {H : Hp} {S : Sto} {p : Addr} (s : RSto K H S) : Ext H S H (del S p) := fun a o h n => ⟨h, by unfold del; split <;> first | rfl | exact n⟩
theorem rsto_del' {K : PySem.W.Frag} {H : Hp} {S : Sto} {p : Addr} (s : RSto K H S) : RSto K H (del S p) := fun a o e => by
  unfold del at e
  split at e
  · cases e
  · exact (s a o e).ext (rsto_del s) rfl
theorem ecompF {elt iter : Expr} {ifs : List Expr} {scope : Scope} {own : List (Str × Nat)} {mi : MI} {mt : MT} {me : ME} (hc : X.calm = true) (hN : X.N.Nodup) (hi : PI X tg iter (upI X.K W mi)) (ok : BlkOk X.N X.env.scope scope own)
    (hg : ∀ (s : Shared) (H : Hp) (C : Addr) (cl : List (Str × Addr)) (fp : List Addr), PG (X.blk s H scope (compEnvC scope cl C X.env) fp) tg (upGo X.K (own.map (·.2)) g)) (ht : ∀ (s : Shared) (H : Hp) (C : Addr) (cl : List (Str × Addr)) (fp : List Addr), PTs (X.blk s H scope (compEnvC scope cl C X.env) fp) ifs (upT X.K W0 mt))
    (he : ∀ (s : Shared) (H : Hp) (C : Addr) (cl : List (Str × Addr)) (fp : List Addr), PE (X.blk s H scope (compEnvC scope cl C X.env) fp) elt (upE X.K W0 me)) (hs : ∀ x, foldedSetIterable iter X.env x = pure x := by intro _; rfl) :
    PE X (.ListComp elt [⟨tg, iter, ifs, 0⟩] scope pos) (upE X.K W (mCompF mi g mt me (own.map (·.2)))) :=
  (pe_lc hc hN hi ok hg ht he hs).to fun σ H Q ⟨m, S, Qm, Em, h1, h2, h3, h4, h5⟩ => ⟨m, S, _, Em, h1, h2, h3, fun items G S1 J H1 q e1 s1 it Dp hD =>
    lc_to (h1.ext e1) s1 it hD (q Dp (s1.fresh hD)) fun acc H' S' f ea e' s' => by
      obtain ⟨us, eu, ru⟩ := s' _ _ ea
      exact h4 _ (del S' Dp) _ H' f (e1.trans (e'.trans (rsto_del s'))) (rsto_del' s') (.lst eu (if_pos rfl) (ru.ext (rsto_del s'))), h5⟩
end
/-! ### the head's facts, with what isinstance answers -/
def kitB (K : PySem.W.Frag) (u : String) : Bool := (["NoneType", "bool", "int", "str", "tuple", "list", "dict"] : List String).all fun t => decide (PySem.W.kitOne K (.type t) (.type u) = some (isTy t u))
theorem kitB_ok {K : PySem.W.Frag} {u : String} (h : kitB K u = true) : kitTab K u := fun t ht => of_decide_eq_true (List.all_eq_true.mp h t ht)
abbrev AlK : Type := He.AlD × Bool
def obsK (fa : List He.Fa) (fn : List He.DefD) (ks : List String) (K : PySem.W.Frag) : AlK := (He.obsD fa fn K, ks.all (kitB K))
structure SaysK (fa : List He.Fa) (fn : List He.DefD) (ks : List String) (K : PySem.W.Frag) : Prop where
  says : He.SaysD fa fn K
  kits : ks.all (kitB K) = true
theorem SaysK.kit {fa : List He.Fa} {fn : List He.DefD} {ks : List String} {K : PySem.W.Frag} (c : SaysK fa fn ks K) (u : String) (h : u ∈ ks) : kitTab K u := kitB_ok (List.all_eq_true.mp c.kits u h)
end ML
namespace ML
open PySem PySem.Spec L2
/-! ### side conditions -/
theorem mulok_r {i j : Int} (h1 : -(2 ^ 64) < j) (h2 : j < 2 ^ 64) : IntMulOk i j := .of_right (intBits_le_64 h1 h2)
theorem mulok_l {i j : Int} (h1 : -(2 ^ 64) < i) (h2 : i < 2 ^ 64) : IntMulOk i j := .of_left (intBits_le_64 h1 h2)
theorem mulok_w {i j : Int} {a b : Nat} (ha : i.natAbs < 2 ^ a) (hb : j.natAbs < 2 ^ b) (h0 : 0 < a) (h1 : 0 < b) (h : a + b ≤ 1000000) : IntMulOk i j := (wide_mul ha hb h0 h1 h).ok
theorem divok_s {i j : Int} (h0 : j ≠ 0) (h : j.natAbs < 1073741824) : DivOk i j := ⟨h0, PyProof.noPylong_small h⟩
theorem divok_w {i j : Int} {b : Nat} (h0 : j ≠ 0) (hb : j.natAbs < 2 ^ b) (h1 : 0 < b) (h : b ≤ 9000) : DivOk i j := ⟨h0, PyProof.noPylong_of_log2 (Nat.lt_of_lt_of_le (PySem.Flt.log2_lt_of h1 hb) h)⟩
theorem fmod_pos {i j : Int} (h : 0 ≤ j) : i.fmod j = i % j := Int.fmod_eq_emod_of_nonneg i h
theorem line_le {n : Nat} (h : n ≤ 1000) : n ≤ sizeLine := by rw [sizeLine_eq]; omega
theorem line_lt {n : Nat} (h : n ≤ 1000) : n < sizeLine := by rw [sizeLine_eq]; omega
theorem scr_get {ns : List Int} {k : Nat} (h : k < ns.length) : (ns.map D.int)[k]? = some (.int ns[k]) := by rw [List.getElem?_map, List.getElem?_eq_getElem h]; rfl
theorem isTy_NoneType_int : isTy "NoneType" "int" = false := by decide
theorem isTy_NoneType_bool : isTy "NoneType" "bool" = false := by decide
theorem isTy_NoneType_tuple : isTy "NoneType" "tuple" = false := by decide
theorem isTy_NoneType_list : isTy "NoneType" "list" = false := by decide
theorem isTy_NoneType_str : isTy "NoneType" "str" = false := by decide
theorem isTy_bool_int : isTy "bool" "int" = true := by decide
theorem isTy_bool_bool : isTy "bool" "bool" = true := by decide
theorem isTy_bool_tuple : isTy "bool" "tuple" = false := by decide
theorem isTy_bool_list : isTy "bool" "list" = false := by decide
theorem isTy_bool_str : isTy "bool" "str" = false := by decide
theorem isTy_int_int : isTy "int" "int" = true := by decide
theorem isTy_int_bool : isTy "int" "bool" = false := by decide
theorem isTy_int_tuple : isTy "int" "tuple" = false := by decide
theorem isTy_int_list : isTy "int" "list" = false := by decide
theorem isTy_int_str : isTy "int" "str" = false := by decide
theorem isTy_str_int : isTy "str" "int" = false := by decide
theorem isTy_str_bool : isTy "str" "bool" = false := by decide
theorem isTy_str_tuple : isTy "str" "tuple" = false := by decide
theorem isTy_str_list : isTy "str" "list" = false := by decide
theorem isTy_str_str : isTy "str" "str" = true := by decide
theorem isTy_tuple_int : isTy "tuple" "int" = false := by decide
theorem isTy_tuple_bool : isTy "tuple" "bool" = false := by decide
theorem isTy_tuple_tuple : isTy "tuple" "tuple" = true := by decide
theorem isTy_tuple_list : isTy "tuple" "list" = false := by decide
theorem isTy_tuple_str : isTy "tuple" "str" = false := by decide
theorem isTy_list_int : isTy "list" "int" = false := by decide
theorem isTy_list_bool : isTy "list" "bool" = false := by decide
theorem isTy_list_tuple : isTy "list" "tuple" = false := by decide
theorem isTy_list_list : isTy "list" "list" = true := by decide
theorem isTy_list_str : isTy "list" "str" = false := by decide
theorem isTy_dict_int : isTy "dict" "int" = false := by decide
theorem isTy_dict_bool : isTy "dict" "bool" = false := by decide
theorem isTy_dict_tuple : isTy "dict" "tuple" = false := by decide
theorem isTy_dict_list : isTy "dict" "list" = false := by decide
theorem isTy_dict_str : isTy "dict" "str" = false := by decide
theorem deq_int {a b : Int} : D.deq (.int a) (.int b) = decide (a = b) := by rw [D.deq, Bool.beq_eq_decide_eq]
theorem deq_bl {a b : Bool} : D.deq (.bl a) (.bl b) = (a == b) := by rw [D.deq]
theorem deq_str {a b : Str} : D.deq (.str a) (.str b) = decide (a = b) := by rw [D.deq, Bool.beq_eq_decide_eq]
theorem deq_non : D.deq .non .non = true := by rw [D.deq]
theorem eqOk_int {a b : Int} : eqOk (.int a) (.int b) = true := by simp [eqOk, D.plain, D.dep]
theorem eqOk_bl {a b : Bool} : eqOk (.bl a) (.bl b) = true := rfl
theorem wfor_inv {G : Sto → Prop} {g : MG} {mb : MS} {D : MEnds} {items : List ML.D} {σ : MSt} {S : Sto} (I : Nat → MSt → Sto → Prop) (h0 : I 0 σ S)
    (hs : ∀ i d σ S, items[i]? = some d → I i σ S → G S ∧ g d σ S (fun σ' S' => mb { D with nx := I (i + 1), ct := I (i + 1), bk := D.nx } σ' S') (xAt D σ)) (hd : ∀ σ S, I items.length σ S → G S ∧ D.nx σ S) : wfor G g mb D items σ S := by
  refine ⟨I, h0, fun i σ S hi h => ?_⟩
  cases e : items[i]? with
  | some d => exact hs i d σ S e h
  | none =>
    have : i = items.length := by have := List.getElem?_eq_none_iff.mp e; omega
    subst this; exact hd σ S h
theorem rng_inv {lo : Int} {n : Nat} {g : MG} {mb : MS} {D : MEnds} {σ : MSt} {S : Sto} (I : Nat → MSt → Sto → Prop) (h0 : I 0 σ S)
    (hs : ∀ i σ S, i < n → I i σ S → g (.int (lo + (i : Nat))) σ S (fun σ' S' => mb { D with nx := I (i + 1), ct := I (i + 1), bk := D.nx } σ' S') (xAt D σ)) (hd : ∀ σ S, I n σ S → D.nx σ S) : wfor (fun _ => True) g mb D (rngD lo n) σ S :=
  wfor_inv I h0 (fun i d σ S e h => by
    have hi : i < n := by
      have := (List.getElem?_eq_some_iff.mp e).1
      rwa [rngD_len] at this
    rw [rngD_get e]; exact ⟨trivial, hs i σ S hi h⟩) fun σ S h => ⟨trivial, hd σ S (by rwa [rngD_len] at h)⟩
end ML
namespace ML
open PySem PySem.Spec L2
theorem q_mSeq : type_of% @mSeq.eq_def := by intros; exact Eq.trans (mSeq.eq_def ..) (Eq.refl _)
theorem q_mSet : type_of% @mSet.eq_def := by intros; exact Eq.trans (mSet.eq_def ..) (Eq.refl _)
theorem q_mC : type_of% @mC.eq_def := by intros; exact Eq.trans (mC.eq_def ..) (Eq.refl _)
theorem q_mVar : type_of% @mVar.eq_def := by intros; exact Eq.trans (mVar.eq_def ..) (Eq.refl _)
theorem q_mOp : type_of% @mOp.eq_def := by intros; exact Eq.trans (mOp.eq_def ..) (Eq.refl _)
theorem q_mUn : type_of% @mUn.eq_def := by intros; exact Eq.trans (mUn.eq_def ..) (Eq.refl _)
theorem q_mTst : type_of% @mTst.eq_def := by intros; exact Eq.trans (mTst.eq_def ..) (Eq.refl _)
theorem q_mTru : type_of% @mTru.eq_def := by intros; exact Eq.trans (mTru.eq_def ..) (Eq.refl _)
theorem q_mIfS : type_of% @mIfS.eq_def := by intros; exact Eq.trans (mIfS.eq_def ..) (Eq.refl _)
theorem q_mIf : type_of% @mIf.eq_def := by intros; exact Eq.trans (mIf.eq_def ..) (Eq.refl _)
theorem q_mAnd : type_of% @mAnd.eq_def := by intros; exact Eq.trans (mAnd.eq_def ..) (Eq.refl _)
theorem q_mOr : type_of% @mOr.eq_def := by intros; exact Eq.trans (mOr.eq_def ..) (Eq.refl _)
theorem q_mNot : type_of% @mNot.eq_def := by intros; exact Eq.trans (mNot.eq_def ..) (Eq.refl _)
theorem q_mAndV : type_of% @mAndV.eq_def := by intros; exact Eq.trans (mAndV.eq_def ..) (Eq.refl _)
theorem q_mOrV : type_of% @mOrV.eq_def := by intros; exact Eq.trans (mOrV.eq_def ..) (Eq.refl _)
theorem q_mNotV : type_of% @mNotV.eq_def := by intros; exact Eq.trans (mNotV.eq_def ..) (Eq.refl _)
theorem q_mRet : type_of% @mRet.eq_def := by intros; exact Eq.trans (mRet.eq_def ..) (Eq.refl _)
theorem q_mRetN : type_of% @mRetN.eq_def := by intros; exact Eq.trans (mRetN.eq_def ..) (Eq.refl _)
theorem q_mExpr : type_of% @mExpr.eq_def := by intros; exact Eq.trans (mExpr.eq_def ..) (Eq.refl _)
theorem q_mNext : type_of% @mNext.eq_def := by intros; exact Eq.trans (mNext.eq_def ..) (Eq.refl _)
theorem q_mBreak : type_of% @mBreak.eq_def := by intros; exact Eq.trans (mBreak.eq_def ..) (Eq.refl _)
theorem q_mCont : type_of% @mCont.eq_def := by intros; exact Eq.trans (mCont.eq_def ..) (Eq.refl _)
theorem q_mAsg : type_of% @mAsg.eq_def := by intros; exact Eq.trans (mAsg.eq_def ..) (Eq.refl _)
theorem q_mPar : type_of% @mPar.eq_def := by intros; exact Eq.trans (mPar.eq_def ..) (Eq.refl _)
theorem q_gNm : type_of% @gNm.eq_def := by intros; exact Eq.trans (gNm.eq_def ..) (Eq.refl _)
theorem q_gLs : type_of% @gLs.eq_def := by intros; exact Eq.trans (gLs.eq_def ..) (Eq.refl _)
theorem q_gCn : type_of% @gCn.eq_def := by intros; exact Eq.trans (gCn.eq_def ..) (Eq.refl _)
theorem q_gNl : type_of% @gNl.eq_def := by intros; exact Eq.trans (gNl.eq_def ..) (Eq.refl _)
theorem q_gSb : type_of% @gSb.eq_def := by intros; exact Eq.trans (gSb.eq_def ..) (Eq.refl _)
theorem q_mTup : type_of% @mTup.eq_def := by intros; exact Eq.trans (mTup.eq_def ..) (Eq.refl _)
theorem q_mLst : type_of% @mLst.eq_def := by intros; exact Eq.trans (mLst.eq_def ..) (Eq.refl _)
theorem q_mLstF : type_of% @mLstF.eq_def := by intros; exact Eq.trans (mLstF.eq_def ..) (Eq.refl _)
theorem q_mCons : type_of% @mCons.eq_def := by intros; exact Eq.trans (mCons.eq_def ..) (Eq.refl _)
theorem q_mNil : type_of% @mNil.eq_def := by intros; exact Eq.trans (mNil.eq_def ..) (Eq.refl _)
theorem q_mCall : type_of% @mCall.eq_def := by intros; exact Eq.trans (mCall.eq_def ..) (Eq.refl _)
theorem q_mBlt : type_of% @mBlt.eq_def := by intros; exact Eq.trans (mBlt.eq_def ..) (Eq.refl _)
theorem q_bLen : type_of% @bLen.eq_def := by intros; exact Eq.trans (bLen.eq_def ..) (Eq.refl _)
theorem q_bAbs : type_of% @bAbs.eq_def := by intros; exact Eq.trans (bAbs.eq_def ..) (Eq.refl _)
theorem q_bMax2 : type_of% @bMax2.eq_def := by intros; exact Eq.trans (bMax2.eq_def ..) (Eq.refl _)
theorem q_bMin2 : type_of% @bMin2.eq_def := by intros; exact Eq.trans (bMin2.eq_def ..) (Eq.refl _)
theorem q_bInt : type_of% @bInt.eq_def := by intros; exact Eq.trans (bInt.eq_def ..) (Eq.refl _)
theorem q_bTuple : type_of% @bTuple.eq_def := by intros; exact Eq.trans (bTuple.eq_def ..) (Eq.refl _)
theorem q_bList : type_of% @bList.eq_def := by intros; exact Eq.trans (bList.eq_def ..) (Eq.refl _)
theorem q_bListF : type_of% @bListF.eq_def := by intros; exact Eq.trans (bListF.eq_def ..) (Eq.refl _)
theorem q_bAll : type_of% @bAll.eq_def := by intros; exact Eq.trans (bAll.eq_def ..) (Eq.refl _)
theorem q_lenD : type_of% @lenD.eq_def := by intros; exact Eq.trans (lenD.eq_def ..) (Eq.refl _)
theorem q_truD : type_of% @truD.eq_def := by intros; exact Eq.trans (truD.eq_def ..) (Eq.refl _)
theorem q_lstOf : type_of% @lstOf.eq_def := by intros; exact Eq.trans (lstOf.eq_def ..) (Eq.refl _)
theorem q_ownOf : type_of% @ownOf.eq_def := by intros; exact Eq.trans (ownOf.eq_def ..) (Eq.refl _)
theorem q_rInt : type_of% @rInt.eq_def := by intros; exact Eq.trans (rInt.eq_def ..) (Eq.refl _)
theorem q_rInt0 : type_of% @rInt0.eq_def := by intros; exact Eq.trans (rInt0.eq_def ..) (Eq.refl _)
theorem q_rSub : type_of% @rSub.eq_def := by intros; exact Eq.trans (rSub.eq_def ..) (Eq.refl _)
theorem q_rMul : type_of% @rMul.eq_def := by intros; exact Eq.trans (rMul.eq_def ..) (Eq.refl _)
theorem q_rDiv : type_of% @rDiv.eq_def := by intros; exact Eq.trans (rDiv.eq_def ..) (Eq.refl _)
theorem q_rMod : type_of% @rMod.eq_def := by intros; exact Eq.trans (rMod.eq_def ..) (Eq.refl _)
theorem q_rPow : type_of% @rPow.eq_def := by intros; exact Eq.trans (rPow.eq_def ..) (Eq.refl _)
theorem q_rAdd : type_of% @rAdd.eq_def := by intros; exact Eq.trans (rAdd.eq_def ..) (Eq.refl _)
theorem q_rLt : type_of% @rLt.eq_def := by intros; exact Eq.trans (rLt.eq_def ..) (Eq.refl _)
theorem q_rLe : type_of% @rLe.eq_def := by intros; exact Eq.trans (rLe.eq_def ..) (Eq.refl _)
theorem q_rGt : type_of% @rGt.eq_def := by intros; exact Eq.trans (rGt.eq_def ..) (Eq.refl _)
theorem q_rGe : type_of% @rGe.eq_def := by intros; exact Eq.trans (rGe.eq_def ..) (Eq.refl _)
theorem q_rNeg : type_of% @rNeg.eq_def := by intros; exact Eq.trans (rNeg.eq_def ..) (Eq.refl _)
theorem q_rIxM : type_of% @rIxM.eq_def := by intros; exact Eq.trans (rIxM.eq_def ..) (Eq.refl _)
theorem q_ixL : type_of% @ixL.eq_def := by intros; exact Eq.trans (ixL.eq_def ..) (Eq.refl _)
theorem q_rIsN : type_of% @rIsN.eq_def := by intros; exact Eq.trans (rIsN.eq_def ..) (Eq.refl _)
theorem q_rNotN : type_of% @rNotN.eq_def := by intros; exact Eq.trans (rNotN.eq_def ..) (Eq.refl _)
theorem q_isN : type_of% @isN.eq_def := by intros; exact Eq.trans (isN.eq_def ..) (Eq.refl _)
theorem q_rEqM : type_of% @rEqM.eq_def := by intros; exact Eq.trans (rEqM.eq_def ..) (Eq.refl _)
theorem q_rNeM : type_of% @rNeM.eq_def := by intros; exact Eq.trans (rNeM.eq_def ..) (Eq.refl _)
theorem q_rInM : type_of% @rInM.eq_def := by intros; exact Eq.trans (rInM.eq_def ..) (Eq.refl _)
theorem q_mIsi : type_of% @mIsi.eq_def := by intros; exact Eq.trans (mIsi.eq_def ..) (Eq.refl _)
theorem q_tyD : type_of% @tyD.eq_def := by intros; exact Eq.trans (tyD.eq_def ..) (Eq.refl _)
theorem q_mCut : type_of% @mCut.eq_def := by intros; exact Eq.trans (mCut.eq_def ..) (Eq.refl _)
theorem q_oNo : type_of% @oNo.eq_def := by intros; exact Eq.trans (oNo.eq_def ..) (Eq.refl _)
theorem q_oSo : type_of% @oSo.eq_def := by intros; exact Eq.trans (oSo.eq_def ..) (Eq.refl _)
theorem q_mMt : type_of% @mMt.eq_def := by intros; exact Eq.trans (mMt.eq_def ..) (Eq.refl _)
theorem q_mMt0 : type_of% @mMt0.eq_def := by intros; exact Eq.trans (mMt0.eq_def ..) (Eq.refl _)
theorem q_mtAppend : type_of% @mtAppend.eq_def := by intros; exact Eq.trans (mtAppend.eq_def ..) (Eq.refl _)
theorem q_mtInsert : type_of% @mtInsert.eq_def := by intros; exact Eq.trans (mtInsert.eq_def ..) (Eq.refl _)
theorem q_mtPop : type_of% @mtPop.eq_def := by intros; exact Eq.trans (mtPop.eq_def ..) (Eq.refl _)
theorem q_mtPop0 : type_of% @mtPop0.eq_def := by intros; exact Eq.trans (mtPop0.eq_def ..) (Eq.refl _)
theorem q_mtReverse : type_of% @mtReverse.eq_def := by intros; exact Eq.trans (mtReverse.eq_def ..) (Eq.refl _)
theorem q_mtClear : type_of% @mtClear.eq_def := by intros; exact Eq.trans (mtClear.eq_def ..) (Eq.refl _)
theorem q_mtExtend : type_of% @mtExtend.eq_def := by intros; exact Eq.trans (mtExtend.eq_def ..) (Eq.refl _)
theorem q_mtIndex : type_of% @mtIndex.eq_def := by intros; exact Eq.trans (mtIndex.eq_def ..) (Eq.refl _)
theorem q_rSetM : type_of% @rSetM.eq_def := by intros; exact Eq.trans (rSetM.eq_def ..) (Eq.refl _)
theorem q_setAt : type_of% @setAt.eq_def := by intros; exact Eq.trans (setAt.eq_def ..) (Eq.refl _)
theorem q_mends : type_of% @mends.eq_def := by intros; exact Eq.trans (mends.eq_def ..) (Eq.refl _)
theorem q_mstart : type_of% @mstart.eq_def := by intros; exact Eq.trans (mstart.eq_def ..) (Eq.refl _)
theorem q_mFor : type_of% @mFor.eq_def := by intros; exact Eq.trans (mFor.eq_def ..) (Eq.refl _)
theorem q_iL : type_of% @iL.eq_def := by intros; exact Eq.trans (iL.eq_def ..) (Eq.refl _)
theorem q_iT : type_of% @iT.eq_def := by intros; exact Eq.trans (iT.eq_def ..) (Eq.refl _)
theorem q_iR1 : type_of% @iR1.eq_def := by intros; exact Eq.trans (iR1.eq_def ..) (Eq.refl _)
theorem q_iR2 : type_of% @iR2.eq_def := by intros; exact Eq.trans (iR2.eq_def ..) (Eq.refl _)
theorem q_iEn : type_of% @iEn.eq_def := by intros; exact Eq.trans (iEn.eq_def ..) (Eq.refl _)
theorem q_iZp : type_of% @iZp.eq_def := by intros; exact Eq.trans (iZp.eq_def ..) (Eq.refl _)
theorem q_mChain : type_of% @mChain.eq_def := by intros; exact Eq.trans (mChain.eq_def ..) (Eq.refl _)
theorem q_mYes : type_of% @mYes.eq_def := by intros; exact Eq.trans (mYes.eq_def ..) (Eq.refl _)
theorem q_mCompF : type_of% @mCompF.eq_def := by intros; exact Eq.trans (mCompF.eq_def ..) (Eq.refl _)
theorem q_mComp : type_of% @mComp.eq_def := by intros; exact Eq.trans (mComp.eq_def ..) (Eq.refl _)
theorem q_wipeM : type_of% @wipeM.eq_def := by intros; exact Eq.trans (wipeM.eq_def ..) (Eq.refl _)
theorem q_rIsBM : type_of% @rIsBM.eq_def := by intros; exact Eq.trans (rIsBM.eq_def ..) (Eq.refl _)
theorem q_xAt : type_of% @xAt.eq_def := by intros; exact Eq.trans (xAt.eq_def ..) (Eq.refl _)
end ML
set_option maxRecDepth 100000
namespace ML
open PySem PySem.Spec L2
open PyProof.Rows hiding St
end ML
set_option maxRecDepth 100000
namespace ML
open PySem PySem.Spec L2
/-! ### readings opened lazily: at a call, a branch, a loop the opening stops; what is held as an instance is left alone -/
class Hold (α : Type) where
  v : α
theorem Hold_v {α : Type} {x : α} : (Hold.mk x).v = x := Eq.trans rfl rfl
def CallP (sp : MSp) (ds : List D) (S : Sto) [Q : Hold MQ] [E : Hold MXQ] : Prop := sp ds S Q.v E.v
def IteP (c : Prop) [A : Hold Prop] [B : Hold Prop] : Prop := (c → A.v) ∧ (¬ c → B.v)
theorem IteP_true {A B : Hold Prop} : @IteP True A B = A.v := propext ⟨fun h => h.1 trivial, fun h => ⟨fun _ => h, fun z => (z trivial).elim⟩⟩
theorem IteP_false {A B : Hold Prop} : @IteP False A B = B.v := propext ⟨fun h => h.2 id, fun h => ⟨fun z => z.elim, fun _ => h⟩⟩
theorem IteP_bool {b : Bool} {A B : Prop} : (if b = true then A else B) = @IteP (b = true) ⟨A⟩ ⟨B⟩ := by
  cases b
  · rw [if_neg Bool.false_ne_true]; exact propext ⟨fun h => ⟨fun z => (Bool.false_ne_true z).elim, fun _ => h⟩, fun h => h.2 Bool.false_ne_true⟩
  · rw [if_pos rfl]; exact propext ⟨fun h => ⟨fun _ => h, fun z => (z rfl).elim⟩, fun h => h.1 rfl⟩
theorem l_mCall {sp : MSp} {t : MA} {σ : MSt} {S : Sto} {Q : MQ} {E : MXQ} : mCall sp t σ S Q E = t σ S (fun ds S1 => @CallP sp ds S1 ⟨Q⟩ ⟨E⟩) E := Eq.trans rfl rfl
theorem l_mAnd {t u : MT} {σ : MSt} {S : Sto} {Q : Bool → Sto → Prop} {E : MXQ} : mAnd t u σ S Q E = t σ S (fun c S1 => @IteP (c = true) ⟨u σ S1 Q E⟩ ⟨Q false S1⟩) E := by
  unfold mAnd; simp only [IteP_bool]
theorem l_mOr {t u : MT} {σ : MSt} {S : Sto} {Q : Bool → Sto → Prop} {E : MXQ} : mOr t u σ S Q E = t σ S (fun c S1 => @IteP (c = true) ⟨Q true S1⟩ ⟨u σ S1 Q E⟩) E := by
  unfold mOr; simp only [IteP_bool]
theorem l_mAndV {ma mb : ME} {σ : MSt} {S : Sto} {Q : MQ} {E : MXQ} : mAndV ma mb σ S Q E = ma σ S (fun d S1 => match d with
  | .bl k => @IteP (k = true) ⟨mb σ S1 Q E⟩ ⟨Q (.bl false) S1⟩
  | _ => False) E := by
  unfold mAndV
  apply congrArg (fun f => ma σ S f E)
  funext d S1
  cases d <;> first | rfl | exact IteP_bool
theorem l_mOrV {ma mb : ME} {σ : MSt} {S : Sto} {Q : MQ} {E : MXQ} : mOrV ma mb σ S Q E = ma σ S (fun d S1 => match d with
  | .bl k => @IteP (k = true) ⟨Q (.bl true) S1⟩ ⟨mb σ S1 Q E⟩
  | _ => False) E := by
  unfold mOrV
  apply congrArg (fun f => ma σ S f E)
  funext d S1
  cases d <;> first | rfl | exact IteP_bool
theorem l_mIf {t : MT} {ma mb : ME} {σ : MSt} {S : Sto} {Q : MQ} {E : MXQ} : mIf t ma mb σ S Q E = t σ S (fun c S1 => @IteP (c = true) ⟨ma σ S1 Q E⟩ ⟨mb σ S1 Q E⟩) E := by unfold mIf; simp only [IteP_bool]
theorem l_mChain {r r' : R2m} {ma mb mc : ME} {σ : MSt} {S : Sto} {Q : MQ} {E : MXQ} : mChain r r' ma mb mc σ S Q E = ma σ S (fun x S1 => mb σ S1 (fun y S2 => r x y S2 fun z S3 => match z with
  | .bl k => @IteP (k = true) ⟨mc σ S3 (fun w S4 => r' y w S4 Q) E⟩ ⟨Q (.bl false) S3⟩
  | _ => False) E) E := by
  unfold mChain
  apply congrArg (fun f => ma σ S f E)
  funext x S1
  apply congrArg (fun f => mb σ S1 f E)
  funext y S2
  apply congrArg (fun f => r x y S2 f)
  funext d S3
  cases d <;> first | rfl | exact IteP_bool
theorem l_mIfS {c : MT} {t u : MS} {D : MEnds} {σ : MSt} {S : Sto} : mIfS c t u D σ S = c σ S (fun b S1 => @IteP (b = true) ⟨t D σ S1⟩ ⟨u D σ S1⟩) (xAt D σ) := by unfold mIfS; simp only [IteP_bool]
/-! ### options, names, values -/
def OptP {α : Type} (o : Option α) [k : Hold (α → Prop)] : Prop := match o with
  | some x => k.v x
  | none => False
def optP {α : Type} (o : Option α) (k : α → Prop) : Prop := @OptP α o ⟨k⟩
theorem l_optP {α : Type} {o : Option α} {k : α → Prop} : optP o k = @OptP α o ⟨k⟩ := Eq.trans rfl rfl
theorem OptP_some {α : Type} {x : α} {k : Hold (α → Prop)} : @OptP α (some x) k = k.v x := Eq.trans rfl rfl
def GoP (σ : MSt) (S : Sto) [k : Hold (MSt → Sto → Prop)] : Prop := k.v σ S
def Go (k : MSt → Sto → Prop) (σ : MSt) (S : Sto) : Prop := @GoP σ S ⟨k⟩
theorem l_Go {k : MSt → Sto → Prop} {σ : MSt} {S : Sto} : Go k σ S = @GoP σ S ⟨k⟩ := Eq.trans rfl rfl
def VarP (i : Nat) (σ : MSt) (S : Sto) [Q : Hold MQ] : Prop := match σ[i]? with
  | some (some d) => Q.v d S
  | _ => False
theorem l_mVar {i : Nat} {σ : MSt} {S : Sto} {Q : MQ} {E : MXQ} : mVar i σ S Q E = @VarP i σ S ⟨Q⟩ := Eq.trans rfl rfl
def ForP (items : List D) (σ : MSt) (S : Sto) [G : Hold (Sto → Prop)] [g : Hold MG] [mb : Hold MS] [De : Hold MEnds] : Prop := wfor G.v g.v mb.v De.v items σ S
theorem l_mFor {mi : MI} {g : MG} {mb : MS} {De : MEnds} {σ : MSt} {S : Sto} : mFor mi g mb De σ S = mi σ S (fun items G S1 => @ForP items σ S1 ⟨G⟩ ⟨g⟩ ⟨mb⟩ ⟨De⟩) (xAt De σ) := Eq.trans rfl rfl
def WhileP (σ : MSt) (S : Sto) [c : Hold MT] [mb : Hold MS] [De : Hold MEnds] : Prop := mWhile c.v mb.v De.v σ S
theorem l_mWhile {c : MT} {mb : MS} {De : MEnds} {σ : MSt} {S : Sto} : mWhile c mb De σ S = @WhileP σ S ⟨c⟩ ⟨mb⟩ ⟨De⟩ := Eq.trans rfl rfl
def CompP (items : List D) (σ : MSt) (S : Sto) (p : Addr) (own : List Nat) [G : Hold (Sto → Prop)] [g : Hold MG] [mt : Hold MT] [me : Hold ME] [fin : Hold (List D → Sto → Prop)] : Prop := wlc G.v g.v mt.v me.v p own σ fin.v items S
theorem l_mComp {mi : MI} {g : MG} {mt : MT} {me : ME} {own : List Nat} {σ : MSt} {S : Sto} {Q : MQ} {E : MXQ} : mComp mi g mt me own σ S Q E = mi σ S (fun items G S1 => ∀ p, S1 p = none → @CompP items σ (put S1 p (.lst [])) p own ⟨G⟩ ⟨g⟩ ⟨mt⟩ ⟨me⟩ ⟨fun _ S2 => Q (.ref p) S2⟩) E := Eq.trans rfl rfl
theorem l_mCompF {mi : MI} {g : MG} {mt : MT} {me : ME} {own : List Nat} {σ : MSt} {S : Sto} {Q : MQ} {E : MXQ} : mCompF mi g mt me own σ S Q E = mi σ S (fun items G S1 => ∀ p, S1 p = none → @CompP items σ (put S1 p (.lst [])) p own ⟨G⟩ ⟨g⟩ ⟨mt⟩ ⟨me⟩ ⟨fun acc S2 => Q (.lst acc) (del S2 p)⟩) E := Eq.trans rfl rfl
theorem Go_eq {k : Hold (MSt → Sto → Prop)} {σ : MSt} {S : Sto} : @GoP σ S k = k.v σ S := Eq.trans rfl rfl
theorem l_mVar_z {d : D} {σ : MSt} {S : Sto} {Q : Hold MQ} : @VarP 0 (some d :: σ) S Q = Q.v d S := Eq.trans rfl rfl
theorem l_mVar_s {i : Nat} {x : Option D} {σ : MSt} {S : Sto} {Q : Hold MQ} : @VarP (i + 1) (x :: σ) S Q = @VarP i σ S Q := Eq.trans rfl rfl
theorem l_mSet {i : Nat} {m : ME} {D : MEnds} {σ : MSt} {S : Sto} : mSet i m D σ S = m σ S (fun d S1 => Go D.nx (σ.set i (some d)) S1) (xAt D σ) := Eq.trans rfl rfl
theorem l_gNm {i : Nat} {d : D} {σ : MSt} {S : Sto} {Q : MSt → Sto → Prop} {E : MXQ} : gNm i d σ S Q E = Go Q (σ.set i (some d)) S := Eq.trans rfl rfl
theorem l_mPar {i j : Nat} {t : MA} {De : MEnds} {σ : MSt} {S : Sto} : mPar i j t De σ S = t σ S (fun ds S1 => match ds with
  | [d, e] => Go De.nx ((σ.set i (some d)).set j (some e)) S1
  | _ => False) (xAt De σ) := by
  unfold mPar
  apply congrArg (fun f => t σ S f (xAt De σ))
  funext ds S1
  rcases ds with _ | ⟨a, _ | ⟨b, _ | ⟨c, r⟩⟩⟩ <;> rfl
def olP : Option MO → Option (List D)
  | some (.lst ds) => some ds
  | _ => none
theorem olP_lst {ds : List D} : olP (some (.lst ds)) = some ds := Eq.trans rfl rfl
theorem lstOf_ref' {S : Sto} {p : Addr} : lstOf S (.ref p) = olP (S p) := by
  cases e : S p with
  | none => simp only [lstOf, olP, e]
  | some o => cases o <;> simp only [lstOf, olP, e]
theorem lstOf_lst {S : Sto} {ds : List D} : lstOf S (.lst ds) = some ds := Eq.trans rfl rfl
theorem lstOf_scr {S : Sto} {ds : List D} : lstOf S (.scr ds) = some ds := Eq.trans rfl rfl
theorem lstOf_tup {S : Sto} {ds : List D} : lstOf S (.tup ds) = none := Eq.trans rfl rfl
theorem ownOf_ref' {S : Sto} {p : Addr} : ownOf S (.ref p) = olP (S p) := by
  cases e : S p with
  | none => simp only [ownOf, olP, e]
  | some o => cases o <;> simp only [ownOf, olP, e]
theorem ownOf_lst {S : Sto} {ds : List D} : ownOf S (.lst ds) = some ds := Eq.trans rfl rfl
theorem seqOf_tup' {S : Sto} {ds : List D} : seqOf S (.tup ds) = some ds := Eq.trans rfl rfl
theorem seqOf_lst' {S : Sto} {ds : List D} : seqOf S (.lst ds) = some ds := Eq.trans rfl rfl
theorem seqOf_scr' {S : Sto} {ds : List D} : seqOf S (.scr ds) = some ds := Eq.trans rfl rfl
theorem seqOf_ref' {S : Sto} {p : Addr} : seqOf S (.ref p) = olP (S p) := by rw [← lstOf_ref']; rfl
def tupOf : D → Option (List D)
  | .tup ds => some ds
  | _ => none
theorem tupOf_tup {ds : List D} : tupOf (.tup ds) = some ds := Eq.trans rfl rfl
theorem l_rIxM {d : D} {i : Int} {S : Sto} {Q : MQ} : rIxM d (.int i) S Q = optP (seqOf S d) fun xs => optP (ixL xs i) fun x => Q x S := by
  simp only [rIxM, optP, OptP]
  cases seqOf S d with
  | none => rfl
  | some xs =>
    dsimp only
    cases ixL xs i <;> rfl
theorem ixL_lit {α : Type} {xs : List α} {n : Nat} : ixL xs (no_index (OfNat.ofNat n : Int)) = xs[(OfNat.ofNat n : Nat)]? := Eq.trans rfl rfl
theorem ixL_cast {α : Type} {xs : List α} {n : Nat} : ixL xs ((n : Nat) : Int) = xs[n]? := Eq.trans rfl rfl
theorem ixL_m1 {α : Type} {x : α} {xs : List α} : ixL (x :: xs) (-1) = (x :: xs)[xs.length]? := by
  show ixL (x :: xs) (.negSucc 0) = _
  simp [ixL]
theorem setAt_lit {α : Type} {xs : List α} {n : Nat} {v : α} : setAt xs (no_index (OfNat.ofNat n : Int)) v = if (OfNat.ofNat n : Nat) < xs.length then some (xs.set (OfNat.ofNat n : Nat) v) else none := Eq.trans rfl rfl
theorem setAt_cast {α : Type} {xs : List α} {n : Nat} {v : α} : setAt xs ((n : Nat) : Int) v = if n < xs.length then some (xs.set n v) else none := Eq.trans rfl rfl
theorem l_rSetM {p : Addr} {k : Int} {v : D} {S : Sto} {Q : Sto → Prop} : rSetM (.ref p) (.int k) v S Q = optP (olP (S p)) fun xs => optP (setAt xs k v) fun ys => Q (put S p (.lst ys)) := by
  simp only [rSetM, optP, OptP, olP]
  cases S p with
  | none => rfl
  | some o =>
    cases o with
    | lst xs => dsimp only; cases setAt xs k v <;> rfl
    | _ => rfl
theorem l_rInt {C : Int → Int → Prop} {g : Int → Int → D} {i j : Int} {S : Sto} {Q : MQ} : rInt C g (.int i) (.int j) S Q = (C i j ∧ Q (g i j) S) := Eq.trans rfl rfl
theorem l_rInt0 {g : Int → Int → D} {i j : Int} {S : Sto} {Q : MQ} : rInt0 g (.int i) (.int j) S Q = Q (g i j) S := Eq.trans rfl rfl
theorem l_rAdd_int {i j : Int} {S : Sto} {Q : MQ} : rAdd (.int i) (.int j) S Q = Q (.int (i + j)) S := Eq.trans rfl rfl
theorem l_rAdd_str {i j : Str} {S : Sto} {Q : MQ} : rAdd (.str i) (.str j) S Q = (i.length + j.length ≤ sizeLine ∧ Q (.str (i ++ j)) S) := Eq.trans rfl rfl
theorem l_rAdd_tup {i j : List D} {S : Sto} {Q : MQ} : rAdd (.tup i) (.tup j) S Q = ((i ≠ [] ∧ i.length + j.length ≤ sizeLine) ∧ Q (.tup (i ++ j)) S) := Eq.trans rfl rfl
theorem l_rNeg {i : Int} {S : Sto} {Q : MQ} : rNeg (.int i) S Q = Q (.int (-i)) S := Eq.trans rfl rfl
theorem l_rIsN {d : D} {S : Sto} {Q : MQ} : rIsN d .non S Q = Q (.bl (isN d)) S := Eq.trans rfl rfl
theorem l_rNotN {d : D} {S : Sto} {Q : MQ} : rNotN d .non S Q = Q (.bl (!isN d)) S := Eq.trans rfl rfl
theorem l_rIsBM {neg a b : Bool} {S : Sto} {Q : MQ} : rIsBM neg (.bl a) (.bl b) S Q = Q (.bl (if neg then !decide (a = b) else decide (a = b))) S := Eq.trans rfl rfl
theorem l_mTru {m : ME} {σ : MSt} {S : Sto} {Q : Bool → Sto → Prop} {E : MXQ} : mTru m σ S Q E = m σ S (fun d S1 => optP (truD S1 d) fun k => Q k S1) E := by
  unfold mTru optP OptP
  apply congrArg (fun f => m σ S f E)
  funext d S1
  cases truD S1 d <;> rfl
theorem truD_bl {S : Sto} {b : Bool} : truD S (.bl b) = some b := Eq.trans rfl rfl
theorem truD_int {S : Sto} {i : Int} : truD S (.int i) = some (i != 0) := Eq.trans rfl rfl
theorem truD_tup {S : Sto} {ds : List D} : truD S (.tup ds) = some (!ds.isEmpty) := Eq.trans rfl rfl
theorem truD_lst {S : Sto} {ds : List D} : truD S (.lst ds) = some (!ds.isEmpty) := Eq.trans rfl rfl
theorem truD_scr {S : Sto} {ds : List D} : truD S (.scr ds) = some (!ds.isEmpty) := Eq.trans rfl rfl
theorem truD_non {S : Sto} : truD S .non = some false := Eq.trans rfl rfl
theorem l_bLen {d : D} {S : Sto} {Q : MQ} : bLen [d] S Q = optP (lenD S d) fun n => Q (.int n) S := by
  simp only [bLen, optP, OptP]; cases lenD S d <;> rfl
theorem lenD_tup {S : Sto} {ds : List D} : lenD S (.tup ds) = some ds.length := Eq.trans rfl rfl
theorem lenD_lst {S : Sto} {ds : List D} : lenD S (.lst ds) = some ds.length := Eq.trans rfl rfl
theorem lenD_scr {S : Sto} {ds : List D} : lenD S (.scr ds) = some ds.length := Eq.trans rfl rfl
theorem lenD_ref {S : Sto} {p : Addr} : lenD S (.ref p) = (olP (S p)).map List.length := by rw [← lstOf_ref']; rfl
theorem l_bAbs {i : Int} {S : Sto} {Q : MQ} : bAbs [.int i] S Q = Q (.int (i.natAbs : Nat)) S := by
  have e : (if i < 0 then -i else i) = (i.natAbs : Int) := by split <;> omega
  simp only [bAbs, e]
theorem l_bMax2 {i j : Int} {S : Sto} {Q : MQ} : bMax2 [.int i, .int j] S Q = Q (.int (if j > i then j else i)) S := Eq.trans rfl rfl
theorem l_bMin2 {i j : Int} {S : Sto} {Q : MQ} : bMin2 [.int i, .int j] S Q = Q (.int (if j < i then j else i)) S := Eq.trans rfl rfl
theorem l_bInt_i {i : Int} {S : Sto} {Q : MQ} : bInt [.int i] S Q = Q (.int i) S := Eq.trans rfl rfl
theorem l_bInt_b {k : Bool} {S : Sto} {Q : MQ} : bInt [.bl k] S Q = Q (.int (if k then 1 else 0)) S := Eq.trans rfl rfl
theorem l_bTuple {d : D} {S : Sto} {Q : MQ} : bTuple [d] S Q = optP (seqOf S d) fun xs => Q (.tup xs) S := by
  cases d with
  | tup xs => rfl
  | _ =>
    simp only [bTuple, optP, OptP, seqOf]
    split <;> simp_all
theorem l_bListF {d : D} {S : Sto} {Q : MQ} : bListF [d] S Q = optP (seqOf S d) fun xs => Q (.lst xs) S := by
  simp only [bListF, optP, OptP]; cases seqOf S d <;> rfl
theorem l_bList {d : D} {S : Sto} {Q : MQ} : bList [d] S Q = optP (seqOf S d) fun xs => ∀ p, S p = none → Q (.ref p) (put S p (.lst xs)) := by
  simp only [bList, optP, OptP]; cases seqOf S d <;> rfl
theorem l_mIsi {u : String} {m : ME} {σ : MSt} {S : Sto} {Q : MQ} {E : MXQ} : mIsi u m σ S Q E = m σ S (fun d S1 => optP (tyD S1 d) fun t => Q (.bl (isTy t u)) S1) E := by
  unfold mIsi optP OptP
  apply congrArg (fun f => m σ S f E)
  funext d S1
  cases tyD S1 d <;> rfl
theorem tyD_non {S : Sto} : tyD S .non = some "NoneType" := Eq.trans rfl rfl
theorem tyD_bl {S : Sto} {b : Bool} : tyD S (.bl b) = some "bool" := Eq.trans rfl rfl
theorem tyD_int {S : Sto} {b : Int} : tyD S (.int b) = some "int" := Eq.trans rfl rfl
theorem tyD_str {S : Sto} {b : Str} : tyD S (.str b) = some "str" := Eq.trans rfl rfl
theorem tyD_tup {S : Sto} {b : List D} : tyD S (.tup b) = some "tuple" := Eq.trans rfl rfl
theorem tyD_lst {S : Sto} {b : List D} : tyD S (.lst b) = some "list" := Eq.trans rfl rfl
theorem l_iL {m : ME} {σ : MSt} {S : Sto} {R : List D → (Sto → Prop) → Sto → Prop} {E : MXQ} : iL m σ S R E = m σ S (fun d S1 => optP (lstOf S1 d) fun ds => R ds (fun S' => lstOf S' d = some ds) S1) E := by
  unfold iL optP OptP
  apply congrArg (fun f => m σ S f E)
  funext d S1
  cases lstOf S1 d <;> rfl
theorem l_iT {m : ME} {σ : MSt} {S : Sto} {R : List D → (Sto → Prop) → Sto → Prop} {E : MXQ} : iT m σ S R E = m σ S (fun d S1 => optP (tupOf d) fun ds => R ds (fun _ => True) S1) E := by
  unfold iT optP OptP tupOf
  apply congrArg (fun f => m σ S f E)
  funext d S1
  cases d <;> rfl
theorem l_gTp {n : Nat} {gs : MGs} {d : D} {σ : MSt} {S : Sto} {Q : MSt → Sto → Prop} {E : MXQ} : gTp n gs d σ S Q E = optP (tupOf d) fun ds => ds.length = n ∧ gs ds σ S Q E := by cases d <;> rfl
theorem l_gLs {n : Nat} {gs : MGs} {d : D} {σ : MSt} {S : Sto} {Q : MSt → Sto → Prop} {E : MXQ} : gLs n gs d σ S Q E = optP (lstOf S d) fun ds => ds.length = n ∧ gs ds σ S Q E := by
  unfold gLs optP OptP; cases lstOf S d <;> rfl
theorem l_gCn {g : MG} {gs : MGs} {d : D} {r : List D} {σ : MSt} {S : Sto} {Q : MSt → Sto → Prop} {E : MXQ} : gCn g gs (d :: r) σ S Q E = g d σ S (fun σ' S' => gs r σ' S' Q E) E := Eq.trans rfl rfl
theorem l_gNl {σ : MSt} {S : Sto} {Q : MSt → Sto → Prop} {E : MXQ} : gNl [] σ S Q E = Go Q σ S := Eq.trans rfl rfl
theorem l_mtAppend {p : Addr} {y : D} {S : Sto} {Q : MQ} : mtAppend (.ref p) [y] S Q = optP (olP (S p)) fun xs => xs.length < sizeLine ∧ Q .non (put S p (.lst (xs ++ [y]))) := by
  simp only [mtAppend, optP, OptP, olP]
  cases S p with
  | none => rfl
  | some o => cases o <;> rfl
theorem isLst_ref {S : Sto} {p : Addr} {ds : List D} (h : S p = some (.lst ds)) : isLst S (.ref p) = True := eq_true ⟨ds, by simp only [lstOf, h]⟩
theorem szl {n : Nat} (h : n ≤ 1000) : (n ≤ sizeLine) = True := eq_true (line_le h)
theorem szlt {n : Nat} (h : n ≤ 1000) : (n < sizeLine) = True := eq_true (line_lt h)
theorem cpow_lit {i j : Int} (h : 0 ≤ j) (h2 : j ≤ 1000000) (h3 : -1000 ≤ i) (h4 : i ≤ 1000) : CPow i j = True := eq_true ⟨h, h2, by omega⟩
theorem mulok_rl {i j : Int} (h1 : -18446744073709551616 < j) (h2 : j < 18446744073709551616) : IntMulOk i j = True := eq_true (mulok_r (by omega) (by omega))
theorem mulok_ll {i j : Int} (h1 : -18446744073709551616 < i) (h2 : i < 18446744073709551616) : IntMulOk i j = True := eq_true (mulok_l (by omega) (by omega))
theorem divok_l {i j : Int} (h1 : 0 < j) (h2 : j < 1073741824) : DivOk i j = True := eq_true (divok_s (by omega) (by omega))
end ML
set_option maxRecDepth 100000
namespace ML
open PySem PySem.Spec L2
open PyProof.Rows hiding St
section
variable {X : Cx} {W : WX} {tg : Expr} {g : MG} {pos : Pos}
/-- name = [.. for ..], stored at once -/
theorem ssetLc {i : Nat} {y : Str} {py spos : Pos} {elt iter : Expr} {ifs : List Expr} {scope : Scope} {own : List (Str × Nat)} {mi : MI} {mt : MT} {me : ME} (hc : X.calm = true) (hN : X.N.Nodup) (hi : PI X tg iter (upI X.K W mi)) (ok : BlkOk X.N X.env.scope scope own)
    (hg : ∀ (s : Shared) (H : Hp) (C : Addr) (cl : List (Str × Addr)) (fp : List Addr), PG (X.blk s H scope (compEnvC scope cl C X.env) fp) tg (upGo X.K (own.map (·.2)) g)) (ht : ∀ (s : Shared) (H : Hp) (C : Addr) (cl : List (Str × Addr)) (fp : List Addr), PTs (X.blk s H scope (compEnvC scope cl C X.env) fp) ifs (upT X.K W0 mt))
    (he : ∀ (s : Shared) (H : Hp) (C : Addr) (cl : List (Str × Addr)) (fp : List Addr), PE (X.blk s H scope (compEnvC scope cl C X.env) fp) elt (upE X.K W0 me)) (hy : X.N[i]? = some y := by rfl) (hyl : X.env.scope.names.lookup y = some .local := by rfl)
    (hsw : swapsWith (.ListComp elt [⟨tg, iter, ifs, 0⟩] scope pos) (some (.Name y py)) spos.line X.env = pure true := by exact sw_true rfl rfl rfl rfl) (hs : ∀ x, foldedSetIterable iter X.env x = pure x := by intro _; rfl) :
    PS X (.Assign [.Name y py] (.ListComp elt [⟨tg, iter, ifs, 0⟩] scope pos) spos) (upS X.K W (mSet i (mComp mi g mt me (own.map (·.2))))) :=
  L2.PS.to (ps_setLc hc hN hy hyl hsw hi ok hg ht he hs) fun D σ H ⟨m, S, Dm, h1, h2, h3, h4⟩ =>
    ⟨m, S, _, _, h1, h2, h3, fun items G S1 J H1 q e1 s1 it Dp hD =>
      lc_to (Q := fun x H1 => gName i x σ H1 D.nx) (h1.ext e1) s1 it hD (q Dp (s1.fresh hD)) fun acc H' S' f ea e' s' => h4.nx _ S' _ H' f (e1.trans e') s' ((h1.ext (e1.trans e')).set (.ref Dp) i), xAt_ref h1 h4.ex⟩
end
/-- the next turn of a comprehension -/
def CompNext (p : Addr) (J : Nat → List D → Sto → Prop) (i : Nat) (y : D) (S4 : Sto) : Prop := ∃ acc, S4 p = some (.lst acc) ∧ acc.length < sizeLine ∧ ∃ acc', put S4 p (.lst (acc ++ [y])) p = some (.lst acc') ∧ J (i + 1) acc' (put S4 p (.lst (acc ++ [y])))
theorem CompNext.mk {p : Addr} {J : Nat → List D → Sto → Prop} {i : Nat} {y : D} {S4 : Sto} {acc : List D} (h : S4 p = some (.lst acc)) (hl : acc.length < sizeLine) (hj : J (i + 1) (acc ++ [y]) (put S4 p (.lst (acc ++ [y])))) : CompNext p J i y S4 := ⟨acc, h, hl, acc ++ [y], put_same, hj⟩
theorem comp_inv {items : List D} {σ : MSt} {S : Sto} {p : Addr} {own : List Nat} {G : Sto → Prop} {g : MG} {me : ME} {fin : List D → Sto → Prop} (J : Nat → List D → Sto → Prop) (hS : S p = some (.lst [])) (h0 : J 0 [] S)
    (hs : ∀ i d acc S', items[i]? = some d → J i acc S' → S' p = some (.lst acc) → G S' ∧ g d (wipeM σ own) S' (fun σ2 S2 => me σ2 S2 (fun y S4 => CompNext p J i y S4) noX) noX)
    (hd : ∀ acc S', J items.length acc S' → S' p = some (.lst acc) → G S' ∧ fin acc S') : @CompP items σ S p own ⟨G⟩ ⟨g⟩ ⟨mYes⟩ ⟨me⟩ ⟨fin⟩ := by
  refine ⟨fun i S' => ∃ acc, S' p = some (.lst acc) ∧ J i acc S', ⟨[], hS, h0⟩, fun i S' hi ⟨acc, ha, hj⟩ => ?_⟩
  cases e : items[i]? with
  | none =>
    have : i = items.length := by have := List.getElem?_eq_none_iff.mp e; omega
    subst this
    obtain ⟨h1, h2⟩ := hd acc S' hj ha
    exact ⟨h1, acc, ha, h2⟩
  | some d =>
    obtain ⟨h1, h2⟩ := hs i d acc S' e hj ha
    refine ⟨h1, ?_⟩
    have ee : (fun (σ2 : MSt) (S2 : Sto) => mYes σ2 S2 (fun k S3 => if k = true then me σ2 S3 (fun y S4 => ∃ acc, S4 p = some (.lst acc) ∧ acc.length < sizeLine ∧ ∃ acc_1, put S4 p (.lst (acc ++ [y])) p = some (.lst acc_1) ∧ J (i + 1) acc_1 (put S4 p (.lst (acc ++ [y])))) noX
        else ∃ acc, S3 p = some (.lst acc) ∧ J (i + 1) acc S3) noX) = fun σ2 S2 => me σ2 S2 (fun y S4 => CompNext p J i y S4) noX := by
      funext σ2 S2
      simp only [mYes, if_true, CompNext]
    exact Eq.mp (congrArg (fun f => g d (wipeM σ own) S' f noX) ee.symm) h2
theorem comp_rng {lo : Int} {n : Nat} {σ : MSt} {S : Sto} {p : Addr} {own : List Nat} {g : MG} {me : ME} {fin : List D → Sto → Prop} (J : Nat → List D → Sto → Prop) (hS : S p = some (.lst [])) (h0 : J 0 [] S)
    (hs : ∀ i acc S', i < n → J i acc S' → S' p = some (.lst acc) → g (.int (lo + (i : Nat))) (wipeM σ own) S' (fun σ2 S2 => me σ2 S2 (fun y S4 => CompNext p J i y S4) noX) noX)
    (hd : ∀ acc S', J n acc S' → S' p = some (.lst acc) → fin acc S') : @CompP (rngD lo n) σ S p own ⟨fun _ => True⟩ ⟨g⟩ ⟨mYes⟩ ⟨me⟩ ⟨fin⟩ :=
  comp_inv J hS h0 (fun i d acc S' e hj ha => by
    have hi : i < n := by
      have := (List.getElem?_eq_some_iff.mp e).1
      rwa [rngD_len] at this
    rw [rngD_get e]
    exact ⟨trivial, hs i acc S' hi hj ha⟩) fun acc S' hj ha => ⟨trivial, hd acc S' (by rwa [rngD_len] at hj) ha⟩
end ML
set_option maxRecDepth 100000
namespace ML
open PySem PySem.Spec L2
open PyProof.Rows hiding St
/-! ### a loop over a list or a tuple -/
section
variable {X : Cx} {W : WX} {tg : Expr} {m : ME}
theorem pi_sq {l : Expr} {tl : TE} (hl : PE X l tl) : PI X tg l (fun σ H R => tl σ H fun x H1 => ∃ a, x = .ref a ∧ (((∃ xs, SqL X.K H1 a xs) ∧ R (Itl X.K a) H1) ∨ ((∃ xs, SqT X.K H1 a xs) ∧ R (Itt X.K a) H1))) := by
  constructor
  intro pins s σ H R I h
  apply thn (hl.run pins s σ H _ I h)
  rintro v s1 ⟨x, H1, I1, r1, a, rfl, q1⟩
  obtain rfl : v = Value.ref a := r1
  have top : ∀ b ∈ [s1.heap.objs.size], FpOk X pins H1 b := by
    intro b hb
    obtain rfl := List.mem_singleton.mp hb
    exact I1.fpOk (Nat.le_refl _) (I1.hok.fresh (Nat.le_refl _))
  rcases q1 with ⟨⟨xs, hq⟩, q⟩ | ⟨⟨xs, hq⟩, q⟩
  · have ⟨its, _, p, _⟩ := I1.list hq
    apply wpAny_pyIter_list p.isList
    exact ⟨_, [s1.heap.objs.size], _, _, H1, rfl, I1.kept (t' := s1.toks) (fun _ _ e => Heap.get?_push_of_some _ e), turn_list a _, ⟨_, Heap.get?_push_size _ rfl, rfl, rfl⟩, top, q⟩
  · have ⟨its, _, p, _⟩ := I1.tuple hq
    apply wpAny_pyIter_tuple (show s1.heap.IsTuple a its.toArray from p)
    exact ⟨_, [s1.heap.objs.size], _, _, H1, rfl, I1.kept (t' := s1.toks) (fun _ _ e => Heap.get?_push_of_some _ e), turn_tuple a _, ⟨_, Heap.get?_push_size _ rfl, rfl, rfl⟩, top, q⟩
def iS (m : ME) : MI := fun σ S R E => m σ S (fun d S1 => match d with
  | .tup ds => R ds (fun _ => True) S1
  | d => match lstOf S1 d with
    | some ds => R ds (fun S' => lstOf S' d = some ds) S1
    | none => False) E
theorem is {l : Expr} (h : PE X l (upE X.K W m)) : PI X tg l (upI X.K W (iS m)) := L2.PI.to (pi_sq h) fun σ H R ⟨m, S, Rm, Em, h1, h2, h3, h4, h5⟩ =>
  ⟨m, S, _, Em, h1, h2, h3, fun d S1 v H1 q e s r => by
    have key : ∀ ds, lstOf S1 d = some ds → Rm ds (fun S' => lstOf S' d = some ds) S1 → ∃ a, v = .ref a ∧ (((∃ xs, SqL X.K H1 a xs) ∧ R (Itl X.K a) H1) ∨ ((∃ xs, SqT X.K H1 a xs) ∧ R (Itt X.K a) H1)) := fun ds e2 q => by
      obtain ⟨a, e1, hx, it⟩ := itok_list s r e2
      exact ⟨a, e1, .inl ⟨hx, h4 ds _ S1 _ H1 q e s it⟩⟩
    cases d with
    | tup ds =>
      obtain ⟨a, rfl, hx, it⟩ := itok_tup s r
      exact ⟨a, rfl, .inr ⟨hx, h4 _ _ S1 _ H1 q e s it⟩⟩
    | lst ds => exact key ds rfl q
    | scr ds => exact key ds rfl q
    | ref p =>
      dsimp only at q
      cases e2 : lstOf S1 (.ref p) with
      | none => rw [e2] at q; exact q.elim
      | some ds => rw [e2] at q; exact key ds e2 q
    | _ => exact q.elim, h5⟩
end
def sqI (S : Sto) : D → Option (List D × (Sto → Prop))
  | .tup ds => some (ds, fun _ => True)
  | .lst ds => some (ds, fun _ => True)
  | .scr ds => some (ds, fun _ => True)
  | .ref p => (olP (S p)).map fun ds => (ds, fun S' => olP (S' p) = some ds)
  | _ => none
theorem l_iS {m : ME} {σ : MSt} {S : Sto} {R : List D → (Sto → Prop) → Sto → Prop} {E : MXQ} : iS m σ S R E = m σ S (fun d S1 => optP (sqI S1 d) fun r => R r.1 r.2 S1) E := by
  unfold iS
  apply congrArg (fun f => m σ S f E)
  funext d S1
  cases d with
  | ref p =>
    simp only [lstOf_ref', optP, OptP, sqI]
    cases e : olP (S1 p) <;> simp
  | lst ds => simp only [lstOf, optP, OptP, sqI]
  | scr ds => simp only [lstOf, optP, OptP, sqI]
  | tup ds => simp only [optP, OptP, sqI]
  | _ => simp only [lstOf, optP, OptP, sqI]
theorem sqI_tup {S : Sto} {ds : List D} : sqI S (.tup ds) = some (ds, fun _ => True) := Eq.trans rfl rfl
theorem sqI_lst {S : Sto} {ds : List D} : sqI S (.lst ds) = some (ds, fun _ => True) := Eq.trans rfl rfl
theorem sqI_scr {S : Sto} {ds : List D} : sqI S (.scr ds) = some (ds, fun _ => True) := Eq.trans rfl rfl
theorem sqI_ref {S : Sto} {p : Addr} {ds : List D} : sqI (put S p (.lst ds)) (.ref p) = some (ds, fun S' => olP (S' p) = some ds) := by
  simp only [sqI, put_same, olP, Option.map_some]
theorem sqI_at {S : Sto} {p : Addr} {ds : List D} (h : S p = some (.lst ds)) : sqI S (.ref p) = some (ds, fun S' => olP (S' p) = some ds) := by
  simp only [sqI, h, olP, Option.map_some]
/-! ### comprehensions, loops turn by turn -/
def croll (G : Sto → Prop) (g : MG) (mt : MT) (me : ME) (p : Addr) (own : List Nat) (σ : MSt) (fin : List D → Sto → Prop) : List D → Sto → Prop
  | [], S => G S ∧ ∃ acc, S p = some (.lst acc) ∧ fin acc S
  | d :: ds, S => G S ∧ g d (wipeM σ own) S (fun σ2 S2 => mt σ2 S2 (fun k S3 => if k = true then me σ2 S3 (fun y S4 => ∃ acc, S4 p = some (.lst acc) ∧ acc.length < sizeLine ∧ croll G g mt me p own σ fin ds (put S4 p (.lst (acc ++ [y])))) noX else croll G g mt me p own σ fin ds S3) noX) noX
theorem wlc_roll {G : Sto → Prop} {g : MG} {mt : MT} {me : ME} {p : Addr} {own : List Nat} {σ : MSt} {fin : List D → Sto → Prop} {items : List D} {S : Sto} (h : croll G g mt me p own σ fin items S) : wlc G g mt me p own σ fin items S := by
  refine ⟨fun i => croll G g mt me p own σ fin (items.drop i), by simpa using h, fun i S hi h => ?_⟩
  dsimp only at h ⊢
  by_cases hlt : i < items.length
  · have hd : items.drop i = items[i] :: items.drop (i + 1) := List.drop_eq_getElem_cons hlt
    rw [hd] at h
    rw [List.getElem?_eq_getElem hlt]
    exact h
  · have e : i = items.length := by omega
    subst e
    rw [List.drop_length] at h
    rw [List.getElem?_eq_none (by omega)]
    exact h
def CrA (y : D) (S : Sto) (p : Addr) [k : Hold (Sto → Prop)] : Prop := ∃ acc, S p = some (.lst acc) ∧ acc.length < sizeLine ∧ k.v (put S p (.lst (acc ++ [y])))
theorem CrA_at {y : D} {S : Sto} {p : Addr} {acc : List D} {k : Hold (Sto → Prop)} : @CrA y (put S p (.lst acc)) p k = (acc.length < sizeLine ∧ k.v (put S p (.lst (acc ++ [y])))) := by
  unfold CrA
  apply propext
  constructor
  · rintro ⟨a, h1, h2, h3⟩
    rw [put_same] at h1
    cases h1
    rw [put_put] at h3
    exact ⟨h2, h3⟩
  · rintro ⟨h1, h2⟩
    exact ⟨acc, put_same, h1, by rw [put_put]; exact h2⟩
structure CrK where
  G : Sto → Prop
  g : MG
  mt : MT
  me : ME
  p : Addr
  own : List Nat
  σ : MSt
  fin : List D → Sto → Prop
def CrollP (items : List D) (S : Sto) [k : Hold CrK] : Prop := croll k.v.G k.v.g k.v.mt k.v.me k.v.p k.v.own k.v.σ k.v.fin items S
theorem CrollP_nil {S : Sto} {G : Sto → Prop} {g : MG} {mt : MT} {me : ME} {p : Addr} {own : List Nat} {σ : MSt} {fin : List D → Sto → Prop} {acc : List D} : @CrollP [] (put S p (.lst acc)) ⟨⟨G, g, mt, me, p, own, σ, fin⟩⟩ = (G (put S p (.lst acc)) ∧ fin acc (put S p (.lst acc))) := by
  apply propext
  constructor
  · rintro ⟨h, a, h1, h2⟩
    have h3 : put S p (.lst acc) p = some (.lst a) := h1
    rw [put_same] at h3; cases h3
    exact ⟨h, h2⟩
  · rintro ⟨h1, h2⟩; exact ⟨h1, acc, put_same, h2⟩
theorem CrollP_cons {d : D} {ds : List D} {S : Sto} {G : Sto → Prop} {g : MG} {mt : MT} {me : ME} {p : Addr} {own : List Nat} {σ : MSt} {fin : List D → Sto → Prop} : @CrollP (d :: ds) S ⟨⟨G, g, mt, me, p, own, σ, fin⟩⟩ =
    (G S ∧ g d (wipeM σ own) S (fun σ2 S2 => mt σ2 S2 (fun k S3 => @IteP (k = true) ⟨me σ2 S3 (fun y S4 => @CrA y S4 p ⟨fun S5 => @CrollP ds S5 ⟨⟨G, g, mt, me, p, own, σ, fin⟩⟩⟩) noX⟩ ⟨@CrollP ds S3 ⟨⟨G, g, mt, me, p, own, σ, fin⟩⟩⟩) noX) noX) := by
  simp only [CrollP, croll, IteP_bool]
  rfl
theorem comp_roll {items : List D} {σ : MSt} {S : Sto} {p : Addr} {own : List Nat} {G : Sto → Prop} {g : MG} {mt : MT} {me : ME} {fin : List D → Sto → Prop} (h : @CrollP items S ⟨⟨G, g, mt, me, p, own, σ, fin⟩⟩) : @CompP items σ S p own ⟨G⟩ ⟨g⟩ ⟨mt⟩ ⟨me⟩ ⟨fin⟩ := wlc_roll h
theorem l_mYes {σ : MSt} {S : Sto} {Q : Bool → Sto → Prop} {E : MXQ} : mYes σ S Q E = Q true S := Eq.trans rfl rfl
/-- a loop over known items, turn by turn -/
structure FoK where
  G : Sto → Prop
  g : MG
  mb : MS
  D : MEnds
def FrollP (items : List D) (σ : MSt) (S : Sto) [k : Hold FoK] : Prop := wroll k.v.G k.v.g k.v.mb k.v.D items σ S
theorem FrollP_nil {σ : MSt} {S : Sto} {G : Sto → Prop} {g : MG} {mb : MS} {De : MEnds} : @FrollP [] σ S ⟨⟨G, g, mb, De⟩⟩ = (G S ∧ Go De.nx σ S) := Eq.trans rfl rfl
theorem FrollP_cons {d : D} {ds : List D} {σ : MSt} {S : Sto} {G : Sto → Prop} {g : MG} {mb : MS} {De : MEnds} : @FrollP (d :: ds) σ S ⟨⟨G, g, mb, De⟩⟩ =
    (G S ∧ g d σ S (fun σ' S' => mb { De with nx := fun σ S => @FrollP ds σ S ⟨⟨G, g, mb, De⟩⟩, ct := fun σ S => @FrollP ds σ S ⟨⟨G, g, mb, De⟩⟩, bk := De.nx } σ' S') (xAt De σ)) := Eq.trans rfl rfl
theorem for_roll {items : List D} {σ : MSt} {S : Sto} {G : Sto → Prop} {g : MG} {mb : MS} {De : MEnds} (h : @FrollP items σ S ⟨⟨G, g, mb, De⟩⟩) : @ForP items σ S ⟨G⟩ ⟨g⟩ ⟨mb⟩ ⟨De⟩ := wfor_roll h
/-! ### if, its ways come together: what holds behind it is said -/
def mIfJ (c : MT) (t u : MS) : MS := fun De σ S => c σ S (fun b S1 => ∃ J : MSt → Sto → Prop, (if b = true then t { De with nx := J } σ S1 else u { De with nx := J } σ S1) ∧ ∀ σ' S', J σ' S' → De.nx σ' S') (xAt De σ)
section
variable {X : Cx} {W : WX} {c : Expr} {mt mu : MS} {pos : Pos}
theorem sifJ {tc : MT} {as bs : List Stmt} (hc : PT X c (upT X.K W tc)) (ha : PSs X as (upS X.K W mt)) (hb : PSs X bs (upS X.K W mu)) : PS X (.If c as bs pos) (upS X.K W (mIfJ tc mt mu)) := L2.PS.to (ps_if hc ha hb) fun D σ H ⟨m, S, Dm, h1, h2, h3, h4⟩ =>
  ⟨m, S, _, _, h1, h2, h3, fun k S1 H1 q e s => by
    obtain ⟨J, q, hJ⟩ := q
    have r : RefE X.K H1 S1 { Dm with nx := J } D W := ⟨fun m' S' σ' H' z e' s' r' => h4.nx m' S' σ' H' (hJ _ _ z) (e.trans e') s' r', (h4.ext e).rt, (h4.ext e).bk, (h4.ext e).ct, (h4.ext e).ex⟩
    cases k with
    | true => rw [if_pos rfl]; exact ⟨m, S1, _, h1.ext e, s, by simpa using q, r⟩
    | false => rw [if_neg Bool.false_ne_true]; exact ⟨m, S1, _, h1.ext e, s, by simpa using q, r⟩, xAt_ref h1 h4.ex⟩
end
def JfP (c : Prop) (σ : MSt) (S : Sto) [t : Hold MS] [u : Hold MS] [De : Hold MEnds] : Prop := ∃ J : MSt → Sto → Prop, ((c → t.v { De.v with nx := J } σ S) ∧ (¬ c → u.v { De.v with nx := J } σ S)) ∧ ∀ σ' S', J σ' S' → De.v.nx σ' S'
theorem l_mIfJ {c : MT} {t u : MS} {De : MEnds} {σ : MSt} {S : Sto} : mIfJ c t u De σ S = c σ S (fun b S1 => @JfP (b = true) σ S1 ⟨t⟩ ⟨u⟩ ⟨De⟩) (xAt De σ) := by
  unfold mIfJ
  apply congrArg (fun f => c σ S f (xAt De σ))
  funext b S1
  have e : ∀ J : MSt → Sto → Prop, (if b = true then t { De with nx := J } σ S1 else u { De with nx := J } σ S1) = ((b = true → t { De with nx := J } σ S1) ∧ (¬ b = true → u { De with nx := J } σ S1)) := fun J => IteP_bool
  simp only [e]
  rfl
theorem jf {c : Prop} {σ : MSt} {S : Sto} {t u : MS} {De : MEnds} (J : MSt → Sto → Prop) (h1 : c → t { De with nx := J } σ S) (h2 : ¬ c → u { De with nx := J } σ S) (k : ∀ σ' S', J σ' S' → Go De.nx σ' S') : @JfP c σ S ⟨t⟩ ⟨u⟩ ⟨De⟩ := ⟨J, ⟨h1, h2⟩, k⟩
/-- a row behind which what holds is said -/
def mJ (t : MS) : MS := fun De σ S => ∃ J : MSt → Sto → Prop, t { De with nx := J } σ S ∧ ∀ σ' S', J σ' S' → De.nx σ' S'
def JP (σ : MSt) (S : Sto) [t : Hold MS] [De : Hold MEnds] : Prop := ∃ J : MSt → Sto → Prop, t.v { De.v with nx := J } σ S ∧ ∀ σ' S', J σ' S' → De.v.nx σ' S'
theorem l_mJ {t : MS} {De : MEnds} {σ : MSt} {S : Sto} : mJ t De σ S = @JP σ S ⟨t⟩ ⟨De⟩ := Eq.trans rfl rfl
theorem isN_non : isN .non = true := Eq.trans rfl rfl
theorem isN_int {i : Int} : isN (.int i) = false := Eq.trans rfl rfl
theorem isN_bl {i : Bool} : isN (.bl i) = false := Eq.trans rfl rfl
theorem isN_str {i : Str} : isN (.str i) = false := Eq.trans rfl rfl
theorem isN_tup {i : List D} : isN (.tup i) = false := Eq.trans rfl rfl
theorem isN_lst {i : List D} : isN (.lst i) = false := Eq.trans rfl rfl
theorem isN_ref {i : Addr} : isN (.ref i) = false := Eq.trans rfl rfl
theorem put_sw {p q : Addr} (h : q ≠ p) (S : Sto) (a b : MO) : put (put S q a) p b = put (put S p b) q a := put_comm h
theorem rngD_0 {lo : Int} : rngD lo 0 = [] := rfl
theorem rngD_1 {lo : Int} : rngD lo 1 = [.int lo] := by simp [rngD, List.range, List.range.loop]
theorem rngD_2 {lo : Int} : rngD lo 2 = [.int lo, .int (lo + 1)] := by simp [rngD, List.range, List.range.loop]
theorem rngD_3 {lo : Int} : rngD lo 3 = [.int lo, .int (lo + 1), .int (lo + 2)] := by simp [rngD, List.range, List.range.loop]
theorem rngD_4 {lo : Int} : rngD lo 4 = [.int lo, .int (lo + 1), .int (lo + 2), .int (lo + 3)] := by simp [rngD, List.range, List.range.loop]
theorem rngD_6 {lo : Int} : rngD lo 6 = [.int lo, .int (lo + 1), .int (lo + 2), .int (lo + 3), .int (lo + 4), .int (lo + 5)] := by simp [rngD, List.range, List.range.loop]
theorem fresh_put {S : Sto} {p q : Addr} {o : MO} (h : put S p o q = none) : q ≠ p ∧ S q = none := by
  have e : q ≠ p := fun z => by rw [z, put_same] at h; cases h
  rw [put_ne e] at h
  exact ⟨e, h⟩
theorem q_wipeM_nil {σ : MSt} : wipeM σ [] = σ := rfl
theorem q_wipeM_cons {σ : MSt} {v : Nat} {vs : List Nat} : wipeM σ (v :: vs) = (wipeM σ vs).set v none := rfl
end ML
set_option maxRecDepth 100000
/-! ### max, min of two values that are compared by what stands in the heap -/
namespace PySem
/-- x op y tells b wherever what stood stands -/
def CmpAt (prog : Program) (w : World) (A : Around) (s0 : Heap) (op : CmpOp) (x y : Value) (b : Bool) : Prop :=
  ∀ (s : Shared) (Q E : Value → Shared → Prop), (∀ c o, s0.get? c = some o → s.heap.get? c = some o) → Q (.bool b) s → wpAny (model prog w) A (richCompare op x y) Q E s
section
variable {prog : Program} {w : World} {A : Around} {E : Value → Shared → Prop} {s : Shared}
theorem two_loop_max {a b : Value} {k : Bool} {I S ax : Addr} {h0 : Heap} {n0 : Nat} (hh : A.handled = none) (hne : ax ≠ I) (hSI : S ≠ I) (hSa : S ≠ ax) (hc : CmpAt prog w A.in1 h0 .Gt b a k) {R : Result → Shared → Prop} (lt : ∀ c o, h0.get? c = some o → c ≠ I ∧ c ≠ S)
    (hk0 : ∀ c o, h0.get? c = some o → s.heap.get? c = some o) (hI : s.heap.IsTupleIter I ax 0) (hT : s.heap.IsTuple ax #[a, b]) (hS : s.heap.get? S = some { cls := .type "list", dict := none, data := .seq #[] n0, slots := #[] })
    (hR : ∀ h' tk, (∀ c o, h0.get? c = some o → h'.get? c = some o) → R (.ok (.ret (if k = true then b else a))) { s with heap := h', toks := tk }) :
    codeAny (model prog w) A (.builtin "max.loop" ⟨[.ref I, .none, .ref S], []⟩) R s := by
  have W := Walks.tuple (prog := prog) (w := w) (A := A.in1) hh I ax hne #[a, b]
  have hw : S ∉ [I] := by simp [hSI]
  have hname : (toString "max" ++ toString ".loop" : String) = "max.loop" := by decide
  have ni : ∀ c o, h0.get? c = some o → c ∉ [I] := fun c o e => by simp [(lt c o e).1]
  apply codeAny_builtin F.entry_max_loop; rw [Around.under_plainId F.plain_max_loop _]; show wpAny _ A.in1 (_ >>= _) _ _ s
  refine wpAny_bind (wpAny_seqItems hS rfl ?_); show wpAny _ A.in1 (tryCatch (pyNext (.ref I)) _ >>= _) _ _ s
  refine wpAny_bind (wpAny_tryCatch (W.item 0 s _ _ (by simp) ⟨hI, hT⟩ fun v1 h1 t1 p1 st1 k1 => ?_))
  have e1 : v1 = a := by simpa using p1.symm
  have hS1 := k1 S _ hw hS
  show wpAny _ A.in1 (updateSeq S (fun _ => #[v1, v1]) >>= _) _ _ _
  apply wpAny_bind; refine wpAny_updateSeq hS1 rfl ?_; rw [hname]
  refine wpAny_pure ⟨plainId_quiet F.plain_max_loop _, ?_⟩
  have hS2 := Heap.get?_update_self (Obj.mapSeq fun _ => #[v1, v1]) hS1 rfl
  have st2 := W.frame 1 _ (h1.update S (Obj.mapSeq fun _ => #[v1, v1])) st1 fun c hc o e => (Heap.get?_update_other _ _ (fun z : S = c => by
    rw [← z] at hc; simp [hSI, hSa] at hc)).trans e
  have k2 : ∀ c o, h0.get? c = some o → (h1.update S (Obj.mapSeq fun _ => #[v1, v1])).get? c = some o := fun c o e => (Heap.get?_update_other _ _ (Ne.symm (lt c o e).2)).trans (k1 c o (ni c o e) (hk0 c o e))
  generalize h1.update S (Obj.mapSeq fun _ => #[v1, v1]) = h2 at hS2 st2 k2
  apply codeAny_builtin F.entry_max_loop; rw [Around.under_plainId F.plain_max_loop _]; show wpAny _ A.in1 (_ >>= _) _ _ _
  refine wpAny_bind (wpAny_seqItems hS2 rfl ?_); show wpAny _ A.in1 (tryCatch (pyNext (.ref I)) _ >>= _) _ _ _
  refine wpAny_bind (wpAny_tryCatch (W.item 1 _ _ _ (by simp) st2 fun v2 h3 t3 p2 st3 k3 => ?_))
  have e2 : v2 = b := by simpa using p2.symm
  have hS3 := k3 S _ hw hS2
  have k4 : ∀ c o, h0.get? c = some o → h3.get? c = some o := fun c o e => k3 c o (ni c o e) (k2 c o e)
  show wpAny _ A.in1 (tryCatch (holding [v2, v2] (richCompare .Gt v2 v1 >>= _)) _ >>= _) _ _ _
  subst e1 e2
  refine wpAny_bind (wpAny_tryCatch (wpAny_holding (wpAny_bind (hc _ _ _ k4 ?_))))
  refine wpAny_bind (wpAny_holding (wpAny_truthy_bool ?_)); refine wpAny_bind (wpAny_letGo (wpAny_pure ?_))
  have fin : ∀ (h4 : Heap) (t4 m4 : Nat) (vb : Value), h4.IsTupleIter I ax 2 ∧ h4.IsTuple ax #[v1, v2] → h4.get? S = some { cls := .type "list", dict := none, data := .seq #[vb, vb] m4, slots := #[] } → (∀ c o, h0.get? c = some o → h4.get? c = some o) →
      (∀ h' tk, (∀ c o, h0.get? c = some o → h'.get? c = some o) → R (.ok (.ret vb)) { s with heap := h', toks := tk }) → codeAny (model prog w) A (.builtin "max.loop" ⟨[.ref I, .none, .ref S], []⟩) R { s with heap := h4, toks := t4 } := fun h4 t4 m4 vb st4 hS4 k4 hR => by
    apply codeAny_builtin F.entry_max_loop; rw [Around.under_plainId F.plain_max_loop _]; show wpAny _ A.in1 (_ >>= _) _ _ _
    refine wpAny_bind (wpAny_seqItems hS4 rfl ?_); show wpAny _ A.in1 (tryCatch (pyNext (.ref I)) _ >>= _) _ _ _
    refine wpAny_bind (wpAny_tryCatch (W.done _ _ _ st4 fun h5 t5 k5 => ?_))
    have hS5 := k5 S _ hw hS4
    show wpAny _ A.in1 (updateSeq S (fun _ => #[]) >>= _) _ _ _
    apply wpAny_bind; refine wpAny_updateSeq hS5 rfl (wpAny_bind (wpAny_letGo (wpAny_pure ?_)))
    exact hR _ t5 fun c o e => (Heap.get?_update_other _ _ (Ne.symm (lt c o e).2)).trans (k5 c o (ni c o e) (k4 c o e))
  cases k with
  | true =>
    simp only [if_true] at hR ⊢
    apply wpAny_bind; refine wpAny_updateSeq hS3 rfl (wpAny_bind (wpAny_letGo ?_)); rw [hname]
    refine wpAny_pure ⟨plainId_quiet F.plain_max_loop _, fin _ _ _ v2 ?_ (Heap.get?_update_self _ hS3 rfl) (fun c o e => (Heap.get?_update_other _ _ (Ne.symm (lt c o e).2)).trans (k4 c o e)) hR⟩
    exact W.frame 2 _ _ st3 fun c hc o e => (Heap.get?_update_other _ _ (fun z : S = c => by
      rw [← z] at hc; simp [hSI, hSa] at hc)).trans e
  | false =>
    simp only [Bool.false_eq_true, if_false] at hR ⊢
    refine wpAny_bind (wpAny_letGo ?_); rw [hname]
    exact wpAny_pure ⟨plainId_quiet F.plain_max_loop _, fin _ _ _ v1 st3 hS3 k4 hR⟩
theorem call_max_at {a b : Value} {k : Bool} {Q : Value → Shared → Prop} (hh : A.handled = none) (hc : CmpAt prog w A.in1 s.heap .Gt b a k)
    (h : ∀ h' tk, (∀ c o, s.heap.get? c = some o → h'.get? c = some o) → Q (if k = true then b else a) { s with heap := h', toks := tk }) : wpAny (model prog w) A (call (.builtin "max") [a, b]) Q E s := by
  have hT : (s.heap.push { cls := .type "tuple", data := .seq #[a, b] }).IsTuple s.heap.objs.size #[a, b] := ⟨_, Heap.get?_push_size _ rfl, rfl, 0, rfl⟩
  have hname : (toString "max" ++ toString ".loop" : String) = "max.loop" := by decide
  have z1 : (s.heap.push { cls := .type "tuple", data := .seq #[a, b] }).objs.size = s.heap.objs.size + 1 := Heap.size_push ..
  apply call_function_tree F.kind_max F.plain_max F.entry_max (F.args_max2 _ _)
  show wpAny _ A.in1 (Builtin.Builtins.bindParams "max" ["key", "default"] 0 ⟨[], []⟩ >>= _) _ _ s
  apply wpAny_bind; apply wpAny_of_eq (show Builtin.Builtins.bindParams "max" ["key", "default"] 0 ⟨[], []⟩ = pure [none, none] from rfl)
  show wpAny _ A.in1 (newTuple [a, b] >>= _) _ _ s
  apply wpAny_bind; refine wpAny_newObj_type ?_; apply wpAny_bind; apply wpAny_pyIter_tuple hT
  apply wpAny_bind; refine wpAny_newObj_type ?_
  rw [hname]
  refine wpAny_pure ⟨plainId_quiet F.plain_max_loop _, two_loop_max (h0 := s.heap) (ax := s.heap.objs.size) hh ?_ ?_ ?_ hc (fun c o e => ?_) (fun c o e => ?_) ?_ ?_ (Heap.get?_push_size _ rfl) h⟩
  · exact Nat.ne_of_lt (show s.heap.objs.size < (s.heap.push _).objs.size by simp only [Heap.size_push]; omega)
  · exact Nat.ne_of_gt (show (s.heap.push _).objs.size < ((s.heap.push _).push _).objs.size by simp only [Heap.size_push]; omega)
  · exact Nat.ne_of_gt (show s.heap.objs.size < ((s.heap.push _).push _).objs.size by simp only [Heap.size_push]; omega)
  · have lz := Heap.lt_size e
    exact ⟨Nat.ne_of_lt (show c < (s.heap.push _).objs.size by simp only [Heap.size_push]; exact Nat.lt_succ_of_lt lz), Nat.ne_of_lt (show c < ((s.heap.push _).push _).objs.size by simp only [Heap.size_push]; exact Nat.lt_succ_of_lt (Nat.lt_succ_of_lt lz))⟩
  · exact Heap.get?_push_of_some _ (Heap.get?_push_of_some _ (Heap.get?_push_of_some _ e))
  · exact ⟨_, Heap.get?_push_of_some _ (Heap.get?_push_size _ rfl), rfl, rfl⟩
  · exact (hT.push _).push _
end
section
variable {prog : Program} {w : World} {A : Around} {E : Value → Shared → Prop} {s : Shared}
theorem two_loop_min {a b : Value} {k : Bool} {I S ax : Addr} {h0 : Heap} {n0 : Nat} (hh : A.handled = none) (hne : ax ≠ I) (hSI : S ≠ I) (hSa : S ≠ ax) (hc : CmpAt prog w A.in1 h0 .Lt b a k) {R : Result → Shared → Prop} (lt : ∀ c o, h0.get? c = some o → c ≠ I ∧ c ≠ S)
    (hk0 : ∀ c o, h0.get? c = some o → s.heap.get? c = some o) (hI : s.heap.IsTupleIter I ax 0) (hT : s.heap.IsTuple ax #[a, b]) (hS : s.heap.get? S = some { cls := .type "list", dict := none, data := .seq #[] n0, slots := #[] })
    (hR : ∀ h' tk, (∀ c o, h0.get? c = some o → h'.get? c = some o) → R (.ok (.ret (if k = true then b else a))) { s with heap := h', toks := tk }) :
    codeAny (model prog w) A (.builtin "min.loop" ⟨[.ref I, .none, .ref S], []⟩) R s := by
  have W := Walks.tuple (prog := prog) (w := w) (A := A.in1) hh I ax hne #[a, b]
  have hw : S ∉ [I] := by simp [hSI]
  have hname : (toString "min" ++ toString ".loop" : String) = "min.loop" := by decide
  have ni : ∀ c o, h0.get? c = some o → c ∉ [I] := fun c o e => by simp [(lt c o e).1]
  apply codeAny_builtin F.entry_min_loop; rw [Around.under_plainId F.plain_min_loop _]; show wpAny _ A.in1 (_ >>= _) _ _ s
  refine wpAny_bind (wpAny_seqItems hS rfl ?_); show wpAny _ A.in1 (tryCatch (pyNext (.ref I)) _ >>= _) _ _ s
  refine wpAny_bind (wpAny_tryCatch (W.item 0 s _ _ (by simp) ⟨hI, hT⟩ fun v1 h1 t1 p1 st1 k1 => ?_))
  have e1 : v1 = a := by simpa using p1.symm
  have hS1 := k1 S _ hw hS
  show wpAny _ A.in1 (updateSeq S (fun _ => #[v1, v1]) >>= _) _ _ _
  apply wpAny_bind; refine wpAny_updateSeq hS1 rfl ?_; rw [hname]
  refine wpAny_pure ⟨plainId_quiet F.plain_min_loop _, ?_⟩
  have hS2 := Heap.get?_update_self (Obj.mapSeq fun _ => #[v1, v1]) hS1 rfl
  have st2 := W.frame 1 _ (h1.update S (Obj.mapSeq fun _ => #[v1, v1])) st1 fun c hc o e => (Heap.get?_update_other _ _ (fun z : S = c => by
    rw [← z] at hc; simp [hSI, hSa] at hc)).trans e
  have k2 : ∀ c o, h0.get? c = some o → (h1.update S (Obj.mapSeq fun _ => #[v1, v1])).get? c = some o := fun c o e => (Heap.get?_update_other _ _ (Ne.symm (lt c o e).2)).trans (k1 c o (ni c o e) (hk0 c o e))
  generalize h1.update S (Obj.mapSeq fun _ => #[v1, v1]) = h2 at hS2 st2 k2
  apply codeAny_builtin F.entry_min_loop; rw [Around.under_plainId F.plain_min_loop _]; show wpAny _ A.in1 (_ >>= _) _ _ _
  refine wpAny_bind (wpAny_seqItems hS2 rfl ?_); show wpAny _ A.in1 (tryCatch (pyNext (.ref I)) _ >>= _) _ _ _
  refine wpAny_bind (wpAny_tryCatch (W.item 1 _ _ _ (by simp) st2 fun v2 h3 t3 p2 st3 k3 => ?_))
  have e2 : v2 = b := by simpa using p2.symm
  have hS3 := k3 S _ hw hS2
  have k4 : ∀ c o, h0.get? c = some o → h3.get? c = some o := fun c o e => k3 c o (ni c o e) (k2 c o e)
  show wpAny _ A.in1 (tryCatch (holding [v2, v2] (richCompare .Lt v2 v1 >>= _)) _ >>= _) _ _ _
  subst e1 e2
  refine wpAny_bind (wpAny_tryCatch (wpAny_holding (wpAny_bind (hc _ _ _ k4 ?_))))
  refine wpAny_bind (wpAny_holding (wpAny_truthy_bool ?_)); refine wpAny_bind (wpAny_letGo (wpAny_pure ?_))
  have fin : ∀ (h4 : Heap) (t4 m4 : Nat) (vb : Value), h4.IsTupleIter I ax 2 ∧ h4.IsTuple ax #[v1, v2] → h4.get? S = some { cls := .type "list", dict := none, data := .seq #[vb, vb] m4, slots := #[] } → (∀ c o, h0.get? c = some o → h4.get? c = some o) →
      (∀ h' tk, (∀ c o, h0.get? c = some o → h'.get? c = some o) → R (.ok (.ret vb)) { s with heap := h', toks := tk }) → codeAny (model prog w) A (.builtin "min.loop" ⟨[.ref I, .none, .ref S], []⟩) R { s with heap := h4, toks := t4 } := fun h4 t4 m4 vb st4 hS4 k4 hR => by
    apply codeAny_builtin F.entry_min_loop; rw [Around.under_plainId F.plain_min_loop _]; show wpAny _ A.in1 (_ >>= _) _ _ _
    refine wpAny_bind (wpAny_seqItems hS4 rfl ?_); show wpAny _ A.in1 (tryCatch (pyNext (.ref I)) _ >>= _) _ _ _
    refine wpAny_bind (wpAny_tryCatch (W.done _ _ _ st4 fun h5 t5 k5 => ?_))
    have hS5 := k5 S _ hw hS4
    show wpAny _ A.in1 (updateSeq S (fun _ => #[]) >>= _) _ _ _
    apply wpAny_bind; refine wpAny_updateSeq hS5 rfl (wpAny_bind (wpAny_letGo (wpAny_pure ?_)))
    exact hR _ t5 fun c o e => (Heap.get?_update_other _ _ (Ne.symm (lt c o e).2)).trans (k5 c o (ni c o e) (k4 c o e))
  cases k with
  | true =>
    simp only [if_true] at hR ⊢
    apply wpAny_bind; refine wpAny_updateSeq hS3 rfl (wpAny_bind (wpAny_letGo ?_)); rw [hname]
    refine wpAny_pure ⟨plainId_quiet F.plain_min_loop _, fin _ _ _ v2 ?_ (Heap.get?_update_self _ hS3 rfl) (fun c o e => (Heap.get?_update_other _ _ (Ne.symm (lt c o e).2)).trans (k4 c o e)) hR⟩
    exact W.frame 2 _ _ st3 fun c hc o e => (Heap.get?_update_other _ _ (fun z : S = c => by
      rw [← z] at hc; simp [hSI, hSa] at hc)).trans e
  | false =>
    simp only [Bool.false_eq_true, if_false] at hR ⊢
    refine wpAny_bind (wpAny_letGo ?_); rw [hname]
    exact wpAny_pure ⟨plainId_quiet F.plain_min_loop _, fin _ _ _ v1 st3 hS3 k4 hR⟩
theorem call_min_at {a b : Value} {k : Bool} {Q : Value → Shared → Prop} (hh : A.handled = none) (hc : CmpAt prog w A.in1 s.heap .Lt b a k)
    (h : ∀ h' tk, (∀ c o, s.heap.get? c = some o → h'.get? c = some o) → Q (if k = true then b else a) { s with heap := h', toks := tk }) : wpAny (model prog w) A (call (.builtin "min") [a, b]) Q E s := by
  have hT : (s.heap.push { cls := .type "tuple", data := .seq #[a, b] }).IsTuple s.heap.objs.size #[a, b] := ⟨_, Heap.get?_push_size _ rfl, rfl, 0, rfl⟩
  have hname : (toString "min" ++ toString ".loop" : String) = "min.loop" := by decide
  have z1 : (s.heap.push { cls := .type "tuple", data := .seq #[a, b] }).objs.size = s.heap.objs.size + 1 := Heap.size_push ..
  apply call_function_tree F.kind_min F.plain_min F.entry_min (F.args_min2 _ _)
  show wpAny _ A.in1 (Builtin.Builtins.bindParams "min" ["key", "default"] 0 ⟨[], []⟩ >>= _) _ _ s
  apply wpAny_bind; apply wpAny_of_eq (show Builtin.Builtins.bindParams "min" ["key", "default"] 0 ⟨[], []⟩ = pure [none, none] from rfl)
  show wpAny _ A.in1 (newTuple [a, b] >>= _) _ _ s
  apply wpAny_bind; refine wpAny_newObj_type ?_; apply wpAny_bind; apply wpAny_pyIter_tuple hT
  apply wpAny_bind; refine wpAny_newObj_type ?_
  rw [hname]
  refine wpAny_pure ⟨plainId_quiet F.plain_min_loop _, two_loop_min (h0 := s.heap) (ax := s.heap.objs.size) hh ?_ ?_ ?_ hc (fun c o e => ?_) (fun c o e => ?_) ?_ ?_ (Heap.get?_push_size _ rfl) h⟩
  · exact Nat.ne_of_lt (show s.heap.objs.size < (s.heap.push _).objs.size by simp only [Heap.size_push]; omega)
  · exact Nat.ne_of_gt (show (s.heap.push _).objs.size < ((s.heap.push _).push _).objs.size by simp only [Heap.size_push]; omega)
  · exact Nat.ne_of_gt (show s.heap.objs.size < ((s.heap.push _).push _).objs.size by simp only [Heap.size_push]; omega)
  · have lz := Heap.lt_size e
    exact ⟨Nat.ne_of_lt (show c < (s.heap.push _).objs.size by simp only [Heap.size_push]; exact Nat.lt_succ_of_lt lz), Nat.ne_of_lt (show c < ((s.heap.push _).push _).objs.size by simp only [Heap.size_push]; exact Nat.lt_succ_of_lt (Nat.lt_succ_of_lt lz))⟩
  · exact Heap.get?_push_of_some _ (Heap.get?_push_of_some _ (Heap.get?_push_of_some _ e))
  · exact ⟨_, Heap.get?_push_of_some _ (Heap.get?_push_size _ rfl), rfl, rfl⟩
  · exact (hT.push _).push _
end
end PySem
namespace ML
open PySem PySem.Spec L2
open PyProof.Rows hiding St
abbrev U2 := Int × Int
def ult (p q : U2) : Prop := p.1 < q.1 ∨ (p.1 = q.1 ∧ p.2 < q.2)
def ule (p q : U2) : Prop := p.1 < q.1 ∨ (p.1 = q.1 ∧ p.2 ≤ q.2)
instance : DecidableRel ult := fun a b => by unfold ult; infer_instance
instance : DecidableRel ule := fun a b => by unfold ule; infer_instance
/-- a pair of ints -/
def uD (p : U2) : D := .tup [.int p.1, .int p.2]
theorem ints2 {us : List Value} {p : U2} (r : Vals [V.int p.1, V.int p.2] us) : ∃ t u, us = [.int p.1 t, .int p.2 u] := by
  obtain ⟨a, b, rfl, r1, r2⟩ := vals2 r
  obtain ⟨t, rfl⟩ : ∃ t, a = .int p.1 t := r1
  obtain ⟨u, rfl⟩ : ∃ t, b = .int p.2 t := r2
  exact ⟨t, u, rfl⟩
theorem eq2 {A : Around} {s : Shared} {p q : U2} {t u t' u' : Tok} : ∀ j (h1 : j < (#[Value.int p.1 t, Value.int p.2 u] : Array Value).size) (h2 : j < (#[Value.int q.1 t', Value.int q.2 u'] : Array Value).size),
    SeqAt.EqAt A s (#[Value.int p.1 t, Value.int p.2 u] : Array Value)[j] (#[Value.int q.1 t', Value.int q.2 u'] : Array Value)[j] (if j = 0 then decide (p.1 = q.1) else decide (p.2 = q.2)) := by
  intro j h1 h2
  have e : ∀ a b : Int, (a == b) = decide (a = b) := fun a b => Bool.beq_eq_decide_eq a b
  rcases j with _ | _ | j
  · have := SeqAt.EqAt.int_int (A := A) (s := s) p.1 t q.1 t'
    rw [e] at this
    simpa using this
  · have := SeqAt.EqAt.int_int (A := A) (s := s) p.2 u q.2 u'
    rw [e] at this
    simpa using this
  · simp at h1; omega
theorem rc_lt {A : Around} {s : Shared} {l b : Addr} {p q : U2} {t u t' u' : Tok} (hl : s.heap.IsTuple l #[.int p.1 t, .int p.2 u]) (hb : s.heap.IsTuple b #[.int q.1 t', .int q.2 u']) (hu : A.units < cLine) : Ob.RcOp .Lt A s (.ref l) (.ref b) (decide (ult p q)) := by
  have R := Ob.RcOp.tuples_lt (A := A) (s := s) (e := fun j => if j = 0 then decide (p.1 = q.1) else decide (p.2 = q.2)) (r := fun j => if j = 0 then decide (p.1 < q.1) else decide (p.2 < q.2)) hl hb hu eq2 (fun j h1 h2 _ => by
    rcases j with _ | _ | j
    · simpa using Ob.RcOp.lt_int (A := A.in1) (s := s) p.1 q.1 t t'
    · simpa using Ob.RcOp.lt_int (A := A.in1) (s := s) p.2 q.2 u u'
    · simp at h1; omega)
  have e : (decide (ult p q)) = Ob.lexAt (fun j => if j = 0 then decide (p.1 = q.1) else decide (p.2 = q.2)) (fun j => if j = 0 then decide (p.1 < q.1) else decide (p.2 < q.2)) false 0 2 := by
    rw [Ob.lexAt_succ, Ob.lexAt_succ, Ob.lexAt_zero]
    simp only [if_true, if_false, Nat.zero_add, Nat.one_ne_zero, decide_eq_true_eq]
    apply Bool.eq_iff_iff.mpr
    by_cases h1 : p.1 = q.1 <;> by_cases h2 : p.2 = q.2 <;> simp only [h1, h2, if_true, if_false, decide_eq_true_eq, ult, ule, Bool.false_eq_true, true_and, false_and, or_false, Int.lt_irrefl, Int.le_refl, false_or, iff_self]
    all_goals grind
  rw [e]
  simpa using R
def tuplt (K : PySem.W.Frag) : R2 := fun x y H Q => ∃ (a b : Addr) (p q : U2), x = .ref a ∧ y = .ref b ∧ SqT K H a [.int p.1, .int p.2] ∧ SqT K H b [.int q.1, .int q.2] ∧ Q (.bl (decide (ult p q))) H
theorem opT_lt {X : Cx} (hu : X.A.units < cLine) : OpR X (compareOp .Lt) (tuplt X.K) := by
  rintro pins s σ H x y v u Q I rx ry ⟨a, b, p, q, rfl, rfl, ha, hb, k⟩
  obtain rfl : v = Value.ref a := rx
  obtain rfl : u = Value.ref b := ry
  obtain ⟨its, r1, p1, _⟩ := I.tuple ha
  obtain ⟨its2, r2, p2, _⟩ := I.tuple hb
  obtain ⟨t, u, rfl⟩ := ints2 r1
  obtain ⟨t', u', rfl⟩ := ints2 r2
  exact rc_lt p1 p2 hu X.prog X.w X.xe _ ⟨.bl _, H, I, rfl, k⟩
theorem rc_gt {A : Around} {s : Shared} {l b : Addr} {p q : U2} {t u t' u' : Tok} (hl : s.heap.IsTuple l #[.int p.1 t, .int p.2 u]) (hb : s.heap.IsTuple b #[.int q.1 t', .int q.2 u']) (hu : A.units < cLine) : Ob.RcOp .Gt A s (.ref l) (.ref b) (decide (ult q p)) := by
  have R := Ob.RcOp.tuples_gt (A := A) (s := s) (e := fun j => if j = 0 then decide (p.1 = q.1) else decide (p.2 = q.2)) (r := fun j => if j = 0 then decide (q.1 < p.1) else decide (q.2 < p.2)) hl hb hu eq2 (fun j h1 h2 _ => by
    rcases j with _ | _ | j
    · simpa using Ob.RcOp.gt_int (A := A.in1) (s := s) p.1 q.1 t t'
    · simpa using Ob.RcOp.gt_int (A := A.in1) (s := s) p.2 q.2 u u'
    · simp at h1; omega)
  have e : (decide (ult q p)) = Ob.lexAt (fun j => if j = 0 then decide (p.1 = q.1) else decide (p.2 = q.2)) (fun j => if j = 0 then decide (q.1 < p.1) else decide (q.2 < p.2)) false 0 2 := by
    rw [Ob.lexAt_succ, Ob.lexAt_succ, Ob.lexAt_zero]
    simp only [if_true, if_false, Nat.zero_add, Nat.one_ne_zero, decide_eq_true_eq]
    apply Bool.eq_iff_iff.mpr
    by_cases h1 : p.1 = q.1 <;> by_cases h2 : p.2 = q.2 <;> simp only [h1, h2, if_true, if_false, decide_eq_true_eq, ult, ule, Bool.false_eq_true, true_and, false_and, or_false, Int.lt_irrefl, Int.le_refl, false_or, iff_self]
    all_goals grind
  rw [e]
  simpa using R
def tupgt (K : PySem.W.Frag) : R2 := fun x y H Q => ∃ (a b : Addr) (p q : U2), x = .ref a ∧ y = .ref b ∧ SqT K H a [.int p.1, .int p.2] ∧ SqT K H b [.int q.1, .int q.2] ∧ Q (.bl (decide (ult q p))) H
theorem opT_gt {X : Cx} (hu : X.A.units < cLine) : OpR X (compareOp .Gt) (tupgt X.K) := by
  rintro pins s σ H x y v u Q I rx ry ⟨a, b, p, q, rfl, rfl, ha, hb, k⟩
  obtain rfl : v = Value.ref a := rx
  obtain rfl : u = Value.ref b := ry
  obtain ⟨its, r1, p1, _⟩ := I.tuple ha
  obtain ⟨its2, r2, p2, _⟩ := I.tuple hb
  obtain ⟨t, u, rfl⟩ := ints2 r1
  obtain ⟨t', u', rfl⟩ := ints2 r2
  exact rc_gt p1 p2 hu X.prog X.w X.xe _ ⟨.bl _, H, I, rfl, k⟩
theorem rc_le {A : Around} {s : Shared} {l b : Addr} {p q : U2} {t u t' u' : Tok} (hl : s.heap.IsTuple l #[.int p.1 t, .int p.2 u]) (hb : s.heap.IsTuple b #[.int q.1 t', .int q.2 u']) (hu : A.units < cLine) : Ob.RcOp .LtE A s (.ref l) (.ref b) (decide (ule p q)) := by
  have R := Ob.RcOp.tuples_le (A := A) (s := s) (e := fun j => if j = 0 then decide (p.1 = q.1) else decide (p.2 = q.2)) (r := fun j => if j = 0 then decide (p.1 ≤ q.1) else decide (p.2 ≤ q.2)) hl hb hu eq2 (fun j h1 h2 _ => by
    rcases j with _ | _ | j
    · simpa using Ob.RcOp.le_int (A := A.in1) (s := s) p.1 q.1 t t'
    · simpa using Ob.RcOp.le_int (A := A.in1) (s := s) p.2 q.2 u u'
    · simp at h1; omega)
  have e : (decide (ule p q)) = Ob.lexAt (fun j => if j = 0 then decide (p.1 = q.1) else decide (p.2 = q.2)) (fun j => if j = 0 then decide (p.1 ≤ q.1) else decide (p.2 ≤ q.2)) true 0 2 := by
    rw [Ob.lexAt_succ, Ob.lexAt_succ, Ob.lexAt_zero]
    simp only [if_true, if_false, Nat.zero_add, Nat.one_ne_zero, decide_eq_true_eq]
    apply Bool.eq_iff_iff.mpr
    by_cases h1 : p.1 = q.1 <;> by_cases h2 : p.2 = q.2 <;> simp only [h1, h2, if_true, if_false, decide_eq_true_eq, ult, ule, Bool.false_eq_true, true_and, false_and, or_false, Int.lt_irrefl, Int.le_refl, false_or, iff_self]
    all_goals grind
  rw [e]
  simpa using R
def tuple (K : PySem.W.Frag) : R2 := fun x y H Q => ∃ (a b : Addr) (p q : U2), x = .ref a ∧ y = .ref b ∧ SqT K H a [.int p.1, .int p.2] ∧ SqT K H b [.int q.1, .int q.2] ∧ Q (.bl (decide (ule p q))) H
theorem opT_le {X : Cx} (hu : X.A.units < cLine) : OpR X (compareOp .LtE) (tuple X.K) := by
  rintro pins s σ H x y v u Q I rx ry ⟨a, b, p, q, rfl, rfl, ha, hb, k⟩
  obtain rfl : v = Value.ref a := rx
  obtain rfl : u = Value.ref b := ry
  obtain ⟨its, r1, p1, _⟩ := I.tuple ha
  obtain ⟨its2, r2, p2, _⟩ := I.tuple hb
  obtain ⟨t, u, rfl⟩ := ints2 r1
  obtain ⟨t', u', rfl⟩ := ints2 r2
  exact rc_le p1 p2 hu X.prog X.w X.xe _ ⟨.bl _, H, I, rfl, k⟩
theorem rc_ge {A : Around} {s : Shared} {l b : Addr} {p q : U2} {t u t' u' : Tok} (hl : s.heap.IsTuple l #[.int p.1 t, .int p.2 u]) (hb : s.heap.IsTuple b #[.int q.1 t', .int q.2 u']) (hu : A.units < cLine) : Ob.RcOp .GtE A s (.ref l) (.ref b) (decide (ule q p)) := by
  have R := Ob.RcOp.tuples_ge (A := A) (s := s) (e := fun j => if j = 0 then decide (p.1 = q.1) else decide (p.2 = q.2)) (r := fun j => if j = 0 then decide (q.1 ≤ p.1) else decide (q.2 ≤ p.2)) hl hb hu eq2 (fun j h1 h2 _ => by
    rcases j with _ | _ | j
    · simpa using Ob.RcOp.ge_int (A := A.in1) (s := s) p.1 q.1 t t'
    · simpa using Ob.RcOp.ge_int (A := A.in1) (s := s) p.2 q.2 u u'
    · simp at h1; omega)
  have e : (decide (ule q p)) = Ob.lexAt (fun j => if j = 0 then decide (p.1 = q.1) else decide (p.2 = q.2)) (fun j => if j = 0 then decide (q.1 ≤ p.1) else decide (q.2 ≤ p.2)) true 0 2 := by
    rw [Ob.lexAt_succ, Ob.lexAt_succ, Ob.lexAt_zero]
    simp only [if_true, if_false, Nat.zero_add, Nat.one_ne_zero, decide_eq_true_eq]
    apply Bool.eq_iff_iff.mpr
    by_cases h1 : p.1 = q.1 <;> by_cases h2 : p.2 = q.2 <;> simp only [h1, h2, if_true, if_false, decide_eq_true_eq, ult, ule, Bool.false_eq_true, true_and, false_and, or_false, Int.lt_irrefl, Int.le_refl, false_or, iff_self]
    all_goals grind
  rw [e]
  simpa using R
def tupge (K : PySem.W.Frag) : R2 := fun x y H Q => ∃ (a b : Addr) (p q : U2), x = .ref a ∧ y = .ref b ∧ SqT K H a [.int p.1, .int p.2] ∧ SqT K H b [.int q.1, .int q.2] ∧ Q (.bl (decide (ule q p))) H
theorem opT_ge {X : Cx} (hu : X.A.units < cLine) : OpR X (compareOp .GtE) (tupge X.K) := by
  rintro pins s σ H x y v u Q I rx ry ⟨a, b, p, q, rfl, rfl, ha, hb, k⟩
  obtain rfl : v = Value.ref a := rx
  obtain rfl : u = Value.ref b := ry
  obtain ⟨its, r1, p1, _⟩ := I.tuple ha
  obtain ⟨its2, r2, p2, _⟩ := I.tuple hb
  obtain ⟨t, u, rfl⟩ := ints2 r1
  obtain ⟨t', u', rfl⟩ := ints2 r2
  exact rc_ge p1 p2 hu X.prog X.w X.xe _ ⟨.bl _, H, I, rfl, k⟩
theorem ct_max {X : Cx} (hc : X.calm = true) (hu : X.A.units + 65 < cLine) : CallR X (.builtin "max") (fun xs H Q => ∃ (a b : Addr) (p q : U2), xs = [.ref a, .ref b] ∧ SqT X.K H a [.int p.1, .int p.2] ∧ SqT X.K H b [.int q.1, .int q.2] ∧ Q (if ult p q then .ref b else .ref a) H) := by
  rintro pins s σ H xs us Q I r ⟨a, b, p, q, rfl, ha, hb, k⟩
  obtain ⟨u, w', rfl, r1, r2⟩ := vals2 r
  obtain rfl : u = Value.ref a := r1
  obtain rfl : w' = Value.ref b := r2
  obtain ⟨its, v1, p1, _⟩ := I.tuple ha
  obtain ⟨its2, v2, p2, _⟩ := I.tuple hb
  obtain ⟨t, u, rfl⟩ := ints2 v1
  obtain ⟨t', u', rfl⟩ := ints2 v2
  refine call_max_at (k := decide (ult p q)) (I.ok.hd hc) (fun s' Q' E' kp q' => ?_) fun h' tk kp => ⟨_, H, I.kept kp, ?_, k⟩
  · have p1' : s'.heap.IsTuple a #[.int p.1 t, .int p.2 u] := (by obtain ⟨o, e, c⟩ := p1; exact ⟨o, kp _ _ e, c⟩)
    have p2' : s'.heap.IsTuple b #[.int q.1 t', .int q.2 u'] := (by obtain ⟨o, e, c⟩ := p2; exact ⟨o, kp _ _ e, c⟩)
    exact rc_gt p2' p1' (show X.A.units + 1 < cLine by omega) X.prog X.w _ _ q'
  · by_cases h : ult p q
    · simp only [h, decide_true, if_true]; rfl
    · simp only [h, decide_false, if_false, Bool.false_eq_true]; rfl
theorem ct_min {X : Cx} (hc : X.calm = true) (hu : X.A.units + 65 < cLine) : CallR X (.builtin "min") (fun xs H Q => ∃ (a b : Addr) (p q : U2), xs = [.ref a, .ref b] ∧ SqT X.K H a [.int p.1, .int p.2] ∧ SqT X.K H b [.int q.1, .int q.2] ∧ Q (if ult q p then .ref b else .ref a) H) := by
  rintro pins s σ H xs us Q I r ⟨a, b, p, q, rfl, ha, hb, k⟩
  obtain ⟨u, w', rfl, r1, r2⟩ := vals2 r
  obtain rfl : u = Value.ref a := r1
  obtain rfl : w' = Value.ref b := r2
  obtain ⟨its, v1, p1, _⟩ := I.tuple ha
  obtain ⟨its2, v2, p2, _⟩ := I.tuple hb
  obtain ⟨t, u, rfl⟩ := ints2 v1
  obtain ⟨t', u', rfl⟩ := ints2 v2
  refine call_min_at (k := decide (ult q p)) (I.ok.hd hc) (fun s' Q' E' kp q' => ?_) fun h' tk kp => ⟨_, H, I.kept kp, ?_, k⟩
  · have p1' : s'.heap.IsTuple a #[.int p.1 t, .int p.2 u] := (by obtain ⟨o, e, c⟩ := p1; exact ⟨o, kp _ _ e, c⟩)
    have p2' : s'.heap.IsTuple b #[.int q.1 t', .int q.2 u'] := (by obtain ⟨o, e, c⟩ := p2; exact ⟨o, kp _ _ e, c⟩)
    exact rc_lt p2' p1' (show X.A.units + 1 < cLine by omega) X.prog X.w _ _ q'
  · by_cases h : ult q p
    · simp only [h, decide_true, if_true]; rfl
    · simp only [h, decide_false, if_false, Bool.false_eq_true]; rfl
end ML
namespace ML
open PySem PySem.Spec L2
open PyProof.Rows hiding St
section
variable {X : Cx}
theorem rd_int {K : PySem.W.Frag} {H : Hp} {S : Sto} {v : V} {i : Int} (r : RD K H S v (.int i)) : v = .int i := by cases r; rfl
theorem rds_u {K : PySem.W.Frag} {H : Hp} {S : Sto} {vs : List V} {a b : Int} (r : RDs K H S vs [.int a, .int b]) : vs = [.int a, .int b] := by
  obtain ⟨v, w, rfl, r1, r2⟩ := rds2 r
  rw [rd_int r1, rd_int r2]
def aLt : R2m := fun d e S Q => match d, e with
  | .int i, .int j => Q (.bl (decide (i < j))) S
  | .tup [.int a, .int b], .tup [.int c, .int e] => Q (.bl (decide (ult (a, b) (c, e)))) S
  | _, _ => False
theorem oa_lt (hu : X.A.units + 65 < cLine) : OpR X (compareOp .Lt) (fun x y H Q => rI0 (fun i j => .bl (decide (i < j))) x y H Q ∨ tuplt X.K x y H Q) := op_lt.or (opT_lt (by omega))
theorem la_lt : OpL X.K (fun x y H Q => rI0 (fun i j => .bl (decide (i < j))) x y H Q ∨ tuplt X.K x y H Q) aLt := by
  intro H S x y d e Qm Q s rx ry h k
  unfold aLt at h
  split at h
  · cases rx; cases ry
    exact .inl ⟨_, _, rfl, rfl, k _ S _ H h Ext.refl s (.bl _)⟩
  · obtain ⟨p, vs, rfl, h1, r1⟩ := rx.tupSq
    obtain ⟨p2, ws, rfl, h2, r2⟩ := ry.tupSq
    rw [rds_u r1] at h1
    rw [rds_u r2] at h2
    exact .inr ⟨p, p2, (_, _), (_, _), rfl, rfl, h1, h2, k _ S _ H h Ext.refl s (.bl _)⟩
  · exact h.elim
theorem l_aLt_int {i j : Int} {S : Sto} {Q : MQ} : aLt (.int i) (.int j) S Q = Q (.bl (decide (i < j))) S := Eq.trans rfl rfl
theorem l_aLt_u {p q : U2} {S : Sto} {Q : MQ} : aLt (uD p) (uD q) S Q = Q (.bl (decide (ult p q))) S := Eq.trans rfl rfl
def aGt : R2m := fun d e S Q => match d, e with
  | .int i, .int j => Q (.bl (decide (j < i))) S
  | .tup [.int a, .int b], .tup [.int c, .int e] => Q (.bl (decide (ult (c, e) (a, b)))) S
  | _, _ => False
theorem oa_gt (hu : X.A.units + 65 < cLine) : OpR X (compareOp .Gt) (fun x y H Q => rI0 (fun i j => .bl (decide (j < i))) x y H Q ∨ tupgt X.K x y H Q) := op_gt.or (opT_gt (by omega))
theorem la_gt : OpL X.K (fun x y H Q => rI0 (fun i j => .bl (decide (j < i))) x y H Q ∨ tupgt X.K x y H Q) aGt := by
  intro H S x y d e Qm Q s rx ry h k
  unfold aGt at h
  split at h
  · cases rx; cases ry
    exact .inl ⟨_, _, rfl, rfl, k _ S _ H h Ext.refl s (.bl _)⟩
  · obtain ⟨p, vs, rfl, h1, r1⟩ := rx.tupSq
    obtain ⟨p2, ws, rfl, h2, r2⟩ := ry.tupSq
    rw [rds_u r1] at h1
    rw [rds_u r2] at h2
    exact .inr ⟨p, p2, (_, _), (_, _), rfl, rfl, h1, h2, k _ S _ H h Ext.refl s (.bl _)⟩
  · exact h.elim
theorem l_aGt_int {i j : Int} {S : Sto} {Q : MQ} : aGt (.int i) (.int j) S Q = Q (.bl (decide (j < i))) S := Eq.trans rfl rfl
theorem l_aGt_u {p q : U2} {S : Sto} {Q : MQ} : aGt (uD p) (uD q) S Q = Q (.bl (decide (ult q p))) S := Eq.trans rfl rfl
def aLe : R2m := fun d e S Q => match d, e with
  | .int i, .int j => Q (.bl (decide (i ≤ j))) S
  | .tup [.int a, .int b], .tup [.int c, .int e] => Q (.bl (decide (ule (a, b) (c, e)))) S
  | _, _ => False
theorem oa_le (hu : X.A.units + 65 < cLine) : OpR X (compareOp .LtE) (fun x y H Q => rI0 (fun i j => .bl (decide (i ≤ j))) x y H Q ∨ tuple X.K x y H Q) := op_le.or (opT_le (by omega))
theorem la_le : OpL X.K (fun x y H Q => rI0 (fun i j => .bl (decide (i ≤ j))) x y H Q ∨ tuple X.K x y H Q) aLe := by
  intro H S x y d e Qm Q s rx ry h k
  unfold aLe at h
  split at h
  · cases rx; cases ry
    exact .inl ⟨_, _, rfl, rfl, k _ S _ H h Ext.refl s (.bl _)⟩
  · obtain ⟨p, vs, rfl, h1, r1⟩ := rx.tupSq
    obtain ⟨p2, ws, rfl, h2, r2⟩ := ry.tupSq
    rw [rds_u r1] at h1
    rw [rds_u r2] at h2
    exact .inr ⟨p, p2, (_, _), (_, _), rfl, rfl, h1, h2, k _ S _ H h Ext.refl s (.bl _)⟩
  · exact h.elim
theorem l_aLe_int {i j : Int} {S : Sto} {Q : MQ} : aLe (.int i) (.int j) S Q = Q (.bl (decide (i ≤ j))) S := Eq.trans rfl rfl
theorem l_aLe_u {p q : U2} {S : Sto} {Q : MQ} : aLe (uD p) (uD q) S Q = Q (.bl (decide (ule p q))) S := Eq.trans rfl rfl
def aGe : R2m := fun d e S Q => match d, e with
  | .int i, .int j => Q (.bl (decide (j ≤ i))) S
  | .tup [.int a, .int b], .tup [.int c, .int e] => Q (.bl (decide (ule (c, e) (a, b)))) S
  | _, _ => False
theorem oa_ge (hu : X.A.units + 65 < cLine) : OpR X (compareOp .GtE) (fun x y H Q => rI0 (fun i j => .bl (decide (j ≤ i))) x y H Q ∨ tupge X.K x y H Q) := op_ge.or (opT_ge (by omega))
theorem la_ge : OpL X.K (fun x y H Q => rI0 (fun i j => .bl (decide (j ≤ i))) x y H Q ∨ tupge X.K x y H Q) aGe := by
  intro H S x y d e Qm Q s rx ry h k
  unfold aGe at h
  split at h
  · cases rx; cases ry
    exact .inl ⟨_, _, rfl, rfl, k _ S _ H h Ext.refl s (.bl _)⟩
  · obtain ⟨p, vs, rfl, h1, r1⟩ := rx.tupSq
    obtain ⟨p2, ws, rfl, h2, r2⟩ := ry.tupSq
    rw [rds_u r1] at h1
    rw [rds_u r2] at h2
    exact .inr ⟨p, p2, (_, _), (_, _), rfl, rfl, h1, h2, k _ S _ H h Ext.refl s (.bl _)⟩
  · exact h.elim
theorem l_aGe_int {i j : Int} {S : Sto} {Q : MQ} : aGe (.int i) (.int j) S Q = Q (.bl (decide (j ≤ i))) S := Eq.trans rfl rfl
theorem l_aGe_u {p q : U2} {S : Sto} {Q : MQ} : aGe (uD p) (uD q) S Q = Q (.bl (decide (ule q p))) S := Eq.trans rfl rfl
def bMaxA : List D → Sto → MQ → Prop := fun ds S Q => match ds with
  | [.int i, .int j] => Q (.int (if j > i then j else i)) S
  | [.tup [.int a, .int b], .tup [.int c, .int e]] => Q (if ult (a, b) (c, e) then .tup [.int c, .int e] else .tup [.int a, .int b]) S
  | _ => False
theorem ca_max (hc : X.calm = true) (hu : X.A.units + 65 < cLine) : CallR X (.builtin "max") (fun xs H Q => (∃ i j, xs = [.int i, .int j] ∧ Q (.int (if j > i then j else i)) H) ∨ ∃ (a b : Addr) (p q : U2), xs = [.ref a, .ref b] ∧ SqT X.K H a [.int p.1, .int p.2] ∧ SqT X.K H b [.int q.1, .int q.2] ∧ Q (if ult p q then .ref b else .ref a) H) := by
  rintro pins s σ H xs us Q I r (h | h)
  · exact call_max2 hc pins s σ H xs us Q I r h
  · exact ct_max hc hu pins s σ H xs us Q I r h
theorem cl_maxA : CaL X.K (fun xs H Q => (∃ i j, xs = [.int i, .int j] ∧ Q (.int (if j > i then j else i)) H) ∨ ∃ (a b : Addr) (p q : U2), xs = [.ref a, .ref b] ∧ SqT X.K H a [.int p.1, .int p.2] ∧ SqT X.K H b [.int q.1, .int q.2] ∧ Q (if ult p q then .ref b else .ref a) H) bMaxA := by
  intro H S xs ds Qm Q s r h k
  unfold bMaxA at h
  split at h
  · obtain ⟨v, w, rfl, r1, r2⟩ := rds2 r
    cases r1; cases r2
    exact .inl ⟨_, _, rfl, k _ S _ H h Ext.refl s (.int _)⟩
  · next a b c e =>
    obtain ⟨v, w, rfl, r1, r2⟩ := rds2 r
    obtain ⟨p, vs, rfl, h1, q1⟩ := r1.tupSq
    obtain ⟨p2, ws, rfl, h2, q2⟩ := r2.tupSq
    rw [rds_u q1] at h1
    rw [rds_u q2] at h2
    refine .inr ⟨p, p2, (a, b), (c, e), rfl, h1, h2, ?_⟩
    split
    · next z => rw [if_pos z] at h; exact k _ S _ H h Ext.refl s r2
    · next z => rw [if_neg z] at h; exact k _ S _ H h Ext.refl s r1
  · exact h.elim
theorem l_bMaxA_int {i j : Int} {S : Sto} {Q : MQ} : bMaxA [.int i, .int j] S Q = Q (.int (if j > i then j else i)) S := Eq.trans rfl rfl
theorem l_bMaxA_u {p q : U2} {S : Sto} {Q : MQ} : bMaxA [uD p, uD q] S Q = Q (uD (if ult p q then q else p)) S := by
  have e : (if ult p q then uD q else uD p) = uD (if ult p q then q else p) := by split <;> rfl
  show Q (if ult p q then uD q else uD p) S = _
  rw [e]
def bMinA : List D → Sto → MQ → Prop := fun ds S Q => match ds with
  | [.int i, .int j] => Q (.int (if j < i then j else i)) S
  | [.tup [.int a, .int b], .tup [.int c, .int e]] => Q (if ult (c, e) (a, b) then .tup [.int c, .int e] else .tup [.int a, .int b]) S
  | _ => False
theorem ca_min (hc : X.calm = true) (hu : X.A.units + 65 < cLine) : CallR X (.builtin "min") (fun xs H Q => (∃ i j, xs = [.int i, .int j] ∧ Q (.int (if j < i then j else i)) H) ∨ ∃ (a b : Addr) (p q : U2), xs = [.ref a, .ref b] ∧ SqT X.K H a [.int p.1, .int p.2] ∧ SqT X.K H b [.int q.1, .int q.2] ∧ Q (if ult q p then .ref b else .ref a) H) := by
  rintro pins s σ H xs us Q I r (h | h)
  · exact call_min2 hc pins s σ H xs us Q I r h
  · exact ct_min hc hu pins s σ H xs us Q I r h
theorem cl_minA : CaL X.K (fun xs H Q => (∃ i j, xs = [.int i, .int j] ∧ Q (.int (if j < i then j else i)) H) ∨ ∃ (a b : Addr) (p q : U2), xs = [.ref a, .ref b] ∧ SqT X.K H a [.int p.1, .int p.2] ∧ SqT X.K H b [.int q.1, .int q.2] ∧ Q (if ult q p then .ref b else .ref a) H) bMinA := by
  intro H S xs ds Qm Q s r h k
  unfold bMinA at h
  split at h
  · obtain ⟨v, w, rfl, r1, r2⟩ := rds2 r
    cases r1; cases r2
    exact .inl ⟨_, _, rfl, k _ S _ H h Ext.refl s (.int _)⟩
  · next a b c e =>
    obtain ⟨v, w, rfl, r1, r2⟩ := rds2 r
    obtain ⟨p, vs, rfl, h1, q1⟩ := r1.tupSq
    obtain ⟨p2, ws, rfl, h2, q2⟩ := r2.tupSq
    rw [rds_u q1] at h1
    rw [rds_u q2] at h2
    refine .inr ⟨p, p2, (a, b), (c, e), rfl, h1, h2, ?_⟩
    split
    · next z => rw [if_pos z] at h; exact k _ S _ H h Ext.refl s r2
    · next z => rw [if_neg z] at h; exact k _ S _ H h Ext.refl s r1
  · exact h.elim
theorem l_bMinA_int {i j : Int} {S : Sto} {Q : MQ} : bMinA [.int i, .int j] S Q = Q (.int (if j < i then j else i)) S := Eq.trans rfl rfl
theorem l_bMinA_u {p q : U2} {S : Sto} {Q : MQ} : bMinA [uD p, uD q] S Q = Q (uD (if ult q p then q else p)) S := by
  have e : (if ult q p then uD q else uD p) = uD (if ult q p then q else p) := by split <;> rfl
  show Q (if ult q p then uD q else uD p) S = _
  rw [e]
end
/-- pairs of ints, walls of such: as values -/
theorem tup_u {a b : Int} : D.tup [.int a, .int b] = uD (a, b) := Eq.trans rfl rfl
theorem tupOf_u {p : U2} : tupOf (uD p) = some [.int p.1, .int p.2] := Eq.trans rfl rfl
theorem seqOf_u {S : Sto} {p : U2} : seqOf S (uD p) = some [.int p.1, .int p.2] := Eq.trans rfl rfl
theorem sqI_u {S : Sto} {p : U2} : sqI S (uD p) = some ([.int p.1, .int p.2], fun _ => True) := Eq.trans rfl rfl
theorem look_u {S : Sto} {p : U2} : look S (uD p) = uD p := Eq.trans rfl rfl
theorem isN_u {p : U2} : isN (uD p) = false := Eq.trans rfl rfl
theorem lenD_u {S : Sto} {p : U2} : lenD S (uD p) = some 2 := Eq.trans rfl rfl
theorem tyD_u {S : Sto} {p : U2} : tyD S (uD p) = some "tuple" := Eq.trans rfl rfl
abbrev UW := U2 × U2
def uwD (w : UW) : D := .tup [uD w.1, uD w.2]
theorem tup_uw {a b : U2} : D.tup [uD a, uD b] = uwD (a, b) := Eq.trans rfl rfl
theorem tupOf_uw {p : UW} : tupOf (uwD p) = some [uD p.1, uD p.2] := Eq.trans rfl rfl
theorem seqOf_uw {S : Sto} {p : UW} : seqOf S (uwD p) = some [uD p.1, uD p.2] := Eq.trans rfl rfl
theorem sqI_uw {S : Sto} {p : UW} : sqI S (uwD p) = some ([uD p.1, uD p.2], fun _ => True) := Eq.trans rfl rfl
theorem look_uw {S : Sto} {p : UW} : look S (uwD p) = uwD p := Eq.trans rfl rfl
theorem isN_uw {p : UW} : isN (uwD p) = false := Eq.trans rfl rfl
theorem lenD_uw {S : Sto} {p : UW} : lenD S (uwD p) = some 2 := Eq.trans rfl rfl
theorem tyD_uw {S : Sto} {p : UW} : tyD S (uwD p) = some "tuple" := Eq.trans rfl rfl
theorem plain_u (p : U2) : D.plain (uD p) = true := by simp [uD, D.plain, D.plains]
theorem plain_uw (p : UW) : D.plain (uwD p) = true := by simp [uwD, D.plain, D.plains, plain_u]
theorem dep_u (p : U2) : D.dep (uD p) = 1 := by simp [uD, D.dep, D.deps]
theorem dep_uw (p : UW) : D.dep (uwD p) = 2 := by simp [uwD, D.dep, D.deps, dep_u]
theorem eqOk_of' {d e : D} (h1 : D.plain d = true) (h2 : D.plain e = true) (h3 : D.dep d ≤ 64) (h4 : D.dep e ≤ 64) : eqOk d e = true := by
  unfold eqOk
  split
  · rfl
  · simp [h1, h2, h3, h4]
theorem eqOk_u {p q : U2} : eqOk (uD p) (uD q) = true := eqOk_of' (plain_u p) (plain_u q) (by rw [dep_u]; decide) (by rw [dep_u]; decide)
theorem eqOk_uw {p q : UW} : eqOk (uwD p) (uwD q) = true := eqOk_of' (plain_uw p) (plain_uw q) (by rw [dep_uw]; decide) (by rw [dep_uw]; decide)
theorem deq_u {p q : U2} : D.deq (uD p) (uD q) = decide (p = q) := by
  simp only [uD, D.deq, D.deqs, Bool.and_true]
  rw [Bool.eq_iff_iff]
  simp only [Bool.and_eq_true, beq_iff_eq, decide_eq_true_eq]
  exact ⟨fun ⟨a, b⟩ => Prod.ext a b, fun h => by subst h; exact ⟨rfl, rfl⟩⟩
theorem deq_uw {p q : UW} : D.deq (uwD p) (uwD q) = decide (p = q) := by
  simp only [uwD, D.deq, D.deqs, Bool.and_true, deq_u]
  rw [Bool.eq_iff_iff]
  simp only [Bool.and_eq_true, decide_eq_true_eq]
  exact ⟨fun ⟨a, b⟩ => Prod.ext a b, fun h => by subst h; exact ⟨rfl, rfl⟩⟩
end ML
set_option maxRecDepth 100000
namespace ML
open PySem PySem.Spec L2
open PyProof.Rows hiding St
theorem ncast {n : Nat} : ((no_index (OfNat.ofNat n : Nat) : Nat) : Int) = (no_index (OfNat.ofNat n : Int)) := rfl
/-- a proposition that simp leaves alone -/
def KP [p : Hold Prop] : Prop := p.v
theorem KP.mk {p : Prop} (h : p) : @KP ⟨p⟩ := h
/-! ### comprehensions over the images of a list -/
theorem comp_map {α : Type} {σ : MSt} {S : Sto} {p : Addr} {own : List Nat} {G : Sto → Prop} {g : MG} {me : ME} {fin : List D → Sto → Prop} {items : List D} (enc res : α → D) (xs : List α) (hi : items = xs.map enc) (hz : xs.length ≤ 1000) (hG : ∀ acc, G (put S p (.lst acc)))
    (h : ∀ a acc (Q : MQ), a ∈ xs → Q (res a) (put S p (.lst acc)) → g (enc a) (wipeM σ own) (put S p (.lst acc)) (fun σ2 S2 => me σ2 S2 Q noX) noX)
    (hf : fin (xs.map res) (put S p (.lst (xs.map res)))) : @CompP items σ (put S p (.lst [])) p own ⟨G⟩ ⟨g⟩ ⟨mYes⟩ ⟨me⟩ ⟨fin⟩ := by
  subst hi
  refine comp_inv (fun i acc S' => acc = (xs.take i).map res ∧ S' = put S p (.lst acc)) put_same ⟨by simp, rfl⟩ ?_ ?_
  · rintro i d acc S' e ⟨rfl, rfl⟩ -
    rw [List.getElem?_map] at e
    cases ea : xs[i]? with
    | none => rw [ea] at e; cases e
    | some a =>
      rw [ea] at e; cases e
      have hlt : i < xs.length := (List.getElem?_eq_some_iff.mp ea).1
      have hm : a ∈ xs := List.mem_of_getElem? ea
      refine ⟨hG _, h a _ _ hm ?_⟩
      refine CompNext.mk put_same (line_lt (by simp only [List.length_map, List.length_take]; omega)) ⟨?_, by rw [put_put]⟩
      rw [List.take_add_one, ea, List.map_append]; rfl
  · rintro acc S' ⟨rfl, rfl⟩ -
    refine ⟨hG _, ?_⟩
    rw [List.length_map, List.take_length]; exact hf
/-! ### what is walked: a list or a tuple -/
/-- the same as the three kinds -/
inductive SeqK (S : Sto) : D → List D → Prop
  | lst {ds : List D} : SeqK S (.lst ds) ds
  | tup {ds : List D} : SeqK S (.tup ds) ds
  | ref {q : Addr} {ds : List D} : S q = some (.lst ds) → SeqK S (.ref q) ds
theorem SeqK.seq {S : Sto} {d : D} {ds : List D} (h : SeqK S d ds) : seqOf S d = some ds := by
  cases h with
  | lst => rfl
  | tup => rfl
  | ref h => rw [seqOf_ref', h]; rfl
theorem SeqK.it {S : Sto} {d : D} {ds : List D} (h : SeqK S d ds) : ∃ G : Sto → Prop, sqI S d = some (ds, G) ∧ G S ∧ ∀ p o, S p = none → G (put S p o) := by
  cases h with
  | lst => exact ⟨_, rfl, trivial, fun _ _ _ => trivial⟩
  | tup => exact ⟨_, rfl, trivial, fun _ _ _ => trivial⟩
  | ref h => exact ⟨_, sqI_at h, by rw [h]; rfl, fun p o hp => by rw [put_ne (sne h hp), h]; rfl⟩
theorem SeqK.len {S : Sto} {d : D} {ds : List D} (h : SeqK S d ds) : lenD S d = some ds.length := by
  cases h with
  | lst => rfl
  | tup => rfl
  | ref h => rw [lenD_ref, h]; rfl
theorem SeqK.put {S : Sto} {d : D} {ds : List D} (h : SeqK S d ds) {p : Addr} {o : MO} (hp : S p = none) : SeqK (put S p o) d ds := by
  cases h with
  | lst => exact .lst
  | tup => exact .tup
  | ref h => exact .ref (by rw [put_ne (sne h hp)]; exact h)
/-- a list (not a tuple) against [] -/
theorem plains_map {α : Type} {f : α → D} {xs : List α} (h : ∀ a, D.plain (f a) = true) : D.plains (xs.map f) = true := by
  induction xs with
  | nil => rfl
  | cons a xs ih => show (D.plain (f a) && D.plains (xs.map f)) = true; rw [h, ih]; rfl
theorem deps_map {α : Type} {f : α → D} {xs : List α} {n : Nat} (h : ∀ a, D.dep (f a) ≤ n) : D.deps (xs.map f) ≤ n := by
  induction xs with
  | nil => exact Nat.zero_le _
  | cons a xs ih => show max (D.dep (f a)) (D.deps (xs.map f)) ≤ n; have := h a; omega
theorem look_ref' {S : Sto} {p : Addr} {ds : List D} (h : S p = some (.lst ds)) : look S (.ref p) = .lst ds := by simp only [look, h]
theorem l_bAll {bs : List Bool} {S : Sto} {Q : MQ} : bAll [.lst (bs.map .bl)] S Q = Q (.bl (bs.all id)) S := by
  simp only [bAll, lstOf, Option.bind_some, blsOf_map]
theorem in_uw {neg : Bool} {p : U2} {w : UW} {S : Sto} {Q : MQ} : rInM neg (uD p) (uwD w) S Q = Q (.bl (if neg then !(decide (w.1 = p) || decide (w.2 = p)) else (decide (w.1 = p) || decide (w.2 = p)))) S := by
  have e : look S (uwD w) = .tup [uD w.1, uD w.2] := rfl
  have m : memD (uD p) [uD w.1, uD w.2] = (decide (w.1 = p) || decide (w.2 = p)) := by
    show (D.deq (uD w.1) (uD p) || (D.deq (uD w.2) (uD p) || false)) = _
    rw [deq_u, deq_u, Bool.or_false]
  have c : D.plain (uD p) = true ∧ D.plains [uD w.1, uD w.2] = true ∧ D.dep (uD p) ≤ 64 ∧ D.deps [uD w.1, uD w.2] ≤ 63 :=
    ⟨plain_u p, plain_uw w, by rw [dep_u]; decide, by have := dep_uw w; rw [uwD, D.dep] at this; omega⟩
  simp only [rInM, e, m]
  exact propext ⟨fun h => h.2, fun h => ⟨c, h⟩⟩
end ML
set_option maxRecDepth 100000
namespace ML
open PySem PySem.Spec L2
open PyProof.Rows hiding St
section
variable {X : Cx}
/-! ### max, min of a list of ints -/
def bMaxL : List D → Sto → MQ → Prop := fun ds S Q => ∃ (d : D) (ns : List Int), ds = [d] ∧ lstOf S d = some (ns.map .int) ∧ 0 < ns.length ∧ ∀ m, m ∈ ns → (∀ y, y ∈ ns → y ≤ m) → Q (.int m) S
def bMinL : List D → Sto → MQ → Prop := fun ds S Q => ∃ (d : D) (ns : List Int), ds = [d] ∧ lstOf S d = some (ns.map .int) ∧ 0 < ns.length ∧ ∀ m, m ∈ ns → (∀ y, y ∈ ns → m ≤ y) → Q (.int m) S
end
def MaxP (ds : List D) (S : Sto) [Q : Hold MQ] : Prop := bMaxL ds S Q.v
def MinP (ds : List D) (S : Sto) [Q : Hold MQ] : Prop := bMinL ds S Q.v
theorem l_bMaxL {ds : List D} {S : Sto} {Q : MQ} : bMaxL ds S Q = @MaxP ds S ⟨Q⟩ := Eq.trans rfl rfl
theorem l_bMinL {ds : List D} {S : Sto} {Q : MQ} : bMinL ds S Q = @MinP ds S ⟨Q⟩ := Eq.trans rfl rfl
end ML
set_option maxRecDepth 100000
namespace ML
open PySem PySem.Spec L2
open PyProof.Rows hiding St
/-! ### sorted, of pairs of ints -/
section
variable {X : Cx}
/-- sorted: a list that stays -/
def bSortU : List D → Sto → MQ → Prop := fun ds S Q => ∃ (d : D) (us : List U2), ds = [d] ∧ lstOf S d = some (us.map uD) ∧ us.length < 64 ∧ (∀ u ∈ us, 0 ≤ u.1 ∧ u.1 < 1048576 ∧ 0 ≤ u.2 ∧ u.2 < 1048576) ∧
  ∀ vs : List U2, vs.Perm us → vs.Pairwise ule → Q (.lst (vs.map uD)) S
end
def SortP (ds : List D) (S : Sto) [Q : Hold MQ] : Prop := bSortU ds S Q.v
theorem l_bSortU {ds : List D} {S : Sto} {Q : MQ} : bSortU ds S Q = @SortP ds S ⟨Q⟩ := Eq.trans rfl rfl
theorem l_mtInsert {p : Addr} {n : Nat} {y : D} {S : Sto} {Q : MQ} : mtInsert (.ref p) [.int (n : Nat), y] S Q = optP (olP (S p)) fun xs => (xs.length < sizeLine ∧ 0 ≤ ((n : Nat) : Int) ∧ ((n : Nat) : Int) < 2 ^ 63) ∧ Q .non (put S p (.lst (xs.take n ++ [y] ++ xs.drop n))) := by
  simp only [mtInsert, optP, OptP, olP]
  cases S p with
  | none => rfl
  | some o => cases o <;> simp
theorem l_mtReverse {p : Addr} {S : Sto} {Q : MQ} : mtReverse (.ref p) [] S Q = optP (olP (S p)) fun xs => Q .non (put S p (.lst xs.reverse)) := by
  simp only [mtReverse, optP, OptP, olP]
  cases S p with
  | none => rfl
  | some o => cases o <;> rfl
theorem l_mtClear {p : Addr} {S : Sto} {Q : MQ} : mtClear (.ref p) [] S Q = optP (olP (S p)) fun xs => Q .non (put S p (.lst [])) := by
  simp only [mtClear, optP, OptP, olP]
  cases S p with
  | none => rfl
  | some o => cases o <;> rfl
end ML
set_option maxRecDepth 100000
namespace ML
open PySem PySem.Spec L2
/-! ### comprehensions whose turns make new things -/
/-- all but p stands as it stood -/
def Grow (p : Addr) (S S' : Sto) : Prop := ∀ q o, q ≠ p → S q = some o → S' q = some o
def Ext0 (S S' : Sto) : Prop := ∀ q o, S q = some o → S' q = some o
theorem Grow.ext {p : Addr} {S S' S'' : Sto} (h : Grow p S S') (k : Ext0 S' S'') : Grow p S S'' := fun q u hq e => k q u (h q u hq e)
end ML
set_option maxRecDepth 100000
namespace ML
open PySem PySem.Spec L2
open PyProof.Rows hiding St
/-! ### defs that show things: nothing is being shown around them -/
structure ShowOk (P : Program) (w : World) (K : PySem.W.Frag) (mg : Str → Option Value) (base : Heap) (k : Nat) (f : Addr) (fd : FuncData) (ps : List Str) (sp : Sp) : Prop where
  many : ∀ vs H Q E, sp vs H Q E → vs.length = ps.length
  runs : ∀ (A : Around), A.guards = some [] → Room k A → ∀ (outer : List Env) (s : Shared) (H : Hp), Env0 P w K mg base A outer s H → ∀ (args : Args) (us : List Value) (vs : List V), BindsTo s fd args (ps.zip us) → Vals vs us → ∀ (Q : VK) (E : XK), sp vs H Q E → codeAny (model P w) A (.call (.ref f) args) (CR (L2.CX P w) outer P w H s Q E) s
theorem ShowOk.of {P : Program} {w : World} {K : PySem.W.Frag} {mg : Str → Option Value} {base : Heap} {k : Nat} {f : Addr} {fd : FuncData} {ps : List Str} {sp : Sp} (F : FnOk P w K mg base (L2.CX P w) k f fd ps sp) : ShowOk P w K mg base k f fd ps sp :=
  ⟨F.len, fun A _ hr outer s H e args us vs b r Q E h => F.run A outer s H args us vs Q E hr e b r h⟩
structure HasS (P : Program) (w : World) (K : PySem.W.Frag) (mg : Str → Option Value) (base : Heap) (x : Str) (ps : List Str) (k : Nat) (sp : MSp) : Prop where
  ex : ∃ f fd, mg x = some (.ref f) ∧ PySem.W.keepIn K (.ref f) = true ∧ Binds K fd ps [] ∧ ShowOk P w K mg base k f fd ps (upSp K sp)
theorem Has.s {P : Program} {w : World} {K : PySem.W.Frag} {mg : Str → Option Value} {base : Heap} {x : Str} {ps : List Str} {k : Nat} {sp : MSp} (h : Has P w K mg base x ps k sp) : HasS P w K mg base x ps k sp :=
  let ⟨f, fd, a, b, c, d⟩ := h.ex
  ⟨f, fd, a, b, c, .of d⟩
theorem HasS.mono {P : Program} {w : World} {K : PySem.W.Frag} {mg : Str → Option Value} {base : Heap} {x : Str} {ps : List Str} {j k : Nat} {sp : MSp} (h : HasS P w K mg base x ps j sp) (l : j ≤ k) : HasS P w K mg base x ps k sp :=
  let ⟨f, fd, a, b, c, d⟩ := h.ex
  ⟨f, fd, a, b, c, d.many, fun A hg hr => d.runs A hg (hr.mono l)⟩
/-! ### the law, shown or not -/
end ML
set_option maxRecDepth 100000
namespace ML
open PySem PySem.Spec L2
open PyProof.Rows hiding St
/-! ### repr of lists and tuples -/
/-- how it is shown -/
def reprD (d : D) : Str := (D.py d).shown
end ML
set_option maxRecDepth 100000
namespace ML
open PySem PySem.Spec L2
open PyProof.Rows hiding St
/-! ### the head's facts, with a module's own tuples of numbers -/
def tupsB (ts : List (Str × List Int)) (K : PySem.W.Frag) : Bool := ts.all fun p => He.tupB K p.1 (p.2.map He.Dv.int)
end ML
set_option maxRecDepth 100000
set_option maxHeartbeats 2000000
/-! # an exception that is kept behind its except clause -/
namespace L2
open PySem PySem.Spec PyProof.Rows
end L2
namespace ML
open PySem PySem.Spec L2
open PyProof.Rows hiding St
/-- which own exceptions are of which class -/
def subE (c d : Str) : Bool := decide (c = d) || decide (d ∈ (["SpotError", "ValueError", "Exception", "BaseException"] : List Str))
def excCB (K : PySem.W.Frag) (D : Addr) : Bool := decide (PySem.W.findIn K (.ref D) "__getattribute__" = some (some (.builtin "BaseException.__getattribute__"))) && (decide (PySem.W.findIn K (.ref D) "__getattr__" = some none) && (decide (PySem.W.subIn K (.ref D) (.type "BaseException") = some true) && (PySem.W.hasDictIn K D &&
  (decide (PySem.W.findIn K (.ref D) "__class__" = some (some (.builtin "object.__class__"))) && (decide (PySem.W.specialIn K (.builtin "object.__class__") "__get__" = some (some (.builtin "getset_descriptor.__get__"))) && (decide (PySem.W.takesIn K (.builtin "object.__class__") = some true) && decide (PySem.W.mroIn K D (.type "object") = some true)))))))
def excB1 (K : PySem.W.Frag) (ns : List Str) (C : Str) : Bool := excCB K (He.ga K C) && (decide (PySem.W.kitOne K (.ref (He.ga K C)) (.type "ValueError") = some true) && (decide (PySem.W.findIn K (.ref (He.ga K C)) "__str__" = some (some (.builtin "BaseException.__str__"))) && ns.all fun y => decide (PySem.W.kitOne K (.ref (He.ga K C)) (.ref (He.ga K y)) = some (subE C y)) && decide (PySem.W.exmOne K (.ref (He.ga K C)) (.ref (He.ga K y)) = some (subE C y))))
def excsB (ns : List Str) (K : PySem.W.Frag) : Bool := ns.all (excB1 K ns)
/-- an exception that is made with a text and raised -/
def mRaise (C : Str) : MS := fun D σ S => D.ex ⟨C, none⟩ σ S
section
variable {X : Cx} {W : WX} {a : Expr} {pos : Pos} {m : ME}
/-- try .. except C as n: what is caught is an object of the store behind it -/
def endM (D : MEnds) (i : Nat) : MEnds := { nx := fun σ S => D.nx (σ.set i none) S, rt := D.rt, bk := fun σ S => D.bk (σ.set i none) S, ct := fun σ S => D.ct (σ.set i none) S }
def mTry (ns : List Str) (c : Str) (i : Nat) (mb ms : MS) : MS := fun D σ S => mb { D with ex := fun x σ' S' => x.C ∈ ns ∧ (subE x.C c = true → ∀ p, S' p = none → ms (endM D i) (σ'.set i (some (.ref p))) (put S' p (.exc x.C x.fs))) ∧ (subE x.C c = false → D.ex x σ' S') } σ S
/-- isinstance of a kept exception -/
def excOf : Option MO → Option Str
  | some (.exc C none) => some C
  | _ => none
def excD (S : Sto) : D → Option Str
  | .ref p => excOf (S p)
  | _ => none
def mIsE (ns : List Str) (x : Str) (m : ME) : ME := fun σ S Q E => m σ S (fun d S1 => match excD S1 d with
  | some C => C ∈ ns ∧ Q (.bl (subE C x)) S1
  | none => False) E
/-- .. by ValueError -/
def mIsV (ns : List Str) (m : ME) : ME := fun σ S Q E => m σ S (fun d S1 => match excD S1 d with
  | some C => C ∈ ns ∧ Q (.bl true) S1
  | none => False) E
/-- a + b of lists, a list of the store -/
def rAddS : R2m := fun d e S Q => match ownOf S d, ownOf S e with
  | some xs, some ys => xs.length + ys.length ≤ sizeLine ∧ ∀ p, S p = none → Q (.ref p) (put S p (.lst (xs ++ ys)))
  | _, _ => False
def mtCount : RMm := fun d ds S Q => match ds with
  | [.bl k] => match (lstOf S d).bind blsOf with
    | some bs => Q (.int (bs.count k : Nat)) S
    | none => False
  | _ => False
end
/-! ### how these open -/
theorem l_mRaise {C : Str} {D : MEnds} {σ : MSt} {S : Sto} : mRaise C D σ S = D.ex ⟨C, none⟩ σ S := Eq.trans rfl rfl
def TryP (x : MX) (σ : MSt) (S : Sto) (ns : List Str) (c : Str) (i : Nat) [ms : Hold MS] [De : Hold MEnds] : Prop := x.C ∈ ns ∧ (subE x.C c = true → ∀ p, S p = none → ms.v (endM De.v i) (σ.set i (some (.ref p))) (put S p (.exc x.C x.fs))) ∧ (subE x.C c = false → De.v.ex x σ S)
theorem l_mTry {ns : List Str} {c : Str} {i : Nat} {mb ms : MS} {D : MEnds} {σ : MSt} {S : Sto} : mTry ns c i mb ms D σ S = mb { D with ex := fun x σ' S' => @TryP x σ' S' ns c i ⟨ms⟩ ⟨D⟩ } σ S := Eq.trans rfl rfl
theorem l_mIsE {ns : List Str} {x : Str} {m : ME} {σ : MSt} {S : Sto} {Q : MQ} {E : MXQ} : mIsE ns x m σ S Q E = m σ S (fun d S1 => optP (excD S1 d) fun C => C ∈ ns ∧ Q (.bl (subE C x)) S1) E := by
  unfold mIsE optP OptP
  apply congrArg (fun f => m σ S f E)
  funext d S1
  cases excD S1 d <;> rfl
theorem l_mIsV {ns : List Str} {m : ME} {σ : MSt} {S : Sto} {Q : MQ} {E : MXQ} : mIsV ns m σ S Q E = m σ S (fun d S1 => optP (excD S1 d) fun C => C ∈ ns ∧ Q (.bl true) S1) E := by
  unfold mIsV optP OptP
  apply congrArg (fun f => m σ S f E)
  funext d S1
  cases excD S1 d <;> rfl
theorem excD_ref {S : Sto} {p : Addr} : excD S (.ref p) = excOf (S p) := Eq.trans rfl rfl
theorem excOf_exc {C : Str} : excOf (some (.exc C none)) = some C := Eq.trans rfl rfl
theorem l_rAddS_rl {p : Addr} {ys : List D} {S : Sto} {Q : MQ} : rAddS (.ref p) (.lst ys) S Q = optP (olP (S p)) fun xs => xs.length + ys.length ≤ sizeLine ∧ ∀ q, S q = none → Q (.ref q) (put S q (.lst (xs ++ ys))) := by
  simp only [rAddS, ownOf_ref', ownOf_lst, optP, OptP]
  cases olP (S p) <;> rfl
theorem l_rAddS_ll {xs ys : List D} {S : Sto} {Q : MQ} : rAddS (.lst xs) (.lst ys) S Q = (xs.length + ys.length ≤ sizeLine ∧ ∀ q, S q = none → Q (.ref q) (put S q (.lst (xs ++ ys)))) := Eq.trans rfl rfl
theorem l_mtCount {d : D} {k : Bool} {S : Sto} {Q : MQ} : mtCount d [.bl k] S Q = optP ((lstOf S d).bind blsOf) fun bs => Q (.int (bs.count k : Nat)) S := by
  simp only [mtCount, optP, OptP]
  cases (lstOf S d).bind blsOf <;> rfl
theorem blsOf_nil : blsOf [] = some [] := Eq.trans rfl rfl
theorem blsOf_cons {b : Bool} {r : List D} : blsOf (.bl b :: r) = (blsOf r).map (b :: ·) := Eq.trans rfl rfl
theorem endM_nx {De : MEnds} {i : Nat} {σ : MSt} {S : Sto} : (endM De i).nx σ S = De.nx (σ.set i none) S := Eq.trans rfl rfl
theorem endM_rt {De : MEnds} {i : Nat} : (endM De i).rt = De.rt := Eq.trans rfl rfl
/-! ### the head's facts, with tuples of numbers and exception classes -/
end ML
set_option maxRecDepth 100000
/-! # list(range(n)), dicts whose keys are tuples of numbers -/
namespace ML
open PySem PySem.Spec L2
open PyProof.Rows hiding St
section
variable {X : Cx} {W : WX} {e o : Expr} {es : List Expr} {pos : Pos} {m mo mv : ME} {mas : MA}
/-! ### dicts -/
def valD {κ : Type} [DecidableEq κ] (kvs : List (κ × D)) (k : κ) : Option D := (kvs.find? fun kv => decide (kv.1 = k)).map (·.2)
theorem RKs.any {κ : Type} {K : PySem.W.Frag} {H : Hp} {S : Sto} (f : κ → Bool) : ∀ {vs : List (κ × V)} {ds : List (κ × D)}, RKs K H S vs ds → (vs.any fun kv => f kv.1) = ds.any fun kv => f kv.1
  | _, _, .nil => rfl
  | _, _, .cons _ r => by rw [List.any_cons, List.any_cons, RKs.any f r]
theorem RKs.valV {κ : Type} [DecidableEq κ] {K : PySem.W.Frag} {H : Hp} {S : Sto} (k : κ) : ∀ {vs : List (κ × V)} {ds : List (κ × D)}, RKs K H S vs ds → (L2.valV vs k).isSome = (valD ds k).isSome
  | _, _, .nil => rfl
  | _, _, .cons (k := j) h r => by
    have ih := RKs.valV k r
    unfold L2.valV valD at *
    rw [List.find?_cons, List.find?_cons]
    by_cases e : j = k
    · simp [e]
    · simpa [e] using ih
end
end ML
set_option maxRecDepth 100000
set_option maxHeartbeats 2000000
/-! # enumerate(tuple) -/
namespace PySem
open Sem (wp)
open AutoSeq1 (wpAny_loadPart')
section
variable {prog : Program} {w : World} {A : Around} {E : Value → Shared → Prop} {s : Shared}
theorem nextTup_item {it t : Addr} {i : Nat} {items} {x : Value} {Q : Value → Shared → Prop} (hit : s.heap.IsTupleIter it t i) (ht : s.heap.IsTuple t items) (hx : items[i]? = some x) (hQ : ∀ h', h'.IsTupleIter it t (i + 1) → Heap.SameBut it s.heap h' → Q x { s with heap := h' }) : wpAny (model prog w) A (Builtin.SmallTypes.nextOf (.ref it)) Q E s := by
  obtain ⟨o, ho, hc, hd⟩ := id hit; obtain ⟨ol, hol, _, nl, hdl⟩ := ht
  unfold Builtin.SmallTypes.nextOf
  refine wpAny_bind (wpAny_callSpecial?_slot (name := Str.ofString "__next__") hit.typeIs F.slot_tuple_iterator_next (wpAny_call_entry F.slot_tuple_iterator_next hit.typeIs F.entry_tuple_iterator_next ?_ (F.args_tuple_iterator_next_1 _)))
  show wpAny _ _ (field (.ref it) 0 >>= _) _ _ s; refine wpAny_bind (wpAny_field ho hd (x := .ref t) rfl ?_)
  show wpAny _ _ (if (Value.ref t == Value.none) = true then _ else _) _ _ s; rw [if_neg (show ¬ ((Value.ref t == Value.none) = true) from Bool.false_ne_true)]
  show wpAny _ _ (field (.ref it) 1 >>= _) _ _ s; refine wpAny_bind (wpAny_field ho hd (x := .int i 0) rfl ?_)
  show wpAny _ _ (seqItems? (.ref t) >>= _) _ _ s; refine wpAny_bind (wpAny_seqItems hol hdl ?_)
  simp only [Int.toNat_natCast, hx]; refine wpAny_bind (wpAny_setField ho hd (by simp) (wpAny_pure ⟨x, rfl, wpAny_pure (hQ _ ?_ (Heap.SameBut.update ..))⟩))
  exact ⟨_, Heap.get?_update_self _ ho (Obj.isFreed_of_fields (Obj.data_mapFields hd _)), (Obj.cls_mapFields ..).trans hc, by rw [Obj.data_mapFields hd]; simp [rawInt]⟩
theorem nextTup_end {it t : Addr} {i : Nat} {items} {Q : Value → Shared → Prop} (hh : A.handled = none) (hit : s.heap.IsTupleIter it t i) (ht : s.heap.IsTuple t items) (hx : items[i]? = none)
    (hE : ∀ h' e, Heap.ExtBut it s.heap h' → (∃ o, h'.get? e = some o ∧ o.cls = .type "StopIteration") → E (.ref e) { s with heap := h' }) : wpAny (model prog w) A (Builtin.SmallTypes.nextOf (.ref it)) Q E s := by
  obtain ⟨o, ho, hc, hd⟩ := id hit; obtain ⟨ol, hol, _, nl, hdl⟩ := ht
  unfold Builtin.SmallTypes.nextOf
  refine wpAny_bind (wpAny_callSpecial?_slot (name := Str.ofString "__next__") hit.typeIs F.slot_tuple_iterator_next (wpAny_call_entry F.slot_tuple_iterator_next hit.typeIs F.entry_tuple_iterator_next ?_ (F.args_tuple_iterator_next_1 _)))
  show wpAny _ _ (field (.ref it) 0 >>= _) _ _ s; refine wpAny_bind (wpAny_field ho hd (x := .ref t) rfl ?_)
  show wpAny _ _ (if (Value.ref t == Value.none) = true then _ else _) _ _ s; rw [if_neg (show ¬ ((Value.ref t == Value.none) = true) from Bool.false_ne_true)]
  show wpAny _ _ (field (.ref it) 1 >>= _) _ _ s; refine wpAny_bind (wpAny_field ho hd (x := .int i 0) rfl ?_)
  show wpAny _ _ (seqItems? (.ref t) >>= _) _ _ s; refine wpAny_bind (wpAny_seqItems hol hdl ?_)
  simp only [Int.toNat_natCast, hx]; refine wpAny_bind (wpAny_rule (wpAny_bind (wpAny_setField ho hd (by simp) ?_)))
  show wpAny _ _ (newExc (.type "StopIteration") [] >>= _) _ _ _; refine wpAny_bind ?_
  simp only [newExc, newTuple]; refine wpAny_bind (wpAny_newObj_type ?_ (by size_fits))
  refine wpAny_bind (m := firstArgMember _ _) (wpAny_of_eq (a := Value.none) (by first | rfl | (simp only [firstArgMember]; rfl)) ?_); refine wpAny_newObj_type ?_ (by size_fits)
  simp only [raiseNew]; refine wpAny_bind (wpAny_handled ?_)
  first | rw [show A.in1.handled = none from hh] | rw [hh]
  refine wpAny_bind (wpAny_pure (wpAny_throw ?_)); exact hE _ _ (((Heap.SameBut.update ..).extBut.push _).push _) ⟨_, Heap.get?_push_size _ rfl, rfl⟩
end
theorem Draws.tup {prog : Program} {w : World} {A : Around} (hh : A.handled = none) (it t : Addr) (hne : t ≠ it) (items : Array Value) : Draws prog w A it [it, t] items.size (fun i v => items[i]? = some v) (fun i h => h.IsTupleIter it t i ∧ h.IsTuple t items) where
  live := fun _ _ st => let ⟨o, ho, _⟩ := st.1; ⟨o, ho⟩
  frame := fun _ _ _ st hk => ⟨let ⟨o, ho, r⟩ := st.1; ⟨o, hk it (by simp) o ho, r⟩, let ⟨o, ho, r⟩ := st.2; ⟨o, hk t (by simp) o ho, r⟩⟩
  item := fun i s Q E hi st hQ => nextTup_item st.1 st.2 (x := items[i]) (by simp [hi]) fun h' hit' hs' => hQ _ h' s.toks (by simp [hi]) ⟨hit', let ⟨o, ho, r⟩ := st.2; ⟨o, hs'.extBut _ _ hne ho, r⟩⟩ hs'
  done := fun s Q E st hE => nextTup_end hh st.1 st.2 (by simp) hE
end PySem
namespace L2
open PySem PySem.Spec PyProof.Rows
end L2
namespace ML
open PySem PySem.Spec L2
open PyProof.Rows hiding St
end ML
set_option maxRecDepth 100000
set_option maxHeartbeats 2000000
/-! # (a, b)[::-1], sum of a list of numbers -/
namespace L2
open PySem PySem.Spec PyProof.Rows
end L2
namespace ML
open PySem PySem.Spec L2
open PyProof.Rows hiding St
end ML
set_option maxRecDepth 100000
/-! # dicts whose keys are spots; dicts whose keys are numbers -/
namespace ML
open PySem PySem.Spec L2
open PyProof.Rows hiding St
theorem nkey_inj {a b : K4} (h : nkey a = nkey b) : a = b := by
  obtain ⟨⟨a1, a2⟩, a3, a4⟩ := a
  obtain ⟨⟨b1, b2⟩, b3, b4⟩ := b
  simp only [nkey] at h
  injection h with h
  injection h with h1 h2
  injection h2 with h2 _
  injection h1 with h1
  injection h2 with h2
  injection h1 with h1 h3
  injection h2 with h2 h4
  injection h3 with h3 _
  injection h4 with h4 _
  injection h1 with h1
  injection h2 with h2
  injection h3 with h3
  injection h4 with h4
  rw [h1, h2, h3, h4]
theorem nkey_depth (k : K4) : (nkey k).depth ≤ 8 := by
  simp only [nkey, NestedKey.depth, NestedKey.depthAll]; decide
theorem nkey_hash (w : World) (k : K4) : (nkey k).hash w = hash4 k := by
  simp only [nkey, hash4, NestedKey.hash, NestedKey.hashes]
/-- the kind of key -/
def spotKind (prog : Program) (w : World) : HeapKind prog w K4 where
  is := fun h k a => (nestedKind prog w).is h (nkey k) a
  hash := hash4
  draws := fun k => (nestedKind prog w).draws (nkey k)
  room := fun A => (nestedKind prog w).room A
  inj := fun hx hy => nkey_inj ((nestedKind prog w).inj hx hy)
  keeps := fun x ho hd hs => (nestedKind prog w).keeps x ho hd hs
  pyHash := fun {A E s k a Q} hu hk h => (nestedKind prog w).pyHash hu hk (by
    show Q (NestedKey.hash w (nkey k)) _
    rw [nkey_hash]; exact h)
  eqBool := fun {A E s x y a b Q} hu hx hy h => (nestedKind prog w).eqBool hu hx hy (by
    have e : decide (nkey x = nkey y) = decide (x = y) := by
      rw [decide_eq_decide]; exact ⟨nkey_inj, fun z => by rw [z]⟩
    rw [e]; exact h)
  quiet := fun {A E s k a Q} hk h => (nestedKind prog w).quiet hk h
/-! ### over the hand layer -/
/-- v is the key k -/
def KeyV (K : PySem.W.Frag) (H : Hp) (k : K4) (v : V) : Prop := ∃ p p1 p2, v = .ref p ∧ SqT K H p [.ref p1, .ref p2] ∧ SqT K H p1 [.int k.1.1, .int k.1.2] ∧ SqT K H p2 [.int k.2.1, .int k.2.2]
section
variable {X : Cx} {pins : List (Addr × Obj)} {σ : L2.St} {H : Hp} {s : Shared} {a p : Addr} {k : K4} {A : Around} {E : Value → Shared → Prop}
theorem two_at {a b : V} {its : List Value} (r : Vals [a, b] its) : ∃ u v, its = [u, v] ∧ RelV a u ∧ RelV b v := by
  cases r with
  | cons r1 r => cases r with
    | cons r2 r => cases r; exact ⟨_, _, rfl, r1, r2⟩
theorem ints_is (I : Inv X pins σ H s) {i j : Int} (h : SqT X.K H p [.int i, .int j]) : NestedIs s.heap (.tup [.num i, .num j]) (.ref p) := by
  obtain ⟨its, r, ⟨o, e1, e2, n, e3⟩, _⟩ := I.tuple h
  obtain ⟨u, v, rfl, r1, r2⟩ := two_at r
  obtain ⟨t1, rfl⟩ := r1
  obtain ⟨t2, rfl⟩ := r2
  exact .tup e1 e2 e3 (.cons (.int _ _) (.cons (.int _ _) .nil))
theorem key_is (I : Inv X pins σ H s) (h : KeyV X.K H k (.ref p)) : (spotKind X.prog X.w).is s.heap k p := by
  obtain ⟨p', p1, p2, e, h0, h1, h2⟩ := h
  cases e
  obtain ⟨its, r, ⟨o, e1, e2, n, e3⟩, _⟩ := I.tuple h0
  obtain ⟨u, v, rfl, r1, r2⟩ := two_at r
  obtain rfl : u = Value.ref p1 := r1
  obtain rfl : v = Value.ref p2 := r2
  exact ⟨.tup e1 e2 e3 (.cons (ints_is I h1) (.cons (ints_is I h2) .nil)), nkey_depth k⟩
/-- the dict at a, its keys seen -/
structure DSat (K : PySem.W.Frag) (H : Hp) (a : Addr) (xs : List (K4 × Addr × Value)) : Prop where
  at' : H a = some (DicS xs a)
  sys : (a == sysModules) = false
  key : ∀ x ∈ xs, KeyV K H x.1 (.ref x.2.1)
theorem DSat.of (I : Inv X pins σ H s) {xs : List (K4 × Addr × Value)} (d : DSat X.K H a xs) : s.heap.DictOfH (spotKind X.prog X.w) a xs := by
  obtain ⟨⟨o, es, ep, h1, h2, h3, h4, h5⟩, _⟩ := I.hok a _ d.at'
  exact ⟨o, es, ep, h1, h2, h3, h4, fun x hx => key_is I (d.key x hx), h5⟩
theorem DSat.type (I : Inv X pins σ H s) {xs : List (K4 × Addr × Value)} (d : DSat X.K H a xs) :
    s.TypeIs (.ref a) "dict" ∧ (∀ b, Value.ref a = .ref b → ∃ ob, s.heap.get? b = some ob ∧ ob.dict = none) := by
  have dd := d.of I
  refine ⟨dd.typeIs, fun b q => ?_⟩
  cases q
  obtain ⟨ob, _, _, h1, h2, _⟩ := dd
  exact ⟨ob, h1, h2.2.1⟩
end
end ML
namespace ML
open PySem PySem.Spec L2
open PyProof.Rows hiding St
/-! ### readings -/
theorem RD.key {K : PySem.W.Frag} {H : Hp} {S : Sto} {k : K4} {v : V} (r : RD K H S v (k4D k)) : ∃ p, v = .ref p ∧ KeyV K H k v := by
  obtain ⟨a, vs, rfl, h1, r1⟩ := RD.tupSq r
  cases r1 with
  | cons ra r1 => cases r1 with
    | cons rb r1 =>
      cases r1
      obtain ⟨p1, vs1, rfl, h2, r2⟩ := RD.tupSq ra
      obtain ⟨p2, vs2, rfl, h3, r3⟩ := RD.tupSq rb
      cases r2 with
      | cons x1 r2 => cases r2 with
        | cons x2 r2 =>
          cases r2
          cases r3 with
          | cons y1 r3 => cases r3 with
            | cons y2 r3 =>
              cases r3
              cases x1; cases x2; cases y1; cases y2
              exact ⟨a, rfl, a, p1, p2, rfl, h1, h2, h3⟩
section
variable {K : PySem.W.Frag} {H : Hp} {S : Sto}
theorem R4.length {kvs : List (K4 × D)} {xs : List (K4 × Addr × Value)} (r : R4 K H S kvs xs) : kvs.length = xs.length := Paired.length r
theorem R4.val (k : K4) : ∀ {kvs : List (K4 × D)} {xs : List (K4 × Addr × Value)}, R4 K H S kvs xs → (∀ v, valD kvs k = some v → ∃ u w, atKey xs k = some u ∧ RelV w u.2 ∧ RD K H S w v) ∧ (valD kvs k = none ↔ atKey xs k = none)
  | _, _, .nil => ⟨fun v h => (by cases h), fun _ => rfl, fun _ => rfl⟩
  | p :: ps, q :: qs, .cons ⟨h1, h2, w, h3, h4⟩ r => by
    have ih := R4.val k r
    unfold valD atKey at *
    rw [List.find?_cons, List.find?_cons]
    by_cases e : p.1 = k
    · have e2 : q.1 = k := h1.symm.trans e
      simp only [e, e2, decide_true]
      exact ⟨fun v hv => by cases hv; exact ⟨_, w, rfl, h3, h4⟩, by simp⟩
    · have e2 : ¬ q.1 = k := fun z => e (h1.trans z)
      simp only [e, e2, decide_false]
      exact ih
end
section
variable {X : Cx} {W : WX} {e o i f : Expr} {pos : Pos} {mo mi mx : ME} {A : Around}
/-! ### dicts whose keys are numbers -/
theorem RKs.val {κ : Type} [DecidableEq κ] {K : PySem.W.Frag} {H : Hp} {S : Sto} (k : κ) : ∀ {vs : List (κ × V)} {ds : List (κ × D)}, RKs K H S vs ds → ∀ d, valD ds k = some d → ∃ v, L2.valV vs k = some v ∧ RD K H S v d
  | _, _, .nil, d, h => by cases h
  | _, _, .cons (k := j) hr r, d, h => by
    have ih := RKs.val k r d
    unfold L2.valV valD at *
    rw [List.find?_cons] at h ⊢
    by_cases e : j = k
    · simp only [e, decide_true] at h ⊢
      cases h; exact ⟨_, rfl, hr⟩
    · simp only [e, decide_false] at h ⊢
      exact ih h
end
end ML
set_option maxRecDepth 100000
/-! # sorted of a list of numbers -/
namespace ML
open PySem PySem.Spec L2
open PyProof.Rows hiding St
section
variable {X : Cx}
/-- sorted: a list that stays -/
def bSortI : List D → Sto → MQ → Prop := fun ds S Q => ∃ (d : D) (ns : List Int), ds = [d] ∧ lstOf S d = some (ns.map .int) ∧ ns.length ≤ 10000 ∧
  ∀ ms : List Int, ms.Perm ns → ms.Pairwise (· ≤ ·) → Q (.lst (ms.map .int)) S
end
def SortIP (ds : List D) (S : Sto) [Q : Hold MQ] : Prop := bSortI ds S Q.v
theorem l_bSortI {ds : List D} {S : Sto} {Q : MQ} : bSortI ds S Q = @SortIP ds S ⟨Q⟩ := Eq.trans rfl rfl
/-! ### True in a list of truths -/
/-! ### == of lists of lists of the store -/
mutual
/-- e is d with all lists of the store opened -/
inductive Deep (S : Sto) : D → D → Prop
  | same {d : D} : D.plain d = true → Deep S d d
  | ref {p : Addr} {ds es : List D} : S p = some (.lst ds) → Deeps S ds es → Deep S (.ref p) (.lst es)
  | lst {ds es : List D} : Deeps S ds es → Deep S (.lst ds) (.lst es)
  | tup {ds es : List D} : Deeps S ds es → Deep S (.tup ds) (.tup es)
inductive Deeps (S : Sto) : List D → List D → Prop
  | nil : Deeps S [] []
  | cons {d e : D} {ds es : List D} : Deep S d e → Deeps S ds es → Deeps S (d :: ds) (e :: es)
end
mutual
theorem deep_dp {K : PySem.W.Frag} {H : Hp} {S : Sto} (s : RSto K H S) : ∀ {v : V} {d e : D}, RD K H S v d → Deep S d e → D.plain e = true → Dp K H v (D.py e)
  | _, _, _, r, .same _, h => r.dp h
  | _, _, _, r, .ref e dd, h => by
    cases r
    obtain ⟨vs, e1, r1⟩ := s _ _ e
    rw [D.py]
    exact .lst (.inl (.inl e1)) (deeps_dp s r1 dd h)
  | _, _, _, r, .lst dd, h => by
    cases r with
    | lst h1 n r1 => rw [D.py]; exact .lst (.inl (.inl h1)) (deeps_dp s r1 dd h)
  | _, _, _, r, .tup dd, h => by
    obtain ⟨a, vs, rfl, h1, r1⟩ := RD.tupSq r
    rw [D.py]; exact .tup h1 (deeps_dp s r1 dd h)
theorem deeps_dp {K : PySem.W.Frag} {H : Hp} {S : Sto} (s : RSto K H S) : ∀ {vs : List V} {ds es : List D}, RDs K H S vs ds → Deeps S ds es → D.plains es = true → DpAll K H vs (D.pys es)
  | _, _, _, .nil, .nil, _ => by rw [D.pys]; exact .nil
  | _, _, _, .cons r rs, .cons (e := e) (es := es) d dd, h => by
    obtain ⟨a1, a2⟩ := Bool.and_eq_true_iff.mp (show (D.plain e && D.plains es) = true from h)
    rw [D.pys]; exact .cons (deep_dp s r d a1) (deeps_dp s rs dd a2)
end
def rNeX : R2m := fun d e S Q => ∃ d' e', Deep S d d' ∧ Deep S e e' ∧ (D.plain d' = true ∧ D.plain e' = true ∧ D.dep d' ≤ 64 ∧ D.dep e' ≤ 64) ∧ Q (.bl (!D.deq d' e')) S
theorem ol_neX {X : Cx} : OpL X.K (fun x y H Q => rNe x y H Q ∨ rNeD X.K x y H Q) rNeX := fun H S x y d e Qm Q s rx ry ⟨d', e', h1, h2, ⟨p1, p2, d1, d2⟩, h⟩ k => by
  refine .inr ⟨_, _, deep_dp s rx h1 p1, deep_dp s ry h2 p2, D.shaped_py p1 d1, D.shaped_py p2 d2, k _ S _ H h Ext.refl s ?_⟩
  rw [D.eqv_py _ _ p1 p2]; exact .bl _
def NeXP (d e : D) (S : Sto) [Q : Hold MQ] : Prop := rNeX d e S Q.v
theorem l_rNeX {d e : D} {S : Sto} {Q : MQ} : rNeX d e S Q = @NeXP d e S ⟨Q⟩ := Eq.trans rfl rfl
theorem neXP {d e d' e' : D} {S : Sto} {Q : MQ} (h1 : Deep S d d') (h2 : Deep S e e') (h : D.plain d' = true ∧ D.plain e' = true ∧ D.dep d' ≤ 64 ∧ D.dep e' ≤ 64) (k : Q (.bl (!D.deq d' e')) S) : @NeXP d e S ⟨Q⟩ := ⟨d', e', h1, h2, h, k⟩
end ML
set_option maxRecDepth 100000
namespace ML
open PySem PySem.Spec L2
/-! == of values that hold lists of the store, at any depth -/
end ML
set_option maxRecDepth 100000
namespace ML
open PySem PySem.Spec L2
/-! ### dicts whose keys are numbers: get with a default, setdefault -/
end ML
set_option maxRecDepth 100000
namespace ML
open PySem PySem.Spec L2
/-! ### [x] * n, a list of the store -/
/-! ### a list of the store in a list of such -/
end ML
set_option maxRecDepth 100000
namespace ML
open PySem PySem.Spec L2
/-! ### min, max of a list of pairs of numbers -/
section
variable {X : Cx}
def bMinU : List D → Sto → MQ → Prop := fun ds S Q => ∃ (d : D) (us : List U2), ds = [d] ∧ lstOf S d = some (us.map uD) ∧ us ≠ [] ∧ ∀ m, m ∈ us → (∀ y ∈ us, ule m y) → Q (uD m) S
def bMaxU : List D → Sto → MQ → Prop := fun ds S Q => ∃ (d : D) (us : List U2), ds = [d] ∧ lstOf S d = some (us.map uD) ∧ us ≠ [] ∧ ∀ m, m ∈ us → (∀ y ∈ us, ule y m) → Q (uD m) S
end
def MinUP (ds : List D) (S : Sto) [Q : Hold MQ] : Prop := bMinU ds S Q.v
def MaxUP (ds : List D) (S : Sto) [Q : Hold MQ] : Prop := bMaxU ds S Q.v
theorem l_bMinU {ds : List D} {S : Sto} {Q : MQ} : bMinU ds S Q = @MinUP ds S ⟨Q⟩ := Eq.trans rfl rfl
theorem l_bMaxU {ds : List D} {S : Sto} {Q : MQ} : bMaxU ds S Q = @MaxUP ds S ⟨Q⟩ := Eq.trans rfl rfl
end ML
set_option maxRecDepth 100000
/-! # a list with truths in it, against the empty list -/
namespace ML
open PySem PySem.Spec L2
mutual
def D.pb : D → Bool
  | .non => true
  | .bl _ => true
  | .int _ => true
  | .str x => PyData.strOk x
  | .tup ds => D.pbs ds
  | .lst ds => D.pbs ds
  | .scr ds => D.pbs ds
  | .ref _ => false
def D.pbs : List D → Bool
  | [] => true
  | d :: ds => D.pb d && D.pbs ds
end
end ML
set_option maxRecDepth 100000
/-! # data alike; what is shown, its length -/
namespace ML
open PySem PySem.Spec L2
mutual
theorem deq_refl : ∀ d : D, D.plain d = true → D.deq d d = true
  | .non, _ => by rw [D.deq]
  | .bl _, h => by cases h
  | .int _, _ => by rw [D.deq]; simp
  | .str _, _ => by rw [D.deq]; simp
  | .ref _, h => by cases h
  | .tup ds, h => by rw [D.deq]; exact deqs_refl ds h
  | .lst ds, h => by rw [D.deq]; exact deqs_refl ds h
  | .scr ds, h => by rw [D.deq]; exact deqs_refl ds h
theorem deqs_refl : ∀ ds : List D, D.plains ds = true → D.deqs ds ds = true
  | [], _ => by rw [D.deqs]
  | d :: ds, h => by
    obtain ⟨a, b⟩ := Bool.and_eq_true_iff.mp (show (D.plain d && D.plains ds) = true from h)
    rw [D.deqs, deq_refl d a, deqs_refl ds b]; rfl
end
/-! ### what is shown -/
mutual
/-- small numbers, short texts -/
def D.sml : D → Bool
  | .int i => decide (i.natAbs.log2 < 1920)
  | .tup ds => D.smls ds
  | .lst ds => D.smls ds
  | .scr ds => D.smls ds
  | .str _ => true
  | .non => true
  | .bl _ => true
  | .ref _ => true
def D.smls : List D → Bool
  | [] => true
  | d :: ds => D.sml d && D.smls ds
end
mutual
/-- so many signs at most -/
def D.wt : D → Nat
  | .int _ => 2000
  | .str x => 10 * x.length + 10
  | .tup ds => D.wts ds + 10
  | .lst ds => D.wts ds + 10
  | .scr ds => D.wts ds + 10
  | .non => 10
  | .bl _ => 10
  | .ref _ => 10
def D.wts : List D → Nat
  | [] => 0
  | d :: ds => D.wt d + 2 + D.wts ds
end
/-! ### all lists of the store opened, truths let -/
mutual
inductive Opn (S : Sto) : D → D → Prop
  | same {d : D} : D.pb d = true → Opn S d d
  | ref {p : Addr} {ds es : List D} : S p = some (.lst ds) → Opns S ds es → Opn S (.ref p) (.lst es)
  | lst {ds es : List D} : Opns S ds es → Opn S (.lst ds) (.lst es)
  | tup {ds es : List D} : Opns S ds es → Opn S (.tup ds) (.tup es)
inductive Opns (S : Sto) : List D → List D → Prop
  | nil : Opns S [] []
  | cons {d e : D} {ds es : List D} : Opn S d e → Opns S ds es → Opns S (d :: ds) (e :: es)
end
def bReprO : List D → Sto → MQ → Prop := fun ds S Q => ∃ d e : D, ds = [d] ∧ Opn S d e ∧ D.dep e ≤ 60 ∧ D.sml e = true ∧ D.wt e ≤ 16000000 ∧ Q (.str (reprD e)) S
def ReprP (ds : List D) (S : Sto) [Q : Hold MQ] : Prop := bReprO ds S Q.v
theorem l_bReprO {ds : List D} {S : Sto} {Q : MQ} : bReprO ds S Q = @ReprP ds S ⟨Q⟩ := Eq.trans rfl rfl
/-! ### == of two texts -/
def rEqS : R2m := fun d e S Q => match d, e with
  | .str x, .str y => Q (.bl (decide (x = y))) S
  | _, _ => False
theorem ol_eqS {X : Cx} : OpL X.K (fun x y H Q => rEq x y H Q ∨ rEqD X.K x y H Q) rEqS := fun H S x y d e Qm Q s rx ry h k => by
  cases d with
  | str x =>
    cases e with
    | str y =>
      cases rx; cases ry
      refine .inl ⟨rfl, ?_⟩
      have : decide (V.str x = V.str y) = decide (x = y) := by simp
      rw [this]
      exact k _ S _ H h Ext.refl s (.bl _)
    | _ => exact h.elim
  | _ => exact h.elim
theorem l_rEqS {x y : Str} {S : Sto} {Q : MQ} : rEqS (.str x) (.str y) S Q = Q (.bl (decide (x = y))) S := Eq.trans rfl rfl
/-! ### a truth not in a list of truths -/
end ML
set_option maxRecDepth 100000
/-! # instances of the program's own classes: fields, methods, making -/
namespace L2
open PySem PySem.Spec PyProof.Rows
section
variable {X : Cx} {CX : CXT} {k : Nat} {m : Str} {E : St → XK} {o e : Expr} {es : List Expr} {ta : TE} {t : TA} {pos apos : Pos} {G : Addr → Sp → Prop}
/-- nothing is raised -/
theorem passNo {P : Program} {w : World} (h1 : X.prog = P) (h2 : X.w = w) : Passes (L2.CX P w) X (fun _ _ _ => False) := fun _ _ _ _ _ _ _ ⟨_, _, _, _, _, _, _, _, _, _, _, _, f⟩ => f.elim
end
/-! ### a def of a class called by the class's name: C.m(self, ..) -/
section
variable {X : Cx} {CX : CXT} {k : Nat} {C f : Addr} {fd : FuncData} {ps : List Str} {sp : Sp} {E : St → XK} {x m : Str} {e : Expr} {es : List Expr} {t : TA} {p apos pos : Pos} {mc : Value}
structure CFun (K : PySem.W.Frag) (C f : Addr) (m : Str) : Prop where
  rd : PySem.W.readsIn K C (.type "type") = true
  ga : PySem.W.specialIn K (.ref C) "__getattribute__" = some (some (.builtin "type.__getattribute__"))
  at_ : PySem.W.findCls K (.ref C) (.type "type") m = some (.val (.ref f))
  kp : PySem.W.keepIn K (.ref f) = true
end
end L2
namespace ML
open PySem PySem.Spec L2
open PyProof.Rows hiding St
/-! ### what an instance holds -/
section
variable {X : Cx} {W : WX} {o e value : Expr} {es : List Expr} {pos pos' apos : Pos} {m mo mv : ME} {mas : MA} {f : Str}
/-- a method of a class: its promise -/
structure HasM (P : Program) (w : World) (K : PySem.W.Frag) (mg : Str → Option Value) (base : Heap) (C m : Str) (k : Nat) (sp : MSp) : Prop where
  ex : ∃ f fd ps, Cls K (He.ga K C) ∧ Meth K (He.ga K C) m f ∧ Binds K fd ps [] ∧ FnOk P w K mg base (L2.CX P w) k f fd ps (upSp K sp)
theorem HasM.mono {P : Program} {w : World} {K : PySem.W.Frag} {mg : Str → Option Value} {base : Heap} {C m : Str} {j k : Nat} {sp : MSp} (h : HasM P w K mg base C m j sp) (l : j ≤ k) : HasM P w K mg base C m k sp :=
  let ⟨f, fd, ps, a, b, c, d⟩ := h.ex
  ⟨f, fd, ps, a, b, c, d.mono l⟩
/-- C(..): a new instance, then __init__ -/
structure HasMk (P : Program) (w : World) (K : PySem.W.Frag) (mg : Str → Option Value) (base : Heap) (C : Str) (k : Nat) (sp : MSp) : Prop where
  ex : ∃ f fd ps, mg C = some (.ref (He.ga K C)) ∧ Mk K (He.ga K C) f ∧ Binds K fd ps [] ∧ FnOk P w K mg base (L2.CX P w) k f fd ps (upSp K sp)
theorem HasMk.mono {P : Program} {w : World} {K : PySem.W.Frag} {mg : Str → Option Value} {base : Heap} {C : Str} {j k : Nat} {sp : MSp} (h : HasMk P w K mg base C j sp) (l : j ≤ k) : HasMk P w K mg base C k sp :=
  let ⟨f, fd, ps, a, b, c, d⟩ := h.ex
  ⟨f, fd, ps, a, b, c, d.mono l⟩
/-- C.m(self, ..), by the class's name: read as a call -/
structure HasC (P : Program) (w : World) (K : PySem.W.Frag) (mg : Str → Option Value) (base : Heap) (C m : Str) (k : Nat) (sp : MSp) : Prop where
  ex : ∃ f fd ps, mg C = some (.ref (He.ga K C)) ∧ CFun K (He.ga K C) f m ∧ Binds K fd ps [] ∧ FnOk P w K mg base (L2.CX P w) k f fd ps (upSp K sp)
theorem HasC.mono {P : Program} {w : World} {K : PySem.W.Frag} {mg : Str → Option Value} {base : Heap} {C m : Str} {j k : Nat} {sp : MSp} (h : HasC P w K mg base C m j sp) (l : j ≤ k) : HasC P w K mg base C m k sp :=
  let ⟨f, fd, ps, a, b, c, d⟩ := h.ex
  ⟨f, fd, ps, a, b, c, d.mono l⟩
end
/-! ### how these open -/
/-! ### the head's facts, with defs called by a class's name -/
def cfunB (K : PySem.W.Frag) (p : Str × Str) : Bool := PySem.W.readsIn K (He.ga K p.1) (.type "type") && (decide (PySem.W.specialIn K (.ref (He.ga K p.1)) "__getattribute__" = some (some (.builtin "type.__getattribute__"))) && ((match PySem.W.findCls K (.ref (He.ga K p.1)) (.type "type") p.2 with
  | some (.val u) => decide (u = .ref (He.ma K (He.ga K p.1) p.2))
  | _ => false) && PySem.W.keepIn K (.ref (He.ma K (He.ga K p.1) p.2))))
def cfunsB (cs : List (Str × Str)) (K : PySem.W.Frag) : Bool := cs.all (cfunB K)
end ML
set_option maxRecDepth 100000
set_option maxHeartbeats 2000000
namespace ML
open PySem PySem.Spec L2
open PyProof.Rows hiding St
/-! ### what the written part tells of the classes -/
def oexB (K : PySem.W.Frag) (C : Addr) : Bool := (match K.lookup C with
  | some ⟨.type "type", _, .cls cd, sl⟩ => (match cd.mro, sl.toList with
    | .ref C' :: bm, [_, _, _, _, some (.builtin n), _] => C' == C && n == "ValueError.__new__" && !cd.hasDel && cd.hasDict && PySem.HandSPX.refsVE bm
    | _, _ => false)
  | _ => false) && (decide (PySem.W.findIn K (.ref C) "__setattr__" = some (some (.builtin "object.__setattr__"))) && (decide (PySem.W.subIn K (.ref C) (.type "BaseException") = some true) && (decide (PySem.W.typeIn K (.ref C) = some (.type "type")) && PySem.W.keepIn K (.ref C))))
theorem oexB_ok {K : PySem.W.Frag} {C : Addr} (h : oexB K C = true) : OexC K C := by
  unfold oexB at h
  simp only [Bool.and_eq_true, decide_eq_true_eq] at h
  obtain ⟨q, h2, h3, h4, h5⟩ := h
  refine ⟨?_, h2, h3, h4, h5⟩
  split at q
  · rename_i dd cd sl ho
    split at q
    · rename_i C' bm k0 k1 k2 k3 n k5 hm hs
      simp only [Bool.and_eq_true, beq_iff_eq, Bool.not_eq_true'] at q
      obtain ⟨⟨⟨⟨rfl, rfl⟩, hdel⟩, hdc⟩, ht⟩ := q
      obtain ⟨nm, bs, mro, ns, qn, hd, sn, sub, ab, col, del⟩ := cd
      dsimp only at hm hdel hdc
      subst hm hdel hdc
      have hsl : sl = #[k0, k1, k2, k3, some (.builtin "ValueError.__new__"), k5] := by
        obtain ⟨l⟩ := sl
        simp only at hs
        rw [hs]
      subst hsl
      exact ⟨nm, qn, ns, bs, bm, sn, sub, ab, col, dd, k0, k1, k2, k3, k5, ho, ht⟩
    · cases q
  · cases q
/-- an own exception with fields -/
def xinB1 (K : PySem.W.Frag) (x : Str × List Str) : Bool := oexB K (He.ga K x.1) && (xfB K (He.ga K x.1) && (x.2.all (fun f => decide (PySem.W.findIn K (.ref (He.ga K x.1)) f = some none)) && (decide (PySem.W.findIn K (.ref (He.ga K x.1)) "__init__" = some (some (.ref (He.ma K (He.ga K x.1) "__init__")))) && decide (PySem.W.typeIn K (.ref (He.ma K (He.ga K x.1) "__init__")) = some (.type "function")))))
def xinB (xs : List (Str × List Str)) (K : PySem.W.Frag) : Bool := xs.all (xinB1 K)
/-- what is known of an own exception with fields -/
structure XinC (K : PySem.W.Frag) (C f : Addr) (fs : List Str) : Prop where
  o : OexC K C
  x : XfC K C
  n : ∀ g ∈ fs, PySem.W.findIn K (.ref C) g = some none
  i : PySem.W.findIn K (.ref C) "__init__" = some (some (.ref f))
  t : PySem.W.typeIn K (.ref f) = some (.type "function")
theorem xinB_ok {K : PySem.W.Frag} {xs : List (Str × List Str)} (h : xinB xs K = true) (x : Str × List Str) (hx : x ∈ xs) : XinC K (He.ga K x.1) (He.ma K (He.ga K x.1) "__init__") x.2 := by
  have q := List.all_eq_true.mp h x hx
  unfold xinB1 at q
  simp only [Bool.and_eq_true, decide_eq_true_eq] at q
  obtain ⟨q1, q2, q3, q4, q5⟩ := q
  exact ⟨oexB_ok q1, xfB_ok q2, fun f hf => of_decide_eq_true (List.all_eq_true.mp q3 f hf), q4, q5⟩
end ML
set_option maxRecDepth 100000
set_option maxHeartbeats 2000000
/-! # the head's facts, over few addresses; tables of code objects -/
namespace ML
open PySem PySem.Spec L2
open PyProof.Rows hiding St
/-- what of an object is gone on to: a dict's values, a def's code and defaults, a class's names -/
def refsM (o : Obj) : List Addr := match o.data with
  | .func fd => He.refV fd.code ++ (He.refV fd.defaults ++ He.refV fd.kwdefaults)
  | .cls cd => [cd.ns]
  | .dict es _ => es.toList.flatMap fun e => He.refV e.val
  | _ => []
def layM (g : Addr → Option Obj) (as : List Addr) : List Addr := as.flatMap fun a => match g a with
  | some o => refsM o
  | none => []
def asM (g : Addr → Option Obj) : List Addr := mainGlobals :: cStatics :: (layM g [mainGlobals] ++ (layM g (layM g [mainGlobals]) ++ (layM g (layM g (layM g [mainGlobals])) ++ layM g (layM g (layM g (layM g [mainGlobals]))))))
/-! ### a def's table -/
structure LamOk (K : PySem.W.Frag) (h : Heap) (p : Str × Option Str) : Prop where
  tab : h.get? (tabA K p) = some { cls := .none, data := .fields #[] }
  no : K.lookup (tabA K p) = none
  hd : PySem.W.CodeHd h (codeA K p) (tabA K p)
def lamB (g : Addr → Option Obj) (K : PySem.W.Frag) (p : Str × Option Str) : Bool := (match g (tabA K p) with
  | some ⟨.none, none, .fields vs, sl⟩ => decide (vs.size = 0) && decide (sl.size = 0)
  | _ => false) && ((match K.lookup (tabA K p) with
  | none => true
  | some _ => false) && (match K.lookup (codeA K p) with
  | some ⟨.type "code", _, .fields vs, _⟩ => decide (vs[11]? = some (.ref (tabA K p))) && (decide (vs.getD 11 .none = .ref (tabA K p)) && ((match vs.getD 18 .none with
    | .str _ _ => true
    | _ => false) && ((match vs.getD 7 .none with
    | .int _ _ => true
    | _ => false) && ((match vs.getD 9 .none with
    | .bool _ => true
    | _ => false) && ((match vs.getD 10 .none with
    | .int _ _ => true
    | _ => false) && decide (codeA K p ≠ tabA K p))))))
  | _ => false))
theorem lamB_ok {h : Heap} {K : PySem.W.Frag} {p : Str × Option Str} (KX : K.In h) (e : lamB h.get? K p = true) : LamOk K h p := by
  unfold lamB at e
  obtain ⟨e1, e⟩ := Bool.and_eq_true_iff.mp e
  obtain ⟨e2, e3⟩ := Bool.and_eq_true_iff.mp e
  refine ⟨?_, ?_, ?_⟩
  · split at e1
    · next vs sl he =>
      obtain ⟨v0, s0⟩ := Bool.and_eq_true_iff.mp e1
      have v0 := Array.eq_empty_of_size_eq_zero (of_decide_eq_true v0)
      have s0 := Array.eq_empty_of_size_eq_zero (of_decide_eq_true s0)
      rw [he, v0, s0]
    · cases e1
  · split at e2
    · next he => exact he
    · cases e2
  · split at e3
    · next od vs sl he =>
      obtain ⟨f1, e3⟩ := Bool.and_eq_true_iff.mp e3
      obtain ⟨f2, e3⟩ := Bool.and_eq_true_iff.mp e3
      obtain ⟨f3, e3⟩ := Bool.and_eq_true_iff.mp e3
      obtain ⟨f4, e3⟩ := Bool.and_eq_true_iff.mp e3
      obtain ⟨f5, e3⟩ := Bool.and_eq_true_iff.mp e3
      obtain ⟨f6, f7⟩ := Bool.and_eq_true_iff.mp e3
      have g3 : ∃ a b, vs.getD 18 .none = .str a b := by split at f3 <;> first | exact ⟨_, _, by assumption⟩ | cases f3
      have g4 : ∃ a b, vs.getD 7 .none = .int a b := by split at f4 <;> first | exact ⟨_, _, by assumption⟩ | cases f4
      have g5 : ∃ a, vs.getD 9 .none = .bool a := by split at f5 <;> first | exact ⟨_, by assumption⟩ | cases f5
      have g6 : ∃ a b, vs.getD 10 .none = .int a b := by split at f6 <;> first | exact ⟨_, _, by assumption⟩ | cases f6
      obtain ⟨a3, b3, g3⟩ := g3
      obtain ⟨a4, b4, g4⟩ := g4
      obtain ⟨a5, g5⟩ := g5
      obtain ⟨a6, b6, g6⟩ := g6
      exact ⟨_, vs, a3, b3, a4, b4, a5, a6, b6, KX _ _ he, rfl, rfl, of_decide_eq_true f1, of_decide_eq_true f2, g3, g4, g5, g6, of_decide_eq_true f7⟩
    · cases e3
theorem LamOk.keeps {K : PySem.W.Frag} {h h' : Heap} {p : Str × Option Str} (x : LamOk K h p) (k : ∀ b o, h.get? b = some o → h'.get? b = some o) : LamOk K h' p := ⟨k _ _ x.tab, x.no, x.hd.keeps k⟩
/-! ### the Hook -/
def obsMK (fa : List He.Fa) (fn : List He.DefD) (ks : List String) (ts : List (Str × List Int)) (ns : List Str) (cs : List (Str × Str)) (xs : List (Str × List Str)) (ls : List (Str × Option Str)) (g : Addr → Option Obj) (K : PySem.W.Frag) : AlK × Bool :=
  (obsK fa fn ks K, ((tupsB ts K && (excsB ns K && cfunsB cs K)) && xinB xs K) && (ls.all (lamB g K) && decide (ls.map (tabA K)).Nodup))
def obsM (fa : List He.Fa) (fn : List He.DefD) (ks : List String) (ts : List (Str × List Int)) (ns : List Str) (cs : List (Str × Str)) (xs : List (Str × List Str)) (ls : List (Str × Option Str)) (g : Addr → Option Obj) : AlK × Bool :=
  obsMK fa fn ks ts ns cs xs ls g (He.frG g (asM g))
def hookM (fa : List He.Fa) (fn : List He.DefD) (ks : List String) (ts : List (Str × List Int)) (ns : List Str) (cs : List (Str × Str)) (xs : List (Str × List Str)) (ls : List (Str × Option Str)) : PySem.W.Hook where
  α := AlK × Bool
  obs := fun s => obsM fa fn ks ts ns cs xs ls s.heap.get?
  val := fun _ => ((He.valD fn, true), true)
  says := fun _ h => ∃ K : PySem.W.Frag, K.In h ∧ SaysK fa fn ks K ∧ ((tupsB ts K && (excsB ns K && cfunsB cs K)) && xinB xs K) = true ∧ (∀ p ∈ ls, LamOk K h p) ∧ (ls.map (tabA K)).Nodup
  of := fun _ s e => by
    have e2 := congrArg (fun z : AlK × Bool => z.2) e
    obtain ⟨e3, e4⟩ := Bool.and_eq_true_iff.mp (show (((tupsB ts _ && (excsB ns _ && cfunsB cs _)) && xinB xs _) && (ls.all (lamB s.heap.get? _) && decide (ls.map (tabA _)).Nodup)) = true from e2)
    obtain ⟨e4, e5⟩ := Bool.and_eq_true_iff.mp e4
    exact ⟨_, He.frG_in, ⟨congrArg (fun z : AlK × Bool => z.1.1) e, congrArg (fun z : AlK × Bool => z.1.2) e⟩, e3, fun p hp => lamB_ok He.frG_in (List.all_eq_true.mp e4 p hp), of_decide_eq_true e5⟩
  keeps := fun _ _ _ ⟨K, hK, c, d, l, nd⟩ k => ⟨K, PySem.W.Frag.In.keeps hK k, c, d, fun p hp => (l p hp).keeps k, nd⟩
theorem obsM_eq {fa : List He.Fa} {fn : List He.DefD} {ks : List String} {ts : List (Str × List Int)} {ns : List Str} {cs : List (Str × Str)} {xs : List (Str × List Str)} {ls : List (Str × Option Str)} {g : Addr → Option Obj} {s : Shared} (h : ∀ a, g a = s.heap.get? a) :
    obsM fa fn ks ts ns cs xs ls g = (hookM fa fn ks ts ns cs xs ls).obs s := by
  have e : g = s.heap.get? := funext h
  subst e; rfl
end ML
namespace Lk64
section
set_option maxRecDepth 100000
set_option maxHeartbeats 0
open PySem PySem.Spec L2 ML
open PyProof.Rows hiding St
def top (i : Nat) : Stmt := PySem.Challenge.pw_spotlook_k64_questions_and_answers_writt.main.body.getD i (.Pass ⟨0, 0, 0, 0⟩)
def clsM (s : Stmt) (j : Nat) : Stmt := match s with
  | .ClassDef _ _ _ body _ _ _ _ _ _ _ => body.getD j (.Pass ⟨0, 0, 0, 0⟩)
  | _ => .Pass ⟨0, 0, 0, 0⟩
abbrev s_NoText_init : Stmt := clsM (top 3) 0
abbrev s_divisor : Stmt := top 5
abbrev s_is_less : Stmt := top 11
abbrev s_show_fraction : Stmt := top 29
abbrev s_is_whole : Stmt := top 30
abbrev s_rows_in : Stmt := top 37
abbrev s_show_answers : Stmt := top 41
abbrev s_law_cell_at : Stmt := top 43
abbrev s_law_take : Stmt := top 44
abbrev s_law_low : Stmt := top 45
abbrev s_law_turn : Stmt := top 50
abbrev s_law_shown : Stmt := top 54
abbrev s_fraction : Stmt := top 6
abbrev s_is_ahead : Stmt := top 13
abbrev s_fraction_in : Stmt := top 31
abbrev s_show_spot : Stmt := top 35
abbrev s_law_number : Stmt := top 46
abbrev s_law_scale : Stmt := top 47
abbrev s_law_spot : Stmt := top 48
abbrev s_law_on : Stmt := top 51
abbrev s_law_rows : Stmt := top 55
abbrev s_plus : Stmt := top 7
abbrev s_less : Stmt := top 8
abbrev s_times : Stmt := top 9
abbrev s_over : Stmt := top 10
abbrev s_spot_in : Stmt := top 32
abbrev s_wall_rows : Stmt := top 36
abbrev s_law_made : Stmt := top 49
abbrev s_law_fair : Stmt := top 52
abbrev s_along : Stmt := top 14
abbrev s_crossed : Stmt := top 15
abbrev s_wall_in : Stmt := top 33
abbrev s_question_in : Stmt := top 34
abbrev s_show_questions : Stmt := top 39
abbrev s_law_shuts_here : Stmt := top 53
abbrev s_leaning : Stmt := top 16
abbrev s_spot_of_lines : Stmt := top 21
abbrev s_side_of : Stmt := top 17
abbrev s_lies_on : Stmt := top 18
abbrev s_meeting_in_line : Stmt := top 22
abbrev s_meeting : Stmt := top 23
abbrev s_is_fair : Stmt := top 24
abbrev s_unfair_with : Stmt := top 25
abbrev s_put_read : Stmt := top 38
abbrev s_read_questions : Stmt := top 40
abbrev s_law : Stmt := top 56
def mkD (x : Str) (s : Stmt) : He.DefD := ⟨(x, none), x, x, defArgs s, defBody s, defScope s, [], []⟩
def mkM (C m q : Str) (s : Stmt) : He.DefD := ⟨(C, some m), m, q, defArgs s, defBody s, defScope s, [], []⟩
def fn0 : List He.DefD := [mkD "divisor" s_divisor, mkD "is_less" s_is_less, mkD "show_fraction" s_show_fraction, mkD "is_whole" s_is_whole, mkD "rows_in" s_rows_in, mkD "show_answers" s_show_answers, mkD "_law_cell_at" s_law_cell_at, mkD "_law_take" s_law_take, mkD "_law_low" s_law_low, mkD "_law_turn" s_law_turn, mkD "_law_shown" s_law_shown, mkD "fraction" s_fraction, mkD "is_ahead" s_is_ahead, mkD "fraction_in" s_fraction_in, mkD "show_spot" s_show_spot, mkD "_law_number" s_law_number, mkD "_law_scale" s_law_scale, mkD "_law_spot" s_law_spot, mkD "_law_on" s_law_on, mkD "_law_rows" s_law_rows, mkD "plus" s_plus, mkD "less" s_less, mkD "times" s_times, mkD "over" s_over, mkD "spot_in" s_spot_in, mkD "wall_rows" s_wall_rows, mkD "_law_made" s_law_made, mkD "_law_fair" s_law_fair, mkD "along" s_along, mkD "crossed" s_crossed]
def fn1 : List He.DefD := [mkD "wall_in" s_wall_in, mkD "question_in" s_question_in, mkD "show_questions" s_show_questions, mkD "_law_shuts_here" s_law_shuts_here, mkD "leaning" s_leaning, mkD "spot_of_lines" s_spot_of_lines, mkD "side_of" s_side_of, mkD "lies_on" s_lies_on, mkD "meeting_in_line" s_meeting_in_line, mkD "meeting" s_meeting, mkD "is_fair" s_is_fair, mkD "unfair_with" s_unfair_with, mkD "put_read" s_put_read, mkD "read_questions" s_read_questions, mkD "law" s_law, mkM "NoText" "__init__" "NoText.__init__" s_NoText_init]
def fn : List He.DefD := fn0 ++ fn1
def fa0 : List He.Fa := [.glo "divisor", .glo "is_less", .glo "show_fraction", .glo "is_whole", .glo "rows_in", .glo "show_answers", .glo "_law_cell_at", .glo "_law_take", .glo "_law_low", .glo "_law_turn", .glo "_law_shown", .glo "fraction", .glo "is_ahead", .glo "fraction_in", .glo "show_spot", .glo "_law_number", .glo "_law_scale", .glo "_law_spot", .glo "_law_on", .glo "_law_rows", .glo "plus", .glo "less", .glo "times", .glo "over", .glo "spot_in", .glo "wall_rows", .glo "_law_made", .glo "_law_fair", .glo "along", .glo "crossed"]
def fa1 : List He.Fa := [.glo "wall_in", .glo "question_in", .glo "show_questions", .glo "_law_shuts_here", .glo "leaning", .glo "spot_of_lines", .glo "side_of", .glo "lies_on", .glo "meeting_in_line", .glo "meeting", .glo "is_fair", .glo "unfair_with", .glo "put_read", .glo "read_questions", .glo "law", .free "abs", .free "all", .free "enumerate", .free "int", .free "isinstance", .free "len", .free "list", .free "max", .free "min", .free "range", .free "str", .free "tuple", .str "FIGURES" "0123456789", .int "MOST_FIGURES" 30, .int "MOST_WALLS" 40]
def fa2 : List He.Fa := [.glo "NoText"]
def fa : List He.Fa := fa0 ++ fa1 ++ fa2
abbrev names : List Str := (["SpotError", "NoFraction", "NoText", "divisor", "fraction", "plus", "less", "times", "over", "is_less", "is_ahead", "along", "crossed", "leaning", "side_of", "lies_on", "MOST_WALLS", "spot_of_lines", "meeting_in_line", "meeting", "is_fair", "unfair_with", "FIGURES", "MOST_FIGURES", "show_fraction", "is_whole", "fraction_in", "spot_in", "wall_in", "question_in"] : List Str) ++ (["show_spot", "wall_rows", "rows_in", "put_read", "show_questions", "read_questions", "show_answers", "_law_cell_at", "_law_take", "_law_low", "_law_number", "_law_scale", "_law_spot", "_law_made", "_law_turn", "_law_on", "_law_fair", "_law_shuts_here", "_law_shown", "_law_rows"] : List Str)
abbrev R : PySem.W.OpenRow := PySem.W.OpenLaw.row PySem.Challenge.rw_spotlook_k64_questions_and_answers_writt
abbrev hk : PySem.W.Hook := hookM fa fn ["tuple", "list"] [] [] [] [("NoText", ["row"])] []
def ob (s : PySem.W.SharedT) : AlK × Bool := obsM fa fn ["tuple", "list"] [] [] [] [("NoText", ["row"])] [] (HandSHeadRun.getT s)
theorem ob_eq (s : PySem.W.SharedT) : ob s = hk.obs s.abs := obsM_eq (HandSHeadRun.getT_eq s)
theorem run (w : World) : HandSHeadRun.RunEq R (PySem.W.view R.prog [56]) hk ob 3640 names w := by
  intro os
  kernel_rfl
end
end Lk64
set_option maxRecDepth 100000
/-! # list(range(i, j)); sorted of pairs of numbers, any length, any sign -/
namespace ML
open PySem PySem.Spec L2
open PyProof.Rows hiding St
/-! ### sorted of pairs -/
end ML
set_option maxRecDepth 100000
/-! # a number in range(n) -/
namespace L2
open PySem PySem.Spec PyProof.Rows
end L2
namespace ML
open PySem PySem.Spec L2
open PyProof.Rows hiding St
end ML
set_option maxRecDepth 100000
set_option maxHeartbeats 1000000
/-! # zip of two lists with ONE name as target: the name keeps the pair told last, so each turn makes a new one -/
namespace PySem
open Sem (wp)
end PySem
namespace L2
open PySem PySem.Spec PyProof.Rows
end L2
namespace ML
open PySem PySem.Spec L2
open PyProof.Rows hiding St
end ML
set_option maxRecDepth 100000
/-! # a slice of a tuple, the whole of it too -/
namespace ML
open PySem PySem.Spec L2
end ML
set_option maxRecDepth 100000
/-! # sorted(set(a list of numbers)), any number of them -/
namespace L2
open PySem PySem.Spec PyProof.Rows
end L2
namespace ML
open PySem PySem.Spec L2
end ML
set_option maxRecDepth 100000
set_option maxHeartbeats 4000000
/-! # sorted(.., key=lambda x: ..) of numbers, the lambda's body a field or a captured name, read at two places -/
namespace L2
open PySem PySem.Spec PyProof.Rows
/-! ### reading names, fields, items: nothing of the heap is changed -/
section
variable {P : Program} {w : World} {A : Around} {env : Env} {h : Heap} {K : PySem.W.Frag} {H : Hp}
/-- e is gone through without any change; what comes of it is so -/
def Pu (P : Program) (w : World) (A : Around) (env : Env) (h : Heap) (e : Expr) (R : Value → Prop) : Prop :=
  ∀ (s : Shared) (Q E : Value → Shared → Prop), s.heap = h → (∀ u tk, R u → Q u { s with toks := tk }) → wpAny (model P w) A (eval e env) Q E s
end
/-! ### sorted(x, key=f) -/
/-! ### the lambda's names and its body -/
/-- a key that can be read: a number, a pair of numbers -/
def KeyV (K : PySem.W.Frag) (H : Hp) (z : V) (d : PyData) : Prop := (∃ i, z = .int i ∧ d = .int i) ∨ ∃ t i j, z = .ref t ∧ SqT K H t [.int i, .int j] ∧ d = .tuple [.int i, .int j]
/-- b[n][0] reads as d -/
structure KeyB (K : PySem.W.Frag) (H : Hp) (b : V) (n : Int) (d : PyData) : Prop where
  ex : ∃ (p r : Addr) (xs ys : List V) (i : Nat) (z : V), b = .ref p ∧ n = (i : Int) ∧ (SqL K H p xs ∨ SqT K H p xs) ∧ xs[i]? = some (.ref r) ∧ (SqL K H r ys ∨ SqT K H r ys) ∧ ys[0]? = some z ∧ KeyV K H z d
/-- what stands at the slot's field, or in the slot -/
def BaseV (K : PySem.W.Frag) (H : Hp) (σ : St) (iy : Nat) (fld : Option (Str × Pos)) (b : V) : Prop := match fld with
  | none => σ[iy]? = some (some b)
  | some (f, _) => ∃ a C dx fs, σ[iy]? = some (some (.ref a)) ∧ H a = some (.ins C dx fs) ∧ Cls K C ∧ NoAttr K C f ∧ fs.lookup f = some b
section
variable {P : Program} {w : World} {A : Around} {env : Env} {h : Heap} {K : PySem.W.Frag} {H H' : Hp}
open LamX (ExtN)
theorem extN_rd (e : ExtN H H') {a : Addr} {u : HO} (n : ∀ ps, u ≠ .tbl ps) (r : Rd H a u) : Rd H' a u := by
  rcases r with r | ⟨o, r⟩
  · exact .inl (e _ _ r n)
  · exact .inr ⟨o, e _ _ r (fun ps z => by cases z)⟩
theorem extN_l (e : ExtN H H') {a : Addr} {xs : List V} (r : SqL K H a xs) : SqL K H' a xs := r.elim (fun r => .inl (extN_rd e (fun ps z => by cases z) r)) .inr
theorem extN_t (e : ExtN H H') {a : Addr} {xs : List V} (r : SqT K H a xs) : SqT K H' a xs := r.elim (fun r => .inl (extN_rd e (fun ps z => by cases z) r)) .inr
theorem KeyV.ext (e : ExtN H H') {z : V} {d : PyData} (h : KeyV K H z d) : KeyV K H' z d := h.imp id fun ⟨t, i, j, a, b, c⟩ => ⟨t, i, j, a, extN_t e b, c⟩
theorem KeyB.ext (e : ExtN H H') {b : V} {n : Int} {d : PyData} (h : KeyB K H b n d) : KeyB K H' b n d := by
  obtain ⟨p, r, xs, ys, i, z, h1, h2, h3, h4, h5, h6, h7⟩ := h.ex
  exact ⟨p, r, xs, ys, i, z, h1, h2, h3.imp (extN_l e) (extN_t e), h4, h5.imp (extN_l e) (extN_t e), h6, h7.ext e⟩
theorem BaseV.ext (e : ExtN H H') {σ : St} {iy : Nat} {fld : Option (Str × Pos)} {b : V} (h : BaseV K H σ iy fld b) : BaseV K H' σ iy fld b := by
  unfold BaseV at *
  split at h
  · exact h
  · obtain ⟨a, C, dx, fs, h1, h2, h3⟩ := h
    exact ⟨a, C, dx, fs, h1, e _ _ h2 (fun ps z => by cases z), h3⟩
theorem Pu.mono {e : Expr} {R R' : Value → Prop} (p : Pu P w A env h e R) (k : ∀ u, R u → R' u) : Pu P w A env h e R' := fun s Q E e2 q => p s Q E e2 fun u tk r => q u tk (k u r)
end
section
variable {X : Cx} {e : Expr} {params : Arguments} {body : Expr} {scope : Scope} {c Pt : Addr} {x y : Str} {iy k : Nat} {fld : Option (Str × Pos)}
open LamX (ExtN TabB CodeO)
open ML (TabG)
/-- all but the table at P is kept -/
def ExtP (P : Addr) (H H' : Hp) : Prop := ∀ b o, b ≠ P → H b = some o → H' b = some o
theorem ExtP.n {P : Addr} {q : Str} {G : Addr → Prop} {H H' : Hp} (e : ExtP P H H') (t : TabG H P q G) : ExtN H H' := fun b o h n => e b o (fun z => by
  obtain ⟨ps, hp, _⟩ := t
  rw [z, hp] at h
  exact n ps (Option.some.inj h).symm) h
variable {te : TE} {p pos lpos kp py px pc p1 p2 : Pos} {j : Nat}
end
end L2
namespace ML
open PySem PySem.Spec L2
open PyProof.Rows hiding St
/-! ### the same over the store -/
end ML
set_option maxRecDepth 100000
set_option maxHeartbeats 2000000
/-! # defs in which a lambda is made; a law's end with the tables of such defs -/
namespace ML
open PySem PySem.Spec L2
open PyProof.Rows hiding St
end ML
set_option maxRecDepth 100000
set_option maxHeartbeats 2000000
/-! # max(.., default=..) of numbers; reversed(..) gone along; len of a dict -/
namespace ML
open PySem PySem.Spec L2
open PyProof.Rows hiding St
end ML
set_option maxRecDepth 100000
set_option maxHeartbeats 2000000
/-! # exceptions with fields -/
namespace PySem.W
open PySem PySem.Spec PySem.Calls PyProof.Rows
end PySem.W
namespace L2
open PySem PySem.Spec PyProof.Rows
/-! ### __init__ of an own exception, which puts its fields one behind the other -/
def flds {α : Type} (fs : List Str) (ys : List α) : List (Str × α) := (fs.zip ys).reverse
def spX (C : Addr) (fs : List Str) : Sp := fun vs H Q _ => ∃ (a : Addr) (ys : List V), vs = .ref a :: ys ∧ ys.length = fs.length ∧ H a = some (exo a C none) ∧
  ∀ H2 d, H d = none → d ≠ a → H2 a = some (exo a C (some d)) → H2 d = some (exd d (flds fs ys)) → (∀ b, b ≠ a → b ≠ d → H2 b = H b) → Q .non H2
theorem fn_xi1 {P : Program} {w : World} {K : PySem.W.Frag} {mg : Str → Option Value} {base : Heap} {x qual : Str} {st : Stmt} {f C : Addr} {fd : FuncData} {u v g : Str} {k : Nat}
    (F : FunD K x qual (defArgs st) (defBody st) (defScope st) [] [] f fd) (S : FnScope [u, v] [u, v] (defScope st)) (T : OexC K C) (hno : PySem.W.findIn K (.ref C) g = some none)
    (hbody : ∀ (cdv : Value) (A : Around) (outer : List Env) (s : Shared) (H : Hp) (E : XK), PSs (ML.cxM P w K mg base [u, v] qual st f cdv A outer s H E) (defBody st) (tOst K g (tVar 0) (tVar 1))) :
    FnOk P w K mg base (L2.CX P w) (k + 1) f fd [u, v] (spX C [g]) := by
  refine F.ok S (fun vs H Q E ⟨a, ys, e, l, _⟩ => by rw [e, List.length_cons, l]; rfl) fun cdv A outer s H vs Q E hr hsp => ?_
  refine ⟨_, hbody cdv A outer s H E, ?_⟩
  obtain ⟨a, ys, rfl, hl, ha, k⟩ := hsp
  match ys, hl with
  | [y], _ =>
    refine ⟨y, rfl, .ref a, rfl, a, C, rfl, T, hno, .inl ⟨ha, fun dx hdx ne => k _ dx hdx ne upd_same ?_ fun b h1 h2 => ?_⟩⟩
    · rw [upd_ne ne, upd_same]; rfl
    · rw [upd_ne h1, upd_ne h2]
end L2
namespace ML
open PySem PySem.Spec L2
open PyProof.Rows hiding St
/-- an own exception with fields may be made -/
structure HasX (P : Program) (w : World) (K : PySem.W.Frag) (mg : Str → Option Value) (base : Heap) (C : Str) (k : Nat) (fs : List Str) : Prop where
  ex : ∃ f fd ps, mg C = some (.ref (He.ga K C)) ∧ OexC K (He.ga K C) ∧ PySem.W.findIn K (.ref (He.ga K C)) "__init__" = some (some (.ref f)) ∧ PySem.W.typeIn K (.ref f) = some (.type "function") ∧ Binds K fd ps [] ∧ FnOk P w K mg base (L2.CX P w) k f fd ps (spX (He.ga K C) fs)
theorem HasX.mono {P : Program} {w : World} {K : PySem.W.Frag} {mg : Str → Option Value} {base : Heap} {C : Str} {j k : Nat} {fs : List Str} (h : HasX P w K mg base C j fs) (l : j ≤ k) : HasX P w K mg base C k fs :=
  let ⟨f, fd, ps, a, b, c, d, e, g⟩ := h.ex
  ⟨f, fd, ps, a, b, c, d, e, g.mono l⟩
theorem rds_flds {K : PySem.W.Frag} {H : Hp} {S : Sto} : ∀ {fs : List Str} {vs : List V} {ds : List D}, RDs K H S vs ds → RKs K H S (fs.zip vs) (fs.zip ds)
  | [], _, _, _ => .nil
  | _ :: _, _, _, .nil => .nil
  | _ :: _, _, _, .cons r rr => .cons r (rds_flds rr)
theorem RKs.app {K : PySem.W.Frag} {H : Hp} {S : Sto} : ∀ {xs : List (Str × V)} {ds : List (Str × D)} {ys : List (Str × V)} {es : List (Str × D)}, RKs K H S xs ds → RKs K H S ys es → RKs K H S (xs ++ ys) (ds ++ es)
  | _, _, _, _, .nil, h => h
  | _, _, _, _, .cons r rr, h => .cons r (RKs.app rr h)
theorem RKs.rev {K : PySem.W.Frag} {H : Hp} {S : Sto} : ∀ {xs : List (Str × V)} {ds : List (Str × D)}, RKs K H S xs ds → RKs K H S xs.reverse ds.reverse
  | _, _, .nil => .nil
  | _, _, .cons r rr => by
    rw [List.reverse_cons, List.reverse_cons]
    exact RKs.app (RKs.rev rr) (.cons r .nil)
/-- raise C(e, ..) -/
def mRaiseF (C : Str) (fs : List Str) (t : MA) : MS := fun De σ S => t σ S (fun ds S1 => ds.length = fs.length ∧ ds.length ≤ 1000 ∧ De.ex ⟨C, some (flds fs ds)⟩ σ S1) (xAt De σ)
section
variable {X : Cx} {W : WX} {e : Expr} {es : List Expr} {pos : Pos} {mas : MA} {m : ME}
theorem sraiseF {C : Str} {k : Nat} {fs : List Str} {p pos' : Pos} (hx : HasX X.prog X.w X.K X.mg X.base C k fs) (hr : Room (k + 1) X.A) (hc : X.calm = true) (tk : Takes X W) (ha : PA X (e :: es) (upA X.K W mas)) (hg : Gl X C := by rfl)
    (hdb : (C == ("__debug__" : Str)) = false := by decide) (he : starEach (e :: es) X.env = (false, eval e X.env) :: starEach es X.env := by rfl) (hpl : (backTo pos (starEach es X.env)).any (·.1) = false := by rfl) :
    PS X (.Raise (some (.Call (.Name C p) (e :: es) [] pos)) none pos') (upS X.K W (mRaiseF C fs mas)) := by
  obtain ⟨f, fd, ps, hm, T, iC, tI, hb, G⟩ := hx.ex
  refine L2.PS.to (ps_raise hc tk (pmk_oex T iC tI G hr hb .nil (passNo rfl rfl) hg hm ha hdb he hpl)) fun D σ H ⟨m, S, Dm, h1, h2, h3, h4⟩ => ?_
  refine ⟨m, S, _, _, h1, h2, h3, fun ds S1 vs H1 q1 e1 s1 r1 => ?_, xAt_ref h1 h4.ex⟩
  obtain ⟨hl, hz, q⟩ := q1
  have lv := r1.length
  refine ⟨by omega, fun a ha => ?_⟩
  rw [List.append_nil]
  refine ⟨a, vs, rfl, by omega, upd_same, fun H2 d hd ne e2 e3 e4 => ⟨rfl, d, flds fs vs, e2, e3, by rw [upd_ne ne] at hd; exact hd, ?_⟩⟩
  have hd1 : H1 d = none := by rw [upd_ne ne] at hd; exact hd
  have eH : upd (L2.del H2 a) d (.xd (flds fs vs)) = upd H1 d (.xd (flds fs vs)) := by
    funext b
    by_cases h : b = d
    · rw [h, upd_same, upd_same]
    · rw [upd_ne h, upd_ne h]
      by_cases h' : b = a
      · rw [h', L2.del_same, ha]
      · rw [L2.del_ne h', e4 b h' h, upd_ne h']
  rw [eH]
  have E1 := Ext.new (u := .xd (flds fs vs)) s1 hd1
  refine h4.ex ⟨C, some (flds fs ds)⟩ m S1 _ (some d) σ _ q (e1.trans E1) (s1.new hd1) (h1.ext (e1.trans E1)) ⟨rfl, d, flds fs vs, rfl, upd_same, s1.fresh hd1, ?_⟩
  exact (RKs.rev (rds_flds r1)).ext E1
end
end ML
set_option maxRecDepth 100000
set_option maxHeartbeats 1000000
/-! # texts: str(n), int(text), f'..', split, partition, join, slices, signs -/
namespace ML
open PySem PySem.Spec L2
open PyProof.Rows hiding St
def strI (i : Int) : Str := Str.ofString (toString i)
section
variable {X : Cx} {W : WX} {o e f a b : Expr} {es : List Expr} {pos p apos cpos : Pos} {m mo mi ma mb : ME}
/-- str(n) -/
def bStrI : List D → Sto → MQ → Prop := fun ds S Q => match ds with
  | [.int i] => i.natAbs.log2 < 1920 ∧ Q (.str (strI i)) S
  | _ => False
theorem cl_strI : CaL X.K (fun xs H Q => ∃ i, xs = [.int i] ∧ i.natAbs.log2 < 1920 ∧ Q (.str (toString i)) H) bStrI := by
  intro H S xs ds Qm Q s r h k
  unfold bStrI at h
  split at h
  · next i =>
    obtain ⟨v, rfl, r1⟩ := rds1 r
    cases r1
    exact ⟨i, rfl, h.1, k _ S _ H h.2 Ext.refl s (.str _)⟩
  · exact h.elim
/-- int(text) -/
def bIntS : List D → Sto → MQ → Prop := fun ds S Q => match ds with
  | [.str x] => ∃ n, PySem.intText? x = some n ∧ x.length ≤ 640 ∧ Q (.int n) S
  | _ => False
theorem cl_intS : CaL X.K (fun xs H Q => ∃ a n, xs = [.str a] ∧ PySem.intText? a = some n ∧ a.length ≤ 640 ∧ Q (.int n) H) bIntS := by
  intro H S xs ds Qm Q s r h k
  unfold bIntS at h
  split at h
  · next x =>
    obtain ⟨v, rfl, r1⟩ := rds1 r
    cases r1
    obtain ⟨n, h1, h2, h3⟩ := h
    exact ⟨x, n, rfl, h1, h2, k _ S _ H h3 Ext.refl s (.int _)⟩
  · exact h.elim
theorem rds_strs {K : PySem.W.Frag} {H : Hp} {S : Sto} : ∀ ys : List Str, RDs K H S (ys.map V.str) (ys.map D.str)
  | [] => .nil
  | y :: ys => .cons (.str y) (rds_strs ys)
theorem strs_rds {K : PySem.W.Frag} {H : Hp} {S : Sto} : ∀ {vs : List V} {ys : List Str}, RDs K H S vs (ys.map D.str) → vs = ys.map V.str
  | _, [], .nil => rfl
  | _, y :: ys, .cons r rs => by cases r; rw [strs_rds rs]; rfl
/-- a method of a text with one argument -/
def mTx1 (rm : Str → D → Sto → MQ → Prop) (mo mi : ME) : ME := fun σ S Q E => mo σ S (fun d S1 => match d with
  | .str x => mi σ S1 (fun y S2 => rm x y S2 Q) E
  | _ => False) E
def Tx1L (K : PySem.W.Frag) (r : V → List V → Hp → VK → Prop) (rm : Str → D → Sto → MQ → Prop) : Prop := ∀ (H : Hp) (S : Sto) (x : Str) (v : V) (d : D) (Qm : MQ) (Q : VK), RSto K H S → RD K H S v d → rm x d S Qm → Ref K H S Qm Q → r (.str x) [v] H Q
theorem etx1 {r : V → List V → Hp → VK → Prop} {rm : Str → D → Sto → MQ → Prop} {t : Expr} (hl : Tx1L X.K r rm) (hp : ∀ {to te : TE}, PE X o to → PE X e te → PE X t (tM1 r to te)) (ho : PE X o (upE X.K W mo)) (he : PE X e (upE X.K W mi)) : PE X t (upE X.K W (mTx1 rm mo mi)) :=
  (hp ho he).to fun σ H Q ⟨m, S, Qm, Em, h1, h2, h3, h4, h5⟩ => ⟨m, S, _, Em, h1, h2, h3, fun d S1 v H1 q1 e1 s1 r1 => by
    dsimp only at q1
    split at q1
    · next x =>
      cases r1
      exact ⟨⟨x, rfl⟩, m, S1, _, Em, h1.ext e1, s1, q1, fun y S2 w H2 q2 e2 s2 r2 => hl H2 S2 x w y Qm Q s2 r2 q2 (h4.ext (e1.trans e2)), h5.ext e1⟩
    · exact q1.elim, h5⟩
/-- x.split(y), a list that stays -/
def rmSplit (x : Str) (d : D) (S : Sto) (Q : MQ) : Prop := match d with
  | .str y => ((y.length == 0) = false ∧ x.length + 2 ≤ sizeLine) ∧ Q (.lst ((Txt.split x y).map .str)) S
  | _ => False
theorem tl_split : Tx1L X.K (fun x xs H Q => ∃ a b, x = .str a ∧ xs = [.str b] ∧ (b.length == 0) = false ∧ a.length + 2 ≤ sizeLine ∧ rNewStrs (Txt.split a b) H Q) rmSplit := by
  intro H S x v d Qm Q s r h k
  unfold rmSplit at h
  split at h
  · next y =>
    cases r
    exact ⟨x, y, rfl, rfl, h.1.1, h.1.2, fun p hp => k _ S _ _ h.2 (Ext.new s hp) (s.new hp) (.lst upd_same (s.fresh hp) (rds_strs _))⟩
  · exact h.elim
theorem esplit (ho : PE X o (upE X.K W mo)) (he : PE X e (upE X.K W mi)) (hs : starEach [e] X.env = [(false, eval e X.env)] := by rfl) (hb : attributeBase o "split" X.env (eval o X.env) = eval o X.env := by rfl) (hl : (apos.endLine == pos.line) = true := by rfl) :
    PE X (.Call (.Attribute o "split" apos) [e] [] pos) (upE X.K W (mTx1 rmSplit mo mi)) := etx1 tl_split (fun h1 h2 => pe_split h1 h2 hs hb hl) ho he
/-- x.partition(y) -/
def rmPart (x : Str) (d : D) (S : Sto) (Q : MQ) : Prop := match d with
  | .str y => ((y.length == 0) = false ∧ x.length ≤ sizeLine) ∧ Q (.tup [.str (Txt.partition x y).1, .str (Txt.partition x y).2.1, .str (Txt.partition x y).2.2]) S
  | _ => False
theorem tl_part : Tx1L X.K (fun x xs H Q => ∃ a b, x = .str a ∧ xs = [.str b] ∧ (b.length == 0) = false ∧ a.length ≤ sizeLine ∧
      ∀ p, H p = none → Q (.ref p) (upd H p (.tup [.str (Txt.partition a b).1, .str (Txt.partition a b).2.1, .str (Txt.partition a b).2.2]))) rmPart := by
  intro H S x v d Qm Q s r h k
  unfold rmPart at h
  split at h
  · next y =>
    cases r
    exact ⟨x, y, rfl, rfl, h.1.1, h.1.2, fun p hp => k _ S _ _ h.2 (Ext.new s hp) (s.new hp) (.tup (.inl upd_same) (s.fresh hp) (.cons (.str _) (.cons (.str _) (.cons (.str _) .nil))))⟩
  · exact h.elim
theorem epart (ho : PE X o (upE X.K W mo)) (he : PE X e (upE X.K W mi)) (hs : starEach [e] X.env = [(false, eval e X.env)] := by rfl) (hb : attributeBase o "partition" X.env (eval o X.env) = eval o X.env := by rfl) (hl : (apos.endLine == pos.line) = true := by rfl) :
    PE X (.Call (.Attribute o "partition" apos) [e] [] pos) (upE X.K W (mTx1 rmPart mo mi)) := etx1 tl_part (fun h1 h2 => pe_partition h1 h2 hs hb hl) ho he
/-- x.join(list of texts) -/
def rmJoin (x : Str) (d : D) (S : Sto) (Q : MQ) : Prop := ∃ ys : List Str, seqOf S d = some (ys.map .str) ∧ (ys.map (·.length)).sum + ys.length * x.length ≤ 16777216 ∧ Q (.str (Txt.join x ys)) S
theorem tl_join : Tx1L X.K (fun x xs H Q => ∃ a p, ∃ ys : List Str, x = .str a ∧ xs = [.ref p] ∧ (SqL X.K H p (ys.map V.str) ∨ SqT X.K H p (ys.map V.str)) ∧
      (ys.map (·.length)).sum + ys.length * a.length ≤ 16777216 ∧ Q (.str (Txt.join a ys)) H) rmJoin := by
  intro H S x v d Qm Q s r ⟨ys, h1, h2, h3⟩ k
  obtain ⟨a, vs, rfl, hq, rs⟩ := seq_sq s r h1
  rw [strs_rds rs] at hq
  exact ⟨x, a, ys, rfl, rfl, hq, h2, k _ S _ H h3 Ext.refl s (.str _)⟩
theorem ejoin (ho : PE X o (upE X.K W mo)) (he : PE X e (upE X.K W mi)) (hs : starEach [e] X.env = [(false, eval e X.env)] := by rfl) (hb : attributeBase o "join" X.env (eval o X.env) = eval o X.env := by rfl) (hl : (apos.endLine == pos.line) = true := by rfl) :
    PE X (.Call (.Attribute o "join" apos) [e] [] pos) (upE X.K W (mTx1 rmJoin mo mi)) := etx1 tl_join (fun h1 h2 => pe_join h1 h2 hs hb hl) ho he
/-! ### f'..' -/
def mFmt (m : ME) : ME := fun σ S Q E => m σ S (fun d S1 => match d with
  | .str y => y.length ≤ sizeLine ∧ Q (.str y) S1
  | .int i => i.natAbs.log2 < 1920 ∧ Q (.str (strI i)) S1
  | _ => False) E
theorem efmt {p1 : Pos} (he : PE X e (upE X.K W m)) : PE X (.FormattedValue e (-1) none p1) (upE X.K W (mFmt m)) :=
  (pe_fmt he).to fun σ H Q ⟨m, S, Qm, Em, h1, h2, h3, h4, h5⟩ => ⟨m, S, _, Em, h1, h2, h3, fun d S1 v H1 q1 e1 s1 r1 => by
    dsimp only at q1
    split at q1
    · next y => cases r1; exact .inl ⟨y, rfl, q1.1, h4 _ S1 _ H1 q1.2 e1 s1 (.str _)⟩
    · next i => cases r1; exact .inr ⟨i, rfl, q1.1, h4 _ S1 _ H1 q1.2 e1 s1 (.str _)⟩
    · exact q1.elim, h5⟩
def mJns : List ME → Str → MSt → Sto → (Str → Sto → Prop) → MXQ → Prop
  | [], acc, _, S, Q, _ => Q acc S
  | m :: ms, acc, σ, S, Q, E => m σ S (fun d S1 => match d with
    | .str y => (acc ++ y).length ≤ sizeLine ∧ mJns ms (acc ++ y) σ S1 Q E
    | _ => False) E
def mJoined (ms : List ME) : ME := fun σ S Q E => mJns ms Str.empty σ S (fun out S1 => Q (.str out) S1) E
inductive PJm (X : Cx) (W : WX) : List Expr → List ME → Prop where
  | nil : PJm X W [] []
  | cons {e : Expr} {m : ME} {es : List Expr} {ms : List ME} (h : PE X e (upE X.K W m)) (r : PJm X W es ms) : PJm X W (e :: es) (m :: ms)
theorem PJm.pj {es : List Expr} {ms : List ME} (h : PJm X W es ms) : PJ X es (ms.map fun m => upE X.K W m) := by
  induction h with
  | nil => exact .nil
  | cons h _ ih => exact .cons h ih
theorem jns_to {W : WX} {σ : L2.St} {Em : MXQ} : ∀ (ms : List ME) (acc : Str) (mσ : MSt) (H : Hp) (S : Sto) (Qm : Str → Sto → Prop) (Q : Str → Hp → Prop), RSt X.K H S σ mσ → RSto X.K H S → mJns ms acc mσ S Qm Em →
    (∀ out S' H', Qm out S' → Ext H S H' S' → RSto X.K H' S' → Q out H') → RefX X.K H S Em (fun c d H' => W c d σ H') → tJs (ms.map fun m => upE X.K W m) acc σ H Q
  | [], acc, mσ, H, S, Qm, Q, _, s, h, k, _ => k acc S H h Ext.refl s
  | m :: ms, acc, mσ, H, S, Qm, Q, r, s, h, k, x => by
    refine ⟨mσ, S, _, Em, r, s, h, fun d S1 v H1 q1 e1 s1 r1 => ?_, x⟩
    dsimp only at q1
    split at q1
    · next y =>
      cases r1
      exact ⟨y, rfl, q1.1, jns_to ms _ mσ H1 S1 Qm Q (r.ext e1) s1 q1.2 (fun out S' H' q e s' => k out S' H' q (e1.trans e) s') (x.ext e1)⟩
    · exact q1.elim
theorem ejoined {v1 v2 : Expr} {rest : List Expr} {m1 m2 : ME} {ms : List ME} (h : PJm X W (v1 :: v2 :: rest) (m1 :: m2 :: ms)) : PE X (.JoinedStr (v1 :: v2 :: rest) pos) (upE X.K W (mJoined (m1 :: m2 :: ms))) :=
  (pe_joined h.pj).to fun σ H Q ⟨m, S, Qm, Em, h1, h2, h3, h4, h5⟩ => jns_to _ Str.empty m H S _ _ h1 h2 h3 (fun out S' H' q e s' => h4 _ S' _ H' q e s' (.str _)) h5
/-! ### x[lo:hi], x[i], sign in x, signs of x -/
def mCutS (m : ME) (lo hi : MO') : ME := fun σ S Q E => m σ S (fun d S1 => lo σ S1 (fun l S2 => hi σ S2 (fun u S3 => match d with
  | .str z => z.length ≤ sizeLine ∧ Q (.str (cutS z l u)) S3
  | _ => False) E) E) E
theorem ecutS {lo hi : Option Expr} {ml mh : MO'} {p2 : Pos} (he : PE X e (upE X.K W m)) (hl : PO X lo (upO X.K W ml)) (hu : PO X hi (upO X.K W mh)) : PE X (.Subscript e (.Slice lo hi none p2) pos) (upE X.K W (mCutS m ml mh)) :=
  (pe_slice sl_str he hl hu).to fun σ H Q ⟨m, S, Qm, Em, h1, h2, h3, h4, h5⟩ => ⟨m, S, _, Em, h1, h2, h3, fun d S1 v H1 q1 e1 s1 r1 => ⟨m, S1, _, Em, h1.ext e1, s1, q1, fun l S2 H2 q2 e2 s2 => ⟨m, S2, _, Em, h1.ext (e1.trans e2), s2, q2, fun u S3 H3 q3 e3 s3 => by
    split at q3
    · next z =>
      cases r1
      exact ⟨z, rfl, q3.1, h4 _ S3 _ _ q3.2 ((e1.trans e2).trans e3) s3 (.str _)⟩
    · exact q3.elim, h5.ext (e1.trans e2)⟩, h5.ext e1⟩, h5⟩
def rIxT' : R2m := fun d e S Q => match d, e with
  | .str z, .int i => ∃ c, (z.length ≤ sizeLine ∧ atI z.cps.toList i = some c) ∧ Q (.str ⟨#[c]⟩) S
  | _, _ => False
theorem ol_ixS : OpL X.K rIxS rIxT' := fun H S x y d e Qm Q s rx ry h k => by
  unfold rIxT' at h
  split at h
  · next z i =>
    cases rx; cases ry
    obtain ⟨c, ⟨h1, h2⟩, h3⟩ := h
    exact ⟨z, i, c, rfl, rfl, h1, h2, k _ S _ H h3 Ext.refl s (.str _)⟩
  · exact h.elim
theorem eixS (ha : PE X a (upE X.K W ma)) (hb : PE X b (upE X.K W mb)) (hs : PlainIx b := by exact fun _ _ => rfl) : PE X (.Subscript a b pos) (upE X.K W (mOp rIxT' ma mb)) := (pe_ix ix_str ha hb hs).to (op_to ol_ixS)
def rInS (neg : Bool) : R2m := fun d e S Q => match d, e with
  | .str x, .str z => ∃ c, x = ⟨#[c]⟩ ∧ Q (.bl (if neg then !decide (c ∈ z.cps.toList) else decide (c ∈ z.cps.toList))) S
  | _, _ => False
theorem ol_inS : OpL X.K (fun x y H Q => ∃ (c : Nat) (z : Str), x = .str ⟨#[c]⟩ ∧ y = .str z ∧ Q (.bl (decide (c ∈ z.cps.toList))) H) (rInS false) := fun H S x y d e Qm Q s rx ry h k => by
  unfold rInS at h
  split at h
  · next x z =>
    cases rx; cases ry
    obtain ⟨c, rfl, h⟩ := h
    exact ⟨c, z, rfl, rfl, k _ S _ H h Ext.refl s (.bl _)⟩
  · exact h.elim
def iStrM (m : ME) : MI := fun σ S R E => m σ S (fun d S1 => match d with
  | .str x => R (x.cps.toList.map fun c => D.str ⟨#[c]⟩) (fun _ => True) S1
  | _ => False) E
theorem isStr {tg : Expr} (he : PE X e (upE X.K W m)) : PI X tg e (upI X.K W (iStrM m)) :=
  PI.to (pi_str he) fun σ H R ⟨m, S, Rm, Em, h1, h2, h3, h4, h5⟩ => ⟨m, S, _, Em, h1, h2, h3, fun d S1 v H1 q1 e1 s1 r1 => by
    dsimp only at q1
    split at q1
    · next x =>
      cases r1
      refine ⟨x, rfl, h4 _ _ S1 _ H1 q1 e1 s1 ⟨fun i H S _ _ _ hi => ?_, fun i H S v H' d' _ s _ hd hy => ?_, fun i H S _ _ _ hi => ?_⟩⟩
      · show i < x.cps.size
        rw [List.length_map, Array.length_toList] at hi; exact hi
      · obtain ⟨rfl, c, hc, rfl⟩ := hy
        refine ⟨Ext.refl, s, ?_⟩
        rw [List.getElem?_map, Array.getElem?_toList, hc] at hd
        cases hd
        exact .str _
      · show x.cps.size ≤ i
        rw [List.length_map, Array.length_toList] at hi; exact hi
    · exact q1.elim, h5⟩
end
theorem l_bStrI {i : Int} {S : Sto} {Q : MQ} : bStrI [.int i] S Q = (i.natAbs.log2 < 1920 ∧ Q (.str (strI i)) S) := Eq.trans rfl rfl
def IntSP (x : Str) (S : Sto) [Q : Hold MQ] : Prop := ∃ n, PySem.intText? x = some n ∧ x.length ≤ 640 ∧ Q.v (.int n) S
theorem l_bIntS {x : Str} {S : Sto} {Q : MQ} : bIntS [.str x] S Q = @IntSP x S ⟨Q⟩ := Eq.trans rfl rfl
theorem l_mTx1 {rm : Str → D → Sto → MQ → Prop} {mo mi : ME} {σ : MSt} {S : Sto} {Q : MQ} {E : MXQ} : mTx1 rm mo mi σ S Q E = mo σ S (fun d S1 => match d with
  | .str x => mi σ S1 (fun y S2 => rm x y S2 Q) E
  | _ => False) E := Eq.trans rfl rfl
theorem l_rmSplit {x y : Str} {S : Sto} {Q : MQ} : rmSplit x (.str y) S Q = (((y.length == 0) = false ∧ x.length + 2 ≤ sizeLine) ∧ Q (.lst ((Txt.split x y).map .str)) S) := Eq.trans rfl rfl
theorem l_rmPart {x y : Str} {S : Sto} {Q : MQ} : rmPart x (.str y) S Q = (((y.length == 0) = false ∧ x.length ≤ sizeLine) ∧ Q (.tup [.str (Txt.partition x y).1, .str (Txt.partition x y).2.1, .str (Txt.partition x y).2.2]) S) := Eq.trans rfl rfl
def JoinP (x : Str) (d : D) (S : Sto) [Q : Hold MQ] : Prop := ∃ ys : List Str, seqOf S d = some (ys.map .str) ∧ (ys.map (·.length)).sum + ys.length * x.length ≤ 16777216 ∧ Q.v (.str (Txt.join x ys)) S
theorem l_rmJoin {x : Str} {d : D} {S : Sto} {Q : MQ} : rmJoin x d S Q = @JoinP x d S ⟨Q⟩ := Eq.trans rfl rfl
theorem l_mFmt {m : ME} {σ : MSt} {S : Sto} {Q : MQ} {E : MXQ} : mFmt m σ S Q E = m σ S (fun d S1 => match d with
  | .str y => y.length ≤ sizeLine ∧ Q (.str y) S1
  | .int i => i.natAbs.log2 < 1920 ∧ Q (.str (strI i)) S1
  | _ => False) E := Eq.trans rfl rfl
theorem l_mJoined {ms : List ME} {σ : MSt} {S : Sto} {Q : MQ} {E : MXQ} : mJoined ms σ S Q E = mJns ms Str.empty σ S (fun out S1 => Q (.str out) S1) E := Eq.trans rfl rfl
theorem l_mJns_nil {acc : Str} {σ : MSt} {S : Sto} {Q : Str → Sto → Prop} {E : MXQ} : mJns [] acc σ S Q E = Q acc S := Eq.trans rfl rfl
theorem l_mJns_cons {m : ME} {ms : List ME} {acc : Str} {σ : MSt} {S : Sto} {Q : Str → Sto → Prop} {E : MXQ} : mJns (m :: ms) acc σ S Q E = m σ S (fun d S1 => match d with
    | .str y => (acc ++ y).length ≤ sizeLine ∧ mJns ms (acc ++ y) σ S1 Q E
    | _ => False) E := Eq.trans rfl rfl
theorem l_mCutS {m : ME} {lo hi : MO'} {σ : MSt} {S : Sto} {Q : MQ} {E : MXQ} : mCutS m lo hi σ S Q E = m σ S (fun d S1 => lo σ S1 (fun l S2 => hi σ S2 (fun u S3 => match d with
  | .str z => z.length ≤ sizeLine ∧ Q (.str (cutS z l u)) S3
  | _ => False) E) E) E := Eq.trans rfl rfl
def IxTP (z : Str) (i : Int) (S : Sto) [Q : Hold MQ] : Prop := ∃ c, (z.length ≤ sizeLine ∧ atI z.cps.toList i = some c) ∧ Q.v (.str ⟨#[c]⟩) S
theorem l_rIxT {z : Str} {i : Int} {S : Sto} {Q : MQ} : rIxT' (.str z) (.int i) S Q = @IxTP z i S ⟨Q⟩ := Eq.trans rfl rfl
theorem l_rInS {neg : Bool} {c : Nat} {z : Str} {S : Sto} {Q : MQ} : rInS neg (.str ⟨#[c]⟩) (.str z) S Q = Q (.bl (if neg then !decide (c ∈ z.cps.toList) else decide (c ∈ z.cps.toList))) S := by
  show (∃ c', (⟨#[c]⟩ : Str) = ⟨#[c']⟩ ∧ Q (.bl (if neg then !decide (c' ∈ z.cps.toList) else decide (c' ∈ z.cps.toList))) S) = _
  refine propext ⟨fun ⟨c', e, h⟩ => ?_, fun h => ⟨c, rfl, h⟩⟩
  have : c = c' := by
    have := congrArg Str.cps e
    simpa using this
  rw [this]; exact h
theorem l_iStrM {m : ME} {σ : MSt} {S : Sto} {R : List D → (Sto → Prop) → Sto → Prop} {E : MXQ} : iStrM m σ S R E = m σ S (fun d S1 => match d with
  | .str x => R (x.cps.toList.map fun c => D.str ⟨#[c]⟩) (fun _ => True) S1
  | _ => False) E := Eq.trans rfl rfl
def rNeS : R2m := fun d e S Q => match d, e with
  | .str x, .str y => Q (.bl (!decide (x = y))) S
  | _, _ => False
theorem ol_neS {X : Cx} : OpL X.K (fun x y H Q => rNe x y H Q ∨ rNeD X.K x y H Q) rNeS := fun H S x y d e Qm Q s rx ry h k => by
  cases d with
  | str x =>
    cases e with
    | str y =>
      cases rx; cases ry
      refine .inl ⟨rfl, ?_⟩
      have : decide (V.str x = V.str y) = decide (x = y) := by simp
      rw [this]
      exact k _ S _ H h Ext.refl s (.bl _)
    | _ => exact h.elim
  | _ => exact h.elim
theorem l_rNeS {x y : Str} {S : Sto} {Q : MQ} : rNeS (.str x) (.str y) S Q = Q (.bl (!decide (x = y))) S := Eq.trans rfl rfl
end ML
namespace FL
open PySem PySem.Spec L2 ML
/-- a fraction in lowest terms, as the program writes it -/
def fr (q : Rat) : D := .tup [.int q.num, .int (q.den : Nat)]
abbrev Pt := Rat × Rat
def spD (s : Pt) : D := .tup [fr s.1, fr s.2]
abbrev Wl := Pt × Pt
def wlD (w : Wl) : D := .tup [spD w.1, spD w.2]
/-- how many bits top and bottom need -/
def sz (q : Rat) : Nat := max q.num.natAbs.log2 q.den.log2 + 1
def SzS (n : Nat) (s : Pt) : Prop := sz s.1 ≤ n ∧ sz s.2 ≤ n
def ahead (a b : Pt) : Prop := a.1 < b.1 ∨ (a.1 = b.1 ∧ a.2 < b.2)
instance : DecidableRel ahead := fun a b => by unfold ahead; infer_instance
def alng (w : Wl) : Pt := (w.2.1 - w.1.1, w.2.2 - w.1.2)
def crs (u v : Pt) : Rat := u.1 * v.2 - u.2 * v.1
def sgn (q : Rat) : Int := if 0 < q then 1 else if q < 0 then -1 else 0
def side (w : Wl) (s : Pt) : Int := sgn (crs (alng w) (alng (w.1, s)))
def liesOn (w : Wl) (s : Pt) : Prop := ¬ ahead s w.1 ∧ ¬ ahead w.2 s ∧ side w s = 0
instance : Decidable (liesOn w s) := by unfold liesOn; infer_instance
def spansW (w : Wl) (s : Pt) : Prop := ¬ ahead s w.1 ∧ ahead s w.2
instance : Decidable (spansW w s) := by unfold spansW; infer_instance
/-- a law's row: the cell and how many were taken -/
def rowO (c n : Int) : MO := .lst [.int c, .int n]
def sp_cell_at : MSp := fun ds S Q _ => ∃ (ns : List Int) (k : Nat), ds = [.scr (ns.map .int), .int k] ∧ ∀ c : Int, Q (.int c) S
def sp_take : MSp := fun ds S Q _ => ∃ (p : Addr) (c : Int) (n : Nat) (z : Int), ds = [.ref p, .int z] ∧ S p = some (rowO c n) ∧ 0 < z ∧ z < 2 ^ 200 ∧ n < 2 ^ 60 ∧ ∀ r c' : Int, 0 ≤ r → r < z → Q (.int r) (put S p (rowO c' (n + 1 : Nat)))
def sp_low : MSp := fun ds S Q _ => ∃ t b : Int, ds = [.int t, .int b] ∧ b ≠ 0 ∧ b.natAbs.log2 < 9000 ∧ Q (fr (Rat.divInt t b)) S
def sp_divisor : MSp := fun ds S Q _ => ∃ a b : Nat, ds = [.int a, .int b] ∧ Q (.int (Nat.gcd a b : Nat)) S
def two (f : Rat → Rat → Rat) : MSp := fun ds S Q _ => ∃ p q : Rat, ds = [fr p, fr q] ∧ sz p + sz q < 8000 ∧ Q (fr (f p q)) S
abbrev sp_plus : MSp := two (· + ·)
abbrev sp_less : MSp := two (· - ·)
abbrev sp_times : MSp := two (· * ·)
def sp_over : MSp := fun ds S Q _ => ∃ p q : Rat, ds = [fr p, fr q] ∧ sz p + sz q < 8000 ∧ q ≠ 0 ∧ Q (fr (p / q)) S
abbrev sp_law_less : MSp := two (· - ·)
def sp_is_less : MSp := fun ds S Q _ => ∃ p q : Rat, ds = [fr p, fr q] ∧ sz p + sz q < 8000 ∧ Q (.bl (decide (p < q))) S
def sp_is_ahead : MSp := fun ds S Q _ => ∃ a b : Pt, ds = [spD a, spD b] ∧ (∃ n, SzS n a ∧ SzS n b ∧ n < 4000) ∧ Q (.bl (decide (ahead a b))) S
def sp_along : MSp := fun ds S Q _ => ∃ w : Wl, ds = [wlD w] ∧ (∃ n, SzS n w.1 ∧ SzS n w.2 ∧ n < 4000) ∧ Q (spD (alng w)) S
def sp_crossed : MSp := fun ds S Q _ => ∃ u v : Pt, ds = [spD u, spD v] ∧ (∃ n, SzS n u ∧ SzS n v ∧ n < 1900) ∧ Q (fr (crs u v)) S
def sp_leaning : MSp := fun ds S Q _ => ∃ u v : Pt, ds = [spD u, spD v] ∧ (∃ n, SzS n u ∧ SzS n v ∧ n < 1900) ∧ Q (.int (sgn (crs u v))) S
def sp_side_of : MSp := fun ds S Q _ => ∃ (w : Wl) (s : Pt), ds = [wlD w, spD s] ∧ (∃ n, SzS n w.1 ∧ SzS n w.2 ∧ SzS n s ∧ n < 900) ∧ Q (.int (side w s)) S
def sp_lies_on : MSp := fun ds S Q _ => ∃ (w : Wl) (s : Pt), ds = [wlD w, spD s] ∧ (∃ n, SzS n w.1 ∧ SzS n w.2 ∧ SzS n s ∧ n < 900) ∧ Q (.bl (decide (liesOn w s))) S
def sp_spans : MSp := fun ds S Q _ => ∃ (w : Wl) (s : Pt), ds = [wlD w, spD s] ∧ (∃ n, SzS n w.1 ∧ SzS n w.2 ∧ SzS n s ∧ n < 4000) ∧ Q (.bl (decide (spansW w s))) S
/-! ### bits -/
theorem sz_pos (q : Rat) : 1 ≤ sz q := by unfold sz; omega
theorem sz_num (q : Rat) : q.num.natAbs < 2 ^ sz q := by
  unfold sz
  exact Nat.lt_of_lt_of_le Nat.lt_log2_self (Nat.pow_le_pow_right (by decide) (by omega))
theorem sz_den (q : Rat) : q.den < 2 ^ sz q := by
  unfold sz
  exact Nat.lt_of_lt_of_le Nat.lt_log2_self (Nat.pow_le_pow_right (by decide) (by omega))
theorem log2_lt' {a n : Nat} (h : a < 2 ^ n) (hn : 0 < n) : a.log2 < n := by
  by_cases z : a = 0
  · subst z; simpa using hn
  · exact (Nat.log2_lt z).mpr h
theorem log2_mono {a b : Nat} (h : a ≤ b) : a.log2 ≤ b.log2 := by
  have := log2_lt' (Nat.lt_of_le_of_lt h (Nat.lt_log2_self (n := b))) (by omega)
  omega
theorem sz_le {q : Rat} {n : Nat} (hn : 0 < n) (h1 : q.num.natAbs < 2 ^ n) (h2 : q.den < 2 ^ n) : sz q ≤ n := by
  have := log2_lt' h1 hn
  have := log2_lt' h2 hn
  unfold sz; omega
theorem sz_divInt {t b : Int} {n : Nat} (hn : 0 < n) (h1 : t.natAbs < 2 ^ n) (h2 : b.natAbs < 2 ^ n) : sz (Rat.divInt t b) ≤ n := by
  refine sz_le hn ?_ ?_
  · rw [Rat.num_divInt, Int.natAbs_ediv_of_dvd]
    · refine Nat.lt_of_le_of_lt (Nat.div_le_self _ _) ?_
      rw [Int.natAbs_mul]
      rcases Int.lt_trichotomy b 0 with h | h | h
      · rw [Int.sign_eq_neg_one_of_neg h]; simpa using h1
      · subst h; simp; exact Nat.two_pow_pos n
      · rw [Int.sign_eq_one_of_pos h]; simpa using h1
    · exact Int.dvd_mul_of_dvd_right (Int.gcd_dvd_right ..)
  · rw [Rat.den_divInt]
    split
    · exact Nat.one_lt_two_pow (by omega)
    · exact Nat.lt_of_le_of_lt (Nat.div_le_self _ _) h2
theorem natAbs_mul_lt {i j : Int} {a b : Nat} (h1 : i.natAbs < 2 ^ a) (h2 : j.natAbs < 2 ^ b) : (i * j).natAbs < 2 ^ (a + b) := by
  rw [Int.natAbs_mul, Nat.pow_add]
  exact Nat.mul_lt_mul'' h1 h2
theorem natAbs_add_lt {i j : Int} {a : Nat} (h1 : i.natAbs < 2 ^ a) (h2 : j.natAbs < 2 ^ a) : (i + j).natAbs < 2 ^ (a + 1) := by
  rw [Nat.pow_succ]; omega
theorem den_abs (q : Rat) : ((q.den : Nat) : Int).natAbs < 2 ^ sz q := by simpa using sz_den q
theorem sz_add (p q : Rat) : sz (p + q) ≤ sz p + sz q + 1 := by
  rw [Rat.add_def', ← Rat.divInt_ofNat]
  refine sz_divInt (by omega) (natAbs_add_lt (natAbs_mul_lt (sz_num p) (den_abs q)) ?_) ?_
  · rw [Nat.add_comm (sz p)]; exact natAbs_mul_lt (sz_num q) (den_abs p)
  · rw [Int.natCast_mul]; exact Nat.lt_of_lt_of_le (natAbs_mul_lt (den_abs p) (den_abs q)) (Nat.pow_le_pow_right (by decide) (by omega))
theorem sz_neg (p : Rat) : sz (-p) = sz p := by simp [sz]
theorem sz_sub (p q : Rat) : sz (p - q) ≤ sz p + sz q + 1 := by
  rw [Rat.sub_eq_add_neg]
  have := sz_add p (-q)
  rwa [sz_neg] at this
theorem sz_mul (p q : Rat) : sz (p * q) ≤ sz p + sz q := by
  rw [Rat.mul_def', ← Rat.divInt_ofNat]
  have := sz_pos p
  refine sz_divInt (by omega) (natAbs_mul_lt (sz_num p) (sz_num q)) ?_
  · rw [Int.natCast_mul]; exact natAbs_mul_lt (den_abs p) (den_abs q)
theorem div_eq (p q : Rat) : p / q = Rat.divInt (p.num * q.den) (p.den * q.num) := by
  rw [Rat.div_def, Rat.inv_def, ← Rat.divInt_mul_divInt, Rat.num_divInt_den]
theorem sz_div (p q : Rat) : sz (p / q) ≤ sz p + sz q := by
  rw [div_eq]
  have := sz_pos p
  exact sz_divInt (by omega) (natAbs_mul_lt (sz_num p) (den_abs q)) (natAbs_mul_lt (den_abs p) (sz_num q))
theorem ok_nn {p q : Rat} (h : sz p + sz q ≤ 100000) : IntMulOk p.num q.num := by
  have := sz_pos p; have := sz_pos q
  exact mulok_w (sz_num p) (sz_num q) (by omega) (by omega) (by omega)
theorem ok_nd {p q : Rat} (h : sz p + sz q ≤ 100000) : IntMulOk p.num (q.den : Nat) := by
  have := sz_pos p; have := sz_pos q
  exact mulok_w (sz_num p) (den_abs q) (by omega) (by omega) (by omega)
theorem ok_dd {p q : Rat} (h : sz p + sz q ≤ 100000) : IntMulOk (p.den : Nat) (q.den : Nat) := by
  have := sz_pos p; have := sz_pos q
  exact mulok_w (den_abs p) (den_abs q) (by omega) (by omega) (by omega)
theorem ok_dn {p q : Rat} (h : sz p + sz q ≤ 100000) : IntMulOk (p.den : Nat) q.num := by
  have := sz_pos p; have := sz_pos q
  exact mulok_w (den_abs p) (sz_num q) (by omega) (by omega) (by omega)
theorem cp {i j : Int} (h : 0 ≤ j ∧ j ≤ 1000000 ∧ i.natAbs < 2 ^ 64 := by decide) : CPow i j := h
theorem den_ne (q : Rat) : ((q.den : Nat) : Int) ≠ 0 := by have := q.den_nz; omega
theorem ahead_irrefl (a : Pt) : ¬ ahead a a := by unfold ahead; grind
theorem ahead_asymm {a b : Pt} (h : ahead a b) : ¬ ahead b a := by unfold ahead at *; grind
theorem ahead_trans {a b c : Pt} (h : ahead a b) (h2 : ahead b c) : ahead a c := by unfold ahead at *; grind
theorem ahead_tri (a b : Pt) : ahead a b ∨ a = b ∨ ahead b a := by
  obtain ⟨a1, a2⟩ := a
  obtain ⟨b1, b2⟩ := b
  unfold ahead
  simp only [Prod.mk.injEq]
  grind
theorem tup_fr {q : Rat} : D.tup [.int q.num, .int (q.den : Nat)] = fr q := Eq.trans rfl rfl
theorem tup_sp {a b : Rat} : D.tup [fr a, fr b] = spD (a, b) := Eq.trans rfl rfl
theorem tup_wl {a b : Pt} : D.tup [spD a, spD b] = wlD (a, b) := Eq.trans rfl rfl
theorem tyD_fr {S : Sto} {q : Rat} : tyD S (fr q) = some "tuple" := Eq.trans rfl rfl
theorem tyD_sp {S : Sto} {s : Pt} : tyD S (spD s) = some "tuple" := Eq.trans rfl rfl
theorem tyD_wl {S : Sto} {w : Wl} : tyD S (wlD w) = some "tuple" := Eq.trans rfl rfl
theorem isN_fr {q : Rat} : isN (fr q) = false := Eq.trans rfl rfl
theorem isN_sp {s : Pt} : isN (spD s) = false := Eq.trans rfl rfl
theorem isN_wl {w : Wl} : isN (wlD w) = false := Eq.trans rfl rfl
theorem lenD_sp {S : Sto} {s : Pt} : lenD S (spD s) = some 2 := Eq.trans rfl rfl
theorem lenD_wl {S : Sto} {s : Wl} : lenD S (wlD s) = some 2 := Eq.trans rfl rfl
theorem rAdd_wl_tup {w : Wl} {ds : List D} {S : Sto} {Q : MQ} : rAdd (wlD w) (.tup ds) S Q = ((([spD w.1, spD w.2] : List D) ≠ [] ∧ 2 + ds.length ≤ sizeLine) ∧ Q (.tup (spD w.1 :: spD w.2 :: ds)) S) := Eq.trans rfl rfl
theorem tupOf_fr {q : Rat} : tupOf (fr q) = some [.int q.num, .int (q.den : Nat)] := Eq.trans rfl rfl
theorem tupOf_sp {s : Pt} : tupOf (spD s) = some [fr s.1, fr s.2] := Eq.trans rfl rfl
theorem tupOf_wl {w : Wl} : tupOf (wlD w) = some [spD w.1, spD w.2] := Eq.trans rfl rfl
theorem gTp_at {n : Nat} {gs : MGs} {d : D} {σ : MSt} {S : Sto} {Q : MSt → Sto → Prop} {E : MXQ} : gTp n gs d σ S Q E = match tupOf d with
  | some ds => ds.length = n ∧ gs ds σ S Q E
  | none => False := by cases d <;> rfl
theorem sgn_num (q : Rat) : ((if 0 < q.num then 1 else 0) - if q.num < 0 then 1 else 0 : Int) = sgn q := by
  have h1 : 0 < q.num ↔ 0 < q := by rw [Rat.lt_iff]; simp
  have h2 : q.num < 0 ↔ q < 0 := by rw [Rat.lt_iff]; simp
  unfold sgn
  simp only [← h1, ← h2]
  by_cases a : 0 < q.num
  · rw [if_pos a, if_pos a, if_neg (by omega)]; rfl
  · by_cases b : q.num < 0
    · rw [if_neg a, if_neg a, if_pos b, if_pos b]; rfl
    · rw [if_neg a, if_neg a, if_neg b, if_neg b]; rfl
/-! ### walking over fractions, spots, walls -/
theorem nz0 : (0 : Int) + ((0 : Nat) : Int) = 0 := rfl
theorem nz1 : (0 : Int) + ((1 : Nat) : Int) = 1 := rfl
theorem nz2 : (0 : Int) + ((2 : Nat) : Int) = 2 := rfl
theorem nz3 : (0 : Int) + ((3 : Nat) : Int) = 3 := rfl
theorem seqOf_tup {S : Sto} {ds : List D} : seqOf S (.tup ds) = some ds := Eq.trans rfl rfl
theorem seqOf_lst {S : Sto} {ds : List D} : seqOf S (.lst ds) = some ds := Eq.trans rfl rfl
theorem seqOf_scr {S : Sto} {ds : List D} : seqOf S (.scr ds) = some ds := Eq.trans rfl rfl
theorem seqOf_ref {S : Sto} {p : Addr} : seqOf S (.ref p) = lstOf S (.ref p) := Eq.trans rfl rfl
theorem look_non {S : Sto} : look S .non = .non := Eq.trans rfl rfl
theorem look_int {S : Sto} {i : Int} : look S (.int i) = .int i := Eq.trans rfl rfl
theorem look_bl {S : Sto} {i : Bool} : look S (.bl i) = .bl i := Eq.trans rfl rfl
theorem look_str {S : Sto} {i : Str} : look S (.str i) = .str i := Eq.trans rfl rfl
theorem look_tup {S : Sto} {ds : List D} : look S (.tup ds) = .tup ds := Eq.trans rfl rfl
theorem look_lst {S : Sto} {ds : List D} : look S (.lst ds) = .lst ds := Eq.trans rfl rfl
theorem look_scr {S : Sto} {ds : List D} : look S (.scr ds) = .scr ds := Eq.trans rfl rfl
theorem look_ref {S : Sto} {p : Addr} {ds : List D} (h : S p = some (.lst ds)) : look S (.ref p) = .lst ds := by simp only [look, h]
theorem seqOf_fr {S : Sto} {q : Rat} : seqOf S (fr q) = some [.int q.num, .int (q.den : Nat)] := Eq.trans rfl rfl
theorem seqOf_sp {S : Sto} {s : Pt} : seqOf S (spD s) = some [fr s.1, fr s.2] := Eq.trans rfl rfl
theorem seqOf_wl {S : Sto} {w : Wl} : seqOf S (wlD w) = some [spD w.1, spD w.2] := Eq.trans rfl rfl
theorem look_fr {S : Sto} {q : Rat} : look S (fr q) = fr q := Eq.trans rfl rfl
theorem look_sp {S : Sto} {s : Pt} : look S (spD s) = spD s := Eq.trans rfl rfl
theorem look_wl {S : Sto} {w : Wl} : look S (wlD w) = wlD w := Eq.trans rfl rfl
theorem plain_fr (q : Rat) : D.plain (fr q) = true := by simp [fr, D.plain, D.plains]
theorem plain_sp (s : Pt) : D.plain (spD s) = true := by simp [spD, D.plain, D.plains, plain_fr]
theorem plain_wl (w : Wl) : D.plain (wlD w) = true := by simp [wlD, D.plain, D.plains, plain_sp]
theorem dep_fr (q : Rat) : D.dep (fr q) = 1 := by simp [fr, D.dep, D.deps]
theorem dep_sp (s : Pt) : D.dep (spD s) = 2 := by simp [spD, D.dep, D.deps, dep_fr]
theorem dep_wl (w : Wl) : D.dep (wlD w) = 3 := by simp [wlD, D.dep, D.deps, dep_sp]
theorem eqOk_of {d e : D} (h1 : D.plain d = true) (h2 : D.plain e = true) (h3 : D.dep d ≤ 64) (h4 : D.dep e ≤ 64) : eqOk d e = true := by
  unfold eqOk
  split
  · rfl
  · simp [h1, h2, h3, h4]
theorem eqOk_fr {p q : Rat} : eqOk (fr p) (fr q) = true := eqOk_of (plain_fr p) (plain_fr q) (by rw [dep_fr]; decide) (by rw [dep_fr]; decide)
theorem eqOk_sp {p q : Pt} : eqOk (spD p) (spD q) = true := eqOk_of (plain_sp p) (plain_sp q) (by rw [dep_sp]; decide) (by rw [dep_sp]; decide)
theorem eqOk_wl {p q : Wl} : eqOk (wlD p) (wlD q) = true := eqOk_of (plain_wl p) (plain_wl q) (by rw [dep_wl]; decide) (by rw [dep_wl]; decide)
theorem fr_inj {p q : Rat} : fr p = fr q ↔ p = q := by
  constructor
  · intro h
    simp only [fr, D.tup.injEq, List.cons.injEq, D.int.injEq, and_true] at h
    exact Rat.ext h.1 (by omega)
  · rintro rfl; rfl
theorem deq_fr {p q : Rat} : D.deq (fr p) (fr q) = decide (p = q) := by
  simp only [fr, D.deq, D.deqs, Bool.and_true]
  rw [Bool.eq_iff_iff]
  simp only [Bool.and_eq_true, beq_iff_eq, decide_eq_true_eq]
  exact ⟨fun ⟨a, b⟩ => Rat.ext a (by omega), fun h => by subst h; exact ⟨rfl, rfl⟩⟩
theorem deq_sp {p q : Pt} : D.deq (spD p) (spD q) = decide (p = q) := by
  simp only [spD, D.deq, D.deqs, Bool.and_true, deq_fr]
  rw [Bool.eq_iff_iff]
  simp only [Bool.and_eq_true, decide_eq_true_eq]
  exact ⟨fun ⟨a, b⟩ => Prod.ext a b, fun h => by subst h; exact ⟨rfl, rfl⟩⟩
theorem deq_wl {p q : Wl} : D.deq (wlD p) (wlD q) = decide (p = q) := by
  simp only [wlD, D.deq, D.deqs, Bool.and_true, deq_sp]
  rw [Bool.eq_iff_iff]
  simp only [Bool.and_eq_true, decide_eq_true_eq]
  exact ⟨fun ⟨a, b⟩ => Prod.ext a b, fun h => by subst h; exact ⟨rfl, rfl⟩⟩
end FL
set_option maxRecDepth 100000
namespace FL
open PySem PySem.Spec L2 ML
def b_cell_at : MS := (mSeq (mIfS (mTst (mOp aLt (mVar 1) (mBlt bLen (mCons (mVar 0) mNil)))) (mRet (mOp rIxM (mVar 0) (mVar 1))) mNext)
  (mRet (mC (.int 0))))
def b_take : MS := (mSeq (mAsg (mOp rAdd (mOp rIxM (mVar 0) (mC (.int 1))) (mC (.int 1))) (gSb (mVar 0) (mC (.int 1))))
  (mSeq (mIfS (mTst (mOp aGe (mOp rIxM (mVar 0) (mC (.int 0))) (mOp rPow (mC (.int 10)) (mC (.int 18))))) (mSeq (mSet 2 (mOp rSub (mOp rIxM (mVar 0) (mC (.int 0))) (mOp rPow (mC (.int 10)) (mC (.int 18)))))
  (mSeq (mAsg (mOp rAdd (mOp rPow (mC (.int 10)) (mC (.int 18))) (mOp rDiv (mVar 2) (mVar 1))) (gSb (mVar 0) (mC (.int 0))))
  (mRet (mOp rMod (mVar 2) (mVar 1))))) mNext)
  (mSeq (mSet 3 (mOp rMod (mOp rAdd (mOp rAdd (mOp rAdd (mOp rMul (mOp rIxM (mVar 0) (mC (.int 0))) (mC (.int 40692))) (mOp rMul (mOp rMul (mC (.int 104729)) (mOp rIxM (mVar 0) (mC (.int 1)))) (mOp rIxM (mVar 0) (mC (.int 1))))) (mOp rMul (mC (.int 31)) (mOp rIxM (mVar 0) (mC (.int 1))))) (mC (.int 5))) (mC (.int 2147483399))))
  (mSeq (mSet 3 (mOp rMod (mOp rAdd (mOp rAdd (mOp rMul (mVar 3) (mVar 3)) (mOp rMul (mC (.int 48271)) (mVar 3))) (mOp rIxM (mVar 0) (mC (.int 1)))) (mC (.int 2147483647))))
  (mRet (mOp rMod (mOp rDiv (mVar 3) (mC (.int 7))) (mVar 1)))))))
def b_low : MS := (mSeq (mSet 2 (mBlt bAbs (mCons (mVar 0) mNil)))
  (mSeq (mSet 3 (mBlt bAbs (mCons (mVar 1) mNil)))
  (mSeq (mWhile (mTst (mOp rNeM (mVar 3) (mC (.int 0)))) (mPar 2 3 (mCons (mVar 3) (mCons (mOp rMod (mVar 2) (mVar 3)) mNil))))
  (mSeq (mIfS (mTst (mOp aLt (mVar 1) (mC (.int 0)))) (mSet 2 (mUn rNeg (mVar 2))) mNext)
  (mRet (mTup (mCons (mOp rDiv (mVar 0) (mVar 2)) (mCons (mOp rDiv (mVar 1) (mVar 2)) mNil))))))))
def b_divisor : MS := (mSeq (mWhile (mTst (mOp rNeM (mVar 1) (mC (.int 0)))) (mPar 0 1 (mCons (mVar 1) (mCons (mOp rMod (mVar 0) (mVar 1)) mNil))))
  (mRet (mVar 0)))
def b_is_less : MS := (mRet (mOp aLt (mOp rMul (mOp rIxM (mVar 0) (mC (.int 0))) (mOp rIxM (mVar 1) (mC (.int 1)))) (mOp rMul (mOp rIxM (mVar 1) (mC (.int 0))) (mOp rIxM (mVar 0) (mC (.int 1))))))
def b_fraction : MS := (mSeq (mIfS (mTst (mOp rEqM (mVar 1) (mC (.int 0)))) mNever mNext)
  (mSeq (mSet 2 (mCall FL.sp_divisor (mCons (mBlt bAbs (mCons (mVar 0) mNil)) (mCons (mBlt bAbs (mCons (mVar 1) mNil)) mNil))))
  (mSeq (mIfS (mTst (mOp aLt (mVar 1) (mC (.int 0)))) (mSet 2 (mUn rNeg (mVar 2))) mNext)
  (mRet (mTup (mCons (mOp rDiv (mVar 0) (mVar 2)) (mCons (mOp rDiv (mVar 1) (mVar 2)) mNil)))))))
def b_is_ahead : MS := (mSeq (mIfS (mTst (mOp rNeM (mOp rIxM (mVar 0) (mC (.int 0))) (mOp rIxM (mVar 1) (mC (.int 0))))) (mRet (mCall FL.sp_is_less (mCons (mOp rIxM (mVar 0) (mC (.int 0))) (mCons (mOp rIxM (mVar 1) (mC (.int 0))) mNil)))) mNext)
  (mRet (mCall FL.sp_is_less (mCons (mOp rIxM (mVar 0) (mC (.int 1))) (mCons (mOp rIxM (mVar 1) (mC (.int 1))) mNil)))))
def b_plus : MS := (mRet (mCall FL.sp_low (mCons (mOp rAdd (mOp rMul (mOp rIxM (mVar 0) (mC (.int 0))) (mOp rIxM (mVar 1) (mC (.int 1)))) (mOp rMul (mOp rIxM (mVar 1) (mC (.int 0))) (mOp rIxM (mVar 0) (mC (.int 1))))) (mCons (mOp rMul (mOp rIxM (mVar 0) (mC (.int 1))) (mOp rIxM (mVar 1) (mC (.int 1)))) mNil))))
def b_less : MS := (mRet (mCall FL.sp_low (mCons (mOp rSub (mOp rMul (mOp rIxM (mVar 0) (mC (.int 0))) (mOp rIxM (mVar 1) (mC (.int 1)))) (mOp rMul (mOp rIxM (mVar 1) (mC (.int 0))) (mOp rIxM (mVar 0) (mC (.int 1))))) (mCons (mOp rMul (mOp rIxM (mVar 0) (mC (.int 1))) (mOp rIxM (mVar 1) (mC (.int 1)))) mNil))))
def b_times : MS := (mRet (mCall FL.sp_low (mCons (mOp rMul (mOp rIxM (mVar 0) (mC (.int 0))) (mOp rIxM (mVar 1) (mC (.int 0)))) (mCons (mOp rMul (mOp rIxM (mVar 0) (mC (.int 1))) (mOp rIxM (mVar 1) (mC (.int 1)))) mNil))))
def b_over : MS := (mRet (mCall FL.sp_low (mCons (mOp rMul (mOp rIxM (mVar 0) (mC (.int 0))) (mOp rIxM (mVar 1) (mC (.int 1)))) (mCons (mOp rMul (mOp rIxM (mVar 0) (mC (.int 1))) (mOp rIxM (mVar 1) (mC (.int 0)))) mNil))))
def b_along : MS := (mSeq (mAsg (mVar 0) (gTp 2 (gCn (gNm 1) (gCn (gNm 2) gNl))))
  (mRet (mTup (mCons (mCall FL.sp_less (mCons (mOp rIxM (mVar 2) (mC (.int 0))) (mCons (mOp rIxM (mVar 1) (mC (.int 0))) mNil))) (mCons (mCall FL.sp_less (mCons (mOp rIxM (mVar 2) (mC (.int 1))) (mCons (mOp rIxM (mVar 1) (mC (.int 1))) mNil))) mNil)))))
def b_crossed : MS := (mRet (mCall FL.sp_less (mCons (mCall FL.sp_times (mCons (mOp rIxM (mVar 0) (mC (.int 0))) (mCons (mOp rIxM (mVar 1) (mC (.int 1))) mNil))) (mCons (mCall FL.sp_times (mCons (mOp rIxM (mVar 0) (mC (.int 1))) (mCons (mOp rIxM (mVar 1) (mC (.int 0))) mNil))) mNil))))
def b_leaning : MS := (mSeq (mSet 2 (mCall FL.sp_crossed (mCons (mVar 0) (mCons (mVar 1) mNil))))
  (mRet (mOp rSub (mBlt bInt (mCons (mOp aGt (mOp rIxM (mVar 2) (mC (.int 0))) (mC (.int 0))) mNil)) (mBlt bInt (mCons (mOp aLt (mOp rIxM (mVar 2) (mC (.int 0))) (mC (.int 0))) mNil)))))
def b_side_of : MS := (mRet (mCall FL.sp_leaning (mCons (mCall FL.sp_along (mCons (mVar 0) mNil)) (mCons (mCall FL.sp_along (mCons (mTup (mCons (mOp rIxM (mVar 0) (mC (.int 0))) (mCons (mVar 1) mNil))) mNil)) mNil))))
def b_lies_on : MS := (mSeq (mAsg (mVar 0) (gTp 2 (gCn (gNm 2) (gCn (gNm 3) gNl))))
  (mSeq (mIfS (mOr (mTru (mCall FL.sp_is_ahead (mCons (mVar 1) (mCons (mVar 2) mNil)))) (mTru (mCall FL.sp_is_ahead (mCons (mVar 3) (mCons (mVar 1) mNil))))) (mRet (mC (.bl false))) mNext)
  (mRet (mOp rEqM (mCall FL.sp_side_of (mCons (mVar 0) (mCons (mVar 1) mNil))) (mC (.int 0))))))
end FL
set_option maxRecDepth 100000
namespace FL
-- counts /tmp/scratch/dev/N_lib1.json
open PySem PySem.Spec L2 ML
theorem l_cell_at : ∀ ds S Q E, FL.sp_cell_at ds S Q E → ds.length = 2 := by rintro _ _ _ _ ⟨_, _, rfl, _⟩; rfl
theorem l_take : ∀ ds S Q E, FL.sp_take ds S Q E → ds.length = 2 := by rintro _ _ _ _ ⟨_, _, _, _, rfl, _⟩; rfl
theorem l_low : ∀ ds S Q E, FL.sp_low ds S Q E → ds.length = 2 := by rintro _ _ _ _ ⟨_, _, rfl, _⟩; rfl
theorem l_divisor : ∀ ds S Q E, FL.sp_divisor ds S Q E → ds.length = 2 := by rintro _ _ _ _ ⟨_, _, rfl, _⟩; rfl
theorem l_fraction : ∀ ds S Q E, sp_low ds S Q E → ds.length = 2 := l_low
theorem l_two {f : Rat → Rat → Rat} : ∀ ds S Q E, two f ds S Q E → ds.length = 2 := by rintro _ _ _ _ ⟨p, c, rfl, _⟩; rfl
theorem l_plus : ∀ ds S Q E, sp_plus ds S Q E → ds.length = 2 := l_two
theorem l_less : ∀ ds S Q E, sp_less ds S Q E → ds.length = 2 := l_two
theorem l_times : ∀ ds S Q E, sp_times ds S Q E → ds.length = 2 := l_two
theorem l_over : ∀ ds S Q E, FL.sp_over ds S Q E → ds.length = 2 := by rintro _ _ _ _ ⟨_, _, rfl, _⟩; rfl
theorem l_is_less : ∀ ds S Q E, FL.sp_is_less ds S Q E → ds.length = 2 := by rintro _ _ _ _ ⟨_, _, rfl, _⟩; rfl
theorem l_is_ahead : ∀ ds S Q E, FL.sp_is_ahead ds S Q E → ds.length = 2 := by rintro _ _ _ _ ⟨_, _, rfl, _⟩; rfl
theorem l_along : ∀ ds S Q E, FL.sp_along ds S Q E → ds.length = 1 := by rintro _ _ _ _ ⟨_, rfl, _⟩; rfl
theorem l_crossed : ∀ ds S Q E, FL.sp_crossed ds S Q E → ds.length = 2 := by rintro _ _ _ _ ⟨_, _, rfl, _⟩; rfl
theorem l_leaning : ∀ ds S Q E, FL.sp_leaning ds S Q E → ds.length = 2 := by rintro _ _ _ _ ⟨_, _, rfl, _⟩; rfl
theorem l_side_of : ∀ ds S Q E, FL.sp_side_of ds S Q E → ds.length = 2 := by rintro _ _ _ _ ⟨_, _, rfl, _⟩; rfl
theorem l_lies_on : ∀ ds S Q E, FL.sp_lies_on ds S Q E → ds.length = 2 := by rintro _ _ _ _ ⟨_, _, rfl, _⟩; rfl
theorem r_cell_at : ∀ ds S Q E, FL.sp_cell_at ds S Q E → b_cell_at (mends Q E) (mstart 0 ds) S := by
  rintro _ S Q E ⟨ns, k, rfl, q⟩
  unfold b_cell_at
  simp only [ML.q_mstart, ML.q_mends, List.map_cons, List.map_nil, List.replicate, List.cons_append, List.nil_append]
  simp only [gz0]
  split
  · next h =>
    have h : k < ns.length := by simpa using h
    rw [scr_get h]
    exact q _
  · exact q _
theorem r_take : ∀ ds S Q E, FL.sp_take ds S Q E → b_take (mends Q E) (mstart 2 ds) S := by
  rintro _ S Q E ⟨p, c, n, z, rfl, hp, h0, h1, hn, q⟩
  have hz : z.natAbs < 2 ^ 200 := by omega
  unfold b_take
  simp only [ML.q_mstart, ML.q_mends, List.map_cons, List.map_nil, List.replicate, List.cons_append, List.nil_append]
  simp only [gz0, hp, rowO]
  have e : ((n + 1 : Nat) : Int) = (n : Int) + 1 := by omega
  rw [e] at q
  refine ⟨cp, ?_⟩
  split
  · refine ⟨cp, cp, divok_w (by omega) hz (by decide) (by decide), by omega, ?_⟩
    rw [put_put, fmod_pos (j := z) (by omega)]
    exact q _ _ (Int.emod_nonneg _ (by omega)) (Int.emod_lt_of_pos _ (by omega))
  · refine ⟨mulok_r (by decide) (by decide), mulok_r (by omega) (by omega), mulok_r (by omega) (by omega), mulok_r (by omega) (by omega), by decide, ?_⟩
    generalize hx : (c * 40692 + 104729 * ((n : Int) + 1) * ((n : Int) + 1) + 31 * ((n : Int) + 1) + 5).fmod 2147483399 = x
    rw [fmod_pos (by decide)] at hx
    have x0 : 0 ≤ x ∧ x < 2147483399 := by omega
    refine ⟨mulok_r (by omega) (by omega), mulok_r (by omega) (by omega), by decide, divok_s (by decide) (by decide), by omega, ?_⟩
    rw [fmod_pos (j := z) (by omega)]
    exact q _ _ (Int.emod_nonneg _ (by omega)) (Int.emod_lt_of_pos _ (by omega))
theorem gcd_step {i j : Nat} (h : ¬ j = 0) : Nat.gcd i j = Nat.gcd j (i % j) := by rw [Nat.gcd_comm, Nat.gcd_rec, Nat.gcd_comm]
theorem r_divisor : ∀ ds S Q E, FL.sp_divisor ds S Q E → b_divisor (mends Q E) (mstart 0 ds) S := by
  rintro _ S Q E ⟨a, b, rfl, q⟩
  unfold b_divisor
  simp only [ML.q_mstart, ML.q_mends, List.map_cons, List.map_nil, List.replicate, List.cons_append, List.nil_append]
  simp only [gz0]
  refine ⟨fun k σ S' => ∃ i j : Nat, σ = [some (.int i), some (.int j)] ∧ k = j ∧ Nat.gcd i j = Nat.gcd a b ∧ S' = S, ⟨b, a, b, rfl, rfl, rfl, rfl⟩, ?_⟩
  rintro k σ S' ⟨i, j, rfl, rfl, hg, rfl⟩
  simp only [gz0]
  by_cases z : k = 0
  · subst z
    rw [if_neg (by decide)]
    rw [Nat.gcd_zero_right] at hg
    rw [hg]; exact q
  · rw [if_pos (by simpa using z)]
    refine ⟨by omega, i % k, Nat.mod_lt _ (by omega), k, i % k, ?_, rfl, by rw [← gcd_step z]; exact hg⟩
    rw [fmod_pos (by omega)]; simp
theorem low_val {t b : Int} (hb : b ≠ 0) {g : Int} (h : g = if b < 0 then -((t.natAbs.gcd b.natAbs : Nat) : Int) else ((t.natAbs.gcd b.natAbs : Nat) : Int)) : t.fdiv g = (Rat.divInt t b).num ∧ b.fdiv g = ((Rat.divInt t b).den : Nat) := by
  have g0 : (0 : Int) < (t.natAbs.gcd b.natAbs : Nat) := by
    have := Nat.gcd_pos_of_pos_right t.natAbs (n := b.natAbs) (by omega)
    omega
  obtain ⟨k, hk⟩ : ((t.natAbs.gcd b.natAbs : Nat) : Int) ∣ t := Int.gcd_dvd_left t b
  obtain ⟨m, hm⟩ : ((t.natAbs.gcd b.natAbs : Nat) : Int) ∣ b := Int.gcd_dvd_right t b
  have e0 : b.gcd t = t.natAbs.gcd b.natAbs := Nat.gcd_comm ..
  rw [Rat.num_divInt, Rat.den_divInt, if_neg hb, e0]
  generalize hn : t.natAbs.gcd b.natAbs = n at *
  have eb : ((b.natAbs / n : Nat) : Int) = (b.natAbs : Int) / n := by simp
  rw [eb]
  have ne : (n : Int) ≠ 0 := by omega
  split at h
  · next hs =>
    subst h
    rw [Int.sign_eq_neg_one_of_neg hs, Int.ofNat_natAbs_of_nonpos (by omega)]
    clear hn e0 eb
    subst hk; subst hm
    have e1 : (n : Int) * k = (-(n : Int)) * (-k) := (Int.neg_mul_neg _ _).symm
    have e2 : (n : Int) * m = (-(n : Int)) * (-m) := (Int.neg_mul_neg _ _).symm
    have e3 : -1 * ((n : Int) * k) = n * (-k) := by rw [Int.mul_neg, Int.neg_one_mul]
    have e4 : -((n : Int) * m) = n * (-m) := by rw [Int.mul_neg]
    rw [e3, e4, Int.mul_ediv_cancel_left _ ne, Int.mul_ediv_cancel_left _ ne, e1, e2, Int.mul_fdiv_cancel_left _ (by omega), Int.mul_fdiv_cancel_left _ (by omega)]
    exact ⟨rfl, rfl⟩
  · next hs =>
    subst h
    rw [Int.sign_eq_one_of_pos (by omega), Int.natAbs_of_nonneg (by omega)]
    clear hn e0 eb
    subst hk; subst hm
    rw [Int.one_mul, Int.mul_ediv_cancel_left _ ne, Int.mul_ediv_cancel_left _ ne, Int.mul_fdiv_cancel_left _ (by omega), Int.mul_fdiv_cancel_left _ (by omega)]
    exact ⟨rfl, rfl⟩
theorem low_end {t b : Int} (hb : b ≠ 0) (hz : b.natAbs.log2 < 9000) {g : Int} (h : g = if b < 0 then -((t.natAbs.gcd b.natAbs : Nat) : Int) else ((t.natAbs.gcd b.natAbs : Nat) : Int)) {S : Sto} {Q : MQ} (q : Q (fr (Rat.divInt t b)) S) :
    DivOk t g ∧ DivOk b g ∧ 2 ≤ sizeLine ∧ Q (.tup [.int (t.fdiv g), .int (b.fdiv g)]) S := by
  have g0 : (0 : Int) < (t.natAbs.gcd b.natAbs : Nat) := by
    have := Nat.gcd_pos_of_pos_right t.natAbs (n := b.natAbs) (by omega)
    omega
  have gl := log2_mono (Nat.gcd_le_right t.natAbs (n := b.natAbs) (by omega))
  have ne : g ≠ 0 := by split at h <;> omega
  have gz : g.natAbs.log2 < 9000 := by
    have : g.natAbs = t.natAbs.gcd b.natAbs := by split at h <;> omega
    rw [this]; omega
  refine ⟨⟨ne, PyProof.noPylong_of_log2 gz⟩, ⟨ne, PyProof.noPylong_of_log2 gz⟩, line_le (by decide), ?_⟩
  obtain ⟨e1, e2⟩ := low_val hb h
  rw [e1, e2]; exact q
theorem abs_eq (t : Int) : (if t < 0 then -t else t) = (t.natAbs : Int) := by split <;> omega
theorem r_low : ∀ ds S Q E, FL.sp_low ds S Q E → b_low (mends Q E) (mstart 2 ds) S := by
  rintro _ S Q E ⟨t, b, rfl, hb, hz, q⟩
  unfold b_low
  simp only [ML.q_mstart, ML.q_mends, List.map_cons, List.map_nil, List.replicate, List.cons_append, List.nil_append]
  simp only [gz0, abs_eq]
  refine ⟨fun k σ S' => ∃ i j : Nat, σ = [some (.int t), some (.int b), some (.int i), some (.int j)] ∧ k = j ∧ Nat.gcd i j = Nat.gcd t.natAbs b.natAbs ∧ S' = S, ⟨b.natAbs, t.natAbs, b.natAbs, rfl, rfl, rfl, rfl⟩, ?_⟩
  rintro k σ S' ⟨i, j, rfl, rfl, hg, rfl⟩
  simp only [gz0]
  by_cases z : k = 0
  · subst z
    rw [if_neg (by decide)]
    rw [Nat.gcd_zero_right] at hg
    subst hg
    split
    · next h => exact low_end hb hz (by rw [if_pos h]) q
    · next h => exact low_end hb hz (by rw [if_neg h]) q
  · rw [if_pos (by simpa using z)]
    refine ⟨by omega, i % k, Nat.mod_lt _ (by omega), k, i % k, ?_, rfl, by rw [← gcd_step z]; exact hg⟩
    rw [fmod_pos (by omega)]; simp
theorem r_fraction : ∀ ds S Q E, FL.sp_low ds S Q E → b_fraction (mends Q E) (mstart 1 ds) S := by
  rintro _ S Q E ⟨t, b, rfl, hb, hz, q⟩
  unfold b_fraction
  simp only [ML.q_mstart, ML.q_mends, List.map_cons, List.map_nil, List.replicate, List.cons_append, List.nil_append]
  simp only [gz0, abs_eq, mNever]
  rw [if_neg (by simpa using hb)]
  refine ⟨t.natAbs, b.natAbs, rfl, ?_⟩
  simp only [gz0]
  split
  · next h => exact low_end hb hz (by rw [if_pos h]) q
  · next h => exact low_end hb hz (by rw [if_neg h]) q
theorem r_is_less : ∀ ds S Q E, FL.sp_is_less ds S Q E → b_is_less (mends Q E) (mstart 0 ds) S := by
  rintro _ S Q E ⟨p, q, rfl, hz, k⟩
  unfold b_is_less
  simp only [ML.q_mstart, ML.q_mends, List.map_cons, List.map_nil, List.replicate, List.cons_append, List.nil_append]
  simp only [gz0]
  refine ⟨ok_nd (by omega), ok_nd (by omega), ?_⟩
  have e : (p.num * q.den < q.num * p.den) = (p < q) := propext (Rat.lt_iff p q).symm
  simp only [e]; exact k
theorem log2_dd {p q : Rat} (h : sz p + sz q < 8000) : ((p.den : Int) * (q.den : Int)).natAbs.log2 < 9000 := by
  have := sz_pos p
  have := log2_lt' (natAbs_mul_lt (den_abs p) (den_abs q)) (by omega)
  omega
theorem log2_dn {p q : Rat} (h : sz p + sz q < 8000) : ((p.den : Int) * q.num).natAbs.log2 < 9000 := by
  have := sz_pos p
  have := log2_lt' (natAbs_mul_lt (den_abs p) (sz_num q)) (by omega)
  omega
theorem dd_ne (p q : Rat) : (p.den : Int) * (q.den : Int) ≠ 0 := Int.mul_ne_zero (den_ne p) (den_ne q)
theorem r_plus : ∀ ds S Q E, FL.sp_plus ds S Q E → b_plus (mends Q E) (mstart 0 ds) S := by
  rintro _ S Q E ⟨p, q, rfl, hz, k⟩
  unfold b_plus
  simp only [ML.q_mstart, ML.q_mends, List.map_cons, List.map_nil, List.replicate, List.cons_append, List.nil_append]
  simp only [gz0]
  refine ⟨ok_nd (by omega), ok_nd (by omega), ok_dd (by omega), _, _, rfl, dd_ne p q, log2_dd hz, ?_⟩
  rw [← Int.natCast_mul, Rat.divInt_ofNat, ← Rat.add_def']; exact k
theorem r_less : ∀ ds S Q E, FL.sp_less ds S Q E → b_less (mends Q E) (mstart 0 ds) S := by
  rintro _ S Q E ⟨p, q, rfl, hz, k⟩
  unfold b_less
  simp only [ML.q_mstart, ML.q_mends, List.map_cons, List.map_nil, List.replicate, List.cons_append, List.nil_append]
  simp only [gz0]
  refine ⟨ok_nd (by omega), ok_nd (by omega), ok_dd (by omega), _, _, rfl, dd_ne p q, log2_dd hz, ?_⟩
  rw [← Int.natCast_mul, Rat.divInt_ofNat, ← Rat.sub_def']; exact k
theorem r_times : ∀ ds S Q E, FL.sp_times ds S Q E → b_times (mends Q E) (mstart 0 ds) S := by
  rintro _ S Q E ⟨p, q, rfl, hz, k⟩
  unfold b_times
  simp only [ML.q_mstart, ML.q_mends, List.map_cons, List.map_nil, List.replicate, List.cons_append, List.nil_append]
  simp only [gz0]
  refine ⟨ok_nn (by omega), ok_dd (by omega), _, _, rfl, dd_ne p q, log2_dd hz, ?_⟩
  rw [← Int.natCast_mul, Rat.divInt_ofNat, ← Rat.mul_def']; exact k
theorem r_over : ∀ ds S Q E, FL.sp_over ds S Q E → b_over (mends Q E) (mstart 0 ds) S := by
  rintro _ S Q E ⟨p, q, rfl, hz, hq, k⟩
  unfold b_over
  simp only [ML.q_mstart, ML.q_mends, List.map_cons, List.map_nil, List.replicate, List.cons_append, List.nil_append]
  simp only [gz0]
  refine ⟨ok_nd (by omega), ok_dn (by omega), _, _, rfl, Int.mul_ne_zero (den_ne p) (fun z => hq (Rat.num_eq_zero.mp z)), log2_dn hz, ?_⟩
  rw [← div_eq]; exact k
theorem log2_b {b : Int} (h : b.natAbs < 2 ^ 110) : b.natAbs.log2 < 9000 := by
  have := log2_lt' h (by decide)
  omega
theorem r_is_ahead : ∀ ds S Q E, FL.sp_is_ahead ds S Q E → b_is_ahead (mends Q E) (mstart 0 ds) S := by
  rintro _ S Q E ⟨a, b, rfl, ⟨n, ⟨h1, h2⟩, ⟨h3, h4⟩, hn⟩, k⟩
  unfold b_is_ahead
  simp only [ML.q_mstart, ML.q_mends, List.map_cons, List.map_nil, List.replicate, List.cons_append, List.nil_append]
  simp only [gz0]
  by_cases z : a.1 = b.1
  · rw [if_neg (by simpa using z)]
    refine ⟨_, _, rfl, by omega, ?_⟩
    have e : (a.2 < b.2) = ahead a b := by
      unfold ahead; rw [z]; simp [Rat.lt_irrefl]
    simp only [e]; exact k
  · rw [if_pos (by simpa using z)]
    refine ⟨_, _, rfl, by omega, ?_⟩
    have e : (a.1 < b.1) = ahead a b := by
      unfold ahead; simp [z]
    simp only [e]; exact k
theorem SzS.alng {n : Nat} {w : Wl} (h1 : SzS n w.1) (h2 : SzS n w.2) : SzS (2 * n + 1) (alng w) := by
  have := sz_sub w.2.1 w.1.1
  have := sz_sub w.2.2 w.1.2
  obtain ⟨a, b⟩ := h1
  obtain ⟨c, d⟩ := h2
  exact ⟨by simp only [FL.alng]; omega, by simp only [FL.alng]; omega⟩
theorem r_along : ∀ ds S Q E, FL.sp_along ds S Q E → b_along (mends Q E) (mstart 2 ds) S := by
  rintro _ S Q E ⟨w, rfl, ⟨n, ⟨h1, h2⟩, ⟨h3, h4⟩, hn⟩, k⟩
  unfold b_along
  simp only [ML.q_mstart, ML.q_mends, List.map_cons, List.map_nil, List.replicate, List.cons_append, List.nil_append]
  simp only [gz0]
  refine ⟨_, _, rfl, by omega, ?_⟩
  simp only [gz0]
  refine ⟨_, _, rfl, by omega, ?_⟩
  simp only [gz0]
  exact ⟨line_le (by decide), k⟩
theorem r_crossed : ∀ ds S Q E, FL.sp_crossed ds S Q E → b_crossed (mends Q E) (mstart 0 ds) S := by
  rintro _ S Q E ⟨u, v, rfl, ⟨n, ⟨h1, h2⟩, ⟨h3, h4⟩, hn⟩, k⟩
  unfold b_crossed
  simp only [ML.q_mstart, ML.q_mends, List.map_cons, List.map_nil, List.replicate, List.cons_append, List.nil_append]
  simp only [gz0]
  refine ⟨_, _, rfl, by omega, ?_⟩
  simp only [gz0]
  refine ⟨_, _, rfl, by omega, ?_⟩
  simp only [gz0]
  have := sz_mul u.1 v.2
  have := sz_mul u.2 v.1
  refine ⟨_, _, rfl, by omega, ?_⟩
  exact k
theorem r_leaning : ∀ ds S Q E, FL.sp_leaning ds S Q E → b_leaning (mends Q E) (mstart 1 ds) S := by
  rintro _ S Q E ⟨u, v, rfl, hn, k⟩
  unfold b_leaning
  simp only [ML.q_mstart, ML.q_mends, List.map_cons, List.map_nil, List.replicate, List.cons_append, List.nil_append]
  simp only [gz0]
  refine ⟨_, _, rfl, hn, ?_⟩
  simp only [gz0]
  have e : ((if 0 < (crs u v).num then 1 else 0) - if (crs u v).num < 0 then 1 else 0 : Int) = sgn (crs u v) := by
    have h1 : 0 < (crs u v).num ↔ 0 < crs u v := by rw [Rat.lt_iff]; simp
    have h2 : (crs u v).num < 0 ↔ crs u v < 0 := by rw [Rat.lt_iff]; simp
    unfold sgn
    simp only [← h1, ← h2]
    by_cases a : 0 < (crs u v).num
    · rw [if_pos a, if_pos a, if_neg (by omega)]; rfl
    · by_cases b : (crs u v).num < 0
      · rw [if_neg a, if_neg a, if_pos b, if_pos b]; rfl
      · rw [if_neg a, if_neg a, if_neg b, if_neg b]; rfl
  rw [e]; exact k
theorem r_side_of : ∀ ds S Q E, FL.sp_side_of ds S Q E → b_side_of (mends Q E) (mstart 0 ds) S := by
  rintro _ S Q E ⟨w, s, rfl, ⟨n, h1, h2, h3, hn⟩, k⟩
  unfold b_side_of
  simp only [ML.q_mstart, ML.q_mends, List.map_cons, List.map_nil, List.replicate, List.cons_append, List.nil_append]
  simp only [gz0]
  refine ⟨_, rfl, ⟨n, h1, h2, by omega⟩, ?_⟩
  simp only [gz0]
  refine ⟨line_le (by decide), (w.1, s), rfl, ⟨n, h1, h3, by omega⟩, ?_⟩
  simp only [gz0]
  exact ⟨_, _, rfl, ⟨2 * n + 1, SzS.alng h1 h2, SzS.alng (w := (w.1, s)) h1 h3, by omega⟩, k⟩
theorem r_lies_on : ∀ ds S Q E, FL.sp_lies_on ds S Q E → b_lies_on (mends Q E) (mstart 2 ds) S := by
  rintro _ S Q E ⟨w, s, rfl, ⟨n, h1, h2, h3, hn⟩, k⟩
  unfold b_lies_on
  simp only [ML.q_mstart, ML.q_mends, List.map_cons, List.map_nil, List.replicate, List.cons_append, List.nil_append]
  simp only [gz0]
  refine ⟨_, _, rfl, ⟨n, h3, h1, by omega⟩, ?_⟩
  simp only [gz0]
  by_cases z1 : ahead s w.1
  · rw [if_pos (by simpa using z1)]
    have e : decide (liesOn w s) = false := by simp [liesOn, z1]
    rw [e] at k; exact k
  · rw [if_neg (by simpa using z1)]
    refine ⟨_, _, rfl, ⟨n, h2, h3, by omega⟩, ?_⟩
    simp only [gz0]
    by_cases z2 : ahead w.2 s
    · rw [if_pos (by simpa using z2)]
      have e : decide (liesOn w s) = false := by simp [liesOn, z2]
      rw [e] at k; exact k
    · rw [if_neg (by simpa using z2)]
      refine ⟨_, _, rfl, ⟨n, h1, h2, h3, by omega⟩, ?_⟩
      simp only [gz0]
      have e : (side w s = 0) = liesOn w s := by simp [liesOn, z1, z2]
      simp only [e]; exact k
end FL
set_option maxRecDepth 100000
namespace FL
open PySem PySem.Spec L2 ML
/-! ### sizes, bounds from below -/
theorem z_add {p q : Rat} {a b : Nat} (h1 : sz p ≤ a) (h2 : sz q ≤ b) : sz (p + q) ≤ a + b + 1 := by have := sz_add p q; omega
theorem z_sub {p q : Rat} {a b : Nat} (h1 : sz p ≤ a) (h2 : sz q ≤ b) : sz (p - q) ≤ a + b + 1 := by have := sz_sub p q; omega
theorem z_mul {p q : Rat} {a b : Nat} (h1 : sz p ≤ a) (h2 : sz q ≤ b) : sz (p * q) ≤ a + b := by have := sz_mul p q; omega
theorem z_div {p q : Rat} {a b : Nat} (h1 : sz p ≤ a) (h2 : sz q ≤ b) : sz (p / q) ≤ a + b := by have := sz_div p q; omega
theorem z_neg {p : Rat} {a : Nat} (h1 : sz p ≤ a) : sz (-p) ≤ a := by rwa [sz_neg]
theorem z_a1 {w : Wl} {a b : Nat} (h1 : sz w.2.1 ≤ a) (h2 : sz w.1.1 ≤ b) : sz (alng w).1 ≤ a + b + 1 := z_sub h1 h2
theorem z_a2 {w : Wl} {a b : Nat} (h1 : sz w.2.2 ≤ a) (h2 : sz w.1.2 ≤ b) : sz (alng w).2 ≤ a + b + 1 := z_sub h1 h2
theorem z_crs {u v : Pt} {a b c d : Nat} (h1 : sz u.1 ≤ a) (h2 : sz v.2 ≤ b) (h3 : sz u.2 ≤ c) (h4 : sz v.1 ≤ d) : sz (crs u v) ≤ a + b + (c + d) + 1 := z_sub (z_mul h1 h2) (z_mul h3 h4)
theorem SzS.l {n : Nat} {s : Pt} (h : SzS n s) : sz s.1 ≤ n := h.1
theorem SzS.r {n : Nat} {s : Pt} (h : SzS n s) : sz s.2 ≤ n := h.2
theorem SzS.mk {n : Nat} {s : Pt} (h : sz s.1 ≤ n) (h2 : sz s.2 ≤ n) : SzS n s := ⟨h, h2⟩
theorem SzS.mono {m n : Nat} {s : Pt} (h : SzS m s) (hn : m ≤ n) : SzS n s := ⟨Nat.le_trans h.1 hn, Nat.le_trans h.2 hn⟩
theorem z_int {i : Int} {n : Nat} (h : i.natAbs < 2 ^ n) (h0 : 0 < n) : sz (i : Rat) ≤ n := sz_le h0 (by rwa [Rat.num_intCast]) (by rw [Rat.den_intCast]; exact Nat.one_lt_two_pow (by omega))
/-- bounds, found by instances -/
class BD (q : Rat) (n : outParam Nat) : Prop where
  le : sz q ≤ n
class BP (s : Pt) (n : outParam Nat) : Prop where
  l : sz s.1 ≤ n
  r : sz s.2 ≤ n
class BW (w : Wl) (n : outParam Nat) : Prop where
  f : BP w.1 n
  s : BP w.2 n
section
variable {p q : Rat} {s u v : Pt} {w : Wl} {a b n : Nat}
instance bd_add [h1 : BD p a] [h2 : BD q b] : BD (p + q) (a + b + 1) := ⟨z_add h1.le h2.le⟩
instance bd_sub [h1 : BD p a] [h2 : BD q b] : BD (p - q) (a + b + 1) := ⟨z_sub h1.le h2.le⟩
instance bd_mul [h1 : BD p a] [h2 : BD q b] : BD (p * q) (a + b) := ⟨z_mul h1.le h2.le⟩
instance bd_div [h1 : BD p a] [h2 : BD q b] : BD (p / q) (a + b) := ⟨z_div h1.le h2.le⟩
instance bd_neg [h1 : BD p a] : BD (-p) a := ⟨z_neg h1.le⟩
instance bd_l [h : BP s n] : BD s.1 n := ⟨h.l⟩
instance bd_r [h : BP s n] : BD s.2 n := ⟨h.r⟩
instance bp_f [h : BW w n] : BP w.1 n := h.f
instance bp_s [h : BW w n] : BP w.2 n := h.s
instance bd_0 : BD 0 1 := ⟨by decide⟩
instance bd_1 : BD 1 1 := ⟨by decide⟩
instance bp_mk [h1 : BD p a] [h2 : BD q b] : BP (p, q) (max a b) := ⟨by have := h1.le; show sz p ≤ _; omega, by have := h2.le; show sz q ≤ _; omega⟩
instance bw_mk [h1 : BP u a] [h2 : BP v b] : BW (u, v) (max a b) := ⟨⟨by have := h1.l; show sz u.1 ≤ _; omega, by have := h1.r; show sz u.2 ≤ _; omega⟩, ⟨by have := h2.l; show sz v.1 ≤ _; omega, by have := h2.r; show sz v.2 ≤ _; omega⟩⟩
instance bp_alng [h : BW w n] : BP (alng w) (n + n + 1) := ⟨z_a1 h.s.l h.f.l, z_a2 h.s.r h.f.r⟩
instance bd_crs [h1 : BP u a] [h2 : BP v b] : BD (crs u v) (a + b + (a + b) + 1) := ⟨z_crs h1.l h2.r h1.r h2.l⟩
theorem BD.mono [h : BD q a] (hn : a ≤ n) : BD q n := ⟨Nat.le_trans h.le hn⟩
theorem BP.mono [h : BP s a] (hn : a ≤ n) : BP s n := ⟨Nat.le_trans h.l hn, Nat.le_trans h.r hn⟩
theorem BW.mono [h : BW w a] (hn : a ≤ n) : BW w n := ⟨BP.mono hn, BP.mono hn⟩
theorem BP.S [h : BP s a] (hn : a ≤ n) : SzS n s := ⟨Nat.le_trans h.l hn, Nat.le_trans h.r hn⟩
end
/-! ### calls whose answer is one value -/
theorem spD_inj {a b : Pt} (h : spD a = spD b) : a = b := by
  have := deq_sp (p := a) (q := b)
  rw [h] at this
  have r := deq_sp (p := b) (q := b)
  rw [this] at r
  simpa using r
theorem wlD_inj {a b : Wl} (h : wlD a = wlD b) : a = b := by
  have := deq_wl (p := a) (q := b)
  rw [h] at this
  have r := deq_wl (p := b) (q := b)
  rw [this] at r
  simpa using r
section
variable {S : Sto} {Q : Hold MQ} {E : Hold MXQ} {p q : Rat} {a b u v s : Pt} {w : Wl} {m n k : Nat}
theorem c_two {f : Rat → Rat → Rat} [h1 : BD p m] [h2 : BD q n] (h : m + n < 8000) : @CallP (two f) [fr p, fr q] S Q E = Q.v (fr (f p q)) S := by
  have := h1.le
  have := h2.le
  apply propext
  constructor
  · rintro ⟨p', q', e, _, k⟩
    simp only [List.cons.injEq, and_true, fr_inj] at e
    rw [e.1, e.2]; exact k
  · intro k; exact ⟨p, q, rfl, by omega, k⟩
theorem c_plus [h1 : BD p m] [h2 : BD q n] (h : m + n < 8000) : @CallP sp_plus [fr p, fr q] S Q E = Q.v (fr (p + q)) S := c_two h
theorem c_less [h1 : BD p m] [h2 : BD q n] (h : m + n < 8000) : @CallP sp_less [fr p, fr q] S Q E = Q.v (fr (p - q)) S := c_two h
theorem c_law_less [h1 : BD p m] [h2 : BD q n] (h : m + n < 8000) : @CallP sp_law_less [fr p, fr q] S Q E = Q.v (fr (p - q)) S := c_two h
theorem c_times [h1 : BD p m] [h2 : BD q n] (h : m + n < 8000) : @CallP sp_times [fr p, fr q] S Q E = Q.v (fr (p * q)) S := c_two h
theorem c_over [h1 : BD p m] [h2 : BD q n] (h : m + n < 8000) (h3 : q ≠ 0) : @CallP sp_over [fr p, fr q] S Q E = Q.v (fr (p / q)) S := by
  have := h1.le
  have := h2.le
  apply propext
  constructor
  · rintro ⟨p', q', e, _, _, k⟩
    simp only [List.cons.injEq, and_true, fr_inj] at e
    rw [e.1, e.2]; exact k
  · intro k; exact ⟨p, q, rfl, by omega, h3, k⟩
theorem c_is_less [h1 : BD p m] [h2 : BD q n] (h : m + n < 8000) : @CallP sp_is_less [fr p, fr q] S Q E = Q.v (.bl (decide (p < q))) S := by
  have := h1.le
  have := h2.le
  apply propext
  constructor
  · rintro ⟨p', q', e, _, k⟩
    simp only [List.cons.injEq, and_true, fr_inj] at e
    rw [e.1, e.2]; exact k
  · intro k; exact ⟨p, q, rfl, by omega, k⟩
theorem c_is_ahead [h1 : BP a m] [h2 : BP b n] (h : m + n < 4000) : @CallP sp_is_ahead [spD a, spD b] S Q E = Q.v (.bl (decide (ahead a b))) S := by
  apply propext
  constructor
  · rintro ⟨p', q', e, _, k⟩
    simp only [List.cons.injEq, and_true] at e
    cases spD_inj e.1; cases spD_inj e.2; exact k
  · intro k; exact ⟨a, b, rfl, ⟨m + n, BP.S (by omega), BP.S (by omega), by omega⟩, k⟩
theorem c_along [h1 : BW w m] (h : m < 4000) : @CallP sp_along [wlD w] S Q E = Q.v (spD (alng w)) S := by
  apply propext
  constructor
  · rintro ⟨w', e, _, k⟩
    simp only [List.cons.injEq, and_true] at e
    cases wlD_inj e; exact k
  · intro k; exact ⟨w, rfl, ⟨m, BP.S (by omega), BP.S (by omega), by omega⟩, k⟩
theorem c_crossed [h1 : BP u m] [h2 : BP v n] (h : m + n < 1900) : @CallP sp_crossed [spD u, spD v] S Q E = Q.v (fr (crs u v)) S := by
  apply propext
  constructor
  · rintro ⟨p', q', e, _, k⟩
    simp only [List.cons.injEq, and_true] at e
    cases spD_inj e.1; cases spD_inj e.2; exact k
  · intro k; exact ⟨u, v, rfl, ⟨m + n, BP.S (by omega), BP.S (by omega), by omega⟩, k⟩
theorem c_leaning [h1 : BP u m] [h2 : BP v n] (h : m + n < 1900) : @CallP sp_leaning [spD u, spD v] S Q E = Q.v (.int (sgn (crs u v))) S := by
  apply propext
  constructor
  · rintro ⟨p', q', e, _, k⟩
    simp only [List.cons.injEq, and_true] at e
    cases spD_inj e.1; cases spD_inj e.2; exact k
  · intro k; exact ⟨u, v, rfl, ⟨m + n, BP.S (by omega), BP.S (by omega), by omega⟩, k⟩
theorem c_side_of [h1 : BW w m] [h2 : BP s n] (h : m + n < 900) : @CallP sp_side_of [wlD w, spD s] S Q E = Q.v (.int (side w s)) S := by
  apply propext
  constructor
  · rintro ⟨p', q', e, _, k⟩
    simp only [List.cons.injEq, and_true] at e
    cases wlD_inj e.1; cases spD_inj e.2; exact k
  · intro k; exact ⟨w, s, rfl, ⟨m + n, BP.S (by omega), BP.S (by omega), BP.S (by omega), by omega⟩, k⟩
theorem c_lies_on [h1 : BW w m] [h2 : BP s n] (h : m + n < 900) : @CallP sp_lies_on [wlD w, spD s] S Q E = Q.v (.bl (decide (liesOn w s))) S := by
  apply propext
  constructor
  · rintro ⟨p', q', e, _, k⟩
    simp only [List.cons.injEq, and_true] at e
    cases wlD_inj e.1; cases spD_inj e.2; exact k
  · intro k; exact ⟨w, s, rfl, ⟨m + n, BP.S (by omega), BP.S (by omega), BP.S (by omega), by omega⟩, k⟩
theorem c_spans [h1 : BW w m] [h2 : BP s n] (h : m + n < 4000) : @CallP sp_spans [wlD w, spD s] S Q E = Q.v (.bl (decide (spansW w s))) S := by
  apply propext
  constructor
  · rintro ⟨p', q', e, _, k⟩
    simp only [List.cons.injEq, and_true] at e
    cases wlD_inj e.1; cases spD_inj e.2; exact k
  · intro k; exact ⟨w, s, rfl, ⟨m + n, BP.S (by omega), BP.S (by omega), BP.S (by omega), by omega⟩, k⟩
theorem sqI_sp {S : Sto} {s : Pt} : sqI S (spD s) = some ([fr s.1, fr s.2], fun _ => True) := Eq.trans rfl rfl
theorem sqI_wl {S : Sto} {w : Wl} : sqI S (wlD w) = some ([spD w.1, spD w.2], fun _ => True) := Eq.trans rfl rfl
/-! ### the row, beside other lists -/
/-! ### calls that draw -/
theorem t_cell {ns : List Int} {k : Nat} (h : ∀ c : Int, Q.v (.int c) S) : @CallP sp_cell_at [.scr (ns.map .int), .int (k : Nat)] S Q E := ⟨ns, k, rfl, h⟩
theorem t_take {P : Addr} {c z : Int} {n : Nat} (hp : S P = some (rowO c n)) (h0 : 0 < z) (h1 : z < 2 ^ 200) (hn : n < 2 ^ 60) (k : ∀ r c' : Int, 0 ≤ r → r < z → Q.v (.int r) (put S P (rowO c' (n + 1 : Nat)))) : @CallP sp_take [.ref P, .int z] S Q E :=
  ⟨P, c, n, z, rfl, hp, h0, h1, hn, k⟩
theorem t_low {t b : Int} (hb : b ≠ 0) (hz : b.natAbs < 2 ^ 200) (k : Q.v (fr (Rat.divInt t b)) S) : @CallP sp_low [.int t, .int b] S Q E :=
  ⟨t, b, rfl, hb, by have := log2_lt' hz (by decide); omega, k⟩
end
end FL
namespace FL
open PySem PySem.Spec L2 ML
/-! ### units: spots and walls of whole numbers, told as spots by a length and where it begins -/
structure Sc where
  t : Int
  b : Int
  x : Int
  y : Int
def scD (s : Sc) : D := .tup [.int s.t, .int s.b, .int s.x, .int s.y]
structure ScOk (s : Sc) : Prop where
  t1 : 1 ≤ s.t
  t2 : s.t ≤ 2 ^ 70
  b1 : 1 ≤ s.b
  b2 : s.b ≤ 2 ^ 90
  x1 : -(2 ^ 100) ≤ s.x
  x2 : s.x ≤ 2 ^ 100
  y1 : -(2 ^ 100) ≤ s.y
  y2 : s.y ≤ 2 ^ 100
def ofU (u : U2) : Pt := ((u.1 : Rat), (u.2 : Rat))
def ofW (w : UW) : Wl := (ofU w.1, ofU w.2)
/-- a spot in units, as the scale tells it -/
def af (s : Sc) (p : Pt) : Pt := ((p.1 * s.t + s.x) / s.b, (p.2 * s.t + s.y) / s.b)
def afw (s : Sc) (w : Wl) : Wl := (af s w.1, af s w.2)
/-- told by units below which a number stands -/
structure Told where
  x : Int
  y : Int
  n : Int
def ofT (t : Told) : Pt := ((t.x : Rat) / t.n, (t.y : Rat) / t.n)
structure UOk (m : Int) (u : U2) : Prop where
  a1 : -m ≤ u.1
  a2 : u.1 ≤ m
  b1 : -m ≤ u.2
  b2 : u.2 ≤ m
structure WOk (m : Int) (w : UW) : Prop where
  f : UOk m w.1
  s : UOk m w.2
structure TOk (t : Told) : Prop where
  x1 : -(2 ^ 40) ≤ t.x
  x2 : t.x ≤ 2 ^ 40
  y1 : -(2 ^ 40) ≤ t.y
  y2 : t.y ≤ 2 ^ 40
  n1 : 1 ≤ t.n
  n2 : t.n ≤ 2 ^ 24
def uturn (a b c : U2) : Int := side (ofU a, ofU b) (ofU c)
def uon (w : UW) (s : U2) : Prop := ule w.1 s ∧ ule s w.2 ∧ uturn w.1 w.2 s = 0
instance : Decidable (uon w s) := by unfold uon; infer_instance
/-- whether two walls in units meet at ends alone, as the laws look at it -/
def ufair (a b : UW) : Bool :=
  !decide (a = b) && (!(!(decide (a.1 = b.1) || decide (a.2 = b.1)) && decide (uon a b.1)) && (!(!(decide (a.1 = b.2) || decide (a.2 = b.2)) && decide (uon a b.2)) &&
  (!(!(decide (b.1 = a.1) || decide (b.2 = a.1)) && decide (uon b a.1)) && (!(!(decide (b.1 = a.2) || decide (b.2 = a.2)) && decide (uon b a.2)) &&
  (decide (0 ≤ uturn a.1 a.2 b.1 * uturn a.1 a.2 b.2) || decide (0 ≤ uturn b.1 b.2 a.1 * uturn b.1 b.2 a.2))))))
def sp_uspot : MSp := fun ds S Q _ => ∃ (s : Sc) (u : U2), ds = [scD s, uD u] ∧ ScOk s ∧ UOk (2 ^ 20) u ∧ Q (spD (af s (ofU u))) S
def sp_made : MSp := fun ds S Q _ => ∃ (s : Sc) (d : D) (ws : List UW), ds = [scD s, d] ∧ SeqK S d (ws.map uwD) ∧ ws.length ≤ 1000 ∧ ScOk s ∧ (∀ w ∈ ws, WOk (2 ^ 20) w) ∧ Q (.tup (ws.map fun w => wlD (afw s (ofW w)))) S
def sp_turn : MSp := fun ds S Q _ => ∃ a b c : U2, ds = [uD a, uD b, uD c] ∧ UOk (2 ^ 30) a ∧ UOk (2 ^ 30) b ∧ UOk (2 ^ 30) c ∧ Q (.int (uturn a b c)) S
def sp_on : MSp := fun ds S Q _ => ∃ (w : UW) (s : U2), ds = [uwD w, uD s] ∧ WOk (2 ^ 30) w ∧ UOk (2 ^ 30) s ∧ Q (.bl (decide (uon w s))) S
def sp_fair : MSp := fun ds S Q _ => ∃ a b : UW, ds = [uwD a, uwD b] ∧ WOk (2 ^ 30) a ∧ WOk (2 ^ 30) b ∧ ∀ S', (∀ q o, S q = some o → S' q = some o) → Q (.bl (ufair a b)) S'
/-- walls drawn: rising, on the grid, unlike, meeting at ends alone -/
structure Drawn (most : Nat) (size : Int) (ws : List UW) : Prop where
  len : ws.length ≤ most
  up : ∀ w ∈ ws, ult w.1 w.2
  lo : ∀ w ∈ ws, -size ≤ w.1.1 ∧ w.1.1 < size ∧ -size ≤ w.1.2 ∧ w.1.2 < size ∧ -size ≤ w.2.1 ∧ w.2.1 < size ∧ -size ≤ w.2.2 ∧ w.2.2 < size
  fair : ws.Pairwise fun a b => ufair b a = true
def sp_shuts_here : MSp := fun ds S Q _ => ∃ (p : Addr) (c : Int) (n most : Nat) (size : Int), ds = [.ref p, .int most, .int size] ∧ S p = some (rowO c n) ∧ n < 2 ^ 50 ∧ most ≤ 100 ∧ 0 < size ∧ size ≤ 1000 ∧
  ∀ (ws : List UW) (q : Addr) (c' : Int) (n' : Nat) (S' : Sto), Drawn most size ws → n' ≤ n + 1000 → S q = none → q ≠ p → (∀ a o, a ≠ p → S a = some o → S' a = some o) → S' p = some (rowO c' n') → S' q = some (.lst (ws.map uwD)) → Q (.ref q) S'
/-! ### lists of walls in units -/
theorem deps_uw (ws : List UW) : D.deps (ws.map uwD) ≤ 2 := deps_map fun w => by rw [dep_uw]; exact Nat.le_refl _
theorem plains_uw (ws : List UW) : D.plains (ws.map uwD) = true := plains_map plain_uw
theorem eqOk_luw0 {ws : List UW} : eqOk (.lst (ws.map uwD)) (.lst []) = true := eqOk_of' (plains_uw ws) rfl (by have := deps_uw ws; rw [D.dep]; omega) (by decide)
theorem deq_luw0 {ws : List UW} : D.deq (.lst (ws.map uwD)) (.lst []) = ws.isEmpty := by cases ws <;> rfl
theorem ixL_map {α : Type} {xs : List α} {f : α → D} {r : Int} (h0 : 0 ≤ r) (h1 : r < xs.length) : ∃ a ∈ xs, ixL (xs.map f) r = some (f a) := by
  obtain ⟨k, rfl⟩ := Int.eq_ofNat_of_zero_le h0
  have hk : k < xs.length := by omega
  refine ⟨xs[k], List.getElem_mem hk, ?_⟩
  rw [ixL_cast, List.getElem?_map, List.getElem?_eq_getElem hk]; rfl
theorem sgn_bd (q : Rat) : -1 ≤ sgn q ∧ sgn q ≤ 1 := by
  unfold sgn
  split
  · decide
  · split <;> decide
theorem uturn_bd (a b c : U2) : -1 ≤ uturn a b c ∧ uturn a b c ≤ 1 := sgn_bd _
theorem ult_asymm {a b : U2} (h : ult a b) : ¬ ult b a := by unfold ult at *; omega
theorem ult_tri {a b : U2} (h : a ≠ b) : ult a b ∨ ult b a := by
  unfold ult
  have : ¬ (a.1 = b.1 ∧ a.2 = b.2) := fun z => h (Prod.ext z.1 z.2)
  omega
theorem t_takeA {S : Sto} {Q : Hold MQ} {E : Hold MXQ} {P : Addr} {c z : Int} {n : Nat} (hp : S P = some (rowO c n)) (h0 : 0 < z) (h1 : z < 2 ^ 200) (hn : n < 2 ^ 60)
    (k : ∀ (r c' : Int) (S' : Sto), 0 ≤ r → r < z → S' P = some (rowO c' (n + 1 : Nat)) → (∀ a, a ≠ P → S' a = S a) → Q.v (.int r) S') : @CallP sp_take [.ref P, .int z] S Q E :=
  t_take hp h0 h1 hn fun r c' r0 r1 => k r c' _ r0 r1 put_same fun a h => put_ne h
end FL
set_option maxRecDepth 100000
namespace FL
open PySem PySem.Spec L2 ML
def b_turn : MS := (mSeq (mSet 3 (mTup (mCons (mOp rSub (mOp rIxM (mVar 1) (mC (.int 0))) (mOp rIxM (mVar 0) (mC (.int 0)))) (mCons (mOp rSub (mOp rIxM (mVar 1) (mC (.int 1))) (mOp rIxM (mVar 0) (mC (.int 1)))) mNil))))
  (mSeq (mSet 4 (mTup (mCons (mOp rSub (mOp rIxM (mVar 2) (mC (.int 0))) (mOp rIxM (mVar 0) (mC (.int 0)))) (mCons (mOp rSub (mOp rIxM (mVar 2) (mC (.int 1))) (mOp rIxM (mVar 0) (mC (.int 1)))) mNil))))
  (mSeq (mSet 5 (mOp rSub (mOp rMul (mOp rIxM (mVar 3) (mC (.int 0))) (mOp rIxM (mVar 4) (mC (.int 1)))) (mOp rMul (mOp rIxM (mVar 3) (mC (.int 1))) (mOp rIxM (mVar 4) (mC (.int 0))))))
  (mRet (mOp rSub (mBlt bInt (mCons (mOp aGt (mVar 5) (mC (.int 0))) mNil)) (mBlt bInt (mCons (mOp aLt (mVar 5) (mC (.int 0))) mNil)))))))
def b_uspot : MS := (mSeq (mAsg (mVar 0) (gTp 4 (gCn (gNm 2) (gCn (gNm 3) (gCn (gNm 4) (gCn (gNm 5) gNl))))))
  (mRet (mTup (mCons (mCall FL.sp_low (mCons (mOp rAdd (mOp rMul (mOp rIxM (mVar 1) (mC (.int 0))) (mVar 2)) (mVar 4)) (mCons (mVar 3) mNil))) (mCons (mCall FL.sp_low (mCons (mOp rAdd (mOp rMul (mOp rIxM (mVar 1) (mC (.int 1))) (mVar 2)) (mVar 5)) (mCons (mVar 3) mNil))) mNil)))))
def b_on : MS := (mRet (mAndV (mChain aLe aLe (mOp rIxM (mVar 0) (mC (.int 0))) (mVar 1) (mOp rIxM (mVar 0) (mC (.int 1)))) (mOp rEqM (mCall FL.sp_turn (mCons (mOp rIxM (mVar 0) (mC (.int 0))) (mCons (mOp rIxM (mVar 0) (mC (.int 1))) (mCons (mVar 1) mNil)))) (mC (.int 0)))))
def b_made : MS := (mRet (mBlt bTuple (mCons (mCompF (iS (mVar 1)) (gTp 2 (gCn (gNm 2) (gCn (gNm 3) gNl))) mYes (mTup (mCons (mCall FL.sp_uspot (mCons (mVar 0) (mCons (mVar 2) mNil))) (mCons (mCall FL.sp_uspot (mCons (mVar 0) (mCons (mVar 3) mNil))) mNil))) [2, 3]) mNil)))
def b_fair : MS := (mSeq (mIfS (mTst (mOp rEqM (mVar 0) (mVar 1))) (mRet (mC (.bl false))) mNext)
  (mSeq (mFor (iS (mTup (mCons (mTup (mCons (mVar 0) (mCons (mVar 1) mNil))) (mCons (mTup (mCons (mVar 1) (mCons (mVar 0) mNil))) mNil)))) (gTp 2 (gCn (gNm 2) (gCn (gNm 3) gNl))) (mFor (iS (mVar 3)) (gNm 4) (mIfS (mAnd (mTst (mOp (rInM true) (mVar 4) (mVar 2))) (mTru (mCall FL.sp_on (mCons (mVar 2) (mCons (mVar 4) mNil))))) (mRet (mC (.bl false))) mNext)))
  (mSeq (mSet 5 (mComp (iS (mVar 1)) (gNm 4) mYes (mCall FL.sp_turn (mCons (mOp rIxM (mVar 0) (mC (.int 0))) (mCons (mOp rIxM (mVar 0) (mC (.int 1))) (mCons (mVar 4) mNil)))) [4]))
  (mSeq (mSet 6 (mComp (iS (mVar 0)) (gNm 4) mYes (mCall FL.sp_turn (mCons (mOp rIxM (mVar 1) (mC (.int 0))) (mCons (mOp rIxM (mVar 1) (mC (.int 1))) (mCons (mVar 4) mNil)))) [4]))
  (mRet (mOrV (mOp aGe (mOp rMul (mOp rIxM (mVar 5) (mC (.int 0))) (mOp rIxM (mVar 5) (mC (.int 1)))) (mC (.int 0))) (mOp aGe (mOp rMul (mOp rIxM (mVar 6) (mC (.int 0))) (mOp rIxM (mVar 6) (mC (.int 1)))) (mC (.int 0)))))))))
def b_shuts_here : MS := (mSeq (mSet 3 (mLst mNil))
  (mSeq (mFor (iR1 (mCons (mCall FL.sp_take (mCons (mVar 0) (mCons (mOp rAdd (mVar 1) (mC (.int 1))) mNil))) mNil)) (gNm 4) (mSeq (mSet 5 (mTup (mCons (mCall FL.sp_take (mCons (mVar 0) (mCons (mVar 2) mNil))) (mCons (mCall FL.sp_take (mCons (mVar 0) (mCons (mVar 2) mNil))) mNil))))
  (mSeq (mSet 6 (mTup (mCons (mCall FL.sp_take (mCons (mVar 0) (mCons (mVar 2) mNil))) (mCons (mCall FL.sp_take (mCons (mVar 0) (mCons (mVar 2) mNil))) mNil))))
  (mSeq (mIfJ (mAnd (mTst (mOp rNeM (mVar 3) (mLstF mNil))) (mTst (mOp aGt (mCall FL.sp_take (mCons (mVar 0) (mCons (mC (.int 3)) mNil))) (mC (.int 0))))) (mSet 5 (mOp rIxM (mOp rIxM (mVar 3) (mCall FL.sp_take (mCons (mVar 0) (mCons (mBlt bLen (mCons (mVar 3) mNil)) mNil)))) (mCall FL.sp_take (mCons (mVar 0) (mCons (mC (.int 2)) mNil))))) mNext)
  (mSeq (mSet 7 (mTup (mCons (mBlt bMinA (mCons (mVar 5) (mCons (mVar 6) mNil))) (mCons (mBlt bMaxA (mCons (mVar 5) (mCons (mVar 6) mNil))) mNil))))
  (mIfJ (mAnd (mTst (mOp rNeM (mVar 5) (mVar 6))) (mTru (mBlt bAll (mCons (mCompF (iS (mVar 3)) (gNm 8) mYes (mCall FL.sp_fair (mCons (mVar 7) (mCons (mVar 8) mNil))) [8]) mNil)))) (mExpr (mMt mtAppend (mVar 3) (mCons (mVar 7) mNil))) mNext))))))
  (mRet (mVar 3))))
end FL
set_option maxRecDepth 100000
namespace FL
-- counts /tmp/scratch/dev/N_lib2.json
open PySem PySem.Spec L2 ML
theorem l_uspot : ∀ ds S Q E, FL.sp_uspot ds S Q E → ds.length = 2 := by rintro _ _ _ _ ⟨_, _, rfl, _⟩; rfl
theorem l_made : ∀ ds S Q E, FL.sp_made ds S Q E → ds.length = 2 := by rintro _ _ _ _ ⟨_, _, _, rfl, _⟩; rfl
theorem l_turn : ∀ ds S Q E, FL.sp_turn ds S Q E → ds.length = 3 := by rintro _ _ _ _ ⟨_, _, _, rfl, _⟩; rfl
theorem l_on : ∀ ds S Q E, FL.sp_on ds S Q E → ds.length = 2 := by rintro _ _ _ _ ⟨_, _, rfl, _⟩; rfl
theorem l_fair : ∀ ds S Q E, FL.sp_fair ds S Q E → ds.length = 2 := by rintro _ _ _ _ ⟨_, _, rfl, _⟩; rfl
theorem l_shuts_here : ∀ ds S Q E, FL.sp_shuts_here ds S Q E → ds.length = 3 := by rintro _ _ _ _ ⟨_, _, _, _, _, rfl, _⟩; rfl
theorem jf_f {σ : MSt} {S : Sto} {t u : MS} {De : MEnds} (h : u De σ S) : @JfP False σ S ⟨t⟩ ⟨u⟩ ⟨De⟩ := ⟨De.nx, ⟨fun z => z.elim, fun _ => h⟩, fun _ _ z => z⟩
theorem jf_split {c : Prop} {σ : MSt} {S : Sto} {t u : MS} {De : MEnds} (h1 : c → t De σ S) (h2 : ¬ c → u De σ S) : @JfP c σ S ⟨t⟩ ⟨u⟩ ⟨De⟩ := ⟨De.nx, ⟨h1, h2⟩, fun _ _ z => z⟩
theorem rat_div_int {a b : Int} (hb : b ≠ 0) : Rat.divInt a b = (a : Rat) / (b : Rat) := by rw [Rat.divInt_eq_div]
theorem isgn (i : Int) : ((if 0 < i then 1 else 0) - if i < 0 then 1 else 0 : Int) = sgn (i : Rat) := by
  have := sgn_num (i : Rat)
  rwa [Rat.num_intCast] at this
theorem uturn_eq (a b c : U2) : uturn a b c = sgn (((b.1 - a.1) * (c.2 - a.2) - (b.2 - a.2) * (c.1 - a.1) : Int) : Rat) := by
  unfold uturn side crs alng ofU
  congr 1
  simp only [Rat.intCast_sub, Rat.intCast_mul]
theorem r_uspot : ∀ ds S Q E, FL.sp_uspot ds S Q E → b_uspot (mends Q E) (mstart 4 ds) S := by
  rintro _ S Q E ⟨s, u, rfl, hs, hu, k⟩
  obtain ⟨t1, t2, b1, b2, x1, x2, y1, y2⟩ := hs
  obtain ⟨u1, u2, u3, u4⟩ := hu
  have m1 : (u.1 * s.t).natAbs < 2 ^ 92 := natAbs_mul_lt (a := 21) (b := 71) (by omega) (by omega)
  have m2 : (u.2 * s.t).natAbs < 2 ^ 92 := natAbs_mul_lt (a := 21) (b := 71) (by omega) (by omega)
  unfold b_uspot
  simp only [ML.q_mstart, ML.q_mends, List.map_cons, List.map_nil, List.replicate, List.cons_append, List.nil_append]
  simp only [gz1, scD]
  refine ⟨mulok_l (by omega) (by omega), t_low (by omega) (by omega) ?_⟩
  simp only [gz1]
  refine ⟨mulok_l (by omega) (by omega), t_low (by omega) (by omega) ?_⟩
  simp only [gz1]
  rw [rat_div_int (by omega), rat_div_int (by omega)]
  simp only [Rat.intCast_add, Rat.intCast_mul]
  exact k
theorem r_turn : ∀ ds S Q E, FL.sp_turn ds S Q E → b_turn (mends Q E) (mstart 3 ds) S := by
  rintro _ S Q E ⟨a, b, c, rfl, ⟨a1, a2, a3, a4⟩, ⟨b1, b2, b3, b4⟩, ⟨c1, c2, c3, c4⟩, k⟩
  unfold b_turn
  simp only [ML.q_mstart, ML.q_mends, List.map_cons, List.map_nil, List.replicate, List.cons_append, List.nil_append]
  simp only [gz1]
  refine ⟨mulok_l (by omega) (by omega), mulok_l (by omega) (by omega), ?_⟩
  rw [isgn, ← uturn_eq]; exact k
theorem r_on : ∀ ds S Q E, FL.sp_on ds S Q E → b_on (mends Q E) (mstart 0 ds) S := by
  rintro _ S Q E ⟨w, s, rfl, hw, hs, k⟩
  unfold b_on
  simp only [ML.q_mstart, ML.q_mends, List.map_cons, List.map_nil, List.replicate, List.cons_append, List.nil_append]
  simp only [gz1]
  have fin : ∀ b : Bool, b = decide (uon w s) → Q (.bl b) S := by rintro _ rfl; exact k
  refine ⟨fun h1 => ?_, fun h1 => ?_⟩
  · simp only [gz1]
    refine ⟨fun h2 => ?_, fun h2 => ?_⟩
    · simp only [gz1]
      refine ⟨_, _, _, rfl, hw.f, hw.s, hs, ?_⟩
      simp only [gz1]
      exact fin _ (by simp [uon, h1, h2])
    · simp only [gz1]
      exact fin _ (by simp [uon, h1, h2])
  · simp only [gz1]
    exact fin _ (by simp [uon, h1])
theorem r_made : ∀ ds S Q E, FL.sp_made ds S Q E → b_made (mends Q E) (mstart 2 ds) S := by
  rintro _ S Q E ⟨s, d, ws, rfl, hd, hz, hs0, hw, k⟩
  unfold b_made
  simp only [ML.q_mstart, ML.q_mends, List.map_cons, List.map_nil, List.replicate, List.cons_append, List.nil_append]
  obtain ⟨G, hs, g0, hG⟩ := hd.it
  simp only [gz1, hs]
  intro p hp
  refine comp_map uwD (fun w => wlD (afw s (ofW w))) ws rfl hz (fun acc => hG _ _ hp) ?_ ?_
  · intro w acc Q' hm q
    simp only [gz1]
    refine ⟨s, w.1, rfl, hs0, (hw w hm).f, ?_⟩
    simp only [gz1]
    refine ⟨s, w.2, rfl, hs0, (hw w hm).s, ?_⟩
    simp only [gz1]
    exact q
  · simp only [gz1, del_put hp]
    exact k
/-- a spot of a wall, against another wall -/
def chk (w : UW) (s : U2) : Bool := !(decide (w.1 = s) || decide (w.2 = s)) && decide (uon w s)
theorem ufair_eq (a b : UW) : ufair a b = (!decide (a = b) && (!chk a b.1 && (!chk a b.2 && (!chk b a.1 && (!chk b a.2 && (decide (0 ≤ uturn a.1 a.2 b.1 * uturn a.1 a.2 b.2) || decide (0 ≤ uturn b.1 b.2 a.1 * uturn b.1 b.2 a.2))))))) := rfl
theorem r_fair : ∀ ds S Q E, FL.sp_fair ds S Q E → b_fair (mends Q E) (mstart 5 ds) S := by
  rintro _ S Q E ⟨a, b, rfl, ha, hb, k⟩
  have no : ufair a b = false → Q (.bl false) S := fun h => by
    have := k S (fun _ _ h => h)
    rwa [h] at this
  unfold b_fair
  simp only [ML.q_mstart, ML.q_mends, List.map_cons, List.map_nil, List.replicate, List.cons_append, List.nil_append]
  simp only [gz1]
  refine ⟨fun h => ?_, fun hab => ?_⟩
  · simp only [gz1]
    exact no (by simp [ufair, h])
  simp only [gz1]
  refine for_roll ?_
  simp only [gz1]
  refine wfor_inv (fun i σ S' => @KP ⟨S' = S ∧ (∃ z, σ = [some (uwD a), some (uwD b), some (uwD a), some (uwD b), z, none, none]) ∧ (0 < i → chk a b.1 = false) ∧ (1 < i → chk a b.2 = false)⟩) ⟨rfl, ⟨_, rfl⟩, by omega, by omega⟩ ?_ ?_
  · rintro i d σ S' hd ⟨rfl, ⟨z, rfl⟩, c1, c2⟩
    refine ⟨trivial, ?_⟩
    have hi : (i = 0 ∧ d = uD b.1) ∨ (i = 1 ∧ d = uD b.2) := by
      rcases i with _ | _ | i
      · cases hd; exact .inl ⟨rfl, rfl⟩
      · cases hd; exact .inr ⟨rfl, rfl⟩
      · cases hd
    rcases hi with ⟨rfl, rfl⟩ | ⟨rfl, rfl⟩
    · simp only [gz1]
      refine ⟨fun h1 => ?_, fun h1 => ?_⟩
      · simp only [gz1]
        refine ⟨a, b.1, rfl, ha, hb.f, ?_⟩
        simp only [gz1]
        refine ⟨fun h2 => ?_, fun h2 => ?_⟩
        · simp only [gz1]
          exact no (by rw [ufair_eq]; simp [chk, h1, h2])
        · simp only [gz1]
          exact KP.mk ⟨rfl, ⟨_, rfl⟩, fun _ => by simp [chk, h2], by omega⟩
      · simp only [gz1]
        exact KP.mk ⟨rfl, ⟨_, rfl⟩, fun _ => by simp only [Bool.not_eq_false] at h1; simp [chk, h1], by omega⟩
    · simp only [gz1]
      refine ⟨fun h1 => ?_, fun h1 => ?_⟩
      · simp only [gz1]
        refine ⟨a, b.2, rfl, ha, hb.s, ?_⟩
        simp only [gz1]
        refine ⟨fun h2 => ?_, fun h2 => ?_⟩
        · simp only [gz1]
          exact no (by rw [ufair_eq]; simp [chk, h1, h2])
        · simp only [gz1]
          exact KP.mk ⟨rfl, ⟨_, rfl⟩, fun _ => c1 (by decide), fun _ => by simp [chk, h2]⟩
      · simp only [gz1]
        exact KP.mk ⟨rfl, ⟨_, rfl⟩, fun _ => c1 (by decide), fun _ => by simp only [Bool.not_eq_false] at h1; simp [chk, h1]⟩
  rintro σ S1 ⟨rfl, ⟨za, rfl⟩, ca1, ca2⟩
  replace ca1 := ca1 (by simp)
  replace ca2 := ca2 (by simp)
  refine ⟨trivial, ?_⟩
  simp only [gz1]
  refine wfor_inv (fun i σ S' => @KP ⟨S' = S1 ∧ (∃ z, σ = [some (uwD a), some (uwD b), some (uwD b), some (uwD a), z, none, none]) ∧ (0 < i → chk b a.1 = false) ∧ (1 < i → chk b a.2 = false)⟩) ⟨rfl, ⟨_, rfl⟩, by omega, by omega⟩ ?_ ?_
  · rintro i d σ S' hd ⟨rfl, ⟨z, rfl⟩, c1, c2⟩
    refine ⟨trivial, ?_⟩
    have hi : (i = 0 ∧ d = uD a.1) ∨ (i = 1 ∧ d = uD a.2) := by
      rcases i with _ | _ | i
      · cases hd; exact .inl ⟨rfl, rfl⟩
      · cases hd; exact .inr ⟨rfl, rfl⟩
      · cases hd
    rcases hi with ⟨rfl, rfl⟩ | ⟨rfl, rfl⟩
    · simp only [gz1]
      refine ⟨fun h1 => ?_, fun h1 => ?_⟩
      · simp only [gz1]
        refine ⟨b, a.1, rfl, hb, ha.f, ?_⟩
        simp only [gz1]
        refine ⟨fun h2 => ?_, fun h2 => ?_⟩
        · simp only [gz1]
          exact no (by rw [ufair_eq]; simp [chk, h1, h2])
        · simp only [gz1]
          exact KP.mk ⟨rfl, ⟨_, rfl⟩, fun _ => by simp [chk, h2], by omega⟩
      · simp only [gz1]
        exact KP.mk ⟨rfl, ⟨_, rfl⟩, fun _ => by simp only [Bool.not_eq_false] at h1; simp [chk, h1], by omega⟩
    · simp only [gz1]
      refine ⟨fun h1 => ?_, fun h1 => ?_⟩
      · simp only [gz1]
        refine ⟨b, a.2, rfl, hb, ha.s, ?_⟩
        simp only [gz1]
        refine ⟨fun h2 => ?_, fun h2 => ?_⟩
        · simp only [gz1]
          exact no (by rw [ufair_eq]; simp [chk, h1, h2])
        · simp only [gz1]
          exact KP.mk ⟨rfl, ⟨_, rfl⟩, fun _ => c1 (by decide), fun _ => by simp [chk, h2]⟩
      · simp only [gz1]
        exact KP.mk ⟨rfl, ⟨_, rfl⟩, fun _ => c1 (by decide), fun _ => by simp only [Bool.not_eq_false] at h1; simp [chk, h1]⟩
  rintro σ S2 ⟨rfl, ⟨zb, rfl⟩, cb1, cb2⟩
  replace cb1 := cb1 (by simp)
  replace cb2 := cb2 (by simp)
  refine ⟨trivial, ?_⟩
  simp only [gz1]
  intro p1 hp1
  refine comp_roll ?_
  simp only [gz1]
  refine ⟨_, _, _, rfl, ha.f, ha.s, hb.f, ?_⟩
  simp only [gz1]
  refine ⟨_, _, _, rfl, ha.f, ha.s, hb.s, ?_⟩
  simp only [gz1]
  intro p2 hp2
  obtain ⟨p21, hp2⟩ := fresh_put hp2
  refine comp_roll ?_
  simp only [gz1]
  refine ⟨_, _, _, rfl, hb.f, hb.s, ha.f, ?_⟩
  simp only [gz1]
  refine ⟨_, _, _, rfl, hb.f, hb.s, ha.s, ?_⟩
  simp only [gz1]
  have g1 : put (put S2 p1 (MO.lst [D.int (uturn a.1 a.2 b.1), D.int (uturn a.1 a.2 b.2)])) p2 (MO.lst [D.int (uturn b.1 b.2 a.1), D.int (uturn b.1 b.2 a.2)]) p1 = some (MO.lst [D.int (uturn a.1 a.2 b.1), D.int (uturn a.1 a.2 b.2)]) := by rw [put_ne (Ne.symm p21), put_same]
  have k' := k (put (put S2 p1 (MO.lst [D.int (uturn a.1 a.2 b.1), D.int (uturn a.1 a.2 b.2)])) p2 (MO.lst [D.int (uturn b.1 b.2 a.1), D.int (uturn b.1 b.2 a.2)])) (fun q o h => by rw [put_ne (sne h hp2), put_ne (sne h hp1)]; exact h)
  rw [ufair_eq, ca1, ca2, cb1, cb2, decide_eq_false hab] at k'
  simp only [gz1, g1]
  have b1 := uturn_bd a.1 a.2 b.1
  have b2 := uturn_bd b.1 b.2 a.1
  refine ⟨mulok_l (by omega) (by omega), fun h1 => ?_, fun h1 => ?_⟩
  · simp only [gz1]
    rw [decide_eq_true h1] at k'
    exact k'
  · simp only [gz1]
    refine ⟨mulok_l (by omega) (by omega), ?_⟩
    rw [decide_eq_false h1] at k'
    exact k'
/-- the next wall drawn -/
theorem Drawn.more {i : Nat} {size : Int} {ws : List UW} (h : Drawn i size ws) (w : UW) (hu : ult w.1 w.2) (hl : -size ≤ w.1.1 ∧ w.1.1 < size ∧ -size ≤ w.1.2 ∧ w.1.2 < size ∧ -size ≤ w.2.1 ∧ w.2.1 < size ∧ -size ≤ w.2.2 ∧ w.2.2 < size) (hf : ∀ v ∈ ws, ufair w v = true) : Drawn (i + 1) size (ws ++ [w]) where
  len := by rw [List.length_append]; have := h.len; simp; omega
  up := fun v hv => by
    rcases List.mem_append.mp hv with z | z
    · exact h.up v z
    · rw [List.mem_singleton.mp z]; exact hu
  lo := fun v hv => by
    rcases List.mem_append.mp hv with z | z
    · exact h.lo v z
    · rw [List.mem_singleton.mp z]; exact hl
  fair := List.pairwise_append.mpr ⟨h.fair, List.pairwise_singleton _ _, fun a ha b hb => by rw [List.mem_singleton.mp hb]; exact hf a ha⟩
theorem Drawn.mono {i j : Nat} {size : Int} {ws : List UW} (h : Drawn i size ws) (hij : i ≤ j) : Drawn j size ws := ⟨Nat.le_trans h.len hij, h.up, h.lo, h.fair⟩
theorem Drawn.ok {i : Nat} {size : Int} {ws : List UW} (h : Drawn i size ws) (hs : size ≤ 1000) : ∀ w ∈ ws, WOk 1000 w := fun w hw => by
  have := h.lo w hw
  exact ⟨⟨by omega, by omega, by omega, by omega⟩, ⟨by omega, by omega, by omega, by omega⟩⟩
theorem UOk.mono {m n : Int} {u : U2} (h : UOk m u) (hn : m ≤ n) : UOk n u := ⟨by have := h.a1; omega, by have := h.a2; omega, by have := h.b1; omega, by have := h.b2; omega⟩
theorem WOk.mono {m n : Int} {u : UW} (h : WOk m u) (hn : m ≤ n) : WOk n u := ⟨h.f.mono hn, h.s.mono hn⟩
theorem r_shuts_here : ∀ ds S Q E, FL.sp_shuts_here ds S Q E → b_shuts_here (mends Q E) (mstart 6 ds) S := by
  rintro _ S Q E ⟨p, c, n, most, size, rfl, hp, hn, hm, s0, s1, k⟩
  unfold b_shuts_here
  simp only [ML.q_mstart, ML.q_mends, List.map_cons, List.map_nil, List.replicate, List.cons_append, List.nil_append]
  simp only [gz1]
  intro q hq
  have qp : q ≠ p := fun z => by rw [z, hp] at hq; cases hq
  refine t_take (by rw [put_ne (Ne.symm qp)]; exact hp) (by omega) (by omega) (by omega) fun tr c1 t0 t1 => ?_
  simp only [gz1, put_sw qp]
  refine ⟨by omega, ?_⟩
  have st : ∀ (S1 S2 : Sto) (ws : List UW), (∀ a, a ≠ p → S2 a = S1 a) → (S1 q = some (.lst (ws.map uwD)) ∧ ∀ x o, x ≠ p → S x = some o → S1 x = some o) → (S2 q = some (.lst (ws.map uwD)) ∧ ∀ x o, x ≠ p → S x = some o → S2 x = some o) :=
    fun S1 S2 ws h ⟨h1, h2⟩ => ⟨(h q qp).trans h1, fun x o hx e => (h x hx).trans (h2 x o hx e)⟩
  refine rng_inv (fun i σ S' => @KP ⟨∃ (ws : List UW) (c' : Int) (n' : Nat) (a b d e f : Option D), σ = [some (.ref p), some (.int most), some (.int size), some (.ref q), a, b, d, e, f] ∧ Drawn i size ws ∧ n' ≤ n + 1 + 7 * i ∧ S' p = some (rowO c' n') ∧ (S' q = some (.lst (ws.map uwD)) ∧ ∀ x o, x ≠ p → S x = some o → S' x = some o)⟩) ?_ ?_ ?_
  · refine ⟨[], c1, n + 1, none, none, none, none, none, rfl, ⟨Nat.zero_le _, by simp, by simp, List.Pairwise.nil⟩, by omega, by rw [put_ne (Ne.symm qp), put_same], put_same, fun x o hx e => ?_⟩
    rw [put_ne (sne e hq), put_ne hx]; exact e
  · rintro i σ S1 hi ⟨ws, c2, n2, a, b, d, e, f, rfl, dr, hn2, hp1, h1⟩
    simp only [gz1]
    refine t_takeA hp1 s0 (by omega) (by omega) fun x1 c3 S2 x10 x11 hp2 e2 => ?_
    have h2 := st _ _ _ e2 h1
    simp only [gz1]
    refine t_takeA hp2 s0 (by omega) (by omega) fun y1 c4 S3 y10 y11 hp3 e3 => ?_
    have h3 := st _ _ _ e3 h2
    simp only [gz1]
    refine t_takeA hp3 s0 (by omega) (by omega) fun x2 c5 S4 x20 x21 hp4 e4 => ?_
    have h4 := st _ _ _ e4 h3
    simp only [gz1]
    refine t_takeA hp4 s0 (by omega) (by omega) fun y2 c6 S5 y20 y21 hp5 e5 => ?_
    have h5 := st _ _ _ e5 h4
    simp only [gz1, look_ref h5.1, eqOk_luw0, deq_luw0]
    refine ⟨fun he => ?_, fun he => ?_⟩
    · have hlen : 0 < ws.length := by
        cases ws with
        | nil => exact absurd he (by decide)
        | cons _ _ => exact Nat.succ_pos _
      simp only [gz1]
      refine t_takeA hp5 (by decide) (by decide) (by omega) fun g c7 S6 g0 g1 hp6 e6 => ?_
      have h6 := st _ _ _ e6 h5
      simp only [gz1]
      refine jf (fun σ' S' => @KP ⟨∃ (o1 : U2) (c' : Int) (n' : Nat), -size ≤ o1.1 ∧ o1.1 < size ∧ -size ≤ o1.2 ∧ o1.2 < size ∧ σ' = [some (.ref p), some (.int most), some (.int size), some (.ref q), some (.int (i : Nat)), some (uD o1), some (uD (x2, y2)), e, f] ∧ n' ≤ n2 + 7 ∧ S' p = some (rowO c' n') ∧ (S' q = some (.lst (ws.map uwD)) ∧ ∀ x o, x ≠ p → S x = some o → S' x = some o)⟩) (fun hg => ?_) (fun hg => ?_) ?_
      · simp only [gz1, h6.1]
        have lw := dr.len
        refine t_takeA hp6 (by omega) (by omega) (by omega) fun r c8 S7 r0 r1 hp7 e7 => ?_
        have h7 := st _ _ _ e7 h6
        obtain ⟨w, hw, ew⟩ := ixL_map (f := uwD) r0 r1
        have lw := dr.lo w hw
        simp only [gz1, h7.1, ew]
        refine t_takeA hp7 (by decide) (by decide) (by omega) fun r2 c9 S8 r20 r21 hp8 e8 => ?_
        have h8 := st _ _ _ e8 h7
        have : r2 = 0 ∨ r2 = 1 := by omega
        rcases this with rfl | rfl
        · simp only [gz1]
          exact KP.mk ⟨w.1, c9, _, by omega, by omega, by omega, by omega, rfl, by omega, hp8, h8⟩
        · simp only [gz1]
          exact KP.mk ⟨w.2, c9, _, by omega, by omega, by omega, by omega, rfl, by omega, hp8, h8⟩
      · simp only [gz1]
        exact KP.mk ⟨(x1, y1), c7, _, by omega, x11, by omega, y11, rfl, by omega, hp6, h6⟩
      rintro _ S6 ⟨o1, c7, n7, ox0, ox1, oy0, oy1, rfl, hn7, hp6, h6⟩
      simp only [gz1, look_ref h6.1, eqOk_luw0, deq_luw0]
      refine ⟨fun hne => ?_, fun hne => ?_⟩
      · simp only [gz1, sqI_at h6.1]
        intro p2 hp2
        have qp2 : q ≠ p2 := sne h6.1 hp2
        have pp2 : p ≠ p2 := sne hp6 hp2
        obtain ⟨sh, hsh⟩ : ∃ sh : UW, sh = (if ult (x2, y2) o1 then (x2, y2) else o1, if ult o1 (x2, y2) then (x2, y2) else o1) := ⟨_, rfl⟩
        have hu : ult sh.1 sh.2 := by
          rcases ult_tri hne with z | z
          · rw [hsh, if_neg (ult_asymm z), if_pos z]; exact z
          · rw [hsh, if_pos z, if_neg (ult_asymm z)]; exact z
        have hlo : -size ≤ sh.1.1 ∧ sh.1.1 < size ∧ -size ≤ sh.1.2 ∧ sh.1.2 < size ∧ -size ≤ sh.2.1 ∧ sh.2.1 < size ∧ -size ≤ sh.2.2 ∧ sh.2.2 < size := by
          rcases ult_tri hne with z | z
          · rw [hsh, if_neg (ult_asymm z), if_pos z]; exact ⟨ox0, ox1, oy0, oy1, by show -size ≤ x2; omega, x21, by show -size ≤ y2; omega, y21⟩
          · rw [hsh, if_pos z, if_neg (ult_asymm z)]; exact ⟨by show -size ≤ x2; omega, x21, by show -size ≤ y2; omega, y21, ox0, ox1, oy0, oy1⟩
        have hok : WOk (2 ^ 30) sh := ⟨⟨by omega, by omega, by omega, by omega⟩, ⟨by omega, by omega, by omega, by omega⟩⟩
        have lw := dr.len
        refine comp_inv (fun k acc S' => @KP ⟨acc = (ws.take k).map (fun v => .bl (ufair sh v)) ∧ ∀ x o, x ≠ p2 → S6 x = some o → S' x = some o⟩) put_same ⟨by simp, fun x o hx e => by rw [put_ne hx]; exact e⟩ ?_ ?_
        · rintro k dd acc S7 hd ⟨rfl, h7⟩ ha
          rw [List.getElem?_map] at hd
          cases ea : ws[k]? with
          | none => rw [ea] at hd; cases hd
          | some v =>
            rw [ea] at hd; cases hd
            have hm := List.mem_of_getElem? ea
            refine ⟨by show olP (S7 q) = _; rw [h7 q _ qp2 h6.1]; rfl, ?_⟩
            simp only [gz1, ← hsh]
            refine ⟨sh, v, rfl, hok, (dr.ok s1 v hm).mono (by decide), fun S8 h8 => ?_⟩
            refine CompNext.mk (h8 p2 _ ha) (line_lt (by simp only [List.length_map, List.length_take]; omega)) (KP.mk ⟨?_, fun x o hx e => ?_⟩)
            · rw [List.take_add_one, ea, List.map_append]; rfl
            · rw [put_ne hx]; exact h8 x o (h7 x o hx e)
        · rintro acc S7 ⟨rfl, h7⟩ ha
          rw [List.length_map, List.take_length] at ha ⊢
          refine ⟨by show olP (S7 q) = _; rw [h7 q _ qp2 h6.1]; rfl, ?_⟩
          have dl : ∀ x, x ≠ p2 → del S7 p2 x = S7 x := fun x hx => if_neg hx
          have h8 : del S7 p2 q = some (.lst (ws.map uwD)) ∧ ∀ x o, x ≠ p → S x = some o → del S7 p2 x = some o := by
            refine ⟨by rw [dl q qp2]; exact h7 q _ qp2 h6.1, fun x o hx e => ?_⟩
            have hx2 : x ≠ p2 := sne (h6.2 x o hx e) hp2
            rw [dl x hx2]; exact h7 x o hx2 (h6.2 x o hx e)
          have hp8 : del S7 p2 p = some (rowO c7 n7) := by rw [dl p pp2]; exact h7 p _ pp2 hp6
          have em : List.map (fun v => D.bl (ufair sh v)) ws = (ws.map fun v => ufair sh v).map .bl := by rw [List.map_map]; rfl
          generalize del S7 p2 = S9 at h8 hp8
          simp only [gz1, em, l_bAll]
          refine jf_split (fun ha2 => ?_) (fun ha2 => ?_)
          · have hall : ∀ v ∈ ws, ufair sh v = true := by
              intro v hv
              have := List.all_eq_true.mp ha2 (ufair sh v) (List.mem_map.mpr ⟨v, hv, rfl⟩)
              exact this
            simp only [gz1, isLst_ref h8.1, h8.1, ← hsh]
            refine ⟨line_lt (by omega), ?_⟩
            refine KP.mk ⟨ws ++ [sh], c7, n7, _, _, _, _, _, rfl, dr.more sh hu hlo hall, by omega, by rw [put_ne (Ne.symm qp)]; exact hp8, ?_, fun x o hx e => ?_⟩
            · rw [put_same, List.map_append]; rfl
            · rw [put_ne (Ne.symm (sne e hq).symm)]
              exact h8.2 x o hx e
          · simp only [gz1]
            exact KP.mk ⟨ws, c7, n7, _, _, _, _, _, rfl, dr.mono (by omega), by omega, hp8, h8⟩
      · simp only [gz1]
        refine jf_f ?_
        simp only [gz1]
        exact KP.mk ⟨ws, c7, n7, _, _, _, _, _, rfl, dr.mono (by omega), by omega, hp6, h6⟩
    · simp only [gz1]
      refine jf (fun σ' S' => @KP ⟨∃ (o1 : U2) (c' : Int) (n' : Nat), -size ≤ o1.1 ∧ o1.1 < size ∧ -size ≤ o1.2 ∧ o1.2 < size ∧ σ' = [some (.ref p), some (.int most), some (.int size), some (.ref q), some (.int (i : Nat)), some (uD o1), some (uD (x2, y2)), e, f] ∧ n' ≤ n2 + 7 ∧ S' p = some (rowO c' n') ∧ (S' q = some (.lst (ws.map uwD)) ∧ ∀ x o, x ≠ p → S x = some o → S' x = some o)⟩) (fun hg => hg.elim) (fun hg => ?_) ?_
      · simp only [gz1]
        exact KP.mk ⟨(x1, y1), c6, _, by omega, x11, by omega, y11, rfl, by omega, hp5, h5⟩
      rintro _ S6 ⟨o1, c7, n7, ox0, ox1, oy0, oy1, rfl, hn7, hp6, h6⟩
      simp only [gz1, look_ref h6.1, eqOk_luw0, deq_luw0]
      refine ⟨fun hne => ?_, fun hne => ?_⟩
      · simp only [gz1, sqI_at h6.1]
        intro p2 hp2
        have qp2 : q ≠ p2 := sne h6.1 hp2
        have pp2 : p ≠ p2 := sne hp6 hp2
        obtain ⟨sh, hsh⟩ : ∃ sh : UW, sh = (if ult (x2, y2) o1 then (x2, y2) else o1, if ult o1 (x2, y2) then (x2, y2) else o1) := ⟨_, rfl⟩
        have hu : ult sh.1 sh.2 := by
          rcases ult_tri hne with z | z
          · rw [hsh, if_neg (ult_asymm z), if_pos z]; exact z
          · rw [hsh, if_pos z, if_neg (ult_asymm z)]; exact z
        have hlo : -size ≤ sh.1.1 ∧ sh.1.1 < size ∧ -size ≤ sh.1.2 ∧ sh.1.2 < size ∧ -size ≤ sh.2.1 ∧ sh.2.1 < size ∧ -size ≤ sh.2.2 ∧ sh.2.2 < size := by
          rcases ult_tri hne with z | z
          · rw [hsh, if_neg (ult_asymm z), if_pos z]; exact ⟨ox0, ox1, oy0, oy1, by show -size ≤ x2; omega, x21, by show -size ≤ y2; omega, y21⟩
          · rw [hsh, if_pos z, if_neg (ult_asymm z)]; exact ⟨by show -size ≤ x2; omega, x21, by show -size ≤ y2; omega, y21, ox0, ox1, oy0, oy1⟩
        have hok : WOk (2 ^ 30) sh := ⟨⟨by omega, by omega, by omega, by omega⟩, ⟨by omega, by omega, by omega, by omega⟩⟩
        have lw := dr.len
        refine comp_inv (fun k acc S' => @KP ⟨acc = (ws.take k).map (fun v => .bl (ufair sh v)) ∧ ∀ x o, x ≠ p2 → S6 x = some o → S' x = some o⟩) put_same ⟨by simp, fun x o hx e => by rw [put_ne hx]; exact e⟩ ?_ ?_
        · rintro k dd acc S7 hd ⟨rfl, h7⟩ ha
          rw [List.getElem?_map] at hd
          cases ea : ws[k]? with
          | none => rw [ea] at hd; cases hd
          | some v =>
            rw [ea] at hd; cases hd
            have hm := List.mem_of_getElem? ea
            refine ⟨by show olP (S7 q) = _; rw [h7 q _ qp2 h6.1]; rfl, ?_⟩
            simp only [gz1, ← hsh]
            refine ⟨sh, v, rfl, hok, (dr.ok s1 v hm).mono (by decide), fun S8 h8 => ?_⟩
            refine CompNext.mk (h8 p2 _ ha) (line_lt (by simp only [List.length_map, List.length_take]; omega)) (KP.mk ⟨?_, fun x o hx e => ?_⟩)
            · rw [List.take_add_one, ea, List.map_append]; rfl
            · rw [put_ne hx]; exact h8 x o (h7 x o hx e)
        · rintro acc S7 ⟨rfl, h7⟩ ha
          rw [List.length_map, List.take_length] at ha ⊢
          refine ⟨by show olP (S7 q) = _; rw [h7 q _ qp2 h6.1]; rfl, ?_⟩
          have dl : ∀ x, x ≠ p2 → del S7 p2 x = S7 x := fun x hx => if_neg hx
          have h8 : del S7 p2 q = some (.lst (ws.map uwD)) ∧ ∀ x o, x ≠ p → S x = some o → del S7 p2 x = some o := by
            refine ⟨by rw [dl q qp2]; exact h7 q _ qp2 h6.1, fun x o hx e => ?_⟩
            have hx2 : x ≠ p2 := sne (h6.2 x o hx e) hp2
            rw [dl x hx2]; exact h7 x o hx2 (h6.2 x o hx e)
          have hp8 : del S7 p2 p = some (rowO c7 n7) := by rw [dl p pp2]; exact h7 p _ pp2 hp6
          have em : List.map (fun v => D.bl (ufair sh v)) ws = (ws.map fun v => ufair sh v).map .bl := by rw [List.map_map]; rfl
          generalize del S7 p2 = S9 at h8 hp8
          simp only [gz1, em, l_bAll]
          refine jf_split (fun ha2 => ?_) (fun ha2 => ?_)
          · have hall : ∀ v ∈ ws, ufair sh v = true := by
              intro v hv
              have := List.all_eq_true.mp ha2 (ufair sh v) (List.mem_map.mpr ⟨v, hv, rfl⟩)
              exact this
            simp only [gz1, isLst_ref h8.1, h8.1, ← hsh]
            refine ⟨line_lt (by omega), ?_⟩
            refine KP.mk ⟨ws ++ [sh], c7, n7, _, _, _, _, _, rfl, dr.more sh hu hlo hall, by omega, by rw [put_ne (Ne.symm qp)]; exact hp8, ?_, fun x o hx e => ?_⟩
            · rw [put_same, List.map_append]; rfl
            · rw [put_ne (Ne.symm (sne e hq).symm)]
              exact h8.2 x o hx e
          · simp only [gz1]
            exact KP.mk ⟨ws, c7, n7, _, _, _, _, _, rfl, dr.mono (by omega), by omega, hp8, h8⟩
      · simp only [gz1]
        refine jf_f ?_
        simp only [gz1]
        exact KP.mk ⟨ws, c7, n7, _, _, _, _, _, rfl, dr.mono (by omega), by omega, hp6, h6⟩
  rintro σ S1 ⟨ws, c2, n2, a, b, d, e, f, rfl, dr, hn2, hp1, h1⟩
  simp only [gz1]
  have hm2 : tr.toNat ≤ most := by omega
  exact k ws q c2 n2 S1 (dr.mono hm2) (by omega) hq qp h1.2 hp1 h1.1
end FL
namespace FL
open PySem PySem.Spec L2 ML
/-! ### the scale keeps order and sides -/
theorem rat_int_pos {i : Int} (h : 0 < i) : (0 : Rat) < (i : Rat) := by exact_mod_cast h
theorem lt_div {a b c : Rat} (h : 0 < c) : a / c < b / c ↔ a < b := by
  rw [Rat.div_def, Rat.div_def]
  have hi : 0 < c⁻¹ := Rat.inv_pos.mpr h
  constructor
  · intro z
    have := Rat.mul_lt_mul_of_pos_right z h
    rw [Rat.mul_assoc, Rat.mul_assoc, Rat.inv_mul_cancel _ (by grind), Rat.mul_one, Rat.mul_one] at this
    exact this
  · intro z; exact Rat.mul_lt_mul_of_pos_right z hi
theorem eq_div {a b c : Rat} (h : 0 < c) : a / c = b / c ↔ a = b := by
  constructor
  · intro z
    have : a / c * c = b / c * c := by rw [z]
    rw [Rat.div_mul_cancel (by grind), Rat.div_mul_cancel (by grind)] at this
    exact this
  · intro z; rw [z]
theorem lt_aff {a b t x : Rat} (h : 0 < t) : a * t + x < b * t + x ↔ a < b := by
  constructor
  · intro z
    have : a * t < b * t := by grind
    by_cases w : a < b
    · exact w
    · have : b * t ≤ a * t := Rat.mul_le_mul_of_nonneg_right (by grind) (by grind)
      grind
  · intro z
    have := Rat.mul_lt_mul_of_pos_right z h
    grind
theorem eq_aff {a b t x : Rat} (h : 0 < t) : a * t + x = b * t + x ↔ a = b := by
  constructor
  · intro z
    have e : a * t = b * t := by grind
    have : a * t / t = b * t / t := by rw [e]
    rwa [Rat.mul_div_cancel (by grind), Rat.mul_div_cancel (by grind)] at this
  · intro z; rw [z]
theorem ScOk.tp {s : Sc} (h : ScOk s) : (0 : Rat) < (s.t : Rat) := rat_int_pos (by have := h.t1; omega)
theorem ScOk.bp {s : Sc} (h : ScOk s) : (0 : Rat) < (s.b : Rat) := rat_int_pos (by have := h.b1; omega)
theorem ahead_af {s : Sc} (h : ScOk s) (p q : Pt) : ahead (af s p) (af s q) ↔ ahead p q := by
  unfold ahead af
  simp only [lt_div h.bp, eq_div h.bp, lt_aff h.tp, eq_aff h.tp]
theorem af_inj {s : Sc} (h : ScOk s) {p q : Pt} : af s p = af s q ↔ p = q := by
  unfold af
  simp only [Prod.ext_iff, eq_div h.bp, eq_aff h.tp]
theorem sgn_pos_mul {k q : Rat} (h : 0 < k) : sgn (k * q) = sgn q := by
  unfold sgn
  have a : 0 < k * q ↔ 0 < q := by
    constructor
    · intro z
      by_cases y : 0 < q
      · exact y
      · have := Rat.mul_nonneg (Rat.le_of_lt h) (show 0 ≤ -q by grind); grind
    · exact Rat.mul_pos h
  have b : k * q < 0 ↔ q < 0 := by
    constructor
    · intro z
      by_cases y : q < 0
      · exact y
      · have := Rat.mul_nonneg (Rat.le_of_lt h) (show 0 ≤ q by grind); grind
    · intro z
      have := Rat.mul_pos h (show 0 < -q by grind); grind
  simp only [a, b]
theorem side_af {s : Sc} (h : ScOk s) (w : Wl) (p : Pt) : side (afw s w) (af s p) = side w p := by
  have hb : (s.b : Rat) ≠ 0 := by have := h.bp; grind
  have e : crs (alng (afw s w)) (alng ((afw s w).1, af s p)) = (s.t / s.b * (s.t / s.b)) * crs (alng w) (alng (w.1, p)) := by
    simp only [crs, alng, afw, af]
    grind
  unfold side
  rw [e, sgn_pos_mul]
  have : (0 : Rat) < s.t / s.b := by
    rw [Rat.div_def]; exact Rat.mul_pos h.tp (Rat.inv_pos.mpr h.bp)
  exact Rat.mul_pos this this
theorem liesOn_af {s : Sc} (h : ScOk s) (w : Wl) (p : Pt) : liesOn (afw s w) (af s p) ↔ liesOn w p := by
  unfold liesOn
  rw [side_af h]
  simp only [afw, ahead_af h]
theorem ahead_ofU (u v : U2) : ahead (ofU u) (ofU v) ↔ ult u v := by
  unfold ahead ofU ult
  simp only [Rat.intCast_lt_intCast, Rat.intCast_inj]
theorem ofU_inj {u v : U2} : ofU u = ofU v ↔ u = v := by
  unfold ofU
  simp only [Prod.ext_iff, Rat.intCast_inj]
theorem not_ult {u v : U2} : ¬ ult u v ↔ ule v u := by unfold ult ule; omega
theorem bd_af {s : Sc} {p : Pt} {n : Nat} (hs : ScOk s) (hp : BP p n) (m : Nat) (hm : n + 71 + 102 + 1 + 91 ≤ m) : BP (af s p) m := by
  obtain ⟨t1, t2, b1, b2, x1, x2, y1, y2⟩ := hs
  have ht : BD (s.t : Rat) 71 := ⟨z_int (by omega) (by decide)⟩
  have hb : BD (s.b : Rat) 91 := ⟨z_int (by omega) (by decide)⟩
  have hx : BD (s.x : Rat) 102 := ⟨z_int (by omega) (by decide)⟩
  have hy : BD (s.y : Rat) 102 := ⟨z_int (by omega) (by decide)⟩
  unfold af
  exact BP.mono (by omega)
theorem bd_ofU {u : U2} (h : UOk (2 ^ 20) u) : BP (ofU u) 21 := by
  obtain ⟨a1, a2, a3, a4⟩ := h
  exact ⟨z_int (by omega) (by decide), z_int (by omega) (by decide)⟩
theorem bd_ofT {t : Told} (h : TOk t) : BP (ofT t) 66 := by
  obtain ⟨a1, a2, a3, a4, n1, n2⟩ := h
  have hx : BD (t.x : Rat) 41 := ⟨z_int (by omega) (by decide)⟩
  have hy : BD (t.y : Rat) 41 := ⟨z_int (by omega) (by decide)⟩
  have hn : BD (t.n : Rat) 25 := ⟨z_int (by omega) (by decide)⟩
  unfold ofT
  exact BP.mono (by omega)
theorem bw_afw {s : Sc} {w : UW} (hs : ScOk s) (h : WOk (2 ^ 20) w) : BW (afw s (ofW w)) 300 := ⟨bd_af hs (bd_ofU h.f) _ (by decide), bd_af hs (bd_ofU h.s) _ (by decide)⟩
theorem bp_afT {s : Sc} {t : Told} (hs : ScOk s) (h : TOk t) : BP (af s (ofT t)) 350 := bd_af hs (bd_ofT h) _ (by decide)
/-! ### calls -/
section
variable {S : Sto} {Q : Hold MQ} {E : Hold MXQ}
theorem t_made {s : Sc} {d : D} {ws : List UW} (h : ScOk s) (hd : SeqK S d (ws.map uwD)) (hz : ws.length ≤ 1000) (hw : ∀ w ∈ ws, WOk (2 ^ 20) w) (k : Q.v (.tup (ws.map fun w => wlD (afw s (ofW w)))) S) : @CallP sp_made [scD s, d] S Q E := ⟨s, d, ws, rfl, hd, hz, h, hw, k⟩
theorem t_shuts {p : Addr} {c : Int} {n most : Nat} {size m : Int} (hm : m = most) (hp : S p = some (rowO c n)) (hn : n < 2 ^ 50) (h0 : most ≤ 100) (s0 : 0 < size) (s1 : size ≤ 1000)
    (k : ∀ (ws : List UW) (q : Addr) (c' : Int) (n' : Nat) (S' : Sto), Drawn most size ws → n' ≤ n + 1000 → S q = none → q ≠ p → (∀ a o, a ≠ p → S a = some o → S' a = some o) → S' p = some (rowO c' n') → S' q = some (.lst (ws.map uwD)) → Q.v (.ref q) S') : @CallP sp_shuts_here [.ref p, .int m, .int size] S Q E := by
  subst hm; exact ⟨p, c, n, most, size, rfl, hp, hn, h0, s0, s1, k⟩
end
end FL
namespace FL
open PySem PySem.Spec L2 ML
/-! ### ways that lead on in the order of spots -/
def posv (v : Pt) : Prop := 0 < v.1 ∨ (v.1 = 0 ∧ 0 < v.2)
def sb (p q : Pt) : Pt := (p.1 - q.1, p.2 - q.2)
theorem ahead_posv {a b : Pt} : ahead a b ↔ posv (sb b a) := by
  unfold ahead posv sb
  constructor <;> intro h <;> grind
theorem crs_swap (u v : Pt) : crs u v = - crs v u := by unfold crs; grind
/-- the sum of the document: its sign is the side -/
def cx (w : Wl) (s : Pt) : Rat := crs (alng w) (alng (w.1, s))
theorem side_cx (w : Wl) (s : Pt) : side w s = sgn (cx w s) := rfl
theorem sgn_one {q : Rat} : sgn q = 1 ↔ 0 < q := by
  unfold sgn
  split
  · simp_all
  · split <;> simp_all
theorem sgn_m1 {q : Rat} : sgn q = -1 ↔ q < 0 := by
  unfold sgn
  split
  · constructor
    · intro h; simp at h
    · intro h; grind
  · split
    · simp_all
    · simp_all
theorem sgn_0 {q : Rat} : sgn q = 0 ↔ q = 0 := by
  unfold sgn
  split
  · constructor
    · intro h; simp at h
    · intro h; grind
  · split
    · constructor
      · intro h; simp at h
      · intro h; grind
    · constructor <;> intro _ <;> grind
theorem sgn_neg (q : Rat) : sgn (-q) = - sgn q := by
  unfold sgn
  by_cases h1 : 0 < q
  · rw [if_neg (by grind), if_pos (by grind), if_pos h1]
  · by_cases h2 : q < 0
    · rw [if_pos (by grind), if_neg h1, if_pos h2]; rfl
    · rw [if_neg (by grind), if_neg (by grind), if_neg h1, if_neg h2]; rfl
theorem sgn_mul (p q : Rat) : sgn p * sgn q = sgn (p * q) := by
  by_cases h : 0 < p
  · rw [sgn_pos_mul h, sgn_one.mpr h, Int.one_mul]
  · by_cases h2 : p < 0
    · have e : p * q = -((-p) * q) := by grind
      rw [e, sgn_neg, sgn_pos_mul (by grind), sgn_m1.mpr h2]; omega
    · have : p = 0 := by grind
      subst this
      rw [Rat.zero_mul, sgn_0.mpr rfl, Int.zero_mul]
theorem sgn_nonneg {q : Rat} : 0 ≤ sgn q ↔ 0 ≤ q := by
  unfold sgn
  split
  · exact ⟨fun _ => by grind, fun _ => by decide⟩
  · split
    · constructor
      · intro h; simp at h
      · intro h; grind
    · exact ⟨fun _ => by grind, fun _ => by decide⟩
/-! ### two walls that meet at ends alone -/
structure FairW (a b : Wl) : Prop where
  ne : a ≠ b
  e1 : liesOn a b.1 → b.1 = a.1 ∨ b.1 = a.2
  e2 : liesOn a b.2 → b.2 = a.1 ∨ b.2 = a.2
  e3 : liesOn b a.1 → a.1 = b.1 ∨ a.1 = b.2
  e4 : liesOn b a.2 → a.2 = b.1 ∨ a.2 = b.2
  cr : 0 ≤ cx a b.1 * cx a b.2 ∨ 0 ≤ cx b a.1 * cx b a.2
theorem FairW.symm {a b : Wl} (h : FairW a b) : FairW b a := ⟨fun z => h.ne z.symm, h.e3, h.e4, h.e1, h.e2, h.cr.symm⟩
theorem uon_lies (w : UW) (s : U2) : uon w s ↔ liesOn (ofW w) (ofU s) := by
  unfold uon liesOn ofW uturn
  simp only [ahead_ofU, not_ult]
theorem ufair_iff (a b : UW) : ufair a b = true ↔ FairW (ofW a) (ofW b) := by
  rw [ufair_eq]
  have ce : ∀ (w : UW) (s : U2), chk w s = false ↔ (liesOn (ofW w) (ofU s) → ofU s = ofU w.1 ∨ ofU s = ofU w.2) := by
    intro w s
    unfold chk
    rw [← uon_lies, ofU_inj, ofU_inj]
    by_cases h : uon w s
    · simp only [h, decide_true, Bool.and_true, Bool.not_eq_false', Bool.or_eq_true, decide_eq_true_eq, true_implies]
      constructor <;> rintro (z | z) <;> simp [z]
    · simp [h]
  have hc : (0 ≤ uturn a.1 a.2 b.1 * uturn a.1 a.2 b.2) ↔ 0 ≤ cx (ofW a) (ofU b.1) * cx (ofW a) (ofU b.2) := by
    show 0 ≤ side (ofW a) (ofU b.1) * side (ofW a) (ofU b.2) ↔ _
    rw [side_cx, side_cx, sgn_mul, sgn_nonneg]
  have hc2 : (0 ≤ uturn b.1 b.2 a.1 * uturn b.1 b.2 a.2) ↔ 0 ≤ cx (ofW b) (ofU a.1) * cx (ofW b) (ofU a.2) := by
    show 0 ≤ side (ofW b) (ofU a.1) * side (ofW b) (ofU a.2) ↔ _
    rw [side_cx, side_cx, sgn_mul, sgn_nonneg]
  have hn : ofW a = ofW b ↔ a = b := by
    constructor
    · intro h
      exact Prod.ext (ofU_inj.mp (congrArg Prod.fst h)) (ofU_inj.mp (congrArg Prod.snd h))
    · rintro rfl; rfl
  simp only [Bool.and_eq_true, Bool.not_eq_true', decide_eq_false_iff_not, Bool.or_eq_true, decide_eq_true_eq, ce, hc, hc2]
  constructor
  · rintro ⟨h1, h2, h3, h4, h5, h6⟩
    exact ⟨fun z => h1 (hn.mp z), h2, h3, h4, h5, h6⟩
  · rintro ⟨h1, h2, h3, h4, h5, h6⟩
    exact ⟨fun z => h1 (hn.mpr z), h2, h3, h4, h5, h6⟩
theorem nonneg_af {s : Sc} (h : ScOk s) (w : Wl) (p q : Pt) : 0 ≤ cx (afw s w) (af s p) * cx (afw s w) (af s q) ↔ 0 ≤ cx w p * cx w q := by
  rw [← sgn_nonneg, ← sgn_nonneg, ← sgn_mul, ← sgn_mul]
  show 0 ≤ side (afw s w) (af s p) * side (afw s w) (af s q) ↔ 0 ≤ side w p * side w q
  rw [side_af h, side_af h]
theorem fairW_af {s : Sc} (h : ScOk s) {a b : Wl} (f : FairW a b) : FairW (afw s a) (afw s b) where
  ne := fun z => f.ne (by
    have z1 := congrArg Prod.fst z
    have z2 := congrArg Prod.snd z
    exact Prod.ext ((af_inj h).mp z1) ((af_inj h).mp z2))
  e1 := fun z => by
    have := f.e1 ((liesOn_af h a b.1).mp z)
    simpa only [afw, af_inj h] using this
  e2 := fun z => by
    have := f.e2 ((liesOn_af h a b.2).mp z)
    simpa only [afw, af_inj h] using this
  e3 := fun z => by
    have := f.e3 ((liesOn_af h b a.1).mp z)
    simpa only [afw, af_inj h] using this
  e4 := fun z => by
    have := f.e4 ((liesOn_af h b a.2).mp z)
    simpa only [afw, af_inj h] using this
  cr := by
    rcases f.cr with z | z
    · exact .inl ((nonneg_af h a b.1 b.2).mpr z)
    · exact .inr ((nonneg_af h b a.1 a.2).mpr z)
/-! ### one above the other -/
def both (a b : Wl) : Prop := ahead a.1 b.2 ∧ ahead b.1 a.2
instance (a b : Wl) : Decidable (both a b) := by unfold both; infer_instance
theorem ahead_ne {a b : Pt} (h : ahead a b) : a ≠ b := fun z => by subst z; exact ahead_irrefl _ h
structure Up (w : Wl) : Prop where
  up : ahead w.1 w.2
section
variable {a b : Wl}
/-- whether a lies above b, as the document says -/
def pend (a b : Wl) : Pt × Bool := if a.1 ≠ b.1 then (if ahead a.1 b.1 then (b.1, false) else (a.1, true)) else (if ahead a.2 b.2 then (a.2, true) else (b.2, false))
def aboveW (a b : Wl) : Prop := both a b ∧ (if (pend a b).2 = true then side b (pend a b).1 = 1 else side a (pend a b).1 = -1)
instance (a b : Wl) : Decidable (aboveW a b) := by unfold aboveW; infer_instance
end
end FL
namespace FL
open PySem PySem.Spec L2 ML
/-! ### lists that are joined; x in a list of ints -/
section
variable {S : Sto} {Q : MQ}
theorem l_rAdd_rl {p : Addr} {ys : List D} : ML.rAdd (.ref p) (.lst ys) S Q = optP (olP (S p)) fun xs => xs.length + ys.length ≤ sizeLine ∧ Q (.lst (xs ++ ys)) S := by
  simp only [ML.rAdd, ownOf_ref', ownOf_lst, optP, OptP]
  cases olP (S p) <;> rfl
theorem l_rAdd_ll {xs ys : List D} : ML.rAdd (.lst xs) (.lst ys) S Q = (xs.length + ys.length ≤ sizeLine ∧ Q (.lst (xs ++ ys)) S) := Eq.trans rfl rfl
theorem l_rAdd_lr {p : Addr} {xs : List D} : ML.rAdd (.lst xs) (.ref p) S Q = optP (olP (S p)) fun ys => xs.length + ys.length ≤ sizeLine ∧ Q (.lst (xs ++ ys)) S := by
  simp only [ML.rAdd, ownOf_ref', ownOf_lst, optP, OptP]
  cases olP (S p) <;> rfl
theorem l_rAdd_rr {p q : Addr} : ML.rAdd (.ref p) (.ref q) S Q = optP (olP (S p)) fun xs => optP (olP (S q)) fun ys => xs.length + ys.length ≤ sizeLine ∧ Q (.lst (xs ++ ys)) S := by
  simp only [ML.rAdd, ownOf_ref', optP, OptP]
  cases olP (S p) <;> cases olP (S q) <;> rfl
theorem plains_int (ns : List Int) : D.plains (ns.map D.int) = true := plains_map fun _ => rfl
theorem deps_int (ns : List Int) : D.deps (ns.map D.int) ≤ 0 := deps_map fun _ => Nat.le_refl _
theorem mem_int (i : Int) (ns : List Int) : memD (.int i) (ns.map D.int) = decide (i ∈ ns) := by
  induction ns with
  | nil => simp [memD]
  | cons n ns ih =>
    have : memD (.int i) ((n :: ns).map D.int) = (D.deq (.int n) (.int i) || memD (.int i) (ns.map D.int)) := rfl
    rw [this, ih, deq_int]
    by_cases h : n = i
    · simp [h]
    · have h' : ¬ i = n := fun z => h z.symm
      simp [h, h']
theorem in_ints {neg : Bool} {i : Int} {ns : List Int} : rInM neg (.int i) (.lst (ns.map .int)) S Q = Q (.bl (if neg then !decide (i ∈ ns) else decide (i ∈ ns))) S := by
  have c : D.plain (.int i) = true ∧ D.plains (ns.map D.int) = true ∧ D.dep (.int i) ≤ 64 ∧ D.deps (ns.map D.int) ≤ 63 := ⟨rfl, plains_int ns, Nat.zero_le _, Nat.le_trans (deps_int ns) (Nat.zero_le _)⟩
  simp only [rInM, look_lst, mem_int]
  exact propext ⟨fun h => h.2, fun h => ⟨c, h⟩⟩
end
/-! ### walls drawn -/
theorem Drawn.fairW {m : Nat} {z : Int} {ws : List UW} (h : Drawn m z ws) {i j : Nat} {a b : UW} (hij : i ≠ j) (ha : ws[i]? = some a) (hb : ws[j]? = some b) : FairW (ofW a) (ofW b) := by
  obtain ⟨hi, rfl⟩ := List.getElem?_eq_some_iff.mp ha
  obtain ⟨hj, rfl⟩ := List.getElem?_eq_some_iff.mp hb
  have p := List.pairwise_iff_getElem.mp h.fair
  rcases Nat.lt_or_gt_of_ne hij with l | l
  · exact ((ufair_iff _ _).mp (p i j hi hj l)).symm
  · exact (ufair_iff _ _).mp (p j i hj hi l)
theorem Drawn.up' {m : Nat} {z : Int} {ws : List UW} (h : Drawn m z ws) {w : UW} (hw : w ∈ ws) : Up (ofW w) := ⟨(ahead_ofU _ _).mpr (h.up w hw)⟩
end FL
set_option maxRecDepth 100000
namespace FL
open PySem PySem.Spec L2 ML
end FL
set_option maxRecDepth 100000
namespace FL
-- counts /tmp/scratch/dev/N_lib3.json
open PySem PySem.Spec L2 ML
end FL
namespace FL
open PySem PySem.Spec L2 ML
/-! ### how two walls meet -/
inductive Meet where
  | no
  | spot (p : Pt)
  | stretch (w : Wl)
deriving DecidableEq
def meD : Meet → D
  | .no => .non
  | .spot p => .tup [.str "spot", spD p]
  | .stretch w => .tup [.str "stretch", wlD w]
def solW (a b : Wl) : Pt := (a.1.1 + crs (alng (a.1, b.1)) (alng b) / crs (alng a) (alng b) * (alng a).1, a.1.2 + crs (alng (a.1, b.1)) (alng b) / crs (alng a) (alng b) * (alng a).2)
def maxP (p q : Pt) : Pt := if ahead p q then q else p
def minP (p q : Pt) : Pt := if ahead q p then q else p
def inLine (a b : Wl) : Meet := if side a b.1 ≠ 0 then .no else if maxP a.1 b.1 = minP a.2 b.2 then .spot (maxP a.1 b.1) else if ahead (maxP a.1 b.1) (minP a.2 b.2) then .stretch (maxP a.1 b.1, minP a.2 b.2) else .no
def meetW (a b : Wl) : Meet := if crs (alng a) (alng b) = 0 then inLine a b else if liesOn a (solW a b) ∧ liesOn b (solW a b) then .spot (solW a b) else .no
section
variable {s : Sc}
theorem alng_af (h : ScOk s) (w : Wl) : alng (afw s w) = (s.t / s.b * (alng w).1, s.t / s.b * (alng w).2) := by
  have hb : (s.b : Rat) ≠ 0 := by have := h.bp; grind
  simp only [alng, afw, af, Prod.mk.injEq]
  constructor <;> grind
theorem crs_smul (k : Rat) (u v : Pt) : crs (k * u.1, k * u.2) (k * v.1, k * v.2) = k * k * crs u v := by simp only [crs]; grind
theorem kpos (h : ScOk s) : (0 : Rat) < s.t / s.b := by rw [Rat.div_def]; exact Rat.mul_pos h.tp (Rat.inv_pos.mpr h.bp)
theorem crs_af (h : ScOk s) (a b : Wl) : crs (alng (afw s a)) (alng (afw s b)) = (s.t / s.b * (s.t / s.b)) * crs (alng a) (alng b) := by
  rw [alng_af h, alng_af h, crs_smul]
theorem crs_af0 (h : ScOk s) (a b : Wl) : crs (alng (afw s a)) (alng (afw s b)) = 0 ↔ crs (alng a) (alng b) = 0 := by
  rw [crs_af h, Rat.mul_eq_zero, Rat.mul_eq_zero]
  have := kpos h
  constructor
  · rintro ((z | z) | z)
    · grind
    · grind
    · exact z
  · intro z; exact .inr z
theorem sol_af (h : ScOk s) {a b : Wl} (hc : crs (alng a) (alng b) ≠ 0) : solW (afw s a) (afw s b) = af s (solW a b) := by
  have k0 := kpos h
  have hb : (s.b : Rat) ≠ 0 := by have := h.bp; grind
  have e1 : crs (alng ((afw s a).1, (afw s b).1)) (alng (afw s b)) = (s.t / s.b * (s.t / s.b)) * crs (alng (a.1, b.1)) (alng b) := by
    have := crs_af h (a.1, b.1) b
    exact this
  have e2 : crs (alng (afw s a)) (alng (afw s b)) = (s.t / s.b * (s.t / s.b)) * crs (alng a) (alng b) := crs_af h a b
  have kk : (s.t / s.b * (s.t / s.b) : Rat) ≠ 0 := by
    rw [ne_eq, Rat.mul_eq_zero]; grind
  unfold solW
  rw [e1, e2, alng_af h]
  have e3 : (s.t / s.b * (s.t / s.b)) * crs (alng (a.1, b.1)) (alng b) / ((s.t / s.b * (s.t / s.b)) * crs (alng a) (alng b)) = crs (alng (a.1, b.1)) (alng b) / crs (alng a) (alng b) := by
    generalize (s.t / s.b * (s.t / s.b) : Rat) = K at kk
    generalize crs (alng a) (alng b) = C at hc
    grind
  rw [e3]
  generalize crs (alng (a.1, b.1)) (alng b) / crs (alng a) (alng b) = P
  simp only [afw, af, Prod.mk.injEq]
  constructor <;> grind
end
/-! ### either way about -/
theorem sol_symm {a b : Wl} (hc : crs (alng a) (alng b) ≠ 0) : solW b a = solW a b := by
  unfold solW
  have e : crs (alng b) (alng a) = - crs (alng a) (alng b) := crs_swap _ _
  rw [e]
  have k1 : crs (alng (b.1, a.1)) (alng a) / - crs (alng a) (alng b) = crs (alng (a.1, b.1)) (alng a) / crs (alng a) (alng b) := by
    have : crs (alng (b.1, a.1)) (alng a) = - crs (alng (a.1, b.1)) (alng a) := by simp only [crs, alng]; grind
    rw [this]
    generalize crs (alng a) (alng b) = C at hc
    grind
  rw [k1]
  have e2 : ∀ C : Rat, C ≠ 0 → C = crs (alng a) (alng b) → (b.1.1 + crs (alng (a.1, b.1)) (alng a) / C * (alng b).1 = a.1.1 + crs (alng (a.1, b.1)) (alng b) / C * (alng a).1) ∧ (b.1.2 + crs (alng (a.1, b.1)) (alng a) / C * (alng b).2 = a.1.2 + crs (alng (a.1, b.1)) (alng b) / C * (alng a).2) := by
    intro C hC eC
    have f1 : (b.1.1 - a.1.1) * C = crs (alng (a.1, b.1)) (alng b) * (alng a).1 - crs (alng (a.1, b.1)) (alng a) * (alng b).1 := by rw [eC]; simp only [crs, alng]; grind
    have f2 : (b.1.2 - a.1.2) * C = crs (alng (a.1, b.1)) (alng b) * (alng a).2 - crs (alng (a.1, b.1)) (alng a) * (alng b).2 := by rw [eC]; simp only [crs, alng]; grind
    generalize crs (alng (a.1, b.1)) (alng b) = X at f1 f2 ⊢
    generalize crs (alng (a.1, b.1)) (alng a) = Y at f1 f2 ⊢
    constructor <;> grind
  exact Prod.ext (e2 _ hc rfl).1 (e2 _ hc rfl).2
end FL
namespace FL
open PySem PySem.Spec L2 ML
def ucross (u v : U2) : Int := u.1 * v.2 - u.2 * v.1
def sp_spot_of_lines : MSp := fun ds S Q _ => ∃ a b : Wl, ds = [wlD a, wlD b] ∧ BW a 400 ∧ BW b 400 ∧ crs (alng a) (alng b) ≠ 0 ∧ Q (spD (solW a b)) S
def sp_meeting_in_line : MSp := fun ds S Q _ => ∃ a b : Wl, ds = [wlD a, wlD b] ∧ BW a 400 ∧ BW b 400 ∧ Q (meD (inLine a b)) S
def sp_meeting : MSp := fun ds S Q _ => ∃ a b : Wl, ds = [wlD a, wlD b] ∧ BW a 400 ∧ BW b 400 ∧ (crs (alng a) (alng b) ≠ 0 → BP (solW a b) 400) ∧ Q (meD (meetW a b)) S
/-! ### a part of a wall's length -/
def atP (w : Wl) (t : Rat) : Pt := (w.1.1 + t * (alng w).1, w.1.2 + t * (alng w).2)
theorem posv_key {v : Pt} (hv : posv v) (s : Rat) : posv (s * v.1, s * v.2) ↔ 0 < s := by
  constructor
  · intro hs
    by_cases z : 0 < s
    · exact z
    · exfalso
      rcases hv with h | ⟨h, h2⟩
      · rcases hs with y | ⟨y, y2⟩
        · have := Rat.mul_nonneg (show 0 ≤ -s by grind) (Rat.le_of_lt h); simp only at y; grind
        · simp only at y y2
          have hs0 : s = 0 := by
            rcases Rat.mul_eq_zero.mp y with w | w
            · exact w
            · grind
          rw [hs0, Rat.zero_mul] at y2; exact absurd y2 (by decide)
      · rcases hs with y | ⟨y, y2⟩
        · simp only at y; rw [h, Rat.mul_zero] at y; exact absurd y (by decide)
        · have := Rat.mul_nonneg (show 0 ≤ -s by grind) (Rat.le_of_lt h2); simp only at y2; grind
  · intro hs
    rcases hv with h | ⟨h, h2⟩
    · exact .inl (Rat.mul_pos hs h)
    · exact .inr ⟨by simp only [h, Rat.mul_zero], Rat.mul_pos hs h2⟩
theorem liesOn_part {w : Wl} (h : Up w) (t : Rat) : liesOn w (atP w t) ↔ 0 ≤ t ∧ t ≤ 1 := by
  have hv : posv (alng w) := ahead_posv.mp h.up
  unfold liesOn
  have hs : side w (atP w t) = 0 := by
    rw [side_cx, sgn_0]; simp only [cx, crs, alng, atP]; grind
  have e1 : sb w.1 (atP w t) = ((-t) * (alng w).1, (-t) * (alng w).2) := by
    simp only [sb, atP, alng, Prod.mk.injEq]; grind
  have e2 : sb (atP w t) w.2 = ((t - 1) * (alng w).1, (t - 1) * (alng w).2) := by
    simp only [sb, atP, alng, Prod.mk.injEq]; grind
  rw [ahead_posv, ahead_posv, e1, e2, posv_key hv, posv_key hv]
  simp only [hs, and_true]
  grind
theorem sol_a (a b : Wl) : solW a b = atP a (crs (alng (a.1, b.1)) (alng b) / crs (alng a) (alng b)) := rfl
theorem sol_b {a b : Wl} (hc : crs (alng a) (alng b) ≠ 0) : solW a b = atP b (crs (alng (a.1, b.1)) (alng a) / crs (alng a) (alng b)) := by
  have hc' : crs (alng b) (alng a) ≠ 0 := by rw [crs_swap]; grind
  rw [sol_symm hc', sol_a]
  congr 1
  rw [crs_swap (alng b) (alng a)]
  have : crs (alng (b.1, a.1)) (alng a) = - crs (alng (a.1, b.1)) (alng a) := by simp only [crs, alng]; grind
  rw [this]
  generalize crs (alng a) (alng b) = C at hc
  grind
theorem ucross_crs (a b c d : U2) : ((ucross (b.1 - a.1, b.2 - a.2) (d.1 - c.1, d.2 - c.2) : Int) : Rat) = crs (alng (ofU a, ofU b)) (alng (ofU c, ofU d)) := by
  simp only [ucross, crs, alng, ofU, Rat.intCast_sub, Rat.intCast_mul]
end FL
set_option maxRecDepth 100000
namespace FL
open PySem PySem.Spec L2 ML
def b_spot_of_lines : MS := (mSeq (mSet 2 (mCall FL.sp_along (mCons (mVar 0) mNil)))
  (mSeq (mSet 3 (mCall FL.sp_over (mCons (mCall FL.sp_crossed (mCons (mCall FL.sp_along (mCons (mTup (mCons (mOp rIxM (mVar 0) (mC (.int 0))) (mCons (mOp rIxM (mVar 1) (mC (.int 0))) mNil))) mNil)) (mCons (mCall FL.sp_along (mCons (mVar 1) mNil)) mNil))) (mCons (mCall FL.sp_crossed (mCons (mVar 2) (mCons (mCall FL.sp_along (mCons (mVar 1) mNil)) mNil))) mNil))))
  (mRet (mTup (mCons (mCall FL.sp_plus (mCons (mOp rIxM (mOp rIxM (mVar 0) (mC (.int 0))) (mC (.int 0))) (mCons (mCall FL.sp_times (mCons (mVar 3) (mCons (mOp rIxM (mVar 2) (mC (.int 0))) mNil))) mNil))) (mCons (mCall FL.sp_plus (mCons (mOp rIxM (mOp rIxM (mVar 0) (mC (.int 0))) (mC (.int 1))) (mCons (mCall FL.sp_times (mCons (mVar 3) (mCons (mOp rIxM (mVar 2) (mC (.int 1))) mNil))) mNil))) mNil))))))
def b_meeting_in_line : MS := (mSeq (mIfS (mTst (mOp rNeM (mCall FL.sp_side_of (mCons (mVar 0) (mCons (mOp rIxM (mVar 1) (mC (.int 0))) mNil))) (mC (.int 0)))) (mRet (mC .non)) mNext)
  (mSeq (mSet 2 (mOp rIxM (mVar 0) (mC (.int 0))))
  (mSeq (mIfJ (mTru (mCall FL.sp_is_ahead (mCons (mVar 2) (mCons (mOp rIxM (mVar 1) (mC (.int 0))) mNil)))) (mSet 2 (mOp rIxM (mVar 1) (mC (.int 0)))) mNext)
  (mSeq (mSet 3 (mOp rIxM (mVar 0) (mC (.int 1))))
  (mSeq (mIfJ (mTru (mCall FL.sp_is_ahead (mCons (mOp rIxM (mVar 1) (mC (.int 1))) (mCons (mVar 3) mNil)))) (mSet 3 (mOp rIxM (mVar 1) (mC (.int 1)))) mNext)
  (mSeq (mIfS (mTst (mOp rEqM (mVar 2) (mVar 3))) (mRet (mTup (mCons (mC (.str "spot")) (mCons (mVar 2) mNil)))) mNext)
  (mSeq (mIfS (mTru (mCall FL.sp_is_ahead (mCons (mVar 2) (mCons (mVar 3) mNil)))) (mRet (mTup (mCons (mC (.str "stretch")) (mCons (mTup (mCons (mVar 2) (mCons (mVar 3) mNil))) mNil)))) mNext)
  (mRet (mC .non)))))))))
def b_meeting : MS := (mSeq (mIfS (mTst (mOp rEqM (mCall FL.sp_leaning (mCons (mCall FL.sp_along (mCons (mVar 0) mNil)) (mCons (mCall FL.sp_along (mCons (mVar 1) mNil)) mNil))) (mC (.int 0)))) (mRet (mCall FL.sp_meeting_in_line (mCons (mVar 0) (mCons (mVar 1) mNil)))) mNext)
  (mSeq (mSet 2 (mCall FL.sp_spot_of_lines (mCons (mVar 0) (mCons (mVar 1) mNil))))
  (mSeq (mIfS (mAnd (mTru (mCall FL.sp_lies_on (mCons (mVar 0) (mCons (mVar 2) mNil)))) (mTru (mCall FL.sp_lies_on (mCons (mVar 1) (mCons (mVar 2) mNil))))) (mRet (mTup (mCons (mC (.str "spot")) (mCons (mVar 2) mNil)))) mNext)
  (mRet (mC .non)))))
end FL
set_option maxRecDepth 100000
set_option maxHeartbeats 4000000
namespace FL
-- counts /tmp/scratch/dev/N_lib4.json
open PySem PySem.Spec L2 ML
theorem l_spot_of_lines : ∀ ds S Q E, FL.sp_spot_of_lines ds S Q E → ds.length = 2 := by rintro _ _ _ _ ⟨_, _, rfl, _⟩; rfl
theorem l_meeting_in_line : ∀ ds S Q E, FL.sp_meeting_in_line ds S Q E → ds.length = 2 := by rintro _ _ _ _ ⟨_, _, rfl, _⟩; rfl
theorem l_meeting : ∀ ds S Q E, FL.sp_meeting ds S Q E → ds.length = 2 := by rintro _ _ _ _ ⟨_, _, rfl, _⟩; rfl
theorem r_spot_of_lines : ∀ ds S Q E, FL.sp_spot_of_lines ds S Q E → b_spot_of_lines (mends Q E) (mstart 2 ds) S := by
  rintro _ S Q E ⟨a, b, rfl, h1, h2, hc, k⟩
  unfold b_spot_of_lines
  simp only [ML.q_mstart, ML.q_mends, List.map_cons, List.map_nil, List.replicate, List.cons_append, List.nil_append]
  simp (disch := (first | assumption | omega)) only [gz2]
  exact k
theorem maxP_bd {p q : Pt} {n : Nat} (h1 : BP p n) (h2 : BP q n) : BP (maxP p q) n := by unfold maxP; split <;> assumption
theorem minP_bd {p q : Pt} {n : Nat} (h1 : BP p n) (h2 : BP q n) : BP (minP p q) n := by unfold minP; split <;> assumption
theorem r_meeting_in_line : ∀ ds S Q E, FL.sp_meeting_in_line ds S Q E → b_meeting_in_line (mends Q E) (mstart 2 ds) S := by
  rintro _ S Q E ⟨a, b, rfl, h1, h2, k⟩
  unfold b_meeting_in_line
  simp only [ML.q_mstart, ML.q_mends, List.map_cons, List.map_nil, List.replicate, List.cons_append, List.nil_append]
  simp (disch := (first | assumption | omega)) only [gz2]
  have fin : ∀ m, m = inLine a b → Q (meD m) S := by rintro _ rfl; exact k
  refine ⟨fun hs => ?_, fun hs => ?_⟩
  · simp (disch := (first | assumption | omega)) only [gz2]
    exact fin .no (by unfold inLine; rw [if_pos hs])
  simp (disch := (first | assumption | omega)) only [gz2]
  refine jf (fun σ' S' => @KP ⟨σ' = [some (wlD a), some (wlD b), some (spD (maxP a.1 b.1)), none] ∧ S' = S⟩) (fun z => ?_) (fun z => ?_) ?_
  · simp (disch := (first | assumption | omega)) only [gz2]
    exact KP.mk ⟨by unfold maxP; rw [if_pos z], rfl⟩
  · simp (disch := (first | assumption | omega)) only [gz2]
    exact KP.mk ⟨by unfold maxP; rw [if_neg z], rfl⟩
  rintro _ S1 ⟨rfl, rfl⟩
  simp (disch := (first | assumption | omega)) only [gz2]
  refine jf (fun σ' S' => @KP ⟨σ' = [some (wlD a), some (wlD b), some (spD (maxP a.1 b.1)), some (spD (minP a.2 b.2))] ∧ S' = S1⟩) (fun z => ?_) (fun z => ?_) ?_
  · simp (disch := (first | assumption | omega)) only [gz2]
    exact KP.mk ⟨by unfold minP; rw [if_pos z], rfl⟩
  · simp (disch := (first | assumption | omega)) only [gz2]
    exact KP.mk ⟨by unfold minP; rw [if_neg z], rfl⟩
  rintro _ S2 ⟨rfl, rfl⟩
  have z1 : BP (maxP a.1 b.1) 400 := maxP_bd h1.f h2.f
  have z2 : BP (minP a.2 b.2) 400 := minP_bd h1.s h2.s
  simp (disch := (first | assumption | omega)) only [gz2]
  refine ⟨fun z => ?_, fun z => ?_⟩
  · simp (disch := (first | assumption | omega)) only [gz2]
    exact fin (.spot (maxP a.1 b.1)) (by unfold inLine; rw [if_neg hs, if_pos z])
  simp (disch := (first | assumption | omega)) only [gz2]
  refine ⟨fun y => ?_, fun y => ?_⟩
  · simp (disch := (first | assumption | omega)) only [gz2]
    exact fin (.stretch (maxP a.1 b.1, minP a.2 b.2)) (by unfold inLine; rw [if_neg hs, if_neg z, if_pos y])
  · simp (disch := (first | assumption | omega)) only [gz2]
    exact fin .no (by unfold inLine; rw [if_neg hs, if_neg z, if_neg y])
theorem r_meeting : ∀ ds S Q E, FL.sp_meeting ds S Q E → b_meeting (mends Q E) (mstart 1 ds) S := by
  rintro _ S Q E ⟨a, b, rfl, h1, h2, hs, k⟩
  unfold b_meeting
  simp only [ML.q_mstart, ML.q_mends, List.map_cons, List.map_nil, List.replicate, List.cons_append, List.nil_append]
  simp (disch := (first | assumption | omega)) only [gz2]
  rw [sgn_0]
  have fin : ∀ m, m = meetW a b → Q (meD m) S := by rintro _ rfl; exact k
  refine ⟨fun hc => ?_, fun hc => ?_⟩
  · simp (disch := (first | assumption | omega)) only [gz2]
    exact ⟨a, b, rfl, h1, h2, fin _ (by unfold meetW; rw [if_pos hc])⟩
  simp (disch := (first | assumption | omega)) only [gz2]
  refine ⟨a, b, rfl, h1, h2, hc, ?_⟩
  have hz := hs hc
  simp (disch := (first | assumption | omega)) only [gz2]
  refine ⟨fun y => ?_, fun y => ?_⟩
  · simp (disch := (first | assumption | omega)) only [gz2]
    refine ⟨fun x => ?_, fun x => ?_⟩
    · simp (disch := (first | assumption | omega)) only [gz2]
      exact fin (.spot (solW a b)) (by unfold meetW; rw [if_neg hc, if_pos ⟨y, x⟩])
    · simp (disch := (first | assumption | omega)) only [gz2]
      exact fin .no (by unfold meetW; rw [if_neg hc, if_neg (fun z => x z.2)])
  · simp (disch := (first | assumption | omega)) only [gz2]
    exact fin .no (by unfold meetW; rw [if_neg hc, if_neg (fun z => y z.1)])
end FL
namespace FL
open PySem PySem.Spec L2 ML
theorem sol_units {a b : UW} (ha : WOk 500 a) (hb : WOk 500 b) (hc : crs (alng (ofW a)) (alng (ofW b)) ≠ 0) : ∃ t, TOk t ∧ solW (ofW a) (ofW b) = ofT t := by
  obtain ⟨⟨a1, a2, a3, a4⟩, ⟨a5, a6, a7, a8⟩⟩ := ha
  obtain ⟨⟨b1, b2, b3, b4⟩, ⟨b5, b6, b7, b8⟩⟩ := hb
  have bd : ∀ x y : Int, -1000 ≤ x → x ≤ 1000 → -1000 ≤ y → y ≤ 1000 → -(2 ^ 20) ≤ x * y ∧ x * y ≤ 2 ^ 20 := by
    intro x y x1 x2 y1 y2
    have : (x * y).natAbs < 2 ^ 20 := natAbs_mul_lt (a := 10) (b := 10) (by omega) (by omega)
    omega
  have cD := ucross_crs a.1 a.2 b.1 b.2
  have cP := ucross_crs a.1 b.1 b.1 b.2
  have bD := bd (a.2.1 - a.1.1) (b.2.2 - b.1.2) (by omega) (by omega) (by omega) (by omega)
  have bD2 := bd (a.2.2 - a.1.2) (b.2.1 - b.1.1) (by omega) (by omega) (by omega) (by omega)
  have bP1 := bd (b.1.1 - a.1.1) (b.2.2 - b.1.2) (by omega) (by omega) (by omega) (by omega)
  have bP2 := bd (b.1.2 - a.1.2) (b.2.1 - b.1.1) (by omega) (by omega) (by omega) (by omega)
  have bD' : -(2 ^ 21) ≤ ucross (a.2.1 - a.1.1, a.2.2 - a.1.2) (b.2.1 - b.1.1, b.2.2 - b.1.2) ∧ ucross (a.2.1 - a.1.1, a.2.2 - a.1.2) (b.2.1 - b.1.1, b.2.2 - b.1.2) ≤ 2 ^ 21 := by
    simp only [ucross]; omega
  have bP : -(2 ^ 21) ≤ ucross (b.1.1 - a.1.1, b.1.2 - a.1.2) (b.2.1 - b.1.1, b.2.2 - b.1.2) ∧ ucross (b.1.1 - a.1.1, b.1.2 - a.1.2) (b.2.1 - b.1.1, b.2.2 - b.1.2) ≤ 2 ^ 21 := by
    simp only [ucross]; omega
  have eS : solW (ofW a) (ofW b) = atP (ofW a) ((ucross (b.1.1 - a.1.1, b.1.2 - a.1.2) (b.2.1 - b.1.1, b.2.2 - b.1.2) : Rat) / (ucross (a.2.1 - a.1.1, a.2.2 - a.1.2) (b.2.1 - b.1.1, b.2.2 - b.1.2) : Int)) := by
    rw [sol_a, cP, cD]; rfl
  have hD : ucross (a.2.1 - a.1.1, a.2.2 - a.1.2) (b.2.1 - b.1.1, b.2.2 - b.1.2) ≠ 0 := by
    intro z; apply hc
    show crs (alng (ofU a.1, ofU a.2)) (alng (ofU b.1, ofU b.2)) = 0
    rw [← cD, z]; rfl
  generalize ucross (a.2.1 - a.1.1, a.2.2 - a.1.2) (b.2.1 - b.1.1, b.2.2 - b.1.2) = D at bD' eS hD
  generalize ucross (b.1.1 - a.1.1, b.1.2 - a.1.2) (b.2.1 - b.1.1, b.2.2 - b.1.2) = P at bP eS
  have hD' : (D : Rat) ≠ 0 := by intro z; exact hD (by exact_mod_cast z)
  have fin : ∀ D P : Int, 0 < D → D ≤ 2 ^ 21 → -(2 ^ 21) ≤ P → P ≤ 2 ^ 21 → ∃ t, TOk t ∧ atP (ofW a) ((P : Rat) / D) = ofT t := by
    intro D P d0 d1 p0 p1
    have hD' : (D : Rat) ≠ 0 := by intro z; have : D = 0 := by exact_mod_cast z
                                   omega
    have q1 : (a.1.1 * D).natAbs < 2 ^ 35 := natAbs_mul_lt (a := 10) (b := 25) (by omega) (by omega)
    have q2 : (a.1.2 * D).natAbs < 2 ^ 35 := natAbs_mul_lt (a := 10) (b := 25) (by omega) (by omega)
    have q3 : (P * (a.2.1 - a.1.1)).natAbs < 2 ^ 35 := natAbs_mul_lt (a := 22) (b := 13) (by omega) (by omega)
    have q4 : (P * (a.2.2 - a.1.2)).natAbs < 2 ^ 35 := natAbs_mul_lt (a := 22) (b := 13) (by omega) (by omega)
    refine ⟨⟨a.1.1 * D + P * (a.2.1 - a.1.1), a.1.2 * D + P * (a.2.2 - a.1.2), D⟩, ⟨by simp only; omega, by simp only; omega, by simp only; omega, by simp only; omega, by simp only; omega, by simp only; omega⟩, ?_⟩
    unfold atP ofT ofW alng ofU
    simp only [Rat.intCast_add, Rat.intCast_mul, Rat.intCast_sub, Prod.mk.injEq]
    constructor <;> grind
  rw [eS]
  by_cases h : 0 < D
  · exact fin D P h (by omega) (by omega) (by omega)
  · obtain ⟨t, h1, h2⟩ := fin (-D) (-P) (by omega) (by omega) (by omega) (by omega)
    refine ⟨t, h1, ?_⟩
    rw [← h2]
    congr 1
    rw [Rat.intCast_neg, Rat.intCast_neg]
    grind
theorem sol_bd {s : Sc} {a b : UW} (hs : ScOk s) (ha : WOk 500 a) (hb : WOk 500 b) (hc : crs (alng (afw s (ofW a))) (alng (afw s (ofW b))) ≠ 0) : BP (solW (afw s (ofW a)) (afw s (ofW b))) 400 := by
  have hc' : crs (alng (ofW a)) (alng (ofW b)) ≠ 0 := fun z => hc ((crs_af0 hs _ _).mpr z)
  obtain ⟨t, ht, e⟩ := sol_units ha hb hc'
  rw [sol_af hs hc', e]
  exact (bp_afT hs ht).mono (by decide)
theorem t_meeting {a b : Wl} {S : Sto} {Q : Hold MQ} {E : Hold MXQ} (ha : BW a 400) (hb : BW b 400) (hs : crs (alng a) (alng b) ≠ 0 → BP (solW a b) 400) (k : Q.v (meD (meetW a b)) S) : @CallP sp_meeting [wlD a, wlD b] S Q E := ⟨a, b, rfl, ha, hb, hs, k⟩
end FL
namespace FL
open PySem PySem.Spec L2 ML
/-! ### rows of spots -/
def ins (s : Pt) : List Pt → List Pt
  | [] => [s]
  | t :: r => if ahead t s then t :: ins s r else if t = s then t :: r else s :: t :: r
/-- so many are ahead -/
def Pass (ps : List Pt) (s : Pt) (k : Nat) : Prop := k ≤ ps.length ∧ (∀ i (h : i < ps.length), i < k → ahead ps[i] s) ∧ (∀ i (h : i < ps.length), k ≤ i → ¬ ahead ps[i] s)
/-! ### lists as values -/
theorem deqs_map {α : Type} [DecidableEq α] {enc : α → D} (h : ∀ a b, D.deq (enc a) (enc b) = decide (a = b)) : ∀ as bs : List α, D.deqs (as.map enc) (bs.map enc) = decide (as = bs)
  | [], [] => by simp [D.deqs]
  | [], _ :: _ => by simp [D.deqs]
  | _ :: _, [] => by simp [D.deqs]
  | a :: as, b :: bs => by
    simp only [List.map_cons, D.deqs, h, deqs_map h as bs]
    rw [Bool.eq_iff_iff]
    simp only [Bool.and_eq_true, decide_eq_true_eq, List.cons.injEq]
theorem eqOk_lm {α β : Type} {f : α → D} {g : β → D} (h1 : ∀ a, D.plain (f a) = true) (h2 : ∀ a, D.plain (g a) = true) (d1 : ∀ a, D.dep (f a) ≤ 20) (d2 : ∀ a, D.dep (g a) ≤ 20) (as : List α) (bs : List β) : eqOk (.lst (as.map f)) (.lst (bs.map g)) = true :=
  eqOk_of (plains_map h1) (plains_map h2) (by have := deps_map (xs := as) d1; rw [D.dep]; omega) (by have := deps_map (xs := bs) d2; rw [D.dep]; omega)
theorem eqOk_lsp {as bs : List Pt} : eqOk (.lst (as.map spD)) (.lst (bs.map spD)) = true := eqOk_lm plain_sp plain_sp (fun a => by rw [dep_sp]; decide) (fun a => by rw [dep_sp]; decide) as bs
theorem deq_lsp {as bs : List Pt} : D.deq (.lst (as.map spD)) (.lst (bs.map spD)) = decide (as = bs) := by rw [D.deq]; exact deqs_map (fun _ _ => deq_sp) as bs
theorem memD_map {α : Type} [DecidableEq α] {enc : α → D} (h : ∀ a b, D.deq (enc a) (enc b) = decide (a = b)) (a : α) : ∀ as : List α, memD (enc a) (as.map enc) = decide (a ∈ as)
  | [] => by simp [memD]
  | b :: as => by
    have : memD (enc a) ((b :: as).map enc) = (D.deq (enc b) (enc a) || memD (enc a) (as.map enc)) := rfl
    rw [this, h, memD_map h a as, Bool.eq_iff_iff]
    simp only [Bool.or_eq_true, decide_eq_true_eq, List.mem_cons]
    constructor
    · rintro (z | z)
      · exact .inl z.symm
      · exact .inr z
    · rintro (z | z)
      · exact .inl z.symm
      · exact .inr z
theorem in_lst {α : Type} [DecidableEq α] {enc : α → D} (h : ∀ a b, D.deq (enc a) (enc b) = decide (a = b)) (h1 : ∀ a, D.plain (enc a) = true) (d1 : ∀ a, D.dep (enc a) ≤ 20) {neg : Bool} {a : α} {d : D} {as : List α} {S : Sto} {Q : MQ} (hl : look S d = .lst (as.map enc)) : rInM neg (enc a) d S Q = Q (.bl (if neg then !decide (a ∈ as) else decide (a ∈ as))) S := by
  have c : D.plain (enc a) = true ∧ D.plains (as.map enc) = true ∧ D.dep (enc a) ≤ 64 ∧ D.deps (as.map enc) ≤ 63 := ⟨h1 a, plains_map h1, by have := d1 a; omega, Nat.le_trans (deps_map d1) (by decide)⟩
  simp only [rInM, hl, memD_map h]
  exact propext ⟨fun h => h.2, fun h => ⟨c, h⟩⟩
theorem in_lu {neg : Bool} {u : U2} {us : List U2} {S : Sto} {Q : MQ} : rInM neg (uD u) (.lst (us.map uD)) S Q = Q (.bl (if neg then !decide (u ∈ us) else decide (u ∈ us))) S := by
  rw [in_lst (enc := uD) (as := us) (d := .lst (us.map uD)) (a := u) (fun a b => deq_u (p := a) (q := b)) plain_u (fun a => by rw [dep_u]; decide) rfl]
  have e : ∀ (i1 i2 : Decidable (u ∈ us)), @decide _ i1 = @decide _ i2 := fun i1 i2 => congrArg (fun i => @decide _ i) (Subsingleton.elim i1 i2)
  exact congrArg (fun b => Q (.bl (if neg then !b else b)) S) (e _ _)
/-! ### promises -/
end FL
set_option maxRecDepth 100000
namespace FL
open PySem PySem.Spec L2 ML
end FL
set_option maxRecDepth 100000
set_option maxHeartbeats 4000000
namespace FL
-- counts /tmp/scratch/dev/N_lib5.json
open PySem PySem.Spec L2 ML
end FL
namespace FL
open PySem PySem.Spec L2 ML
/-! ### walls of a plot meet at ends alone -/
def isFair (a b : Wl) : Bool := match meetW a b with
  | .no => true
  | .spot p => (decide (a.1 = p) || decide (a.2 = p)) && (decide (b.1 = p) || decide (b.2 = p))
  | .stretch _ => false
section
variable {a b : Wl}
theorem cx_ends (a b : Wl) : cx b a.2 = cx b a.1 - crs (alng a) (alng b) ∧ cx a b.2 = cx a b.1 + crs (alng a) (alng b) := by
  constructor <;> (simp only [cx, crs, alng]; grind)
theorem sol_ta (hc : crs (alng a) (alng b) ≠ 0) : solW a b = atP a (cx b a.1 / crs (alng a) (alng b)) := by
  rw [sol_a]
  congr 2
  simp only [cx, crs, alng]; grind
theorem sol_tb (hc : crs (alng a) (alng b) ≠ 0) : solW a b = atP b (- cx a b.1 / crs (alng a) (alng b)) := by
  rw [sol_b hc]
  congr 2
  simp only [cx, crs, alng]; grind
theorem atP_0 (w : Wl) : atP w 0 = w.1 := by unfold atP; apply Prod.ext <;> simp only <;> grind
theorem atP_1 (w : Wl) : atP w 1 = w.2 := by unfold atP alng; apply Prod.ext <;> simp only <;> grind
/-- the parts at which the lines cross -/
theorem part_range {x C : Rat} (hC : C ≠ 0) : (0 ≤ x / C ∧ x / C ≤ 1) ↔ (x * (x - C) ≤ 0) := by
  have key : ∀ x C : Rat, 0 < C → ((0 ≤ x / C ∧ x / C ≤ 1) ↔ (0 ≤ x ∧ x ≤ C)) := by
    intro x C h
    have l := fun a b => lt_div (a := a) (b := b) h
    have e0 : (0 : Rat) / C = 0 := by rw [Rat.div_def, Rat.zero_mul]
    have e1 : C / C = 1 := by grind
    have l1 := l x 0
    have l2 := l C x
    rw [e0] at l1
    rw [e1] at l2
    constructor
    · rintro ⟨h1, h2⟩
      constructor
      · by_cases z : x < 0
        · have := l1.mpr z; grind
        · grind
      · by_cases z : C < x
        · have := l2.mpr z; grind
        · grind
    · rintro ⟨h1, h2⟩
      constructor
      · by_cases z : x / C < 0
        · have := l1.mp z; grind
        · grind
      · by_cases z : 1 < x / C
        · have := l2.mp z; grind
        · grind
  have sq : ∀ x C : Rat, 0 < C → ((0 ≤ x ∧ x ≤ C) ↔ x * (x - C) ≤ 0) := by
    intro x C h
    constructor
    · rintro ⟨h1, h2⟩
      have := Rat.mul_nonneg h1 (show 0 ≤ C - x by grind)
      grind
    · intro z
      constructor
      · by_cases y : x < 0
        · have := Rat.mul_pos (show 0 < -x by grind) (show 0 < C - x by grind); grind
        · grind
      · by_cases y : C < x
        · have := Rat.mul_pos (show 0 < x by grind) (show 0 < x - C by grind); grind
        · grind
  by_cases h : 0 < C
  · rw [key x C h, sq x C h]
  · have e : x / C = (-x) / (-C) := by grind
    rw [e, key (-x) (-C) (by grind), sq (-x) (-C) (by grind)]
    have : -x * (-x - -C) = x * (x - C) := by grind
    rw [this]
theorem lies_sol_a (ha : Up a) (hc : crs (alng a) (alng b) ≠ 0) : liesOn a (solW a b) ↔ cx b a.1 * cx b a.2 ≤ 0 := by
  rw [sol_ta hc, liesOn_part ha, part_range hc, (cx_ends a b).1]
theorem lies_sol_b (hb : Up b) (hc : crs (alng a) (alng b) ≠ 0) : liesOn b (solW a b) ↔ cx a b.1 * cx a b.2 ≤ 0 := by
  rw [sol_tb hc, liesOn_part hb, part_range hc, (cx_ends a b).2]
  have : -cx a b.1 * (-cx a b.1 - crs (alng a) (alng b)) = cx a b.1 * (cx a b.1 + crs (alng a) (alng b)) := by grind
  rw [this]
theorem sol_eq_a1 (hc : crs (alng a) (alng b) ≠ 0) (h : cx b a.1 = 0) : solW a b = a.1 := by
  rw [sol_ta hc, h, Rat.div_def, Rat.zero_mul, atP_0]
theorem sol_eq_a2 (hc : crs (alng a) (alng b) ≠ 0) (h : cx b a.2 = 0) : solW a b = a.2 := by
  rw [sol_ta hc]
  have e := (cx_ends a b).1
  have : cx b a.1 / crs (alng a) (alng b) = 1 := by grind
  rw [this, atP_1]
theorem not_ahead_iff {p q : Pt} : ¬ ahead p q ↔ q = p ∨ ahead q p := by
  constructor
  · intro h
    rcases ahead_tri p q with z | z | z
    · exact absurd z h
    · exact .inl z.symm
    · exact .inr z
  · rintro (z | z)
    · subst z; exact ahead_irrefl _
    · exact ahead_asymm z
theorem le_lt {p q r : Pt} (h : ¬ ahead q p) (k : ahead q r) : ahead p r := by
  rcases not_ahead_iff.mp h with z | z
  · rw [z]; exact k
  · exact ahead_trans z k
theorem lt_le {p q r : Pt} (h : ahead p q) (k : ¬ ahead r q) : ahead p r := by
  rcases not_ahead_iff.mp k with z | z
  · rw [← z]; exact h
  · exact ahead_trans h z
/-- collinear: an end of the one on the other one's line -/
theorem par_zero (ha : Up a) (hb : Up b) (hc : crs (alng a) (alng b) = 0) (h : cx a b.1 = 0) : cx a b.2 = 0 ∧ cx b a.1 = 0 ∧ cx b a.2 = 0 := by
  have e := cx_ends a b
  have pa := ahead_posv.mp ha.up
  have k1 : cx b a.1 * (alng a).1 = - (cx a b.1 * (alng b).1) := by
    have : cx b a.1 * (alng a).1 + cx a b.1 * (alng b).1 = (b.1.1 - a.1.1) * crs (alng a) (alng b) := by simp only [cx, crs, alng]; grind
    rw [hc] at this; grind
  have k2 : cx b a.1 * (alng a).2 = - (cx a b.1 * (alng b).2) := by
    have : cx b a.1 * (alng a).2 + cx a b.1 * (alng b).2 = (b.1.2 - a.1.2) * crs (alng a) (alng b) := by simp only [cx, crs, alng]; grind
    rw [hc] at this; grind
  have z : cx b a.1 = 0 := by
    rw [h] at k1 k2
    rcases pa with y | ⟨y, y2⟩
    · have h1 : cx b a.1 * (alng a).1 = 0 := by grind
      rcases Rat.mul_eq_zero.mp h1 with w | w
      · exact w
      · simp only [alng, sb] at w y; grind
    · have h1 : cx b a.1 * (alng a).2 = 0 := by grind
      rcases Rat.mul_eq_zero.mp h1 with w | w
      · exact w
      · simp only [alng, sb] at w y2; grind
  exact ⟨by grind, z, by grind⟩
theorem fair_isFair (ha : Up a) (hb : Up b) (f : FairW a b) : isFair a b = true := by
  unfold isFair meetW
  by_cases hc : crs (alng a) (alng b) = 0
  · rw [if_pos hc]
    unfold inLine
    by_cases hs : side a b.1 ≠ 0
    · rw [if_pos hs]
    · rw [if_neg hs]
      have h0 : cx a b.1 = 0 := sgn_0.mp (by simpa [side_cx] using hs)
      obtain ⟨h1, h2, h3⟩ := par_zero ha hb hc h0
      by_cases he : maxP a.1 b.1 = minP a.2 b.2
      · rw [if_pos he]
        simp only
        generalize hp : maxP a.1 b.1 = p at he ⊢
        have m1 : p = a.1 ∨ p = b.1 := by rw [← hp]; unfold maxP; split <;> simp
        have m2 : p = a.2 ∨ p = b.2 := by rw [he]; unfold minP; split <;> simp
        have na := ahead_ne ha.up
        have nb := ahead_ne hb.up
        rcases m1 with m1 | m1 <;> rcases m2 with m2 | m2
        · exact absurd (m1.symm.trans m2) na
        · simp [← m1, ← m2]
        · simp [← m1, ← m2]
        · exact absurd (m1.symm.trans m2) nb
      · rw [if_neg he]
        by_cases hl : ahead (maxP a.1 b.1) (minP a.2 b.2)
        · exfalso
          have sa : ∀ p, cx a p = 0 → side a p = 0 := fun p h => by rw [side_cx, h]; rfl
          have sb' : ∀ p, cx b p = 0 → side b p = 0 := fun p h => by rw [side_cx, h]; rfl
          have l1 : ¬ ahead (maxP a.1 b.1) a.1 ∧ ¬ ahead (maxP a.1 b.1) b.1 := by
            unfold maxP; split
            · next z => exact ⟨ahead_asymm z, ahead_irrefl _⟩
            · next z => exact ⟨ahead_irrefl _, z⟩
          have l2 : ¬ ahead a.2 (minP a.2 b.2) ∧ ¬ ahead b.2 (minP a.2 b.2) := by
            unfold minP; split
            · next z => exact ⟨ahead_asymm z, ahead_irrefl _⟩
            · next z => exact ⟨ahead_irrefl _, z⟩
          have q1 : ahead a.1 (minP a.2 b.2) := le_lt l1.1 hl
          have q2 : ahead b.1 (minP a.2 b.2) := le_lt l1.2 hl
          have q3 : ahead (maxP a.1 b.1) a.2 := lt_le hl l2.1
          have q4 : ahead (maxP a.1 b.1) b.2 := lt_le hl l2.2
          have e1 : a.1 = b.1 := by
            rcases ahead_tri a.1 b.1 with z | z | z
            · have m : maxP a.1 b.1 = b.1 := by unfold maxP; rw [if_pos z]
              rw [m] at q3 q4
              rcases f.e1 ⟨ahead_asymm z, ahead_asymm q3, sa _ h0⟩ with y | y
              · exact y.symm
              · exact absurd y (ahead_ne q3)
            · exact z
            · have m : maxP a.1 b.1 = a.1 := by unfold maxP; rw [if_neg (ahead_asymm z)]
              rw [m] at q3 q4
              rcases f.e3 ⟨ahead_asymm z, ahead_asymm q4, sb' _ h2⟩ with y | y
              · exact y
              · exact absurd y (ahead_ne q4)
          have e2 : a.2 = b.2 := by
            rcases ahead_tri a.2 b.2 with z | z | z
            · have m : minP a.2 b.2 = a.2 := by unfold minP; rw [if_neg (ahead_asymm z)]
              rw [m] at q1 q2
              rcases f.e4 ⟨ahead_asymm q2, ahead_asymm z, sb' _ h3⟩ with y | y
              · exact absurd y.symm (ahead_ne q2)
              · exact y
            · exact z
            · have m : minP a.2 b.2 = b.2 := by unfold minP; rw [if_pos z]
              rw [m] at q1 q2
              rcases f.e2 ⟨ahead_asymm q1, ahead_asymm z, sa _ h1⟩ with y | y
              · exact absurd y.symm (ahead_ne q1)
              · exact y.symm
          exact f.ne (Prod.ext e1 e2)
        · rw [if_neg hl]
  · rw [if_neg hc]
    by_cases hx : liesOn a (solW a b) ∧ liesOn b (solW a b)
    · rw [if_pos hx]
      obtain ⟨x1, x2⟩ := hx
      have p1 := (lies_sol_a ha hc).mp x1
      have p2 := (lies_sol_b hb hc).mp x2
      have hc2 : crs (alng b) (alng a) ≠ 0 := by rw [crs_swap]; grind
      have sS := sol_symm hc
      simp only [Bool.and_eq_true, Bool.or_eq_true, decide_eq_true_eq]
      have z : cx b a.1 * cx b a.2 = 0 ∨ cx a b.1 * cx a b.2 = 0 := by
        rcases f.cr with y | y
        · right; grind
        · left; grind
      rcases z with z | z <;> rcases Rat.mul_eq_zero.mp z with y | y
      · have e := sol_eq_a1 hc y
        rw [e] at x2 ⊢
        rcases f.e3 x2 with w | w
        · exact ⟨.inl rfl, .inl w.symm⟩
        · exact ⟨.inl rfl, .inr w.symm⟩
      · have e := sol_eq_a2 hc y
        rw [e] at x2 ⊢
        rcases f.e4 x2 with w | w
        · exact ⟨.inr rfl, .inl w.symm⟩
        · exact ⟨.inr rfl, .inr w.symm⟩
      · have e := sol_eq_a1 hc2 y
        rw [sS] at e
        rw [e] at x1 ⊢
        rcases f.e1 x1 with w | w
        · exact ⟨.inl w.symm, .inl rfl⟩
        · exact ⟨.inr w.symm, .inl rfl⟩
      · have e := sol_eq_a2 hc2 y
        rw [sS] at e
        rw [e] at x1 ⊢
        rcases f.e2 x1 with w | w
        · exact ⟨.inl w.symm, .inr rfl⟩
        · exact ⟨.inr w.symm, .inr rfl⟩
    · rw [if_neg hx]
end
end FL
namespace FL
open PySem PySem.Spec L2 ML
/-! ### plots -/
def solB (a b : Wl) : Prop := crs (alng a) (alng b) ≠ 0 → BP (solW a b) 400
def unfairAt (ws : List Wl) (w : Wl) : Option Nat := ws.findIdx? fun v => !isFair w v
def onD : Option Nat → D
  | none => .non
  | some n => .int n
/-- a list that is a value or of the store -/
inductive LstK (S : Sto) : D → List D → Prop
  | lst {ds : List D} : LstK S (.lst ds) ds
  | ref {q : Addr} {ds : List D} : S q = some (.lst ds) → LstK S (.ref q) ds
theorem LstK.of {S : Sto} {d : D} {ds : List D} (h : LstK S d ds) : lstOf S d = some ds := by
  cases h with
  | lst => rfl
  | ref h => simp only [lstOf, h]
theorem in_wl {neg : Bool} {p : Pt} {w : Wl} {S : Sto} {Q : MQ} : rInM neg (spD p) (wlD w) S Q = Q (.bl (if neg then !(decide (w.1 = p) || decide (w.2 = p)) else (decide (w.1 = p) || decide (w.2 = p)))) S := by
  have e : look S (wlD w) = .tup [spD w.1, spD w.2] := rfl
  have m : memD (spD p) [spD w.1, spD w.2] = (decide (w.1 = p) || decide (w.2 = p)) := by
    show (D.deq (spD w.1) (spD p) || (D.deq (spD w.2) (spD p) || false)) = _
    rw [deq_sp, deq_sp, Bool.or_false]
  have c : D.plain (spD p) = true ∧ D.plains [spD w.1, spD w.2] = true ∧ D.dep (spD p) ≤ 64 ∧ D.deps [spD w.1, spD w.2] ≤ 63 :=
    ⟨plain_sp p, plain_wl w, by rw [dep_sp]; decide, by have := dep_wl w; rw [wlD, D.dep] at this; omega⟩
  simp only [rInM, e, m]
  exact propext ⟨fun h => h.2, fun h => ⟨c, h⟩⟩
def sp_is_fair : MSp := fun ds S Q _ => ∃ a b : Wl, ds = [wlD a, wlD b] ∧ BW a 400 ∧ BW b 400 ∧ solB a b ∧ Q (.bl (isFair a b)) S
def sp_unfair_with : MSp := fun ds S Q _ => ∃ (d : D) (ws : List Wl) (w : Wl), ds = [d, wlD w] ∧ LstK S d (ws.map wlD) ∧ ws.length ≤ 1000 ∧ BW w 400 ∧ (∀ v ∈ ws, BW v 400 ∧ solB w v) ∧ Q (onD (unfairAt ws w)) S
/-- a plot's walls meet at ends alone -/
def Fairs (ws : List Wl) : Prop := ws.Pairwise fun a b => isFair b a = true
theorem unfair_none {ws : List Wl} {w : Wl} (h : ∀ v ∈ ws, isFair w v = true) : unfairAt ws w = none := by
  unfold unfairAt
  rw [List.findIdx?_eq_none_iff]
  intro v hv; simp [h v hv]
theorem t_is_fair {a b : Wl} {S : Sto} {Q : Hold MQ} {E : Hold MXQ} (ha : BW a 400) (hb : BW b 400) (hs : solB a b) (k : Q.v (.bl (isFair a b)) S) : @CallP sp_is_fair [wlD a, wlD b] S Q E := ⟨a, b, rfl, ha, hb, hs, k⟩
end FL
set_option maxRecDepth 100000
namespace FL
open PySem PySem.Spec L2 ML
def b_is_fair : MS := (mSeq (mSet 2 (mCall FL.sp_meeting (mCons (mVar 0) (mCons (mVar 1) mNil))))
  (mSeq (mIfS (mTst (mOp rIsN (mVar 2) (mC .non))) (mRet (mC (.bl true))) mNext)
  (mRet (mAndV (mOp rEqM (mOp rIxM (mVar 2) (mC (.int 0))) (mC (.str "spot"))) (mAndV (mOp (rInM false) (mOp rIxM (mVar 2) (mC (.int 1))) (mVar 0)) (mOp (rInM false) (mOp rIxM (mVar 2) (mC (.int 1))) (mVar 1)))))))
def b_unfair_with : MS := (mSeq (mFor (iEn (mCons (mVar 0) mNil)) (gTp 2 (gCn (gNm 2) (gCn (gNm 3) gNl))) (mIfS (mNot (mTru (mCall FL.sp_is_fair (mCons (mVar 1) (mCons (mVar 3) mNil))))) (mRet (mVar 2)) mNext))
  (mRet (mC .non)))
end FL
set_option maxRecDepth 100000
set_option maxHeartbeats 4000000
namespace FL
-- counts /tmp/scratch/dev/N_lib6.json
open PySem PySem.Spec L2 ML
theorem l_is_fair : ∀ ds S Q E, FL.sp_is_fair ds S Q E → ds.length = 2 := by rintro _ _ _ _ ⟨_, _, rfl, _⟩; rfl
theorem l_unfair_with : ∀ ds S Q E, FL.sp_unfair_with ds S Q E → ds.length = 2 := by rintro _ _ _ _ ⟨_, _, _, rfl, _⟩; rfl
theorem r_is_fair : ∀ ds S Q E, FL.sp_is_fair ds S Q E → b_is_fair (mends Q E) (mstart 1 ds) S := by
  rintro _ S Q E ⟨a, b, rfl, ha, hb, hs, k⟩
  unfold b_is_fair
  simp only [ML.q_mstart, ML.q_mends, List.map_cons, List.map_nil, List.replicate, List.cons_append, List.nil_append]
  simp only [gz1]
  refine t_meeting ha hb hs ?_
  simp only [gz1]
  unfold isFair at k
  have hw : ¬ (("stretch" : Str) = "spot") := by decide +kernel
  have o1 : eqOk (.str "spot") (.str "spot") = true := by decide +kernel
  have o2 : eqOk (.str "stretch") (.str "spot") = true := by decide +kernel
  cases e : meetW a b with
  | no => rw [e] at k; simp only [gz1, meD]; exact k
  | spot p =>
    rw [e] at k
    simp only [gz1, meD, o1, in_wl]
    simp only at k
    generalize (decide (a.1 = p) || decide (a.2 = p)) = x at k ⊢
    cases x
    · simp only [gz1, meD, o1, in_wl]; exact k
    · simp only [gz1, meD, o1, in_wl]; exact k
  | stretch w =>
    rw [e] at k; simp only [gz1, meD, o2, hw]; exact k
theorem r_unfair_with : ∀ ds S Q E, FL.sp_unfair_with ds S Q E → b_unfair_with (mends Q E) (mstart 2 ds) S := by
  rintro _ S Q E ⟨d, ws, w, rfl, hd, hz, hb, hv, k⟩
  unfold b_unfair_with
  simp only [ML.q_mstart, ML.q_mends, List.map_cons, List.map_nil, List.replicate, List.cons_append, List.nil_append]
  simp only [gz1, ML.q_iEn, hd.of]
  refine wfor_inv (fun i σ S' => @KP ⟨(∃ a b, σ = [some d, some (wlD w), a, b]) ∧ S' = S ∧ ∀ v ∈ ws.take i, isFair w v = true⟩) ⟨⟨_, _, rfl⟩, rfl, fun v hv => by simp at hv⟩ ?_ ?_
  · rintro i x σ S' hx ⟨⟨a, b, rfl⟩, rfl, hf⟩
    obtain ⟨y, hy, rfl⟩ := enumD_get hx
    rw [List.getElem?_map] at hy
    cases ea : ws[i]? with
    | none => rw [ea] at hy; cases hy
    | some v =>
      rw [ea] at hy; cases hy
      have hm : v ∈ ws := List.mem_of_getElem? ea
      refine ⟨hd.of, ?_⟩
      simp only [gz1]
      refine t_is_fair hb (hv v hm).1 (hv v hm).2 ?_
      simp only [gz1]
      refine ⟨fun h => ?_, fun h => ?_⟩
      · simp only [gz1]
        have e : unfairAt ws w = some i := by
          unfold unfairAt
          rw [List.findIdx?_eq_some_iff_getElem]
          obtain ⟨hi, ei⟩ := List.getElem?_eq_some_iff.mp ea
          refine ⟨hi, by rw [ei, h]; rfl, fun j hj => ?_⟩
          have := hf ws[j] (List.mem_take_iff_getElem.mpr ⟨j, by omega, rfl⟩)
          rw [this]; simp
        rw [e] at k
        exact k
      · simp only [gz1]
        refine KP.mk ⟨⟨_, _, rfl⟩, rfl, fun u hu => ?_⟩
        rw [List.take_add_one, ea] at hu
        rcases List.mem_append.mp hu with z | z
        · exact hf u z
        · have : u = v := by simpa using z
          rw [this]; simpa using h
  · rintro σ S' ⟨⟨a, b, rfl⟩, rfl, hf⟩
    rw [enumD_len, List.length_map, List.take_length] at hf
    refine ⟨hd.of, ?_⟩
    simp only [gz1]
    rw [unfair_none hf] at k
    exact k
end FL
namespace FL
open PySem PySem.Spec L2 ML
/-! ### plots drawn in units -/
/-- the drawn plot itself -/
def pltW (s : Sc) (ws : List UW) : List Wl := ws.map fun w => afw s (ofW w)
theorem plt_enc (s : Sc) (ws : List UW) : (ws.map fun w => wlD (afw s (ofW w))) = (pltW s ws).map wlD := by unfold pltW; rw [List.map_map]; rfl
theorem plt_len (s : Sc) (ws : List UW) : (pltW s ws).length = ws.length := List.length_map ..
section
variable {m : Nat} {z : Int} {ws : List UW} {s : Sc}
theorem Drawn.wok (h : Drawn m z ws) (hz : z ≤ 500) {w : UW} (hw : w ∈ ws) : WOk 500 w := by
  have := h.lo w hw
  exact ⟨⟨by omega, by omega, by omega, by omega⟩, ⟨by omega, by omega, by omega, by omega⟩⟩
theorem Drawn.bw (h : Drawn m z ws) (hs : ScOk s) (hz : z ≤ 500) : ∀ v ∈ pltW s ws, BW v 400 := by
  intro v hv
  obtain ⟨w, hw, rfl⟩ := List.mem_map.mp hv
  exact BW.mono (h := bw_afw hs ((h.wok hz hw).mono (by decide))) (by decide)
theorem Drawn.sol (h : Drawn m z ws) (hs : ScOk s) (hz : z ≤ 500) {a b : Wl} (ha : a ∈ pltW s ws) (hb : b ∈ pltW s ws) : solB a b := by
  obtain ⟨w, hw, rfl⟩ := List.mem_map.mp ha
  obtain ⟨v, hv, rfl⟩ := List.mem_map.mp hb
  exact sol_bd hs (h.wok hz hw) (h.wok hz hv)
theorem Drawn.sols (h : Drawn m z ws) (hs : ScOk s) (hz : z ≤ 500) : (pltW s ws).Pairwise fun a b => solB b a :=
  List.pairwise_iff_getElem.mpr fun i j hi hj _ => h.sol hs hz (List.getElem_mem hj) (List.getElem_mem hi)
theorem Drawn.upA (h : Drawn m z ws) (hs : ScOk s) : ∀ v ∈ pltW s ws, Up v := by
  intro v hv
  obtain ⟨w, hw, rfl⟩ := List.mem_map.mp hv
  exact ⟨(ahead_af hs _ _).mpr (h.up' hw).1⟩
theorem Drawn.fairA (h : Drawn m z ws) (hs : ScOk s) : (pltW s ws).Pairwise fun a b => FairW b a := by
  refine List.pairwise_iff_getElem.mpr fun i j hi hj hij => ?_
  have hi' : i < ws.length := by rw [plt_len] at hi; exact hi
  have hj' : j < ws.length := by rw [plt_len] at hj; exact hj
  have e : ∀ k (hk : k < (pltW s ws).length) (hk' : k < ws.length), (pltW s ws)[k] = afw s (ofW ws[k]) := fun k hk hk' => List.getElem_map (fun w => afw s (ofW w))
  rw [e i hi hi', e j hj hj']
  exact fairW_af hs (h.fairW (i := j) (j := i) (by omega) (List.getElem?_eq_getElem hj') (List.getElem?_eq_getElem hi'))
theorem Drawn.fairs (h : Drawn m z ws) (hs : ScOk s) : Fairs (pltW s ws) := by
  refine List.pairwise_iff_getElem.mpr fun i j hi hj hij => ?_
  exact fair_isFair (h.upA hs _ (List.getElem_mem hj)) (h.upA hs _ (List.getElem_mem hi)) (List.pairwise_iff_getElem.mp (h.fairA hs) i j hi hj hij)
end
end FL
set_option maxRecDepth 100000
set_option maxHeartbeats 1000000
/-! # texts of fractions, spots, walls: what is shown is read again -/
namespace FL
open PySem PySem.Spec L2 TL ML
def ofL (l : List Nat) : Str := ⟨l.toArray⟩
theorem tl_ofL {l : List Nat} : tl (ofL l) = l := rfl
theorem ofL_len {l : List Nat} : (ofL l).length = l.length := by rw [len_tl]; rfl
theorem ofL_app {a b : List Nat} : ofL a ++ ofL b = ofL (a ++ b) := ext_tl (tl_append _ _)
theorem str_ofL (x : Str) : x = ofL (tl x) := (mk_tl x).symm
theorem ofL_inj {a b : List Nat} : ofL a = ofL b ↔ a = b := ⟨fun h => congrArg tl h, fun h => h ▸ rfl⟩
theorem ofL_nil : Str.empty = ofL [] := rfl
def intL : Int → List Nat
  | .ofNat n => numL n
  | .negSucc n => 45 :: numL (n + 1)
theorem strI_L (i : Int) : strI i = ofL (intL i) := by
  refine ext_tl ?_
  cases i with
  | ofNat n => exact tl_num n
  | negSucc n =>
    have h := tl_num (n + 1)
    unfold strI
    rw [tl_ofString] at h ⊢
    have e : toString (Int.negSucc n) = "-" ++ toString (((n + 1 : Nat) : Nat) : Int) := rfl
    rw [e, String.toList_append, List.map_append, h]
    rfl
theorem intL_len {i : Int} {k : Nat} (hk : 0 < k) (h : i.natAbs < 10 ^ k) : (intL i).length ≤ k + 1 := by
  cases i with
  | ofNat n => exact Nat.le_succ_of_le (numL_len hk h)
  | negSucc n => exact Nat.succ_le_succ (numL_len hk h)
theorem intL_free {i : Int} {s : Nat} (h1 : s ≠ 45) (h : s < 48 ∨ 57 < s) : s ∉ intL i := by
  cases i with
  | ofNat n => exact numL_free h
  | negSucc n => exact fun hm => by rcases List.mem_cons.mp hm with e | e; exact h1 e; exact numL_free h e
/-- the text of a fraction -/
def shL (q : Rat) : List Nat := if q.den = 1 then intL q.num else intL q.num ++ 47 :: numL q.den
theorem shL_free {q : Rat} {s : Nat} (h1 : s ≠ 45) (h2 : s ≠ 47) (h : s < 48 ∨ 57 < s) : s ∉ shL q := by
  unfold shL
  split
  · exact intL_free h1 h
  · intro hm
    rcases List.mem_append.mp hm with e | e
    · exact intL_free h1 h e
    · rcases List.mem_cons.mp e with e | e; exact h2 e; exact numL_free h e
theorem shL_len {q : Rat} {k : Nat} (hk : 0 < k) (h : q.num.natAbs < 10 ^ k) (h2 : q.den < 10 ^ k) : (shL q).length ≤ 2 * k + 2 := by
  unfold shL
  have := intL_len hk h
  have := numL_len hk h2
  split
  · omega
  · rw [List.length_append, List.length_cons]; omega
/-- a whole number's signs -/
def wholeL (l : List Nat) : Bool := decide (1 ≤ l.length ∧ l.length ≤ 30) && l.all (fun c => decide (c ∈ ([48, 49, 50, 51, 52, 53, 54, 55, 56, 57] : List Nat))) && (decide (l.head? ≠ some 48) || decide (l = [48]))
theorem figs_iff {c : Nat} : c ∈ ([48, 49, 50, 51, 52, 53, 54, 55, 56, 57] : List Nat) ↔ 48 ≤ c ∧ c ≤ 57 := by simp; omega
theorem wholeL_digits {l : List Nat} (h : wholeL l = true) : NumText.AllDigits l ∧ l ≠ [] ∧ l.length ≤ 30 := by
  simp only [wholeL, Bool.and_eq_true, decide_eq_true_eq, List.all_eq_true] at h
  obtain ⟨⟨⟨h1, h2⟩, h3⟩, -⟩ := h
  exact ⟨fun c hc => figs_iff.mp (h3 c hc), fun e => by rw [e] at h1; simp at h1, h2⟩
theorem numL_head {n : Nat} (h : n ≠ 0) : (numL n).head? ≠ some 48 := by
  induction n using Nat.strongRecOn with
  | _ n ih =>
    by_cases h9 : n < 10
    · rw [numL_lt h9]; simp only [List.head?_cons]; intro e; injection e with e; omega
    · rw [numL_step (by omega)]
      have := ih (n / 10) (by omega) (by omega)
      cases hh : numL (n / 10) with
      | nil => exact absurd hh (numL_ne _)
      | cons a l => rw [hh] at this; exact this
theorem numL_zero : numL 0 = [48] := numL_lt (by decide)
theorem whole_numL {n : Nat} (h : n < 10 ^ 30) : wholeL (numL n) = true := by
  have hl := numL_len (k := 30) (by decide) h
  have hp : 1 ≤ (numL n).length := List.length_pos_iff.mpr (numL_ne n)
  simp only [wholeL, Bool.and_eq_true, decide_eq_true_eq, List.all_eq_true, Bool.or_eq_true]
  refine ⟨⟨⟨hp, hl⟩, fun c hc => figs_iff.mpr (numL_digits n c hc)⟩, ?_⟩
  by_cases h0 : n = 0
  · right; rw [h0]; exact numL_zero
  · left; exact numL_head h0
/-- the signs without a leading sign of nought -/
def figL (t : List Nat) : List Nat := if t.take 1 = [45] then t.drop 1 else t
/-- the number of such signs -/
def signL (t : List Nat) : Int := if t.take 1 = [45] then -((NumText.digitsVal (t.drop 1) : Nat) : Int) else (NumText.digitsVal t : Nat)
def fracIn (l : List Nat) : Option Rat :=
  match par [47] [] l with
  | none => if wholeL (figL l) && !decide (l = [45, 48]) then some (signL l : Int) else none
  | some (t, b) => if wholeL (figL t) && !decide (t = [45, 48]) && wholeL b && !decide (b = [48] ∨ b = [49]) && decide (Nat.gcd (NumText.digitsVal (figL t)) (NumText.digitsVal b) = 1) then some (Rat.divInt (signL t) (NumText.digitsVal b : Nat)) else none
def Fig (q : Rat) : Prop := q.num.natAbs < 10 ^ 30 ∧ q.den < 10 ^ 30
theorem figL_num {n : Nat} : figL (numL n) = numL n := by
  unfold figL
  rw [if_neg]
  intro e
  cases hh : numL n with
  | nil => exact numL_ne n hh
  | cons a l =>
    rw [hh] at e
    simp only [List.take_succ_cons, List.take_zero, List.cons.injEq, and_true] at e
    have := numL_digits n a (by rw [hh]; exact List.mem_cons_self)
    omega
theorem signL_num {n : Nat} : signL (numL n) = (n : Int) := by
  unfold signL
  rw [if_neg, numL_val]
  intro e
  cases hh : numL n with
  | nil => exact numL_ne n hh
  | cons a l =>
    rw [hh] at e
    simp only [List.take_succ_cons, List.take_zero, List.cons.injEq, and_true] at e
    have := numL_digits n a (by rw [hh]; exact List.mem_cons_self)
    omega
theorem intL_all (i : Int) (h : i.natAbs < 10 ^ 30) : wholeL (figL (intL i)) = true ∧ intL i ≠ [45, 48] ∧ signL (intL i) = i ∧ NumText.digitsVal (figL (intL i)) = i.natAbs := by
  cases i with
  | ofNat n =>
    show wholeL (figL (numL n)) = true ∧ numL n ≠ _ ∧ signL (numL n) = _ ∧ NumText.digitsVal (figL (numL n)) = n
    rw [figL_num, signL_num, numL_val]
    refine ⟨whole_numL h, fun e => ?_, rfl, rfl⟩
    have := numL_digits n 45 (by rw [e]; exact List.mem_cons_self)
    omega
  | negSucc n =>
    have f : figL (45 :: numL (n + 1)) = numL (n + 1) := rfl
    have g : signL (45 :: numL (n + 1)) = -((NumText.digitsVal (numL (n + 1)) : Nat) : Int) := rfl
    show wholeL (figL (45 :: numL (n + 1))) = true ∧ 45 :: numL (n + 1) ≠ _ ∧ signL (45 :: numL (n + 1)) = _ ∧ NumText.digitsVal (figL (45 :: numL (n + 1))) = n + 1
    rw [f, g, numL_val]
    refine ⟨whole_numL h, fun e => ?_, rfl, rfl⟩
    injection e with _ e
    have : NumText.digitsVal (numL (n + 1)) = 0 := by rw [e]; rfl
    rw [numL_val] at this
    omega
/-- THE READ-BACK of a fraction -/
theorem frac_back {q : Rat} (h : Fig q) : fracIn (shL q) = some q := by
  obtain ⟨h1, h2⟩ := h
  obtain ⟨w, x, s, d⟩ := intL_all q.num h1
  have fr : (47 : Nat) ∉ intL q.num := intL_free (by decide) (by decide)
  by_cases h3 : q.den = 1
  · have e : shL q = intL q.num := by unfold shL; rw [if_pos h3]
    have hp : par [47] [] (shL q) = none := by rw [e]; exact par_none1 fr
    unfold fracIn
    rw [hp, e]
    dsimp only
    rw [if_pos (by rw [w, decide_eq_false x]; rfl), s]
    congr 1
    exact Rat.ext rfl h3.symm
  · have e : shL q = intL q.num ++ ([47] ++ numL q.den) := by unfold shL; rw [if_neg h3]; rfl
    have hp : par [47] [] (shL q) = some (intL q.num, numL q.den) := by rw [e, par_part1 fr]; rfl
    have hb : ¬ (numL q.den = [48] ∨ numL q.den = [49]) := by
      rintro (e | e)
      · have : NumText.digitsVal (numL q.den) = 0 := by rw [e]; rfl
        rw [numL_val] at this; exact absurd this (Nat.ne_of_gt q.den_pos)
      · have : NumText.digitsVal (numL q.den) = 1 := by rw [e]; rfl
        rw [numL_val] at this; exact h3 this
    unfold fracIn
    rw [hp]
    dsimp only
    rw [d, numL_val, s, w, whole_numL h2, decide_eq_false x, decide_eq_false hb, decide_eq_true q.reduced]
    rw [if_pos (by decide)]
    congr 1
    exact Rat.num_divInt_den q
def spotIn (a b : List Nat) : Option Pt := match fracIn a, fracIn b with
  | some x, some y => some (x, y)
  | _, _ => none
def WALL : List Nat := [119, 97, 108, 108]
def wallIn : List (List Nat) → Option Wl
  | [w, a, b, c, d] => if w = WALL then match spotIn a b, spotIn c d with
    | some u, some v => if ahead u v then some (u, v) else none
    | _, _ => none else none
  | _ => none
def wordsL (w : Wl) : List (List Nat) := [WALL, shL w.1.1, shL w.1.2, shL w.2.1, shL w.2.2]
def waL (w : Wl) : List Nat := joinL [32] (wordsL w)
def FigW (w : Wl) : Prop := Fig w.1.1 ∧ Fig w.1.2 ∧ Fig w.2.1 ∧ Fig w.2.2
theorem wall_back {w : Wl} (h : FigW w) (ha : ahead w.1 w.2) : wallIn (wordsL w) = some w := by
  obtain ⟨h1, h2, h3, h4⟩ := h
  simp only [wordsL, wallIn, spotIn, frac_back h1, frac_back h2, frac_back h3, frac_back h4]
  rw [if_pos trivial, if_pos ha]
theorem words_free {w : Wl} {s : Nat} (h0 : s ∉ WALL) (h1 : s ≠ 45) (h2 : s ≠ 47) (h : s < 48 ∨ 57 < s) : ∀ p ∈ wordsL w, s ∉ p := by
  intro p hp
  simp only [wordsL, List.mem_cons, List.not_mem_nil, or_false] at hp
  rcases hp with rfl | rfl | rfl | rfl | rfl
  · exact h0
  all_goals exact shL_free h1 h2 h
theorem joinL_mem {S : List Nat} {c : Nat} : ∀ {ps : List (List Nat)}, c ∈ joinL S ps → c ∈ S ∨ ∃ p ∈ ps, c ∈ p
  | [], h => by simp [joinL] at h
  | [p], h => .inr ⟨p, List.mem_singleton.mpr rfl, h⟩
  | p :: q :: r, h => by
    rcases List.mem_append.mp h with h | h
    · exact .inr ⟨p, List.mem_cons_self, h⟩
    · rcases List.mem_append.mp h with h | h
      · exact .inl h
      · rcases joinL_mem h with h | ⟨x, hx, h⟩
        · exact .inl h
        · exact .inr ⟨x, List.mem_cons_of_mem _ hx, h⟩
theorem waL_free {w : Wl} : (10 : Nat) ∉ waL w := fun h => by
  rcases joinL_mem h with h | ⟨p, hp, h⟩
  · simp at h
  · exact words_free (by decide) (by decide) (by decide) (by decide) p hp h
theorem wa_split {w : Wl} : spl [32] 0 [] (waL w) = wordsL w := spl_join (by simp [wordsL]) (words_free (by decide) (by decide) (by decide) (by decide))
theorem waL_ne {w : Wl} : waL w ≠ [] := fun h => by simp [waL, wordsL, joinL, WALL] at h
theorem joinL_len {S : List Nat} {m : Nat} : ∀ {ps : List (List Nat)}, (∀ p ∈ ps, p.length ≤ m) → (joinL S ps).length ≤ ps.length * (m + S.length)
  | [], _ => Nat.zero_le _
  | [p], h => by have := h p (List.mem_singleton.mpr rfl); show p.length ≤ 1 * _; omega
  | p :: q :: r, h => by
    have := h p List.mem_cons_self
    have := joinL_len (S := S) (ps := q :: r) fun x hx => h x (List.mem_cons_of_mem _ hx)
    show (p ++ (S ++ joinL S (q :: r))).length ≤ _
    rw [List.length_append, List.length_append, List.length_cons (a := p), Nat.succ_mul]
    omega
theorem waL_len {w : Wl} (h : FigW w) : (waL w).length ≤ 500 := by
  obtain ⟨h1, h2, h3, h4⟩ := h
  refine Nat.le_trans (joinL_len (m := 62) fun p hp => ?_) (by decide : 5 * (62 + 1) ≤ 500)
  simp only [wordsL, List.mem_cons, List.not_mem_nil, or_false] at hp
  rcases hp with rfl | rfl | rfl | rfl | rfl
  · decide
  · exact shL_len (by decide) h1.1 h1.2
  · exact shL_len (by decide) h2.1 h2.2
  · exact shL_len (by decide) h3.1 h3.2
  · exact shL_len (by decide) h4.1 h4.2
theorem split_L {x y : Str} (hy : tl y ≠ []) (hk : ∀ c ∈ tl y, c < 256) : Txt.split x y = (spl (tl y) 0 [] (tl x)).map ofL := by
  have hk : y.cps.all (· < 256) = true := by
    rw [← Array.all_toList, List.all_eq_true]
    exact fun c hc => decide_eq_true (hk c hc)
  refine map_tl_inj ?_
  rw [split_spl _ y hy (kind_ok hk), List.map_map, show tl ∘ ofL = id from rfl, List.map_id]
theorem join_L {y : Str} {ps : List (List Nat)} : Txt.join y (ps.map ofL) = ofL (joinL (tl y) ps) := by
  refine ext_tl ?_
  rw [join_eq, TL.tl_join, List.map_map, show tl ∘ ofL = id from rfl, List.map_id]; rfl
theorem part_L (x y : Str) (hy : tl y ≠ []) : Txt.partition x y = match par (tl y) [] (tl x) with
  | some (a, b) => (ofL a, y, ofL b)
  | none => (x, Str.empty, Str.empty) := by
  rw [partition_par x y hy]; rfl
/-! ### what the walk asks of texts -/
theorem cut_take1 {l : List Nat} : cutS (ofL l) none (some 1) = ofL (l.take 1) := by
  refine ext_tl ?_
  cases l with
  | nil => rfl
  | cons a r =>
    have h : HT.sIx (ofL (a :: r)).length (ofL (a :: r)).length (some 1) = 1 := by
      rw [ofL_len, List.length_cons]; exact (HT.sIx_nat _ _ 1).trans (by omega)
    show ((a :: r).drop 0).take (HT.sIx (ofL (a :: r)).length (ofL (a :: r)).length (some 1) - 0) = (a :: r).take 1
    rw [h]; rfl
theorem cut_drop1 {l : List Nat} : cutS (ofL l) (some 1) none = ofL (l.drop 1) := by
  refine ext_tl ?_
  cases l with
  | nil => rfl
  | cons a r =>
    have h : HT.sIx (ofL (a :: r)).length 0 (some 1) = 1 := by
      rw [ofL_len, List.length_cons]; exact (HT.sIx_nat _ _ 1).trans (by omega)
    show ((a :: r).drop (HT.sIx (ofL (a :: r)).length 0 (some 1))).take (HT.sIx (ofL (a :: r)).length (ofL (a :: r)).length none - HT.sIx (ofL (a :: r)).length 0 (some 1)) = (a :: r).drop 1
    rw [h]
    show r.take ((ofL (a :: r)).length - 1) = r
    rw [ofL_len, List.length_cons]
    exact List.take_of_length_le (by omega)
theorem digitsVal_lt : ∀ {l : List Nat}, NumText.AllDigits l → NumText.digitsVal l < 10 ^ l.length := by
  have key : ∀ (l : List Nat) (a k : Nat), NumText.AllDigits l → a < 10 ^ k → l.foldl (fun acc c => acc * 10 + (c - 48)) a < 10 ^ (k + l.length) := by
    intro l
    induction l with
    | nil => intro a k _ h; exact h
    | cons c r ih =>
      intro a k hd h
      have := hd.head
      rw [List.foldl_cons, List.length_cons, show k + (r.length + 1) = (k + 1) + r.length by omega]
      refine ih _ (k + 1) hd.tail ?_
      rw [Nat.pow_succ]; omega
  intro l h
  have := key l 0 0 h (by decide)
  rwa [Nat.zero_add] at this
theorem int_sign {l : List Nat} (h : wholeL (figL l) = true) : PySem.intText? (ofL l) = some (signL l) ∧ (ofL l).length ≤ 640 := by
  obtain ⟨hd, hn, hl⟩ := wholeL_digits h
  unfold figL at hd hn hl
  unfold signL
  split at hd
  · next e =>
    rw [if_pos e] at hn hl ⊢
    cases l with
    | nil => simp at e
    | cons a r =>
      simp only [List.take_succ_cons, List.take_zero, List.cons.injEq, and_true] at e
      subst e
      simp only [List.drop_succ_cons, List.drop_zero] at hd hn hl ⊢
      refine ⟨intText_neg (x := ofL (45 :: r)) rfl hd hn ?_, ?_⟩ <;> rw [ofL_len, List.length_cons] <;> omega
  · next e =>
    rw [if_neg e] at hn hl ⊢
    exact ⟨intText_digits (x := ofL l) hd hn (by rw [ofL_len]; omega), by rw [ofL_len]; omega⟩
theorem int_whole {l : List Nat} (h : wholeL l = true) : PySem.intText? (ofL l) = some ((NumText.digitsVal l : Nat) : Int) ∧ (ofL l).length ≤ 640 := by
  obtain ⟨hd, hn, hl⟩ := wholeL_digits h
  exact ⟨intText_digits (x := ofL l) hd hn (by rw [ofL_len]; omega), by rw [ofL_len]; omega⟩
theorem signL_abs {l : List Nat} : (signL l).natAbs = NumText.digitsVal (figL l) := by
  unfold signL figL
  split
  · rw [Int.natAbs_neg, Int.natAbs_natCast]
  · rw [Int.natAbs_natCast]
theorem whole_lt {l : List Nat} (h : wholeL l = true) : NumText.digitsVal l < 10 ^ 30 := by
  obtain ⟨hd, hn, hl⟩ := wholeL_digits h
  exact Nat.lt_of_lt_of_le (digitsVal_lt hd) (Nat.pow_le_pow_right (by decide) hl)
theorem fr_divInt {n : Int} {d : Nat} (h : Nat.gcd n.natAbs d = 1) (h0 : d ≠ 0) : fr (Rat.divInt n (d : Nat)) = .tup [.int n, .int (d : Nat)] := by
  have e : Rat.divInt n (d : Nat) = ⟨n, d, h0, h⟩ := Rat.num_divInt_den ⟨n, d, h0, h⟩
  rw [e]; rfl
theorem fold_le : ∀ (l : List Nat) (a : Nat), a ≤ l.foldl (fun acc c => acc * 10 + (c - 48)) a
  | [], a => Nat.le_refl a
  | c :: r, a => by
    rw [List.foldl_cons]
    exact Nat.le_trans (by omega) (fold_le r _)
theorem whole_pos {l : List Nat} (h : wholeL l = true) (h0 : l ≠ [48]) : NumText.digitsVal l ≠ 0 := by
  obtain ⟨hd, hn, -⟩ := wholeL_digits h
  simp only [wholeL, Bool.and_eq_true, Bool.or_eq_true, decide_eq_true_eq] at h
  have hh := h.2.resolve_right h0
  cases l with
  | nil => exact absurd rfl hn
  | cons a r =>
    have h1 := hd.head
    have h2 : a ≠ 48 := fun e => hh (by rw [e]; rfl)
    have := fold_le r (0 * 10 + (a - 48))
    unfold NumText.digitsVal
    rw [List.foldl_cons]
    omega
theorem fracIn_fig {l : List Nat} {q : Rat} (h : fracIn l = some q) : Fig q := by
  unfold fracIn at h
  split at h
  · split at h
    · next hc =>
      injection h with h
      simp only [Bool.and_eq_true] at hc
      rw [← h]
      refine ⟨?_, show 1 < 10 ^ 30 by decide⟩
      show (signL l).natAbs < _
      rw [signL_abs]; exact whole_lt hc.1
    · cases h
  · next t b hp =>
    split at h
    · next hc =>
      injection h with h
      simp only [Bool.and_eq_true, decide_eq_true_eq] at hc
      obtain ⟨⟨⟨⟨h1, h2⟩, h3⟩, h4⟩, h5⟩ := hc
      rw [← signL_abs] at h5
      have hb : NumText.digitsVal b ≠ 0 := whole_pos h3 fun e => by rw [decide_eq_true (.inl e)] at h4; cases h4
      have e : Rat.divInt (signL t) (NumText.digitsVal b : Nat) = ⟨signL t, NumText.digitsVal b, hb, h5⟩ := Rat.num_divInt_den ⟨signL t, NumText.digitsVal b, hb, h5⟩
      rw [← h, e]
      refine ⟨?_, whole_lt h3⟩
      show (signL t).natAbs < _
      rw [signL_abs]; exact whole_lt h1
    · cases h
theorem fig_bd {q : Rat} (h : Fig q) : BD q 100 := ⟨sz_le (by decide) (Nat.lt_of_lt_of_le h.1 (by decide)) (Nat.lt_of_lt_of_le h.2 (by decide))⟩
theorem bd_fig {q : Rat} (h : sz q ≤ 99) : Fig q := by
  have h1 : q.num.natAbs < 2 ^ 99 := Nat.lt_of_lt_of_le (sz_num q) (Nat.pow_le_pow_right (by decide) h)
  have h2 : q.den < 2 ^ 99 := Nat.lt_of_lt_of_le (sz_den q) (Nat.pow_le_pow_right (by decide) h)
  exact ⟨Nat.lt_of_lt_of_le h1 (by decide), Nat.lt_of_lt_of_le h2 (by decide)⟩
theorem T_slash : Str.ofString "/" = ofL [47] := ext_tl rfl
theorem T_blank : Str.ofString " " = ofL [32] := ext_tl rfl
theorem T_line : Str.ofString "\n" = ofL [10] := ext_tl rfl
theorem T_none : Str.ofString "" = ofL [] := ext_tl rfl
theorem T_minus : Str.ofString "-" = ofL [45] := ext_tl rfl
theorem T_mnought : Str.ofString "-0" = ofL [45, 48] := ext_tl rfl
theorem T_0 : Str.ofString "0" = ofL [48] := ext_tl rfl
theorem T_1 : Str.ofString "1" = ofL [49] := ext_tl rfl
theorem T_wall : Str.ofString "wall" = ofL WALL := ext_tl rfl
theorem T_wallb : Str.ofString "wall " = ofL (WALL ++ [32]) := ext_tl rfl
theorem T_figs : Str.ofString "0123456789" = ofL [48, 49, 50, 51, 52, 53, 54, 55, 56, 57] := ext_tl rfl
theorem sz_log {q : Rat} {n : Nat} (h : sz q ≤ n) (h2 : n < 1920) : q.num.natAbs.log2 < 1920 ∧ ((q.den : Nat) : Int).natAbs.log2 < 1920 := by
  unfold sz at h
  rw [Int.natAbs_natCast]
  omega
theorem intL_len2 {i : Int} (h : i.natAbs.log2 < 1920) : (intL i).length ≤ 1921 := by
  have := PyProof.Rows.int_text_len_1921 h
  rw [show (Str.ofString (toString i)) = ofL (intL i) from strI_L i, ofL_len] at this
  exact this
theorem shL_eq {q : Rat} : shL q = if q.den = 1 then intL q.num else intL q.num ++ 47 :: intL (q.den : Nat) := rfl
theorem par_len {S : List Nat} : ∀ {l acc a b : List Nat}, par S acc l = some (a, b) → a.length ≤ acc.length + l.length ∧ b.length ≤ l.length
  | [], acc, a, b, h => by cases h
  | c :: r, acc, a, b, h => by
    cases hp : pre S (c :: r) with
    | true =>
      rw [par_hit hp] at h
      injection h with h
      injection h with h1 h2
      rw [← h1, ← h2, List.length_drop]
      omega
    | false =>
      rw [par_miss hp] at h
      have := par_len h
      rw [List.length_append, List.length_singleton] at this
      rw [List.length_cons]; omega
theorem sum_bd {α : Type} {f : α → Nat} {m : Nat} : ∀ {ps : List α}, (∀ p ∈ ps, f p ≤ m) → (ps.map f).sum ≤ ps.length * m
  | [], _ => Nat.zero_le _
  | p :: r, h => by
    have := h p List.mem_cons_self
    have := sum_bd (ps := r) fun x hx => h x (List.mem_cons_of_mem _ hx)
    rw [List.map_cons, List.sum_cons, List.length_cons, Nat.succ_mul]; omega
theorem mem_01 {b : List Nat} : memD (.str (ofL b)) [.str (ofL [48]), .str (ofL [49])] = decide (b = [48] ∨ b = [49]) := by
  have e : ∀ a : List Nat, D.deq (.str (ofL a)) (.str (ofL b)) = decide (b = a) := fun a => by
    show (ofL a == ofL b) = _
    by_cases h : b = a
    · rw [h]; simp
    · rw [decide_eq_false h]
      exact beq_eq_false_iff_ne.mpr fun e => h (ofL_inj.mp e).symm
  show (D.deq _ _ || (D.deq _ _ || false)) = _
  rw [e, e]
  by_cases h : b = [48] <;> by_cases h2 : b = [49] <;> simp [h, h2]
theorem spotIn_bp {a b : List Nat} {u : Pt} (h : spotIn a b = some u) : BP u 100 := by
  unfold spotIn at h
  split at h
  · next x y e1 e2 =>
    injection h with h
    have h1 := fig_bd (fracIn_fig e1)
    have h2 := fig_bd (fracIn_fig e2)
    rw [← h]
    exact ⟨h1.le, h2.le⟩
  · cases h
theorem strOk_L {l : List Nat} (h : ∀ c ∈ l, c < 1114112) : PyData.strOk (ofL l) = true := by
  show (ofL l).cps.all (· < 0x110000) = true
  rw [← Array.all_toList, List.all_eq_true]
  exact fun c hc => decide_eq_true (h c hc)
theorem whole_ok {l : List Nat} (h : wholeL l = true) : PyData.strOk (ofL l) = true := strOk_L fun c hc => by
  have := (wholeL_digits h).1 c hc; omega
end FL
set_option maxRecDepth 100000
set_option maxHeartbeats 1000000
/-! # texts of questions and answers -/
namespace FL
open PySem PySem.Spec L2 TL ML
theorem fig_divInt {t b : Int} (h1 : t.natAbs < 10 ^ 30) (h2 : b.natAbs < 10 ^ 30) : Fig (Rat.divInt t b) := by
  refine ⟨?_, ?_⟩
  · rw [Rat.num_divInt, Int.natAbs_ediv_of_dvd]
    · refine Nat.lt_of_le_of_lt (Nat.div_le_self _ _) ?_
      rw [Int.natAbs_mul]
      rcases Int.lt_trichotomy b 0 with h | h | h
      · rw [Int.sign_eq_neg_one_of_neg h]; simpa using h1
      · subst h; simp
      · rw [Int.sign_eq_one_of_pos h]; simpa using h1
    · exact Int.dvd_mul_of_dvd_right (Int.gcd_dvd_right ..)
  · rw [Rat.den_divInt]
    split
    · decide
    · exact Nat.lt_of_le_of_lt (Nat.div_le_self _ _) h2
def ASK : List Nat := [97, 115, 107]
def askL (u : Pt) : List (List Nat) := [ASK, shL u.1, shL u.2]
def asL (u : Pt) : List Nat := joinL [32] (askL u)
def questL (ws : List Wl) (us : List Pt) : List Nat := joinL [10] (ws.map waL ++ us.map asL)
def questIn : List (List Nat) → Option Pt
  | [w, a, b] => if w = ASK then spotIn a b else none
  | _ => none
def FigP (u : Pt) : Prop := Fig u.1 ∧ Fig u.2
theorem quest_back {u : Pt} (h : FigP u) : questIn (askL u) = some u := by
  unfold askL questIn
  dsimp only
  rw [if_pos rfl]
  unfold spotIn
  rw [frac_back h.1, frac_back h.2]
theorem quest_wall {w : Wl} : questIn (wordsL w) = none := rfl
theorem ask_free {u : Pt} {s : Nat} (h0 : s ∉ ASK) (h1 : s ≠ 45) (h2 : s ≠ 47) (h : s < 48 ∨ 57 < s) : ∀ p ∈ askL u, s ∉ p := by
  intro p hp
  simp only [askL, List.mem_cons, List.not_mem_nil, or_false] at hp
  rcases hp with rfl | rfl | rfl
  · exact h0
  all_goals exact shL_free h1 h2 h
theorem asL_free {u : Pt} : (10 : Nat) ∉ asL u := fun h => by
  rcases joinL_mem h with h | ⟨p, hp, h⟩
  · simp at h
  · exact ask_free (by decide) (by decide) (by decide) (by decide) p hp h
theorem as_split {u : Pt} : spl [32] 0 [] (asL u) = askL u := spl_join (by simp [askL]) (ask_free (by decide) (by decide) (by decide) (by decide))
theorem asL_len {u : Pt} (h : FigP u) : (asL u).length ≤ 500 := by
  refine Nat.le_trans (joinL_len (m := 62) fun p hp => ?_) (by decide : 3 * (62 + 1) ≤ 500)
  simp only [askL, List.mem_cons, List.not_mem_nil, or_false] at hp
  rcases hp with rfl | rfl | rfl
  · decide
  · exact shL_len (by decide) h.1.1 h.1.2
  · exact shL_len (by decide) h.2.1 h.2.2
theorem quest_split {ws : List Wl} {us : List Pt} (h : ws.map waL ++ us.map asL ≠ []) : spl [10] 0 [] (questL ws us) = ws.map waL ++ us.map asL := spl_join h fun p hp => by
  rcases List.mem_append.mp hp with hp | hp
  · obtain ⟨w, -, rfl⟩ := List.mem_map.mp hp; exact waL_free
  · obtain ⟨w, -, rfl⟩ := List.mem_map.mp hp; exact asL_free
theorem joinL_ne {S : List Nat} : ∀ {ps : List (List Nat)}, ps ≠ [] → (∀ p ∈ ps, p ≠ []) → joinL S ps ≠ []
  | [], h, _ => absurd rfl h
  | [p], _, h => h p (List.mem_singleton.mpr rfl)
  | p :: q :: r, _, h => fun e => h p List.mem_cons_self (List.append_eq_nil_iff.mp e).1
theorem asL_ne {u : Pt} : asL u ≠ [] := fun h => by simp [asL, askL, joinL, ASK] at h
theorem quest_ne {ws : List Wl} {us : List Pt} (h : ws.map waL ++ us.map asL ≠ []) : questL ws us ≠ [] := joinL_ne h fun p hp => by
  rcases List.mem_append.mp hp with hp | hp
  · obtain ⟨w, -, rfl⟩ := List.mem_map.mp hp; exact waL_ne
  · obtain ⟨w, -, rfl⟩ := List.mem_map.mp hp; exact asL_ne
theorem T_ask : Str.ofString "ask" = ofL ASK := ext_tl rfl
theorem T_askb : Str.ofString "ask " = ofL (ASK ++ [32]) := ext_tl rfl
/-- an answer's word and number -/
def anD (a : List Nat × Nat) : D := .tup [.str (ofL a.1), .int (a.2 : Nat)]
def anL (a : List Nat × Nat) : List Nat := a.1 ++ [32] ++ numL a.2
theorem LstK.itt {S : Sto} {d : D} {ds : List D} (h : LstK S d ds) : ∃ G : Sto → Prop, sqI S d = some (ds, G) ∧ ∀ S', LstK S' d ds → G S' := by
  cases h with
  | lst => exact ⟨_, rfl, fun _ _ => trivial⟩
  | ref h => exact ⟨_, sqI_at h, fun S' h' => by cases h' with | ref h' => show olP _ = _; rw [h']; rfl⟩
theorem LstK.pp {S : Sto} {d : D} {ds : List D} {p : Addr} {o : MO} (h : LstK S d ds) (hp : S p = none) : LstK (put S p o) d ds := by
  cases h with
  | lst => exact .lst
  | ref h => exact .ref (by rw [put_ne (sne h hp)]; exact h)
theorem anL_len {a : List Nat × Nat} (h : a.1.length ≤ 100 ∧ a.2 < 1000000) : (anL a).length ≤ 120 := by
  have := numL_len (n := a.2) (k := 6) (by decide) (by omega)
  unfold anL
  simp only [List.length_append, List.length_singleton]
  omega
theorem strI_nat {n : Nat} : strI (n : Int) = ofL (numL n) := strI_L n
def qX (P : List Wl) (us : List Pt) : D := .tup [.tup (P.map wlD), .lst (us.map spD)]
theorem plains_of {α : Type} {f : α → D} (h : ∀ a, D.plain (f a) = true) : ∀ xs : List α, D.plains (xs.map f) = true
  | [] => rfl
  | a :: r => by
    show (D.plain (f a) && D.plains (r.map f)) = true
    rw [h, plains_of h r]; rfl
theorem deps_of {α : Type} {f : α → D} {k : Nat} (h : ∀ a, D.dep (f a) ≤ k) : ∀ xs : List α, D.deps (xs.map f) ≤ k
  | [] => Nat.zero_le _
  | a :: r => by
    have := h a
    have := deps_of h r
    show max (D.dep (f a)) (D.deps (r.map f)) ≤ k
    omega
theorem qX_plain {P : List Wl} {us : List Pt} : D.plain (qX P us) = true := by
  show (D.plains (P.map wlD) && (D.plains (us.map spD) && true)) = true
  rw [plains_of plain_wl, plains_of plain_sp]; rfl
theorem qX_dep {P : List Wl} {us : List Pt} : D.dep (qX P us) ≤ 64 := by
  have h1 := deps_of (f := wlD) (k := 3) (fun w => by rw [dep_wl]; exact Nat.le_refl _) P
  have h2 := deps_of (f := spD) (k := 3) (fun w => by rw [dep_sp]; decide) us
  show max (D.deps (P.map wlD) + 1) (max (D.deps (us.map spD) + 1) 0) + 1 ≤ 64
  omega
theorem deeps_self {S : Sto} : ∀ {ds : List D}, D.plains ds = true → Deeps S ds ds
  | [], _ => .nil
  | d :: ds, h => by
    obtain ⟨a, b⟩ := Bool.and_eq_true_iff.mp (show (D.plain d && D.plains ds) = true from h)
    exact .cons (.same a) (deeps_self b)
theorem qX_deep {S : Sto} {P : List Wl} {us : List Pt} {q : Addr} (h : S q = some (.lst (us.map spD))) : Deep S (.tup [.tup (P.map wlD), .ref q]) (qX P us) :=
  .tup (.cons (.same (show D.plains (P.map wlD) = true from plains_of plain_wl P)) (.cons (.ref h (deeps_self (plains_of plain_sp us))) .nil))
theorem anD_plain : ∀ {as : List (List Nat × Nat)}, (∀ a ∈ as, PyData.strOk (ofL a.1) = true) → D.plains (as.map anD) = true
  | [], _ => rfl
  | a :: r, h => by
    show ((D.plain (.str (ofL a.1)) && (true && true)) && D.plains (r.map anD)) = true
    rw [anD_plain fun x hx => h x (List.mem_cons_of_mem _ hx)]
    show (PyData.strOk (ofL a.1) && _ && _) = true
    rw [h a List.mem_cons_self]; rfl
end FL
set_option maxRecDepth 100000
namespace Lk64
open PySem PySem.Spec L2 TL ML FL
/-- a scale of few figures -/
structure ScT (s : Sc) : Prop where
  ok : ScOk s
  t2 : s.t ≤ 2 ^ 30
  b2 : s.b ≤ 2 ^ 30
  x1 : -(2 ^ 55) ≤ s.x
  x2 : s.x ≤ 2 ^ 55
  y1 : -(2 ^ 55) ≤ s.y
  y2 : s.y ≤ 2 ^ 55
def sp_law_scale : MSp := fun ds S Q _ => ∃ (p : Addr) (c : Int) (n : Nat), ds = [.ref p] ∧ S p = some (rowO c n) ∧ n < 2 ^ 50 ∧ ∀ (s : Sc) (c' : Int) (n' : Nat), ScT s → n' ≤ n + 8 → Q (scD s) (put S p (rowO c' n'))
def sp_show_fraction : MSp := fun ds S Q _ => ∃ q : Rat, ds = [fr q] ∧ sz q ≤ 1900 ∧ Q (.str (ofL (shL q))) S
abbrev sp_law_shown : MSp := sp_show_fraction
def sp_is_whole : MSp := fun ds S Q _ => ∃ l : List Nat, ds = [.str (ofL l)] ∧ l.length ≤ sizeLine ∧ Q (.bl (wholeL l)) S
def frO : Option Rat → D
  | none => .non
  | some q => fr q
def spO : Option Pt → D
  | none => .non
  | some q => spD q
def wlO : Option Wl → D
  | none => .non
  | some q => wlD q
def sp_fraction_in : MSp := fun ds S Q _ => ∃ l : List Nat, ds = [.str (ofL l)] ∧ l.length ≤ 1000000 ∧ Q (frO (fracIn l)) S
def sp_spot_in : MSp := fun ds S Q _ => ∃ a b : List Nat, ds = [.lst [.str (ofL a), .str (ofL b)]] ∧ a.length ≤ 1000000 ∧ b.length ≤ 1000000 ∧ Q (spO (spotIn a b)) S
def sp_wall_in : MSp := fun ds S Q _ => ∃ ws : List (List Nat), ds = [.lst (ws.map fun l => .str (ofL l))] ∧ ws.length ≤ 1000000 ∧ (∀ l ∈ ws, l.length ≤ 1000000) ∧ Q (wlO (wallIn ws)) S
def sp_show_spot : MSp := fun ds S Q _ => ∃ u : Pt, ds = [spD u] ∧ Fig u.1 ∧ Fig u.2 ∧ Q (.str (ofL (joinL [32] [shL u.1, shL u.2]))) S
def sp_wall_rows : MSp := fun ds S Q _ => ∃ ws : List Wl, ds = [.tup (ws.map wlD)] ∧ ws.length ≤ 50 ∧ (∀ w ∈ ws, FigW w) ∧ Q (.lst (ws.map fun w => .str (ofL (waL w)))) S
abbrev sp_law_rows : MSp := sp_wall_rows
def rowsIn (l : List Nat) : List (List Nat) := if l = [] then [] else spl [10] 0 [] l
def sp_rows_in : MSp := fun ds S Q _ => ∃ l : List Nat, ds = [.str (ofL l)] ∧ l.length ≤ 1000000 ∧ Q (.lst ((rowsIn l).map fun l => .str (ofL l))) S
def sp_put_read : MSp := fun ds S Q _ => ∃ (p : Addr) (ws : List Wl) (w : Wl) (i : Int), ds = [.ref p, wlD w, .int i] ∧ S p = some (.lst (ws.map wlD)) ∧ ws.length < 40 ∧ BW w 400 ∧ (∀ v ∈ ws, BW v 400 ∧ solB w v) ∧ unfairAt ws w = none ∧ Q .non (put S p (.lst ((ws ++ [w]).map wlD)))
def sp_law_number : MSp := fun ds S Q _ => ∃ (p : Addr) (c : Int) (n : Nat), ds = [.ref p] ∧ S p = some (rowO c n) ∧ n < 2 ^ 50 ∧ ∀ (q : Rat) (c' : Int), Fig q → Q (fr q) (put S p (rowO c' (n + 3 : Nat)))
def sp_question_in : MSp := fun ds S Q _ => ∃ ws : List (List Nat), ds = [.lst (ws.map fun l => .str (ofL l))] ∧ ws.length ≤ 1000000 ∧ (∀ l ∈ ws, l.length ≤ 1000000) ∧ Q (spO (questIn ws)) S
def sp_show_questions : MSp := fun ds S Q _ => ∃ (d : D) (ws : List Wl) (us : List Pt), ds = [.tup (ws.map wlD), d] ∧ LstK S d (us.map spD) ∧ ws.length ≤ 50 ∧ us.length ≤ 50 ∧ (∀ w ∈ ws, FigW w) ∧ (∀ u ∈ us, FigP u) ∧ Q (.str (ofL (questL ws us))) S
def sp_read_questions : MSp := fun ds S Q _ => ∃ (ws : List Wl) (us : List Pt), ds = [.str (ofL (questL ws us))] ∧ ws.length ≤ 40 ∧ us.length ≤ 50 ∧ (∀ w ∈ ws, FigW w ∧ BW w 400 ∧ ahead w.1 w.2) ∧ ws.Pairwise (fun a b => solB b a) ∧ Fairs ws ∧ (∀ u ∈ us, FigP u) ∧
  ∀ (S' : Sto) (q : Addr), (∀ a o, S a = some o → S' a = some o) → S q = none → S' q = some (.lst (us.map spD)) → Q (.tup [.tup (ws.map wlD), .ref q]) S'
def sp_show_answers : MSp := fun ds S Q _ => ∃ (d : D) (as : List (List Nat × Nat)), ds = [d] ∧ LstK S d (as.map anD) ∧ as.length ≤ 100 ∧ (∀ a ∈ as, a.1.length ≤ 100 ∧ a.2 < 1000000) ∧ Q (.str (ofL (joinL [10] (as.map anL)))) S
end Lk64
set_option maxRecDepth 100000
set_option maxHeartbeats 0
namespace Lk64
open PySem PySem.Spec L2 ML
open PyProof.Rows hiding St
structure Txt (K : PySem.W.Frag) (mg : Str → Option Value) : Prop where
  f_abs : mg "abs" = none
  f_all : mg "all" = none
  f_enumerate : mg "enumerate" = none
  f_int : mg "int" = none
  f_isinstance : mg "isinstance" = none
  f_len : mg "len" = none
  f_list : mg "list" = none
  f_max : mg "max" = none
  f_min : mg "min" = none
  f_range : mg "range" = none
  f_str : mg "str" = none
  f_tuple : mg "tuple" = none
  k_tuple : kitTab K "tuple"
  k_list : kitTab K "list"
  c_FIGURES : ∃ t, mg "FIGURES" = some (.str "0123456789" t)
  c_MOST_FIGURES : ∃ t, mg "MOST_FIGURES" = some (.int 30 t)
  c_MOST_WALLS : ∃ t, mg "MOST_WALLS" = some (.int 40 t)
  g_NoText : mg "NoText" = some (.ref (He.ga K "NoText"))
section
variable {P : Program} {w : World} {K : PySem.W.Frag} {mg : Str → Option Value} {base : Heap}
theorem sc_NoText_init : FnScope ["self", "row"] ["self", "row"] (defScope s_NoText_init) := ⟨rfl, rfl, rfl, by decide +kernel, rfl, by decide +kernel, by decide +kernel⟩
theorem dx_NoText {f : Addr} {cdv : Value} {A : Around} {outer : List Env} {s : Shared} {H : Hp} {E : XK} : PSs (cxM P w K mg base ["self", "row"] "NoText.__init__" s_NoText_init f cdv A outer s H E) (defBody s_NoText_init) (tOst K "row" (tVar 0) (tVar 1)) :=
  pss_one (ps_ost (pe_var (i := 0) rfl (Or.inl rfl)) (pe_var (i := 1) rfl (Or.inl rfl)))
theorem sc_divisor : FnScope ["one", "other"] ["one", "other"] (defScope s_divisor) := ⟨rfl, rfl, rfl, by decide +kernel, rfl, by decide +kernel, by decide +kernel⟩
abbrev b_divisor : MS := FL.b_divisor
theorem l_divisor : ∀ ds S Q E, FL.sp_divisor ds S Q E → ds.length = ["one", "other"].length := FL.l_divisor
theorem r_divisor : ∀ ds S Q E, FL.sp_divisor ds S Q E → b_divisor (mends Q E) (mstart 0 ds) S := FL.r_divisor
theorem d_divisor {f : Addr} {cdv : Value} {A : Around} {outer : List Env} {s : Shared} {H : Hp} {E : XK} (T : Txt K mg)  (hr : Room 0 (cxM P w K mg base ["one", "other"] "divisor" s_divisor f cdv A outer s H E).A) :
    PSs (cxM P w K mg base ["one", "other"] "divisor" s_divisor f cdv A outer s H E) (defBody s_divisor) (upS K (wM E) b_divisor) :=
  (scons (swhile poM (tcmp (op_neA hr.units) ol_ne (ev 1) eint) (sone (spar (i := 0) (j := 1) rfl sc_divisor.nd (acons (ev 1) (acons (emod (ev 0) (ev 1)) anil)))))
    (sone (sret (ev 0))))
theorem sc_is_less : FnScope ["one", "other"] ["one", "other"] (defScope s_is_less) := ⟨rfl, rfl, rfl, by decide +kernel, rfl, by decide +kernel, by decide +kernel⟩
abbrev b_is_less : MS := FL.b_is_less
theorem l_is_less : ∀ ds S Q E, FL.sp_is_less ds S Q E → ds.length = ["one", "other"].length := FL.l_is_less
theorem r_is_less : ∀ ds S Q E, FL.sp_is_less ds S Q E → b_is_less (mends Q E) (mstart 0 ds) S := FL.r_is_less
theorem d_is_less {f : Addr} {cdv : Value} {A : Around} {outer : List Env} {s : Shared} {H : Hp} {E : XK} (T : Txt K mg)  (hr : Room 0 (cxM P w K mg base ["one", "other"] "is_less" s_is_less f cdv A outer s H E).A) :
    PSs (cxM P w K mg base ["one", "other"] "is_less" s_is_less f cdv A outer s H E) (defBody s_is_less) (upS K (wM E) b_is_less) :=
  (sone (sret (ecmp (oa_lt (u65 hr)) la_lt (emul (eix (ev 0) eint) (eix (ev 1) eint)) (emul (eix (ev 1) eint) (eix (ev 0) eint)))))
theorem sc_show_fraction : FnScope ["one"] ["one"] (defScope s_show_fraction) := ⟨rfl, rfl, rfl, by decide +kernel, rfl, by decide +kernel, by decide +kernel⟩
def b_show_fraction : MS := (mSeq (mIfS (mTst (mOp rEqM (mOp rIxM (mVar 0) (mC (.int 1))) (mC (.int 1)))) (mRet (mBlt bStrI (mCons (mOp rIxM (mVar 0) (mC (.int 0))) mNil))) mNext)
  (mRet (mJoined [(mFmt (mOp rIxM (mVar 0) (mC (.int 0)))), (mC (.str "/")), (mFmt (mOp rIxM (mVar 0) (mC (.int 1))))])))
theorem d_show_fraction {f : Addr} {cdv : Value} {A : Around} {outer : List Env} {s : Shared} {H : Hp} {E : XK} (T : Txt K mg)  (hr : Room 0 (cxM P w K mg base ["one"] "show_fraction" s_show_fraction f cdv A outer s H E).A) :
    PSs (cxM P w K mg base ["one"] "show_fraction" s_show_fraction f cdv A outer s H E) (defBody s_show_fraction) (upS K (wM E) b_show_fraction) :=
  (scons (sif (tcmp (op_eqA hr.units) ol_eq (eix (ev 0) eint) eint) (sone (sret (etyp call_str_int cl_strI T.f_str (acons (eix (ev 0) eint) anil)))) snil)
    (sone (sret (ejoined (.cons (efmt (eix (ev 0) eint)) (.cons estr (.cons (efmt (eix (ev 0) eint)) .nil)))))))
theorem sc_is_whole : FnScope ["word", "sign"] ["word"] (defScope s_is_whole) := ⟨rfl, rfl, rfl, by decide +kernel, rfl, by decide +kernel, by decide +kernel⟩
def b_is_whole : MS := (mSeq (mIfS (mOr (mNot (mTst (mChain aLe aLe (mC (.int 1)) (mBlt bLen (mCons (mVar 0) mNil)) (mC (.int 30))))) (mNot (mTru (mBlt bAll (mCons (mCompF (iStrM (mVar 0)) (gNm 1) mYes (mOp (rInS false) (mVar 1) (mC (.str "0123456789"))) [1]) mNil))))) (mRet (mC (.bl false))) mNext)
  (mRet (mOrV (mOp rNeS (mOp rIxT' (mVar 0) (mC (.int 0))) (mC (.str "0"))) (mOp rEqS (mVar 0) (mC (.str "0"))))))
theorem d_is_whole {f : Addr} {cdv : Value} {A : Around} {outer : List Env} {s : Shared} {H : Hp} {E : XK} (T : Txt K mg)  (hr : Room 0 (cxM P w K mg base ["word", "sign"] "is_whole" s_is_whole f cdv A outer s H E).A) :
    PSs (cxM P w K mg base ["word", "sign"] "is_whole" s_is_whole f cdv A outer s H E) (defBody s_is_whole) (upS K (wM E) b_is_whole) :=
  (scons (sif (L2.PW.pt (wor (tnot (tchain (oa_le (u65 hr)) (oa_le (u65 hr)) la_le la_le eint (eblt call_len cl_len T.f_len (acons (ev 0) anil) PySem.boot_len) (eglobI T.c_MOST_FIGURES))) (wor1 (tnot (ttru (eblt (cr_all rfl) cl_all T.f_all (acons (ecompF (own := [("sign", 1)]) rfl sc_is_whole.nd (isStr (ev 0)) (blkOk_by (by first | decide +kernel | kernel_rfl | rfl)) (fun _ _ _ _ _ => (gonm sc_is_whole.nd (i := 1) (by decide))) (fun _ _ _ _ _ => tsNil) (fun _ _ _ _ _ => (ecmp op_in_sign ol_inS (ev 1) (eglobS T.c_FIGURES)))) anil))))))) (sone (sret ebl)) snil)
    (sone (sret (eor (ecmp (op_neA hr.units) ol_neS (eixS (ev 0) eint) estr) (eone (ecmp (op_eqA hr.units) ol_eqS (ev 0) estr))))))
theorem sc_rows_in : FnScope ["text"] ["text"] (defScope s_rows_in) := ⟨rfl, rfl, rfl, by decide +kernel, rfl, by decide +kernel, by decide +kernel⟩
def b_rows_in : MS := (mSeq (mIfS (mTst (mOp rEqS (mVar 0) (mC (.str "")))) (mRet (mLstF mNil)) mNext)
  (mRet (mTx1 rmSplit (mVar 0) (mC (.str "\n")))))
theorem d_rows_in {f : Addr} {cdv : Value} {A : Around} {outer : List Env} {s : Shared} {H : Hp} {E : XK} (T : Txt K mg)  (hr : Room 0 (cxM P w K mg base ["text"] "rows_in" s_rows_in f cdv A outer s H E).A) :
    PSs (cxM P w K mg base ["text"] "rows_in" s_rows_in f cdv A outer s H E) (defBody s_rows_in) (upS K (wM E) b_rows_in) :=
  (scons (sif (tcmp (op_eqA hr.units) ol_eqS (ev 0) estr) (sone (sret (elstF anil))) snil)
    (sone (sret (esplit (ev 0) estr))))
theorem sc_show_answers : FnScope ["answers", "word", "number"] ["answers"] (defScope s_show_answers) := ⟨rfl, rfl, rfl, by decide +kernel, rfl, by decide +kernel, by decide +kernel⟩
def b_show_answers : MS := (mRet (mTx1 rmJoin (mC (.str "\n")) (mCompF (iS (mVar 0)) (gTp 2 (gCn (gNm 1) (gCn (gNm 2) gNl))) mYes (mJoined [(mFmt (mVar 1)), (mC (.str " ")), (mFmt (mVar 2))]) [1, 2])))
theorem d_show_answers {f : Addr} {cdv : Value} {A : Around} {outer : List Env} {s : Shared} {H : Hp} {E : XK} (T : Txt K mg)  (hr : Room 0 (cxM P w K mg base ["answers", "word", "number"] "show_answers" s_show_answers f cdv A outer s H E).A) :
    PSs (cxM P w K mg base ["answers", "word", "number"] "show_answers" s_show_answers f cdv A outer s H E) (defBody s_show_answers) (upS K (wM E) b_show_answers) :=
  (sone (sret (ejoin estr (ecompF (own := [("word", 1), ("number", 2)]) rfl sc_show_answers.nd (is (ev 0)) (blkOk_by (by first | decide +kernel | kernel_rfl | rfl)) (fun _ _ _ _ _ => (gotp rfl (gocn (gonm sc_show_answers.nd (i := 1) (by decide)) (gocn (gonm sc_show_answers.nd (i := 2) (by decide)) gonl)))) (fun _ _ _ _ _ => tsNil) (fun _ _ _ _ _ => (ejoined (.cons (efmt (ev 1)) (.cons estr (.cons (efmt (ev 2)) .nil)))))))))
theorem sc_law_cell_at : FnScope ["_law_script", "_law_k"] ["_law_script", "_law_k"] (defScope s_law_cell_at) := ⟨rfl, rfl, rfl, by decide +kernel, rfl, by decide +kernel, by decide +kernel⟩
abbrev b_law_cell_at : MS := FL.b_cell_at
theorem l_law_cell_at : ∀ ds S Q E, FL.sp_cell_at ds S Q E → ds.length = ["_law_script", "_law_k"].length := FL.l_cell_at
theorem r_law_cell_at : ∀ ds S Q E, FL.sp_cell_at ds S Q E → b_law_cell_at (mends Q E) (mstart 0 ds) S := FL.r_cell_at
theorem d_law_cell_at {f : Addr} {cdv : Value} {A : Around} {outer : List Env} {s : Shared} {H : Hp} {E : XK} (T : Txt K mg)  (hr : Room 0 (cxM P w K mg base ["_law_script", "_law_k"] "_law_cell_at" s_law_cell_at f cdv A outer s H E).A) :
    PSs (cxM P w K mg base ["_law_script", "_law_k"] "_law_cell_at" s_law_cell_at f cdv A outer s H E) (defBody s_law_cell_at) (upS K (wM E) b_law_cell_at) :=
  (scons (sif (tcmp (oa_lt (u65 hr)) la_lt (ev 1) (eblt call_len cl_len T.f_len (acons (ev 0) anil) PySem.boot_len)) (sone (sret (eix (ev 0) (ev 1)))) snil)
    (sone (sret eint)))
theorem sc_law_take : FnScope ["_law_row", "_law_base", "_law_rest", "_law_number_here"] ["_law_row", "_law_base"] (defScope s_law_take) := ⟨rfl, rfl, rfl, by decide +kernel, rfl, by decide +kernel, by decide +kernel⟩
abbrev b_law_take : MS := FL.b_take
theorem l_law_take : ∀ ds S Q E, FL.sp_take ds S Q E → ds.length = ["_law_row", "_law_base"].length := FL.l_take
theorem r_law_take : ∀ ds S Q E, FL.sp_take ds S Q E → b_law_take (mends Q E) (mstart 2 ds) S := FL.r_take
theorem d_law_take {f : Addr} {cdv : Value} {A : Around} {outer : List Env} {s : Shared} {H : Hp} {E : XK} (T : Txt K mg)  (hr : Room 0 (cxM P w K mg base ["_law_row", "_law_base", "_law_rest", "_law_number_here"] "_law_take" s_law_take f cdv A outer s H E).A) :
    PSs (cxM P w K mg base ["_law_row", "_law_base", "_law_rest", "_law_number_here"] "_law_take" s_law_take f cdv A outer s H E) (defBody s_law_take) (upS K (wM E) b_law_take) :=
  (scons (sasg (eadd (eix (ev 0) eint) eint) (gsb (ev 0) eint))
    (scons (sif (tcmp (oa_ge (u65 hr)) la_ge (eix (ev 0) eint) (epow eint eint)) (scons (sset (i := 2) sc_law_take.nd (esub (eix (ev 0) eint) (epow eint eint)))
    (scons (sasg (eadd (epow eint eint) (ediv (ev 2) (ev 1))) (gsb (ev 0) eint))
    (sone (sret (emod (ev 2) (ev 1)))))) snil)
    (scons (sset (i := 3) sc_law_take.nd (emod (eadd (eadd (eadd (emul (eix (ev 0) eint) eint) (emul (emul eint (eix (ev 0) eint)) (eix (ev 0) eint))) (emul eint (eix (ev 0) eint))) eint) eint))
    (scons (sset (i := 3) sc_law_take.nd (emod (eadd (eadd (emul (ev 3) (ev 3)) (emul eint (ev 3))) (eix (ev 0) eint)) eint))
    (sone (sret (emod (ediv (ev 3) eint) (ev 1))))))))
theorem sc_law_low : FnScope ["_law_top", "_law_bottom", "_law_one", "_law_other"] ["_law_top", "_law_bottom"] (defScope s_law_low) := ⟨rfl, rfl, rfl, by decide +kernel, rfl, by decide +kernel, by decide +kernel⟩
abbrev b_law_low : MS := FL.b_low
theorem l_law_low : ∀ ds S Q E, FL.sp_low ds S Q E → ds.length = ["_law_top", "_law_bottom"].length := FL.l_low
theorem r_law_low : ∀ ds S Q E, FL.sp_low ds S Q E → b_law_low (mends Q E) (mstart 2 ds) S := FL.r_low
theorem d_law_low {f : Addr} {cdv : Value} {A : Around} {outer : List Env} {s : Shared} {H : Hp} {E : XK} (T : Txt K mg)  (hr : Room 0 (cxM P w K mg base ["_law_top", "_law_bottom", "_law_one", "_law_other"] "_law_low" s_law_low f cdv A outer s H E).A) :
    PSs (cxM P w K mg base ["_law_top", "_law_bottom", "_law_one", "_law_other"] "_law_low" s_law_low f cdv A outer s H E) (defBody s_law_low) (upS K (wM E) b_law_low) :=
  (scons (sset (i := 2) sc_law_low.nd (eblt call_abs cl_abs T.f_abs (acons (ev 0) anil)))
    (scons (sset (i := 3) sc_law_low.nd (eblt call_abs cl_abs T.f_abs (acons (ev 1) anil)))
    (scons (swhile poM (tcmp (op_neA hr.units) ol_ne (ev 3) eint) (sone (spar (i := 2) (j := 3) rfl sc_law_low.nd (acons (ev 3) (acons (emod (ev 2) (ev 3)) anil)))))
    (scons (sif (tcmp (oa_lt (u65 hr)) la_lt (ev 1) eint) (sone (sset (i := 2) sc_law_low.nd (eneg (ev 2)))) snil)
    (sone (sret (etup (acons (ediv (ev 0) (ev 2)) (acons (ediv (ev 1) (ev 2)) anil)))))))))
theorem sc_law_turn : FnScope ["_law_one", "_law_two", "_law_three", "_law_far", "_law_beside", "_law_found"] ["_law_one", "_law_two", "_law_three"] (defScope s_law_turn) := ⟨rfl, rfl, rfl, by decide +kernel, rfl, by decide +kernel, by decide +kernel⟩
abbrev b_law_turn : MS := FL.b_turn
theorem l_law_turn : ∀ ds S Q E, FL.sp_turn ds S Q E → ds.length = ["_law_one", "_law_two", "_law_three"].length := FL.l_turn
theorem r_law_turn : ∀ ds S Q E, FL.sp_turn ds S Q E → b_law_turn (mends Q E) (mstart 3 ds) S := FL.r_turn
theorem d_law_turn {f : Addr} {cdv : Value} {A : Around} {outer : List Env} {s : Shared} {H : Hp} {E : XK} (T : Txt K mg)  (hr : Room 0 (cxM P w K mg base ["_law_one", "_law_two", "_law_three", "_law_far", "_law_beside", "_law_found"] "_law_turn" s_law_turn f cdv A outer s H E).A) :
    PSs (cxM P w K mg base ["_law_one", "_law_two", "_law_three", "_law_far", "_law_beside", "_law_found"] "_law_turn" s_law_turn f cdv A outer s H E) (defBody s_law_turn) (upS K (wM E) b_law_turn) :=
  (scons (sset (i := 3) sc_law_turn.nd (etup (acons (esub (eix (ev 1) eint) (eix (ev 0) eint)) (acons (esub (eix (ev 1) eint) (eix (ev 0) eint)) anil))))
    (scons (sset (i := 4) sc_law_turn.nd (etup (acons (esub (eix (ev 2) eint) (eix (ev 0) eint)) (acons (esub (eix (ev 2) eint) (eix (ev 0) eint)) anil))))
    (scons (sset (i := 5) sc_law_turn.nd (esub (emul (eix (ev 3) eint) (eix (ev 4) eint)) (emul (eix (ev 3) eint) (eix (ev 4) eint))))
    (sone (sret (esub (etyp call_int1 cl_int T.f_int (acons (ecmp (oa_gt (u65 hr)) la_gt (ev 5) eint) anil)) (etyp call_int1 cl_int T.f_int (acons (ecmp (oa_lt (u65 hr)) la_lt (ev 5) eint) anil))))))))
theorem sc_law_shown : FnScope ["_law_one"] ["_law_one"] (defScope s_law_shown) := ⟨rfl, rfl, rfl, by decide +kernel, rfl, by decide +kernel, by decide +kernel⟩
def b_law_shown : MS := (mRet (mOp rAdd (mBlt bStrI (mCons (mOp rIxM (mVar 0) (mC (.int 0))) mNil)) (mOp rIxM (mLstF (mCons (mOp rAdd (mC (.str "/")) (mBlt bStrI (mCons (mOp rIxM (mVar 0) (mC (.int 1))) mNil))) (mCons (mC (.str "")) mNil))) (mBlt bInt (mCons (mOp rEqM (mOp rIxM (mVar 0) (mC (.int 1))) (mC (.int 1))) mNil)))))
theorem d_law_shown {f : Addr} {cdv : Value} {A : Around} {outer : List Env} {s : Shared} {H : Hp} {E : XK} (T : Txt K mg)  (hr : Room 0 (cxM P w K mg base ["_law_one"] "_law_shown" s_law_shown f cdv A outer s H E).A) :
    PSs (cxM P w K mg base ["_law_one"] "_law_shown" s_law_shown f cdv A outer s H E) (defBody s_law_shown) (upS K (wM E) b_law_shown) :=
  (sone (sret (eadd (etyp call_str_int cl_strI T.f_str (acons (eix (ev 0) eint) anil)) (eix (elstF (acons (eadd estr (etyp call_str_int cl_strI T.f_str (acons (eix (ev 0) eint) anil))) (acons estr anil))) (etyp call_int1 cl_int T.f_int (acons (ecmp (op_eqA hr.units) ol_eq (eix (ev 0) eint) eint) anil))))))
theorem sc_fraction : FnScope ["top", "bottom", "by"] ["top", "bottom"] (defScope s_fraction) := ⟨rfl, rfl, rfl, by decide +kernel, rfl, by decide +kernel, by decide +kernel⟩
abbrev b_fraction : MS := FL.b_fraction
theorem l_fraction : ∀ ds S Q E, FL.sp_low ds S Q E → ds.length = ["top", "bottom"].length := FL.l_fraction
theorem r_fraction : ∀ ds S Q E, FL.sp_low ds S Q E → b_fraction (mends Q E) (mstart 1 ds) S := FL.r_fraction
theorem d_fraction {f : Addr} {cdv : Value} {A : Around} {outer : List Env} {s : Shared} {H : Hp} {E : XK} (T : Txt K mg) (h_divisor : Has P w K mg base "divisor" ["one", "other"] 1 FL.sp_divisor) (hr : Room 1 (cxM P w K mg base ["top", "bottom", "by"] "fraction" s_fraction f cdv A outer s H E).A) :
    PSs (cxM P w K mg base ["top", "bottom", "by"] "fraction" s_fraction f cdv A outer s H E) (defBody s_fraction) (upS K (wM E) b_fraction) :=
  (scons (sif (tcmp (op_eqA hr.units) ol_eq (ev 1) eint) (sone snever) snil)
    (scons (sset (i := 2) sc_fraction.nd (ecall (h_divisor.mono (k := 1) (by decide)) hr tkM (acons (eblt call_abs cl_abs T.f_abs (acons (ev 0) anil)) (acons (eblt call_abs cl_abs T.f_abs (acons (ev 1) anil)) anil))))
    (scons (sif (tcmp (oa_lt (u65 hr)) la_lt (ev 1) eint) (sone (sset (i := 2) sc_fraction.nd (eneg (ev 2)))) snil)
    (sone (sret (etup (acons (ediv (ev 0) (ev 2)) (acons (ediv (ev 1) (ev 2)) anil))))))))
theorem sc_is_ahead : FnScope ["one", "other"] ["one", "other"] (defScope s_is_ahead) := ⟨rfl, rfl, rfl, by decide +kernel, rfl, by decide +kernel, by decide +kernel⟩
abbrev b_is_ahead : MS := FL.b_is_ahead
theorem l_is_ahead : ∀ ds S Q E, FL.sp_is_ahead ds S Q E → ds.length = ["one", "other"].length := FL.l_is_ahead
theorem r_is_ahead : ∀ ds S Q E, FL.sp_is_ahead ds S Q E → b_is_ahead (mends Q E) (mstart 0 ds) S := FL.r_is_ahead
theorem d_is_ahead {f : Addr} {cdv : Value} {A : Around} {outer : List Env} {s : Shared} {H : Hp} {E : XK} (T : Txt K mg) (h_is_less : Has P w K mg base "is_less" ["one", "other"] 1 FL.sp_is_less) (hr : Room 1 (cxM P w K mg base ["one", "other"] "is_ahead" s_is_ahead f cdv A outer s H E).A) :
    PSs (cxM P w K mg base ["one", "other"] "is_ahead" s_is_ahead f cdv A outer s H E) (defBody s_is_ahead) (upS K (wM E) b_is_ahead) :=
  (scons (sif (tcmp (op_neA hr.units) ol_ne (eix (ev 0) eint) (eix (ev 1) eint)) (sone (sret (ecall (h_is_less.mono (k := 1) (by decide)) hr tkM (acons (eix (ev 0) eint) (acons (eix (ev 1) eint) anil))))) snil)
    (sone (sret (ecall (h_is_less.mono (k := 1) (by decide)) hr tkM (acons (eix (ev 0) eint) (acons (eix (ev 1) eint) anil))))))
theorem sc_fraction_in : FnScope ["word", "top", "stroke", "bottom", "figures"] ["word"] (defScope s_fraction_in) := ⟨rfl, rfl, rfl, by decide +kernel, rfl, by decide +kernel, by decide +kernel⟩
def b_fraction_in : MS := (mSeq (mAsg (mTx1 rmPart (mVar 0) (mC (.str "/"))) (gTp 3 (gCn (gNm 1) (gCn (gNm 2) (gCn (gNm 3) gNl)))))
  (mSeq (mSet 4 (mVar 1))
  (mSeq (mIfS (mTst (mOp rEqS (mCutS (mVar 1) oNo (oSo (mC (.int 1)))) (mC (.str "-")))) (mSet 4 (mCutS (mVar 1) (oSo (mC (.int 1))) oNo)) mNext)
  (mSeq (mIfS (mOr (mNot (mTru (mCall sp_is_whole (mCons (mVar 4) mNil)))) (mTst (mOp rEqS (mVar 1) (mC (.str "-0"))))) (mRet (mC .non)) mNext)
  (mSeq (mIfS (mTst (mOp rEqS (mVar 2) (mC (.str "")))) (mRet (mTup (mCons (mBlt bIntS (mCons (mVar 1) mNil)) (mCons (mC (.int 1)) mNil)))) mNext)
  (mSeq (mIfS (mOr (mNot (mTru (mCall sp_is_whole (mCons (mVar 3) mNil)))) (mOr (mTst (mOp (rInM false) (mVar 3) (mTup (mCons (mC (.str "0")) (mCons (mC (.str "1")) mNil))))) (mTst (mOp rNeM (mCall FL.sp_divisor (mCons (mBlt bIntS (mCons (mVar 4) mNil)) (mCons (mBlt bIntS (mCons (mVar 3) mNil)) mNil))) (mC (.int 1)))))) (mRet (mC .non)) mNext)
  (mRet (mTup (mCons (mBlt bIntS (mCons (mVar 1) mNil)) (mCons (mBlt bIntS (mCons (mVar 3) mNil)) mNil))))))))))
theorem d_fraction_in {f : Addr} {cdv : Value} {A : Around} {outer : List Env} {s : Shared} {H : Hp} {E : XK} (T : Txt K mg) (h_divisor : Has P w K mg base "divisor" ["one", "other"] 1 FL.sp_divisor) (h_is_whole : Has P w K mg base "is_whole" ["word"] 1 sp_is_whole) (hr : Room 1 (cxM P w K mg base ["word", "top", "stroke", "bottom", "figures"] "fraction_in" s_fraction_in f cdv A outer s H E).A) :
    PSs (cxM P w K mg base ["word", "top", "stroke", "bottom", "figures"] "fraction_in" s_fraction_in f cdv A outer s H E) (defBody s_fraction_in) (upS K (wM E) b_fraction_in) :=
  (scons (sasg (epart (ev 0) estr) (gtp rfl (gcn (gnm (i := 1) sc_fraction_in.nd) (gcn (gnm (i := 2) sc_fraction_in.nd) (gcn (gnm (i := 3) sc_fraction_in.nd) gnl)))))
    (scons (sset (i := 4) sc_fraction_in.nd (ev 1))
    (scons (sif (tcmp (op_eqA hr.units) ol_eqS (ecutS (ev 1) ono (oso eint)) estr) (sone (sset (i := 4) sc_fraction_in.nd (ecutS (ev 1) (oso eint) ono))) snil)
    (scons (sif (L2.PW.pt (wor (tnot (ttru (ecall (h_is_whole.mono (k := 1) (by decide)) hr tkM (acons (ev 4) anil)))) (wor1 (tcmp (op_eqA hr.units) ol_eqS (ev 1) estr)))) (sone (sret enon)) snil)
    (scons (sif (tcmp (op_eqA hr.units) ol_eqS (ev 2) estr) (sone (sret (etup (acons (etyp call_int_str cl_intS T.f_int (acons (ev 1) anil)) (acons eint anil))))) snil)
    (scons (sif (L2.PW.pt (wor (tnot (ttru (ecall (h_is_whole.mono (k := 1) (by decide)) hr tkM (acons (ev 3) anil)))) (wor (tcmp (op_inA (u65 hr)) ol_in (ev 3) (etup (acons estr (acons estr anil)))) (wor1 (tcmp (op_neA hr.units) ol_ne (ecall (h_divisor.mono (k := 1) (by decide)) hr tkM (acons (etyp call_int_str cl_intS T.f_int (acons (ev 4) anil)) (acons (etyp call_int_str cl_intS T.f_int (acons (ev 3) anil)) anil))) eint))))) (sone (sret enon)) snil)
    (sone (sret (etup (acons (etyp call_int_str cl_intS T.f_int (acons (ev 1) anil)) (acons (etyp call_int_str cl_intS T.f_int (acons (ev 3) anil)) anil)))))))))))
theorem sc_show_spot : FnScope ["spot"] ["spot"] (defScope s_show_spot) := ⟨rfl, rfl, rfl, by decide +kernel, rfl, by decide +kernel, by decide +kernel⟩
def b_show_spot : MS := (mRet (mJoined [(mFmt (mCall sp_show_fraction (mCons (mOp rIxM (mVar 0) (mC (.int 0))) mNil))), (mC (.str " ")), (mFmt (mCall sp_show_fraction (mCons (mOp rIxM (mVar 0) (mC (.int 1))) mNil)))]))
theorem d_show_spot {f : Addr} {cdv : Value} {A : Around} {outer : List Env} {s : Shared} {H : Hp} {E : XK} (T : Txt K mg) (h_show_fraction : Has P w K mg base "show_fraction" ["one"] 1 sp_show_fraction) (hr : Room 1 (cxM P w K mg base ["spot"] "show_spot" s_show_spot f cdv A outer s H E).A) :
    PSs (cxM P w K mg base ["spot"] "show_spot" s_show_spot f cdv A outer s H E) (defBody s_show_spot) (upS K (wM E) b_show_spot) :=
  (sone (sret (ejoined (.cons (efmt (ecall (h_show_fraction.mono (k := 1) (by decide)) hr tkM (acons (eix (ev 0) eint) anil))) (.cons estr (.cons (efmt (ecall (h_show_fraction.mono (k := 1) (by decide)) hr tkM (acons (eix (ev 0) eint) anil))) .nil))))))
theorem sc_law_number : FnScope ["_law_row", "_law_kind", "_law_most", "_law_bottom", "_law_top"] ["_law_row"] (defScope s_law_number) := ⟨rfl, rfl, rfl, by decide +kernel, rfl, by decide +kernel, by decide +kernel⟩
def b_law_number : MS := (mSeq (mSet 1 (mCall FL.sp_take (mCons (mVar 0) (mCons (mC (.int 6)) mNil))))
  (mSeq (mSet 2 (mOp rIxM (mLstF (mCons (mC (.int 9)) (mCons (mC (.int 9)) (mCons (mC (.int 1000)) (mCons (mOp rPow (mC (.int 10)) (mC (.int 9))) (mCons (mOp rPow (mC (.int 10)) (mC (.int 30))) (mCons (mC (.int 30)) mNil))))))) (mVar 1)))
  (mSeq (mSet 3 (mOp rAdd (mC (.int 1)) (mCall FL.sp_take (mCons (mVar 0) (mCons (mOp rIxM (mLstF (mCons (mC (.int 6)) (mCons (mC (.int 12)) (mCons (mC (.int 1000)) (mCons (mOp rPow (mC (.int 10)) (mC (.int 9))) (mCons (mOp rSub (mOp rPow (mC (.int 10)) (mC (.int 30))) (mC (.int 1))) (mCons (mC (.int 1)) mNil))))))) (mVar 1)) mNil)))))
  (mSeq (mSet 4 (mOp rAdd (mOp rSub (mCall FL.sp_take (mCons (mVar 0) (mCons (mOp rSub (mOp rMul (mC (.int 2)) (mVar 2)) (mC (.int 1))) mNil))) (mVar 2)) (mC (.int 1))))
  (mRet (mCall FL.sp_low (mCons (mVar 4) (mCons (mVar 3) mNil))))))))
theorem d_law_number {f : Addr} {cdv : Value} {A : Around} {outer : List Env} {s : Shared} {H : Hp} {E : XK} (T : Txt K mg) (h_law_low : Has P w K mg base "_law_low" ["_law_top", "_law_bottom"] 1 FL.sp_low) (h_law_take : Has P w K mg base "_law_take" ["_law_row", "_law_base"] 1 FL.sp_take) (hr : Room 1 (cxM P w K mg base ["_law_row", "_law_kind", "_law_most", "_law_bottom", "_law_top"] "_law_number" s_law_number f cdv A outer s H E).A) :
    PSs (cxM P w K mg base ["_law_row", "_law_kind", "_law_most", "_law_bottom", "_law_top"] "_law_number" s_law_number f cdv A outer s H E) (defBody s_law_number) (upS K (wM E) b_law_number) :=
  (scons (sset (i := 1) sc_law_number.nd (ecall (h_law_take.mono (k := 1) (by decide)) hr tkM (acons (ev 0) (acons eint anil))))
    (scons (sset (i := 2) sc_law_number.nd (eix (elstF (acons eint (acons eint (acons eint (acons (epow eint eint) (acons (epow eint eint) (acons eint anil))))))) (ev 1)))
    (scons (sset (i := 3) sc_law_number.nd (eadd eint (ecall (h_law_take.mono (k := 1) (by decide)) hr tkM (acons (ev 0) (acons (eix (elstF (acons eint (acons eint (acons eint (acons (epow eint eint) (acons (esub (epow eint eint) eint) (acons eint anil))))))) (ev 1)) anil)))))
    (scons (sset (i := 4) sc_law_number.nd (eadd (esub (ecall (h_law_take.mono (k := 1) (by decide)) hr tkM (acons (ev 0) (acons (esub (emul eint (ev 2)) eint) anil))) (ev 2)) eint))
    (sone (sret (ecall (h_law_low.mono (k := 1) (by decide)) hr tkM (acons (ev 4) (acons (ev 3) anil)))))))))
theorem sc_law_scale : FnScope ["_law_row", "_law_top", "_law_bottom", "_law_far"] ["_law_row"] (defScope s_law_scale) := ⟨rfl, rfl, rfl, by decide +kernel, rfl, by decide +kernel, by decide +kernel⟩
def b_law_scale : MS := (mSeq (mPar 1 2 (mCons (mOp rAdd (mC (.int 1)) (mCall FL.sp_take (mCons (mVar 0) (mCons (mC (.int 6)) mNil)))) (mCons (mOp rAdd (mC (.int 1)) (mCall FL.sp_take (mCons (mVar 0) (mCons (mC (.int 6)) mNil)))) mNil)))
  (mSeq (mIfJ (mTst (mOp rEqM (mCall FL.sp_take (mCons (mVar 0) (mCons (mC (.int 4)) mNil))) (mC (.int 0)))) (mPar 1 2 (mCons (mOp rAdd (mC (.int 1)) (mCall FL.sp_take (mCons (mVar 0) (mCons (mOp rPow (mC (.int 10)) (mC (.int 9))) mNil)))) (mCons (mOp rAdd (mC (.int 1)) (mCall FL.sp_take (mCons (mVar 0) (mCons (mOp rPow (mC (.int 10)) (mC (.int 9))) mNil)))) mNil))) mNext)
  (mSeq (mSet 3 (mOp rIxM (mLstF (mCons (mC (.int 1)) (mCons (mOp rPow (mC (.int 10)) (mC (.int 15))) mNil))) (mBlt bInt (mCons (mOp rEqM (mCall FL.sp_take (mCons (mVar 0) (mCons (mC (.int 6)) mNil))) (mC (.int 0))) mNil))))
  (mRet (mTup (mCons (mVar 1) (mCons (mVar 2) (mCons (mOp rMul (mVar 3) (mOp rSub (mCall FL.sp_take (mCons (mVar 0) (mCons (mC (.int 41)) mNil))) (mC (.int 20)))) (mCons (mOp rMul (mVar 3) (mOp rSub (mCall FL.sp_take (mCons (mVar 0) (mCons (mC (.int 41)) mNil))) (mC (.int 20)))) mNil)))))))))
theorem d_law_scale {f : Addr} {cdv : Value} {A : Around} {outer : List Env} {s : Shared} {H : Hp} {E : XK} (T : Txt K mg) (h_law_take : Has P w K mg base "_law_take" ["_law_row", "_law_base"] 1 FL.sp_take) (hr : Room 1 (cxM P w K mg base ["_law_row", "_law_top", "_law_bottom", "_law_far"] "_law_scale" s_law_scale f cdv A outer s H E).A) :
    PSs (cxM P w K mg base ["_law_row", "_law_top", "_law_bottom", "_law_far"] "_law_scale" s_law_scale f cdv A outer s H E) (defBody s_law_scale) (upS K (wM E) b_law_scale) :=
  (scons (spar (i := 1) (j := 2) rfl sc_law_scale.nd (acons (eadd eint (ecall (h_law_take.mono (k := 1) (by decide)) hr tkM (acons (ev 0) (acons eint anil)))) (acons (eadd eint (ecall (h_law_take.mono (k := 1) (by decide)) hr tkM (acons (ev 0) (acons eint anil)))) anil)))
    (scons (sifJ (tcmp (op_eqA hr.units) ol_eq (ecall (h_law_take.mono (k := 1) (by decide)) hr tkM (acons (ev 0) (acons eint anil))) eint) (sone (spar (i := 1) (j := 2) rfl sc_law_scale.nd (acons (eadd eint (ecall (h_law_take.mono (k := 1) (by decide)) hr tkM (acons (ev 0) (acons (epow eint eint) anil)))) (acons (eadd eint (ecall (h_law_take.mono (k := 1) (by decide)) hr tkM (acons (ev 0) (acons (epow eint eint) anil)))) anil)))) snil)
    (scons (sset (i := 3) sc_law_scale.nd (eix (elstF (acons eint (acons (epow eint eint) anil))) (etyp call_int1 cl_int T.f_int (acons (ecmp (op_eqA hr.units) ol_eq (ecall (h_law_take.mono (k := 1) (by decide)) hr tkM (acons (ev 0) (acons eint anil))) eint) anil))))
    (sone (sret (etup (acons (ev 1) (acons (ev 2) (acons (emul (ev 3) (esub (ecall (h_law_take.mono (k := 1) (by decide)) hr tkM (acons (ev 0) (acons eint anil))) eint)) (acons (emul (ev 3) (esub (ecall (h_law_take.mono (k := 1) (by decide)) hr tkM (acons (ev 0) (acons eint anil))) eint)) anil))))))))))
theorem sc_law_spot : FnScope ["_law_scale_here", "_law_unit", "_law_top", "_law_bottom", "_law_x", "_law_y"] ["_law_scale_here", "_law_unit"] (defScope s_law_spot) := ⟨rfl, rfl, rfl, by decide +kernel, rfl, by decide +kernel, by decide +kernel⟩
abbrev b_law_spot : MS := FL.b_uspot
theorem l_law_spot : ∀ ds S Q E, FL.sp_uspot ds S Q E → ds.length = ["_law_scale_here", "_law_unit"].length := FL.l_uspot
theorem r_law_spot : ∀ ds S Q E, FL.sp_uspot ds S Q E → b_law_spot (mends Q E) (mstart 4 ds) S := FL.r_uspot
theorem d_law_spot {f : Addr} {cdv : Value} {A : Around} {outer : List Env} {s : Shared} {H : Hp} {E : XK} (T : Txt K mg) (h_law_low : Has P w K mg base "_law_low" ["_law_top", "_law_bottom"] 1 FL.sp_low) (hr : Room 1 (cxM P w K mg base ["_law_scale_here", "_law_unit", "_law_top", "_law_bottom", "_law_x", "_law_y"] "_law_spot" s_law_spot f cdv A outer s H E).A) :
    PSs (cxM P w K mg base ["_law_scale_here", "_law_unit", "_law_top", "_law_bottom", "_law_x", "_law_y"] "_law_spot" s_law_spot f cdv A outer s H E) (defBody s_law_spot) (upS K (wM E) b_law_spot) :=
  (scons (sasg (ev 0) (gtp rfl (gcn (gnm (i := 2) sc_law_spot.nd) (gcn (gnm (i := 3) sc_law_spot.nd) (gcn (gnm (i := 4) sc_law_spot.nd) (gcn (gnm (i := 5) sc_law_spot.nd) gnl))))))
    (sone (sret (etup (acons (ecall (h_law_low.mono (k := 1) (by decide)) hr tkM (acons (eadd (emul (eix (ev 1) eint) (ev 2)) (ev 4)) (acons (ev 3) anil))) (acons (ecall (h_law_low.mono (k := 1) (by decide)) hr tkM (acons (eadd (emul (eix (ev 1) eint) (ev 2)) (ev 5)) (acons (ev 3) anil))) anil))))))
theorem sc_law_on : FnScope ["_law_shut", "_law_spot_here"] ["_law_shut", "_law_spot_here"] (defScope s_law_on) := ⟨rfl, rfl, rfl, by decide +kernel, rfl, by decide +kernel, by decide +kernel⟩
abbrev b_law_on : MS := FL.b_on
theorem l_law_on : ∀ ds S Q E, FL.sp_on ds S Q E → ds.length = ["_law_shut", "_law_spot_here"].length := FL.l_on
theorem r_law_on : ∀ ds S Q E, FL.sp_on ds S Q E → b_law_on (mends Q E) (mstart 0 ds) S := FL.r_on
theorem d_law_on {f : Addr} {cdv : Value} {A : Around} {outer : List Env} {s : Shared} {H : Hp} {E : XK} (T : Txt K mg) (h_law_turn : Has P w K mg base "_law_turn" ["_law_one", "_law_two", "_law_three"] 1 FL.sp_turn) (hr : Room 1 (cxM P w K mg base ["_law_shut", "_law_spot_here"] "_law_on" s_law_on f cdv A outer s H E).A) :
    PSs (cxM P w K mg base ["_law_shut", "_law_spot_here"] "_law_on" s_law_on f cdv A outer s H E) (defBody s_law_on) (upS K (wM E) b_law_on) :=
  (sone (sret (eand (echain (oa_le (u65 hr)) (oa_le (u65 hr)) la_le la_le (eix (ev 0) eint) (ev 1) (eix (ev 0) eint)) (eone (ecmp (op_eqA hr.units) ol_eq (ecall (h_law_turn.mono (k := 1) (by decide)) hr tkM (acons (eix (ev 0) eint) (acons (eix (ev 0) eint) (acons (ev 1) anil)))) eint)))))
theorem sc_law_rows : FnScope ["_law_plot", "_law_one", "_law_first", "_law_second"] ["_law_plot"] (defScope s_law_rows) := ⟨rfl, rfl, rfl, by decide +kernel, rfl, by decide +kernel, by decide +kernel⟩
def b_law_rows : MS := (mRet (mCompF (iS (mVar 0)) (gTp 2 (gCn (gNm 2) (gCn (gNm 3) gNl))) mYes (mTx1 rmJoin (mC (.str " ")) (mOp rAdd (mLstF (mCons (mC (.str "wall")) mNil)) (mCompF (iS (mOp rAdd (mVar 2) (mVar 3))) (gNm 1) mYes (mCall sp_law_shown (mCons (mVar 1) mNil)) [1]))) [2, 3]))
theorem d_law_rows {f : Addr} {cdv : Value} {A : Around} {outer : List Env} {s : Shared} {H : Hp} {E : XK} (T : Txt K mg) (h_law_shown : Has P w K mg base "_law_shown" ["_law_one"] 1 sp_law_shown) (hr : Room 1 (cxM P w K mg base ["_law_plot", "_law_one", "_law_first", "_law_second"] "_law_rows" s_law_rows f cdv A outer s H E).A) :
    PSs (cxM P w K mg base ["_law_plot", "_law_one", "_law_first", "_law_second"] "_law_rows" s_law_rows f cdv A outer s H E) (defBody s_law_rows) (upS K (wM E) b_law_rows) :=
  (sone (sret (ecompF (own := [("_law_first", 2), ("_law_second", 3)]) rfl sc_law_rows.nd (is (ev 0)) (blkOk_by (by first | decide +kernel | kernel_rfl | rfl)) (fun _ _ _ _ _ => (gotp rfl (gocn (gonm sc_law_rows.nd (i := 2) (by decide)) (gocn (gonm sc_law_rows.nd (i := 3) (by decide)) gonl)))) (fun _ _ _ _ _ => tsNil) (fun _ _ _ _ _ => (ejoin estr (eadd (elstF (acons estr anil)) (ecompF (own := [("_law_one", 1)]) rfl sc_law_rows.nd (is (eadd (ev 2) (ev 3))) (blkOk_by (by first | decide +kernel | kernel_rfl | rfl)) (fun _ _ _ _ _ => (gonm sc_law_rows.nd (i := 1) (by decide))) (fun _ _ _ _ _ => tsNil) (fun _ _ _ _ _ => (ecall (h_law_shown.mono (k := 1) (by decide)) hr takes0 (acons (ev 1) anil))))))))))
theorem sc_plus : FnScope ["one", "other"] ["one", "other"] (defScope s_plus) := ⟨rfl, rfl, rfl, by decide +kernel, rfl, by decide +kernel, by decide +kernel⟩
abbrev b_plus : MS := FL.b_plus
theorem l_plus : ∀ ds S Q E, FL.sp_plus ds S Q E → ds.length = ["one", "other"].length := FL.l_plus
theorem r_plus : ∀ ds S Q E, FL.sp_plus ds S Q E → b_plus (mends Q E) (mstart 0 ds) S := FL.r_plus
theorem d_plus {f : Addr} {cdv : Value} {A : Around} {outer : List Env} {s : Shared} {H : Hp} {E : XK} (T : Txt K mg) (h_fraction : Has P w K mg base "fraction" ["top", "bottom"] 2 FL.sp_low) (hr : Room 2 (cxM P w K mg base ["one", "other"] "plus" s_plus f cdv A outer s H E).A) :
    PSs (cxM P w K mg base ["one", "other"] "plus" s_plus f cdv A outer s H E) (defBody s_plus) (upS K (wM E) b_plus) :=
  (sone (sret (ecall (h_fraction.mono (k := 2) (by decide)) hr tkM (acons (eadd (emul (eix (ev 0) eint) (eix (ev 1) eint)) (emul (eix (ev 1) eint) (eix (ev 0) eint))) (acons (emul (eix (ev 0) eint) (eix (ev 1) eint)) anil)))))
theorem sc_less : FnScope ["one", "other"] ["one", "other"] (defScope s_less) := ⟨rfl, rfl, rfl, by decide +kernel, rfl, by decide +kernel, by decide +kernel⟩
abbrev b_less : MS := FL.b_less
theorem l_less : ∀ ds S Q E, FL.sp_less ds S Q E → ds.length = ["one", "other"].length := FL.l_less
theorem r_less : ∀ ds S Q E, FL.sp_less ds S Q E → b_less (mends Q E) (mstart 0 ds) S := FL.r_less
theorem d_less {f : Addr} {cdv : Value} {A : Around} {outer : List Env} {s : Shared} {H : Hp} {E : XK} (T : Txt K mg) (h_fraction : Has P w K mg base "fraction" ["top", "bottom"] 2 FL.sp_low) (hr : Room 2 (cxM P w K mg base ["one", "other"] "less" s_less f cdv A outer s H E).A) :
    PSs (cxM P w K mg base ["one", "other"] "less" s_less f cdv A outer s H E) (defBody s_less) (upS K (wM E) b_less) :=
  (sone (sret (ecall (h_fraction.mono (k := 2) (by decide)) hr tkM (acons (esub (emul (eix (ev 0) eint) (eix (ev 1) eint)) (emul (eix (ev 1) eint) (eix (ev 0) eint))) (acons (emul (eix (ev 0) eint) (eix (ev 1) eint)) anil)))))
theorem sc_times : FnScope ["one", "other"] ["one", "other"] (defScope s_times) := ⟨rfl, rfl, rfl, by decide +kernel, rfl, by decide +kernel, by decide +kernel⟩
abbrev b_times : MS := FL.b_times
theorem l_times : ∀ ds S Q E, FL.sp_times ds S Q E → ds.length = ["one", "other"].length := FL.l_times
theorem r_times : ∀ ds S Q E, FL.sp_times ds S Q E → b_times (mends Q E) (mstart 0 ds) S := FL.r_times
theorem d_times {f : Addr} {cdv : Value} {A : Around} {outer : List Env} {s : Shared} {H : Hp} {E : XK} (T : Txt K mg) (h_fraction : Has P w K mg base "fraction" ["top", "bottom"] 2 FL.sp_low) (hr : Room 2 (cxM P w K mg base ["one", "other"] "times" s_times f cdv A outer s H E).A) :
    PSs (cxM P w K mg base ["one", "other"] "times" s_times f cdv A outer s H E) (defBody s_times) (upS K (wM E) b_times) :=
  (sone (sret (ecall (h_fraction.mono (k := 2) (by decide)) hr tkM (acons (emul (eix (ev 0) eint) (eix (ev 1) eint)) (acons (emul (eix (ev 0) eint) (eix (ev 1) eint)) anil)))))
theorem sc_over : FnScope ["one", "other"] ["one", "other"] (defScope s_over) := ⟨rfl, rfl, rfl, by decide +kernel, rfl, by decide +kernel, by decide +kernel⟩
abbrev b_over : MS := FL.b_over
theorem l_over : ∀ ds S Q E, FL.sp_over ds S Q E → ds.length = ["one", "other"].length := FL.l_over
theorem r_over : ∀ ds S Q E, FL.sp_over ds S Q E → b_over (mends Q E) (mstart 0 ds) S := FL.r_over
theorem d_over {f : Addr} {cdv : Value} {A : Around} {outer : List Env} {s : Shared} {H : Hp} {E : XK} (T : Txt K mg) (h_fraction : Has P w K mg base "fraction" ["top", "bottom"] 2 FL.sp_low) (hr : Room 2 (cxM P w K mg base ["one", "other"] "over" s_over f cdv A outer s H E).A) :
    PSs (cxM P w K mg base ["one", "other"] "over" s_over f cdv A outer s H E) (defBody s_over) (upS K (wM E) b_over) :=
  (sone (sret (ecall (h_fraction.mono (k := 2) (by decide)) hr tkM (acons (emul (eix (ev 0) eint) (eix (ev 1) eint)) (acons (emul (eix (ev 0) eint) (eix (ev 1) eint)) anil)))))
theorem sc_spot_in : FnScope ["words", "x", "y", "word"] ["words"] (defScope s_spot_in) := ⟨rfl, rfl, rfl, by decide +kernel, rfl, by decide +kernel, by decide +kernel⟩
def b_spot_in : MS := (mSeq (mAsg (mCompF (iS (mVar 0)) (gNm 3) mYes (mCall sp_fraction_in (mCons (mVar 3) mNil)) [3]) (gLs 2 (gCn (gNm 1) (gCn (gNm 2) gNl))))
  (mSeq (mIfS (mOr (mTst (mOp rIsN (mVar 1) (mC .non))) (mTst (mOp rIsN (mVar 2) (mC .non)))) (mRet (mC .non)) mNext)
  (mRet (mTup (mCons (mVar 1) (mCons (mVar 2) mNil))))))
theorem d_spot_in {f : Addr} {cdv : Value} {A : Around} {outer : List Env} {s : Shared} {H : Hp} {E : XK} (T : Txt K mg) (h_fraction_in : Has P w K mg base "fraction_in" ["word"] 2 sp_fraction_in) (hr : Room 2 (cxM P w K mg base ["words", "x", "y", "word"] "spot_in" s_spot_in f cdv A outer s H E).A) :
    PSs (cxM P w K mg base ["words", "x", "y", "word"] "spot_in" s_spot_in f cdv A outer s H E) (defBody s_spot_in) (upS K (wM E) b_spot_in) :=
  (scons (sasg (ecompF (own := [("word", 3)]) rfl sc_spot_in.nd (is (ev 0)) (blkOk_by (by first | decide +kernel | kernel_rfl | rfl)) (fun _ _ _ _ _ => (gonm sc_spot_in.nd (i := 3) (by decide))) (fun _ _ _ _ _ => tsNil) (fun _ _ _ _ _ => (ecall (h_fraction_in.mono (k := 2) (by decide)) hr takes0 (acons (ev 3) anil)))) (gls rfl (gcn (gnm (i := 1) sc_spot_in.nd) (gcn (gnm (i := 2) sc_spot_in.nd) gnl))))
    (scons (sif (L2.PW.pt (wor (tcmp op_isN ol_isN (ev 1) enon) (wor1 (tcmp op_isN ol_isN (ev 2) enon)))) (sone (sret enon)) snil)
    (sone (sret (etup (acons (ev 1) (acons (ev 2) anil)))))))
theorem sc_wall_rows : FnScope ["plot", "first", "second"] ["plot"] (defScope s_wall_rows) := ⟨rfl, rfl, rfl, by decide +kernel, rfl, by decide +kernel, by decide +kernel⟩
def b_wall_rows : MS := (mRet (mCompF (iS (mVar 0)) (gTp 2 (gCn (gNm 1) (gCn (gNm 2) gNl))) mYes (mJoined [(mC (.str "wall ")), (mFmt (mCall sp_show_spot (mCons (mVar 1) mNil))), (mC (.str " ")), (mFmt (mCall sp_show_spot (mCons (mVar 2) mNil)))]) [1, 2]))
theorem d_wall_rows {f : Addr} {cdv : Value} {A : Around} {outer : List Env} {s : Shared} {H : Hp} {E : XK} (T : Txt K mg) (h_show_spot : Has P w K mg base "show_spot" ["spot"] 2 sp_show_spot) (hr : Room 2 (cxM P w K mg base ["plot", "first", "second"] "wall_rows" s_wall_rows f cdv A outer s H E).A) :
    PSs (cxM P w K mg base ["plot", "first", "second"] "wall_rows" s_wall_rows f cdv A outer s H E) (defBody s_wall_rows) (upS K (wM E) b_wall_rows) :=
  (sone (sret (ecompF (own := [("first", 1), ("second", 2)]) rfl sc_wall_rows.nd (is (ev 0)) (blkOk_by (by first | decide +kernel | kernel_rfl | rfl)) (fun _ _ _ _ _ => (gotp rfl (gocn (gonm sc_wall_rows.nd (i := 1) (by decide)) (gocn (gonm sc_wall_rows.nd (i := 2) (by decide)) gonl)))) (fun _ _ _ _ _ => tsNil) (fun _ _ _ _ _ => (ejoined (.cons estr (.cons (efmt (ecall (h_show_spot.mono (k := 2) (by decide)) hr takes0 (acons (ev 1) anil))) (.cons estr (.cons (efmt (ecall (h_show_spot.mono (k := 2) (by decide)) hr takes0 (acons (ev 2) anil))) .nil)))))))))
theorem sc_law_made : FnScope ["_law_scale_here", "_law_shuts", "_law_first", "_law_second"] ["_law_scale_here", "_law_shuts"] (defScope s_law_made) := ⟨rfl, rfl, rfl, by decide +kernel, rfl, by decide +kernel, by decide +kernel⟩
abbrev b_law_made : MS := FL.b_made
theorem l_law_made : ∀ ds S Q E, FL.sp_made ds S Q E → ds.length = ["_law_scale_here", "_law_shuts"].length := FL.l_made
theorem r_law_made : ∀ ds S Q E, FL.sp_made ds S Q E → b_law_made (mends Q E) (mstart 2 ds) S := FL.r_made
theorem d_law_made {f : Addr} {cdv : Value} {A : Around} {outer : List Env} {s : Shared} {H : Hp} {E : XK} (T : Txt K mg) (h_law_spot : Has P w K mg base "_law_spot" ["_law_scale_here", "_law_unit"] 2 FL.sp_uspot) (hr : Room 2 (cxM P w K mg base ["_law_scale_here", "_law_shuts", "_law_first", "_law_second"] "_law_made" s_law_made f cdv A outer s H E).A) :
    PSs (cxM P w K mg base ["_law_scale_here", "_law_shuts", "_law_first", "_law_second"] "_law_made" s_law_made f cdv A outer s H E) (defBody s_law_made) (upS K (wM E) b_law_made) :=
  (sone (sret (etyp call_tuple_of cl_tuple T.f_tuple (acons (ecompF (own := [("_law_first", 2), ("_law_second", 3)]) rfl sc_law_made.nd (is (ev 1)) (blkOk_by (by first | decide +kernel | kernel_rfl | rfl)) (fun _ _ _ _ _ => (gotp rfl (gocn (gonm sc_law_made.nd (i := 2) (by decide)) (gocn (gonm sc_law_made.nd (i := 3) (by decide)) gonl)))) (fun _ _ _ _ _ => tsNil) (fun _ _ _ _ _ => (etup (acons (ecall (h_law_spot.mono (k := 2) (by decide)) hr takes0 (acons (ev 0) (acons (ev 2) anil))) (acons (ecall (h_law_spot.mono (k := 2) (by decide)) hr takes0 (acons (ev 0) (acons (ev 3) anil))) anil))))) anil))))
theorem sc_law_fair : FnScope ["_law_one", "_law_other", "_law_shut", "_law_beside", "_law_spot_here", "_law_sides", "_law_others"] ["_law_one", "_law_other"] (defScope s_law_fair) := ⟨rfl, rfl, rfl, by decide +kernel, rfl, by decide +kernel, by decide +kernel⟩
abbrev b_law_fair : MS := FL.b_fair
theorem l_law_fair : ∀ ds S Q E, FL.sp_fair ds S Q E → ds.length = ["_law_one", "_law_other"].length := FL.l_fair
theorem r_law_fair : ∀ ds S Q E, FL.sp_fair ds S Q E → b_law_fair (mends Q E) (mstart 5 ds) S := FL.r_fair
theorem d_law_fair {f : Addr} {cdv : Value} {A : Around} {outer : List Env} {s : Shared} {H : Hp} {E : XK} (T : Txt K mg) (h_law_turn : Has P w K mg base "_law_turn" ["_law_one", "_law_two", "_law_three"] 1 FL.sp_turn) (h_law_on : Has P w K mg base "_law_on" ["_law_shut", "_law_spot_here"] 2 FL.sp_on) (hr : Room 2 (cxM P w K mg base ["_law_one", "_law_other", "_law_shut", "_law_beside", "_law_spot_here", "_law_sides", "_law_others"] "_law_fair" s_law_fair f cdv A outer s H E).A) :
    PSs (cxM P w K mg base ["_law_one", "_law_other", "_law_shut", "_law_beside", "_law_spot_here", "_law_sides", "_law_others"] "_law_fair" s_law_fair f cdv A outer s H E) (defBody s_law_fair) (upS K (wM E) b_law_fair) :=
  (scons (sif (tcmp (op_eqA hr.units) ol_eq (ev 0) (ev 1)) (sone (sret ebl)) snil)
    (scons (sfor poM rfl (is (etup (acons (etup (acons (ev 0) (acons (ev 1) anil))) (acons (etup (acons (ev 1) (acons (ev 0) anil))) anil)))) (gtp rfl (gcn (gnm (i := 2) sc_law_fair.nd) (gcn (gnm (i := 3) sc_law_fair.nd) gnl))) (sone (sfor poM rfl (is (ev 3)) (gnm (i := 4) sc_law_fair.nd) (sone (sif (L2.PW.pt (wand (tcmp (op_notInA (u65 hr)) ol_notIn (ev 4) (ev 2)) (wand1 (ttru (ecall (h_law_on.mono (k := 2) (by decide)) hr tkM (acons (ev 2) (acons (ev 4) anil))))))) (sone (sret ebl)) snil)))))
    (scons (ssetLc (i := 5) (own := [("_law_spot_here", 4)]) rfl sc_law_fair.nd (is (ev 1)) (blkOk_by (by first | decide +kernel | kernel_rfl | rfl)) (fun _ _ _ _ _ => (gonm sc_law_fair.nd (i := 4) (by decide))) (fun _ _ _ _ _ => tsNil) (fun _ _ _ _ _ => (ecall (h_law_turn.mono (k := 2) (by decide)) hr takes0 (acons (eix (ev 0) eint) (acons (eix (ev 0) eint) (acons (ev 4) anil))))))
    (scons (ssetLc (i := 6) (own := [("_law_spot_here", 4)]) rfl sc_law_fair.nd (is (ev 0)) (blkOk_by (by first | decide +kernel | kernel_rfl | rfl)) (fun _ _ _ _ _ => (gonm sc_law_fair.nd (i := 4) (by decide))) (fun _ _ _ _ _ => tsNil) (fun _ _ _ _ _ => (ecall (h_law_turn.mono (k := 2) (by decide)) hr takes0 (acons (eix (ev 1) eint) (acons (eix (ev 1) eint) (acons (ev 4) anil))))))
    (sone (sret (eor (ecmp (oa_ge (u65 hr)) la_ge (emul (eix (ev 5) eint) (eix (ev 5) eint)) eint) (eone (ecmp (oa_ge (u65 hr)) la_ge (emul (eix (ev 6) eint) (eix (ev 6) eint)) eint)))))))))
theorem sc_along : FnScope ["wall", "first", "second"] ["wall"] (defScope s_along) := ⟨rfl, rfl, rfl, by decide +kernel, rfl, by decide +kernel, by decide +kernel⟩
abbrev b_along : MS := FL.b_along
theorem l_along : ∀ ds S Q E, FL.sp_along ds S Q E → ds.length = ["wall"].length := FL.l_along
theorem r_along : ∀ ds S Q E, FL.sp_along ds S Q E → b_along (mends Q E) (mstart 2 ds) S := FL.r_along
theorem d_along {f : Addr} {cdv : Value} {A : Around} {outer : List Env} {s : Shared} {H : Hp} {E : XK} (T : Txt K mg) (h_less : Has P w K mg base "less" ["one", "other"] 3 FL.sp_less) (hr : Room 3 (cxM P w K mg base ["wall", "first", "second"] "along" s_along f cdv A outer s H E).A) :
    PSs (cxM P w K mg base ["wall", "first", "second"] "along" s_along f cdv A outer s H E) (defBody s_along) (upS K (wM E) b_along) :=
  (scons (sasg (ev 0) (gtp rfl (gcn (gnm (i := 1) sc_along.nd) (gcn (gnm (i := 2) sc_along.nd) gnl))))
    (sone (sret (etup (acons (ecall (h_less.mono (k := 3) (by decide)) hr tkM (acons (eix (ev 2) eint) (acons (eix (ev 1) eint) anil))) (acons (ecall (h_less.mono (k := 3) (by decide)) hr tkM (acons (eix (ev 2) eint) (acons (eix (ev 1) eint) anil))) anil))))))
theorem sc_crossed : FnScope ["one", "other"] ["one", "other"] (defScope s_crossed) := ⟨rfl, rfl, rfl, by decide +kernel, rfl, by decide +kernel, by decide +kernel⟩
abbrev b_crossed : MS := FL.b_crossed
theorem l_crossed : ∀ ds S Q E, FL.sp_crossed ds S Q E → ds.length = ["one", "other"].length := FL.l_crossed
theorem r_crossed : ∀ ds S Q E, FL.sp_crossed ds S Q E → b_crossed (mends Q E) (mstart 0 ds) S := FL.r_crossed
theorem d_crossed {f : Addr} {cdv : Value} {A : Around} {outer : List Env} {s : Shared} {H : Hp} {E : XK} (T : Txt K mg) (h_less : Has P w K mg base "less" ["one", "other"] 3 FL.sp_less) (h_times : Has P w K mg base "times" ["one", "other"] 3 FL.sp_times) (hr : Room 3 (cxM P w K mg base ["one", "other"] "crossed" s_crossed f cdv A outer s H E).A) :
    PSs (cxM P w K mg base ["one", "other"] "crossed" s_crossed f cdv A outer s H E) (defBody s_crossed) (upS K (wM E) b_crossed) :=
  (sone (sret (ecall (h_less.mono (k := 3) (by decide)) hr tkM (acons (ecall (h_times.mono (k := 3) (by decide)) hr tkM (acons (eix (ev 0) eint) (acons (eix (ev 1) eint) anil))) (acons (ecall (h_times.mono (k := 3) (by decide)) hr tkM (acons (eix (ev 0) eint) (acons (eix (ev 1) eint) anil))) anil)))))
theorem sc_wall_in : FnScope ["words", "first", "second"] ["words"] (defScope s_wall_in) := ⟨rfl, rfl, rfl, by decide +kernel, rfl, by decide +kernel, by decide +kernel⟩
def b_wall_in : MS := (mSeq (mIfS (mOr (mTst (mOp rNeM (mBlt bLen (mCons (mVar 0) mNil)) (mC (.int 5)))) (mTst (mOp rNeS (mOp rIxM (mVar 0) (mC (.int 0))) (mC (.str "wall"))))) (mRet (mC .non)) mNext)
  (mSeq (mSet 1 (mCall sp_spot_in (mCons (mCut (mVar 0) (oSo (mC (.int 1))) (oSo (mC (.int 3)))) mNil)))
  (mSeq (mSet 2 (mCall sp_spot_in (mCons (mCut (mVar 0) (oSo (mC (.int 3))) (oSo (mC (.int 5)))) mNil)))
  (mSeq (mIfS (mOr (mTst (mOp rIsN (mVar 1) (mC .non))) (mOr (mTst (mOp rIsN (mVar 2) (mC .non))) (mNot (mTru (mCall FL.sp_is_ahead (mCons (mVar 1) (mCons (mVar 2) mNil))))))) (mRet (mC .non)) mNext)
  (mRet (mTup (mCons (mVar 1) (mCons (mVar 2) mNil))))))))
theorem d_wall_in {f : Addr} {cdv : Value} {A : Around} {outer : List Env} {s : Shared} {H : Hp} {E : XK} (T : Txt K mg) (h_is_ahead : Has P w K mg base "is_ahead" ["one", "other"] 2 FL.sp_is_ahead) (h_spot_in : Has P w K mg base "spot_in" ["words"] 3 sp_spot_in) (hr : Room 3 (cxM P w K mg base ["words", "first", "second"] "wall_in" s_wall_in f cdv A outer s H E).A) :
    PSs (cxM P w K mg base ["words", "first", "second"] "wall_in" s_wall_in f cdv A outer s H E) (defBody s_wall_in) (upS K (wM E) b_wall_in) :=
  (scons (sif (L2.PW.pt (wor (tcmp (op_neA hr.units) ol_ne (eblt call_len cl_len T.f_len (acons (ev 0) anil) PySem.boot_len) eint) (wor1 (tcmp (op_neA hr.units) ol_neS (eix (ev 0) eint) estr)))) (sone (sret enon)) snil)
    (scons (sset (i := 1) sc_wall_in.nd (ecall (h_spot_in.mono (k := 3) (by decide)) hr tkM (acons (ecut (ev 0) (oso eint) (oso eint)) anil)))
    (scons (sset (i := 2) sc_wall_in.nd (ecall (h_spot_in.mono (k := 3) (by decide)) hr tkM (acons (ecut (ev 0) (oso eint) (oso eint)) anil)))
    (scons (sif (L2.PW.pt (wor (tcmp op_isN ol_isN (ev 1) enon) (wor (tcmp op_isN ol_isN (ev 2) enon) (wor1 (tnot (ttru (ecall (h_is_ahead.mono (k := 3) (by decide)) hr tkM (acons (ev 1) (acons (ev 2) anil))))))))) (sone (sret enon)) snil)
    (sone (sret (etup (acons (ev 1) (acons (ev 2) anil)))))))))
theorem sc_question_in : FnScope ["words"] ["words"] (defScope s_question_in) := ⟨rfl, rfl, rfl, by decide +kernel, rfl, by decide +kernel, by decide +kernel⟩
def b_question_in : MS := (mSeq (mIfS (mOr (mTst (mOp rNeM (mBlt bLen (mCons (mVar 0) mNil)) (mC (.int 3)))) (mTst (mOp rNeS (mOp rIxM (mVar 0) (mC (.int 0))) (mC (.str "ask"))))) (mRet (mC .non)) mNext)
  (mRet (mCall sp_spot_in (mCons (mCut (mVar 0) (oSo (mC (.int 1))) (oSo (mC (.int 3)))) mNil))))
theorem d_question_in {f : Addr} {cdv : Value} {A : Around} {outer : List Env} {s : Shared} {H : Hp} {E : XK} (T : Txt K mg) (h_spot_in : Has P w K mg base "spot_in" ["words"] 3 sp_spot_in) (hr : Room 3 (cxM P w K mg base ["words"] "question_in" s_question_in f cdv A outer s H E).A) :
    PSs (cxM P w K mg base ["words"] "question_in" s_question_in f cdv A outer s H E) (defBody s_question_in) (upS K (wM E) b_question_in) :=
  (scons (sif (L2.PW.pt (wor (tcmp (op_neA hr.units) ol_ne (eblt call_len cl_len T.f_len (acons (ev 0) anil) PySem.boot_len) eint) (wor1 (tcmp (op_neA hr.units) ol_neS (eix (ev 0) eint) estr)))) (sone (sret enon)) snil)
    (sone (sret (ecall (h_spot_in.mono (k := 3) (by decide)) hr tkM (acons (ecut (ev 0) (oso eint) (oso eint)) anil)))))
theorem sc_show_questions : FnScope ["plot", "spots", "spot"] ["plot", "spots"] (defScope s_show_questions) := ⟨rfl, rfl, rfl, by decide +kernel, rfl, by decide +kernel, by decide +kernel⟩
def b_show_questions : MS := (mRet (mTx1 rmJoin (mC (.str "\n")) (mOp rAdd (mCall sp_wall_rows (mCons (mVar 0) mNil)) (mCompF (iS (mVar 1)) (gNm 2) mYes (mJoined [(mC (.str "ask ")), (mFmt (mCall sp_show_spot (mCons (mVar 2) mNil)))]) [2]))))
theorem d_show_questions {f : Addr} {cdv : Value} {A : Around} {outer : List Env} {s : Shared} {H : Hp} {E : XK} (T : Txt K mg) (h_wall_rows : Has P w K mg base "wall_rows" ["plot"] 3 sp_wall_rows) (h_show_spot : Has P w K mg base "show_spot" ["spot"] 2 sp_show_spot) (hr : Room 3 (cxM P w K mg base ["plot", "spots", "spot"] "show_questions" s_show_questions f cdv A outer s H E).A) :
    PSs (cxM P w K mg base ["plot", "spots", "spot"] "show_questions" s_show_questions f cdv A outer s H E) (defBody s_show_questions) (upS K (wM E) b_show_questions) :=
  (sone (sret (ejoin estr (eadd (ecall (h_wall_rows.mono (k := 3) (by decide)) hr tkM (acons (ev 0) anil)) (ecompF (own := [("spot", 2)]) rfl sc_show_questions.nd (is (ev 1)) (blkOk_by (by first | decide +kernel | kernel_rfl | rfl)) (fun _ _ _ _ _ => (gonm sc_show_questions.nd (i := 2) (by decide))) (fun _ _ _ _ _ => tsNil) (fun _ _ _ _ _ => (ejoined (.cons estr (.cons (efmt (ecall (h_show_spot.mono (k := 3) (by decide)) hr takes0 (acons (ev 2) anil))) .nil)))))))))
theorem sc_law_shuts_here : FnScope ["_law_row", "_law_most", "_law_size", "_law_shuts", "_law_turn_here", "_law_one", "_law_other", "_law_shut", "_law_beside"] ["_law_row", "_law_most", "_law_size"] (defScope s_law_shuts_here) := ⟨rfl, rfl, rfl, by decide +kernel, rfl, by decide +kernel, by decide +kernel⟩
abbrev b_law_shuts_here : MS := FL.b_shuts_here
theorem l_law_shuts_here : ∀ ds S Q E, FL.sp_shuts_here ds S Q E → ds.length = ["_law_row", "_law_most", "_law_size"].length := FL.l_shuts_here
theorem r_law_shuts_here : ∀ ds S Q E, FL.sp_shuts_here ds S Q E → b_law_shuts_here (mends Q E) (mstart 6 ds) S := FL.r_shuts_here
theorem d_law_shuts_here {f : Addr} {cdv : Value} {A : Around} {outer : List Env} {s : Shared} {H : Hp} {E : XK} (T : Txt K mg) (h_law_take : Has P w K mg base "_law_take" ["_law_row", "_law_base"] 1 FL.sp_take) (h_law_fair : Has P w K mg base "_law_fair" ["_law_one", "_law_other"] 3 FL.sp_fair) (hr : Room 3 (cxM P w K mg base ["_law_row", "_law_most", "_law_size", "_law_shuts", "_law_turn_here", "_law_one", "_law_other", "_law_shut", "_law_beside"] "_law_shuts_here" s_law_shuts_here f cdv A outer s H E).A) :
    PSs (cxM P w K mg base ["_law_row", "_law_most", "_law_size", "_law_shuts", "_law_turn_here", "_law_one", "_law_other", "_law_shut", "_law_beside"] "_law_shuts_here" s_law_shuts_here f cdv A outer s H E) (defBody s_law_shuts_here) (upS K (wM E) b_law_shuts_here) :=
  (scons (sset (i := 3) sc_law_shuts_here.nd (elst anil))
    (scons (sfor poM rfl (ir1 T.f_range (acons (ecall (h_law_take.mono (k := 3) (by decide)) hr tkM (acons (ev 0) (acons (eadd (ev 1) eint) anil))) anil)) (gnm (i := 4) sc_law_shuts_here.nd) (scons (sset (i := 5) sc_law_shuts_here.nd (etup (acons (ecall (h_law_take.mono (k := 3) (by decide)) hr tkM (acons (ev 0) (acons (ev 2) anil))) (acons (ecall (h_law_take.mono (k := 3) (by decide)) hr tkM (acons (ev 0) (acons (ev 2) anil))) anil))))
    (scons (sset (i := 6) sc_law_shuts_here.nd (etup (acons (ecall (h_law_take.mono (k := 3) (by decide)) hr tkM (acons (ev 0) (acons (ev 2) anil))) (acons (ecall (h_law_take.mono (k := 3) (by decide)) hr tkM (acons (ev 0) (acons (ev 2) anil))) anil))))
    (scons (sifJ (L2.PW.pt (wand (tcmp (op_neA hr.units) ol_ne (ev 3) (elstF anil)) (wand1 (tcmp (oa_gt (u65 hr)) la_gt (ecall (h_law_take.mono (k := 3) (by decide)) hr tkM (acons (ev 0) (acons eint anil))) eint)))) (sone (sset (i := 5) sc_law_shuts_here.nd (eix (eix (ev 3) (ecall (h_law_take.mono (k := 3) (by decide)) hr tkM (acons (ev 0) (acons (eblt call_len cl_len T.f_len (acons (ev 3) anil) PySem.boot_len) anil)))) (ecall (h_law_take.mono (k := 3) (by decide)) hr tkM (acons (ev 0) (acons eint anil)))))) snil)
    (scons (sset (i := 7) sc_law_shuts_here.nd (etup (acons (eblt (ca_min rfl (u65 hr)) cl_minA T.f_min (acons (ev 5) (acons (ev 6) anil))) (acons (eblt (ca_max rfl (u65 hr)) cl_maxA T.f_max (acons (ev 5) (acons (ev 6) anil))) anil))))
    (sone (sifJ (L2.PW.pt (wand (tcmp (op_neA hr.units) ol_ne (ev 5) (ev 6)) (wand1 (ttru (eblt (cr_all rfl) cl_all T.f_all (acons (ecompF (own := [("_law_beside", 8)]) rfl sc_law_shuts_here.nd (is (ev 3)) (blkOk_by (by first | decide +kernel | kernel_rfl | rfl)) (fun _ _ _ _ _ => (gonm sc_law_shuts_here.nd (i := 8) (by decide))) (fun _ _ _ _ _ => tsNil) (fun _ _ _ _ _ => (ecall (h_law_fair.mono (k := 3) (by decide)) hr takes0 (acons (ev 7) (acons (ev 8) anil))))) anil)))))) (sone (sexpr (emt PySem.F.slot_list_append PySem.F.type_list_append mt_append ml_append (ev 3) (acons (ev 7) anil)))) snil)))))))
    (sone (sret (ev 3)))))
theorem sc_leaning : FnScope ["one", "other", "found"] ["one", "other"] (defScope s_leaning) := ⟨rfl, rfl, rfl, by decide +kernel, rfl, by decide +kernel, by decide +kernel⟩
abbrev b_leaning : MS := FL.b_leaning
theorem l_leaning : ∀ ds S Q E, FL.sp_leaning ds S Q E → ds.length = ["one", "other"].length := FL.l_leaning
theorem r_leaning : ∀ ds S Q E, FL.sp_leaning ds S Q E → b_leaning (mends Q E) (mstart 1 ds) S := FL.r_leaning
theorem d_leaning {f : Addr} {cdv : Value} {A : Around} {outer : List Env} {s : Shared} {H : Hp} {E : XK} (T : Txt K mg) (h_crossed : Has P w K mg base "crossed" ["one", "other"] 4 FL.sp_crossed) (hr : Room 4 (cxM P w K mg base ["one", "other", "found"] "leaning" s_leaning f cdv A outer s H E).A) :
    PSs (cxM P w K mg base ["one", "other", "found"] "leaning" s_leaning f cdv A outer s H E) (defBody s_leaning) (upS K (wM E) b_leaning) :=
  (scons (sset (i := 2) sc_leaning.nd (ecall (h_crossed.mono (k := 4) (by decide)) hr tkM (acons (ev 0) (acons (ev 1) anil))))
    (sone (sret (esub (etyp call_int1 cl_int T.f_int (acons (ecmp (oa_gt (u65 hr)) la_gt (eix (ev 2) eint) eint) anil)) (etyp call_int1 cl_int T.f_int (acons (ecmp (oa_lt (u65 hr)) la_lt (eix (ev 2) eint) eint) anil))))))
theorem sc_spot_of_lines : FnScope ["one", "other", "far", "part"] ["one", "other"] (defScope s_spot_of_lines) := ⟨rfl, rfl, rfl, by decide +kernel, rfl, by decide +kernel, by decide +kernel⟩
abbrev b_spot_of_lines : MS := FL.b_spot_of_lines
theorem l_spot_of_lines : ∀ ds S Q E, FL.sp_spot_of_lines ds S Q E → ds.length = ["one", "other"].length := FL.l_spot_of_lines
theorem r_spot_of_lines : ∀ ds S Q E, FL.sp_spot_of_lines ds S Q E → b_spot_of_lines (mends Q E) (mstart 2 ds) S := FL.r_spot_of_lines
theorem d_spot_of_lines {f : Addr} {cdv : Value} {A : Around} {outer : List Env} {s : Shared} {H : Hp} {E : XK} (T : Txt K mg) (h_plus : Has P w K mg base "plus" ["one", "other"] 3 FL.sp_plus) (h_times : Has P w K mg base "times" ["one", "other"] 3 FL.sp_times) (h_over : Has P w K mg base "over" ["one", "other"] 3 FL.sp_over) (h_crossed : Has P w K mg base "crossed" ["one", "other"] 4 FL.sp_crossed) (h_along : Has P w K mg base "along" ["wall"] 4 FL.sp_along) (hr : Room 4 (cxM P w K mg base ["one", "other", "far", "part"] "spot_of_lines" s_spot_of_lines f cdv A outer s H E).A) :
    PSs (cxM P w K mg base ["one", "other", "far", "part"] "spot_of_lines" s_spot_of_lines f cdv A outer s H E) (defBody s_spot_of_lines) (upS K (wM E) b_spot_of_lines) :=
  (scons (sset (i := 2) sc_spot_of_lines.nd (ecall (h_along.mono (k := 4) (by decide)) hr tkM (acons (ev 0) anil)))
    (scons (sset (i := 3) sc_spot_of_lines.nd (ecall (h_over.mono (k := 4) (by decide)) hr tkM (acons (ecall (h_crossed.mono (k := 4) (by decide)) hr tkM (acons (ecall (h_along.mono (k := 4) (by decide)) hr tkM (acons (etup (acons (eix (ev 0) eint) (acons (eix (ev 1) eint) anil))) anil)) (acons (ecall (h_along.mono (k := 4) (by decide)) hr tkM (acons (ev 1) anil)) anil))) (acons (ecall (h_crossed.mono (k := 4) (by decide)) hr tkM (acons (ev 2) (acons (ecall (h_along.mono (k := 4) (by decide)) hr tkM (acons (ev 1) anil)) anil))) anil))))
    (sone (sret (etup (acons (ecall (h_plus.mono (k := 4) (by decide)) hr tkM (acons (eix (eix (ev 0) eint) eint) (acons (ecall (h_times.mono (k := 4) (by decide)) hr tkM (acons (ev 3) (acons (eix (ev 2) eint) anil))) anil))) (acons (ecall (h_plus.mono (k := 4) (by decide)) hr tkM (acons (eix (eix (ev 0) eint) eint) (acons (ecall (h_times.mono (k := 4) (by decide)) hr tkM (acons (ev 3) (acons (eix (ev 2) eint) anil))) anil))) anil)))))))
theorem sc_side_of : FnScope ["wall", "spot"] ["wall", "spot"] (defScope s_side_of) := ⟨rfl, rfl, rfl, by decide +kernel, rfl, by decide +kernel, by decide +kernel⟩
abbrev b_side_of : MS := FL.b_side_of
theorem l_side_of : ∀ ds S Q E, FL.sp_side_of ds S Q E → ds.length = ["wall", "spot"].length := FL.l_side_of
theorem r_side_of : ∀ ds S Q E, FL.sp_side_of ds S Q E → b_side_of (mends Q E) (mstart 0 ds) S := FL.r_side_of
theorem d_side_of {f : Addr} {cdv : Value} {A : Around} {outer : List Env} {s : Shared} {H : Hp} {E : XK} (T : Txt K mg) (h_leaning : Has P w K mg base "leaning" ["one", "other"] 5 FL.sp_leaning) (h_along : Has P w K mg base "along" ["wall"] 4 FL.sp_along) (hr : Room 5 (cxM P w K mg base ["wall", "spot"] "side_of" s_side_of f cdv A outer s H E).A) :
    PSs (cxM P w K mg base ["wall", "spot"] "side_of" s_side_of f cdv A outer s H E) (defBody s_side_of) (upS K (wM E) b_side_of) :=
  (sone (sret (ecall (h_leaning.mono (k := 5) (by decide)) hr tkM (acons (ecall (h_along.mono (k := 5) (by decide)) hr tkM (acons (ev 0) anil)) (acons (ecall (h_along.mono (k := 5) (by decide)) hr tkM (acons (etup (acons (eix (ev 0) eint) (acons (ev 1) anil))) anil)) anil)))))
theorem sc_lies_on : FnScope ["wall", "spot", "first", "second"] ["wall", "spot"] (defScope s_lies_on) := ⟨rfl, rfl, rfl, by decide +kernel, rfl, by decide +kernel, by decide +kernel⟩
abbrev b_lies_on : MS := FL.b_lies_on
theorem l_lies_on : ∀ ds S Q E, FL.sp_lies_on ds S Q E → ds.length = ["wall", "spot"].length := FL.l_lies_on
theorem r_lies_on : ∀ ds S Q E, FL.sp_lies_on ds S Q E → b_lies_on (mends Q E) (mstart 2 ds) S := FL.r_lies_on
theorem d_lies_on {f : Addr} {cdv : Value} {A : Around} {outer : List Env} {s : Shared} {H : Hp} {E : XK} (T : Txt K mg) (h_side_of : Has P w K mg base "side_of" ["wall", "spot"] 6 FL.sp_side_of) (h_is_ahead : Has P w K mg base "is_ahead" ["one", "other"] 2 FL.sp_is_ahead) (hr : Room 6 (cxM P w K mg base ["wall", "spot", "first", "second"] "lies_on" s_lies_on f cdv A outer s H E).A) :
    PSs (cxM P w K mg base ["wall", "spot", "first", "second"] "lies_on" s_lies_on f cdv A outer s H E) (defBody s_lies_on) (upS K (wM E) b_lies_on) :=
  (scons (sasg (ev 0) (gtp rfl (gcn (gnm (i := 2) sc_lies_on.nd) (gcn (gnm (i := 3) sc_lies_on.nd) gnl))))
    (scons (sif (L2.PW.pt (wor (ttru (ecall (h_is_ahead.mono (k := 6) (by decide)) hr tkM (acons (ev 1) (acons (ev 2) anil)))) (wor1 (ttru (ecall (h_is_ahead.mono (k := 6) (by decide)) hr tkM (acons (ev 3) (acons (ev 1) anil))))))) (sone (sret ebl)) snil)
    (sone (sret (ecmp (op_eqA hr.units) ol_eq (ecall (h_side_of.mono (k := 6) (by decide)) hr tkM (acons (ev 0) (acons (ev 1) anil))) eint)))))
theorem sc_meeting_in_line : FnScope ["one", "other", "first", "second"] ["one", "other"] (defScope s_meeting_in_line) := ⟨rfl, rfl, rfl, by decide +kernel, rfl, by decide +kernel, by decide +kernel⟩
abbrev b_meeting_in_line : MS := FL.b_meeting_in_line
theorem l_meeting_in_line : ∀ ds S Q E, FL.sp_meeting_in_line ds S Q E → ds.length = ["one", "other"].length := FL.l_meeting_in_line
theorem r_meeting_in_line : ∀ ds S Q E, FL.sp_meeting_in_line ds S Q E → b_meeting_in_line (mends Q E) (mstart 2 ds) S := FL.r_meeting_in_line
theorem d_meeting_in_line {f : Addr} {cdv : Value} {A : Around} {outer : List Env} {s : Shared} {H : Hp} {E : XK} (T : Txt K mg) (h_is_ahead : Has P w K mg base "is_ahead" ["one", "other"] 2 FL.sp_is_ahead) (h_side_of : Has P w K mg base "side_of" ["wall", "spot"] 6 FL.sp_side_of) (hr : Room 6 (cxM P w K mg base ["one", "other", "first", "second"] "meeting_in_line" s_meeting_in_line f cdv A outer s H E).A) :
    PSs (cxM P w K mg base ["one", "other", "first", "second"] "meeting_in_line" s_meeting_in_line f cdv A outer s H E) (defBody s_meeting_in_line) (upS K (wM E) b_meeting_in_line) :=
  (scons (sif (tcmp (op_neA hr.units) ol_ne (ecall (h_side_of.mono (k := 6) (by decide)) hr tkM (acons (ev 0) (acons (eix (ev 1) eint) anil))) eint) (sone (sret enon)) snil)
    (scons (sset (i := 2) sc_meeting_in_line.nd (eix (ev 0) eint))
    (scons (sifJ (ttru (ecall (h_is_ahead.mono (k := 6) (by decide)) hr tkM (acons (ev 2) (acons (eix (ev 1) eint) anil)))) (sone (sset (i := 2) sc_meeting_in_line.nd (eix (ev 1) eint))) snil)
    (scons (sset (i := 3) sc_meeting_in_line.nd (eix (ev 0) eint))
    (scons (sifJ (ttru (ecall (h_is_ahead.mono (k := 6) (by decide)) hr tkM (acons (eix (ev 1) eint) (acons (ev 3) anil)))) (sone (sset (i := 3) sc_meeting_in_line.nd (eix (ev 1) eint))) snil)
    (scons (sif (tcmp (op_eqA hr.units) ol_eq (ev 2) (ev 3)) (sone (sret (etup (acons estr (acons (ev 2) anil))))) snil)
    (scons (sif (ttru (ecall (h_is_ahead.mono (k := 6) (by decide)) hr tkM (acons (ev 2) (acons (ev 3) anil)))) (sone (sret (etup (acons estr (acons (etup (acons (ev 2) (acons (ev 3) anil))) anil))))) snil)
    (sone (sret enon)))))))))
theorem sc_meeting : FnScope ["one", "other", "spot"] ["one", "other"] (defScope s_meeting) := ⟨rfl, rfl, rfl, by decide +kernel, rfl, by decide +kernel, by decide +kernel⟩
abbrev b_meeting : MS := FL.b_meeting
theorem l_meeting : ∀ ds S Q E, FL.sp_meeting ds S Q E → ds.length = ["one", "other"].length := FL.l_meeting
theorem r_meeting : ∀ ds S Q E, FL.sp_meeting ds S Q E → b_meeting (mends Q E) (mstart 1 ds) S := FL.r_meeting
theorem d_meeting {f : Addr} {cdv : Value} {A : Around} {outer : List Env} {s : Shared} {H : Hp} {E : XK} (T : Txt K mg) (h_lies_on : Has P w K mg base "lies_on" ["wall", "spot"] 7 FL.sp_lies_on) (h_spot_of_lines : Has P w K mg base "spot_of_lines" ["one", "other"] 5 FL.sp_spot_of_lines) (h_leaning : Has P w K mg base "leaning" ["one", "other"] 5 FL.sp_leaning) (h_along : Has P w K mg base "along" ["wall"] 4 FL.sp_along) (h_meeting_in_line : Has P w K mg base "meeting_in_line" ["one", "other"] 7 FL.sp_meeting_in_line) (hr : Room 7 (cxM P w K mg base ["one", "other", "spot"] "meeting" s_meeting f cdv A outer s H E).A) :
    PSs (cxM P w K mg base ["one", "other", "spot"] "meeting" s_meeting f cdv A outer s H E) (defBody s_meeting) (upS K (wM E) b_meeting) :=
  (scons (sif (tcmp (op_eqA hr.units) ol_eq (ecall (h_leaning.mono (k := 7) (by decide)) hr tkM (acons (ecall (h_along.mono (k := 7) (by decide)) hr tkM (acons (ev 0) anil)) (acons (ecall (h_along.mono (k := 7) (by decide)) hr tkM (acons (ev 1) anil)) anil))) eint) (sone (sret (ecall (h_meeting_in_line.mono (k := 7) (by decide)) hr tkM (acons (ev 0) (acons (ev 1) anil))))) snil)
    (scons (sset (i := 2) sc_meeting.nd (ecall (h_spot_of_lines.mono (k := 7) (by decide)) hr tkM (acons (ev 0) (acons (ev 1) anil))))
    (scons (sif (L2.PW.pt (wand (ttru (ecall (h_lies_on.mono (k := 7) (by decide)) hr tkM (acons (ev 0) (acons (ev 2) anil)))) (wand1 (ttru (ecall (h_lies_on.mono (k := 7) (by decide)) hr tkM (acons (ev 1) (acons (ev 2) anil))))))) (sone (sret (etup (acons estr (acons (ev 2) anil))))) snil)
    (sone (sret enon)))))
theorem sc_is_fair : FnScope ["one", "other", "found"] ["one", "other"] (defScope s_is_fair) := ⟨rfl, rfl, rfl, by decide +kernel, rfl, by decide +kernel, by decide +kernel⟩
abbrev b_is_fair : MS := FL.b_is_fair
theorem l_is_fair : ∀ ds S Q E, FL.sp_is_fair ds S Q E → ds.length = ["one", "other"].length := FL.l_is_fair
theorem r_is_fair : ∀ ds S Q E, FL.sp_is_fair ds S Q E → b_is_fair (mends Q E) (mstart 1 ds) S := FL.r_is_fair
theorem d_is_fair {f : Addr} {cdv : Value} {A : Around} {outer : List Env} {s : Shared} {H : Hp} {E : XK} (T : Txt K mg) (h_meeting : Has P w K mg base "meeting" ["one", "other"] 8 FL.sp_meeting) (hr : Room 8 (cxM P w K mg base ["one", "other", "found"] "is_fair" s_is_fair f cdv A outer s H E).A) :
    PSs (cxM P w K mg base ["one", "other", "found"] "is_fair" s_is_fair f cdv A outer s H E) (defBody s_is_fair) (upS K (wM E) b_is_fair) :=
  (scons (sset (i := 2) sc_is_fair.nd (ecall (h_meeting.mono (k := 8) (by decide)) hr tkM (acons (ev 0) (acons (ev 1) anil))))
    (scons (sif (tcmp op_isN ol_isN (ev 2) enon) (sone (sret ebl)) snil)
    (sone (sret (eand (ecmp (op_eqA hr.units) ol_eq (eix (ev 2) eint) estr) (eand (ecmp (op_inA (u65 hr)) ol_in (eix (ev 2) eint) (ev 0)) (eone (ecmp (op_inA (u65 hr)) ol_in (eix (ev 2) eint) (ev 1)))))))))
theorem sc_unfair_with : FnScope ["walls", "wall", "number", "other"] ["walls", "wall"] (defScope s_unfair_with) := ⟨rfl, rfl, rfl, by decide +kernel, rfl, by decide +kernel, by decide +kernel⟩
abbrev b_unfair_with : MS := FL.b_unfair_with
theorem l_unfair_with : ∀ ds S Q E, FL.sp_unfair_with ds S Q E → ds.length = ["walls", "wall"].length := FL.l_unfair_with
theorem r_unfair_with : ∀ ds S Q E, FL.sp_unfair_with ds S Q E → b_unfair_with (mends Q E) (mstart 2 ds) S := FL.r_unfair_with
theorem d_unfair_with {f : Addr} {cdv : Value} {A : Around} {outer : List Env} {s : Shared} {H : Hp} {E : XK} (T : Txt K mg) (h_is_fair : Has P w K mg base "is_fair" ["one", "other"] 9 FL.sp_is_fair) (hr : Room 9 (cxM P w K mg base ["walls", "wall", "number", "other"] "unfair_with" s_unfair_with f cdv A outer s H E).A) :
    PSs (cxM P w K mg base ["walls", "wall", "number", "other"] "unfair_with" s_unfair_with f cdv A outer s H E) (defBody s_unfair_with) (upS K (wM E) b_unfair_with) :=
  (scons (sfor poM rfl (ien T.f_enumerate (acons (ev 0) anil)) (gtp rfl (gcn (gnm (i := 2) sc_unfair_with.nd) (gcn (gnm (i := 3) sc_unfair_with.nd) gnl))) (sone (sif (tnot (ttru (ecall (h_is_fair.mono (k := 9) (by decide)) hr tkM (acons (ev 1) (acons (ev 3) anil))))) (sone (sret (ev 2))) snil)))
    (sone (sret enon)))
theorem sc_put_read : FnScope ["walls", "wall", "row"] ["walls", "wall", "row"] (defScope s_put_read) := ⟨rfl, rfl, rfl, by decide +kernel, rfl, by decide +kernel, by decide +kernel⟩
def b_put_read : MS := (mSeq (mIfS (mOr (mTst (mOp rIsN (mVar 1) (mC .non))) (mOr (mTst (mOp rEqM (mBlt bLen (mCons (mVar 0) mNil)) (mC (.int 40)))) (mTst (mOp rNotN (mCall FL.sp_unfair_with (mCons (mVar 0) (mCons (mVar 1) mNil))) (mC .non))))) (mRaiseF "NoText" ["row"] (mCons (mVar 2) mNil)) mNext)
  (mExpr (mMt mtAppend (mVar 0) (mCons (mVar 1) mNil))))
theorem d_put_read {f : Addr} {cdv : Value} {A : Around} {outer : List Env} {s : Shared} {H : Hp} {E : XK} (T : Txt K mg) (h_unfair_with : Has P w K mg base "unfair_with" ["walls", "wall"] 10 FL.sp_unfair_with) (hx_NoText : HasX P w K mg base "NoText" 1 ["row"]) (hr : Room 10 (cxM P w K mg base ["walls", "wall", "row"] "put_read" s_put_read f cdv A outer s H E).A) :
    PSs (cxM P w K mg base ["walls", "wall", "row"] "put_read" s_put_read f cdv A outer s H E) (defBody s_put_read) (upS K (wM E) b_put_read) :=
  (scons (sif (L2.PW.pt (wor (tcmp op_isN ol_isN (ev 1) enon) (wor (tcmp (op_eqA hr.units) ol_eq (eblt call_len cl_len T.f_len (acons (ev 0) anil) PySem.boot_len) (eglobI T.c_MOST_WALLS)) (wor1 (tcmp op_notN ol_notN (ecall (h_unfair_with.mono (k := 10) (by decide)) hr tkM (acons (ev 0) (acons (ev 1) anil))) enon))))) (sone (sraiseF (hx_NoText.mono (k := 9) (by decide)) hr rfl tkM (acons (ev 2) anil))) snil)
    (sone (sexpr (emt PySem.F.slot_list_append PySem.F.type_list_append mt_append ml_append (ev 0) (acons (ev 1) anil)))))
theorem sc_read_questions : FnScope ["text", "walls", "spots", "row", "line", "words", "spot"] ["text"] (defScope s_read_questions) := ⟨rfl, rfl, rfl, by decide +kernel, rfl, by decide +kernel, by decide +kernel⟩
def b_read_questions : MS := (mSeq (mSet 1 (mLst mNil))
  (mSeq (mSet 2 (mLst mNil))
  (mSeq (mFor (iEn (mCons (mCall sp_rows_in (mCons (mVar 0) mNil)) mNil)) (gTp 2 (gCn (gNm 3) (gCn (gNm 4) gNl))) (mSeq (mSet 5 (mTx1 rmSplit (mVar 4) (mC (.str " "))))
  (mSeq (mSet 6 (mCall sp_question_in (mCons (mVar 5) mNil)))
  (mIfS (mTst (mOp rNotN (mVar 6) (mC .non))) (mExpr (mMt mtAppend (mVar 2) (mCons (mVar 6) mNil))) (mIfS (mTst (mOp rNeM (mVar 2) (mLstF mNil))) (mRaiseF "NoText" ["row"] (mCons (mVar 3) mNil)) (mExpr (mCall sp_put_read (mCons (mVar 1) (mCons (mCall sp_wall_in (mCons (mVar 5) mNil)) (mCons (mVar 3) mNil))))))))))
  (mRet (mTup (mCons (mBlt bTuple (mCons (mVar 1) mNil)) (mCons (mVar 2) mNil)))))))
theorem d_read_questions {f : Addr} {cdv : Value} {A : Around} {outer : List Env} {s : Shared} {H : Hp} {E : XK} (T : Txt K mg) (h_rows_in : Has P w K mg base "rows_in" ["text"] 1 sp_rows_in) (h_put_read : Has P w K mg base "put_read" ["walls", "wall", "row"] 11 sp_put_read) (h_wall_in : Has P w K mg base "wall_in" ["words"] 4 sp_wall_in) (h_question_in : Has P w K mg base "question_in" ["words"] 4 sp_question_in) (hx_NoText : HasX P w K mg base "NoText" 1 ["row"]) (hr : Room 11 (cxM P w K mg base ["text", "walls", "spots", "row", "line", "words", "spot"] "read_questions" s_read_questions f cdv A outer s H E).A) :
    PSs (cxM P w K mg base ["text", "walls", "spots", "row", "line", "words", "spot"] "read_questions" s_read_questions f cdv A outer s H E) (defBody s_read_questions) (upS K (wM E) b_read_questions) :=
  (scons (sset (i := 1) sc_read_questions.nd (elst anil))
    (scons (sset (i := 2) sc_read_questions.nd (elst anil))
    (scons (sfor poM rfl (ien T.f_enumerate (acons (ecall (h_rows_in.mono (k := 11) (by decide)) hr tkM (acons (ev 0) anil)) anil)) (gtp rfl (gcn (gnm (i := 3) sc_read_questions.nd) (gcn (gnm (i := 4) sc_read_questions.nd) gnl))) (scons (sset (i := 5) sc_read_questions.nd (esplit (ev 4) estr))
    (scons (sset (i := 6) sc_read_questions.nd (ecall (h_question_in.mono (k := 11) (by decide)) hr tkM (acons (ev 5) anil)))
    (sone (sif (tcmp op_notN ol_notN (ev 6) enon) (sone (sexpr (emt PySem.F.slot_list_append PySem.F.type_list_append mt_append ml_append (ev 2) (acons (ev 6) anil)))) (sone (sif (tcmp (op_neA hr.units) ol_ne (ev 2) (elstF anil)) (sone (sraiseF (hx_NoText.mono (k := 10) (by decide)) hr rfl tkM (acons (ev 3) anil))) (sone (sexpr (ecall (h_put_read.mono (k := 11) (by decide)) hr tkM (acons (ev 1) (acons (ecall (h_wall_in.mono (k := 11) (by decide)) hr tkM (acons (ev 5) anil)) (acons (ev 3) anil)))))))))))))
    (sone (sret (etup (acons (etyp call_tuple_of cl_tuple T.f_tuple (acons (ev 1) anil)) (acons (ev 2) anil))))))))
theorem sc_law : FnScope ["_law_script", "_law_k", "_law_row", "_law_scale_here", "_law_plot", "_law_spots", "_law_again", "_law_asks", "_law_x", "_law_y", "_law_handed", "_law_text", "_law_found", "_law_answers", "_law_kept", "_law_due", "_law_word", "_law_number_here"] ["_law_script"] (defScope s_law) := ⟨rfl, rfl, rfl, by decide +kernel, rfl, by decide +kernel, by decide +kernel⟩
def b_law : MS := (mSeq (mFor (iR1 (mCons (mBlt bMaxA (mCons (mC (.int 1)) (mCons (mBlt bMinA (mCons (mC (.int 6)) (mCons (mBlt bLen (mCons (mVar 0) mNil)) mNil))) mNil))) mNil)) (gNm 1) (mSeq (mSet 2 (mLst (mCons (mCall FL.sp_cell_at (mCons (mVar 0) (mCons (mVar 1) mNil))) (mCons (mC (.int 0)) mNil))))
  (mSeq (mSet 3 (mCall sp_law_scale (mCons (mVar 2) mNil)))
  (mSeq (mSet 4 (mCall FL.sp_made (mCons (mVar 3) (mCons (mCall FL.sp_shuts_here (mCons (mVar 2) (mCons (mC (.int 6)) (mCons (mC (.int 5)) mNil)))) mNil))))
  (mSeq (mSet 5 (mComp (iR1 (mCons (mCall FL.sp_take (mCons (mVar 2) (mCons (mC (.int 6)) mNil))) mNil)) (gNm 6) mYes (mTup (mCons (mCall sp_law_number (mCons (mVar 2) mNil)) (mCons (mCall sp_law_number (mCons (mVar 2) mNil)) mNil))) [6]))
  (mSeq (mSet 7 (mComp (iS (mVar 5)) (gTp 2 (gCn (gNm 8) (gCn (gNm 9) gNl))) mYes (mTx1 rmJoin (mC (.str " ")) (mLstF (mCons (mC (.str "ask")) (mCons (mCall sp_law_shown (mCons (mVar 8) mNil)) (mCons (mCall sp_law_shown (mCons (mVar 9) mNil)) mNil))))) [8, 9]))
  (mSeq (mSet 10 (mBlt bList (mCons (mVar 5) mNil)))
  (mSeq (mSet 11 (mCall sp_show_questions (mCons (mVar 4) (mCons (mVar 10) mNil))))
  (mSeq (mIfS (mOr (mTst (mOp rNeS (mVar 11) (mTx1 rmJoin (mC (.str "\n")) (mOp rAdd (mCall sp_law_rows (mCons (mVar 4) mNil)) (mVar 7))))) (mTst (mOp rNeM (mVar 10) (mVar 5)))) (mRet (mC (.bl false))) mNext)
  (mSeq (mSet 12 (mCall sp_read_questions (mCons (mVar 11) mNil)))
  (mSeq (mIfS (mOr (mNot (mTru (mIsi "tuple" (mVar 12)))) (mOr (mTst (mOp rNeX (mVar 12) (mTup (mCons (mVar 4) (mCons (mVar 5) mNil))))) (mNot (mTru (mIsi "list" (mOp rIxM (mVar 12) (mC (.int 1)))))))) (mRet (mC (.bl false))) mNext)
  (mSeq (mExpr (mMt mtAppend (mOp rIxM (mVar 12) (mC (.int 1))) (mCons (mTup (mCons (mTup (mCons (mC (.int 0)) (mCons (mC (.int 1)) mNil))) (mCons (mTup (mCons (mC (.int 0)) (mCons (mC (.int 1)) mNil))) mNil))) mNil)))
  (mSeq (mIfS (mTst (mOp rNeX (mCall sp_read_questions (mCons (mVar 11) mNil)) (mTup (mCons (mVar 4) (mCons (mVar 5) mNil))))) (mRet (mC (.bl false))) mNext)
  (mSeq (mSet 13 (mLst mNil))
  (mSeq (mFor (iR1 (mCons (mCall FL.sp_take (mCons (mVar 2) (mCons (mC (.int 7)) mNil))) mNil)) (gNm 6) (mExpr (mMt mtAppend (mVar 13) (mCons (mTup (mCons (mOp rIxM (mLstF (mCons (mC (.str "corner")) (mCons (mC (.str "wall")) (mCons (mC (.str "land")) mNil)))) (mCall FL.sp_take (mCons (mVar 2) (mCons (mC (.int 3)) mNil)))) (mCons (mCall FL.sp_take (mCons (mVar 2) (mCons (mC (.int 80)) mNil))) mNil))) mNil))))
  (mSeq (mSet 14 (mBlt bList (mCons (mVar 13) mNil)))
  (mSeq (mSet 15 (mTx1 rmJoin (mC (.str "\n")) (mCompF (iS (mVar 14)) (gTp 2 (gCn (gNm 16) (gCn (gNm 17) gNl))) mYes (mOp rAdd (mOp rAdd (mVar 16) (mC (.str " "))) (mBlt bStrI (mCons (mVar 17) mNil))) [16, 17])))
  (mIfS (mOr (mTst (mOp rNeS (mCall sp_show_answers (mCons (mVar 13) mNil)) (mVar 15))) (mTst (mOp rNeM (mVar 13) (mVar 14)))) (mRet (mC (.bl false))) mNext))))))))))))))))))
  (mRet (mC (.bl true))))
theorem d_law {f : Addr} {cdv : Value} {A : Around} {outer : List Env} {s : Shared} {H : Hp} {E : XK} (T : Txt K mg) (h_show_answers : Has P w K mg base "show_answers" ["answers"] 1 sp_show_answers) (h_law_take : Has P w K mg base "_law_take" ["_law_row", "_law_base"] 1 FL.sp_take) (h_read_questions : Has P w K mg base "read_questions" ["text"] 12 sp_read_questions) (h_law_rows : Has P w K mg base "_law_rows" ["_law_plot"] 2 sp_law_rows) (h_show_questions : Has P w K mg base "show_questions" ["plot", "spots"] 4 sp_show_questions) (h_law_shown : Has P w K mg base "_law_shown" ["_law_one"] 1 sp_law_shown) (h_law_number : Has P w K mg base "_law_number" ["_law_row"] 2 sp_law_number) (h_law_made : Has P w K mg base "_law_made" ["_law_scale_here", "_law_shuts"] 3 FL.sp_made) (h_law_shuts_here : Has P w K mg base "_law_shuts_here" ["_law_row", "_law_most", "_law_size"] 4 FL.sp_shuts_here) (h_law_scale : Has P w K mg base "_law_scale" ["_law_row"] 2 sp_law_scale) (h_law_cell_at : Has P w K mg base "_law_cell_at" ["_law_script", "_law_k"] 1 FL.sp_cell_at) (hr : Room 12 (cxM P w K mg base ["_law_script", "_law_k", "_law_row", "_law_scale_here", "_law_plot", "_law_spots", "_law_again", "_law_asks", "_law_x", "_law_y", "_law_handed", "_law_text", "_law_found", "_law_answers", "_law_kept", "_law_due", "_law_word", "_law_number_here"] "law" s_law f cdv A outer s H E).A) :
    PSs (cxM P w K mg base ["_law_script", "_law_k", "_law_row", "_law_scale_here", "_law_plot", "_law_spots", "_law_again", "_law_asks", "_law_x", "_law_y", "_law_handed", "_law_text", "_law_found", "_law_answers", "_law_kept", "_law_due", "_law_word", "_law_number_here"] "law" s_law f cdv A outer s H E) (defBody s_law) (upS K (wM E) b_law) :=
  (scons (sfor poM rfl (ir1 T.f_range (acons (eblt (ca_max rfl (u65 hr)) cl_maxA T.f_max (acons eint (acons (eblt (ca_min rfl (u65 hr)) cl_minA T.f_min (acons eint (acons (eblt call_len cl_len T.f_len (acons (ev 0) anil) PySem.boot_len) anil))) anil))) anil)) (gnm (i := 1) sc_law.nd) (scons (sset (i := 2) sc_law.nd (elst (acons (ecall (h_law_cell_at.mono (k := 12) (by decide)) hr tkM (acons (ev 0) (acons (ev 1) anil))) (acons eint anil))))
    (scons (sset (i := 3) sc_law.nd (ecall (h_law_scale.mono (k := 12) (by decide)) hr tkM (acons (ev 2) anil)))
    (scons (sset (i := 4) sc_law.nd (ecall (h_law_made.mono (k := 12) (by decide)) hr tkM (acons (ev 3) (acons (ecall (h_law_shuts_here.mono (k := 12) (by decide)) hr tkM (acons (ev 2) (acons eint (acons eint anil)))) anil))))
    (scons (ssetLc (i := 5) (own := [("_law_again", 6)]) rfl sc_law.nd (ir1 T.f_range (acons (ecall (h_law_take.mono (k := 12) (by decide)) hr tkM (acons (ev 2) (acons eint anil))) anil)) (blkOk_by (by first | decide +kernel | kernel_rfl | rfl)) (fun _ _ _ _ _ => (gonm sc_law.nd (i := 6) (by decide))) (fun _ _ _ _ _ => tsNil) (fun _ _ _ _ _ => (etup (acons (ecall (h_law_number.mono (k := 12) (by decide)) hr takes0 (acons (ev 2) anil)) (acons (ecall (h_law_number.mono (k := 12) (by decide)) hr takes0 (acons (ev 2) anil)) anil)))))
    (scons (ssetLc (i := 7) (own := [("_law_x", 8), ("_law_y", 9)]) rfl sc_law.nd (is (ev 5)) (blkOk_by (by first | decide +kernel | kernel_rfl | rfl)) (fun _ _ _ _ _ => (gotp rfl (gocn (gonm sc_law.nd (i := 8) (by decide)) (gocn (gonm sc_law.nd (i := 9) (by decide)) gonl)))) (fun _ _ _ _ _ => tsNil) (fun _ _ _ _ _ => (ejoin estr (elstF (acons estr (acons (ecall (h_law_shown.mono (k := 12) (by decide)) hr takes0 (acons (ev 8) anil)) (acons (ecall (h_law_shown.mono (k := 12) (by decide)) hr takes0 (acons (ev 9) anil)) anil)))))))
    (scons (sset (i := 10) sc_law.nd (etyp call_list_of cl_list T.f_list (acons (ev 5) anil)))
    (scons (sset (i := 11) sc_law.nd (ecall (h_show_questions.mono (k := 12) (by decide)) hr tkM (acons (ev 4) (acons (ev 10) anil))))
    (scons (sif (L2.PW.pt (wor (tcmp (op_neA hr.units) ol_neS (ev 11) (ejoin estr (eadd (ecall (h_law_rows.mono (k := 12) (by decide)) hr tkM (acons (ev 4) anil)) (ev 7)))) (wor1 (tcmp (op_neA hr.units) ol_ne (ev 10) (ev 5))))) (sone (sret ebl)) snil)
    (scons (sset (i := 12) sc_law.nd (ecall (h_read_questions.mono (k := 12) (by decide)) hr tkM (acons (ev 11) anil)))
    (scons (sif (L2.PW.pt (wor (tnot (ttru (eisi T.k_tuple T.f_isinstance T.f_tuple (ev 12)))) (wor (tcmp (op_neA hr.units) ol_neX (ev 12) (etup (acons (ev 4) (acons (ev 5) anil)))) (wor1 (tnot (ttru (eisi T.k_list T.f_isinstance T.f_list (eix (ev 12) eint)))))))) (sone (sret ebl)) snil)
    (scons (sexpr (emt PySem.F.slot_list_append PySem.F.type_list_append mt_append ml_append (eix (ev 12) eint) (acons (etup (acons (etup (acons eint (acons eint anil))) (acons (etup (acons eint (acons eint anil))) anil))) anil)))
    (scons (sif (tcmp (op_neA hr.units) ol_neX (ecall (h_read_questions.mono (k := 12) (by decide)) hr tkM (acons (ev 11) anil)) (etup (acons (ev 4) (acons (ev 5) anil)))) (sone (sret ebl)) snil)
    (scons (sset (i := 13) sc_law.nd (elst anil))
    (scons (sfor poM rfl (ir1 T.f_range (acons (ecall (h_law_take.mono (k := 12) (by decide)) hr tkM (acons (ev 2) (acons eint anil))) anil)) (gnm (i := 6) sc_law.nd) (sone (sexpr (emt PySem.F.slot_list_append PySem.F.type_list_append mt_append ml_append (ev 13) (acons (etup (acons (eix (elstF (acons estr (acons estr (acons estr anil)))) (ecall (h_law_take.mono (k := 12) (by decide)) hr tkM (acons (ev 2) (acons eint anil)))) (acons (ecall (h_law_take.mono (k := 12) (by decide)) hr tkM (acons (ev 2) (acons eint anil))) anil))) anil)))))
    (scons (sset (i := 14) sc_law.nd (etyp call_list_of cl_list T.f_list (acons (ev 13) anil)))
    (scons (sset (i := 15) (hs := by kernel_rfl) sc_law.nd (ejoin estr (ecompF (own := [("_law_word", 16), ("_law_number_here", 17)]) rfl sc_law.nd (is (ev 14)) (blkOk_by (by first | decide +kernel | kernel_rfl | rfl)) (fun _ _ _ _ _ => (gotp rfl (gocn (gonm sc_law.nd (i := 16) (by decide)) (gocn (gonm sc_law.nd (i := 17) (by decide)) gonl)))) (fun _ _ _ _ _ => tsNil) (fun _ _ _ _ _ => (eadd (eadd (ev 16) estr) (etyp call_str_int cl_strI T.f_str (acons (ev 17) anil)))))))
    (sone (sif (L2.PW.pt (wor (tcmp (op_neA hr.units) ol_neS (ecall (h_show_answers.mono (k := 12) (by decide)) hr tkM (acons (ev 13) anil)) (ev 15)) (wor1 (tcmp (op_neA hr.units) ol_ne (ev 13) (ev 14))))) (sone (sret ebl)) snil)))))))))))))))))))
    (sone (sret ebl)))
end
end Lk64
-- FLQ    
set_option maxRecDepth 100000
set_option maxHeartbeats 4000000
namespace Lk64
open PySem PySem.Spec L2 TL ML FL
-- counts /tmp/scratch/dev/N_k64.json
theorem l_law : ∀ ds S Q E, spLaw ds S Q E → ds.length = ["n"].length := by
  rintro _ _ _ _ ⟨n, rfl, _⟩; rfl
theorem l_show_fraction : ∀ ds S Q E, sp_show_fraction ds S Q E → ds.length = 1 := by rintro _ _ _ _ ⟨_, rfl, _⟩; rfl
theorem l_law_shown : ∀ ds S Q E, sp_law_shown ds S Q E → ds.length = 1 := by rintro _ _ _ _ ⟨_, rfl, _⟩; rfl
theorem l_is_whole : ∀ ds S Q E, sp_is_whole ds S Q E → ds.length = 1 := by rintro _ _ _ _ ⟨_, rfl, _⟩; rfl
theorem l_fraction_in : ∀ ds S Q E, sp_fraction_in ds S Q E → ds.length = 1 := by rintro _ _ _ _ ⟨_, rfl, _⟩; rfl
theorem l_spot_in : ∀ ds S Q E, sp_spot_in ds S Q E → ds.length = ["words"].length := by
  rintro _ _ _ _ ⟨a, b, rfl, _⟩; rfl
theorem l_wall_in : ∀ ds S Q E, sp_wall_in ds S Q E → ds.length = 1 := by rintro _ _ _ _ ⟨_, rfl, _⟩; rfl
theorem l_show_spot : ∀ ds S Q E, sp_show_spot ds S Q E → ds.length = 1 := by rintro _ _ _ _ ⟨_, rfl, _⟩; rfl
theorem l_wall_rows : ∀ ds S Q E, sp_wall_rows ds S Q E → ds.length = 1 := by rintro _ _ _ _ ⟨_, rfl, _⟩; rfl
theorem l_law_rows : ∀ ds S Q E, sp_law_rows ds S Q E → ds.length = 1 := by rintro _ _ _ _ ⟨_, rfl, _⟩; rfl
theorem l_rows_in : ∀ ds S Q E, sp_rows_in ds S Q E → ds.length = 1 := by rintro _ _ _ _ ⟨_, rfl, _⟩; rfl
theorem l_put_read : ∀ ds S Q E, sp_put_read ds S Q E → ds.length = 3 := by rintro _ _ _ _ ⟨_, _, _, _, rfl, _⟩; rfl
theorem l_law_number : ∀ ds S Q E, sp_law_number ds S Q E → ds.length = 1 := by rintro _ _ _ _ ⟨_, _, _, rfl, _⟩; rfl
theorem l_question_in : ∀ ds S Q E, sp_question_in ds S Q E → ds.length = 1 := by rintro _ _ _ _ ⟨_, rfl, _⟩; rfl
theorem l_show_questions : ∀ ds S Q E, sp_show_questions ds S Q E → ds.length = 2 := by rintro _ _ _ _ ⟨_, _, _, rfl, _⟩; rfl
theorem l_read_questions : ∀ ds S Q E, sp_read_questions ds S Q E → ds.length = 1 := by rintro _ _ _ _ ⟨_, _, rfl, _⟩; rfl
theorem l_show_answers : ∀ ds S Q E, sp_show_answers ds S Q E → ds.length = 1 := by rintro _ _ _ _ ⟨_, _, rfl, _⟩; rfl
theorem l_law_scale : ∀ ds S Q E, sp_law_scale ds S Q E → ds.length = 1 := by rintro _ _ _ _ ⟨_, _, _, rfl, _⟩; rfl
theorem r_show_fraction : ∀ ds S Q E, sp_show_fraction ds S Q E → b_show_fraction (mends Q E) (mstart 0 ds) S := by
  rintro _ S Q E ⟨q, rfl, hq, k⟩
  unfold b_show_fraction
  simp only [ML.q_mstart, ML.q_mends, List.map_cons, List.map_nil, List.replicate, List.cons_append, List.nil_append]
  obtain ⟨g1, g2⟩ := sz_log hq (by decide)
  have l1 := intL_len2 g1
  have l2 := intL_len2 g2
  simp only [gz4]
  refine ⟨fun h => ?_, fun h => ?_⟩
  · simp only [gz4]
    refine ⟨g1, ?_⟩
    have h : q.den = 1 := by omega
    rw [shL_eq, if_pos h] at k
    rw [strI_L]; exact k
  · have h : ¬ q.den = 1 := by omega
    rw [shL_eq, if_neg h] at k
    simp only [gz4, strI_L, T_slash, ofL_nil, ofL_app, ofL_len, List.length_append, List.length_nil, List.length_singleton]
    refine ⟨g1, ?_, ?_, g2, ?_, ?_⟩
    · show _ ≤ 2 ^ 24; omega
    · show _ ≤ 2 ^ 24; omega
    · show _ ≤ 2 ^ 24; omega
    · simpa using k
theorem r_law_shown : ∀ ds S Q E, sp_law_shown ds S Q E → b_law_shown (mends Q E) (mstart 0 ds) S := by
  rintro _ S Q E ⟨q, rfl, hq, k⟩
  unfold b_law_shown
  simp only [ML.q_mstart, ML.q_mends, List.map_cons, List.map_nil, List.replicate, List.cons_append, List.nil_append]
  obtain ⟨g1, g2⟩ := sz_log hq (by decide)
  have l1 := intL_len2 g1
  have l2 := intL_len2 g2
  simp only [gz4]
  refine ⟨g1, g2, ?_, ?_⟩
  · rw [strI_L, T_slash, ofL_len, ofL_len, List.length_singleton]; show _ ≤ 2 ^ 24; omega
  rw [strI_L, strI_L, T_slash, T_none, ofL_app]
  by_cases h : (q.den : Int) = 1
  · rw [if_pos h]
    have h2 : q.den = 1 := by omega
    rw [shL_eq, if_pos h2] at k
    refine ⟨by rw [ofL_len, ofL_len]; show _ ≤ 2 ^ 24; simp only [List.length_nil]; omega, ?_⟩
    rw [ofL_app, List.append_nil]; exact k
  · rw [if_neg h]
    have h2 : ¬ q.den = 1 := by omega
    rw [shL_eq, if_neg h2] at k
    refine ⟨by rw [ofL_len, ofL_len]; show _ ≤ 2 ^ 24; simp only [List.length_append, List.length_singleton]; omega, ?_⟩
    rw [ofL_app]; exact k
theorem r_is_whole : ∀ ds S Q E, sp_is_whole ds S Q E → b_is_whole (mends Q E) (mstart 1 ds) S := by
  rintro _ S Q E ⟨l, rfl, hl, k⟩
  unfold b_is_whole
  simp only [ML.q_mstart, ML.q_mends, List.map_cons, List.map_nil, List.replicate, List.cons_append, List.nil_append]
  simp only [gz4]
  have e : lenD S (.str (ofL l)) = some l.length := by
    show (if (ofL l).length ≤ sizeLine then some (ofL l).length else none) = _
    rw [ofL_len, if_pos hl]
  simp only [gz4, e]
  have bad : ¬ (1 ≤ l.length ∧ l.length ≤ 30) → Q (.bl false) S := fun h => by
    have e2 : wholeL l = false := by unfold wholeL; rw [decide_eq_false h]; rfl
    rw [e2] at k; exact k
  refine ⟨fun h1 => ?_, fun h1 => ?_⟩
  · simp only [gz4]
    refine ⟨fun h2 => ?_, fun h2 => ?_⟩
    · simp only [gz4]
      exact bad (by omega)
    · have h2 : (l.length : Int) ≤ 30 := by omega
      simp only [gz4]
      intro p hp
      refine comp_map (fun c => .str ⟨#[c]⟩) (fun c => .bl (decide (c ∈ ([48, 49, 50, 51, 52, 53, 54, 55, 56, 57] : List Nat)))) l rfl (by omega) (fun _ => trivial) ?_ ?_
      · intro c acc Q1 hm q1
        simp only [gz4]
        rw [T_figs]
        exact q1
      · have em : (l.map fun c => D.bl (decide (c ∈ ([48, 49, 50, 51, 52, 53, 54, 55, 56, 57] : List Nat)))) = (l.map fun c => decide (c ∈ ([48, 49, 50, 51, 52, 53, 54, 55, 56, 57] : List Nat))).map .bl := by rw [List.map_map]; rfl
        have ea : (l.map fun c => decide (c ∈ ([48, 49, 50, 51, 52, 53, 54, 55, 56, 57] : List Nat))).all id = l.all fun c => decide (c ∈ ([48, 49, 50, 51, 52, 53, 54, 55, 56, 57] : List Nat)) := by rw [List.all_map]; rfl
        simp only [gz4, del_put hp, em, l_bAll, ea]
        unfold wholeL at k
        rw [decide_eq_true (⟨by omega, by omega⟩ : 1 ≤ l.length ∧ l.length ≤ 30), Bool.true_and] at k
        refine ⟨fun hb => ?_, fun hb => ?_⟩
        · have hb : (l.all fun c => decide (c ∈ ([48, 49, 50, 51, 52, 53, 54, 55, 56, 57] : List Nat))) = false := by simpa using hb
          rw [hb, Bool.false_and] at k
          simp only [gz4]
          exact k
        · have hb := (Bool.not_eq_false _).mp hb
          rw [hb, Bool.true_and] at k
          simp only [gz4]
          cases l with
          | nil => simp at h1
          | cons a r =>
            refine ⟨a, ⟨by rw [ofL_len]; exact hl, by show atI (a :: r) 0 = some a; simp [atI, ixN]⟩, ?_⟩
            simp only [gz4, T_0]
            rw [show (⟨#[a]⟩ : Str) = ofL [a] from rfl, ofL_inj]
            refine ⟨fun h3 => ?_, fun h3 => ?_⟩
            · simp only [gz4]
              have h3 : (a :: r).head? ≠ some 48 := fun h => h3 (by injection h with h; rw [h])
              rw [decide_eq_true h3, Bool.true_or] at k
              exact k
            · have h3 : ¬ (a :: r).head? ≠ some 48 := fun h => h3 fun h4 => h (by injection h4 with h4; rw [h4]; rfl)
              simp only [gz4, T_0, ofL_inj]
              rw [decide_eq_false h3, Bool.false_or] at k
              exact k
  · simp only [gz4]
    exact bad (by omega)
theorem r_fraction_in : ∀ ds S Q E, sp_fraction_in ds S Q E → b_fraction_in (mends Q E) (mstart 4 ds) S := by
  rintro _ S Q E ⟨l, rfl, hl, k⟩
  unfold b_fraction_in
  simp only [ML.q_mstart, ML.q_mends, List.map_cons, List.map_nil, List.replicate, List.cons_append, List.nil_append]
  cases hp : par [47] [] l with
  | none =>
    have e : Txt.partition (ofL l) (Str.ofString "/") = (ofL l, ofL [], ofL []) := by
      rw [part_L _ _ (by decide), T_slash, tl_ofL, tl_ofL, hp]; rfl
    simp only [gz4, e, T_minus, T_mnought, T_none, cut_take1, cut_drop1, ofL_inj]
    refine ⟨⟨by decide, by rw [ofL_len]; show _ ≤ 2 ^ 24; omega⟩, by rw [ofL_len]; show _ ≤ 2 ^ 24; omega, ?_⟩
    have bad : wholeL (figL l) = false ∨ l = [45, 48] → Q .non S := fun h => by
      have : fracIn l = none := by
        unfold fracIn
        rw [hp]
        dsimp only
        rw [if_neg]
        rcases h with h | h
        · rw [h]; simp
        · rw [decide_eq_true h]; simp
      rw [this] at k; exact k
    refine ⟨fun h => ?_, fun h => ?_⟩
    · simp only [gz4, T_mnought, T_none, cut_drop1, ofL_inj]
      refine ⟨by rw [ofL_len]; show _ ≤ 2 ^ 24; omega, l.drop 1, rfl, by rw [List.length_drop]; show _ ≤ 2 ^ 24; omega, ?_⟩
      have hf : l.drop 1 = figL l := by unfold figL; rw [if_pos h]
      rw [hf]
      simp only [gz4, T_mnought, T_none, ofL_inj]
      refine ⟨fun w => ?_, fun w => ?_⟩
      · simp only [gz4]
        exact bad (.inl w)
      have w := (Bool.not_eq_false _).mp w
      simp only [gz4, T_mnought, T_none, ofL_inj]
      refine ⟨fun h2 => ?_, fun h2 => ?_⟩
      · simp only [gz4]
        exact bad (.inr h2)
      simp only [gz4, T_mnought, T_none, ofL_inj]
      refine ⟨signL l, (int_sign w).1, (int_sign w).2, ?_⟩
      simp only [gz4]
      have : fracIn l = some ((signL l : Int) : Rat) := by
        unfold fracIn
        rw [hp]
        dsimp only
        rw [if_pos]
        rw [w, decide_eq_false h2]; rfl
      rw [this] at k
      exact k
    · simp only [gz4, T_mnought, T_none, ofL_inj]
      have hf : figL l = l := by unfold figL; rw [if_neg h]
      refine ⟨figL l, by rw [hf], by rw [hf]; show _ ≤ 2 ^ 24; omega, ?_⟩
      simp only [gz4, T_mnought, T_none, ofL_inj]
      refine ⟨fun w => ?_, fun w => ?_⟩
      · simp only [gz4]
        exact bad (.inl w)
      have w := (Bool.not_eq_false _).mp w
      simp only [gz4, T_mnought, T_none, ofL_inj]
      refine ⟨fun h2 => ?_, fun h2 => ?_⟩
      · simp only [gz4]
        exact bad (.inr h2)
      simp only [gz4, T_mnought, T_none, ofL_inj]
      refine ⟨signL l, (int_sign w).1, (int_sign w).2, ?_⟩
      simp only [gz4]
      have : fracIn l = some ((signL l : Int) : Rat) := by
        unfold fracIn
        rw [hp]
        dsimp only
        rw [if_pos]
        rw [w, decide_eq_false h2]; rfl
      rw [this] at k
      exact k
  | some tb =>
    obtain ⟨t, b⟩ := tb
    have e : Txt.partition (ofL l) (Str.ofString "/") = (ofL t, ofL [47], ofL b) := by
      rw [part_L _ _ (by decide), T_slash, tl_ofL, tl_ofL, hp]
    simp only [gz4, e, T_minus, T_mnought, T_none, cut_take1, cut_drop1, ofL_inj]
    have ltb : t.length ≤ 1000000 ∧ b.length ≤ 1000000 := by have := par_len hp; simp only [List.length_nil] at this; omega
    have bad : wholeL (figL t) = false ∨ t = [45, 48] ∨ wholeL b = false ∨ (b = [48] ∨ b = [49]) ∨ Nat.gcd (NumText.digitsVal (figL t)) (NumText.digitsVal b) ≠ 1 → Q .non S := fun h => by
      have : fracIn l = none := by
        unfold fracIn
        rw [hp]
        dsimp only
        rw [if_neg]
        rcases h with h | h | h | h | h
        · rw [h]; simp
        · rw [decide_eq_true h]; simp
        · rw [h]; simp
        · rw [decide_eq_true h]; simp
        · rw [decide_eq_false h]; simp
      rw [this] at k; exact k
    refine ⟨⟨by decide, by rw [ofL_len]; show _ ≤ 2 ^ 24; omega⟩, by rw [ofL_len]; show _ ≤ 2 ^ 24; omega, ?_⟩
    refine ⟨fun h => ?_, fun h => ?_⟩
    · simp only [gz4, T_mnought, T_none, cut_drop1, ofL_inj]
      refine ⟨by rw [ofL_len]; show _ ≤ 2 ^ 24; omega, t.drop 1, rfl, by rw [List.length_drop]; show _ ≤ 2 ^ 24; omega, ?_⟩
      have hf : t.drop 1 = figL t := by unfold figL; rw [if_pos h]
      rw [hf]
      simp only [gz4, T_mnought, T_none, ofL_inj]
      refine ⟨fun w => ?_, fun w => ?_⟩
      · simp only [gz4]
        exact bad (.inl w)
      have w := (Bool.not_eq_false _).mp w
      have iw := int_whole w
      simp only [gz4, T_mnought, T_none, ofL_inj]
      refine ⟨fun h2 => ?_, fun h2 => ?_⟩
      · simp only [gz4]
        exact bad (.inr (.inl h2))
      simp only [gz4, T_mnought, T_none, ofL_inj]
      refine ⟨b, rfl, by show _ ≤ 2 ^ 24; omega, ?_⟩
      simp only [gz4, T_0, T_1, ofL_inj]
      refine ⟨fun w2 => ?_, fun w2 => ?_⟩
      · simp only [gz4]
        exact bad (.inr (.inr (.inl w2)))
      have w2 := (Bool.not_eq_false _).mp w2
      simp only [gz4, T_0, T_1, ofL_inj]
      refine ⟨⟨whole_ok w2, by simp only [D.plains, D.plain, strOk_L (l := [48]) (by decide), strOk_L (l := [49]) (by decide)]; rfl, Nat.zero_le _, by simp [D.deps, D.dep]⟩, ?_⟩
      rw [mem_01]
      simp only [gz4]
      refine ⟨fun h3 => ?_, fun h3 => ?_⟩
      · simp only [gz4]
        exact bad (.inr (.inr (.inr (.inl (by simpa using h3)))))
      have h3 : ¬ (b = [48] ∨ b = [49]) := by simpa using h3
      simp only [gz4]
      refine ⟨_, iw.1, iw.2, ?_⟩
      simp only [gz4]
      refine ⟨_, (int_whole w2).1, (int_whole w2).2, _, _, rfl, ?_⟩
      simp only [gz4]
      refine ⟨fun h4 => ?_, fun h4 => ?_⟩
      · simp only [gz4]
        exact bad (.inr (.inr (.inr (.inr (by omega)))))
      have h4 : Nat.gcd (NumText.digitsVal (figL t)) (NumText.digitsVal b) = 1 := by omega
      simp only [gz4]
      refine ⟨_, (int_sign w).1, (int_sign w).2, ?_⟩
      simp only [gz4]
      refine ⟨_, (int_whole w2).1, (int_whole w2).2, ?_⟩
      have : fracIn l = some (Rat.divInt (signL t) (NumText.digitsVal b : Nat)) := by
        unfold fracIn
        rw [hp]
        dsimp only
        rw [if_pos]
        rw [w, w2, decide_eq_false h2, decide_eq_false h3, decide_eq_true h4]; rfl
      rw [this] at k
      simp only [frO] at k
      rw [fr_divInt (by rw [signL_abs]; exact h4) (whole_pos w2 fun e => h3 (.inl e))] at k
      simp only [gz4]
      exact k
    · simp only [gz4, T_mnought, T_none, ofL_inj]
      have hf : figL t = t := by unfold figL; rw [if_neg h]
      refine ⟨figL t, by rw [hf], by rw [hf]; show _ ≤ 2 ^ 24; omega, ?_⟩
      simp only [gz4, T_mnought, T_none, ofL_inj]
      refine ⟨fun w => ?_, fun w => ?_⟩
      · simp only [gz4]
        exact bad (.inl w)
      have w := (Bool.not_eq_false _).mp w
      have iw : intText? (ofL t) = some ((NumText.digitsVal (figL t) : Nat) : Int) ∧ (ofL t).length ≤ 640 := by have iw := int_whole w; rw [hf] at iw ⊢; exact iw
      simp only [gz4, T_mnought, T_none, ofL_inj]
      refine ⟨fun h2 => ?_, fun h2 => ?_⟩
      · simp only [gz4]
        exact bad (.inr (.inl h2))
      simp only [gz4, T_mnought, T_none, ofL_inj]
      refine ⟨b, rfl, by show _ ≤ 2 ^ 24; omega, ?_⟩
      simp only [gz4, T_0, T_1, ofL_inj]
      refine ⟨fun w2 => ?_, fun w2 => ?_⟩
      · simp only [gz4]
        exact bad (.inr (.inr (.inl w2)))
      have w2 := (Bool.not_eq_false _).mp w2
      simp only [gz4, T_0, T_1, ofL_inj]
      refine ⟨⟨whole_ok w2, by simp only [D.plains, D.plain, strOk_L (l := [48]) (by decide), strOk_L (l := [49]) (by decide)]; rfl, Nat.zero_le _, by simp [D.deps, D.dep]⟩, ?_⟩
      rw [mem_01]
      simp only [gz4]
      refine ⟨fun h3 => ?_, fun h3 => ?_⟩
      · simp only [gz4]
        exact bad (.inr (.inr (.inr (.inl (by simpa using h3)))))
      have h3 : ¬ (b = [48] ∨ b = [49]) := by simpa using h3
      simp only [gz4]
      refine ⟨_, iw.1, iw.2, ?_⟩
      simp only [gz4]
      refine ⟨_, (int_whole w2).1, (int_whole w2).2, _, _, rfl, ?_⟩
      simp only [gz4]
      refine ⟨fun h4 => ?_, fun h4 => ?_⟩
      · simp only [gz4]
        exact bad (.inr (.inr (.inr (.inr (by omega)))))
      have h4 : Nat.gcd (NumText.digitsVal (figL t)) (NumText.digitsVal b) = 1 := by omega
      simp only [gz4]
      refine ⟨_, (int_sign w).1, (int_sign w).2, ?_⟩
      simp only [gz4]
      refine ⟨_, (int_whole w2).1, (int_whole w2).2, ?_⟩
      have : fracIn l = some (Rat.divInt (signL t) (NumText.digitsVal b : Nat)) := by
        unfold fracIn
        rw [hp]
        dsimp only
        rw [if_pos]
        rw [w, w2, decide_eq_false h2, decide_eq_false h3, decide_eq_true h4]; rfl
      rw [this] at k
      simp only [frO] at k
      rw [fr_divInt (by rw [signL_abs]; exact h4) (whole_pos w2 fun e => h3 (.inl e))] at k
      simp only [gz4]
      exact k
theorem r_spot_in : ∀ ds S Q E, sp_spot_in ds S Q E → b_spot_in (mends Q E) (mstart 3 ds) S := by
  rintro _ S Q E ⟨a, b, rfl, ha, hb, k⟩
  unfold b_spot_in
  simp only [ML.q_mstart, ML.q_mends, List.map_cons, List.map_nil, List.replicate, List.cons_append, List.nil_append]
  simp only [gz4]
  intro p hp
  refine comp_map (fun l => .str (ofL l)) (fun l => frO (fracIn l)) [a, b] rfl (by simp) (fun _ => trivial) ?_ ?_
  · intro l acc Q1 hm q1
    simp only [gz4]
    refine ⟨l, rfl, ?_, q1⟩
    rcases List.mem_cons.mp hm with rfl | hm
    · exact ha
    · rw [List.mem_singleton.mp hm]; exact hb
  · simp only [gz4, List.map_cons, List.map_nil]
    unfold spotIn at k
    cases e1 : fracIn a with
    | none =>
      rw [e1] at k
      refine ⟨fun _ => ?_, fun h => absurd rfl h⟩
      simp only [gz4, del_put hp]
      exact k
    | some x =>
      refine ⟨fun h => (by cases h), fun _ => ?_⟩
      simp only [gz4]
      cases e2 : fracIn b with
      | none =>
        rw [e1, e2] at k
        refine ⟨fun _ => ?_, fun h => absurd rfl h⟩
        simp only [gz4, del_put hp]
        exact k
      | some y =>
        rw [e1, e2] at k
        refine ⟨fun h => (by cases h), fun _ => ?_⟩
        simp only [gz4, del_put hp]
        exact k
theorem r_wall_in : ∀ ds S Q E, sp_wall_in ds S Q E → b_wall_in (mends Q E) (mstart 2 ds) S := by
  rintro _ S Q E ⟨ws, rfl, hn, hl, k⟩
  unfold b_wall_in
  simp only [ML.q_mstart, ML.q_mends, List.map_cons, List.map_nil, List.replicate, List.cons_append, List.nil_append]
  simp only [gz4]
  refine ⟨fun h => ?_, fun h => ?_⟩
  · simp only [gz4]
    have : wallIn ws = none := by
      unfold wallIn
      split
      · next w a b c d => exact absurd rfl h
      · rfl
    rw [this] at k; exact k
  · obtain ⟨v, a, b, c, d, rfl⟩ : ∃ v a b c d, ws = [v, a, b, c, d] := by
      match ws, (by omega : ws.length = 5) with
      | [v, a, b, c, d], _ => exact ⟨v, a, b, c, d, rfl⟩
    have lv := hl v (by simp)
    have la := hl a (by simp)
    have lb := hl b (by simp)
    have lc := hl c (by simp)
    have ld := hl d (by simp)
    simp only [gz4, List.map_cons, List.map_nil]
    rw [T_wall, ofL_inj]
    refine ⟨fun h1 => ?_, fun h1 => ?_⟩
    · simp only [gz4]
      have : wallIn [v, a, b, c, d] = none := by unfold wallIn; exact if_neg h1
      rw [this] at k; exact k
    · have h1 : v = WALL := by simpa using h1
      simp only [gz4]
      refine ⟨a, b, rfl, la, lb, ?_⟩
      simp only [gz4]
      refine ⟨c, d, rfl, lc, ld, ?_⟩
      simp only [gz4]
      have k : Q (wlO (match spotIn a b, spotIn c d with
        | some u, some v => if ahead u v then some (u, v) else none
        | _, _ => none)) S := by
        unfold wallIn at k
        dsimp only at k
        rw [if_pos h1] at k; exact k
      cases e1 : spotIn a b with
      | none =>
        rw [e1] at k
        refine ⟨fun _ => ?_, fun h => absurd rfl h⟩
        simp only [gz4]
        exact k
      | some u =>
        refine ⟨fun h => (by cases h), fun _ => ?_⟩
        simp only [gz4]
        cases e2 : spotIn c d with
        | none =>
          rw [e1, e2] at k
          refine ⟨fun _ => ?_, fun h => absurd rfl h⟩
          simp only [gz4]
          exact k
        | some y =>
          rw [e1, e2] at k
          dsimp only at k
          refine ⟨fun h => (by cases h), fun _ => ?_⟩
          simp only [gz4]
          have b1 := spotIn_bp e1
          have b2 := spotIn_bp e2
          simp only [spO]
          rw [c_is_ahead (m := 100) (n := 100) (by decide)]
          simp only [gz4]
          refine ⟨fun h3 => ?_, fun h3 => ?_⟩
          · simp only [gz4]
            rw [if_neg h3] at k; exact k
          · simp only [gz4]
            rw [if_pos (Decidable.not_not.mp h3)] at k; exact k
theorem r_show_spot : ∀ ds S Q E, sp_show_spot ds S Q E → b_show_spot (mends Q E) (mstart 0 ds) S := by
  rintro _ S Q E ⟨u, rfl, h1, h2, k⟩
  unfold b_show_spot
  simp only [ML.q_mstart, ML.q_mends, List.map_cons, List.map_nil, List.replicate, List.cons_append, List.nil_append]
  have l1 := shL_len (k := 30) (by decide) h1.1 h1.2
  have l2 := shL_len (k := 30) (by decide) h2.1 h2.2
  simp only [gz4]
  refine ⟨u.1, rfl, Nat.le_trans (fig_bd h1).le (by decide), ?_⟩
  simp only [gz4, T_blank, ofL_nil, ofL_app, ofL_len, List.length_append, List.length_nil, List.length_singleton]
  refine ⟨by show _ ≤ 2 ^ 24; omega, by show _ ≤ 2 ^ 24; omega, by show _ ≤ 2 ^ 24; omega, u.2, rfl, Nat.le_trans (fig_bd h2).le (by decide), ?_⟩
  simp only [gz4, T_blank, T_wallb, ofL_nil, ofL_app, ofL_len, List.length_append, List.length_nil, List.length_singleton]
  refine ⟨by show _ ≤ 2 ^ 24; omega, by show _ ≤ 2 ^ 24; omega, ?_⟩
  have e : (shL u.1 ++ [32] ++ shL u.2 : List Nat) = joinL [32] [shL u.1, shL u.2] := by simp [joinL]
  rw [e]; exact k
theorem r_wall_rows : ∀ ds S Q E, sp_wall_rows ds S Q E → b_wall_rows (mends Q E) (mstart 2 ds) S := by
  rintro _ S Q E ⟨ws, rfl, hn, hf, k⟩
  unfold b_wall_rows
  simp only [ML.q_mstart, ML.q_mends, List.map_cons, List.map_nil, List.replicate, List.cons_append, List.nil_append]
  simp only [gz4]
  intro p hp
  refine comp_map wlD (fun w => .str (ofL (waL w))) ws rfl (by omega) (fun _ => trivial) ?_ ?_
  · intro w acc Q1 hm q1
    obtain ⟨h1, h2, h3, h4⟩ := hf w hm
    have l1 := shL_len (k := 30) (by decide) h1.1 h1.2
    have l2 := shL_len (k := 30) (by decide) h2.1 h2.2
    have l3 := shL_len (k := 30) (by decide) h3.1 h3.2
    have l4 := shL_len (k := 30) (by decide) h4.1 h4.2
    simp only [gz4, T_blank, T_wallb, ofL_nil, ofL_app, ofL_len, List.length_append, List.length_nil, List.length_singleton]
    refine ⟨by decide, w.1, rfl, h1, h2, ?_⟩
    have j1 : (joinL [32] [shL w.1.1, shL w.1.2]).length ≤ 200 := by simp only [joinL, List.length_append, List.length_singleton]; omega
    have j2 : (joinL [32] [shL w.2.1, shL w.2.2]).length ≤ 200 := by simp only [joinL, List.length_append, List.length_singleton]; omega
    have lw : WALL.length = 4 := rfl
    simp only [gz4, T_blank, T_wallb, ofL_nil, ofL_app, ofL_len, List.length_append, List.length_nil, List.length_singleton]
    refine ⟨by show _ ≤ 2 ^ 24; omega, by show _ ≤ 2 ^ 24; omega, by show _ ≤ 2 ^ 24; omega, w.2, rfl, h3, h4, ?_⟩
    simp only [gz4, T_blank, T_wallb, ofL_nil, ofL_app, ofL_len, List.length_append, List.length_nil, List.length_singleton]
    refine ⟨by show _ ≤ 2 ^ 24; omega, by show _ ≤ 2 ^ 24; omega, ?_⟩
    have e : (WALL ++ [32] ++ joinL [32] [shL w.1.1, shL w.1.2] ++ [32] ++ joinL [32] [shL w.2.1, shL w.2.2] : List Nat) = waL w := by simp [joinL, waL, wordsL]
    rw [e]; exact q1
  · simp only [gz4, del_put hp]
    exact k
theorem r_law_rows : ∀ ds S Q E, sp_law_rows ds S Q E → b_law_rows (mends Q E) (mstart 3 ds) S := by
  rintro _ S Q E ⟨ws, rfl, hn, hf, k⟩
  unfold b_law_rows
  simp only [ML.q_mstart, ML.q_mends, List.map_cons, List.map_nil, List.replicate, List.cons_append, List.nil_append]
  simp only [gz4]
  intro p hp
  refine comp_map wlD (fun w => .str (ofL (waL w))) ws rfl (by omega) (fun _ => trivial) ?_ ?_
  · intro w acc Q1 hm q1
    have ff := hf w hm
    have lw := waL_len ff
    obtain ⟨h1, h2, h3, h4⟩ := ff
    simp only [gz4]
    unfold spD
    unfold ML.rAdd
    refine ⟨⟨by simp, by show 2 + 2 ≤ 2 ^ 24; decide⟩, ?_⟩
    simp only [gz4]
    intro p1 hp1
    refine comp_map fr (fun q => .str (ofL (shL q))) [w.1.1, w.1.2, w.2.1, w.2.2] rfl (by simp) (fun _ => trivial) ?_ ?_
    · intro q acc2 Q2 hm2 q2
      simp only [gz4]
      have hq : Fig q := by
        simp only [List.mem_cons, List.not_mem_nil, or_false] at hm2
        rcases hm2 with rfl | rfl | rfl | rfl <;> assumption
      exact ⟨q, rfl, Nat.le_trans (fig_bd hq).le (by decide), q2⟩
    · simp only [gz4]
      refine ⟨(wordsL w).map ofL, by rw [T_wall]; rfl, ?_, ?_⟩
      · have h1 : (((wordsL w).map ofL).map (·.length)).sum ≤ (wordsL w).length * 62 := by
          rw [List.map_map]
          exact sum_bd fun p hp => by
            show (ofL p).length ≤ 62
            rw [ofL_len]
            simp only [wordsL, List.mem_cons, List.not_mem_nil, or_false] at hp
            rcases hp with rfl | rfl | rfl | rfl | rfl
            · decide
            · exact shL_len (by decide) h1.1 h1.2
            · exact shL_len (by decide) h2.1 h2.2
            · exact shL_len (by decide) h3.1 h3.2
            · exact shL_len (by decide) h4.1 h4.2
        have hw : (wordsL w).length = 5 := rfl
        rw [List.length_map, T_blank, ofL_len, hw]
        rw [hw] at h1
        simp only [List.length_singleton]
        omega
      · rw [del_put hp1, join_L, T_blank]; exact q1
  · simp only [gz4, del_put hp]
    exact k
theorem r_rows_in : ∀ ds S Q E, sp_rows_in ds S Q E → b_rows_in (mends Q E) (mstart 0 ds) S := by
  rintro _ S Q E ⟨l, rfl, hl, k⟩
  unfold b_rows_in
  simp only [ML.q_mstart, ML.q_mends, List.map_cons, List.map_nil, List.replicate, List.cons_append, List.nil_append]
  simp only [gz4]
  rw [T_none, ofL_inj]
  unfold rowsIn at k
  refine ⟨fun h => ?_, fun h => ?_⟩
  · simp only [gz4]
    rw [if_pos h] at k
    exact k
  · simp only [gz4]
    rw [if_neg h] at k
    refine ⟨⟨by decide, by rw [ofL_len]; show _ ≤ 2 ^ 24; omega⟩, ?_⟩
    rw [T_line, split_L (by decide) (by decide), tl_ofL, tl_ofL, List.map_map]
    exact k
theorem r_law_scale : ∀ ds S Q E, sp_law_scale ds S Q E → b_law_scale (mends Q E) (mstart 3 ds) S := by
  rintro _ S Q E ⟨p, c, n, rfl, hp, hn, k⟩
  unfold b_law_scale
  simp only [ML.q_mstart, ML.q_mends, List.map_cons, List.map_nil, List.replicate, List.cons_append, List.nil_append]
  simp only [gz1]
  refine t_take hp (by decide) (by decide) (by omega) fun t0 c1 t1 t2 => ?_
  simp only [gz1]
  refine t_take put_same (by decide) (by decide) (by omega) fun b0 c2 b1 b2 => ?_
  simp only [gz1]
  refine t_take put_same (by decide) (by decide) (by omega) fun v c3 v1 v2 => ?_
  simp only [gz1]
  refine jf (fun σ' S' => ∃ (t b c' : Int) (n' : Nat), 1 ≤ t ∧ t ≤ 2 ^ 30 ∧ 1 ≤ b ∧ b ≤ 2 ^ 30 ∧ n' ≤ n + 5 ∧ σ' = [some (.ref p), some (.int t), some (.int b), none] ∧ S' = put S p (rowO c' n')) ?_ ?_ ?_
  · intro hv
    simp only [gz1]
    refine t_take put_same (by decide) (by decide) (by omega) fun t3 c4 t4 t5 => ?_
    simp only [gz1]
    refine t_take put_same (by decide) (by decide) (by omega) fun b3 c5 b4 b5 => ?_
    simp only [gz1]
    exact ⟨1 + t3, 1 + b3, c5, _, by omega, by omega, by omega, by omega, Nat.le_refl _, rfl, rfl⟩
  · intro hv
    simp only [gz1]
    exact ⟨1 + t0, 1 + b0, c3, n + 1 + 1 + 1, by omega, by omega, by omega, by omega, by omega, rfl, rfl⟩
  rintro _ _ ⟨t, b, c4, n4, t3, t4, b3, b4, hn4, rfl, rfl⟩
  simp only [gz1]
  refine t_take put_same (by decide) (by decide) (by omega) fun f c5 f1 f2 => ?_
  have hf : ∃ F : Int, ixL [D.int 1, D.int 1000000000000000] (if f = 0 then 1 else 0) = some (.int F) ∧ 0 ≤ F ∧ F ≤ 1000000000000000 := by
    by_cases h : f = 0
    · rw [if_pos h]; exact ⟨_, rfl, by decide, by decide⟩
    · rw [if_neg h]; exact ⟨_, rfl, by decide, by decide⟩
  obtain ⟨F, eF, F1, F2⟩ := hf
  simp only [gz1, eF]
  refine t_take put_same (by decide) (by decide) (by omega) fun x0 c6 x1 x2 => ?_
  simp only [gz1]
  refine ⟨mulok_l (by omega) (by omega), t_take put_same (by decide) (by decide) (by omega) fun y0 c7 y1 y2 => ?_⟩
  simp only [gz1]
  refine ⟨mulok_l (by omega) (by omega), ?_⟩
  have bd : ∀ z : Int, 0 ≤ z → z < 41 → -(2 ^ 55) ≤ F * (z - 20) ∧ F * (z - 20) ≤ 2 ^ 55 := by
    intro z z1 z2
    have h1 : (F * (z - 20)).natAbs < 2 ^ 55 := natAbs_mul_lt (a := 50) (b := 5) (by omega) (by omega)
    omega
  refine k ⟨t, b, F * (x0 - 20), F * (y0 - 20)⟩ c7 _ ?_ (by omega)
  have h1 := bd x0 x1 x2
  have h2 := bd y0 y1 y2
  exact ⟨⟨t3, Int.le_trans t4 (by decide), b3, Int.le_trans b4 (by decide), Int.le_trans (by decide) h1.1, Int.le_trans h1.2 (by decide), Int.le_trans (by decide) h2.1, Int.le_trans h2.2 (by decide)⟩, t4, b4, h1.1, h1.2, h2.1, h2.2⟩
theorem r_put_read : ∀ ds S Q E, sp_put_read ds S Q E → b_put_read (mends Q E) (mstart 0 ds) S := by
  rintro _ S Q E ⟨p, ws, w, i, rfl, hp, hn, bw, hv, un, k⟩
  unfold b_put_read
  simp only [ML.q_mstart, ML.q_mends, List.map_cons, List.map_nil, List.replicate, List.cons_append, List.nil_append]
  simp only [gz4, hp, List.length_map]
  refine ⟨fun h => absurd h (by omega), fun _ => ?_⟩
  simp only [gz4]
  refine ⟨.ref p, ws, w, rfl, .ref hp, by omega, bw, hv, ?_⟩
  rw [un]
  simp only [gz4, onD, hp]
  refine ⟨of_eq_true (isLst_ref hp), by show _ < 2 ^ 24; omega, ?_⟩
  rw [List.map_append] at k; exact k
theorem r_law_number : ∀ ds S Q E, sp_law_number ds S Q E → b_law_number (mends Q E) (mstart 4 ds) S := by
  rintro _ S Q E ⟨p, c, n, rfl, hp, hn, k⟩
  unfold b_law_number
  simp only [ML.q_mstart, ML.q_mends, List.map_cons, List.map_nil, List.replicate, List.cons_append, List.nil_append]
  simp only [gz0]
  refine ⟨p, c, n, 6, rfl, hp, by decide, by decide, by omega, fun r c' r0 r1 => ?_⟩
  have hr : r = 0 ∨ r = 1 ∨ r = 2 ∨ r = 3 ∨ r = 4 ∨ r = 5 := by omega
  rcases hr with rfl | rfl | rfl | rfl | rfl | rfl <;>
  · simp only [gz0]
    refine ⟨cp, cp, line_le (by decide), cp, cp, line_le (by decide), p, c', n + 1, _, rfl, put_same, by decide, by decide, by omega, fun r2 c2 h0 h1 => ?_⟩
    simp only [gz0, put_put]
    refine ⟨mulok_l (by decide) (by decide), p, c2, n + 2, _, rfl, put_same, by decide, by decide, by omega, fun r3 c3 h2 h3 => ?_⟩
    simp only [gz0, put_put]
    refine ⟨_, _, rfl, by omega, log2_b (by omega), k _ _ (fig_divInt (by omega) (by omega))⟩
theorem plt_tight {s : Sc} {m : Nat} {z : Int} {ws : List UW} (hs : ScT s) (dr : Drawn m z ws) (hz : z ≤ 500) : ∀ v ∈ pltW s ws, FigW v := by
  intro v hv
  obtain ⟨w, hw, rfl⟩ := List.mem_map.mp hv
  have hw := dr.wok hz hw
  have key : ∀ (c x : Int), -500 ≤ c → c ≤ 500 → -(2 ^ 55) ≤ x → x ≤ 2 ^ 55 → Fig (((c : Rat) * s.t + x) / s.b) := by
    intro c x c1 c2 x1 x2
    have ht := hs.t2
    have hb := hs.b2
    have ht0 := hs.ok.t1
    have hb0 := hs.ok.b1
    refine bd_fig ?_
    have e : (c : Rat) * s.t + x = ((c * s.t + x : Int) : Rat) := by push_cast; rfl
    rw [e]
    have hm : (c * s.t).natAbs < 2 ^ 41 := natAbs_mul_lt (a := 10) (b := 31) (by omega) (by omega)
    have h1 : sz ((c * s.t + x : Int) : Rat) ≤ 56 := z_int (by omega) (by decide)
    have h2 : sz ((s.b : Int) : Rat) ≤ 31 := z_int (by omega) (by decide)
    exact Nat.le_trans (z_div h1 h2) (by decide)
  obtain ⟨⟨f1, f2, f3, f4⟩, ⟨g1, g2, g3, g4⟩⟩ := hw
  exact ⟨key _ _ f1 f2 hs.x1 hs.x2, key _ _ f3 f4 hs.y1 hs.y2, key _ _ g1 g2 hs.x1 hs.x2, key _ _ g3 g4 hs.y1 hs.y2⟩
theorem r_question_in : ∀ ds S Q E, sp_question_in ds S Q E → b_question_in (mends Q E) (mstart 0 ds) S := by
  rintro _ S Q E ⟨ws, rfl, hn, hl, k⟩
  unfold b_question_in
  simp only [ML.q_mstart, ML.q_mends, List.map_cons, List.map_nil, List.replicate, List.cons_append, List.nil_append]
  simp only [gz4]
  refine ⟨fun h => ?_, fun h => ?_⟩
  · simp only [gz4]
    have : questIn ws = none := by
      unfold questIn
      split
      · next w a b => exact absurd rfl h
      · rfl
    rw [this] at k; exact k
  · obtain ⟨v, a, b, rfl⟩ : ∃ v a b, ws = [v, a, b] := by
      match ws, (by omega : ws.length = 3) with
      | [v, a, b], _ => exact ⟨v, a, b, rfl⟩
    have la := hl a (by simp)
    have lb := hl b (by simp)
    simp only [gz4, List.map_cons, List.map_nil]
    rw [T_ask, ofL_inj]
    refine ⟨fun h1 => ?_, fun h1 => ?_⟩
    · simp only [gz4]
      have : questIn [v, a, b] = none := by unfold questIn; exact if_neg h1
      rw [this] at k; exact k
    · have h1 : v = ASK := by simpa using h1
      have e : questIn [v, a, b] = spotIn a b := by unfold questIn; exact if_pos h1
      rw [e] at k
      simp only [gz4]
      exact ⟨a, b, rfl, la, lb, k⟩
theorem r_show_answers : ∀ ds S Q E, sp_show_answers ds S Q E → b_show_answers (mends Q E) (mstart 2 ds) S := by
  rintro _ S Q E ⟨d, as, rfl, hd, hn, ha, k⟩
  unfold b_show_answers
  simp only [ML.q_mstart, ML.q_mends, List.map_cons, List.map_nil, List.replicate, List.cons_append, List.nil_append]
  obtain ⟨G, e, g⟩ := hd.itt
  simp only [gz4, e]
  intro p hp
  refine comp_map anD (fun a => .str (ofL (anL a))) as rfl (by omega) (fun acc => g _ (hd.pp hp)) ?_ ?_
  · intro a acc Q1 hm q1
    have h := ha a hm
    have hl := numL_len (n := a.2) (k := 6) (by decide) (by omega)
    have hb : ((a.2 : Nat) : Int).natAbs.log2 < 1920 := by
      rw [Int.natAbs_natCast]
      exact Nat.lt_of_lt_of_le (log2_lt' (n := 20) (by omega) (by decide)) (by decide)
    simp only [gz4, anD, T_blank, ofL_nil, ofL_app, ofL_len, strI_nat, List.length_append, List.length_nil, List.length_singleton, List.nil_append]
    exact ⟨by show _ ≤ 2 ^ 24; omega, by show _ ≤ 2 ^ 24; omega, by show _ ≤ 2 ^ 24; omega, hb, by show _ ≤ 2 ^ 24; omega, q1⟩
  · simp only [gz4, del_put hp]
    refine ⟨(as.map anL).map ofL, by rw [List.map_map, List.map_map]; rfl, ?_, ?_⟩
    · have h1 : (((as.map anL).map ofL).map (·.length)).sum ≤ as.length * 120 := by
        rw [List.map_map, List.map_map]
        exact sum_bd fun w hw => by show (ofL (anL w)).length ≤ 120; rw [ofL_len]; exact anL_len (ha w hw)
      rw [List.length_map, List.length_map, T_line, ofL_len]
      simp only [List.length_singleton]
      omega
    · rw [join_L, T_line]; exact k
theorem r_show_questions : ∀ ds S Q E, sp_show_questions ds S Q E → b_show_questions (mends Q E) (mstart 1 ds) S := by
  rintro _ S Q E ⟨d, ws, us, rfl, hd, hn, hm, hw, hu, k⟩
  unfold b_show_questions
  simp only [ML.q_mstart, ML.q_mends, List.map_cons, List.map_nil, List.replicate, List.cons_append, List.nil_append]
  obtain ⟨G, e, g⟩ := hd.itt
  simp only [gz4]
  refine ⟨ws, rfl, hn, hw, ?_⟩
  simp only [gz4, e]
  intro p hp
  refine comp_map spD (fun u => .str (ofL (asL u))) us rfl (by omega) (fun acc => g _ (hd.pp hp)) ?_ ?_
  · intro u acc Q1 hm q1
    have h := hu u hm
    have l1 := shL_len (k := 30) (by decide) h.1.1 h.1.2
    have l2 := shL_len (k := 30) (by decide) h.2.1 h.2.2
    have j1 : (joinL [32] [shL u.1, shL u.2]).length ≤ 200 := by simp only [joinL, List.length_append, List.length_singleton]; omega
    have lw : ASK.length = 3 := rfl
    simp only [gz4, T_askb, ofL_nil, ofL_app, ofL_len, List.length_append, List.length_nil, List.length_singleton]
    refine ⟨by decide, u, rfl, h.1, h.2, ?_⟩
    simp only [gz4, T_askb, ofL_nil, ofL_app, ofL_len, List.length_append, List.length_nil, List.length_singleton]
    refine ⟨by show _ ≤ 2 ^ 24; omega, by show _ ≤ 2 ^ 24; omega, ?_⟩
    have e : (ASK ++ [32] ++ joinL [32] [shL u.1, shL u.2] : List Nat) = asL u := by simp [joinL, asL, askL]
    rw [e]; exact q1
  · simp only [gz4, del_put hp]
    refine ⟨by show _ ≤ 2 ^ 24; omega, (ws.map waL ++ us.map asL).map ofL, by rw [List.map_map, List.map_append, List.map_map, List.map_map]; rfl, ?_, ?_⟩
    · have h1 : (((ws.map waL ++ us.map asL).map ofL).map (·.length)).sum ≤ (ws.map waL ++ us.map asL).length * 500 := by
        rw [List.map_map]
        refine sum_bd fun x hx => ?_
        show (ofL x).length ≤ 500
        rw [ofL_len]
        rcases List.mem_append.mp hx with hx | hx
        · obtain ⟨w, hw1, rfl⟩ := List.mem_map.mp hx
          exact waL_len (hw w hw1)
        · obtain ⟨w, hw1, rfl⟩ := List.mem_map.mp hx
          exact asL_len (hu w hw1)
      rw [List.length_map, T_line, ofL_len]
      rw [List.length_append, List.length_map, List.length_map] at h1 ⊢
      simp only [List.length_singleton]
      omega
    · rw [join_L, T_line]; exact k
theorem r_read_questions : ∀ ds S Q E, sp_read_questions ds S Q E → b_read_questions (mends Q E) (mstart 6 ds) S := by
  rintro _ S Q E ⟨ws, us, rfl, hn, hm, hw, hs, hf, hu, k⟩
  unfold b_read_questions
  simp only [ML.q_mstart, ML.q_mends, List.map_cons, List.map_nil, List.replicate, List.cons_append, List.nil_append]
  simp only [gz4]
  intro p hp p2 hp2
  have lp : (questL ws us).length ≤ 1000000 := by
    have := joinL_len (S := [10]) (m := 500) (ps := ws.map waL ++ us.map asL) fun x hx => by
      rcases List.mem_append.mp hx with hx | hx
      · obtain ⟨w, hw1, rfl⟩ := List.mem_map.mp hx
        exact waL_len (hw w hw1).1
      · obtain ⟨w, hw1, rfl⟩ := List.mem_map.mp hx
        exact asL_len (hu w hw1)
    rw [List.length_append, List.length_map, List.length_map] at this
    show (joinL [10] (ws.map waL ++ us.map asL)).length ≤ _
    simp only [List.length_singleton] at this
    omega
  refine ⟨questL ws us, rfl, lp, ?_⟩
  have er : rowsIn (questL ws us) = ws.map waL ++ us.map asL := by
    unfold rowsIn
    by_cases h : ws.map waL ++ us.map asL = []
    · have : questL ws us = [] := by unfold questL; rw [h]; rfl
      rw [if_pos this, h]
    · rw [if_neg (quest_ne h), quest_split h]
  rw [er]
  simp only [gz4]
  have np : p2 ≠ p := fun e => by rw [e, put_same] at hp2; cases hp2
  refine wfor_inv (fun i σ S' => @KP ⟨(∃ a b c d, σ = [some (.str (ofL (questL ws us))), some (.ref p), some (.ref p2), a, b, c, d]) ∧ S' p = some (.lst ((ws.take i).map wlD)) ∧ S' p2 = some (.lst ((us.take (i - ws.length)).map spD)) ∧ ∀ a o, a ≠ p → a ≠ p2 → S a = some o → S' a = some o⟩) ⟨⟨_, _, _, _, rfl⟩, by rw [put_ne np.symm, put_same]; rfl, by rw [put_same, Nat.zero_sub]; rfl, fun a o n1 n2 h => by rw [put_ne n2, put_ne n1]; exact h⟩ ?_ ?_
  · rintro i x σ S' hx ⟨⟨a, b, c, d, rfl⟩, hp3, hp4, hk⟩
    refine ⟨rfl, ?_⟩
    obtain ⟨y, hy, rfl⟩ := enumD_get hx
    rw [List.getElem?_map] at hy
    rcases Nat.lt_or_ge i ws.length with hi | hi
    · rw [List.getElem?_append_left (by rw [List.length_map]; exact hi), List.getElem?_map] at hy
      have ea : ws[i]? = some ws[i] := List.getElem?_eq_getElem hi
      rw [ea] at hy
      cases hy
      obtain ⟨fw, bw, aw⟩ := hw ws[i] (List.getElem_mem _)
      have fl := waL_len fw
      have e0 : i - ws.length = 0 := by omega
      rw [e0, List.take_zero] at hp4
      have wl : ∀ x ∈ wordsL ws[i], x.length ≤ 1000000 := fun x hx => by
        obtain ⟨h1, h2, h3, h4⟩ := fw
        simp only [wordsL, List.mem_cons, List.not_mem_nil, or_false] at hx
        rcases hx with rfl | rfl | rfl | rfl | rfl
        · decide
        · exact Nat.le_trans (shL_len (by decide) h1.1 h1.2) (by decide)
        · exact Nat.le_trans (shL_len (by decide) h2.1 h2.2) (by decide)
        · exact Nat.le_trans (shL_len (by decide) h3.1 h3.2) (by decide)
        · exact Nat.le_trans (shL_len (by decide) h4.1 h4.2) (by decide)
      have es : (Txt.split (ofL (waL ws[i])) (ofL [32])).map D.str = (wordsL ws[i]).map fun l => .str (ofL l) := by rw [split_L (by decide) (by decide), tl_ofL, tl_ofL, wa_split, List.map_map]; rfl
      simp only [gz4, T_blank, es]
      refine ⟨⟨by decide, by rw [ofL_len]; show _ ≤ 2 ^ 24; omega⟩, wordsL ws[i], rfl, by show 5 ≤ _; decide, wl, ?_⟩
      rw [quest_wall]
      simp only [gz4, spO, look_ref' hp4]
      refine ⟨rfl, fun h => absurd h (by decide), fun _ => ?_⟩
      simp only [gz4]
      refine ⟨wordsL ws[i], rfl, by show 5 ≤ _; decide, wl, ?_⟩
      rw [wall_back fw aw]
      simp only [gz4, wlO]
      have early : ∀ v ∈ ws.take i, BW v 400 ∧ solB ws[i] v ∧ isFair ws[i] v = true := by
        intro v hv
        obtain ⟨j, hj, rfl⟩ := List.mem_take_iff_getElem.mp hv
        have hj1 : j < i := by omega
        refine ⟨(hw _ (List.getElem_mem _)).2.1, ?_, ?_⟩
        · exact List.pairwise_iff_getElem.mp hs j i (by omega) hi hj1
        · exact List.pairwise_iff_getElem.mp hf j i (by omega) hi hj1
      refine ⟨p, ws.take i, ws[i], i, rfl, hp3, by rw [List.length_take]; omega, bw, fun v hv => ⟨(early v hv).1, (early v hv).2.1⟩, ?_, ?_⟩
      · unfold unfairAt
        rw [List.findIdx?_eq_none_iff]
        intro v hv
        rw [(early v hv).2.2]; rfl
      · simp only [gz4]
        refine ⟨⟨_, _, _, _, rfl⟩, ?_, ?_, fun a o n1 n2 h => by rw [put_ne n1]; exact hk a o n1 n2 h⟩
        · rw [put_same, List.take_add_one, ea]; rfl
        · rw [put_ne np, hp4, show i + 1 - ws.length = 0 by omega]; rfl
    · rw [List.getElem?_append_right (by rw [List.length_map]; exact hi), List.length_map, List.getElem?_map] at hy
      cases ea : us[i - ws.length]? with
      | none => rw [ea] at hy; cases hy
      | some u =>
        rw [ea] at hy
        cases hy
        have hm2 : u ∈ us := List.mem_of_getElem? ea
        have fu := hu u hm2
        have fl := asL_len fu
        have es : (Txt.split (ofL (asL u)) (ofL [32])).map D.str = (askL u).map fun l => .str (ofL l) := by rw [split_L (by decide) (by decide), tl_ofL, tl_ofL, as_split, List.map_map]; rfl
        have wl : ∀ x ∈ askL u, x.length ≤ 1000000 := fun x hx => by
          simp only [askL, List.mem_cons, List.not_mem_nil, or_false] at hx
          rcases hx with rfl | rfl | rfl
          · decide
          · exact Nat.le_trans (shL_len (by decide) fu.1.1 fu.1.2) (by decide)
          · exact Nat.le_trans (shL_len (by decide) fu.2.1 fu.2.2) (by decide)
        simp only [gz4, T_blank, es]
        refine ⟨⟨by decide, by rw [ofL_len]; show _ ≤ 2 ^ 24; omega⟩, askL u, rfl, by show 3 ≤ _; decide, wl, ?_⟩
        rw [quest_back fu]
        simp only [gz4, spO, hp4]
        refine ⟨of_eq_true (isLst_ref hp4), by rw [List.length_take]; show _ < 2 ^ 24; omega, ⟨_, _, _, _, rfl⟩, ?_, ?_, fun a o n1 n2 h => by rw [put_ne n2]; exact hk a o n1 n2 h⟩
        · rw [put_ne np.symm, hp3, List.take_of_length_le (by omega), List.take_of_length_le (by omega)]
        · rw [put_same, show i + 1 - ws.length = (i - ws.length) + 1 by omega, List.take_add_one, ea, List.map_append]; rfl
  · rintro σ S' ⟨⟨a, b, c, d, rfl⟩, hp3, hp4, hk⟩
    refine ⟨rfl, ?_⟩
    have e : (enumD ((ws.map waL ++ us.map asL).map fun l => D.str (ofL l))).length = ws.length + us.length := by rw [enumD_len, List.length_map, List.length_append, List.length_map, List.length_map]
    rw [e, List.take_of_length_le (by omega)] at hp3
    rw [e, List.take_of_length_le (by omega)] at hp4
    simp only [gz4, hp3]
    exact k _ p2 (fun a o h => hk a o (fun e => by rw [e, hp] at h; cases h) (fun e => by rw [e] at h; rw [put_ne np] at hp2; rw [hp2] at h; cases h) h) (by rw [put_ne np] at hp2; exact hp2) hp4
theorem r_law : ∀ ds S Q E, spLaw ds S Q E → b_law (mends Q E) (mstart 17 ds) S := by
  rintro _ S Q E ⟨ns, rfl, hl, q⟩
  unfold b_law
  simp only [ML.q_mstart, ML.q_mends, List.map_cons, List.map_nil, List.replicate, List.cons_append, List.nil_append]
  simp only [gz4]
  refine ⟨by split <;> omega, ?_⟩
  refine rng_inv (fun i σ S' => @KP ⟨∃ a1 a2 a3 a4 a5 a6 a7 a8 a9 b1 b2 b3 b4 b5 b6 b7 b8, σ = [some (.scr (ns.map .int)), a1, a2, a3, a4, a5, a6, a7, a8, a9, b1, b2, b3, b4, b5, b6, b7, b8]⟩) ⟨_, _, _, _, _, _, _, _, _, _, _, _, _, _, _, _, _, rfl⟩ ?_ ?_
  · rintro i σ S1 - ⟨a1, a2, a3, a4, a5, a6, a7, a8, a9, b1, b2, b3, b4, b5, b6, b7, b8, rfl⟩
    simp only [gz4]
    refine t_cell fun c0 => ?_
    simp only [gz4]
    intro p hp
    refine ⟨p, c0, 0, rfl, put_same, by omega, fun s c1 n1 hs hn1 => ?_⟩
    simp only [gz4]
    refine t_shuts (most := 6) rfl put_same (by omega) (by decide) (by decide) (by decide) fun ws r c2 n2 S3 dr hn2 hr rp ext hp3 hr2 => ?_
    simp only [gz4]
    have lw := dr.len
    refine t_made hs.ok (.ref hr2) (by omega) (fun w hw => (dr.wok (by decide) hw).mono (by decide)) ?_
    rw [plt_enc]
    have hb := dr.bw hs.ok (by decide)
    have hss := dr.sols hs.ok (by decide)
    have hf := dr.fairs hs.ok
    have hl2 : (pltW s ws).length ≤ 6 := by rw [plt_len]; omega
    have hfig := plt_tight hs dr (by decide)
    have hup := dr.upA hs.ok
    generalize pltW s ws = P at hb hss hf hl2 hfig hup ⊢
    simp only [gz4]
    refine t_take hp3 (by decide) (by decide) (by omega) fun x c3 x0 x1 => ?_
    simp only [gz4]
    obtain ⟨nx, rfl⟩ : ∃ nx : Nat, x = (nx : Int) := ⟨x.toNat, by omega⟩
    refine ⟨by omega, fun q1 hq1 => ?_⟩
    have pq : q1 ≠ p := fun e => by rw [e, put_same] at hq1; cases hq1
    refine comp_rng (fun j acc S' => ∃ (us : List Pt) (c : Int) (n' : Nat), acc = us.map spD ∧ us.length = j ∧ (∀ u ∈ us, FigP u) ∧ S' p = some (rowO c n') ∧ n' ≤ n2 + 1 + 6 * j) put_same ⟨[], c3, n2 + 1, rfl, rfl, by simp, by rw [put_ne pq.symm, put_same], by omega⟩ ?_ ?_
    · rintro j acc S4 hj ⟨us, c4, n4, rfl, lu, hu, hp4, hn4⟩ ha
      simp only [gz4]
      refine ⟨p, c4, n4, rfl, hp4, by omega, fun y c5 hy => ?_⟩
      simp only [gz4]
      refine ⟨p, c5, n4 + 3, rfl, put_same, by omega, fun z c6 hz => ?_⟩
      simp only [gz4]
      refine CompNext.mk (acc := us.map spD) (by rw [put_ne pq]; exact ha) (line_lt (by rw [List.length_map]; omega)) ⟨us ++ [(y, z)], c6, n4 + 3 + 3, by rw [List.map_append]; rfl, by rw [List.length_append, lu]; rfl, fun u hu2 => ?_, by rw [put_ne pq.symm, put_same], by omega⟩
      rcases List.mem_append.mp hu2 with h | h
      · exact hu u h
      · rw [List.mem_singleton.mp h]; exact ⟨hy, hz⟩
    rintro acc S4 ⟨us, c4, n4, rfl, lu, hu, hp4, hn4⟩ ha
    have lu2 : us.length ≤ 6 := by omega
    simp only [gz4, sqI_at ha]
    intro q2 hq2
    have n21 : q2 ≠ q1 := fun e => by rw [e, ha] at hq2; cases hq2
    have n2p : q2 ≠ p := fun e => by rw [e, hp4] at hq2; cases hq2
    refine comp_map spD (fun u => .str (ofL (asL u))) us rfl (by omega) (fun acc => ?_) ?_ ?_
    · show olP (put S4 q2 (.lst acc) q1) = _
      rw [put_ne n21.symm, ha]; rfl
    · intro u acc Q1 hm q1'
      have h := hu u hm
      have b1' := (fig_bd h.1).le
      have b2' := (fig_bd h.2).le
      simp only [gz4]
      refine ⟨u.1, rfl, Nat.le_trans b1' (by decide), ?_⟩
      simp only [gz4]
      refine ⟨u.2, rfl, Nat.le_trans b2' (by decide), ?_⟩
      simp only [gz4, T_ask, T_blank]
      refine ⟨(askL u).map ofL, rfl, ?_, ?_⟩
      · have h1 : (((askL u).map ofL).map (·.length)).sum ≤ (askL u).length * 62 := by
          rw [List.map_map]
          exact sum_bd fun p hp => by
            show (ofL p).length ≤ 62
            rw [ofL_len]
            simp only [askL, List.mem_cons, List.not_mem_nil, or_false] at hp
            rcases hp with rfl | rfl | rfl
            · decide
            · exact shL_len (by decide) h.1.1 h.1.2
            · exact shL_len (by decide) h.2.1 h.2.2
        have hw : (askL u).length = 3 := rfl
        rw [List.length_map, ofL_len, hw]
        rw [hw] at h1
        simp only [List.length_singleton]
        omega
      · rw [join_L]; exact q1'
    · have ha2 : put S4 q2 (.lst (us.map fun u => D.str (ofL (asL u)))) q1 = some (.lst (us.map spD)) := by rw [put_ne n21.symm]; exact ha
      have hb2 : put S4 q2 (.lst (us.map fun u => D.str (ofL (asL u)))) q2 = some (.lst (us.map fun u => D.str (ofL (asL u)))) := put_same
      have hc2 : put S4 q2 (.lst (us.map fun u => D.str (ofL (asL u)))) p = some (rowO c4 n4) := by rw [put_ne n2p.symm]; exact hp4
      generalize put S4 q2 (.lst (us.map fun u => D.str (ofL (asL u)))) = S5 at ha2 hb2 hc2 ⊢
      simp only [gz4, olP_lst, ha2]
      intro q3 hq3
      have n31 : q3 ≠ q1 := fun e => by rw [e, ha2] at hq3; cases hq3
      have n32 : q3 ≠ q2 := fun e => by rw [e, hb2] at hq3; cases hq3
      have n3p : q3 ≠ p := fun e => by rw [e, hc2] at hq3; cases hq3
      refine ⟨.ref q3, P, us, rfl, .ref put_same, by omega, by omega, hfig, hu, ?_⟩
      have ha3 : put S5 q3 (.lst (us.map spD)) q1 = some (.lst (us.map spD)) := by rw [put_ne n31.symm]; exact ha2
      have hb3 : put S5 q3 (.lst (us.map spD)) q2 = some (.lst (us.map fun u => D.str (ofL (asL u)))) := by rw [put_ne n32.symm]; exact hb2
      have hc3 : put S5 q3 (.lst (us.map spD)) p = some (rowO c4 n4) := by rw [put_ne n3p.symm]; exact hc2
      have hd3 : put S5 q3 (.lst (us.map spD)) q3 = some (.lst (us.map spD)) := put_same
      generalize put S5 q3 (.lst (us.map spD)) = S6 at ha3 hb3 hc3 hd3 ⊢
      simp only [gz4]
      refine ⟨P, rfl, by omega, hfig, ?_⟩
      simp only [gz4, hb3, olP_lst]
      refine ⟨by show _ ≤ 2 ^ 24; omega, (P.map waL ++ us.map asL).map ofL, by rw [List.map_map, List.map_append, List.map_map, List.map_map]; rfl, ?_, ?_⟩
      · have h1 : (((P.map waL ++ us.map asL).map ofL).map (·.length)).sum ≤ (P.map waL ++ us.map asL).length * 500 := by
          rw [List.map_map]
          refine sum_bd fun x hx => ?_
          show (ofL x).length ≤ 500
          rw [ofL_len]
          rcases List.mem_append.mp hx with hx | hx
          · obtain ⟨w, hw1, rfl⟩ := List.mem_map.mp hx
            exact waL_len (hfig w hw1)
          · obtain ⟨w, hw1, rfl⟩ := List.mem_map.mp hx
            exact asL_len (hu w hw1)
        rw [List.length_map, T_line, ofL_len]
        rw [List.length_append, List.length_map, List.length_map] at h1 ⊢
        simp only [List.length_singleton]
        omega
      rw [join_L, T_line, tl_ofL]
      simp only [gz4]
      refine ⟨fun h => absurd rfl h, fun _ => ?_⟩
      simp only [gz4, look_ref' hd3, look_ref' ha3]
      refine ⟨eqOk_lsp, fun h => absurd h (by rw [deq_lsp]; simp), fun _ => ?_⟩
      simp only [gz4]
      refine ⟨P, us, rfl, by omega, by omega, fun w hw => ⟨hfig w hw, hb w hw, (hup w hw).1⟩, hss, hf, hu, fun S7 q4 e7 hq4 hd4 => ?_⟩
      have ha4 := e7 _ _ ha3
      have hc4 := e7 _ _ hc3
      have n41 : q4 ≠ q1 := fun e => by rw [e, ha3] at hq4; cases hq4
      have n4p : q4 ≠ p := fun e => by rw [e, hc3] at hq4; cases hq4
      simp only [gz4]
      refine neXP (qX_deep hd4) (qX_deep ha4) ⟨qX_plain, qX_plain, qX_dep, qX_dep⟩ ?_
      rw [deq_refl _ qX_plain]
      have ty : tyD S7 (.ref q4) = some "list" := by simp [tyD, hd4]
      simp only [gz4, ty, hd4, olP_lst]
      refine ⟨of_eq_true (isLst_ref hd4), by show us.length < 2 ^ 24; omega, ?_⟩
      have ha5 : ∀ o, put S7 q4 o q1 = some (.lst (us.map spD)) := fun o => by rw [put_ne n41.symm]; exact ha4
      have hc5 : ∀ o, put S7 q4 o p = some (rowO c4 n4) := fun o => by rw [put_ne n4p.symm]; exact hc4
      refine ⟨P, us, rfl, by omega, by omega, fun w hw => ⟨hfig w hw, hb w hw, (hup w hw).1⟩, hss, hf, hu, fun S9 q5 e9 hq5 hd9 => ?_⟩
      have ha9 := e9 _ _ (ha5 _)
      have hc9 := e9 _ _ (hc5 _)
      simp only [gz4]
      refine neXP (qX_deep hd9) (qX_deep ha9) ⟨qX_plain, qX_plain, qX_dep, qX_dep⟩ ?_
      rw [deq_refl _ qX_plain]
      simp only [gz4]
      intro q6 hq6
      have n6p : q6 ≠ p := fun e => by rw [e, hc9] at hq6; cases hq6
      refine t_take (by rw [put_ne n6p.symm]; exact hc9) (by decide) (by decide) (by omega) fun m c7 m0 m1 => ?_
      simp only [gz4]
      refine ⟨by omega, ?_⟩
      obtain ⟨nm, rfl⟩ : ∃ nm : Nat, m = (nm : Int) := ⟨m.toNat, by omega⟩
      rw [Int.toNat_natCast]
      refine rng_inv (fun j σ S' => @KP ⟨∃ (x : Option D) (as : List (List Nat × Nat)) (c : Int) (n : Nat), σ = [some (.scr (ns.map .int)), some (.int (i : Nat)), some (.ref p), some (scD s), some (.tup (P.map wlD)), some (.ref q1), x, some (.ref q2), a8, a9, some (.ref q3), some (.str (ofL (questL P us))), some (.tup [.tup (P.map wlD), .ref q4]), some (.ref q6), b5, b6, b7, b8] ∧ S' q6 = some (.lst (as.map anD)) ∧ S' p = some (rowO c n) ∧ n ≤ n4 + 1 + 2 * j ∧ as.length ≤ j ∧ (∀ a ∈ as, a.1.length ≤ 100 ∧ a.2 < 1000000) ∧ ∀ a ∈ as, PyData.strOk (ofL a.1) = true⟩) ⟨_, [], c7, n4 + 1, rfl, by rw [put_ne n6p, put_same]; rfl, put_same, by omega, by simp, by simp, by simp⟩ ?_ ?_
      · rintro j σ S10 hj ⟨x, as, c8, n8, rfl, h6, hp8, hn8, la, hA, hB⟩
        simp only [gz4]
        refine ⟨of_eq_true (isLst_ref h6), t_take hp8 (by decide) (by decide) (by omega) fun y c9 y0 y1 => ?_⟩
        obtain ⟨w, ew, lw, ow⟩ : ∃ w : List Nat, ixL [D.str "corner", D.str "wall", D.str "land"] y = some (.str (ofL w)) ∧ w.length ≤ 100 ∧ PyData.strOk (ofL w) = true := by
          rcases (by omega : y = 0 ∨ y = 1 ∨ y = 2) with rfl | rfl | rfl
          · exact ⟨tl (Str.ofString "corner"), by rw [← str_ofL]; rfl, by decide, strOk_L (by decide)⟩
          · exact ⟨tl (Str.ofString "wall"), by rw [← str_ofL]; rfl, by decide, strOk_L (by decide)⟩
          · exact ⟨tl (Str.ofString "land"), by rw [← str_ofL]; rfl, by decide, strOk_L (by decide)⟩
        simp only [gz4, ew]
        refine t_take put_same (by decide) (by decide) (by omega) fun z c10 z0 z1 => ?_
        have n6p' : q6 ≠ p := n6p
        obtain ⟨nz, rfl⟩ : ∃ nz : Nat, z = (nz : Int) := ⟨z.toNat, by omega⟩
        have h6' : ∀ o, put S10 p o q6 = some (.lst (as.map anD)) := fun o => by rw [put_ne n6p']; exact h6
        simp only [gz4, h6', olP_lst]
        refine ⟨by show _ < 2 ^ 24; omega, ⟨_, as ++ [(w, nz)], c10, n8 + 1 + 1, rfl, by rw [put_same, List.map_append]; rfl, by rw [put_ne n6p'.symm, put_same], by omega, by rw [List.length_append, List.length_singleton]; omega, fun a ha => ?_, fun a ha => ?_⟩⟩
        · rcases List.mem_append.mp ha with h | h
          · exact hA a h
          · rw [List.mem_singleton.mp h]; exact ⟨lw, by show nz < 1000000; omega⟩
        · rcases List.mem_append.mp ha with h | h
          · exact hB a h
          · rw [List.mem_singleton.mp h]; exact ow
      · rintro σ S10 ⟨x, as, c8, n8, rfl, h6, hp8, hn8, la, hA, hB⟩
        simp only [gz4, h6, olP_lst]
        intro q7 hq7 q8 hq8
        have n76 : q7 ≠ q6 := fun e => by rw [e, h6] at hq7; cases hq7
        have n87 : q8 ≠ q7 := fun e => by rw [e, put_same] at hq8; cases hq8
        have h7 : ∀ o, put (put S10 q7 (.lst (as.map anD))) q8 o q7 = some (.lst (as.map anD)) := fun o => by rw [put_ne n87.symm, put_same]
        refine comp_map anD (fun a => .str (ofL (anL a))) as rfl (by omega) (fun acc => ?_) ?_ ?_
        · show olP (put (put S10 q7 (.lst (as.map anD))) q8 (.lst acc) q7) = _
          rw [h7]; rfl
        · intro a acc Q1 hm q1'
          have h := hA a hm
          have hl := numL_len (n := a.2) (k := 6) (by decide) (by omega)
          have hb : ((a.2 : Nat) : Int).natAbs.log2 < 1920 := by
            rw [Int.natAbs_natCast]
            exact Nat.lt_of_lt_of_le (log2_lt' (n := 20) (by omega) (by decide)) (by decide)
          simp only [gz4, anD, T_blank, ofL_nil, ofL_app, ofL_len, strI_nat, List.length_append, List.length_nil, List.length_singleton, List.nil_append]
          exact ⟨by show _ ≤ 2 ^ 24; omega, hb, by show _ ≤ 2 ^ 24; omega, q1'⟩
        · simp only [gz4, del_put hq8]
          have h76 : put S10 q7 (.lst (as.map anD)) q6 = some (.lst (as.map anD)) := by rw [put_ne n76.symm]; exact h6
          have h77 : put S10 q7 (.lst (as.map anD)) q7 = some (.lst (as.map anD)) := put_same
          refine ⟨(as.map anL).map ofL, by rw [List.map_map, List.map_map]; rfl, ?_, ?_⟩
          · have h1 : (((as.map anL).map ofL).map (·.length)).sum ≤ as.length * 120 := by
              rw [List.map_map, List.map_map]
              exact sum_bd fun w hw => by show (ofL (anL w)).length ≤ 120; rw [ofL_len]; exact anL_len (hA w hw)
            rw [List.length_map, List.length_map, ofL_len]
            simp only [List.length_singleton]
            omega
          rw [join_L, tl_ofL]
          simp only [gz4]
          refine ⟨.ref q6, as, rfl, .ref h76, by omega, hA, ?_⟩
          simp only [gz4]
          simp only [look_ref' h76, look_ref' h77]
          have pl : D.plain (.lst (as.map anD)) = true := anD_plain hB
          have dl : D.dep (.lst (as.map anD)) ≤ 64 := by
            have := deps_of (f := anD) (k := 3) (fun w => by simp [anD, D.dep, D.deps]) as
            show D.deps (as.map anD) + 1 ≤ 64
            omega
          refine ⟨eqOk_of' pl pl dl dl, ?_⟩
          rw [deq_refl _ pl]
          refine ⟨fun h => absurd h (by decide), fun _ => ?_⟩
          simp only [gz4]
          exact KP.mk ⟨_, _, _, _, _, _, _, _, _, _, _, _, _, _, _, _, _, rfl⟩
  · rintro σ S1 ⟨a1, a2, a3, a4, a5, a6, a7, a8, a9, b1, b2, b3, b4, b5, b6, b7, b8, rfl⟩
    simp only [gz4]; exact q _
end Lk64
set_option maxRecDepth 100000
set_option maxHeartbeats 0
namespace Lk64
open PySem PySem.Spec L2 ML
open PyProof.Rows hiding St
section
variable {P : Program} {w : World} {K : PySem.W.Frag} {mg : Str → Option Value} {base : Heap}
abbrev FnP (K : PySem.W.Frag) (x : Str) (st : Stmt) (f : Addr) (fd : FuncData) : Prop := FunD K x x (defArgs st) (defBody st) (defScope st) [] [] f fd
abbrev FnM (K : PySem.W.Frag) (x q : Str) (st : Stmt) (f : Addr) (fd : FuncData) : Prop := FunD K x q (defArgs st) (defBody st) (defScope st) [] [] f fd
theorem fn_divisor {f : Addr} {fd : FuncData} (T : Txt K mg) (F : FnP K "divisor" s_divisor f fd)  : FnOk P w K mg base (L2.CX P w) 1 f fd ["one", "other"] (upSp K FL.sp_divisor) :=
  fn_mk (N := ["one", "other"]) F sc_divisor rfl l_divisor (fun _ _ _ _ _ _ hr => d_divisor T  hr) r_divisor
theorem h_divisor {f : Addr} {fd : FuncData} (T : Txt K mg) (F : FnP K "divisor" s_divisor f fd) (g : mg "divisor" = some (.ref f))  : Has P w K mg base "divisor" ["one", "other"] 1 FL.sp_divisor :=
  ⟨f, fd, g, F.kp, F.bindsN fun _ _ _ _ _ _ us hl => match us, hl with | [_, _], _ => rfl, fn_divisor T F ⟩
theorem fn_is_less {f : Addr} {fd : FuncData} (T : Txt K mg) (F : FnP K "is_less" s_is_less f fd)  : FnOk P w K mg base (L2.CX P w) 1 f fd ["one", "other"] (upSp K FL.sp_is_less) :=
  fn_mk (N := ["one", "other"]) F sc_is_less rfl l_is_less (fun _ _ _ _ _ _ hr => d_is_less T  hr) r_is_less
theorem h_is_less {f : Addr} {fd : FuncData} (T : Txt K mg) (F : FnP K "is_less" s_is_less f fd) (g : mg "is_less" = some (.ref f))  : Has P w K mg base "is_less" ["one", "other"] 1 FL.sp_is_less :=
  ⟨f, fd, g, F.kp, F.bindsN fun _ _ _ _ _ _ us hl => match us, hl with | [_, _], _ => rfl, fn_is_less T F ⟩
theorem fn_show_fraction {f : Addr} {fd : FuncData} (T : Txt K mg) (F : FnP K "show_fraction" s_show_fraction f fd)  : FnOk P w K mg base (L2.CX P w) 1 f fd ["one"] (upSp K sp_show_fraction) :=
  fn_mk (N := ["one"]) F sc_show_fraction rfl l_show_fraction (fun _ _ _ _ _ _ hr => d_show_fraction T  hr) r_show_fraction
theorem h_show_fraction {f : Addr} {fd : FuncData} (T : Txt K mg) (F : FnP K "show_fraction" s_show_fraction f fd) (g : mg "show_fraction" = some (.ref f))  : Has P w K mg base "show_fraction" ["one"] 1 sp_show_fraction :=
  ⟨f, fd, g, F.kp, F.bindsN fun _ _ _ _ _ _ us hl => match us, hl with | [_], _ => rfl, fn_show_fraction T F ⟩
theorem fn_is_whole {f : Addr} {fd : FuncData} (T : Txt K mg) (F : FnP K "is_whole" s_is_whole f fd)  : FnOk P w K mg base (L2.CX P w) 1 f fd ["word"] (upSp K sp_is_whole) :=
  fn_mk (N := ["word", "sign"]) F sc_is_whole rfl l_is_whole (fun _ _ _ _ _ _ hr => d_is_whole T  hr) r_is_whole
theorem h_is_whole {f : Addr} {fd : FuncData} (T : Txt K mg) (F : FnP K "is_whole" s_is_whole f fd) (g : mg "is_whole" = some (.ref f))  : Has P w K mg base "is_whole" ["word"] 1 sp_is_whole :=
  ⟨f, fd, g, F.kp, F.bindsN fun _ _ _ _ _ _ us hl => match us, hl with | [_], _ => rfl, fn_is_whole T F ⟩
theorem fn_rows_in {f : Addr} {fd : FuncData} (T : Txt K mg) (F : FnP K "rows_in" s_rows_in f fd)  : FnOk P w K mg base (L2.CX P w) 1 f fd ["text"] (upSp K sp_rows_in) :=
  fn_mk (N := ["text"]) F sc_rows_in rfl l_rows_in (fun _ _ _ _ _ _ hr => d_rows_in T  hr) r_rows_in
theorem h_rows_in {f : Addr} {fd : FuncData} (T : Txt K mg) (F : FnP K "rows_in" s_rows_in f fd) (g : mg "rows_in" = some (.ref f))  : Has P w K mg base "rows_in" ["text"] 1 sp_rows_in :=
  ⟨f, fd, g, F.kp, F.bindsN fun _ _ _ _ _ _ us hl => match us, hl with | [_], _ => rfl, fn_rows_in T F ⟩
theorem fn_show_answers {f : Addr} {fd : FuncData} (T : Txt K mg) (F : FnP K "show_answers" s_show_answers f fd)  : FnOk P w K mg base (L2.CX P w) 1 f fd ["answers"] (upSp K sp_show_answers) :=
  fn_mk (N := ["answers", "word", "number"]) F sc_show_answers rfl l_show_answers (fun _ _ _ _ _ _ hr => d_show_answers T  hr) r_show_answers
theorem h_show_answers {f : Addr} {fd : FuncData} (T : Txt K mg) (F : FnP K "show_answers" s_show_answers f fd) (g : mg "show_answers" = some (.ref f))  : Has P w K mg base "show_answers" ["answers"] 1 sp_show_answers :=
  ⟨f, fd, g, F.kp, F.bindsN fun _ _ _ _ _ _ us hl => match us, hl with | [_], _ => rfl, fn_show_answers T F ⟩
theorem fn_law_cell_at {f : Addr} {fd : FuncData} (T : Txt K mg) (F : FnP K "_law_cell_at" s_law_cell_at f fd)  : FnOk P w K mg base (L2.CX P w) 1 f fd ["_law_script", "_law_k"] (upSp K FL.sp_cell_at) :=
  fn_mk (N := ["_law_script", "_law_k"]) F sc_law_cell_at rfl l_law_cell_at (fun _ _ _ _ _ _ hr => d_law_cell_at T  hr) r_law_cell_at
theorem h_law_cell_at {f : Addr} {fd : FuncData} (T : Txt K mg) (F : FnP K "_law_cell_at" s_law_cell_at f fd) (g : mg "_law_cell_at" = some (.ref f))  : Has P w K mg base "_law_cell_at" ["_law_script", "_law_k"] 1 FL.sp_cell_at :=
  ⟨f, fd, g, F.kp, F.bindsN fun _ _ _ _ _ _ us hl => match us, hl with | [_, _], _ => rfl, fn_law_cell_at T F ⟩
theorem fn_law_take {f : Addr} {fd : FuncData} (T : Txt K mg) (F : FnP K "_law_take" s_law_take f fd)  : FnOk P w K mg base (L2.CX P w) 1 f fd ["_law_row", "_law_base"] (upSp K FL.sp_take) :=
  fn_mk (N := ["_law_row", "_law_base", "_law_rest", "_law_number_here"]) F sc_law_take rfl l_law_take (fun _ _ _ _ _ _ hr => d_law_take T  hr) r_law_take
theorem h_law_take {f : Addr} {fd : FuncData} (T : Txt K mg) (F : FnP K "_law_take" s_law_take f fd) (g : mg "_law_take" = some (.ref f))  : Has P w K mg base "_law_take" ["_law_row", "_law_base"] 1 FL.sp_take :=
  ⟨f, fd, g, F.kp, F.bindsN fun _ _ _ _ _ _ us hl => match us, hl with | [_, _], _ => rfl, fn_law_take T F ⟩
theorem fn_law_low {f : Addr} {fd : FuncData} (T : Txt K mg) (F : FnP K "_law_low" s_law_low f fd)  : FnOk P w K mg base (L2.CX P w) 1 f fd ["_law_top", "_law_bottom"] (upSp K FL.sp_low) :=
  fn_mk (N := ["_law_top", "_law_bottom", "_law_one", "_law_other"]) F sc_law_low rfl l_law_low (fun _ _ _ _ _ _ hr => d_law_low T  hr) r_law_low
theorem h_law_low {f : Addr} {fd : FuncData} (T : Txt K mg) (F : FnP K "_law_low" s_law_low f fd) (g : mg "_law_low" = some (.ref f))  : Has P w K mg base "_law_low" ["_law_top", "_law_bottom"] 1 FL.sp_low :=
  ⟨f, fd, g, F.kp, F.bindsN fun _ _ _ _ _ _ us hl => match us, hl with | [_, _], _ => rfl, fn_law_low T F ⟩
theorem fn_law_turn {f : Addr} {fd : FuncData} (T : Txt K mg) (F : FnP K "_law_turn" s_law_turn f fd)  : FnOk P w K mg base (L2.CX P w) 1 f fd ["_law_one", "_law_two", "_law_three"] (upSp K FL.sp_turn) :=
  fn_mk (N := ["_law_one", "_law_two", "_law_three", "_law_far", "_law_beside", "_law_found"]) F sc_law_turn rfl l_law_turn (fun _ _ _ _ _ _ hr => d_law_turn T  hr) r_law_turn
theorem h_law_turn {f : Addr} {fd : FuncData} (T : Txt K mg) (F : FnP K "_law_turn" s_law_turn f fd) (g : mg "_law_turn" = some (.ref f))  : Has P w K mg base "_law_turn" ["_law_one", "_law_two", "_law_three"] 1 FL.sp_turn :=
  ⟨f, fd, g, F.kp, F.bindsN fun _ _ _ _ _ _ us hl => match us, hl with | [_, _, _], _ => rfl, fn_law_turn T F ⟩
theorem fn_law_shown {f : Addr} {fd : FuncData} (T : Txt K mg) (F : FnP K "_law_shown" s_law_shown f fd)  : FnOk P w K mg base (L2.CX P w) 1 f fd ["_law_one"] (upSp K sp_law_shown) :=
  fn_mk (N := ["_law_one"]) F sc_law_shown rfl l_law_shown (fun _ _ _ _ _ _ hr => d_law_shown T  hr) r_law_shown
theorem h_law_shown {f : Addr} {fd : FuncData} (T : Txt K mg) (F : FnP K "_law_shown" s_law_shown f fd) (g : mg "_law_shown" = some (.ref f))  : Has P w K mg base "_law_shown" ["_law_one"] 1 sp_law_shown :=
  ⟨f, fd, g, F.kp, F.bindsN fun _ _ _ _ _ _ us hl => match us, hl with | [_], _ => rfl, fn_law_shown T F ⟩
theorem fn_fraction {f : Addr} {fd : FuncData} (T : Txt K mg) (F : FnP K "fraction" s_fraction f fd) (h_divisor : Has P w K mg base "divisor" ["one", "other"] 1 FL.sp_divisor) : FnOk P w K mg base (L2.CX P w) 2 f fd ["top", "bottom"] (upSp K FL.sp_low) :=
  fn_mk (N := ["top", "bottom", "by"]) F sc_fraction rfl l_fraction (fun _ _ _ _ _ _ hr => d_fraction T h_divisor hr) r_fraction
theorem h_fraction {f : Addr} {fd : FuncData} (T : Txt K mg) (F : FnP K "fraction" s_fraction f fd) (g : mg "fraction" = some (.ref f)) (h_divisor : Has P w K mg base "divisor" ["one", "other"] 1 FL.sp_divisor) : Has P w K mg base "fraction" ["top", "bottom"] 2 FL.sp_low :=
  ⟨f, fd, g, F.kp, F.bindsN fun _ _ _ _ _ _ us hl => match us, hl with | [_, _], _ => rfl, fn_fraction T F h_divisor⟩
theorem fn_is_ahead {f : Addr} {fd : FuncData} (T : Txt K mg) (F : FnP K "is_ahead" s_is_ahead f fd) (h_is_less : Has P w K mg base "is_less" ["one", "other"] 1 FL.sp_is_less) : FnOk P w K mg base (L2.CX P w) 2 f fd ["one", "other"] (upSp K FL.sp_is_ahead) :=
  fn_mk (N := ["one", "other"]) F sc_is_ahead rfl l_is_ahead (fun _ _ _ _ _ _ hr => d_is_ahead T h_is_less hr) r_is_ahead
theorem h_is_ahead {f : Addr} {fd : FuncData} (T : Txt K mg) (F : FnP K "is_ahead" s_is_ahead f fd) (g : mg "is_ahead" = some (.ref f)) (h_is_less : Has P w K mg base "is_less" ["one", "other"] 1 FL.sp_is_less) : Has P w K mg base "is_ahead" ["one", "other"] 2 FL.sp_is_ahead :=
  ⟨f, fd, g, F.kp, F.bindsN fun _ _ _ _ _ _ us hl => match us, hl with | [_, _], _ => rfl, fn_is_ahead T F h_is_less⟩
theorem fn_fraction_in {f : Addr} {fd : FuncData} (T : Txt K mg) (F : FnP K "fraction_in" s_fraction_in f fd) (h_divisor : Has P w K mg base "divisor" ["one", "other"] 1 FL.sp_divisor) (h_is_whole : Has P w K mg base "is_whole" ["word"] 1 sp_is_whole) : FnOk P w K mg base (L2.CX P w) 2 f fd ["word"] (upSp K sp_fraction_in) :=
  fn_mk (N := ["word", "top", "stroke", "bottom", "figures"]) F sc_fraction_in rfl l_fraction_in (fun _ _ _ _ _ _ hr => d_fraction_in T h_divisor h_is_whole hr) r_fraction_in
theorem h_fraction_in {f : Addr} {fd : FuncData} (T : Txt K mg) (F : FnP K "fraction_in" s_fraction_in f fd) (g : mg "fraction_in" = some (.ref f)) (h_divisor : Has P w K mg base "divisor" ["one", "other"] 1 FL.sp_divisor) (h_is_whole : Has P w K mg base "is_whole" ["word"] 1 sp_is_whole) : Has P w K mg base "fraction_in" ["word"] 2 sp_fraction_in :=
  ⟨f, fd, g, F.kp, F.bindsN fun _ _ _ _ _ _ us hl => match us, hl with | [_], _ => rfl, fn_fraction_in T F h_divisor h_is_whole⟩
theorem fn_show_spot {f : Addr} {fd : FuncData} (T : Txt K mg) (F : FnP K "show_spot" s_show_spot f fd) (h_show_fraction : Has P w K mg base "show_fraction" ["one"] 1 sp_show_fraction) : FnOk P w K mg base (L2.CX P w) 2 f fd ["spot"] (upSp K sp_show_spot) :=
  fn_mk (N := ["spot"]) F sc_show_spot rfl l_show_spot (fun _ _ _ _ _ _ hr => d_show_spot T h_show_fraction hr) r_show_spot
theorem h_show_spot {f : Addr} {fd : FuncData} (T : Txt K mg) (F : FnP K "show_spot" s_show_spot f fd) (g : mg "show_spot" = some (.ref f)) (h_show_fraction : Has P w K mg base "show_fraction" ["one"] 1 sp_show_fraction) : Has P w K mg base "show_spot" ["spot"] 2 sp_show_spot :=
  ⟨f, fd, g, F.kp, F.bindsN fun _ _ _ _ _ _ us hl => match us, hl with | [_], _ => rfl, fn_show_spot T F h_show_fraction⟩
theorem fn_law_number {f : Addr} {fd : FuncData} (T : Txt K mg) (F : FnP K "_law_number" s_law_number f fd) (h_law_low : Has P w K mg base "_law_low" ["_law_top", "_law_bottom"] 1 FL.sp_low) (h_law_take : Has P w K mg base "_law_take" ["_law_row", "_law_base"] 1 FL.sp_take) : FnOk P w K mg base (L2.CX P w) 2 f fd ["_law_row"] (upSp K sp_law_number) :=
  fn_mk (N := ["_law_row", "_law_kind", "_law_most", "_law_bottom", "_law_top"]) F sc_law_number rfl l_law_number (fun _ _ _ _ _ _ hr => d_law_number T h_law_low h_law_take hr) r_law_number
theorem h_law_number {f : Addr} {fd : FuncData} (T : Txt K mg) (F : FnP K "_law_number" s_law_number f fd) (g : mg "_law_number" = some (.ref f)) (h_law_low : Has P w K mg base "_law_low" ["_law_top", "_law_bottom"] 1 FL.sp_low) (h_law_take : Has P w K mg base "_law_take" ["_law_row", "_law_base"] 1 FL.sp_take) : Has P w K mg base "_law_number" ["_law_row"] 2 sp_law_number :=
  ⟨f, fd, g, F.kp, F.bindsN fun _ _ _ _ _ _ us hl => match us, hl with | [_], _ => rfl, fn_law_number T F h_law_low h_law_take⟩
theorem fn_law_scale {f : Addr} {fd : FuncData} (T : Txt K mg) (F : FnP K "_law_scale" s_law_scale f fd) (h_law_take : Has P w K mg base "_law_take" ["_law_row", "_law_base"] 1 FL.sp_take) : FnOk P w K mg base (L2.CX P w) 2 f fd ["_law_row"] (upSp K sp_law_scale) :=
  fn_mk (N := ["_law_row", "_law_top", "_law_bottom", "_law_far"]) F sc_law_scale rfl l_law_scale (fun _ _ _ _ _ _ hr => d_law_scale T h_law_take hr) r_law_scale
theorem h_law_scale {f : Addr} {fd : FuncData} (T : Txt K mg) (F : FnP K "_law_scale" s_law_scale f fd) (g : mg "_law_scale" = some (.ref f)) (h_law_take : Has P w K mg base "_law_take" ["_law_row", "_law_base"] 1 FL.sp_take) : Has P w K mg base "_law_scale" ["_law_row"] 2 sp_law_scale :=
  ⟨f, fd, g, F.kp, F.bindsN fun _ _ _ _ _ _ us hl => match us, hl with | [_], _ => rfl, fn_law_scale T F h_law_take⟩
theorem fn_law_spot {f : Addr} {fd : FuncData} (T : Txt K mg) (F : FnP K "_law_spot" s_law_spot f fd) (h_law_low : Has P w K mg base "_law_low" ["_law_top", "_law_bottom"] 1 FL.sp_low) : FnOk P w K mg base (L2.CX P w) 2 f fd ["_law_scale_here", "_law_unit"] (upSp K FL.sp_uspot) :=
  fn_mk (N := ["_law_scale_here", "_law_unit", "_law_top", "_law_bottom", "_law_x", "_law_y"]) F sc_law_spot rfl l_law_spot (fun _ _ _ _ _ _ hr => d_law_spot T h_law_low hr) r_law_spot
theorem h_law_spot {f : Addr} {fd : FuncData} (T : Txt K mg) (F : FnP K "_law_spot" s_law_spot f fd) (g : mg "_law_spot" = some (.ref f)) (h_law_low : Has P w K mg base "_law_low" ["_law_top", "_law_bottom"] 1 FL.sp_low) : Has P w K mg base "_law_spot" ["_law_scale_here", "_law_unit"] 2 FL.sp_uspot :=
  ⟨f, fd, g, F.kp, F.bindsN fun _ _ _ _ _ _ us hl => match us, hl with | [_, _], _ => rfl, fn_law_spot T F h_law_low⟩
theorem fn_law_on {f : Addr} {fd : FuncData} (T : Txt K mg) (F : FnP K "_law_on" s_law_on f fd) (h_law_turn : Has P w K mg base "_law_turn" ["_law_one", "_law_two", "_law_three"] 1 FL.sp_turn) : FnOk P w K mg base (L2.CX P w) 2 f fd ["_law_shut", "_law_spot_here"] (upSp K FL.sp_on) :=
  fn_mk (N := ["_law_shut", "_law_spot_here"]) F sc_law_on rfl l_law_on (fun _ _ _ _ _ _ hr => d_law_on T h_law_turn hr) r_law_on
theorem h_law_on {f : Addr} {fd : FuncData} (T : Txt K mg) (F : FnP K "_law_on" s_law_on f fd) (g : mg "_law_on" = some (.ref f)) (h_law_turn : Has P w K mg base "_law_turn" ["_law_one", "_law_two", "_law_three"] 1 FL.sp_turn) : Has P w K mg base "_law_on" ["_law_shut", "_law_spot_here"] 2 FL.sp_on :=
  ⟨f, fd, g, F.kp, F.bindsN fun _ _ _ _ _ _ us hl => match us, hl with | [_, _], _ => rfl, fn_law_on T F h_law_turn⟩
theorem fn_law_rows {f : Addr} {fd : FuncData} (T : Txt K mg) (F : FnP K "_law_rows" s_law_rows f fd) (h_law_shown : Has P w K mg base "_law_shown" ["_law_one"] 1 sp_law_shown) : FnOk P w K mg base (L2.CX P w) 2 f fd ["_law_plot"] (upSp K sp_law_rows) :=
  fn_mk (N := ["_law_plot", "_law_one", "_law_first", "_law_second"]) F sc_law_rows rfl l_law_rows (fun _ _ _ _ _ _ hr => d_law_rows T h_law_shown hr) r_law_rows
theorem h_law_rows {f : Addr} {fd : FuncData} (T : Txt K mg) (F : FnP K "_law_rows" s_law_rows f fd) (g : mg "_law_rows" = some (.ref f)) (h_law_shown : Has P w K mg base "_law_shown" ["_law_one"] 1 sp_law_shown) : Has P w K mg base "_law_rows" ["_law_plot"] 2 sp_law_rows :=
  ⟨f, fd, g, F.kp, F.bindsN fun _ _ _ _ _ _ us hl => match us, hl with | [_], _ => rfl, fn_law_rows T F h_law_shown⟩
theorem fn_plus {f : Addr} {fd : FuncData} (T : Txt K mg) (F : FnP K "plus" s_plus f fd) (h_fraction : Has P w K mg base "fraction" ["top", "bottom"] 2 FL.sp_low) : FnOk P w K mg base (L2.CX P w) 3 f fd ["one", "other"] (upSp K FL.sp_plus) :=
  fn_mk (N := ["one", "other"]) F sc_plus rfl l_plus (fun _ _ _ _ _ _ hr => d_plus T h_fraction hr) r_plus
theorem h_plus {f : Addr} {fd : FuncData} (T : Txt K mg) (F : FnP K "plus" s_plus f fd) (g : mg "plus" = some (.ref f)) (h_fraction : Has P w K mg base "fraction" ["top", "bottom"] 2 FL.sp_low) : Has P w K mg base "plus" ["one", "other"] 3 FL.sp_plus :=
  ⟨f, fd, g, F.kp, F.bindsN fun _ _ _ _ _ _ us hl => match us, hl with | [_, _], _ => rfl, fn_plus T F h_fraction⟩
theorem fn_less {f : Addr} {fd : FuncData} (T : Txt K mg) (F : FnP K "less" s_less f fd) (h_fraction : Has P w K mg base "fraction" ["top", "bottom"] 2 FL.sp_low) : FnOk P w K mg base (L2.CX P w) 3 f fd ["one", "other"] (upSp K FL.sp_less) :=
  fn_mk (N := ["one", "other"]) F sc_less rfl l_less (fun _ _ _ _ _ _ hr => d_less T h_fraction hr) r_less
theorem h_less {f : Addr} {fd : FuncData} (T : Txt K mg) (F : FnP K "less" s_less f fd) (g : mg "less" = some (.ref f)) (h_fraction : Has P w K mg base "fraction" ["top", "bottom"] 2 FL.sp_low) : Has P w K mg base "less" ["one", "other"] 3 FL.sp_less :=
  ⟨f, fd, g, F.kp, F.bindsN fun _ _ _ _ _ _ us hl => match us, hl with | [_, _], _ => rfl, fn_less T F h_fraction⟩
theorem fn_times {f : Addr} {fd : FuncData} (T : Txt K mg) (F : FnP K "times" s_times f fd) (h_fraction : Has P w K mg base "fraction" ["top", "bottom"] 2 FL.sp_low) : FnOk P w K mg base (L2.CX P w) 3 f fd ["one", "other"] (upSp K FL.sp_times) :=
  fn_mk (N := ["one", "other"]) F sc_times rfl l_times (fun _ _ _ _ _ _ hr => d_times T h_fraction hr) r_times
theorem h_times {f : Addr} {fd : FuncData} (T : Txt K mg) (F : FnP K "times" s_times f fd) (g : mg "times" = some (.ref f)) (h_fraction : Has P w K mg base "fraction" ["top", "bottom"] 2 FL.sp_low) : Has P w K mg base "times" ["one", "other"] 3 FL.sp_times :=
  ⟨f, fd, g, F.kp, F.bindsN fun _ _ _ _ _ _ us hl => match us, hl with | [_, _], _ => rfl, fn_times T F h_fraction⟩
theorem fn_over {f : Addr} {fd : FuncData} (T : Txt K mg) (F : FnP K "over" s_over f fd) (h_fraction : Has P w K mg base "fraction" ["top", "bottom"] 2 FL.sp_low) : FnOk P w K mg base (L2.CX P w) 3 f fd ["one", "other"] (upSp K FL.sp_over) :=
  fn_mk (N := ["one", "other"]) F sc_over rfl l_over (fun _ _ _ _ _ _ hr => d_over T h_fraction hr) r_over
theorem h_over {f : Addr} {fd : FuncData} (T : Txt K mg) (F : FnP K "over" s_over f fd) (g : mg "over" = some (.ref f)) (h_fraction : Has P w K mg base "fraction" ["top", "bottom"] 2 FL.sp_low) : Has P w K mg base "over" ["one", "other"] 3 FL.sp_over :=
  ⟨f, fd, g, F.kp, F.bindsN fun _ _ _ _ _ _ us hl => match us, hl with | [_, _], _ => rfl, fn_over T F h_fraction⟩
theorem fn_spot_in {f : Addr} {fd : FuncData} (T : Txt K mg) (F : FnP K "spot_in" s_spot_in f fd) (h_fraction_in : Has P w K mg base "fraction_in" ["word"] 2 sp_fraction_in) : FnOk P w K mg base (L2.CX P w) 3 f fd ["words"] (upSp K sp_spot_in) :=
  fn_mk (N := ["words", "x", "y", "word"]) F sc_spot_in rfl l_spot_in (fun _ _ _ _ _ _ hr => d_spot_in T h_fraction_in hr) r_spot_in
theorem h_spot_in {f : Addr} {fd : FuncData} (T : Txt K mg) (F : FnP K "spot_in" s_spot_in f fd) (g : mg "spot_in" = some (.ref f)) (h_fraction_in : Has P w K mg base "fraction_in" ["word"] 2 sp_fraction_in) : Has P w K mg base "spot_in" ["words"] 3 sp_spot_in :=
  ⟨f, fd, g, F.kp, F.bindsN fun _ _ _ _ _ _ us hl => match us, hl with | [_], _ => rfl, fn_spot_in T F h_fraction_in⟩
theorem fn_wall_rows {f : Addr} {fd : FuncData} (T : Txt K mg) (F : FnP K "wall_rows" s_wall_rows f fd) (h_show_spot : Has P w K mg base "show_spot" ["spot"] 2 sp_show_spot) : FnOk P w K mg base (L2.CX P w) 3 f fd ["plot"] (upSp K sp_wall_rows) :=
  fn_mk (N := ["plot", "first", "second"]) F sc_wall_rows rfl l_wall_rows (fun _ _ _ _ _ _ hr => d_wall_rows T h_show_spot hr) r_wall_rows
theorem h_wall_rows {f : Addr} {fd : FuncData} (T : Txt K mg) (F : FnP K "wall_rows" s_wall_rows f fd) (g : mg "wall_rows" = some (.ref f)) (h_show_spot : Has P w K mg base "show_spot" ["spot"] 2 sp_show_spot) : Has P w K mg base "wall_rows" ["plot"] 3 sp_wall_rows :=
  ⟨f, fd, g, F.kp, F.bindsN fun _ _ _ _ _ _ us hl => match us, hl with | [_], _ => rfl, fn_wall_rows T F h_show_spot⟩
theorem fn_law_made {f : Addr} {fd : FuncData} (T : Txt K mg) (F : FnP K "_law_made" s_law_made f fd) (h_law_spot : Has P w K mg base "_law_spot" ["_law_scale_here", "_law_unit"] 2 FL.sp_uspot) : FnOk P w K mg base (L2.CX P w) 3 f fd ["_law_scale_here", "_law_shuts"] (upSp K FL.sp_made) :=
  fn_mk (N := ["_law_scale_here", "_law_shuts", "_law_first", "_law_second"]) F sc_law_made rfl l_law_made (fun _ _ _ _ _ _ hr => d_law_made T h_law_spot hr) r_law_made
theorem h_law_made {f : Addr} {fd : FuncData} (T : Txt K mg) (F : FnP K "_law_made" s_law_made f fd) (g : mg "_law_made" = some (.ref f)) (h_law_spot : Has P w K mg base "_law_spot" ["_law_scale_here", "_law_unit"] 2 FL.sp_uspot) : Has P w K mg base "_law_made" ["_law_scale_here", "_law_shuts"] 3 FL.sp_made :=
  ⟨f, fd, g, F.kp, F.bindsN fun _ _ _ _ _ _ us hl => match us, hl with | [_, _], _ => rfl, fn_law_made T F h_law_spot⟩
theorem fn_law_fair {f : Addr} {fd : FuncData} (T : Txt K mg) (F : FnP K "_law_fair" s_law_fair f fd) (h_law_turn : Has P w K mg base "_law_turn" ["_law_one", "_law_two", "_law_three"] 1 FL.sp_turn) (h_law_on : Has P w K mg base "_law_on" ["_law_shut", "_law_spot_here"] 2 FL.sp_on) : FnOk P w K mg base (L2.CX P w) 3 f fd ["_law_one", "_law_other"] (upSp K FL.sp_fair) :=
  fn_mk (N := ["_law_one", "_law_other", "_law_shut", "_law_beside", "_law_spot_here", "_law_sides", "_law_others"]) F sc_law_fair rfl l_law_fair (fun _ _ _ _ _ _ hr => d_law_fair T h_law_turn h_law_on hr) r_law_fair
theorem h_law_fair {f : Addr} {fd : FuncData} (T : Txt K mg) (F : FnP K "_law_fair" s_law_fair f fd) (g : mg "_law_fair" = some (.ref f)) (h_law_turn : Has P w K mg base "_law_turn" ["_law_one", "_law_two", "_law_three"] 1 FL.sp_turn) (h_law_on : Has P w K mg base "_law_on" ["_law_shut", "_law_spot_here"] 2 FL.sp_on) : Has P w K mg base "_law_fair" ["_law_one", "_law_other"] 3 FL.sp_fair :=
  ⟨f, fd, g, F.kp, F.bindsN fun _ _ _ _ _ _ us hl => match us, hl with | [_, _], _ => rfl, fn_law_fair T F h_law_turn h_law_on⟩
theorem fn_along {f : Addr} {fd : FuncData} (T : Txt K mg) (F : FnP K "along" s_along f fd) (h_less : Has P w K mg base "less" ["one", "other"] 3 FL.sp_less) : FnOk P w K mg base (L2.CX P w) 4 f fd ["wall"] (upSp K FL.sp_along) :=
  fn_mk (N := ["wall", "first", "second"]) F sc_along rfl l_along (fun _ _ _ _ _ _ hr => d_along T h_less hr) r_along
theorem h_along {f : Addr} {fd : FuncData} (T : Txt K mg) (F : FnP K "along" s_along f fd) (g : mg "along" = some (.ref f)) (h_less : Has P w K mg base "less" ["one", "other"] 3 FL.sp_less) : Has P w K mg base "along" ["wall"] 4 FL.sp_along :=
  ⟨f, fd, g, F.kp, F.bindsN fun _ _ _ _ _ _ us hl => match us, hl with | [_], _ => rfl, fn_along T F h_less⟩
theorem fn_crossed {f : Addr} {fd : FuncData} (T : Txt K mg) (F : FnP K "crossed" s_crossed f fd) (h_less : Has P w K mg base "less" ["one", "other"] 3 FL.sp_less) (h_times : Has P w K mg base "times" ["one", "other"] 3 FL.sp_times) : FnOk P w K mg base (L2.CX P w) 4 f fd ["one", "other"] (upSp K FL.sp_crossed) :=
  fn_mk (N := ["one", "other"]) F sc_crossed rfl l_crossed (fun _ _ _ _ _ _ hr => d_crossed T h_less h_times hr) r_crossed
theorem h_crossed {f : Addr} {fd : FuncData} (T : Txt K mg) (F : FnP K "crossed" s_crossed f fd) (g : mg "crossed" = some (.ref f)) (h_less : Has P w K mg base "less" ["one", "other"] 3 FL.sp_less) (h_times : Has P w K mg base "times" ["one", "other"] 3 FL.sp_times) : Has P w K mg base "crossed" ["one", "other"] 4 FL.sp_crossed :=
  ⟨f, fd, g, F.kp, F.bindsN fun _ _ _ _ _ _ us hl => match us, hl with | [_, _], _ => rfl, fn_crossed T F h_less h_times⟩
theorem fn_wall_in {f : Addr} {fd : FuncData} (T : Txt K mg) (F : FnP K "wall_in" s_wall_in f fd) (h_is_ahead : Has P w K mg base "is_ahead" ["one", "other"] 2 FL.sp_is_ahead) (h_spot_in : Has P w K mg base "spot_in" ["words"] 3 sp_spot_in) : FnOk P w K mg base (L2.CX P w) 4 f fd ["words"] (upSp K sp_wall_in) :=
  fn_mk (N := ["words", "first", "second"]) F sc_wall_in rfl l_wall_in (fun _ _ _ _ _ _ hr => d_wall_in T h_is_ahead h_spot_in hr) r_wall_in
theorem h_wall_in {f : Addr} {fd : FuncData} (T : Txt K mg) (F : FnP K "wall_in" s_wall_in f fd) (g : mg "wall_in" = some (.ref f)) (h_is_ahead : Has P w K mg base "is_ahead" ["one", "other"] 2 FL.sp_is_ahead) (h_spot_in : Has P w K mg base "spot_in" ["words"] 3 sp_spot_in) : Has P w K mg base "wall_in" ["words"] 4 sp_wall_in :=
  ⟨f, fd, g, F.kp, F.bindsN fun _ _ _ _ _ _ us hl => match us, hl with | [_], _ => rfl, fn_wall_in T F h_is_ahead h_spot_in⟩
theorem fn_question_in {f : Addr} {fd : FuncData} (T : Txt K mg) (F : FnP K "question_in" s_question_in f fd) (h_spot_in : Has P w K mg base "spot_in" ["words"] 3 sp_spot_in) : FnOk P w K mg base (L2.CX P w) 4 f fd ["words"] (upSp K sp_question_in) :=
  fn_mk (N := ["words"]) F sc_question_in rfl l_question_in (fun _ _ _ _ _ _ hr => d_question_in T h_spot_in hr) r_question_in
theorem h_question_in {f : Addr} {fd : FuncData} (T : Txt K mg) (F : FnP K "question_in" s_question_in f fd) (g : mg "question_in" = some (.ref f)) (h_spot_in : Has P w K mg base "spot_in" ["words"] 3 sp_spot_in) : Has P w K mg base "question_in" ["words"] 4 sp_question_in :=
  ⟨f, fd, g, F.kp, F.bindsN fun _ _ _ _ _ _ us hl => match us, hl with | [_], _ => rfl, fn_question_in T F h_spot_in⟩
theorem fn_show_questions {f : Addr} {fd : FuncData} (T : Txt K mg) (F : FnP K "show_questions" s_show_questions f fd) (h_wall_rows : Has P w K mg base "wall_rows" ["plot"] 3 sp_wall_rows) (h_show_spot : Has P w K mg base "show_spot" ["spot"] 2 sp_show_spot) : FnOk P w K mg base (L2.CX P w) 4 f fd ["plot", "spots"] (upSp K sp_show_questions) :=
  fn_mk (N := ["plot", "spots", "spot"]) F sc_show_questions rfl l_show_questions (fun _ _ _ _ _ _ hr => d_show_questions T h_wall_rows h_show_spot hr) r_show_questions
theorem h_show_questions {f : Addr} {fd : FuncData} (T : Txt K mg) (F : FnP K "show_questions" s_show_questions f fd) (g : mg "show_questions" = some (.ref f)) (h_wall_rows : Has P w K mg base "wall_rows" ["plot"] 3 sp_wall_rows) (h_show_spot : Has P w K mg base "show_spot" ["spot"] 2 sp_show_spot) : Has P w K mg base "show_questions" ["plot", "spots"] 4 sp_show_questions :=
  ⟨f, fd, g, F.kp, F.bindsN fun _ _ _ _ _ _ us hl => match us, hl with | [_, _], _ => rfl, fn_show_questions T F h_wall_rows h_show_spot⟩
theorem fn_law_shuts_here {f : Addr} {fd : FuncData} (T : Txt K mg) (F : FnP K "_law_shuts_here" s_law_shuts_here f fd) (h_law_take : Has P w K mg base "_law_take" ["_law_row", "_law_base"] 1 FL.sp_take) (h_law_fair : Has P w K mg base "_law_fair" ["_law_one", "_law_other"] 3 FL.sp_fair) : FnOk P w K mg base (L2.CX P w) 4 f fd ["_law_row", "_law_most", "_law_size"] (upSp K FL.sp_shuts_here) :=
  fn_mk (N := ["_law_row", "_law_most", "_law_size", "_law_shuts", "_law_turn_here", "_law_one", "_law_other", "_law_shut", "_law_beside"]) F sc_law_shuts_here rfl l_law_shuts_here (fun _ _ _ _ _ _ hr => d_law_shuts_here T h_law_take h_law_fair hr) r_law_shuts_here
theorem h_law_shuts_here {f : Addr} {fd : FuncData} (T : Txt K mg) (F : FnP K "_law_shuts_here" s_law_shuts_here f fd) (g : mg "_law_shuts_here" = some (.ref f)) (h_law_take : Has P w K mg base "_law_take" ["_law_row", "_law_base"] 1 FL.sp_take) (h_law_fair : Has P w K mg base "_law_fair" ["_law_one", "_law_other"] 3 FL.sp_fair) : Has P w K mg base "_law_shuts_here" ["_law_row", "_law_most", "_law_size"] 4 FL.sp_shuts_here :=
  ⟨f, fd, g, F.kp, F.bindsN fun _ _ _ _ _ _ us hl => match us, hl with | [_, _, _], _ => rfl, fn_law_shuts_here T F h_law_take h_law_fair⟩
theorem fn_leaning {f : Addr} {fd : FuncData} (T : Txt K mg) (F : FnP K "leaning" s_leaning f fd) (h_crossed : Has P w K mg base "crossed" ["one", "other"] 4 FL.sp_crossed) : FnOk P w K mg base (L2.CX P w) 5 f fd ["one", "other"] (upSp K FL.sp_leaning) :=
  fn_mk (N := ["one", "other", "found"]) F sc_leaning rfl l_leaning (fun _ _ _ _ _ _ hr => d_leaning T h_crossed hr) r_leaning
theorem h_leaning {f : Addr} {fd : FuncData} (T : Txt K mg) (F : FnP K "leaning" s_leaning f fd) (g : mg "leaning" = some (.ref f)) (h_crossed : Has P w K mg base "crossed" ["one", "other"] 4 FL.sp_crossed) : Has P w K mg base "leaning" ["one", "other"] 5 FL.sp_leaning :=
  ⟨f, fd, g, F.kp, F.bindsN fun _ _ _ _ _ _ us hl => match us, hl with | [_, _], _ => rfl, fn_leaning T F h_crossed⟩
theorem fn_spot_of_lines {f : Addr} {fd : FuncData} (T : Txt K mg) (F : FnP K "spot_of_lines" s_spot_of_lines f fd) (h_plus : Has P w K mg base "plus" ["one", "other"] 3 FL.sp_plus) (h_times : Has P w K mg base "times" ["one", "other"] 3 FL.sp_times) (h_over : Has P w K mg base "over" ["one", "other"] 3 FL.sp_over) (h_crossed : Has P w K mg base "crossed" ["one", "other"] 4 FL.sp_crossed) (h_along : Has P w K mg base "along" ["wall"] 4 FL.sp_along) : FnOk P w K mg base (L2.CX P w) 5 f fd ["one", "other"] (upSp K FL.sp_spot_of_lines) :=
  fn_mk (N := ["one", "other", "far", "part"]) F sc_spot_of_lines rfl l_spot_of_lines (fun _ _ _ _ _ _ hr => d_spot_of_lines T h_plus h_times h_over h_crossed h_along hr) r_spot_of_lines
theorem h_spot_of_lines {f : Addr} {fd : FuncData} (T : Txt K mg) (F : FnP K "spot_of_lines" s_spot_of_lines f fd) (g : mg "spot_of_lines" = some (.ref f)) (h_plus : Has P w K mg base "plus" ["one", "other"] 3 FL.sp_plus) (h_times : Has P w K mg base "times" ["one", "other"] 3 FL.sp_times) (h_over : Has P w K mg base "over" ["one", "other"] 3 FL.sp_over) (h_crossed : Has P w K mg base "crossed" ["one", "other"] 4 FL.sp_crossed) (h_along : Has P w K mg base "along" ["wall"] 4 FL.sp_along) : Has P w K mg base "spot_of_lines" ["one", "other"] 5 FL.sp_spot_of_lines :=
  ⟨f, fd, g, F.kp, F.bindsN fun _ _ _ _ _ _ us hl => match us, hl with | [_, _], _ => rfl, fn_spot_of_lines T F h_plus h_times h_over h_crossed h_along⟩
theorem fn_side_of {f : Addr} {fd : FuncData} (T : Txt K mg) (F : FnP K "side_of" s_side_of f fd) (h_leaning : Has P w K mg base "leaning" ["one", "other"] 5 FL.sp_leaning) (h_along : Has P w K mg base "along" ["wall"] 4 FL.sp_along) : FnOk P w K mg base (L2.CX P w) 6 f fd ["wall", "spot"] (upSp K FL.sp_side_of) :=
  fn_mk (N := ["wall", "spot"]) F sc_side_of rfl l_side_of (fun _ _ _ _ _ _ hr => d_side_of T h_leaning h_along hr) r_side_of
theorem h_side_of {f : Addr} {fd : FuncData} (T : Txt K mg) (F : FnP K "side_of" s_side_of f fd) (g : mg "side_of" = some (.ref f)) (h_leaning : Has P w K mg base "leaning" ["one", "other"] 5 FL.sp_leaning) (h_along : Has P w K mg base "along" ["wall"] 4 FL.sp_along) : Has P w K mg base "side_of" ["wall", "spot"] 6 FL.sp_side_of :=
  ⟨f, fd, g, F.kp, F.bindsN fun _ _ _ _ _ _ us hl => match us, hl with | [_, _], _ => rfl, fn_side_of T F h_leaning h_along⟩
theorem fn_lies_on {f : Addr} {fd : FuncData} (T : Txt K mg) (F : FnP K "lies_on" s_lies_on f fd) (h_side_of : Has P w K mg base "side_of" ["wall", "spot"] 6 FL.sp_side_of) (h_is_ahead : Has P w K mg base "is_ahead" ["one", "other"] 2 FL.sp_is_ahead) : FnOk P w K mg base (L2.CX P w) 7 f fd ["wall", "spot"] (upSp K FL.sp_lies_on) :=
  fn_mk (N := ["wall", "spot", "first", "second"]) F sc_lies_on rfl l_lies_on (fun _ _ _ _ _ _ hr => d_lies_on T h_side_of h_is_ahead hr) r_lies_on
theorem h_lies_on {f : Addr} {fd : FuncData} (T : Txt K mg) (F : FnP K "lies_on" s_lies_on f fd) (g : mg "lies_on" = some (.ref f)) (h_side_of : Has P w K mg base "side_of" ["wall", "spot"] 6 FL.sp_side_of) (h_is_ahead : Has P w K mg base "is_ahead" ["one", "other"] 2 FL.sp_is_ahead) : Has P w K mg base "lies_on" ["wall", "spot"] 7 FL.sp_lies_on :=
  ⟨f, fd, g, F.kp, F.bindsN fun _ _ _ _ _ _ us hl => match us, hl with | [_, _], _ => rfl, fn_lies_on T F h_side_of h_is_ahead⟩
theorem fn_meeting_in_line {f : Addr} {fd : FuncData} (T : Txt K mg) (F : FnP K "meeting_in_line" s_meeting_in_line f fd) (h_is_ahead : Has P w K mg base "is_ahead" ["one", "other"] 2 FL.sp_is_ahead) (h_side_of : Has P w K mg base "side_of" ["wall", "spot"] 6 FL.sp_side_of) : FnOk P w K mg base (L2.CX P w) 7 f fd ["one", "other"] (upSp K FL.sp_meeting_in_line) :=
  fn_mk (N := ["one", "other", "first", "second"]) F sc_meeting_in_line rfl l_meeting_in_line (fun _ _ _ _ _ _ hr => d_meeting_in_line T h_is_ahead h_side_of hr) r_meeting_in_line
theorem h_meeting_in_line {f : Addr} {fd : FuncData} (T : Txt K mg) (F : FnP K "meeting_in_line" s_meeting_in_line f fd) (g : mg "meeting_in_line" = some (.ref f)) (h_is_ahead : Has P w K mg base "is_ahead" ["one", "other"] 2 FL.sp_is_ahead) (h_side_of : Has P w K mg base "side_of" ["wall", "spot"] 6 FL.sp_side_of) : Has P w K mg base "meeting_in_line" ["one", "other"] 7 FL.sp_meeting_in_line :=
  ⟨f, fd, g, F.kp, F.bindsN fun _ _ _ _ _ _ us hl => match us, hl with | [_, _], _ => rfl, fn_meeting_in_line T F h_is_ahead h_side_of⟩
theorem fn_meeting {f : Addr} {fd : FuncData} (T : Txt K mg) (F : FnP K "meeting" s_meeting f fd) (h_lies_on : Has P w K mg base "lies_on" ["wall", "spot"] 7 FL.sp_lies_on) (h_spot_of_lines : Has P w K mg base "spot_of_lines" ["one", "other"] 5 FL.sp_spot_of_lines) (h_leaning : Has P w K mg base "leaning" ["one", "other"] 5 FL.sp_leaning) (h_along : Has P w K mg base "along" ["wall"] 4 FL.sp_along) (h_meeting_in_line : Has P w K mg base "meeting_in_line" ["one", "other"] 7 FL.sp_meeting_in_line) : FnOk P w K mg base (L2.CX P w) 8 f fd ["one", "other"] (upSp K FL.sp_meeting) :=
  fn_mk (N := ["one", "other", "spot"]) F sc_meeting rfl l_meeting (fun _ _ _ _ _ _ hr => d_meeting T h_lies_on h_spot_of_lines h_leaning h_along h_meeting_in_line hr) r_meeting
theorem h_meeting {f : Addr} {fd : FuncData} (T : Txt K mg) (F : FnP K "meeting" s_meeting f fd) (g : mg "meeting" = some (.ref f)) (h_lies_on : Has P w K mg base "lies_on" ["wall", "spot"] 7 FL.sp_lies_on) (h_spot_of_lines : Has P w K mg base "spot_of_lines" ["one", "other"] 5 FL.sp_spot_of_lines) (h_leaning : Has P w K mg base "leaning" ["one", "other"] 5 FL.sp_leaning) (h_along : Has P w K mg base "along" ["wall"] 4 FL.sp_along) (h_meeting_in_line : Has P w K mg base "meeting_in_line" ["one", "other"] 7 FL.sp_meeting_in_line) : Has P w K mg base "meeting" ["one", "other"] 8 FL.sp_meeting :=
  ⟨f, fd, g, F.kp, F.bindsN fun _ _ _ _ _ _ us hl => match us, hl with | [_, _], _ => rfl, fn_meeting T F h_lies_on h_spot_of_lines h_leaning h_along h_meeting_in_line⟩
theorem fn_is_fair {f : Addr} {fd : FuncData} (T : Txt K mg) (F : FnP K "is_fair" s_is_fair f fd) (h_meeting : Has P w K mg base "meeting" ["one", "other"] 8 FL.sp_meeting) : FnOk P w K mg base (L2.CX P w) 9 f fd ["one", "other"] (upSp K FL.sp_is_fair) :=
  fn_mk (N := ["one", "other", "found"]) F sc_is_fair rfl l_is_fair (fun _ _ _ _ _ _ hr => d_is_fair T h_meeting hr) r_is_fair
theorem h_is_fair {f : Addr} {fd : FuncData} (T : Txt K mg) (F : FnP K "is_fair" s_is_fair f fd) (g : mg "is_fair" = some (.ref f)) (h_meeting : Has P w K mg base "meeting" ["one", "other"] 8 FL.sp_meeting) : Has P w K mg base "is_fair" ["one", "other"] 9 FL.sp_is_fair :=
  ⟨f, fd, g, F.kp, F.bindsN fun _ _ _ _ _ _ us hl => match us, hl with | [_, _], _ => rfl, fn_is_fair T F h_meeting⟩
theorem fn_unfair_with {f : Addr} {fd : FuncData} (T : Txt K mg) (F : FnP K "unfair_with" s_unfair_with f fd) (h_is_fair : Has P w K mg base "is_fair" ["one", "other"] 9 FL.sp_is_fair) : FnOk P w K mg base (L2.CX P w) 10 f fd ["walls", "wall"] (upSp K FL.sp_unfair_with) :=
  fn_mk (N := ["walls", "wall", "number", "other"]) F sc_unfair_with rfl l_unfair_with (fun _ _ _ _ _ _ hr => d_unfair_with T h_is_fair hr) r_unfair_with
theorem h_unfair_with {f : Addr} {fd : FuncData} (T : Txt K mg) (F : FnP K "unfair_with" s_unfair_with f fd) (g : mg "unfair_with" = some (.ref f)) (h_is_fair : Has P w K mg base "is_fair" ["one", "other"] 9 FL.sp_is_fair) : Has P w K mg base "unfair_with" ["walls", "wall"] 10 FL.sp_unfair_with :=
  ⟨f, fd, g, F.kp, F.bindsN fun _ _ _ _ _ _ us hl => match us, hl with | [_, _], _ => rfl, fn_unfair_with T F h_is_fair⟩
theorem fn_put_read {f : Addr} {fd : FuncData} (T : Txt K mg) (F : FnP K "put_read" s_put_read f fd) (h_unfair_with : Has P w K mg base "unfair_with" ["walls", "wall"] 10 FL.sp_unfair_with) (hx_NoText : HasX P w K mg base "NoText" 1 ["row"]) : FnOk P w K mg base (L2.CX P w) 11 f fd ["walls", "wall", "row"] (upSp K sp_put_read) :=
  fn_mk (N := ["walls", "wall", "row"]) F sc_put_read rfl l_put_read (fun _ _ _ _ _ _ hr => d_put_read T h_unfair_with hx_NoText hr) r_put_read
theorem h_put_read {f : Addr} {fd : FuncData} (T : Txt K mg) (F : FnP K "put_read" s_put_read f fd) (g : mg "put_read" = some (.ref f)) (h_unfair_with : Has P w K mg base "unfair_with" ["walls", "wall"] 10 FL.sp_unfair_with) (hx_NoText : HasX P w K mg base "NoText" 1 ["row"]) : Has P w K mg base "put_read" ["walls", "wall", "row"] 11 sp_put_read :=
  ⟨f, fd, g, F.kp, F.bindsN fun _ _ _ _ _ _ us hl => match us, hl with | [_, _, _], _ => rfl, fn_put_read T F h_unfair_with hx_NoText⟩
theorem fn_read_questions {f : Addr} {fd : FuncData} (T : Txt K mg) (F : FnP K "read_questions" s_read_questions f fd) (h_rows_in : Has P w K mg base "rows_in" ["text"] 1 sp_rows_in) (h_put_read : Has P w K mg base "put_read" ["walls", "wall", "row"] 11 sp_put_read) (h_wall_in : Has P w K mg base "wall_in" ["words"] 4 sp_wall_in) (h_question_in : Has P w K mg base "question_in" ["words"] 4 sp_question_in) (hx_NoText : HasX P w K mg base "NoText" 1 ["row"]) : FnOk P w K mg base (L2.CX P w) 12 f fd ["text"] (upSp K sp_read_questions) :=
  fn_mk (N := ["text", "walls", "spots", "row", "line", "words", "spot"]) F sc_read_questions rfl l_read_questions (fun _ _ _ _ _ _ hr => d_read_questions T h_rows_in h_put_read h_wall_in h_question_in hx_NoText hr) r_read_questions
theorem h_read_questions {f : Addr} {fd : FuncData} (T : Txt K mg) (F : FnP K "read_questions" s_read_questions f fd) (g : mg "read_questions" = some (.ref f)) (h_rows_in : Has P w K mg base "rows_in" ["text"] 1 sp_rows_in) (h_put_read : Has P w K mg base "put_read" ["walls", "wall", "row"] 11 sp_put_read) (h_wall_in : Has P w K mg base "wall_in" ["words"] 4 sp_wall_in) (h_question_in : Has P w K mg base "question_in" ["words"] 4 sp_question_in) (hx_NoText : HasX P w K mg base "NoText" 1 ["row"]) : Has P w K mg base "read_questions" ["text"] 12 sp_read_questions :=
  ⟨f, fd, g, F.kp, F.bindsN fun _ _ _ _ _ _ us hl => match us, hl with | [_], _ => rfl, fn_read_questions T F h_rows_in h_put_read h_wall_in h_question_in hx_NoText⟩
theorem fn_law {f : Addr} {fd : FuncData} (T : Txt K mg) (F : FnP K "law" s_law f fd) (h_show_answers : Has P w K mg base "show_answers" ["answers"] 1 sp_show_answers) (h_law_take : Has P w K mg base "_law_take" ["_law_row", "_law_base"] 1 FL.sp_take) (h_read_questions : Has P w K mg base "read_questions" ["text"] 12 sp_read_questions) (h_law_rows : Has P w K mg base "_law_rows" ["_law_plot"] 2 sp_law_rows) (h_show_questions : Has P w K mg base "show_questions" ["plot", "spots"] 4 sp_show_questions) (h_law_shown : Has P w K mg base "_law_shown" ["_law_one"] 1 sp_law_shown) (h_law_number : Has P w K mg base "_law_number" ["_law_row"] 2 sp_law_number) (h_law_made : Has P w K mg base "_law_made" ["_law_scale_here", "_law_shuts"] 3 FL.sp_made) (h_law_shuts_here : Has P w K mg base "_law_shuts_here" ["_law_row", "_law_most", "_law_size"] 4 FL.sp_shuts_here) (h_law_scale : Has P w K mg base "_law_scale" ["_law_row"] 2 sp_law_scale) (h_law_cell_at : Has P w K mg base "_law_cell_at" ["_law_script", "_law_k"] 1 FL.sp_cell_at) : FnOk P w K mg base (L2.CX P w) 13 f fd ["_law_script"] (upSp K spLaw) :=
  fn_mk (N := ["_law_script", "_law_k", "_law_row", "_law_scale_here", "_law_plot", "_law_spots", "_law_again", "_law_asks", "_law_x", "_law_y", "_law_handed", "_law_text", "_law_found", "_law_answers", "_law_kept", "_law_due", "_law_word", "_law_number_here"]) F sc_law rfl l_law (fun _ _ _ _ _ _ hr => d_law T h_show_answers h_law_take h_read_questions h_law_rows h_show_questions h_law_shown h_law_number h_law_made h_law_shuts_here h_law_scale h_law_cell_at hr) r_law
theorem hx_NoText' {f : Addr} {fd : FuncData} (F : FnM K "__init__" "NoText.__init__" s_NoText_init f fd) (g : mg "NoText" = some (.ref (He.ga K "NoText"))) (fx : XinC K (He.ga K "NoText") f ["row"]) : HasX P w K mg base "NoText" 1 ["row"] :=
  ⟨f, fd, ["self", "row"], g, fx.o, fx.i, fx.t, F.bindsN fun _ _ _ _ _ _ us hl => match us, hl with | [_, _], _ => rfl, fn_xi1 (k := 0) F sc_NoText_init fx.o (fx.n _ (by decide)) (fun _ _ _ _ _ _ => dx_NoText)⟩
end
theorem facts {P : Program} {w : World} {K : PySem.W.Frag} {h : Heap} {mg : Str → Option Value} {f : Addr} (X : K.In h) (G : h.Ns mainGlobals mg) (hfa : mg ("law" : Str) = some (.ref f)) (c0 : SaysK fa fn ["tuple", "list"] K) (ct0 : ((tupsB [] K && (excsB [] K && cfunsB [] K)) && xinB [("NoText", ["row"])] K) = true) :
    ∃ fd : FuncData, (∀ (s : Shared) (v : Value), BindsTo s fd ⟨[v], []⟩ [("_law_script", v)]) ∧ ∀ base : Heap, K.In base → base.Ns mainGlobals mg → FnOk P w K mg base (L2.CX P w) 13 f fd ["_law_script"] (upSp K spLaw) := by
  have c := c0.says
  obtain ⟨ct, cx⟩ := Bool.and_eq_true_iff.mp ct0
  obtain ⟨fd_divisor, F_divisor⟩ := c.def_ 0 (d := mkD "divisor" s_divisor) rfl
  have g_divisor := He.glo_ok X G (c.fact 0 (f := .glo "divisor") rfl)
  obtain ⟨fd_is_less, F_is_less⟩ := c.def_ 1 (d := mkD "is_less" s_is_less) rfl
  have g_is_less := He.glo_ok X G (c.fact 1 (f := .glo "is_less") rfl)
  obtain ⟨fd_show_fraction, F_show_fraction⟩ := c.def_ 2 (d := mkD "show_fraction" s_show_fraction) rfl
  have g_show_fraction := He.glo_ok X G (c.fact 2 (f := .glo "show_fraction") rfl)
  obtain ⟨fd_is_whole, F_is_whole⟩ := c.def_ 3 (d := mkD "is_whole" s_is_whole) rfl
  have g_is_whole := He.glo_ok X G (c.fact 3 (f := .glo "is_whole") rfl)
  obtain ⟨fd_rows_in, F_rows_in⟩ := c.def_ 4 (d := mkD "rows_in" s_rows_in) rfl
  have g_rows_in := He.glo_ok X G (c.fact 4 (f := .glo "rows_in") rfl)
  obtain ⟨fd_show_answers, F_show_answers⟩ := c.def_ 5 (d := mkD "show_answers" s_show_answers) rfl
  have g_show_answers := He.glo_ok X G (c.fact 5 (f := .glo "show_answers") rfl)
  obtain ⟨fd_law_cell_at, F_law_cell_at⟩ := c.def_ 6 (d := mkD "_law_cell_at" s_law_cell_at) rfl
  have g_law_cell_at := He.glo_ok X G (c.fact 6 (f := .glo "_law_cell_at") rfl)
  obtain ⟨fd_law_take, F_law_take⟩ := c.def_ 7 (d := mkD "_law_take" s_law_take) rfl
  have g_law_take := He.glo_ok X G (c.fact 7 (f := .glo "_law_take") rfl)
  obtain ⟨fd_law_low, F_law_low⟩ := c.def_ 8 (d := mkD "_law_low" s_law_low) rfl
  have g_law_low := He.glo_ok X G (c.fact 8 (f := .glo "_law_low") rfl)
  obtain ⟨fd_law_turn, F_law_turn⟩ := c.def_ 9 (d := mkD "_law_turn" s_law_turn) rfl
  have g_law_turn := He.glo_ok X G (c.fact 9 (f := .glo "_law_turn") rfl)
  obtain ⟨fd_law_shown, F_law_shown⟩ := c.def_ 10 (d := mkD "_law_shown" s_law_shown) rfl
  have g_law_shown := He.glo_ok X G (c.fact 10 (f := .glo "_law_shown") rfl)
  obtain ⟨fd_fraction, F_fraction⟩ := c.def_ 11 (d := mkD "fraction" s_fraction) rfl
  have g_fraction := He.glo_ok X G (c.fact 11 (f := .glo "fraction") rfl)
  obtain ⟨fd_is_ahead, F_is_ahead⟩ := c.def_ 12 (d := mkD "is_ahead" s_is_ahead) rfl
  have g_is_ahead := He.glo_ok X G (c.fact 12 (f := .glo "is_ahead") rfl)
  obtain ⟨fd_fraction_in, F_fraction_in⟩ := c.def_ 13 (d := mkD "fraction_in" s_fraction_in) rfl
  have g_fraction_in := He.glo_ok X G (c.fact 13 (f := .glo "fraction_in") rfl)
  obtain ⟨fd_show_spot, F_show_spot⟩ := c.def_ 14 (d := mkD "show_spot" s_show_spot) rfl
  have g_show_spot := He.glo_ok X G (c.fact 14 (f := .glo "show_spot") rfl)
  obtain ⟨fd_law_number, F_law_number⟩ := c.def_ 15 (d := mkD "_law_number" s_law_number) rfl
  have g_law_number := He.glo_ok X G (c.fact 15 (f := .glo "_law_number") rfl)
  obtain ⟨fd_law_scale, F_law_scale⟩ := c.def_ 16 (d := mkD "_law_scale" s_law_scale) rfl
  have g_law_scale := He.glo_ok X G (c.fact 16 (f := .glo "_law_scale") rfl)
  obtain ⟨fd_law_spot, F_law_spot⟩ := c.def_ 17 (d := mkD "_law_spot" s_law_spot) rfl
  have g_law_spot := He.glo_ok X G (c.fact 17 (f := .glo "_law_spot") rfl)
  obtain ⟨fd_law_on, F_law_on⟩ := c.def_ 18 (d := mkD "_law_on" s_law_on) rfl
  have g_law_on := He.glo_ok X G (c.fact 18 (f := .glo "_law_on") rfl)
  obtain ⟨fd_law_rows, F_law_rows⟩ := c.def_ 19 (d := mkD "_law_rows" s_law_rows) rfl
  have g_law_rows := He.glo_ok X G (c.fact 19 (f := .glo "_law_rows") rfl)
  obtain ⟨fd_plus, F_plus⟩ := c.def_ 20 (d := mkD "plus" s_plus) rfl
  have g_plus := He.glo_ok X G (c.fact 20 (f := .glo "plus") rfl)
  obtain ⟨fd_less, F_less⟩ := c.def_ 21 (d := mkD "less" s_less) rfl
  have g_less := He.glo_ok X G (c.fact 21 (f := .glo "less") rfl)
  obtain ⟨fd_times, F_times⟩ := c.def_ 22 (d := mkD "times" s_times) rfl
  have g_times := He.glo_ok X G (c.fact 22 (f := .glo "times") rfl)
  obtain ⟨fd_over, F_over⟩ := c.def_ 23 (d := mkD "over" s_over) rfl
  have g_over := He.glo_ok X G (c.fact 23 (f := .glo "over") rfl)
  obtain ⟨fd_spot_in, F_spot_in⟩ := c.def_ 24 (d := mkD "spot_in" s_spot_in) rfl
  have g_spot_in := He.glo_ok X G (c.fact 24 (f := .glo "spot_in") rfl)
  obtain ⟨fd_wall_rows, F_wall_rows⟩ := c.def_ 25 (d := mkD "wall_rows" s_wall_rows) rfl
  have g_wall_rows := He.glo_ok X G (c.fact 25 (f := .glo "wall_rows") rfl)
  obtain ⟨fd_law_made, F_law_made⟩ := c.def_ 26 (d := mkD "_law_made" s_law_made) rfl
  have g_law_made := He.glo_ok X G (c.fact 26 (f := .glo "_law_made") rfl)
  obtain ⟨fd_law_fair, F_law_fair⟩ := c.def_ 27 (d := mkD "_law_fair" s_law_fair) rfl
  have g_law_fair := He.glo_ok X G (c.fact 27 (f := .glo "_law_fair") rfl)
  obtain ⟨fd_along, F_along⟩ := c.def_ 28 (d := mkD "along" s_along) rfl
  have g_along := He.glo_ok X G (c.fact 28 (f := .glo "along") rfl)
  obtain ⟨fd_crossed, F_crossed⟩ := c.def_ 29 (d := mkD "crossed" s_crossed) rfl
  have g_crossed := He.glo_ok X G (c.fact 29 (f := .glo "crossed") rfl)
  obtain ⟨fd_wall_in, F_wall_in⟩ := c.def_ 30 (d := mkD "wall_in" s_wall_in) rfl
  have g_wall_in := He.glo_ok X G (c.fact 30 (f := .glo "wall_in") rfl)
  obtain ⟨fd_question_in, F_question_in⟩ := c.def_ 31 (d := mkD "question_in" s_question_in) rfl
  have g_question_in := He.glo_ok X G (c.fact 31 (f := .glo "question_in") rfl)
  obtain ⟨fd_show_questions, F_show_questions⟩ := c.def_ 32 (d := mkD "show_questions" s_show_questions) rfl
  have g_show_questions := He.glo_ok X G (c.fact 32 (f := .glo "show_questions") rfl)
  obtain ⟨fd_law_shuts_here, F_law_shuts_here⟩ := c.def_ 33 (d := mkD "_law_shuts_here" s_law_shuts_here) rfl
  have g_law_shuts_here := He.glo_ok X G (c.fact 33 (f := .glo "_law_shuts_here") rfl)
  obtain ⟨fd_leaning, F_leaning⟩ := c.def_ 34 (d := mkD "leaning" s_leaning) rfl
  have g_leaning := He.glo_ok X G (c.fact 34 (f := .glo "leaning") rfl)
  obtain ⟨fd_spot_of_lines, F_spot_of_lines⟩ := c.def_ 35 (d := mkD "spot_of_lines" s_spot_of_lines) rfl
  have g_spot_of_lines := He.glo_ok X G (c.fact 35 (f := .glo "spot_of_lines") rfl)
  obtain ⟨fd_side_of, F_side_of⟩ := c.def_ 36 (d := mkD "side_of" s_side_of) rfl
  have g_side_of := He.glo_ok X G (c.fact 36 (f := .glo "side_of") rfl)
  obtain ⟨fd_lies_on, F_lies_on⟩ := c.def_ 37 (d := mkD "lies_on" s_lies_on) rfl
  have g_lies_on := He.glo_ok X G (c.fact 37 (f := .glo "lies_on") rfl)
  obtain ⟨fd_meeting_in_line, F_meeting_in_line⟩ := c.def_ 38 (d := mkD "meeting_in_line" s_meeting_in_line) rfl
  have g_meeting_in_line := He.glo_ok X G (c.fact 38 (f := .glo "meeting_in_line") rfl)
  obtain ⟨fd_meeting, F_meeting⟩ := c.def_ 39 (d := mkD "meeting" s_meeting) rfl
  have g_meeting := He.glo_ok X G (c.fact 39 (f := .glo "meeting") rfl)
  obtain ⟨fd_is_fair, F_is_fair⟩ := c.def_ 40 (d := mkD "is_fair" s_is_fair) rfl
  have g_is_fair := He.glo_ok X G (c.fact 40 (f := .glo "is_fair") rfl)
  obtain ⟨fd_unfair_with, F_unfair_with⟩ := c.def_ 41 (d := mkD "unfair_with" s_unfair_with) rfl
  have g_unfair_with := He.glo_ok X G (c.fact 41 (f := .glo "unfair_with") rfl)
  obtain ⟨fd_put_read, F_put_read⟩ := c.def_ 42 (d := mkD "put_read" s_put_read) rfl
  have g_put_read := He.glo_ok X G (c.fact 42 (f := .glo "put_read") rfl)
  obtain ⟨fd_read_questions, F_read_questions⟩ := c.def_ 43 (d := mkD "read_questions" s_read_questions) rfl
  have g_read_questions := He.glo_ok X G (c.fact 43 (f := .glo "read_questions") rfl)
  obtain ⟨fd_law, F_law⟩ := c.def_ 44 (d := mkD "law" s_law) rfl
  have g_law := He.glo_ok X G (c.fact 44 (f := .glo "law") rfl)
  have T : Txt K mg := { f_abs := He.free_ok X G (c.fact 45 (f := .free "abs") rfl), f_all := He.free_ok X G (c.fact 46 (f := .free "all") rfl), f_enumerate := He.free_ok X G (c.fact 47 (f := .free "enumerate") rfl), f_int := He.free_ok X G (c.fact 48 (f := .free "int") rfl), f_isinstance := He.free_ok X G (c.fact 49 (f := .free "isinstance") rfl), f_len := He.free_ok X G (c.fact 50 (f := .free "len") rfl), f_list := He.free_ok X G (c.fact 51 (f := .free "list") rfl), f_max := He.free_ok X G (c.fact 52 (f := .free "max") rfl), f_min := He.free_ok X G (c.fact 53 (f := .free "min") rfl), f_range := He.free_ok X G (c.fact 54 (f := .free "range") rfl), f_str := He.free_ok X G (c.fact 55 (f := .free "str") rfl), f_tuple := He.free_ok X G (c.fact 56 (f := .free "tuple") rfl), k_tuple := c0.kit "tuple" (by decide), k_list := c0.kit "list" (by decide), c_FIGURES := He.str_ok X G (c.fact 57 (f := .str "FIGURES" "0123456789") rfl), c_MOST_FIGURES := He.int_ok X G (c.fact 58 (f := .int "MOST_FIGURES" 30) rfl), c_MOST_WALLS := He.int_ok X G (c.fact 59 (f := .int "MOST_WALLS" 40) rfl), g_NoText := He.glo_ok X G (c.fact 60 (f := .glo "NoText") rfl) }
  have e := hfa.symm.trans g_law
  cases e
  have b := FunD.bindsA (ps := ["_law_script"]) F_law fun _ _ _ _ _ _ us hl => match us, hl with | [_], _ => rfl
  refine ⟨fd_law, fun s v => b s [v] rfl, fun base _ _ => ?_⟩
  obtain ⟨fx_NoText, Fx_NoText⟩ := c.def_ 45 (d := mkM "NoText" "__init__" "NoText.__init__" s_NoText_init) rfl
  have Hx_NoText := hx_NoText' (P := P) (w := w) (base := base) Fx_NoText T.g_NoText (xinB_ok cx ("NoText", ["row"]) (by decide))
  have H_divisor := h_divisor (P := P) (w := w) (base := base) T F_divisor g_divisor 
  have H_is_less := h_is_less (P := P) (w := w) (base := base) T F_is_less g_is_less 
  have H_show_fraction := h_show_fraction (P := P) (w := w) (base := base) T F_show_fraction g_show_fraction 
  have H_is_whole := h_is_whole (P := P) (w := w) (base := base) T F_is_whole g_is_whole 
  have H_rows_in := h_rows_in (P := P) (w := w) (base := base) T F_rows_in g_rows_in 
  have H_show_answers := h_show_answers (P := P) (w := w) (base := base) T F_show_answers g_show_answers 
  have H_law_cell_at := h_law_cell_at (P := P) (w := w) (base := base) T F_law_cell_at g_law_cell_at 
  have H_law_take := h_law_take (P := P) (w := w) (base := base) T F_law_take g_law_take 
  have H_law_low := h_law_low (P := P) (w := w) (base := base) T F_law_low g_law_low 
  have H_law_turn := h_law_turn (P := P) (w := w) (base := base) T F_law_turn g_law_turn 
  have H_law_shown := h_law_shown (P := P) (w := w) (base := base) T F_law_shown g_law_shown 
  have H_fraction := h_fraction (P := P) (w := w) (base := base) T F_fraction g_fraction H_divisor
  have H_is_ahead := h_is_ahead (P := P) (w := w) (base := base) T F_is_ahead g_is_ahead H_is_less
  have H_fraction_in := h_fraction_in (P := P) (w := w) (base := base) T F_fraction_in g_fraction_in H_divisor H_is_whole
  have H_show_spot := h_show_spot (P := P) (w := w) (base := base) T F_show_spot g_show_spot H_show_fraction
  have H_law_number := h_law_number (P := P) (w := w) (base := base) T F_law_number g_law_number H_law_low H_law_take
  have H_law_scale := h_law_scale (P := P) (w := w) (base := base) T F_law_scale g_law_scale H_law_take
  have H_law_spot := h_law_spot (P := P) (w := w) (base := base) T F_law_spot g_law_spot H_law_low
  have H_law_on := h_law_on (P := P) (w := w) (base := base) T F_law_on g_law_on H_law_turn
  have H_law_rows := h_law_rows (P := P) (w := w) (base := base) T F_law_rows g_law_rows H_law_shown
  have H_plus := h_plus (P := P) (w := w) (base := base) T F_plus g_plus H_fraction
  have H_less := h_less (P := P) (w := w) (base := base) T F_less g_less H_fraction
  have H_times := h_times (P := P) (w := w) (base := base) T F_times g_times H_fraction
  have H_over := h_over (P := P) (w := w) (base := base) T F_over g_over H_fraction
  have H_spot_in := h_spot_in (P := P) (w := w) (base := base) T F_spot_in g_spot_in H_fraction_in
  have H_wall_rows := h_wall_rows (P := P) (w := w) (base := base) T F_wall_rows g_wall_rows H_show_spot
  have H_law_made := h_law_made (P := P) (w := w) (base := base) T F_law_made g_law_made H_law_spot
  have H_law_fair := h_law_fair (P := P) (w := w) (base := base) T F_law_fair g_law_fair H_law_turn H_law_on
  have H_along := h_along (P := P) (w := w) (base := base) T F_along g_along H_less
  have H_crossed := h_crossed (P := P) (w := w) (base := base) T F_crossed g_crossed H_less H_times
  have H_wall_in := h_wall_in (P := P) (w := w) (base := base) T F_wall_in g_wall_in H_is_ahead H_spot_in
  have H_question_in := h_question_in (P := P) (w := w) (base := base) T F_question_in g_question_in H_spot_in
  have H_show_questions := h_show_questions (P := P) (w := w) (base := base) T F_show_questions g_show_questions H_wall_rows H_show_spot
  have H_law_shuts_here := h_law_shuts_here (P := P) (w := w) (base := base) T F_law_shuts_here g_law_shuts_here H_law_take H_law_fair
  have H_leaning := h_leaning (P := P) (w := w) (base := base) T F_leaning g_leaning H_crossed
  have H_spot_of_lines := h_spot_of_lines (P := P) (w := w) (base := base) T F_spot_of_lines g_spot_of_lines H_plus H_times H_over H_crossed H_along
  have H_side_of := h_side_of (P := P) (w := w) (base := base) T F_side_of g_side_of H_leaning H_along
  have H_lies_on := h_lies_on (P := P) (w := w) (base := base) T F_lies_on g_lies_on H_side_of H_is_ahead
  have H_meeting_in_line := h_meeting_in_line (P := P) (w := w) (base := base) T F_meeting_in_line g_meeting_in_line H_is_ahead H_side_of
  have H_meeting := h_meeting (P := P) (w := w) (base := base) T F_meeting g_meeting H_lies_on H_spot_of_lines H_leaning H_along H_meeting_in_line
  have H_is_fair := h_is_fair (P := P) (w := w) (base := base) T F_is_fair g_is_fair H_meeting
  have H_unfair_with := h_unfair_with (P := P) (w := w) (base := base) T F_unfair_with g_unfair_with H_is_fair
  have H_put_read := h_put_read (P := P) (w := w) (base := base) T F_put_read g_put_read H_unfair_with Hx_NoText
  have H_read_questions := h_read_questions (P := P) (w := w) (base := base) T F_read_questions g_read_questions H_rows_in H_put_read H_wall_in H_question_in Hx_NoText
  exact fn_law T F_law H_show_answers H_law_take H_read_questions H_law_rows H_show_questions H_law_shown H_law_number H_law_made H_law_shuts_here H_law_scale H_law_cell_at
end Lk64
open PySem PySem.W PySem.Calls PyProof.Rows
theorem PySem.Challenge.cw_spotlook_k64_questions_and_answers_writt_holds : PySem.Challenge.rw_spotlook_k64_questions_and_answers_writt.Holds := by
  w_on; o_law
  refine HandSHeadRun.head_any (r := Lk64.R) (q := view Lk64.R.prog [56]) (H := Lk64.hk) (ob := Lk64.ob) (M := 3640) (loose := Lk64.names) (d := HandSHeadRun.topDef Lk64.R.prog 56) (kwd := []) Lk64.ob_eq
    (by kernel_rfl) (fun s => by kernel_rfl) Lk64.run (by kernel_rfl) (by kernel_rfl) (by kernel_rfl) (by rfl) (by first | assumption | decide +kernel) (by decide +kernel) ⟨rfl, rfl, rfl, rfl, rfl, by decide +kernel⟩ ?hw ?hc
  case hw => w_witness2
  case hc =>
    refine ML.law_end (k := 13) (x := "_law_script") rfl (by kernel_rfl) ⟨rfl, by decide, by decide⟩ ?_
    intro w mg fa h Y G hmg0
    obtain ⟨K, KX, c, ct, lm, nd⟩ := Y
    have hmg : mg ("law" : PySem.Str) = some (.ref fa) := by
      have e : (HandSHeadRun.topDef Lk64.R.prog 56).name = ("law" : PySem.Str) := by kernel_rfl
      rw [← e]
      exact hmg0
    obtain ⟨fd, hb, hF⟩ := Lk64.facts (P := PySem.Challenge.rw_spotlook_k64_questions_and_answers_writt.prog) (w := w) KX G hmg c ct
    exact ⟨K, fd, KX, hb, hF⟩
