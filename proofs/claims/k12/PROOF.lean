import PyProof.Rows.All
import Wide.All
import OpenK.AllK
import Wide.FinOn
import KE.KStateDown
import HandS.ForMost
import HandS.ForExc
import HandS.Wide
import HandS.IsInst
import HandS.Deep
import HandS.Conv
import HandS.Flow
import HandS.Defaults
import HandS.Rev
import HandS.Small
import HandS.Head0
import HandS.Head1
import HandS.Head2
import HandS.HeadEnd
import HandS.HeadHook1
import HandS.HeadHook2
import KE.KDictKeyed
import KE.KeyNested
import HandS.Lambda
import HandS.Style
import HandS.TupLe
import HandS.TupSets
import PyProof.ReprRoads
import HandS.Exc
import HandS.ExcOwn
import HandS.ExcIs
import HandS.ExcValue
import HandS.SetFor
import KE.KExcStr
import PyProof.Draws
import PyProof.EnumMake
import HandS.SortInts
import HandS.SetKeys
import KE.DatumOrd
import PyProof.ReprLen
import HandS.ExcInit
import HandS.ExcField
import KE.SortData
import HandS.Sort
import HandS.TupAny
import HandS.Strs
import KE.SortKeyHeap
import HandS.SortKw
import HandS.WordsDict
import HandS.Iter
import HandS.Text
import HandS.FStr
import PySem.Challenge.RW_spotlook_k12_whole_parted_covers_the_sam
set_option Elab.async false
set_option linter.all false
set_option maxRecDepth 100000
set_option hygiene false in
local macro_rules | `(tactic| simp $c:optConfig $[$d:discharger]? only [gz0] $[$l:location]?) => `(tactic| simp $c $[$d]? only [ML.q_mSeq, ML.q_mSet, ML.q_mC, ML.q_mVar, ML.q_mOp, ML.q_mUn, ML.q_mTst, ML.q_mTru, ML.q_mIfS, ML.q_mIf, ML.q_mAnd, ML.q_mOr, ML.q_mNot, ML.q_mAndV, ML.q_mOrV, ML.q_mNotV, ML.q_mRet, ML.q_mRetN, ML.q_mExpr, ML.q_mNext, ML.q_mBreak, ML.q_mCont, ML.q_mAsg, ML.q_mPar, ML.q_gNm, ML.q_gLs, ML.q_gCn, ML.q_gNl, ML.q_gSb, ML.q_mTup, ML.q_mLst, ML.q_mLstF, ML.q_mCons, ML.q_mNil, ML.q_mCall, ML.q_mBlt, ML.q_bLen, ML.q_bAbs, ML.q_bMax2, ML.q_bMin2, ML.q_bInt, ML.q_bTuple, ML.q_bList, ML.q_bListF, ML.q_bAll, ML.q_lenD, ML.q_truD, ML.q_lstOf, ML.q_ownOf, ML.q_rInt, ML.q_rInt0, ML.q_rSub, ML.q_rMul, ML.q_rDiv, ML.q_rMod, ML.q_rPow, ML.q_rAdd, ML.q_rLt, ML.q_rLe, ML.q_rGt, ML.q_rGe, ML.q_rNeg, ML.q_rIxM, ML.q_ixL, ML.q_rIsN, ML.q_rNotN, ML.q_isN, ML.q_rEqM, ML.q_rNeM, ML.q_rInM, ML.q_mIsi, ML.q_tyD, ML.q_mCut, ML.q_oNo, ML.q_oSo, ML.q_mMt, ML.q_mMt0, ML.q_mtAppend, ML.q_mtInsert, ML.q_mtPop, ML.q_mtPop0, ML.q_mtReverse, ML.q_mtClear, ML.q_mtExtend, ML.q_mtIndex, ML.q_rSetM, ML.q_setAt, ML.q_mends, ML.q_mstart, ML.q_mFor, ML.q_iL, ML.q_iT, ML.q_iR1, ML.q_iR2, ML.q_iEn, ML.q_iZp, ML.q_mChain, ML.q_mYes, ML.q_mCompF, ML.q_mComp, ML.q_wipeM, ML.q_rIsBM, ML.q_xAt, ML.put_same, ML.noX, ML.deq_int, ML.deq_bl, ML.deq_str, ML.deq_non, ML.eqOk_int, ML.eqOk_bl, ML.isTy_NoneType_int, ML.isTy_NoneType_bool, ML.isTy_NoneType_tuple, ML.isTy_NoneType_list, ML.isTy_NoneType_str, ML.isTy_bool_int, ML.isTy_bool_bool, ML.isTy_bool_tuple, ML.isTy_bool_list, ML.isTy_bool_str, ML.isTy_int_int, ML.isTy_int_bool, ML.isTy_int_tuple, ML.isTy_int_list, ML.isTy_int_str, ML.isTy_str_int, ML.isTy_str_bool, ML.isTy_str_tuple, ML.isTy_str_list, ML.isTy_str_str, ML.isTy_tuple_int, ML.isTy_tuple_bool, ML.isTy_tuple_tuple, ML.isTy_tuple_list, ML.isTy_tuple_str, ML.isTy_list_int, ML.isTy_list_bool, ML.isTy_list_tuple, ML.isTy_list_list, ML.isTy_list_str, ML.isTy_dict_int, ML.isTy_dict_bool, ML.isTy_dict_tuple, ML.isTy_dict_list, ML.isTy_dict_str, List.length_map, List.map_cons, List.map_nil, List.replicate, List.set_cons_zero, List.set_cons_succ, List.getElem?_cons_zero, List.getElem?_cons_succ, List.cons_append, List.nil_append, List.length_cons, List.length_nil, Option.bind_some, Option.map_some, ↓reduceIte, Nat.reduceAdd, Nat.reduceSub, Nat.reduceLT, Nat.reduceLeDiff, Nat.zero_add, decide_eq_true_eq, Bool.not_eq_true, ne_eq, reduceCtorEq, not_false_eq_true, true_and, and_true, Bool.false_eq_true, Bool.not_true, Bool.not_false, decide_true, decide_false, not_true_eq_false, eq_self, Bool.not_eq_eq_eq_not, if_true, if_false, FL.tup_fr, FL.tup_sp, FL.tup_wl, ML.tupOf_tup, FL.tupOf_fr, FL.tupOf_sp, FL.tupOf_wl, FL.gTp_at, FL.nz0, FL.nz1, FL.nz2, FL.nz3, FL.seqOf_tup, FL.seqOf_lst, FL.seqOf_scr, FL.seqOf_ref, FL.look_non, FL.look_int, FL.look_bl, FL.look_str, FL.look_tup, FL.look_lst, FL.look_scr, FL.seqOf_fr, FL.seqOf_sp, FL.seqOf_wl, FL.look_fr, FL.look_sp, FL.look_wl, FL.eqOk_fr, FL.eqOk_sp, FL.eqOk_wl, FL.deq_fr, FL.deq_sp, FL.deq_wl, Int.reduceToNat, Int.reducePow, Int.reduceAdd, Int.reduceSub, Int.reduceMul, Int.reduceNeg, ML.l_aLt_int, ML.l_aGt_int, ML.l_aLe_int, ML.l_aGe_int, ML.l_bMaxA_int, ML.l_bMinA_int] $[$l]?)
set_option hygiene false in
local macro_rules | `(tactic| simp $c:optConfig $[$d:discharger]? only [gz0, $ls,*] $[$l:location]?) => `(tactic| simp $c $[$d]? only [ML.q_mSeq, ML.q_mSet, ML.q_mC, ML.q_mVar, ML.q_mOp, ML.q_mUn, ML.q_mTst, ML.q_mTru, ML.q_mIfS, ML.q_mIf, ML.q_mAnd, ML.q_mOr, ML.q_mNot, ML.q_mAndV, ML.q_mOrV, ML.q_mNotV, ML.q_mRet, ML.q_mRetN, ML.q_mExpr, ML.q_mNext, ML.q_mBreak, ML.q_mCont, ML.q_mAsg, ML.q_mPar, ML.q_gNm, ML.q_gLs, ML.q_gCn, ML.q_gNl, ML.q_gSb, ML.q_mTup, ML.q_mLst, ML.q_mLstF, ML.q_mCons, ML.q_mNil, ML.q_mCall, ML.q_mBlt, ML.q_bLen, ML.q_bAbs, ML.q_bMax2, ML.q_bMin2, ML.q_bInt, ML.q_bTuple, ML.q_bList, ML.q_bListF, ML.q_bAll, ML.q_lenD, ML.q_truD, ML.q_lstOf, ML.q_ownOf, ML.q_rInt, ML.q_rInt0, ML.q_rSub, ML.q_rMul, ML.q_rDiv, ML.q_rMod, ML.q_rPow, ML.q_rAdd, ML.q_rLt, ML.q_rLe, ML.q_rGt, ML.q_rGe, ML.q_rNeg, ML.q_rIxM, ML.q_ixL, ML.q_rIsN, ML.q_rNotN, ML.q_isN, ML.q_rEqM, ML.q_rNeM, ML.q_rInM, ML.q_mIsi, ML.q_tyD, ML.q_mCut, ML.q_oNo, ML.q_oSo, ML.q_mMt, ML.q_mMt0, ML.q_mtAppend, ML.q_mtInsert, ML.q_mtPop, ML.q_mtPop0, ML.q_mtReverse, ML.q_mtClear, ML.q_mtExtend, ML.q_mtIndex, ML.q_rSetM, ML.q_setAt, ML.q_mends, ML.q_mstart, ML.q_mFor, ML.q_iL, ML.q_iT, ML.q_iR1, ML.q_iR2, ML.q_iEn, ML.q_iZp, ML.q_mChain, ML.q_mYes, ML.q_mCompF, ML.q_mComp, ML.q_wipeM, ML.q_rIsBM, ML.q_xAt, ML.put_same, ML.noX, ML.deq_int, ML.deq_bl, ML.deq_str, ML.deq_non, ML.eqOk_int, ML.eqOk_bl, ML.isTy_NoneType_int, ML.isTy_NoneType_bool, ML.isTy_NoneType_tuple, ML.isTy_NoneType_list, ML.isTy_NoneType_str, ML.isTy_bool_int, ML.isTy_bool_bool, ML.isTy_bool_tuple, ML.isTy_bool_list, ML.isTy_bool_str, ML.isTy_int_int, ML.isTy_int_bool, ML.isTy_int_tuple, ML.isTy_int_list, ML.isTy_int_str, ML.isTy_str_int, ML.isTy_str_bool, ML.isTy_str_tuple, ML.isTy_str_list, ML.isTy_str_str, ML.isTy_tuple_int, ML.isTy_tuple_bool, ML.isTy_tuple_tuple, ML.isTy_tuple_list, ML.isTy_tuple_str, ML.isTy_list_int, ML.isTy_list_bool, ML.isTy_list_tuple, ML.isTy_list_list, ML.isTy_list_str, ML.isTy_dict_int, ML.isTy_dict_bool, ML.isTy_dict_tuple, ML.isTy_dict_list, ML.isTy_dict_str, List.length_map, List.map_cons, List.map_nil, List.replicate, List.set_cons_zero, List.set_cons_succ, List.getElem?_cons_zero, List.getElem?_cons_succ, List.cons_append, List.nil_append, List.length_cons, List.length_nil, Option.bind_some, Option.map_some, ↓reduceIte, Nat.reduceAdd, Nat.reduceSub, Nat.reduceLT, Nat.reduceLeDiff, Nat.zero_add, decide_eq_true_eq, Bool.not_eq_true, ne_eq, reduceCtorEq, not_false_eq_true, true_and, and_true, Bool.false_eq_true, Bool.not_true, Bool.not_false, decide_true, decide_false, not_true_eq_false, eq_self, Bool.not_eq_eq_eq_not, if_true, if_false, FL.tup_fr, FL.tup_sp, FL.tup_wl, ML.tupOf_tup, FL.tupOf_fr, FL.tupOf_sp, FL.tupOf_wl, FL.gTp_at, FL.nz0, FL.nz1, FL.nz2, FL.nz3, FL.seqOf_tup, FL.seqOf_lst, FL.seqOf_scr, FL.seqOf_ref, FL.look_non, FL.look_int, FL.look_bl, FL.look_str, FL.look_tup, FL.look_lst, FL.look_scr, FL.seqOf_fr, FL.seqOf_sp, FL.seqOf_wl, FL.look_fr, FL.look_sp, FL.look_wl, FL.eqOk_fr, FL.eqOk_sp, FL.eqOk_wl, FL.deq_fr, FL.deq_sp, FL.deq_wl, Int.reduceToNat, Int.reducePow, Int.reduceAdd, Int.reduceSub, Int.reduceMul, Int.reduceNeg, ML.l_aLt_int, ML.l_aGt_int, ML.l_aLe_int, ML.l_aGe_int, ML.l_bMaxA_int, ML.l_bMinA_int, $ls,*] $[$l]?)
set_option hygiene false in
local macro_rules | `(tactic| simp $c:optConfig $[$d:discharger]? only [gy1] $[$l:location]?) => `(tactic| simp $c $[$d]? only [↓ML.q_mSeq, ↓ML.q_mC, ↓ML.q_mOp, ↓ML.q_mUn, ↓ML.q_mTst, ↓ML.q_mNot, ↓ML.q_mNotV, ↓ML.q_mRet, ↓ML.q_mRetN, ↓ML.q_mExpr, ↓ML.q_mNext, ↓ML.q_mBreak, ↓ML.q_mCont, ↓ML.q_mAsg, ↓ML.q_gSb, ↓ML.q_mTup, ↓ML.q_mLst, ↓ML.q_mLstF, ↓ML.q_mCons, ↓ML.q_mNil, ↓ML.q_mBlt, ↓ML.q_rEqM, ↓ML.q_rNeM, ↓ML.q_iR1, ↓ML.q_iR2, ↓ML.q_iEn, ↓ML.q_iZp, ↓ML.q_mMt, ↓ML.q_mMt0, ↓ML.q_mYes, ↓ML.q_mCut, ↓ML.q_oNo, ↓ML.q_oSo, ↓ML.l_mCall, ↓ML.l_mAnd, ↓ML.l_mOr, ↓ML.l_mAndV, ↓ML.l_mOrV, ↓ML.l_mIf, ↓ML.l_mIfS, ↓ML.l_mChain, ↓ML.l_mVar, ↓ML.l_mFor, ↓ML.l_mWhile, ↓ML.l_mComp, ↓ML.l_mCompF, ↓ML.l_optP, ↓ML.l_Go, ↓ML.Hold_v, ↓ML.l_mSet, ↓ML.l_gNm, ↓ML.l_mPar, ↓ML.l_rIxM, ↓ML.l_rSetM, ↓ML.l_rInt, ↓ML.l_rInt0, ↓ML.l_rAdd_int, ↓ML.l_rAdd_str, ↓ML.l_rAdd_tup, ↓ML.l_rNeg, ↓ML.l_rIsN, ↓ML.l_rNotN, ↓ML.l_rIsBM, ↓ML.l_mTru, ↓ML.l_bLen, ↓ML.l_bAbs, ↓ML.l_bMax2, ↓ML.l_bMin2, ↓ML.l_bInt_i, ↓ML.l_bInt_b, ↓ML.l_bTuple, ↓ML.l_bListF, ↓ML.l_bList, ↓ML.l_mIsi, ↓ML.l_iL, ↓ML.l_iT, ↓ML.l_gTp, ↓ML.l_gLs, ↓ML.l_gCn, ↓ML.l_gNl, ↓ML.l_mtAppend, ML.Hold_v, ML.l_mVar_z, ML.l_mVar_s, ML.OptP_some, ML.Go_eq, ML.IteP_true, ML.IteP_false, ML.lstOf_ref', ML.lstOf_lst, ML.lstOf_scr, ML.lstOf_tup, ML.ownOf_ref', ML.ownOf_lst, ML.seqOf_tup', ML.seqOf_lst', ML.seqOf_scr', ML.seqOf_ref', ML.olP_lst, ML.tupOf_tup, ML.ixL_lit, ML.ixL_cast, ML.ixL_m1, ML.setAt_lit, ML.setAt_cast, ML.truD_bl, ML.truD_int, ML.truD_tup, ML.truD_lst, ML.truD_scr, ML.truD_non, ML.lenD_tup, ML.lenD_lst, ML.lenD_scr, ML.lenD_ref, ML.tyD_non, ML.tyD_bl, ML.tyD_int, ML.tyD_str, ML.tyD_tup, ML.tyD_lst, ML.szl, ML.szlt, ML.cpow_lit, ML.mulok_rl, ML.mulok_ll, ML.divok_l, ML.put_same, ML.put_put, ML.q_wipeM, ML.deq_int, ML.deq_bl, ML.deq_str, ML.deq_non, ML.eqOk_int, ML.eqOk_bl, ML.isTy_NoneType_int, ML.isTy_NoneType_bool, ML.isTy_NoneType_tuple, ML.isTy_NoneType_list, ML.isTy_NoneType_str, ML.isTy_bool_int, ML.isTy_bool_bool, ML.isTy_bool_tuple, ML.isTy_bool_list, ML.isTy_bool_str, ML.isTy_int_int, ML.isTy_int_bool, ML.isTy_int_tuple, ML.isTy_int_list, ML.isTy_int_str, ML.isTy_str_int, ML.isTy_str_bool, ML.isTy_str_tuple, ML.isTy_str_list, ML.isTy_str_str, ML.isTy_tuple_int, ML.isTy_tuple_bool, ML.isTy_tuple_tuple, ML.isTy_tuple_list, ML.isTy_tuple_str, ML.isTy_list_int, ML.isTy_list_bool, ML.isTy_list_tuple, ML.isTy_list_list, ML.isTy_list_str, ML.isTy_dict_int, ML.isTy_dict_bool, ML.isTy_dict_tuple, ML.isTy_dict_list, ML.isTy_dict_str, FL.tup_fr, FL.tup_sp, FL.tup_wl, FL.tupOf_fr, FL.tupOf_sp, FL.tupOf_wl, FL.nz0, FL.nz1, FL.nz2, FL.nz3, FL.look_non, FL.look_int, FL.look_bl, FL.look_str, FL.look_tup, FL.look_lst, FL.look_scr, FL.seqOf_fr, FL.seqOf_sp, FL.seqOf_wl, FL.look_fr, FL.look_sp, FL.look_wl, FL.eqOk_fr, FL.eqOk_sp, FL.eqOk_wl, FL.deq_fr, FL.deq_sp, FL.deq_wl, FL.tyD_fr, FL.tyD_sp, FL.tyD_wl, FL.isN_fr, FL.isN_sp, FL.isN_wl, FL.lenD_sp, FL.lenD_wl, FL.rAdd_wl_tup, List.length_map, List.map_cons, List.map_nil, List.replicate, List.set_cons_zero, List.set_cons_succ, List.getElem?_cons_zero, List.getElem?_cons_succ, List.cons_append, List.nil_append, List.length_cons, List.length_nil, Option.bind_some, Option.map_some, ↓reduceIte, Nat.reduceAdd, Nat.reduceSub, Nat.reduceLT, Nat.reduceLeDiff, Nat.zero_add, decide_eq_true_eq, Bool.not_eq_true, ne_eq, reduceCtorEq, not_false_eq_true, true_and, and_true, Bool.false_eq_true, Bool.not_true, Bool.not_false, decide_true, decide_false, not_true_eq_false, eq_self, Bool.not_eq_eq_eq_not, if_true, if_false, decide_eq_false_iff_not, ML.ncast, Int.reduceToNat, Int.reducePow, Int.reduceAdd, Int.reduceSub, Int.reduceMul, Int.reduceNeg, Int.reduceLT, Int.reduceLE, Int.reduceEq, Nat.reduceEqDiff, Int.zero_add, gt_iff_lt, beq_self_eq_true, Bool.true_beq, Bool.false_beq, Bool.and_true, Bool.and_false, Bool.true_and, Bool.false_and, ↓ML.l_mtInsert, ↓ML.l_mtReverse, ↓ML.l_mtClear, ↓ML.l_bSortU, ↓ML.q_mMt0, ↓ML.l_bMaxL, ↓ML.l_bMinL, ↓ML.l_aLt_int, ↓ML.l_aLt_u, ↓ML.l_aGt_int, ↓ML.l_aGt_u, ↓ML.l_aLe_int, ↓ML.l_aLe_u, ↓ML.l_aGe_int, ↓ML.l_aGe_u, ↓ML.l_bMaxA_int, ↓ML.l_bMaxA_u, ↓ML.l_bMinA_int, ↓ML.l_bMinA_u, ML.tup_u, ML.tupOf_u, ML.seqOf_u, ML.sqI_u, ML.look_u, ML.isN_u, ML.lenD_u, ML.tyD_u, ML.tup_uw, ML.tupOf_uw, ML.seqOf_uw, ML.sqI_uw, ML.look_uw, ML.isN_uw, ML.lenD_uw, ML.tyD_uw, ML.eqOk_u, ML.eqOk_uw, ML.deq_u, ML.deq_uw, ML.in_uw, ↓ML.l_mRaise, ↓ML.l_mTry, ↓ML.l_mIsE, ↓ML.l_mIsV, ↓ML.l_mtCount, ↓ML.l_rAddS_rl, ↓ML.l_rAddS_ll, ML.excD_ref, ML.excOf_exc, ML.blsOf_nil, ML.blsOf_cons, ML.endM_nx, ML.endM_rt, ↓ML.l_mYes, ↓ML.l_iS, ↓ML.l_mIfJ, ↓ML.l_mJ, ↓ML.CrollP_nil, ↓ML.CrollP_cons, ↓ML.CrA_at, ↓ML.FrollP_nil, ↓ML.FrollP_cons, ML.isN_non, ML.isN_int, ML.isN_bl, ML.isN_str, ML.isN_tup, ML.isN_lst, ML.isN_ref, ML.sqI_tup, ML.sqI_lst, ML.sqI_scr, ML.sqI_ref, ML.sqI_at, ML.rngD_0, ML.rngD_1, ML.rngD_2, ML.rngD_3, ML.rngD_4, ML.rngD_6, ML.q_wipeM_nil, ML.q_wipeM_cons, FL.sqI_sp, FL.sqI_wl] $[$l]?)
set_option hygiene false in
local macro_rules | `(tactic| simp $c:optConfig $[$d:discharger]? only [gy1, $ls,*] $[$l:location]?) => `(tactic| simp $c $[$d]? only [↓ML.q_mSeq, ↓ML.q_mC, ↓ML.q_mOp, ↓ML.q_mUn, ↓ML.q_mTst, ↓ML.q_mNot, ↓ML.q_mNotV, ↓ML.q_mRet, ↓ML.q_mRetN, ↓ML.q_mExpr, ↓ML.q_mNext, ↓ML.q_mBreak, ↓ML.q_mCont, ↓ML.q_mAsg, ↓ML.q_gSb, ↓ML.q_mTup, ↓ML.q_mLst, ↓ML.q_mLstF, ↓ML.q_mCons, ↓ML.q_mNil, ↓ML.q_mBlt, ↓ML.q_rEqM, ↓ML.q_rNeM, ↓ML.q_iR1, ↓ML.q_iR2, ↓ML.q_iEn, ↓ML.q_iZp, ↓ML.q_mMt, ↓ML.q_mMt0, ↓ML.q_mYes, ↓ML.q_mCut, ↓ML.q_oNo, ↓ML.q_oSo, ↓ML.l_mCall, ↓ML.l_mAnd, ↓ML.l_mOr, ↓ML.l_mAndV, ↓ML.l_mOrV, ↓ML.l_mIf, ↓ML.l_mIfS, ↓ML.l_mChain, ↓ML.l_mVar, ↓ML.l_mFor, ↓ML.l_mWhile, ↓ML.l_mComp, ↓ML.l_mCompF, ↓ML.l_optP, ↓ML.l_Go, ↓ML.Hold_v, ↓ML.l_mSet, ↓ML.l_gNm, ↓ML.l_mPar, ↓ML.l_rIxM, ↓ML.l_rSetM, ↓ML.l_rInt, ↓ML.l_rInt0, ↓ML.l_rAdd_int, ↓ML.l_rAdd_str, ↓ML.l_rAdd_tup, ↓ML.l_rNeg, ↓ML.l_rIsN, ↓ML.l_rNotN, ↓ML.l_rIsBM, ↓ML.l_mTru, ↓ML.l_bLen, ↓ML.l_bAbs, ↓ML.l_bMax2, ↓ML.l_bMin2, ↓ML.l_bInt_i, ↓ML.l_bInt_b, ↓ML.l_bTuple, ↓ML.l_bListF, ↓ML.l_bList, ↓ML.l_mIsi, ↓ML.l_iL, ↓ML.l_iT, ↓ML.l_gTp, ↓ML.l_gLs, ↓ML.l_gCn, ↓ML.l_gNl, ↓ML.l_mtAppend, ML.Hold_v, ML.l_mVar_z, ML.l_mVar_s, ML.OptP_some, ML.Go_eq, ML.IteP_true, ML.IteP_false, ML.lstOf_ref', ML.lstOf_lst, ML.lstOf_scr, ML.lstOf_tup, ML.ownOf_ref', ML.ownOf_lst, ML.seqOf_tup', ML.seqOf_lst', ML.seqOf_scr', ML.seqOf_ref', ML.olP_lst, ML.tupOf_tup, ML.ixL_lit, ML.ixL_cast, ML.ixL_m1, ML.setAt_lit, ML.setAt_cast, ML.truD_bl, ML.truD_int, ML.truD_tup, ML.truD_lst, ML.truD_scr, ML.truD_non, ML.lenD_tup, ML.lenD_lst, ML.lenD_scr, ML.lenD_ref, ML.tyD_non, ML.tyD_bl, ML.tyD_int, ML.tyD_str, ML.tyD_tup, ML.tyD_lst, ML.szl, ML.szlt, ML.cpow_lit, ML.mulok_rl, ML.mulok_ll, ML.divok_l, ML.put_same, ML.put_put, ML.q_wipeM, ML.deq_int, ML.deq_bl, ML.deq_str, ML.deq_non, ML.eqOk_int, ML.eqOk_bl, ML.isTy_NoneType_int, ML.isTy_NoneType_bool, ML.isTy_NoneType_tuple, ML.isTy_NoneType_list, ML.isTy_NoneType_str, ML.isTy_bool_int, ML.isTy_bool_bool, ML.isTy_bool_tuple, ML.isTy_bool_list, ML.isTy_bool_str, ML.isTy_int_int, ML.isTy_int_bool, ML.isTy_int_tuple, ML.isTy_int_list, ML.isTy_int_str, ML.isTy_str_int, ML.isTy_str_bool, ML.isTy_str_tuple, ML.isTy_str_list, ML.isTy_str_str, ML.isTy_tuple_int, ML.isTy_tuple_bool, ML.isTy_tuple_tuple, ML.isTy_tuple_list, ML.isTy_tuple_str, ML.isTy_list_int, ML.isTy_list_bool, ML.isTy_list_tuple, ML.isTy_list_list, ML.isTy_list_str, ML.isTy_dict_int, ML.isTy_dict_bool, ML.isTy_dict_tuple, ML.isTy_dict_list, ML.isTy_dict_str, FL.tup_fr, FL.tup_sp, FL.tup_wl, FL.tupOf_fr, FL.tupOf_sp, FL.tupOf_wl, FL.nz0, FL.nz1, FL.nz2, FL.nz3, FL.look_non, FL.look_int, FL.look_bl, FL.look_str, FL.look_tup, FL.look_lst, FL.look_scr, FL.seqOf_fr, FL.seqOf_sp, FL.seqOf_wl, FL.look_fr, FL.look_sp, FL.look_wl, FL.eqOk_fr, FL.eqOk_sp, FL.eqOk_wl, FL.deq_fr, FL.deq_sp, FL.deq_wl, FL.tyD_fr, FL.tyD_sp, FL.tyD_wl, FL.isN_fr, FL.isN_sp, FL.isN_wl, FL.lenD_sp, FL.lenD_wl, FL.rAdd_wl_tup, List.length_map, List.map_cons, List.map_nil, List.replicate, List.set_cons_zero, List.set_cons_succ, List.getElem?_cons_zero, List.getElem?_cons_succ, List.cons_append, List.nil_append, List.length_cons, List.length_nil, Option.bind_some, Option.map_some, ↓reduceIte, Nat.reduceAdd, Nat.reduceSub, Nat.reduceLT, Nat.reduceLeDiff, Nat.zero_add, decide_eq_true_eq, Bool.not_eq_true, ne_eq, reduceCtorEq, not_false_eq_true, true_and, and_true, Bool.false_eq_true, Bool.not_true, Bool.not_false, decide_true, decide_false, not_true_eq_false, eq_self, Bool.not_eq_eq_eq_not, if_true, if_false, decide_eq_false_iff_not, ML.ncast, Int.reduceToNat, Int.reducePow, Int.reduceAdd, Int.reduceSub, Int.reduceMul, Int.reduceNeg, Int.reduceLT, Int.reduceLE, Int.reduceEq, Nat.reduceEqDiff, Int.zero_add, gt_iff_lt, beq_self_eq_true, Bool.true_beq, Bool.false_beq, Bool.and_true, Bool.and_false, Bool.true_and, Bool.false_and, ↓ML.l_mtInsert, ↓ML.l_mtReverse, ↓ML.l_mtClear, ↓ML.l_bSortU, ↓ML.q_mMt0, ↓ML.l_bMaxL, ↓ML.l_bMinL, ↓ML.l_aLt_int, ↓ML.l_aLt_u, ↓ML.l_aGt_int, ↓ML.l_aGt_u, ↓ML.l_aLe_int, ↓ML.l_aLe_u, ↓ML.l_aGe_int, ↓ML.l_aGe_u, ↓ML.l_bMaxA_int, ↓ML.l_bMaxA_u, ↓ML.l_bMinA_int, ↓ML.l_bMinA_u, ML.tup_u, ML.tupOf_u, ML.seqOf_u, ML.sqI_u, ML.look_u, ML.isN_u, ML.lenD_u, ML.tyD_u, ML.tup_uw, ML.tupOf_uw, ML.seqOf_uw, ML.sqI_uw, ML.look_uw, ML.isN_uw, ML.lenD_uw, ML.tyD_uw, ML.eqOk_u, ML.eqOk_uw, ML.deq_u, ML.deq_uw, ML.in_uw, ↓ML.l_mRaise, ↓ML.l_mTry, ↓ML.l_mIsE, ↓ML.l_mIsV, ↓ML.l_mtCount, ↓ML.l_rAddS_rl, ↓ML.l_rAddS_ll, ML.excD_ref, ML.excOf_exc, ML.blsOf_nil, ML.blsOf_cons, ML.endM_nx, ML.endM_rt, ↓ML.l_mYes, ↓ML.l_iS, ↓ML.l_mIfJ, ↓ML.l_mJ, ↓ML.CrollP_nil, ↓ML.CrollP_cons, ↓ML.CrA_at, ↓ML.FrollP_nil, ↓ML.FrollP_cons, ML.isN_non, ML.isN_int, ML.isN_bl, ML.isN_str, ML.isN_tup, ML.isN_lst, ML.isN_ref, ML.sqI_tup, ML.sqI_lst, ML.sqI_scr, ML.sqI_ref, ML.sqI_at, ML.rngD_0, ML.rngD_1, ML.rngD_2, ML.rngD_3, ML.rngD_4, ML.rngD_6, ML.q_wipeM_nil, ML.q_wipeM_cons, FL.sqI_sp, FL.sqI_wl, $ls,*] $[$l]?)
set_option hygiene false in
local macro_rules | `(tactic| simp $c:optConfig $[$d:discharger]? only [gz1] $[$l:location]?) => `(tactic| simp $c $[$d]? only [gy1] $[$l]?)
set_option hygiene false in
local macro_rules | `(tactic| simp $c:optConfig $[$d:discharger]? only [gz1, $ls,*] $[$l:location]?) => `(tactic| simp $c $[$d]? only [gy1, $ls,*] $[$l]?)
set_option hygiene false in
local macro_rules | `(tactic| simp $c:optConfig $[$d:discharger]? only [gz2] $[$l:location]?) => `(tactic| simp $c $[$d]? only [gy1, ↓FL.c_plus, ↓FL.c_less, ↓FL.c_law_less, ↓FL.c_times, ↓FL.c_over, ↓FL.c_is_less, ↓FL.c_is_ahead, ↓FL.c_along, ↓FL.c_crossed, ↓FL.c_leaning, ↓FL.c_side_of, ↓FL.c_lies_on, ↓FL.c_spans] $[$l]?)
set_option hygiene false in
local macro_rules | `(tactic| simp $c:optConfig $[$d:discharger]? only [gz2, $ls,*] $[$l:location]?) => `(tactic| simp $c $[$d]? only [gy1, ↓FL.c_plus, ↓FL.c_less, ↓FL.c_law_less, ↓FL.c_times, ↓FL.c_over, ↓FL.c_is_less, ↓FL.c_is_ahead, ↓FL.c_along, ↓FL.c_crossed, ↓FL.c_leaning, ↓FL.c_side_of, ↓FL.c_lies_on, ↓FL.c_spans, $ls,*] $[$l]?)
set_option hygiene false in
local macro_rules | `(tactic| simp $c:optConfig $[$d:discharger]? only [gz3] $[$l:location]?) => `(tactic| simp $c $[$d]? only [gy1, FL.l_rAdd_rl, FL.l_rAdd_ll, FL.l_rAdd_lr, FL.l_rAdd_rr, FL.in_ints] $[$l]?)
set_option hygiene false in
local macro_rules | `(tactic| simp $c:optConfig $[$d:discharger]? only [gz3, $ls,*] $[$l:location]?) => `(tactic| simp $c $[$d]? only [gy1, FL.l_rAdd_rl, FL.l_rAdd_ll, FL.l_rAdd_lr, FL.l_rAdd_rr, FL.in_ints, $ls,*] $[$l]?)
set_option hygiene false in
local macro_rules | `(tactic| simp $c:optConfig $[$d:discharger]? only [gz4] $[$l:location]?) => `(tactic| simp $c $[$d]? only [gy1, FL.l_rAdd_rl, FL.l_rAdd_ll, FL.l_rAdd_lr, FL.l_rAdd_rr, FL.in_ints, FL.in_lu, ↓ML.l_bReprO, ↓ML.l_rEqS] $[$l]?)
set_option hygiene false in
local macro_rules | `(tactic| simp $c:optConfig $[$d:discharger]? only [gz4, $ls,*] $[$l:location]?) => `(tactic| simp $c $[$d]? only [gy1, FL.l_rAdd_rl, FL.l_rAdd_ll, FL.l_rAdd_lr, FL.l_rAdd_rr, FL.in_ints, FL.in_lu, ↓ML.l_bReprO, ↓ML.l_rEqS, $ls,*] $[$l]?)
set_option hygiene false in
local macro_rules | `(tactic| simp $c:optConfig $[$d:discharger]? only [gz5] $[$l:location]?) => `(tactic| simp $c $[$d]? only [gy1, FL.l_rAdd_rl, FL.l_rAdd_ll, FL.l_rAdd_lr, FL.l_rAdd_rr, FL.in_ints, FL.in_lu, ↓ML.l_mListR, ↓ML.l_mDIn, ↓ML.l_mDPut, ↓ML.l_mDNew, ML.dtD_ref, ML.dtO_dT, ML.keysD_nil, ML.keysD_int, ↓ML.l_mRev2, ↓ML.l_bSum, ↓ML.l_iEnT, ↓ML.l_mSortSet, ↓ML.l_mSNew, ↓ML.l_mSGet, ↓ML.l_mSSetd, ↓ML.l_mKNew, ↓ML.l_mKIn, ↓ML.l_mKGet, ↓ML.l_mKPut, ML.dsD_ref, ML.dsO_dS, ML.dkD_ref, ML.dkO_dK, ML.keyD_i, ↓ML.l_rRepS_l, ↓ML.l_rInX, ↓ML.l_mtIndexX, ↓ML.l_bMinU, ↓ML.l_bMaxU, ↓ML.l_bReprO, ↓ML.l_rEqS, ↓ML.l_bSortI, ↓ML.l_rNeX] $[$l]?)
set_option hygiene false in
local macro_rules | `(tactic| simp $c:optConfig $[$d:discharger]? only [gz5, $ls,*] $[$l:location]?) => `(tactic| simp $c $[$d]? only [gy1, FL.l_rAdd_rl, FL.l_rAdd_ll, FL.l_rAdd_lr, FL.l_rAdd_rr, FL.in_ints, FL.in_lu, ↓ML.l_mListR, ↓ML.l_mDIn, ↓ML.l_mDPut, ↓ML.l_mDNew, ML.dtD_ref, ML.dtO_dT, ML.keysD_nil, ML.keysD_int, ↓ML.l_mRev2, ↓ML.l_bSum, ↓ML.l_iEnT, ↓ML.l_mSortSet, ↓ML.l_mSNew, ↓ML.l_mSGet, ↓ML.l_mSSetd, ↓ML.l_mKNew, ↓ML.l_mKIn, ↓ML.l_mKGet, ↓ML.l_mKPut, ML.dsD_ref, ML.dsO_dS, ML.dkD_ref, ML.dkO_dK, ML.keyD_i, ↓ML.l_rRepS_l, ↓ML.l_rInX, ↓ML.l_mtIndexX, ↓ML.l_bMinU, ↓ML.l_bMaxU, ↓ML.l_bReprO, ↓ML.l_rEqS, ↓ML.l_bSortI, ↓ML.l_rNeX, $ls,*] $[$l]?)
set_option hygiene false in
local macro_rules | `(tactic| simp $c:optConfig $[$d:discharger]? only [gz6] $[$l:location]?) => `(tactic| simp $c $[$d]? only [gy1, FL.l_rAdd_rl, FL.l_rAdd_ll, FL.l_rAdd_lr, FL.l_rAdd_rr, FL.in_ints, FL.in_lu, ↓ML.l_mListR, ↓ML.l_mDIn, ↓ML.l_mDPut, ↓ML.l_mDNew, ML.dtD_ref, ML.dtO_dT, ML.keysD_nil, ML.keysD_int, ↓ML.l_mRev2, ↓ML.l_bSum, ↓ML.l_iEnT, ↓ML.l_mSortSet, ↓ML.l_mSNew, ↓ML.l_mSGet, ↓ML.l_mSSetd, ↓ML.l_mKNew, ↓ML.l_mKIn, ↓ML.l_mKGet, ↓ML.l_mKPut, ML.dsD_ref, ML.dsO_dS, ML.dkD_ref, ML.dkO_dK, ML.keyD_i, ↓ML.l_rRepS_l, ↓ML.l_rInX, ↓ML.l_mtIndexX, ↓ML.l_bMinU, ↓ML.l_bMaxU, ↓ML.l_bSortI, ↓ML.l_rNeX] $[$l]?)
set_option hygiene false in
local macro_rules | `(tactic| simp $c:optConfig $[$d:discharger]? only [gz6, $ls,*] $[$l:location]?) => `(tactic| simp $c $[$d]? only [gy1, FL.l_rAdd_rl, FL.l_rAdd_ll, FL.l_rAdd_lr, FL.l_rAdd_rr, FL.in_ints, FL.in_lu, ↓ML.l_mListR, ↓ML.l_mDIn, ↓ML.l_mDPut, ↓ML.l_mDNew, ML.dtD_ref, ML.dtO_dT, ML.keysD_nil, ML.keysD_int, ↓ML.l_mRev2, ↓ML.l_bSum, ↓ML.l_iEnT, ↓ML.l_mSortSet, ↓ML.l_mSNew, ↓ML.l_mSGet, ↓ML.l_mSSetd, ↓ML.l_mKNew, ↓ML.l_mKIn, ↓ML.l_mKGet, ↓ML.l_mKPut, ML.dsD_ref, ML.dsO_dS, ML.dkD_ref, ML.dkO_dK, ML.keyD_i, ↓ML.l_rRepS_l, ↓ML.l_rInX, ↓ML.l_mtIndexX, ↓ML.l_bMinU, ↓ML.l_bMaxU, ↓ML.l_bSortI, ↓ML.l_rNeX, $ls,*] $[$l]?)
set_option hygiene false in
local macro_rules | `(tactic| simp $c:optConfig $[$d:discharger]? only [gz7] $[$l:location]?) => `(tactic| simp $c $[$d]? only [gy1, FL.l_rAdd_rl, FL.l_rAdd_ll, FL.l_rAdd_lr, FL.l_rAdd_rr, FL.in_ints, FL.in_lu, ↓ML.l_mListR, ↓ML.l_mDIn, ↓ML.l_mDPut, ↓ML.l_mDNew, ML.dtD_ref, ML.dtO_dT, ML.keysD_nil, ML.keysD_int, ↓ML.l_mRev2, ↓ML.l_bSum, ↓ML.l_iEnT, ↓ML.l_mSortSet, ↓ML.l_mSNew, ↓ML.l_mSGet, ↓ML.l_mSSetd, ↓ML.l_mKNew, ↓ML.l_mKIn, ↓ML.l_mKGet, ↓ML.l_mKPut, ML.dsD_ref, ML.dsO_dS, ML.dkD_ref, ML.dkO_dK, ML.keyD_i, ↓ML.l_rRepS_l, ↓ML.l_rInX, ↓ML.l_mtIndexX, ↓ML.l_bMinU, ↓ML.l_bMaxU, ↓ML.l_mRevL, ↓ML.l_bSortI, ↓ML.l_rNeX, ↓ML.l_mRaiseF, ↓ML.l_mMkF, ↓ML.l_mIsX, ↓ML.l_mIsXV, ↓ML.l_mIsT, ↓ML.l_mXf, ML.exDX_ref, ML.excX_exc, ML.flds1, ML.flds2] $[$l]?)
set_option hygiene false in
local macro_rules | `(tactic| simp $c:optConfig $[$d:discharger]? only [gz7, $ls,*] $[$l:location]?) => `(tactic| simp $c $[$d]? only [gy1, FL.l_rAdd_rl, FL.l_rAdd_ll, FL.l_rAdd_lr, FL.l_rAdd_rr, FL.in_ints, FL.in_lu, ↓ML.l_mListR, ↓ML.l_mDIn, ↓ML.l_mDPut, ↓ML.l_mDNew, ML.dtD_ref, ML.dtO_dT, ML.keysD_nil, ML.keysD_int, ↓ML.l_mRev2, ↓ML.l_bSum, ↓ML.l_iEnT, ↓ML.l_mSortSet, ↓ML.l_mSNew, ↓ML.l_mSGet, ↓ML.l_mSSetd, ↓ML.l_mKNew, ↓ML.l_mKIn, ↓ML.l_mKGet, ↓ML.l_mKPut, ML.dsD_ref, ML.dsO_dS, ML.dkD_ref, ML.dkO_dK, ML.keyD_i, ↓ML.l_rRepS_l, ↓ML.l_rInX, ↓ML.l_mtIndexX, ↓ML.l_bMinU, ↓ML.l_bMaxU, ↓ML.l_mRevL, ↓ML.l_bSortI, ↓ML.l_rNeX, ↓ML.l_mRaiseF, ↓ML.l_mMkF, ↓ML.l_mIsX, ↓ML.l_mIsXV, ↓ML.l_mIsT, ↓ML.l_mXf, ML.exDX_ref, ML.excX_exc, ML.flds1, ML.flds2, $ls,*] $[$l]?)
set_option hygiene false in
local macro_rules | `(tactic| simp $c:optConfig $[$d:discharger]? only [gz8] $[$l:location]?) => `(tactic| simp $c $[$d]? only [gy1, FL.l_rAdd_rl, FL.l_rAdd_ll, FL.l_rAdd_lr, FL.l_rAdd_rr, FL.in_ints, FL.in_lu, ↓ML.l_mListR, ↓ML.l_mDIn, ↓ML.l_mDPut, ↓ML.l_mDNew, ML.dtD_ref, ML.dtO_dT, ML.keysD_nil, ML.keysD_int, ↓ML.l_mRev2, ↓ML.l_bSum, ↓ML.l_iEnT, ↓ML.l_mSortSet, ↓ML.l_mSNew, ↓ML.l_mSGet, ↓ML.l_mSSetd, ↓ML.l_mKNew, ↓ML.l_mKIn, ↓ML.l_mKGet, ↓ML.l_mKPut, ML.dsD_ref, ML.dsO_dS, ML.dkD_ref, ML.dkO_dK, ML.keyD_i, ↓ML.l_rRepS_l, ↓ML.l_rInX, ↓ML.l_mtIndexX, ↓ML.l_bMinU, ↓ML.l_bMaxU, ↓ML.l_mFld, ↓ML.l_mFldS, ↓ML.l_mMeth, ↓ML.l_mMake, ML.insD_ref, ML.insO_ins, ↓ML.l_bReprO, ↓ML.l_rEqS, ↓ML.l_mListR2, ↓ML.l_bSortX, ↓ML.l_mRevL, ↓ML.l_mInR, ↓ML.l_bSortI, ↓ML.l_rNeX, ↓ML.l_mRaiseF, ↓ML.l_mMkF, ↓ML.l_mIsX, ↓ML.l_mIsXV, ↓ML.l_mIsT, ↓ML.l_mXf, ML.exDX_ref, ML.excX_exc, ML.flds1, ML.flds2, ML.exn_SpotError, ML.exn_NoFraction, ML.exn_NoWall, ML.exn_TooMany, ML.exn_Crossing, ML.exn_Absent, ML.exn_NoText, ML.exn_NoRow, ML.sub_SpotError_SpotError, ML.sub_SpotError_NoFraction, ML.sub_SpotError_NoWall, ML.sub_SpotError_TooMany, ML.sub_SpotError_Crossing, ML.sub_SpotError_Absent, ML.sub_SpotError_NoText, ML.sub_SpotError_NoRow, ML.sub_NoFraction_SpotError, ML.sub_NoFraction_NoFraction, ML.sub_NoFraction_NoWall, ML.sub_NoFraction_TooMany, ML.sub_NoFraction_Crossing, ML.sub_NoFraction_Absent, ML.sub_NoFraction_NoText, ML.sub_NoFraction_NoRow, ML.sub_NoWall_SpotError, ML.sub_NoWall_NoFraction, ML.sub_NoWall_NoWall, ML.sub_NoWall_TooMany, ML.sub_NoWall_Crossing, ML.sub_NoWall_Absent, ML.sub_NoWall_NoText, ML.sub_NoWall_NoRow, ML.sub_TooMany_SpotError, ML.sub_TooMany_NoFraction, ML.sub_TooMany_NoWall, ML.sub_TooMany_TooMany, ML.sub_TooMany_Crossing, ML.sub_TooMany_Absent, ML.sub_TooMany_NoText, ML.sub_TooMany_NoRow, ML.sub_Crossing_SpotError, ML.sub_Crossing_NoFraction, ML.sub_Crossing_NoWall, ML.sub_Crossing_TooMany, ML.sub_Crossing_Crossing, ML.sub_Crossing_Absent, ML.sub_Crossing_NoText, ML.sub_Crossing_NoRow, ML.sub_Absent_SpotError, ML.sub_Absent_NoFraction, ML.sub_Absent_NoWall, ML.sub_Absent_TooMany, ML.sub_Absent_Crossing, ML.sub_Absent_Absent, ML.sub_Absent_NoText, ML.sub_Absent_NoRow, ML.sub_NoText_SpotError, ML.sub_NoText_NoFraction, ML.sub_NoText_NoWall, ML.sub_NoText_TooMany, ML.sub_NoText_Crossing, ML.sub_NoText_Absent, ML.sub_NoText_NoText, ML.sub_NoText_NoRow, ML.sub_NoRow_SpotError, ML.sub_NoRow_NoFraction, ML.sub_NoRow_NoWall, ML.sub_NoRow_TooMany, ML.sub_NoRow_Crossing, ML.sub_NoRow_Absent, ML.sub_NoRow_NoText, ML.sub_NoRow_NoRow] $[$l]?)
set_option hygiene false in
local macro_rules | `(tactic| simp $c:optConfig $[$d:discharger]? only [gz8, $ls,*] $[$l:location]?) => `(tactic| simp $c $[$d]? only [gy1, FL.l_rAdd_rl, FL.l_rAdd_ll, FL.l_rAdd_lr, FL.l_rAdd_rr, FL.in_ints, FL.in_lu, ↓ML.l_mListR, ↓ML.l_mDIn, ↓ML.l_mDPut, ↓ML.l_mDNew, ML.dtD_ref, ML.dtO_dT, ML.keysD_nil, ML.keysD_int, ↓ML.l_mRev2, ↓ML.l_bSum, ↓ML.l_iEnT, ↓ML.l_mSortSet, ↓ML.l_mSNew, ↓ML.l_mSGet, ↓ML.l_mSSetd, ↓ML.l_mKNew, ↓ML.l_mKIn, ↓ML.l_mKGet, ↓ML.l_mKPut, ML.dsD_ref, ML.dsO_dS, ML.dkD_ref, ML.dkO_dK, ML.keyD_i, ↓ML.l_rRepS_l, ↓ML.l_rInX, ↓ML.l_mtIndexX, ↓ML.l_bMinU, ↓ML.l_bMaxU, ↓ML.l_mFld, ↓ML.l_mFldS, ↓ML.l_mMeth, ↓ML.l_mMake, ML.insD_ref, ML.insO_ins, ↓ML.l_bReprO, ↓ML.l_rEqS, ↓ML.l_mListR2, ↓ML.l_bSortX, ↓ML.l_mRevL, ↓ML.l_mInR, ↓ML.l_bSortI, ↓ML.l_rNeX, ↓ML.l_mRaiseF, ↓ML.l_mMkF, ↓ML.l_mIsX, ↓ML.l_mIsXV, ↓ML.l_mIsT, ↓ML.l_mXf, ML.exDX_ref, ML.excX_exc, ML.flds1, ML.flds2, ML.exn_SpotError, ML.exn_NoFraction, ML.exn_NoWall, ML.exn_TooMany, ML.exn_Crossing, ML.exn_Absent, ML.exn_NoText, ML.exn_NoRow, ML.sub_SpotError_SpotError, ML.sub_SpotError_NoFraction, ML.sub_SpotError_NoWall, ML.sub_SpotError_TooMany, ML.sub_SpotError_Crossing, ML.sub_SpotError_Absent, ML.sub_SpotError_NoText, ML.sub_SpotError_NoRow, ML.sub_NoFraction_SpotError, ML.sub_NoFraction_NoFraction, ML.sub_NoFraction_NoWall, ML.sub_NoFraction_TooMany, ML.sub_NoFraction_Crossing, ML.sub_NoFraction_Absent, ML.sub_NoFraction_NoText, ML.sub_NoFraction_NoRow, ML.sub_NoWall_SpotError, ML.sub_NoWall_NoFraction, ML.sub_NoWall_NoWall, ML.sub_NoWall_TooMany, ML.sub_NoWall_Crossing, ML.sub_NoWall_Absent, ML.sub_NoWall_NoText, ML.sub_NoWall_NoRow, ML.sub_TooMany_SpotError, ML.sub_TooMany_NoFraction, ML.sub_TooMany_NoWall, ML.sub_TooMany_TooMany, ML.sub_TooMany_Crossing, ML.sub_TooMany_Absent, ML.sub_TooMany_NoText, ML.sub_TooMany_NoRow, ML.sub_Crossing_SpotError, ML.sub_Crossing_NoFraction, ML.sub_Crossing_NoWall, ML.sub_Crossing_TooMany, ML.sub_Crossing_Crossing, ML.sub_Crossing_Absent, ML.sub_Crossing_NoText, ML.sub_Crossing_NoRow, ML.sub_Absent_SpotError, ML.sub_Absent_NoFraction, ML.sub_Absent_NoWall, ML.sub_Absent_TooMany, ML.sub_Absent_Crossing, ML.sub_Absent_Absent, ML.sub_Absent_NoText, ML.sub_Absent_NoRow, ML.sub_NoText_SpotError, ML.sub_NoText_NoFraction, ML.sub_NoText_NoWall, ML.sub_NoText_TooMany, ML.sub_NoText_Crossing, ML.sub_NoText_Absent, ML.sub_NoText_NoText, ML.sub_NoText_NoRow, ML.sub_NoRow_SpotError, ML.sub_NoRow_NoFraction, ML.sub_NoRow_NoWall, ML.sub_NoRow_TooMany, ML.sub_NoRow_Crossing, ML.sub_NoRow_Absent, ML.sub_NoRow_NoText, ML.sub_NoRow_NoRow, $ls,*] $[$l]?)
namespace ML
open PySem PySem.Spec L2
open PyProof.Rows hiding St
inductive D where
  | non | bl (b : Bool) | int (i : Int) | str (x : Str) | tup (ds : List D) | lst (ds : List D) | scr (ds : List D) | ref (a : Addr)
inductive MO where
  | lst (ds : List D)
  | dK (kvs : List (Key × D))
  | ins (C : Str) (fs : List (Str × D))
  | exc (C : Str) (fs : Option (List (Str × D)))
  | dT (kvs : List (List Key × D))
  | dS (kvs : List (((Int × Int) × (Int × Int)) × D))
  | tbl (at_ : Str × Option Str) (q : Str)
  | dF (o : Obj) (vs : List (Key × V)) (kvs : List (Key × D))
  | dN (kvs : List ((Int × Int × List Int) × D))
abbrev Sto := Addr → Option MO
def put (S : Sto) (a : Addr) (o : MO) : Sto := fun b => if b = a then some o else S b
theorem put_same {S : Sto} {a : Addr} {o : MO} : put S a o a = some o := if_pos rfl
theorem put_ne {S : Sto} {a b : Addr} {o : MO} (h : b ≠ a) : put S a o b = S b := if_neg h
theorem put_put {S : Sto} {a : Addr} {o u : MO} : put (put S a o) a u = put S a u := by
  funext b; unfold put; split <;> rfl
theorem sne {S : Sto} {a b : Addr} {o : MO} (h : S a = some o) (h' : S b = none) : a ≠ b := by
  intro e; subst e; rw [h] at h'; cases h'
theorem put_back {S : Sto} {a : Addr} {o : MO} (h : S a = some o) : put S a o = S := by
  funext b; unfold put; split
  · next e => rw [e, h]
  · rfl
mutual
inductive RD (K : PySem.W.Frag) (H : Hp) (S : Sto) : V → D → Prop
  | non : RD K H S .non .non
  | bl (b : Bool) : RD K H S (.bl b) (.bl b)
  | int (i : Int) : RD K H S (.int i) (.int i)
  | str (x : Str) : RD K H S (.str x) (.str x)
  | ref (a : Addr) : RD K H S (.ref a) (.ref a)
  | tup {a : Addr} {vs : List V} {ds : List D} : Rd H a (.tup vs) → S a = none → RDs K H S vs ds → RD K H S (.ref a) (.tup ds)
  | lst {a : Addr} {vs : List V} {ds : List D} : H a = some (.lst vs) → S a = none → RDs K H S vs ds → RD K H S (.ref a) (.lst ds)
  | scr {a : Addr} {o : Obj} {vs : List V} {ds : List D} : H a = some (.frz o (.lst vs)) → S a = none → RDs K H S vs ds → RD K H S (.ref a) (.scr ds)
  | ktup {a : Addr} {o : Obj} {its : Array Value} {n : Nat} {vs : List V} {ds : List D} : K.lookup a = some o → o.cls = .type "tuple" → o.data = .seq its n → its.size ≤ sizeLine → Vals vs its.toList → RDs K H S vs ds → RD K H S (.ref a) (.tup ds)
  | klst {a : Addr} {o : Obj} {its : Array Value} {n : Nat} {vs : List V} {ds : List D} : K.lookup a = some o → o.cls = .type "list" → o.dict = none → o.data = .seq its n → its.size ≤ sizeLine → Vals vs its.toList → RDs K H S vs ds → RD K H S (.ref a) (.scr ds)
inductive RDs (K : PySem.W.Frag) (H : Hp) (S : Sto) : List V → List D → Prop
  | nil : RDs K H S [] []
  | cons {v : V} {d : D} {vs : List V} {ds : List D} : RD K H S v d → RDs K H S vs ds → RDs K H S (v :: vs) (d :: ds)
end
def Ext (H : Hp) (S : Sto) (H' : Hp) (S' : Sto) : Prop := ∀ a o, H a = some o → S a = none → H' a = some o ∧ S' a = none
theorem Ext.refl {H : Hp} {S : Sto} : Ext H S H S := fun _ _ h n => ⟨h, n⟩
theorem Ext.trans {H H1 H2 : Hp} {S S1 S2 : Sto} (a : Ext H S H1 S1) (b : Ext H1 S1 H2 S2) : Ext H S H2 S2 := fun c o h n =>
  let ⟨h1, n1⟩ := a c o h n
  b c o h1 n1
section
variable {K : PySem.W.Frag} {H H' : Hp} {S S' : Sto}
theorem Ext.rd (e : Ext H S H' S') {a : Addr} {u : HO} (h : Rd H a u) (n : S a = none) : Rd H' a u ∧ S' a = none := by
  rcases h with h | ⟨o, h⟩
  · exact ⟨.inl (e _ _ h n).1, (e _ _ h n).2⟩
  · exact ⟨.inr ⟨o, (e _ _ h n).1⟩, (e _ _ h n).2⟩
mutual
theorem RD.ext (e : Ext H S H' S') : ∀ {v : V} {d : D}, RD K H S v d → RD K H' S' v d
  | _, _, .non => .non
  | _, _, .bl b => .bl b
  | _, _, .int i => .int i
  | _, _, .str x => .str x
  | _, _, .ref a => .ref a
  | _, _, .tup h n r => .tup (e.rd h n).1 (e.rd h n).2 (RDs.ext e r)
  | _, _, .lst h n r => .lst (e _ _ h n).1 (e _ _ h n).2 (RDs.ext e r)
  | _, _, .scr h n r => .scr (e _ _ h n).1 (e _ _ h n).2 (RDs.ext e r)
  | _, _, .ktup a b c d f r => .ktup a b c d f (RDs.ext e r)
  | _, _, .klst a b b' c d f r => .klst a b b' c d f (RDs.ext e r)
theorem RDs.ext (e : Ext H S H' S') : ∀ {vs : List V} {ds : List D}, RDs K H S vs ds → RDs K H' S' vs ds
  | _, _, .nil => .nil
  | _, _, .cons h r => .cons (RD.ext e h) (RDs.ext e r)
end
theorem RDs.length : ∀ {vs : List V} {ds : List D}, RDs K H S vs ds → vs.length = ds.length
  | _, _, .nil => rfl
  | _, _, .cons _ r => congrArg (· + 1) (RDs.length r)
theorem RDs.get : ∀ {vs : List V} {ds : List D} {i : Nat} {d : D}, RDs K H S vs ds → ds[i]? = some d → ∃ v, vs[i]? = some v ∧ RD K H S v d
  | _, _, _, _, .nil, e => by simp at e
  | _, _, 0, _, .cons r _, e => by simp at e; subst e; exact ⟨_, rfl, r⟩
  | _, _, i + 1, d, .cons _ r, e => by
    obtain ⟨v, h1, h2⟩ := RDs.get (i := i) (d := d) r (by simpa using e)
    exact ⟨v, by simpa using h1, h2⟩
theorem RDs.append : ∀ {vs ws : List V} {ds es : List D}, RDs K H S vs ds → RDs K H S ws es → RDs K H S (vs ++ ws) (ds ++ es)
  | _, _, _, _, .nil, s => s
  | _, _, _, _, .cons h r, s => .cons h (RDs.append r s)
theorem RDs.take : ∀ {vs : List V} {ds : List D} (n : Nat), RDs K H S vs ds → RDs K H S (vs.take n) (ds.take n)
  | _, _, 0, _ => by simp only [List.take_zero]; exact .nil
  | _, _, _ + 1, .nil => by simp only [List.take_nil]; exact .nil
  | _, _, n + 1, .cons h r => by simp only [List.take_succ_cons]; exact .cons h (RDs.take n r)
theorem RDs.drop : ∀ {vs : List V} {ds : List D} (n : Nat), RDs K H S vs ds → RDs K H S (vs.drop n) (ds.drop n)
  | _, _, 0, r => by simpa only [List.drop_zero] using r
  | _, _, _ + 1, .nil => by simp only [List.drop_nil]; exact .nil
  | _, _, n + 1, .cons _ r => by simp only [List.drop_succ_cons]; exact RDs.drop n r
theorem RDs.set {v : V} {d : D} (h : RD K H S v d) : ∀ {vs : List V} {ds : List D} (i : Nat), RDs K H S vs ds → RDs K H S (vs.set i v) (ds.set i d)
  | _, _, _, .nil => .nil
  | _, _, 0, .cons _ r => .cons h r
  | _, _, i + 1, .cons q r => .cons q (RDs.set h i r)
theorem RDs.reverse : ∀ {vs : List V} {ds : List D}, RDs K H S vs ds → RDs K H S vs.reverse ds.reverse
  | _, _, .nil => .nil
  | _, _, .cons h r => by simp only [List.reverse_cons]; exact RDs.append (RDs.reverse r) (.cons h .nil)
theorem RDs.dropLast : ∀ {vs : List V} {ds : List D}, RDs K H S vs ds → RDs K H S vs.dropLast ds.dropLast
  | _, _, .nil => .nil
  | _, _, .cons _ .nil => .nil
  | _, _, .cons h (.cons h2 r) => by simp only [List.dropLast_cons₂]; exact .cons h (RDs.dropLast (.cons h2 r))
theorem RDs.of_ints : ∀ {ns : List Int}, RDs K H S (ns.map V.int) (ns.map .int)
  | [] => .nil
  | n :: _ => .cons (.int n) RDs.of_ints
theorem RDs.bls : ∀ {vs : List V} {ns : List Bool}, RDs K H S vs (ns.map .bl) → vs = ns.map V.bl
  | _, [], .nil => rfl
  | _, _ :: _, .cons h r => by cases h; rw [RDs.bls r]; rfl
end
inductive RKs {κ : Type} (K : PySem.W.Frag) (H : Hp) (S : Sto) : List (κ × V) → List (κ × D) → Prop
  | nil : RKs K H S [] []
  | cons {k : κ} {v : V} {d : D} {vs : List (κ × V)} {ds : List (κ × D)} : RD K H S v d → RKs K H S vs ds → RKs K H S ((k, v) :: vs) ((k, d) :: ds)
theorem RKs.ext {κ : Type} {K : PySem.W.Frag} {H H' : Hp} {S S' : Sto} (e : Ext H S H' S') : ∀ {vs : List (κ × V)} {ds : List (κ × D)}, RKs K H S vs ds → RKs K H' S' vs ds
  | _, _, .nil => .nil
  | _, _, .cons h r => .cons (h.ext e) (RKs.ext e r)
theorem RKs.length {κ : Type} {K : PySem.W.Frag} {H : Hp} {S : Sto} : ∀ {vs : List (κ × V)} {ds : List (κ × D)}, RKs K H S vs ds → vs.length = ds.length
  | _, _, .nil => rfl
  | _, _, .cons _ r => congrArg (· + 1) (RKs.length r)
structure MX where
  C : Str
  fs : Option (List (Str × D))
def RX (K : PySem.W.Frag) (H : Hp) (S : Sto) (x : MX) (cls : Value) (d : Option Addr) : Prop :=
  cls = .ref (He.ga K x.C) ∧ match x.fs with
    | none => d = none
    | some fs => ∃ dd vs, d = some dd ∧ H dd = some (.xd vs) ∧ S dd = none ∧ RKs K H S vs fs
theorem RX.ext {K : PySem.W.Frag} {H H' : Hp} {S S' : Sto} {x : MX} {cls : Value} {d : Option Addr} (e : Ext H S H' S') (r : RX K H S x cls d) : RX K H' S' x cls d := by
  obtain ⟨C, fs⟩ := x
  cases fs with
  | none => exact r
  | some fs =>
    obtain ⟨h1, dd, vs, h2, h3, h4, h5⟩ := r
    exact ⟨h1, dd, vs, h2, (e _ _ h3 h4).1, (e _ _ h3 h4).2, h5.ext e⟩
def ExS (cls : Value) (d : Option Addr) (a : Addr) : HO := .ext fun h => ∃ (oe : Obj) (vs : Array Value), h.get? a = some oe ∧ Zc cls d oe ∧ oe.data = .fields vs
abbrev K4 := (Int × Int) × (Int × Int)
def nkey (k : K4) : NestedKey := .tup [.tup [.num k.1.1, .num k.1.2], .tup [.num k.2.1, .num k.2.2]]
def hash4 (k : K4) : Int := reduceHash (Builtin.Tuple.tupleHashOf [reduceHash (Builtin.Tuple.tupleHashOf [hashInt k.1.1, hashInt k.1.2]), reduceHash (Builtin.Tuple.tupleHashOf [hashInt k.2.1, hashInt k.2.2])])
def entry4 (x : K4 × Addr × Value) : DictEntry := ⟨hash4 x.1, .ref x.2.1, x.2.2⟩
def DicS (xs : List (K4 × Addr × Value)) (a : Addr) : HO := .ext fun h => ∃ o es ep, h.get? a = some o ∧ o.ExactDict ∧ o.data = .dict es ep ∧ es.toList = xs.map entry4 ∧ (xs.map (·.1)).Nodup
def k4D (k : K4) : D := .tup [.tup [.int k.1.1, .int k.1.2], .tup [.int k.2.1, .int k.2.2]]
def R4 (K : PySem.W.Frag) (H : Hp) (S : Sto) : List (K4 × D) → List (K4 × Addr × Value) → Prop :=
  Paired fun p q => p.1 = q.1 ∧ RD K H S (.ref q.2.1) (k4D p.1) ∧ ∃ v, RelV v q.2.2 ∧ RD K H S v p.2
theorem R4.ext {K : PySem.W.Frag} {H H' : Hp} {S S' : Sto} (e : Ext H S H' S') {kvs : List (K4 × D)} {xs : List (K4 × Addr × Value)} (r : R4 K H S kvs xs) : R4 K H' S' kvs xs :=
  Paired.mapP r fun _ _ ⟨h1, h2, v, h3, h4⟩ => ⟨h1, h2.ext e, v, h3, h4.ext e⟩
abbrev NK := Int × Int × List Int
def nkN (k : NK) : NestedKey := .tup [.num k.1, .num k.2.1, .tup (k.2.2.map .num)]
def hashN (k : NK) : Int := reduceHash (Builtin.Tuple.tupleHashOf [hashInt k.1, hashInt k.2.1, reduceHash (Builtin.Tuple.tupleHashOf (k.2.2.map hashInt))])
def entryN (x : NK × Addr × Value) : DictEntry := ⟨hashN x.1, .ref x.2.1, x.2.2⟩
def DicN (xs : List (NK × Addr × Value)) (a : Addr) : HO := .ext fun h => ∃ o es ep, h.get? a = some o ∧ o.ExactDict ∧ o.data = .dict es ep ∧ es.toList = xs.map entryN ∧ (xs.map (·.1)).Nodup
def kND (k : NK) : D := .tup [.int k.1, .int k.2.1, .tup (k.2.2.map .int)]
def RN (K : PySem.W.Frag) (H : Hp) (S : Sto) : List (NK × D) → List (NK × Addr × Value) → Prop :=
  Paired fun p q => p.1 = q.1 ∧ RD K H S (.ref q.2.1) (kND p.1) ∧ ∃ v, RelV v q.2.2 ∧ RD K H S v p.2
theorem RN.ext {K : PySem.W.Frag} {H H' : Hp} {S S' : Sto} (e : Ext H S H' S') {kvs : List (NK × D)} {xs : List (NK × Addr × Value)} (r : RN K H S kvs xs) : RN K H' S' kvs xs :=
  Paired.mapP r fun _ _ ⟨h1, h2, v, h3, h4⟩ => ⟨h1, h2.ext e, v, h3, h4.ext e⟩
def codeA (K : PySem.W.Frag) (p : Str × Option Str) : Addr := match K.lookup (He.fAd K p) with
  | some ⟨_, _, .func fd, _⟩ => (match fd.code with
    | .ref c => c
    | _ => 0)
  | _ => 0
def tabA (K : PySem.W.Frag) (p : Str × Option Str) : Addr := match K.lookup (codeA K p) with
  | some ⟨_, _, .fields vs, _⟩ => (match vs.getD 11 .none with
    | .ref P => P
    | _ => 0)
  | _ => 0
def TabG (H : Hp) (P : Addr) (q : Str) (G : Addr → Prop) : Prop := ∃ ps : Array Value, H P = some (.tbl ps) ∧ TriplesOk ps.toList ∧ ∀ (pos : Pos) (cv : Value), codeAmong pos ps.toList = some cv → ∃ c, cv = .ref c ∧ H c = some (LamX.CodeO c q) ∧ G c
def RO (K : PySem.W.Frag) (H : Hp) (S : Sto) (a : Addr) : MO → Prop
  | .tbl p q => a = tabA K p ∧ TabG H a q fun c => S c = none
  | .lst ds => ∃ vs, H a = some (.lst vs) ∧ RDs K H S vs ds
  | .dK kvs => ∃ vs, H a = some (.dK vs) ∧ RKs K H S vs kvs
  | .dF o vs kvs => H a = some (.frz o (.dK vs)) ∧ RKs K H S vs kvs
  | .ins C fs => ∃ dx vs, H a = some (.ins (He.ga K C) dx vs) ∧ RKs K H S vs fs
  | .dT kvs => ∃ vs, H a = some (.dT vs) ∧ RKs K H S vs kvs
  | .dS kvs => ∃ xs, H a = some (DicS xs a) ∧ (a == sysModules) = false ∧ R4 K H S kvs xs
  | .dN kvs => ∃ xs, H a = some (DicN xs a) ∧ (a == sysModules) = false ∧ RN K H S kvs xs
  | .exc C fs => ∃ d, H a = some (ExS (.ref (He.ga K C)) d a) ∧ RX K H S ⟨C, fs⟩ (.ref (He.ga K C)) d
def RSto (K : PySem.W.Frag) (H : Hp) (S : Sto) : Prop := ∀ a o, S a = some o → RO K H S a o
section
variable {K : PySem.W.Frag} {H H' : Hp} {S S' : Sto}
theorem RSto.there (s : RSto K H S) {a : Addr} {o : MO} (h : S a = some o) : ∃ u, H a = some u := by
  have q := s a o h
  cases o with
  | lst ds => obtain ⟨vs, e, _⟩ := q; exact ⟨_, e⟩
  | dK kvs => obtain ⟨vs, e, _⟩ := q; exact ⟨_, e⟩
  | ins C fs => obtain ⟨dx, vs, e, _⟩ := q; exact ⟨_, e⟩
  | exc C fs => obtain ⟨d, e, _⟩ := q; exact ⟨_, e⟩
  | dT kvs => obtain ⟨vs, e, _⟩ := q; exact ⟨_, e⟩
  | dS kvs => obtain ⟨xs, e, _⟩ := q; exact ⟨_, e⟩
  | dN kvs => obtain ⟨xs, e, _⟩ := q; exact ⟨_, e⟩
  | tbl p q' => obtain ⟨_, ps, e, _⟩ := q; exact ⟨_, e⟩
  | dF o vs kvs => exact ⟨_, q.1⟩
theorem RSto.fresh (s : RSto K H S) {a : Addr} (h : H a = none) : S a = none := by
  cases q : S a with
  | none => rfl
  | some o =>
    obtain ⟨u, e⟩ := s.there q
    rw [h] at e; cases e
theorem RO.ext (e : Ext H S H' S') {a : Addr} {o : MO} (h : RO K H S a o) (k : H' a = H a) : RO K H' S' a o := by
  cases o with
  | lst ds => obtain ⟨vs, e1, r⟩ := h; exact ⟨vs, k.trans e1, r.ext e⟩
  | dK kvs => obtain ⟨vs, e1, r⟩ := h; exact ⟨vs, k.trans e1, r.ext e⟩
  | ins C fs => obtain ⟨dx, vs, e1, r⟩ := h; exact ⟨dx, vs, k.trans e1, r.ext e⟩
  | exc C fs => obtain ⟨d, e1, r⟩ := h; exact ⟨d, k.trans e1, r.ext e⟩
  | dT kvs => obtain ⟨vs, e1, r⟩ := h; exact ⟨vs, k.trans e1, r.ext e⟩
  | dS kvs => obtain ⟨xs, e1, e2, r⟩ := h; exact ⟨xs, k.trans e1, e2, r.ext e⟩
  | dN kvs => obtain ⟨xs, e1, e2, r⟩ := h; exact ⟨xs, k.trans e1, e2, r.ext e⟩
  | tbl p q' =>
    obtain ⟨z, ps, e1, e2, e3⟩ := h
    refine ⟨z, ps, k.trans e1, e2, fun pos cv hc => ?_⟩
    obtain ⟨c, c1, c2, c3⟩ := e3 pos cv hc
    exact ⟨c, c1, e _ _ c2 c3⟩
  | dF o vs kvs => exact ⟨k.trans h.1, h.2.ext e⟩
theorem Ext.new (s : RSto K H S) {p : Addr} {u : HO} (h : H p = none) : Ext H S (upd H p u) S := fun a o e n => ⟨by rw [upd_ne (ne_of_none e h)]; exact e, n⟩
theorem RSto.new (s : RSto K H S) {p : Addr} {u : HO} (h : H p = none) : RSto K (upd H p u) S := fun a o e => by
  have ne : a ≠ p := fun z => by rw [z, s.fresh h] at e; cases e
  exact (s a o e).ext (Ext.new s h) (upd_ne ne)
theorem Ext.newS (s : RSto K H S) {p : Addr} {u : HO} {o : MO} (h : H p = none) : Ext H S (upd H p u) (put S p o) := fun a o e n => by
  have ne := ne_of_none e h
  exact ⟨by rw [upd_ne ne]; exact e, by rw [put_ne ne]; exact n⟩
theorem RSto.newS (s : RSto K H S) {p : Addr} {u : HO} {o : MO} (h : H p = none) (r : RO K (upd H p u) (put S p o) p o) : RSto K (upd H p u) (put S p o) := fun a o' e => by
  by_cases ne : a = p
  · subst ne; rw [put_same] at e; cases e; exact r
  · rw [put_ne ne] at e
    exact (s a o' e).ext (Ext.newS s h) (upd_ne ne)
theorem Ext.chg {p : Addr} {u : HO} {o o' : MO} (h : S p = some o') : Ext H S (upd H p u) (put S p o) := fun a o e n => by
  have ne : a ≠ p := fun z => by rw [z, h] at n; cases n
  exact ⟨by rw [upd_ne ne]; exact e, by rw [put_ne ne]; exact n⟩
theorem RSto.chg (s : RSto K H S) {p : Addr} {u : HO} {o o' : MO} (h : S p = some o') (r : RO K (upd H p u) (put S p o) p o) : RSto K (upd H p u) (put S p o) := fun a o' e => by
  by_cases ne : a = p
  · subst ne; rw [put_same] at e; cases e; exact r
  · rw [put_ne ne] at e
    exact (s a o' e).ext (Ext.chg h) (upd_ne ne)
def lstOf (S : Sto) : D → Option (List D)
  | .lst ds => some ds
  | .scr ds => some ds
  | .ref p => match S p with
    | some (.lst ds) => some ds
    | _ => none
  | _ => none
def ownOf (S : Sto) : D → Option (List D)
  | .lst ds => some ds
  | .ref p => match S p with
    | some (.lst ds) => some ds
    | _ => none
  | _ => none
theorem lst_store {S : Sto} {p : Addr} {ds : List D} (h : (match S p with
    | some (.lst ds) => some ds
    | _ => none) = some ds) : S p = some (.lst ds) := by
  cases e : S p with
  | none => rw [e] at h; cases h
  | some o =>
    rw [e] at h
    cases o with
    | lst xs => cases h; rfl
    | _ => cases h
theorem own_sq (s : RSto K H S) {v : V} {d : D} {ds : List D} (r : RD K H S v d) (h : ownOf S d = some ds) : ∃ a vs, v = .ref a ∧ H a = some (.lst vs) ∧ RDs K H S vs ds := by
  cases d with
  | lst xs => cases h; cases r with | lst h n r => exact ⟨_, _, rfl, h, r⟩
  | ref p =>
    cases r
    obtain ⟨vs, e1, r⟩ := s p _ (lst_store h)
    exact ⟨p, vs, rfl, e1, r⟩
  | _ => cases h
theorem lst_sq (s : RSto K H S) {v : V} {d : D} {ds : List D} (r : RD K H S v d) (h : lstOf S d = some ds) : ∃ a vs, v = .ref a ∧ SqL K H a vs ∧ RDs K H S vs ds := by
  cases d with
  | lst xs => cases h; cases r with | lst h n r => exact ⟨_, _, rfl, .inl (.inl h), r⟩
  | scr xs =>
    cases h
    cases r with
    | scr h n r => exact ⟨_, _, rfl, .inl (.inr ⟨_, h⟩), r⟩
    | klst h1 h2 h3 h4 h5 h6 r => exact ⟨_, _, rfl, .inr ⟨_, _, _, h1, h2, h3, h4, h5, h6⟩, r⟩
  | ref p =>
    cases r
    obtain ⟨vs, e1, r⟩ := s p _ (lst_store h)
    exact ⟨p, vs, rfl, .inl (.inl e1), r⟩
  | _ => cases h
theorem RD.tupSq {v : V} {ds : List D} (r : RD K H S v (.tup ds)) : ∃ a vs, v = .ref a ∧ SqT K H a vs ∧ RDs K H S vs ds := by
  cases r with
  | tup h n r => exact ⟨_, _, rfl, .inl h, r⟩
  | ktup h1 h2 h3 h4 h5 r => exact ⟨_, _, rfl, .inr ⟨_, _, _, h1, h2, h3, h4, h5⟩, r⟩
end
abbrev MSt := List (Option D)
inductive RSt (K : PySem.W.Frag) (H : Hp) (S : Sto) : St → MSt → Prop
  | nil : RSt K H S [] []
  | vac {o : Option V} {σ : St} {m : MSt} : RSt K H S σ m → RSt K H S (o :: σ) (Option.none :: m)
  | val {v : V} {d : D} {σ : St} {m : MSt} : RD K H S v d → RSt K H S σ m → RSt K H S (Option.some v :: σ) (Option.some d :: m)
section
variable {K : PySem.W.Frag} {H H' : Hp} {S S' : Sto}
theorem RSt.ext (e : Ext H S H' S') : ∀ {σ : St} {m : MSt}, RSt K H S σ m → RSt K H' S' σ m
  | _, _, .nil => .nil
  | _, _, .vac r => .vac (RSt.ext e r)
  | _, _, .val h r => .val (h.ext e) (RSt.ext e r)
theorem RSt.get : ∀ {σ : St} {m : MSt} {i : Nat} {d : D}, RSt K H S σ m → m[i]? = some (some d) → ∃ v, σ[i]? = some (some v) ∧ RD K H S v d
  | _, _, _, _, .nil, e => by simp at e
  | _, _, 0, _, .vac _, e => by simp at e
  | _, _, 0, _, .val h _, e => by simp at e; subst e; exact ⟨_, rfl, h⟩
  | _, _, i + 1, d, .vac r, e => by
    obtain ⟨v, h1, h2⟩ := RSt.get (i := i) (d := d) r (by simpa using e)
    exact ⟨v, by simpa using h1, h2⟩
  | _, _, i + 1, d, .val _ r, e => by
    obtain ⟨v, h1, h2⟩ := RSt.get (i := i) (d := d) r (by simpa using e)
    exact ⟨v, by simpa using h1, h2⟩
theorem RSt.set {v : V} {d : D} (h : RD K H S v d) : ∀ {σ : St} {m : MSt} (i : Nat), RSt K H S σ m → RSt K H S (σ.set i (some v)) (m.set i (some d))
  | _, _, _, .nil => .nil
  | _, _, 0, .vac r => .val h r
  | _, _, 0, .val _ r => .val h r
  | _, _, i + 1, .vac r => .vac (RSt.set h i r)
  | _, _, i + 1, .val q r => .val q (RSt.set h i r)
theorem RSt.unset : ∀ {σ : St} {m : MSt} (i : Nat) (o : Option V), RSt K H S σ m → RSt K H S (σ.set i o) (m.set i none)
  | _, _, _, _, .nil => .nil
  | _, _, 0, _, .vac r => .vac r
  | _, _, 0, _, .val _ r => .vac r
  | _, _, i + 1, o, .vac r => .vac (RSt.unset i o r)
  | _, _, i + 1, o, .val q r => .val q (RSt.unset i o r)
theorem RSt.nones : ∀ n : Nat, RSt K H S (List.replicate n Option.none) (List.replicate n Option.none)
  | 0 => .nil
  | n + 1 => .vac (RSt.nones n)
theorem RSt.start {vs : List V} {ds : List D} (n : Nat) (r : RDs K H S vs ds) : RSt K H S (vs.map Option.some ++ List.replicate n Option.none) (ds.map Option.some ++ List.replicate n Option.none) := by
  induction vs generalizing ds with
  | nil => cases r; exact RSt.nones n
  | cons v vs ih =>
    cases r with
    | cons h r => exact .val h (ih r)
end
abbrev MQ := D → Sto → Prop
abbrev MXQ := MX → Sto → Prop
abbrev ME := MSt → Sto → MQ → MXQ → Prop
abbrev MT := MSt → Sto → (Bool → Sto → Prop) → MXQ → Prop
abbrev MA := MSt → Sto → (List D → Sto → Prop) → MXQ → Prop
structure MEnds where
  nx : MSt → Sto → Prop
  rt : MQ
  bk : MSt → Sto → Prop := fun _ _ => False
  ct : MSt → Sto → Prop := fun _ _ => False
  ex : MX → MSt → Sto → Prop := fun _ _ _ => False
abbrev MS := MEnds → MSt → Sto → Prop
abbrev MSp := List D → Sto → MQ → MXQ → Prop
section
variable (K : PySem.W.Frag) (H : Hp) (S : Sto)
def Ref (Qm : MQ) (Q : V → Hp → Prop) : Prop := ∀ d S' v H', Qm d S' → Ext H S H' S' → RSto K H' S' → RD K H' S' v d → Q v H'
def RefA (Qm : List D → Sto → Prop) (Q : List V → Hp → Prop) : Prop := ∀ ds S' vs H', Qm ds S' → Ext H S H' S' → RSto K H' S' → RDs K H' S' vs ds → Q vs H'
def RefT (Qm : Bool → Sto → Prop) (Q : Bool → Hp → Prop) : Prop := ∀ b S' H', Qm b S' → Ext H S H' S' → RSto K H' S' → Q b H'
def RefN (Qm : MSt → Sto → Prop) (Q : St → Hp → Prop) : Prop := ∀ m S' σ H', Qm m S' → Ext H S H' S' → RSto K H' S' → RSt K H' S' σ m → Q σ H'
def RefX (Em : MXQ) (E : XK) : Prop := ∀ x S' cls d H', Em x S' → Ext H S H' S' → RSto K H' S' → RX K H' S' x cls d → E cls d H'
def RefW (Em : MX → MSt → Sto → Prop) (W : WX) : Prop := ∀ x m S' cls d σ H', Em x m S' → Ext H S H' S' → RSto K H' S' → RSt K H' S' σ m → RX K H' S' x cls d → W cls d σ H'
structure RefE (Dm : MEnds) (D : Ends) (W : WX) : Prop where
  nx : RefN K H S Dm.nx D.nx
  rt : Ref K H S Dm.rt D.rt
  bk : RefN K H S Dm.bk D.bk
  ct : RefN K H S Dm.ct D.ct
  ex : RefW K H S Dm.ex W
end
section
variable {K : PySem.W.Frag} {H H' : Hp} {S S' : Sto}
theorem Ref.ext {Qm : MQ} {Q : V → Hp → Prop} (r : Ref K H S Qm Q) (e : Ext H S H' S') : Ref K H' S' Qm Q := fun d S1 v H1 q e1 s h => r d S1 v H1 q (e.trans e1) s h
theorem RefA.ext {Qm : List D → Sto → Prop} {Q : List V → Hp → Prop} (r : RefA K H S Qm Q) (e : Ext H S H' S') : RefA K H' S' Qm Q := fun d S1 v H1 q e1 s h => r d S1 v H1 q (e.trans e1) s h
theorem RefT.ext {Qm : Bool → Sto → Prop} {Q : Bool → Hp → Prop} (r : RefT K H S Qm Q) (e : Ext H S H' S') : RefT K H' S' Qm Q := fun d S1 H1 q e1 s => r d S1 H1 q (e.trans e1) s
theorem RefN.ext {Qm : MSt → Sto → Prop} {Q : St → Hp → Prop} (r : RefN K H S Qm Q) (e : Ext H S H' S') : RefN K H' S' Qm Q := fun d S1 v H1 q e1 s h => r d S1 v H1 q (e.trans e1) s h
theorem RefX.ext {Em : MXQ} {E : XK} (r : RefX K H S Em E) (e : Ext H S H' S') : RefX K H' S' Em E := fun x S1 c d H1 q e1 s h => r x S1 c d H1 q (e.trans e1) s h
theorem RefW.ext {Em : MX → MSt → Sto → Prop} {W : WX} (r : RefW K H S Em W) (e : Ext H S H' S') : RefW K H' S' Em W := fun x m S1 c d σ H1 q e1 s h1 h => r x m S1 c d σ H1 q (e.trans e1) s h1 h
theorem RefE.ext {Dm : MEnds} {D : Ends} {W : WX} (r : RefE K H S Dm D W) (e : Ext H S H' S') : RefE K H' S' Dm D W := ⟨r.nx.ext e, r.rt.ext e, r.bk.ext e, r.ct.ext e, r.ex.ext e⟩
end
section
variable (K : PySem.W.Frag) (W : WX)
def upE (m : ME) : TE := fun σ H Q => ∃ mσ S Qm Em, RSt K H S σ mσ ∧ RSto K H S ∧ m mσ S Qm Em ∧ Ref K H S Qm Q ∧ RefX K H S Em (fun c d H' => W c d σ H')
def upT (m : MT) : TT := fun σ H Q => ∃ mσ S Qm Em, RSt K H S σ mσ ∧ RSto K H S ∧ m mσ S Qm Em ∧ RefT K H S Qm Q ∧ RefX K H S Em (fun c d H' => W c d σ H')
def upA (m : MA) : TA := fun σ H Q => ∃ mσ S Qm Em, RSt K H S σ mσ ∧ RSto K H S ∧ m mσ S Qm Em ∧ RefA K H S Qm Q ∧ RefX K H S Em (fun c d H' => W c d σ H')
def upS (m : MS) : TS := fun D σ H => ∃ mσ S Dm, RSt K H S σ mσ ∧ RSto K H S ∧ m Dm mσ S ∧ RefE K H S Dm D W
end
def upSp (K : PySem.W.Frag) (sp : MSp) : Sp := fun vs H Q E => ∃ ds S Qm Em, RDs K H S vs ds ∧ RSto K H S ∧ sp ds S Qm Em ∧ Ref K H S Qm Q ∧ RefX K H S Em E
end ML
namespace L2
open PySem PySem.Spec
section
variable {X : Cx}
theorem PE.to {e : Expr} {t t' : TE} (h : PE X e t) (i : ∀ σ H Q, t' σ H Q → t σ H Q) : PE X e t' := ⟨fun pins s σ H Q I q => h.run pins s σ H Q I (i σ H Q q)⟩
theorem PT.to {e : Expr} {t t' : TT} (h : PT X e t) (i : ∀ σ H Q, t' σ H Q → t σ H Q) : PT X e t' := ⟨fun pins s σ H Q I q => h.run pins s σ H Q I (i σ H Q q)⟩
theorem PW.to {e : Expr} {t t' : TT} (h : PW X e t) (i : ∀ σ H Q, t' σ H Q → t σ H Q) : PW X e t' := ⟨fun w pins s σ H Q I q => h.run w pins s σ H Q I (i σ H Q q)⟩
theorem PA.to {e : List Expr} {t t' : TA} (h : PA X e t) (i : ∀ σ H Q, t' σ H Q → t σ H Q) : PA X e t' := ⟨fun pos pins s σ H Q I q => h.run pos pins s σ H Q I (i σ H Q q)⟩
theorem PS.to {st : Stmt} {t t' : TS} (h : PS X st t) (i : ∀ D σ H, t' D σ H → t D σ H) : PS X st t' := ⟨fun pins s σ H D I q => h.run pins s σ H D I (i D σ H q)⟩
theorem PSs.to {st : List Stmt} {t t' : TS} (h : PSs X st t) (i : ∀ D σ H, t' D σ H → t D σ H) : PSs X st t' := ⟨fun pins s σ H D I q => h.run pins s σ H D I (i D σ H q)⟩
end
end L2
set_option maxRecDepth 100000
namespace ML
open PySem PySem.Spec L2
open PyProof.Rows hiding St
section
variable {X : Cx} {W : WX} {a b c e : Expr} {ma mb mc m : ME} {pos : Pos}
def mVar (i : Nat) : ME := fun σ S Q _ => match σ[i]? with
  | some (some d) => Q d S
  | _ => False
theorem mVar_at {i : Nat} {σ : MSt} {S : Sto} {Q : MQ} {E : MXQ} (h : mVar i σ S Q E) : ∃ d, σ[i]? = some (some d) ∧ Q d S := by
  unfold mVar at h
  split at h
  · next d e => exact ⟨d, e, h⟩
  · exact h.elim
theorem ev (i : Nat) {x : Str} {pos : Pos} (hN : X.N[i]? = some x := by rfl) (hv : Vis X.env.scope x := by first | exact Or.inl rfl | exact Or.inr (Or.inl rfl) | exact Or.inr (Or.inr rfl)) (hd : (x == ("__debug__" : Str)) = false := by decide)
    (hcd : (x == ("__classdict__" : Str)) = false := by decide) : PE X (.Name x pos) (upE X.K W (mVar i)) := (pv i hN hv hd hcd).to fun σ H Q ⟨m, S, Qm, Em, h1, h2, h3, h4, _⟩ => by
  obtain ⟨d, e, q⟩ := mVar_at h3
  obtain ⟨v, e1, r⟩ := h1.get e
  exact ⟨v, e1, h4 d S v H q Ext.refl h2 r⟩
def mC (d : D) : ME := fun _ S Q _ => Q d S
theorem mC_to {v : V} {d : D} (r : ∀ K H S, RD K H S v d) : ∀ σ H Q, upE X.K W (mC d) σ H Q → tC v σ H Q := fun σ H Q ⟨m, S, Qm, Em, h1, h2, h3, h4, _⟩ => h4 d S v H h3 Ext.refl h2 (r _ _ _)
theorem eint {i j pos} : PE X (.Constant (.int i) j pos) (upE X.K W (mC (.int i))) := pe_int.to (mC_to fun _ _ _ => .int i)
theorem ebl {i j pos} : PE X (.Constant (.bool i) j pos) (upE X.K W (mC (.bl i))) := pe_bl.to (mC_to fun _ _ _ => .bl i)
theorem enon {j pos} : PE X (.Constant .none j pos) (upE X.K W (mC .non)) := pe_non.to (mC_to fun _ _ _ => .non)
theorem estr {i j pos} : PE X (.Constant (.str i) j pos) (upE X.K W (mC (.str i))) := pe_str.to (mC_to fun _ _ _ => .str i)
theorem eglob {x : Str} {v : V} {d : D} {u : Value} {pos : Pos} (r : ∀ K H S, RD K H S v d) (rv : RelV v u) (hm : X.mg x = some u) (hg : Gl X x := by rfl) (hd : (x == ("__debug__" : Str)) = false := by decide) : PE X (.Name x pos) (upE X.K W (mC d)) :=
  (pe_glob hg hm rv hd).to (mC_to r)
abbrev R2m := D → D → Sto → MQ → Prop
def OpL (K : PySem.W.Frag) (r : R2) (rm : R2m) : Prop := ∀ (H : Hp) (S : Sto) (x y : V) (d e : D) (Qm : MQ) (Q : VK), RSto K H S → RD K H S x d → RD K H S y e → rm d e S Qm → Ref K H S Qm Q → r x y H Q
def mOp (rm : R2m) (ma mb : ME) : ME := fun σ S Q E => ma σ S (fun d S1 => mb σ S1 (fun e S2 => rm d e S2 Q) E) E
theorem op_to {r : R2} {rm : R2m} (hl : OpL X.K r rm) (σ : L2.St) (H : Hp) (Q : VK) (h : upE X.K W (mOp rm ma mb) σ H Q) : tOp r (upE X.K W ma) (upE X.K W mb) σ H Q := by
  obtain ⟨m, S, Qm, Em, h1, h2, h3, h4, h5⟩ := h
  refine ⟨m, S, _, Em, h1, h2, h3, fun d S1 x H1 q1 e1 s1 r1 => ⟨m, S1, _, Em, h1.ext e1, s1, q1, fun e S2 y H2 q2 e2 s2 r2 => ?_, h5.ext e1⟩, h5⟩
  exact hl H2 S2 x y d e Qm Q s2 (r1.ext e2) r2 q2 (h4.ext (e1.trans e2))
theorem eop {op : Operator} {r : R2} {rm : R2m} (ho : OpR X (binaryOp op) r) (hl : OpL X.K r rm) (ha : PE X a (upE X.K W ma)) (hb : PE X b (upE X.K W mb)) : PE X (.BinOp a op b pos) (upE X.K W (mOp rm ma mb)) := (pe_op ho ha hb).to (op_to hl)
def rInt (C : Int → Int → Prop) (g : Int → Int → D) : R2m := fun d e S Q => match d, e with
  | .int i, .int j => C i j ∧ Q (g i j) S
  | _, _ => False
def rInt0 (g : Int → Int → D) : R2m := fun d e S Q => match d, e with
  | .int i, .int j => Q (g i j) S
  | _, _ => False
theorem rInt_at {C : Int → Int → Prop} {g : Int → Int → D} {d e : D} {S : Sto} {Q : MQ} (h : rInt C g d e S Q) : ∃ i j, d = .int i ∧ e = .int j ∧ C i j ∧ Q (g i j) S := by
  unfold rInt at h
  split at h
  · exact ⟨_, _, rfl, rfl, h⟩
  · exact h.elim
theorem rInt0_at {g : Int → Int → D} {d e : D} {S : Sto} {Q : MQ} (h : rInt0 g d e S Q) : ∃ i j, d = .int i ∧ e = .int j ∧ Q (g i j) S := by
  unfold rInt0 at h
  split at h
  · exact ⟨_, _, rfl, rfl, h⟩
  · exact h.elim
theorem opl_int {K : PySem.W.Frag} {C : Int → Int → Prop} {g : Int → Int → V} {gm : Int → Int → D} (r : ∀ i j H S, RD K H S (g i j) (gm i j)) : OpL K (rI C g) (rInt C gm) := fun H S x y d e Qm Q s rx ry h k => by
  obtain ⟨i, j, rfl, rfl, hc, q⟩ := rInt_at h
  cases rx; cases ry
  exact ⟨i, j, rfl, rfl, hc, k _ S _ H q Ext.refl s (r ..)⟩
theorem opl_int0 {K : PySem.W.Frag} {g : Int → Int → V} {gm : Int → Int → D} (r : ∀ i j H S, RD K H S (g i j) (gm i j)) : OpL K (rI0 g) (rInt0 gm) := fun H S x y d e Qm Q s rx ry h k => by
  obtain ⟨i, j, rfl, rfl, q⟩ := rInt0_at h
  cases rx; cases ry
  exact ⟨i, j, rfl, rfl, k _ S _ H q Ext.refl s (r ..)⟩
abbrev rSub : R2m := rInt0 fun i j => .int (i - j)
abbrev rMul : R2m := rInt IntMulOk fun i j => .int (i * j)
def DivOk (i j : Int) : Prop := j ≠ 0 ∧ Builtin.divisionGoesByPylong i j = false
abbrev rDiv : R2m := rInt DivOk fun i j => .int (i.fdiv j)
abbrev rMod : R2m := rInt (fun _ j => j ≠ 0) fun i j => .int (i.fmod j)
abbrev rPow : R2m := rInt CPow fun i j => .int (i ^ j.toNat)
theorem esub (ha : PE X a (upE X.K W ma)) (hb : PE X b (upE X.K W mb)) : PE X (.BinOp a .Sub b pos) (upE X.K W (mOp rSub ma mb)) := eop op_sub (opl_int0 fun _ _ _ _ => .int _) ha hb
theorem emul (ha : PE X a (upE X.K W ma)) (hb : PE X b (upE X.K W mb)) : PE X (.BinOp a .Mult b pos) (upE X.K W (mOp rMul ma mb)) :=
  eop (opI (C := IntMulOk) fun _ _ _ _ _ _ _ hc q => mul_int q hc) (opl_int fun _ _ _ _ => .int _) ha hb
theorem ediv (ha : PE X a (upE X.K W ma)) (hb : PE X b (upE X.K W mb)) : PE X (.BinOp a .FloorDiv b pos) (upE X.K W (mOp rDiv ma mb)) :=
  eop (opI (C := DivOk) fun _ _ _ _ _ _ _ hc q => floordiv_int hc.1 q (.inl hc.2)) (opl_int fun _ _ _ _ => .int _) ha hb
theorem emod (ha : PE X a (upE X.K W ma)) (hb : PE X b (upE X.K W mb)) : PE X (.BinOp a .Mod b pos) (upE X.K W (mOp rMod ma mb)) := eop op_modN (opl_int fun _ _ _ _ => .int _) ha hb
theorem epow (ha : PE X a (upE X.K W ma)) (hb : PE X b (upE X.K W mb)) : PE X (.BinOp a .Pow b pos) (upE X.K W (mOp rPow ma mb)) := eop op_pow (opl_int fun _ _ _ _ => .int _) ha hb
def rAdd : R2m := fun d e S Q => match d, e with
  | .int i, .int j => Q (.int (i + j)) S
  | .str x, .str y => x.length + y.length ≤ sizeLine ∧ Q (.str (x ++ y)) S
  | .tup xs, .tup ys => (xs ≠ [] ∧ xs.length + ys.length ≤ sizeLine) ∧ Q (.tup (xs ++ ys)) S
  | d, e => match ownOf S d, ownOf S e with
    | some xs, some ys => xs.length + ys.length ≤ sizeLine ∧ Q (.lst (xs ++ ys)) S
    | _, _ => False
theorem op_addAll : OpR X (binaryOp .Add) (fun x y H Q => rI0 (fun i j => .int (i + j)) x y H Q ∨ ((∃ i j, x = .str i ∧ y = .str j ∧ i.length + j.length ≤ sizeLine ∧ Q (.str (i ++ j)) H) ∨ (rCatT X.K x y H Q ∨ rCat x y H Q))) := op_add.or (op_add_str.or (op_catT.or op_cat))
theorem rAdd_at {d e : D} {S : Sto} {Q : MQ} (h : rAdd d e S Q) : (∃ i j, d = .int i ∧ e = .int j ∧ Q (.int (i + j)) S) ∨ (∃ x y, d = .str x ∧ e = .str y ∧ x.length + y.length ≤ sizeLine ∧ Q (.str (x ++ y)) S) ∨
    (∃ xs ys, d = .tup xs ∧ e = .tup ys ∧ (xs ≠ [] ∧ xs.length + ys.length ≤ sizeLine) ∧ Q (.tup (xs ++ ys)) S) ∨ ∃ xs ys, ownOf S d = some xs ∧ ownOf S e = some ys ∧ xs.length + ys.length ≤ sizeLine ∧ Q (.lst (xs ++ ys)) S := by
  unfold rAdd at h
  split at h
  · exact .inl ⟨_, _, rfl, rfl, h⟩
  · exact .inr (.inl ⟨_, _, rfl, rfl, h⟩)
  · exact .inr (.inr (.inl ⟨_, _, rfl, rfl, h⟩))
  · split at h
    · next e1 e2 => exact .inr (.inr (.inr ⟨_, _, e1, e2, h⟩))
    · exact h.elim
theorem eadd (ha : PE X a (upE X.K W ma)) (hb : PE X b (upE X.K W mb)) : PE X (.BinOp a .Add b pos) (upE X.K W (mOp rAdd ma mb)) := by
  refine eop op_addAll (fun H S x y d e Qm Q s rx ry h k => ?_) ha hb
  rcases rAdd_at h with ⟨i, j, rfl, rfl, q⟩ | ⟨i, j, rfl, rfl, hz, q⟩ | ⟨xs, ys, rfl, rfl, ⟨hne, hz⟩, q⟩ | ⟨xs, ys, e1, e2, hz, q⟩
  · cases rx; cases ry
    exact .inl ⟨i, j, rfl, rfl, k _ S _ H q Ext.refl s (.int _)⟩
  · cases rx; cases ry
    exact .inr (.inl ⟨i, j, rfl, rfl, hz, k _ S _ H q Ext.refl s (.str _)⟩)
  · obtain ⟨p, vs, rfl, h1, r1⟩ := rx.tupSq
    obtain ⟨p2, ws, rfl, h2, r2⟩ := ry.tupSq
    have l1 := r1.length
    have l2 := r2.length
    refine .inr (.inr (.inl ⟨p, p2, vs, ws, rfl, rfl, h1, h2, fun z => hne (List.length_eq_zero_iff.mp (by rw [← l1, z]; rfl)), by omega, ?_⟩))
    refine ⟨fun z => ?_, fun _ q' hq => k _ S _ _ q (Ext.new s hq) (s.new hq) (.tup (.inl upd_same) (s.fresh hq) ((r1.append r2).ext (Ext.new s hq)))⟩
    subst z
    cases r2
    rw [List.append_nil] at q
    exact k _ S _ H q Ext.refl s rx
  · obtain ⟨p, vs, rfl, h1, r1⟩ := own_sq s rx e1
    obtain ⟨p2, ws, rfl, h2, r2⟩ := own_sq s ry e2
    have l1 := r1.length
    have l2 := r2.length
    refine .inr (.inr (.inr ⟨p, p2, vs, ws, rfl, rfl, h1, h2, by omega, fun q' hq => ?_⟩))
    exact k _ S _ _ q (Ext.new s hq) (s.new hq) (.lst upd_same (s.fresh hq) ((r1.append r2).ext (Ext.new s hq)))
def UnL (K : PySem.W.Frag) (r : V → Hp → VK → Prop) (rm : D → Sto → MQ → Prop) : Prop := ∀ (H : Hp) (S : Sto) (x : V) (d : D) (Qm : MQ) (Q : VK), RSto K H S → RD K H S x d → rm d S Qm → Ref K H S Qm Q → r x H Q
def mUn (rm : D → Sto → MQ → Prop) (ma : ME) : ME := fun σ S Q E => ma σ S (fun d S1 => rm d S1 Q) E
theorem eun {op : UnaryOp} {r : V → Hp → VK → Prop} {rm : D → Sto → MQ → Prop} (ho : UnR X (unaryOp op) r) (hl : UnL X.K r rm) (ha : PE X a (upE X.K W ma)) : PE X (.UnaryOp op a pos) (upE X.K W (mUn rm ma)) :=
  (pe_un ho ha).to fun σ H Q ⟨m, S, Qm, Em, h1, h2, h3, h4, h5⟩ => ⟨m, S, _, Em, h1, h2, h3, fun d S1 x H1 q1 e1 s1 r1 => hl H1 S1 x d Qm Q s1 r1 q1 (h4.ext e1), h5⟩
def rNeg : D → Sto → MQ → Prop := fun d S Q => match d with
  | .int i => Q (.int (-i)) S
  | _ => False
theorem eneg (ha : PE X a (upE X.K W ma)) : PE X (.UnaryOp .USub a pos) (upE X.K W (mUn rNeg ma)) := eun un_neg (fun H S x d Qm Q s r h k => by
  unfold rNeg at h
  split at h
  · cases r; exact ⟨_, rfl, k _ S _ H h Ext.refl s (.int _)⟩
  · exact h.elim) ha
abbrev rLt : R2m := rInt0 fun i j => .bl (decide (i < j))
abbrev rLe : R2m := rInt0 fun i j => .bl (decide (i ≤ j))
abbrev rGt : R2m := rInt0 fun i j => .bl (decide (j < i))
abbrev rGe : R2m := rInt0 fun i j => .bl (decide (j ≤ i))
theorem ecmp {op : CmpOp} {r : R2} {rm : R2m} (ho : OpR X (compareOp op) r) (hl : OpL X.K r rm) (ha : PE X a (upE X.K W ma)) (hb : PE X b (upE X.K W mb)) (hm : behindInMarks op b = false := by first | exact nomark _ | with_unfolding_all rfl) :
    PE X (.Compare a [op] [b] pos) (upE X.K W (mOp rm ma mb)) := (pe_cmpR ho ha hb hm).to (op_to hl)
def mTst (m : ME) : MT := fun σ S Q E => m σ S (fun d S1 => match d with
  | .bl k => Q k S1
  | _ => False) E
theorem tst_to {t : TE} (i : ∀ σ H Q, upE X.K W m σ H Q → t σ H Q) (σ : L2.St) (H : Hp) (Q : Bool → Hp → Prop) (h : upT X.K W (mTst m) σ H Q) : tTest t σ H Q := by
  obtain ⟨mσ, S, Qm, Em, h1, h2, h3, h4, h5⟩ := h
  refine i σ H _ ⟨mσ, S, _, Em, h1, h2, h3, fun d S1 x H1 q1 e1 s1 r1 => ?_, h5⟩
  cases d with
  | bl k => cases r1; exact ⟨k, rfl, h4 k S1 H1 q1 e1 s1⟩
  | _ => exact q1.elim
theorem tcmp {op : CmpOp} {r : R2} {rm : R2m} (ho : OpR X (compareOp op) r) (hl : OpL X.K r rm) (ha : PE X a (upE X.K W ma)) (hb : PE X b (upE X.K W mb)) (hm : behindInMarks op b = false := by first | exact nomark _ | with_unfolding_all rfl) :
    PT X (.Compare a [op] [b] pos) (upT X.K W (mTst (mOp rm ma mb))) := (pt_cmpR ho ha hb hm).to (tst_to (op_to hl))
def mChain (r r' : R2m) (ma mb mc : ME) : ME := fun σ S Q E => ma σ S (fun x S1 => mb σ S1 (fun y S2 => r x y S2 fun z S3 => match z with
  | .bl k => if k = true then mc σ S3 (fun w S4 => r' y w S4 Q) E else Q (.bl false) S3
  | _ => False) E) E
def isN : D → Bool
  | .non => true
  | _ => false
theorem isN_eq {K : PySem.W.Frag} {H : Hp} {S : Sto} {v : V} {d : D} (r : RD K H S v d) : decide (v = .non) = isN d := by
  cases r <;> simp [isN]
def rIsN : R2m := fun d e S Q => match e with
  | .non => Q (.bl (isN d)) S
  | _ => False
def rNotN : R2m := fun d e S Q => match e with
  | .non => Q (.bl (!isN d)) S
  | _ => False
theorem ol_isN : OpL X.K (fun x y H Q => y = .non ∧ Q (.bl (decide (x = .non))) H) rIsN := fun H S x y d e Qm Q s rx ry h k => by
  unfold rIsN at h
  split at h
  · cases ry; refine ⟨rfl, k _ S _ H h Ext.refl s ?_⟩; rw [isN_eq rx]; exact .bl _
  · exact h.elim
theorem ol_notN : OpL X.K (fun x y H Q => y = .non ∧ Q (.bl (!decide (x = .non))) H) rNotN := fun H S x y d e Qm Q s rx ry h k => by
  unfold rNotN at h
  split at h
  · cases ry; refine ⟨rfl, k _ S _ H h Ext.refl s ?_⟩; rw [isN_eq rx]; exact .bl _
  · exact h.elim
variable {tA tB' tA' : MT} {rest : List Expr}
def mAnd (t u : MT) : MT := fun σ S Q E => t σ S (fun c S1 => if c = true then u σ S1 Q E else Q false S1) E
def mOr (t u : MT) : MT := fun σ S Q E => t σ S (fun c S1 => if c = true then Q true S1 else u σ S1 Q E) E
def mNot (t : MT) : MT := fun σ S Q E => t σ S (fun c S1 => Q (!c) S1) E
theorem wand1 (ha : PT X a (upT X.K W tA)) : PW X (.BoolOp .And [a] pos) (upT X.K W tA) := pw_and1 ha
theorem wor1 (ha : PT X a (upT X.K W tA)) : PW X (.BoolOp .Or [a] pos) (upT X.K W tA) := pw_or1 ha
theorem wand (ha : PT X a (upT X.K W tA)) (hb : PW X (.BoolOp .And (b :: rest) pos) (upT X.K W tB')) : PW X (.BoolOp .And (a :: b :: rest) pos) (upT X.K W (mAnd tA tB')) :=
  (pw_and ha hb).to fun σ H Q ⟨m, S, Qm, Em, h1, h2, h3, h4, h5⟩ => ⟨m, S, _, Em, h1, h2, h3, fun k S1 H1 q1 e1 s1 => by
    cases k with
    | true => rw [if_pos rfl]; exact ⟨m, S1, Qm, Em, h1.ext e1, s1, by simpa using q1, h4.ext e1, h5.ext e1⟩
    | false => rw [if_neg Bool.false_ne_true]; exact h4 false S1 H1 (by simpa using q1) e1 s1, h5⟩
theorem wor (ha : PT X a (upT X.K W tA)) (hb : PW X (.BoolOp .Or (b :: rest) pos) (upT X.K W tB')) : PW X (.BoolOp .Or (a :: b :: rest) pos) (upT X.K W (mOr tA tB')) :=
  (pw_or ha hb).to fun σ H Q ⟨m, S, Qm, Em, h1, h2, h3, h4, h5⟩ => ⟨m, S, _, Em, h1, h2, h3, fun k S1 H1 q1 e1 s1 => by
    cases k with
    | false => rw [if_neg Bool.false_ne_true]; exact ⟨m, S1, Qm, Em, h1.ext e1, s1, by simpa using q1, h4.ext e1, h5.ext e1⟩
    | true => rw [if_pos rfl]; exact h4 true S1 H1 (by simpa using q1) e1 s1, h5⟩
theorem tnot (ha : PT X a (upT X.K W tA)) : PT X (.UnaryOp .Not a pos) (upT X.K W (mNot tA)) :=
  (pt_not ha).to fun σ H Q ⟨m, S, Qm, Em, h1, h2, h3, h4, h5⟩ => ⟨m, S, _, Em, h1, h2, h3, fun k S1 H1 q1 e1 s1 => h4 (!k) S1 H1 q1 e1 s1, h5⟩
def mAndV (ma mb : ME) : ME := fun σ S Q E => ma σ S (fun d S1 => match d with
  | .bl k => if k = true then mb σ S1 Q E else Q (.bl false) S1
  | _ => False) E
def mOrV (ma mb : ME) : ME := fun σ S Q E => ma σ S (fun d S1 => match d with
  | .bl k => if k = true then Q (.bl true) S1 else mb σ S1 Q E
  | _ => False) E
def mNotV (ma : ME) : ME := fun σ S Q E => ma σ S (fun d S1 => match d with
  | .bl k => Q (.bl (!k)) S1
  | _ => False) E
theorem eone {op} (h : PE X a (upE X.K W ma)) : PE X (.BoolOp op [a] pos) (upE X.K W ma) := pe_one h
theorem eand (ha : PE X a (upE X.K W ma)) (hb : PE X (.BoolOp .And (b :: rest) pos) (upE X.K W mb)) : PE X (.BoolOp .And (a :: b :: rest) pos) (upE X.K W (mAndV ma mb)) :=
  (pe_and ha hb).to fun σ H Q ⟨m, S, Qm, Em, h1, h2, h3, h4, h5⟩ => ⟨m, S, _, Em, h1, h2, h3, fun d S1 v H1 q1 e1 s1 r1 => by
    cases d with
    | bl k =>
      cases r1
      refine ⟨k, rfl, ?_⟩
      cases k with
      | true => rw [if_pos rfl]; exact ⟨m, S1, Qm, Em, h1.ext e1, s1, by simpa using q1, h4.ext e1, h5.ext e1⟩
      | false => rw [if_neg Bool.false_ne_true]; exact h4 _ S1 _ H1 (show Qm (.bl false) S1 by simpa using q1) e1 s1 (.bl false)
    | _ => exact q1.elim, h5⟩
def mIf (t : MT) (ma mb : ME) : ME := fun σ S Q E => t σ S (fun c S1 => if c = true then ma σ S1 Q E else mb σ S1 Q E) E
def truD (S : Sto) : D → Option Bool
  | .non => some false
  | .bl b => some b
  | .int i => some (i != 0)
  | .str y => if y.length ≤ sizeLine then some ((y.length : Int) != 0) else none
  | .tup ds => some (!ds.isEmpty)
  | .lst ds => some (!ds.isEmpty)
  | .scr ds => some (!ds.isEmpty)
  | .ref p => match S p with
    | some (.lst ds) => some (!ds.isEmpty)
    | some (.dK kvs) => some (!kvs.isEmpty)
    | _ => none
def mTru (m : ME) : MT := fun σ S Q E => m σ S (fun d S1 => match truD S1 d with
  | some k => Q k S1
  | none => False) E
theorem emp_rds {K : PySem.W.Frag} {H : Hp} {S : Sto} {vs : List V} {ds : List D} (r : RDs K H S vs ds) : (!vs.isEmpty) = !ds.isEmpty := by cases r <;> rfl
theorem emp_rks {κ : Type} {K : PySem.W.Frag} {H : Hp} {S : Sto} {vs : List (κ × V)} {ds : List (κ × D)} (r : RKs K H S vs ds) : (!vs.isEmpty) = !ds.isEmpty := by cases r <;> rfl
theorem truD_ok {K : PySem.W.Frag} {H : Hp} {S : Sto} {v : V} {d : D} {k : Bool} (s : RSto K H S) (r : RD K H S v d) (h : truD S d = some k) : TruV K v H k := by
  cases r with
  | non => cases h; rfl
  | bl b => cases h; rfl
  | int i => cases h; rfl
  | str x =>
    simp only [truD] at h
    split at h
    · next z => cases h; exact ⟨z, rfl⟩
    · cases h
  | tup h1 n r => cases h; exact .inr (.inl ⟨_, .inl h1, (emp_rds r).symm⟩)
  | lst h1 n r => cases h; exact .inl ⟨_, .inl (.inl h1), (emp_rds r).symm⟩
  | scr h1 n r => cases h; exact .inl ⟨_, .inl (.inr ⟨_, h1⟩), (emp_rds r).symm⟩
  | ktup h1 h2 h3 h4 h5 r => cases h; exact .inr (.inl ⟨_, .inr ⟨_, _, _, h1, h2, h3, h4, h5⟩, (emp_rds r).symm⟩)
  | klst h1 h2 h3 h4 h5 h6 r => cases h; exact .inl ⟨_, .inr ⟨_, _, _, h1, h2, h3, h4, h5, h6⟩, (emp_rds r).symm⟩
  | ref p =>
    simp only [truD] at h
    cases e : S p with
    | none => rw [e] at h; cases h
    | some o =>
      rw [e] at h
      have q := s p o e
      cases o with
      | lst ds => obtain ⟨vs, e1, r⟩ := q; cases h; exact .inl ⟨_, .inl (.inl e1), (emp_rds r).symm⟩
      | dK kvs => obtain ⟨vs, e1, r⟩ := q; cases h; exact .inr (.inr ⟨_, e1, (emp_rks r).symm⟩)
      | ins C fs => cases h
      | exc C fs => cases h
      | dT kvs => cases h
      | dS kvs => cases h
      | dN kvs => cases h
      | tbl p q' => cases h
      | dF o vs kvs => cases h
theorem ttru (ha : PE X a (upE X.K W ma)) (he : ∀ whole, isTrue a X.env whole = (do let v ← whole; standAt a.pos; holding [v] (truthy v)) := by intro _; rfl) : PT X a (upT X.K W (mTru ma)) :=
  (pt_truth ha he).to fun σ H Q ⟨m, S, Qm, Em, h1, h2, h3, h4, h5⟩ => ⟨m, S, _, Em, h1, h2, h3, fun d S1 v H1 q1 e1 s1 r1 => by
    dsimp only at q1
    cases e : truD S1 d with
    | none => rw [e] at q1; exact q1.elim
    | some k => rw [e] at q1; exact ⟨k, truD_ok s1 r1 e, h4 k S1 H1 q1 e1 s1⟩, h5⟩
variable {es : List Expr} {mas : MA}
def mNil : MA := fun _ S Q _ => Q [] S
def mCons (m : ME) (r : MA) : MA := fun σ S Q E => m σ S (fun d S1 => r σ S1 (fun ds S2 => Q (d :: ds) S2) E) E
theorem anil : PA X [] (upA X.K W mNil) := pa_nil.to fun σ H Q ⟨m, S, Qm, Em, h1, h2, h3, h4, h5⟩ => h4 [] S [] H h3 Ext.refl h2 .nil
theorem acons (ha : PE X e (upE X.K W m)) (hr : PA X es (upA X.K W mas)) (hs : starEach (e :: es) X.env = (false, eval e X.env) :: starEach es X.env := by rfl) : PA X (e :: es) (upA X.K W (mCons m mas)) :=
  (pa_cons ha hr hs).to fun σ H Q ⟨m, S, Qm, Em, h1, h2, h3, h4, h5⟩ => ⟨m, S, _, Em, h1, h2, h3, fun d S1 v H1 q1 e1 s1 r1 => ⟨m, S1, _, Em, h1.ext e1, s1, q1, fun ds S2 vs H2 q2 e2 s2 r2 =>
    h4 (d :: ds) S2 (v :: vs) H2 q2 (e1.trans e2) s2 (.cons (r1.ext e2) r2), h5.ext e1⟩, h5⟩
def mTup (t : MA) : ME := fun σ S Q E => t σ S (fun ds S1 => ds.length ≤ sizeLine ∧ Q (.tup ds) S1) E
theorem etup {x1} (h : PA X es (upA X.K W mas)) : PE X (.Tuple es x1 pos) (upE X.K W (mTup mas)) :=
  (pe_tup h).to fun σ H Q ⟨m, S, Qm, Em, h1, h2, h3, h4, h5⟩ => ⟨m, S, _, Em, h1, h2, h3, fun ds S1 vs H1 q1 e1 s1 r1 => ⟨by rw [r1.length]; exact q1.1, fun p hp =>
    h4 _ S1 _ _ q1.2 (e1.trans (Ext.new s1 hp)) (s1.new hp) (.tup (.inl upd_same) (s1.fresh hp) (r1.ext (Ext.new s1 hp)))⟩, h5⟩
def mLstF (t : MA) : ME := fun σ S Q E => t σ S (fun ds S1 => ds.length ≤ sizeLine ∧ Q (.lst ds) S1) E
theorem elstF (h : PA X es (upA X.K W mas)) : PE X (.List es pos) (upE X.K W (mLstF mas)) :=
  (pe_lst h).to fun σ H Q ⟨m, S, Qm, Em, h1, h2, h3, h4, h5⟩ => ⟨m, S, _, Em, h1, h2, h3, fun ds S1 vs H1 q1 e1 s1 r1 => ⟨by rw [r1.length]; exact q1.1, fun p hp =>
    h4 _ S1 _ _ q1.2 (e1.trans (Ext.new s1 hp)) (s1.new hp) (.lst upd_same (s1.fresh hp) (r1.ext (Ext.new s1 hp)))⟩, h5⟩
def mLst (t : MA) : ME := fun σ S Q E => t σ S (fun ds S1 => ds.length ≤ sizeLine ∧ ∀ p, S1 p = none → Q (.ref p) (put S1 p (.lst ds))) E
theorem elst (h : PA X es (upA X.K W mas)) : PE X (.List es pos) (upE X.K W (mLst mas)) :=
  (pe_lst h).to fun σ H Q ⟨m, S, Qm, Em, h1, h2, h3, h4, h5⟩ => ⟨m, S, _, Em, h1, h2, h3, fun ds S1 vs H1 q1 e1 s1 r1 => ⟨by rw [r1.length]; exact q1.1, fun p hp =>
    h4 _ (put S1 p (.lst ds)) _ _ (q1.2 p (s1.fresh hp)) (e1.trans (Ext.newS s1 hp)) (s1.newS hp ⟨vs, upd_same, r1.ext (Ext.newS s1 hp)⟩) (.ref p)⟩, h5⟩
structure Has (P : Program) (w : World) (K : PySem.W.Frag) (mg : Str → Option Value) (base : Heap) (x : Str) (ps : List Str) (k : Nat) (sp : MSp) : Prop where
  ex : ∃ f fd, mg x = some (.ref f) ∧ PySem.W.keepIn K (.ref f) = true ∧ Binds K fd ps [] ∧ FnOk P w K mg base (L2.CX P w) k f fd ps (upSp K sp)
theorem Has.mono {P : Program} {w : World} {K : PySem.W.Frag} {mg : Str → Option Value} {base : Heap} {x : Str} {ps : List Str} {j k : Nat} {sp : MSp} (h : Has P w K mg base x ps j sp) (l : j ≤ k) : Has P w K mg base x ps k sp :=
  let ⟨f, fd, a, b, c, d⟩ := h.ex
  ⟨f, fd, a, b, c, d.mono l⟩
theorem Has.imp {P : Program} {w : World} {K : PySem.W.Frag} {mg : Str → Option Value} {base : Heap} {x : Str} {ps : List Str} {k : Nat} {sp sp' : MSp} (h : Has P w K mg base x ps k sp) (i : ∀ ds S Q E, sp' ds S Q E → sp ds S Q E) : Has P w K mg base x ps k sp' :=
  let ⟨f, fd, a, b, c, d⟩ := h.ex
  ⟨f, fd, a, b, c, d.imp fun vs H Q E ⟨ds, S, Qm, Em, h1, h2, h3, h4⟩ => ⟨ds, S, Qm, Em, h1, h2, i _ _ _ _ h3, h4⟩⟩
def mCall (sp : MSp) (t : MA) : ME := fun σ S Q E => t σ S (fun ds S1 => sp ds S1 Q E) E
theorem ecall {k : Nat} {x : Str} {ps : List Str} {sp : MSp} {p : Pos} (F : Has X.prog X.w X.K X.mg X.base x ps k sp) (hr : Room k X.A) (tk : Takes X W) (ha : PA X (e :: es) (upA X.K W mas)) (hg : Gl X x := by rfl)
    (hdb : (x == ("__debug__" : Str)) = false := by decide) (he : starEach (e :: es) X.env = (false, eval e X.env) :: starEach es X.env := by rfl) (hpl : (backTo pos (starEach es X.env)).any (·.1) = false := by rfl) :
    PE X (.Call (.Name x p) (e :: es) [] pos) (upE X.K W (mCall sp mas)) := by
  obtain ⟨f, fd, hm, hk, hb, G⟩ := F.ex
  refine (pe_callS (E := WE W) G hr hg hm hk hb (fun σ => passAt tk σ) ha hdb he hpl).to fun σ H Q ⟨m, S, Qm, Em, h1, h2, h3, h4, h5⟩ => ?_
  exact ⟨m, S, _, Em, h1, h2, h3, fun ds S1 vs H1 q1 e1 s1 r1 => ⟨ds, S1, Qm, Em, r1, s1, q1, h4.ext e1, h5.ext e1⟩, h5⟩
def CaL (K : PySem.W.Frag) (r : List V → Hp → VK → Prop) (rm : List D → Sto → MQ → Prop) : Prop := ∀ (H : Hp) (S : Sto) (xs : List V) (ds : List D) (Qm : MQ) (Q : VK), RSto K H S → RDs K H S xs ds → rm ds S Qm → Ref K H S Qm Q → r xs H Q
def mBlt (rm : List D → Sto → MQ → Prop) (t : MA) : ME := fun σ S Q E => t σ S (fun ds S1 => rm ds S1 Q) E
theorem eblt {id : String} {r : List V → Hp → VK → Prop} {rm : List D → Sto → MQ → Prop} {x : Str} {p : Pos} (hc : CallR X (.builtin id) r) (hl : CaL X.K r rm) (hm : X.mg x = none) (ha : PA X (e :: es) (upA X.K W mas)) (hv : bootBuiltins x = some (.builtin id) := by decide +kernel) (hg : Gl X x := by rfl)
    (hn : x ≠ "__name__" := by decide) (hdb : (x == ("__debug__" : Str)) = false := by decide)
    (he : starEach (e :: es) X.env = (false, eval e X.env) :: starEach es X.env := by rfl) (hpl : (backTo pos (starEach es X.env)).any (·.1) = false := by rfl) : PE X (.Call (.Name x p) (e :: es) [] pos) (upE X.K W (mBlt rm mas)) :=
  (pe_callB hc hg hm hv ha hn hdb he hpl).to fun σ H Q ⟨m, S, Qm, Em, h1, h2, h3, h4, h5⟩ => ⟨m, S, _, Em, h1, h2, h3, fun ds S1 xs H1 q1 e1 s1 r1 => hl H1 S1 xs ds Qm Q s1 r1 q1 (h4.ext e1), h5⟩
theorem etyp {T : String} {r : List V → Hp → VK → Prop} {rm : List D → Sto → MQ → Prop} {x : Str} {p : Pos} (hc : CallR X (.type T) r) (hl : CaL X.K r rm) (hm : X.mg x = none) (ha : PA X (e :: es) (upA X.K W mas)) (hv : bootBuiltins x = some (.type T) := by decide +kernel) (hg : Gl X x := by rfl)
    (hn : x ≠ "__name__" := by decide) (hdb : (x == ("__debug__" : Str)) = false := by decide)
    (he : starEach (e :: es) X.env = (false, eval e X.env) :: starEach es X.env := by rfl) (hpl : (backTo pos (starEach es X.env)).any (·.1) = false := by rfl) : PE X (.Call (.Name x p) (e :: es) [] pos) (upE X.K W (mBlt rm mas)) :=
  (pe_callTy hc hg hm hv ha hn hdb he hpl).to fun σ H Q ⟨m, S, Qm, Em, h1, h2, h3, h4, h5⟩ => ⟨m, S, _, Em, h1, h2, h3, fun ds S1 xs H1 q1 e1 s1 r1 => hl H1 S1 xs ds Qm Q s1 r1 q1 (h4.ext e1), h5⟩
theorem rds1 {K : PySem.W.Frag} {H : Hp} {S : Sto} {xs : List V} {d : D} (r : RDs K H S xs [d]) : ∃ v, xs = [v] ∧ RD K H S v d := by
  cases r with | cons h r => cases r; exact ⟨_, rfl, h⟩
theorem rds2 {K : PySem.W.Frag} {H : Hp} {S : Sto} {xs : List V} {d e : D} (r : RDs K H S xs [d, e]) : ∃ v w, xs = [v, w] ∧ RD K H S v d ∧ RD K H S w e := by
  cases r with | cons h r => obtain ⟨w, rfl, h2⟩ := rds1 r; exact ⟨_, _, rfl, h, h2⟩
def lenD (S : Sto) : D → Option Nat
  | .tup ds => some ds.length
  | .str x => if x.length ≤ sizeLine then some x.length else none
  | d => (lstOf S d).map List.length
def bLen : List D → Sto → MQ → Prop := fun ds S Q => match ds with
  | [d] => match lenD S d with
    | some n => Q (.int n) S
    | none => False
  | _ => False
theorem lenD_ok {K : PySem.W.Frag} {H : Hp} {S : Sto} {v : V} {d : D} {n : Nat} (s : RSto K H S) (r : RD K H S v d) (h : lenD S d = some n) : LenV K v H n := by
  unfold lenD at h
  split at h
  · obtain ⟨a, vs, rfl, h1, r1⟩ := r.tupSq
    cases h
    exact .inr ⟨vs, h1, r1.length.symm⟩
  · next x =>
    cases r
    split at h
    · next z => cases h; exact ⟨z, rfl⟩
    · cases h
  · cases e : lstOf S d with
    | none => rw [e] at h; cases h
    | some ds =>
      rw [e] at h; cases h
      obtain ⟨a, vs, rfl, h1, r1⟩ := lst_sq s r e
      exact .inl ⟨vs, h1, r1.length.symm⟩
theorem cl_len : CaL X.K (fun xs H Q => ∃ x n, xs = [x] ∧ LenV X.K x H n ∧ Q (.int n) H) bLen := fun H S xs ds Qm Q s r h k => by
  unfold bLen at h
  split at h
  · next d =>
    obtain ⟨v, rfl, r1⟩ := rds1 r
    cases e : lenD S d with
    | none => rw [e] at h; exact h.elim
    | some n => rw [e] at h; exact ⟨v, n, rfl, lenD_ok s r1 e, k _ S _ H h Ext.refl s (.int _)⟩
  · exact h.elim
def bAbs : List D → Sto → MQ → Prop := fun ds S Q => match ds with
  | [.int i] => Q (.int (if i < 0 then -i else i)) S
  | _ => False
theorem cl_abs : CaL X.K (fun xs H Q => ∃ i, xs = [.int i] ∧ Q (.int (if i < 0 then -i else i)) H) bAbs := fun H S xs ds Qm Q s r h k => by
  unfold bAbs at h
  split at h
  · obtain ⟨v, rfl, r1⟩ := rds1 r
    cases r1
    exact ⟨_, rfl, k _ S _ H h Ext.refl s (.int _)⟩
  · exact h.elim
def bMax2 : List D → Sto → MQ → Prop := fun ds S Q => match ds with
  | [.int i, .int j] => Q (.int (if j > i then j else i)) S
  | _ => False
def bMin2 : List D → Sto → MQ → Prop := fun ds S Q => match ds with
  | [.int i, .int j] => Q (.int (if j < i then j else i)) S
  | _ => False
def bInt : List D → Sto → MQ → Prop := fun ds S Q => match ds with
  | [.int i] => Q (.int i) S
  | [.bl k] => Q (.int (if k then 1 else 0)) S
  | _ => False
theorem cl_int : CaL X.K (fun xs H Q => (∃ i, xs = [.int i] ∧ Q (.int i) H) ∨ ∃ k, xs = [.bl k] ∧ Q (.int (if k then 1 else 0)) H) bInt := fun H S xs ds Qm Q s r h k => by
  unfold bInt at h
  split at h
  · obtain ⟨v, rfl, r1⟩ := rds1 r
    cases r1
    exact .inl ⟨_, rfl, k _ S _ H h Ext.refl s (.int _)⟩
  · obtain ⟨v, rfl, r1⟩ := rds1 r
    cases r1
    exact .inr ⟨_, rfl, k _ S _ H h Ext.refl s (.int _)⟩
  · exact h.elim
def bTuple : List D → Sto → MQ → Prop := fun ds S Q => match ds with
  | [.tup xs] => Q (.tup xs) S
  | [d] => match lstOf S d with
    | some xs => Q (.tup xs) S
    | none => False
  | _ => False
theorem cl_tuple : CaL X.K (fun xs H Q => ∃ p ys, xs = [.ref p] ∧ ((SqL X.K H p ys ∧ ∀ l, H l = none → Q (.ref l) (upd H l (.tup ys))) ∨ (SqT X.K H p ys ∧ Q (.ref p) H))) bTuple := fun H S xs ds Qm Q s r h k => by
  unfold bTuple at h
  split at h
  · obtain ⟨v, rfl, r1⟩ := rds1 r
    obtain ⟨a, vs, rfl, h1, r2⟩ := r1.tupSq
    exact ⟨a, vs, rfl, .inr ⟨h1, k _ S _ H h Ext.refl s r1⟩⟩
  · next d hd =>
    obtain ⟨v, rfl, r1⟩ := rds1 r
    cases e : lstOf S d with
    | none => rw [e] at h; exact h.elim
    | some ys =>
      rw [e] at h
      obtain ⟨a, vs, rfl, h1, r2⟩ := lst_sq s r1 e
      exact ⟨a, vs, rfl, .inl ⟨h1, fun l hl => k _ S _ _ h (Ext.new s hl) (s.new hl) (.tup (.inl upd_same) (s.fresh hl) (r2.ext (Ext.new s hl)))⟩⟩
  · exact h.elim
def seqOf (S : Sto) : D → Option (List D)
  | .tup ds => some ds
  | d => lstOf S d
theorem seq_sq {K : PySem.W.Frag} {H : Hp} {S : Sto} (s : RSto K H S) {v : V} {d : D} {ds : List D} (r : RD K H S v d) (h : seqOf S d = some ds) : ∃ a vs, v = .ref a ∧ (SqL K H a vs ∨ SqT K H a vs) ∧ RDs K H S vs ds := by
  unfold seqOf at h
  split at h
  · cases h
    obtain ⟨a, vs, rfl, h1, r2⟩ := r.tupSq
    exact ⟨a, vs, rfl, .inr h1, r2⟩
  · obtain ⟨a, vs, rfl, h1, r2⟩ := lst_sq s r h
    exact ⟨a, vs, rfl, .inl h1, r2⟩
def bListF : List D → Sto → MQ → Prop := fun ds S Q => match ds with
  | [d] => match seqOf S d with
    | some xs => Q (.lst xs) S
    | none => False
  | _ => False
theorem cl_listF : CaL X.K (fun xs H Q => ∃ p ys, xs = [.ref p] ∧ (SqL X.K H p ys ∨ SqT X.K H p ys) ∧ ∀ l, H l = none → Q (.ref l) (upd H l (.lst ys))) bListF := fun H S xs ds Qm Q s r h k => by
  unfold bListF at h
  split at h
  · next d =>
    obtain ⟨v, rfl, r1⟩ := rds1 r
    cases e : seqOf S d with
    | none => rw [e] at h; exact h.elim
    | some ys =>
      rw [e] at h
      obtain ⟨a, vs, rfl, h1, r2⟩ := seq_sq s r1 e
      exact ⟨a, vs, rfl, h1, fun l hl => k _ S _ _ h (Ext.new s hl) (s.new hl) (.lst upd_same (s.fresh hl) (r2.ext (Ext.new s hl)))⟩
  · exact h.elim
def bList : List D → Sto → MQ → Prop := fun ds S Q => match ds with
  | [d] => match seqOf S d with
    | some xs => ∀ p, S p = none → Q (.ref p) (put S p (.lst xs))
    | none => False
  | _ => False
theorem cl_list : CaL X.K (fun xs H Q => ∃ p ys, xs = [.ref p] ∧ (SqL X.K H p ys ∨ SqT X.K H p ys) ∧ ∀ l, H l = none → Q (.ref l) (upd H l (.lst ys))) bList := fun H S xs ds Qm Q s r h k => by
  unfold bList at h
  split at h
  · next d =>
    obtain ⟨v, rfl, r1⟩ := rds1 r
    cases e : seqOf S d with
    | none => rw [e] at h; exact h.elim
    | some ys =>
      rw [e] at h
      obtain ⟨a, vs, rfl, h1, r2⟩ := seq_sq s r1 e
      exact ⟨a, vs, rfl, h1, fun l hl => k _ (put S l (.lst ys)) _ _ (h l (s.fresh hl)) (Ext.newS s hl) (s.newS hl ⟨vs, upd_same, r2.ext (Ext.newS s hl)⟩) (.ref l)⟩
  · exact h.elim
def blsOf : List D → Option (List Bool)
  | [] => some []
  | .bl b :: r => (blsOf r).map (b :: ·)
  | _ => none
theorem blsOf_eq : ∀ {ds : List D} {bs : List Bool}, blsOf ds = some bs → ds = bs.map .bl
  | [], bs, h => by cases h; rfl
  | .bl b :: r, bs, h => by
    cases e : blsOf r with
    | none => rw [show blsOf (.bl b :: r) = (blsOf r).map (b :: ·) from rfl, e] at h; cases h
    | some cs => rw [show blsOf (.bl b :: r) = (blsOf r).map (b :: ·) from rfl, e] at h; cases h; rw [blsOf_eq e]; rfl
  | .non :: _, _, h => by cases h
  | .int _ :: _, _, h => by cases h
  | .str _ :: _, _, h => by cases h
  | .tup _ :: _, _, h => by cases h
  | .lst _ :: _, _, h => by cases h
  | .scr _ :: _, _, h => by cases h
  | .ref _ :: _, _, h => by cases h
theorem blsOf_map (bs : List Bool) : blsOf (bs.map .bl) = some bs := by
  induction bs with
  | nil => rfl
  | cons b r ih => show (blsOf (r.map .bl)).map (b :: ·) = _; rw [ih]; rfl
def bAll : List D → Sto → MQ → Prop := fun ds S Q => match ds with
  | [d] => match (lstOf S d).bind blsOf with
    | some bs => Q (.bl (bs.all id)) S
    | none => False
  | _ => False
def ixL {α : Type} (xs : List α) (i : Int) : Option α := match i with
  | .ofNat n => xs[n]?
  | .negSucc n => if n < xs.length then xs[xs.length - (n + 1)]? else none
theorem ixL_at {α : Type} {xs : List α} {i : Int} {v : α} (h : ixL xs i = some v) : atI xs i = some v := by
  unfold ixL at h
  split at h
  · exact atI_nat h
  · next n =>
    split at h
    · next hl =>
      unfold atI ixN
      rw [if_neg (by omega), if_pos (by omega)]
      have e : (Int.negSucc n + (xs.length : Int)).toNat = xs.length - (n + 1) := by omega
      rw [Option.bind_some, e]; exact h
    · cases h
def rIxM : R2m := fun d e S Q => match e with
  | .int i => match seqOf S d with
    | some xs => match ixL xs i with
      | some x => Q x S
      | none => False
    | none => False
  | _ => False
theorem atI_rds {K : PySem.W.Frag} {H : Hp} {S : Sto} {vs : List V} {ds : List D} {i : Int} {d : D} (r : RDs K H S vs ds) (h : atI ds i = some d) : ∃ v, atI vs i = some v ∧ RD K H S v d := by
  unfold atI at h ⊢
  rw [r.length]
  cases e : ixN ds.length i with
  | none => rw [e] at h; cases h
  | some j => rw [e, Option.bind_some] at h; rw [Option.bind_some]; exact r.get h
theorem ol_ix : OpL X.K (fun x y H Q => rIxL X.K x y H Q ∨ rIxT X.K x y H Q) rIxM := fun H S x y d e Qm Q s rx ry h k => by
  unfold rIxM at h
  split at h
  · next i =>
    cases ry
    cases e1 : seqOf S d with
    | none => rw [e1] at h; exact h.elim
    | some xs =>
      rw [e1] at h
      cases e2 : ixL xs i with
      | none => simp only [e2] at h
      | some z =>
        simp only [e2] at h
        obtain ⟨a, vs, rfl, h1, r1⟩ := seq_sq s rx e1
        obtain ⟨v, e3, r2⟩ := atI_rds r1 (ixL_at e2)
        rcases h1 with h1 | h1
        · exact .inl ⟨a, vs, i, v, rfl, rfl, h1, e3, k _ S _ H h Ext.refl s r2⟩
        · exact .inr ⟨a, vs, i, v, rfl, rfl, h1, e3, k _ S _ H h Ext.refl s r2⟩
  · exact h.elim
theorem eix (ha : PE X a (upE X.K W ma)) (hb : PE X b (upE X.K W mb)) (hs : PlainIx b := by exact fun _ _ => rfl) : PE X (.Subscript a b pos) (upE X.K W (mOp rIxM ma mb)) := (pe_ix (ix_list.or ix_tup) ha hb hs).to (op_to ol_ix)
end
end ML
set_option maxRecDepth 100000
namespace ML
open PySem PySem.Spec L2
open PyProof.Rows hiding St
abbrev MG := D → MSt → Sto → (MSt → Sto → Prop) → MXQ → Prop
abbrev MGs := List D → MSt → Sto → (MSt → Sto → Prop) → MXQ → Prop
section
variable (K : PySem.W.Frag) (W : WX)
def upG (g : MG) : TG := fun v σ H Q => ∃ d mσ S Qm Em, RD K H S v d ∧ RSt K H S σ mσ ∧ RSto K H S ∧ g d mσ S Qm Em ∧ RefN K H S Qm Q ∧ RefX K H S Em (fun c d H' => W c d σ H')
def upGs (g : MGs) : TGs := fun vs σ H Q => ∃ ds mσ S Qm Em, RDs K H S vs ds ∧ RSt K H S σ mσ ∧ RSto K H S ∧ g ds mσ S Qm Em ∧ RefN K H S Qm Q ∧ RefX K H S Em (fun c d H' => W c d σ H')
end
section
variable {X : Cx} {W : WX} {a b c e tg : Expr} {ma mb mc m : ME} {pos : Pos} {g : MG} {gs : MGs}
theorem _root_.L2.PG.to {t t' : TG} (h : PG X tg t) (i : ∀ v σ H Q, t' v σ H Q → t v σ H Q) : PG X tg t' := ⟨fun pins s σ H v u Q I r q => h.run pins s σ H v u Q I r (i v σ H Q q)⟩
def gNm (i : Nat) : MG := fun d σ S Q _ => Q (σ.set i (some d)) S
theorem gnm {i : Nat} {x : Str} (hN : X.N.Nodup) (hi : X.N[i]? = some x := by rfl) (hx : Loc X.env.scope x := by first | exact Or.inl rfl | exact Or.inr rfl) (hf : X.fn x = true ∨ X.env.scope.names.lookup x = some .local := by first | exact .inl rfl | exact .inr rfl | assumption) :
    PG X (.Name x pos) (upG X.K W (gNm i)) := L2.PG.to (pg_name hN hi hx hf) fun v σ H Q ⟨d, m, S, Qm, Em, r, h1, h2, h3, h4, _⟩ => h4 _ S _ H h3 Ext.refl h2 (h1.set r i)
def gNl : MGs := fun ds σ S Q _ => match ds with
  | [] => Q σ S
  | _ => False
def gCn (g : MG) (gs : MGs) : MGs := fun ds σ S Q E => match ds with
  | d :: r => g d σ S (fun σ' S' => gs r σ' S' Q E) E
  | [] => False
theorem gnl : PGs X [] (upGs X.K W gNl) := ⟨fun pins s σ H vs us Q I r ⟨ds, m, S, Qm, Em, r1, h1, h2, h3, h4, _⟩ => by
  cases ds with
  | nil => cases r1; exact pgs_nil.run pins s σ H [] us Q I r ⟨rfl, h4 m S σ H h3 Ext.refl h2 h1⟩
  | cons _ _ => exact h3.elim⟩
theorem gcn {es : List Expr} (h1 : PG X e (upG X.K W g)) (h2 : PGs X es (upGs X.K W gs)) (hs : (assignEach (e :: es) X.env).map (·.2) = assign e X.env :: (assignEach es X.env).map (·.2) := by rfl)
    (hx : ∀ d σ S Q E E', g d σ S Q E → g d σ S Q E' := by intro _ _ _ _ _ _ h; exact h) (hx' : ∀ d σ S Q E E', gs d σ S Q E → gs d σ S Q E' := by intro _ _ _ _ _ _ h; exact h) : PGs X (e :: es) (upGs X.K W (gCn g gs)) :=
  ⟨fun pins s σ H vs us Q I r ⟨ds, m, S, Qm, Em, r1, k1, k2, k3, k4, k5⟩ => (pgs_cons h1 h2 hs).run pins s σ H vs us Q I r (by
    cases ds with
    | nil => exact k3.elim
    | cons d ds =>
      cases r1 with
      | cons rd rds =>
        refine ⟨_, _, rfl, d, m, S, _, _, rd, k1, k2, hx _ _ _ _ _ (fun _ _ => False) k3, fun m' S' σ' H' q e s' st => ?_, fun x S' c d H' z => z.elim⟩
        exact ⟨ds, m', S', Qm, fun _ _ => False, rds.ext e, st, s', hx' _ _ _ _ _ _ q, k4.ext e, fun x S' c d H' z => z.elim⟩)⟩
def gTp (n : Nat) (gs : MGs) : MG := fun d σ S Q E => match d with
  | .tup ds => ds.length = n ∧ gs ds σ S Q E
  | _ => False
theorem gtp {es : List Expr} {k n : Nat} (hc : X.calm = true) (h : PGs X es (upGs X.K W gs)) (hn : (assignEach es X.env).length = n := by rfl) (hst : (assignEach es X.env).findIdx? (·.1) = none := by rfl) : PG X (.Tuple es k pos) (upG X.K W (gTp n gs)) :=
  L2.PG.to (pg_tup hc h hn hst) fun v σ H Q ⟨d, m, S, Qm, Em, r, h1, h2, h3, h4, h5⟩ => by
    cases d with
    | tup ds =>
      obtain ⟨a, vs, rfl, hq, rs⟩ := r.tupSq
      exact ⟨a, vs, rfl, hq, rs.length.trans h3.1, ds, m, S, Qm, Em, rs, h1, h2, h3.2, h4, h5⟩
    | _ => exact h3.elim
def gLs (n : Nat) (gs : MGs) : MG := fun d σ S Q E => match lstOf S d with
  | some ds => ds.length = n ∧ gs ds σ S Q E
  | none => False
def setAt {α : Type} (xs : List α) (i : Int) (v : α) : Option (List α) := match i with
  | .ofNat n => if n < xs.length then some (xs.set n v) else none
  | .negSucc n => if n < xs.length then some (xs.set (xs.length - (n + 1)) v) else none
def rSetM (o i v : D) (S : Sto) (Q : Sto → Prop) : Prop := match o, i with
  | .ref p, .int k => match S p with
    | some (.lst xs) => match setAt xs k v with
      | some ys => Q (put S p (.lst ys))
      | none => False
    | _ => False
  | _, _ => False
theorem setAt_ix {α β : Type} {xs ys : List α} {zs : List β} {i : Int} {v : α} (hl : zs.length = xs.length) (h : setAt xs i v = some ys) : ∃ j, ixN zs.length i = some j ∧ ys = xs.set j v := by
  unfold setAt at h
  rw [hl]
  split at h
  · next n =>
    split at h
    · next hn =>
      cases h
      refine ⟨n, ?_, rfl⟩
      unfold ixN
      rw [if_pos (by show (0 : Int) ≤ (n : Int); omega), if_pos (by show (n : Int) < _; omega)]
      rfl
    · cases h
  · next n =>
    split at h
    · next hn =>
      cases h
      refine ⟨xs.length - (n + 1), ?_, rfl⟩
      unfold ixN
      rw [if_neg (by omega), if_pos (by omega)]
      congr 1; omega
    · cases h
def gSb (mo mi : ME) : MG := fun v σ S Q E => mo σ S (fun o S1 => mi σ S1 (fun i S2 => rSetM o i v S2 (fun S3 => Q σ S3)) E) E
theorem gsb {o i : Expr} {mo mi : ME} (ho : PE X o (upE X.K W mo)) (hi : PE X i (upE X.K W mi)) (ha : ∀ v, assign (.Subscript o i pos) X.env v = (do
      let ov ← holding [v] (eval o X.env)
      let iv ← holding [v, ov] (eval i X.env)
      standAt pos
      holding [v, ov, iv] (setItem ov iv v)
      release [v, ov, iv] []) := by intro _; rfl) : PG X (.Subscript o i pos) (upG X.K W (gSb mo mi)) :=
  L2.PG.to (pg_sub ho hi set_list ha) fun v σ H Q ⟨d, m, S, Qm, Em, r, h1, h2, h3, h4, h5⟩ => by
    refine ⟨m, S, _, Em, h1, h2, h3, fun o S1 ov H1 q1 e1 s1 r1 => ⟨m, S1, _, Em, h1.ext e1, s1, q1, fun i S2 iv H2 q2 e2 s2 r2 => ?_, h5.ext e1⟩, h5⟩
    have r1' := r1.ext e2
    have rv := r.ext (e1.trans e2)
    replace q2 : rSetM o i d S2 (fun S3 => Qm m S3) := q2
    unfold rSetM at q2
    split at q2
    · next p k =>
      cases e : S2 p with
      | none => rw [e] at q2; exact q2.elim
      | some mo =>
        rw [e] at q2
        cases mo with
        | lst xs =>
          dsimp only at q2
          cases e3 : setAt xs k d with
          | none => rw [e3] at q2; exact q2.elim
          | some ys =>
            rw [e3] at q2
            cases r1'; cases r2
            obtain ⟨vs, hv, rs⟩ := s2 p _ e
            obtain ⟨j, hj, ey⟩ := setAt_ix rs.length e3
            subst ey
            have ec : Ext H2 S2 (upd H2 p (.lst (vs.set j v))) (put S2 p (.lst (xs.set j d))) := Ext.chg e
            exact ⟨p, vs, k, j, rfl, rfl, hv, hj, h4 m _ σ _ q2 (e1.trans (e2.trans ec)) (s2.chg e ⟨_, upd_same, (rs.set rv j).ext ec⟩) (h1.ext (e1.trans (e2.trans ec)))⟩
        | _ => exact q2.elim
    · exact q2.elim
variable {st : Stmt} {rest : List Stmt} {mt mu : MS}
def xAt (D : MEnds) (σ : MSt) : MXQ := fun x S => D.ex x σ S
theorem xAt_ref {K : PySem.W.Frag} {H : Hp} {S : Sto} {σ : L2.St} {m : MSt} {Dm : MEnds} {W : WX} (h : RSt K H S σ m) (w : RefW K H S Dm.ex W) : RefX K H S (xAt Dm m) (fun c d H' => W c d σ H') :=
  fun x S' c d H' q e s r => w x m S' c d σ H' q e s (h.ext e) r
def mNext : MS := fun D σ S => D.nx σ S
def mSeq (t u : MS) : MS := fun D σ S => t { D with nx := u D } σ S
theorem snil : PSs X [] (upS X.K W mNext) := L2.PSs.to pss_nil fun D σ H ⟨m, S, Dm, h1, h2, h3, h4⟩ => h4.nx m S σ H h3 Ext.refl h2 h1
theorem scons (h1 : PS X st (upS X.K W mt)) (h2 : PSs X rest (upS X.K W mu)) : PSs X (st :: rest) (upS X.K W (mSeq mt mu)) := L2.PSs.to (pss_cons h1 h2) fun D σ H ⟨m, S, Dm, k1, k2, k3, k4⟩ =>
  ⟨m, S, { Dm with nx := mu Dm }, k1, k2, k3, ⟨fun m' S' σ' H' q e s r => ⟨m', S', Dm, r, s, q, k4.ext e⟩, k4.rt, k4.bk, k4.ct, k4.ex⟩⟩
theorem sone (h1 : PS X st (upS X.K W mt)) : PSs X [st] (upS X.K W mt) := pss_one h1
def mBreak : MS := fun D σ S => D.bk σ S
def mCont : MS := fun D σ S => D.ct σ S
def mExpr (m : ME) : MS := fun D σ S => m σ S (fun _ S1 => D.nx σ S1) (xAt D σ)
theorem sexpr (he : PE X e (upE X.K W m)) (hs : swapsWith e none pos.line X.env = pure false := by rfl) : PS X (.Expr e pos) (upS X.K W (mExpr m)) := L2.PS.to (ps_expr he hs) fun D σ H ⟨m, S, Dm, h1, h2, h3, h4⟩ =>
  ⟨m, S, _, _, h1, h2, h3, fun d S' v H' q e s r => h4.nx m S' σ H' q e s (h1.ext e), xAt_ref h1 h4.ex⟩
def mRet (m : ME) : MS := fun D σ S => m σ S D.rt (xAt D σ)
theorem sret (he : PE X e (upE X.K W m)) : PS X (.Return (some e) pos) (upS X.K W (mRet m)) := L2.PS.to (ps_ret he) fun D σ H ⟨m, S, Dm, h1, h2, h3, h4⟩ => ⟨m, S, _, _, h1, h2, h3, h4.rt, xAt_ref h1 h4.ex⟩
def mRetN : MS := fun D _ S => D.rt .non S
def mIfS (c : MT) (t u : MS) : MS := fun D σ S => c σ S (fun b S1 => if b = true then t D σ S1 else u D σ S1) (xAt D σ)
theorem sif {tc : MT} {as bs : List Stmt} (hc : PT X c (upT X.K W tc)) (ha : PSs X as (upS X.K W mt)) (hb : PSs X bs (upS X.K W mu)) : PS X (.If c as bs pos) (upS X.K W (mIfS tc mt mu)) := L2.PS.to (ps_if hc ha hb) fun D σ H ⟨m, S, Dm, h1, h2, h3, h4⟩ =>
  ⟨m, S, _, _, h1, h2, h3, fun k S1 H1 q e s => by
    cases k with
    | true => rw [if_pos rfl]; exact ⟨m, S1, Dm, h1.ext e, s, by simpa using q, h4.ext e⟩
    | false => rw [if_neg Bool.false_ne_true]; exact ⟨m, S1, Dm, h1.ext e, s, by simpa using q, h4.ext e⟩, xAt_ref h1 h4.ex⟩
def mNever : MS := fun _ _ _ => False
theorem snever : PS X st (upS X.K W mNever) := ⟨fun _ _ _ _ _ _ ⟨_, _, _, _, _, h, _⟩ => h.elim⟩
def mAsg (m : ME) (g : MG) : MS := fun D σ S => m σ S (fun d S1 => g d σ S1 D.nx (xAt D σ)) (xAt D σ)
theorem sasg (he : PE X e (upE X.K W m)) (hg : PG X tg (upG X.K W g)) (hs : swapsWithSole [tg] e pos.line X.env = pure false := by rfl) (hw : swappedStores [tg] e X.env = pure none := by rfl)
    (h1 : (assignEach [tg] X.env).map (·.2) = [assign tg X.env] := by rfl) : PS X (.Assign [tg] e pos) (upS X.K W (mAsg m g)) := L2.PS.to (ps_asg he hg hs hw h1) fun D σ H ⟨m, S, Dm, h1, h2, h3, h4⟩ =>
  ⟨m, S, _, _, h1, h2, h3, fun d S1 v H1 q e s r => ⟨d, m, S1, _, _, r, h1.ext e, s, q, h4.nx.ext e, (xAt_ref h1 h4.ex).ext e⟩, xAt_ref h1 h4.ex⟩
def mSet (i : Nat) (m : ME) : MS := fun D σ S => m σ S (fun d S1 => D.nx (σ.set i (some d)) S1) (xAt D σ)
theorem sset {i : Nat} {x : Str} {pos' : Pos} (hN : X.N.Nodup) (he : PE X e (upE X.K W m)) (hi : X.N[i]? = some x := by rfl) (hx : Loc X.env.scope x := by first | exact Or.inl rfl | exact Or.inr rfl) (hs : swapsWith e (some (.Name x pos')) pos.line X.env = pure false := by rfl)
    (hf : X.fn x = true ∨ X.env.scope.names.lookup x = some .local := by first | exact .inl rfl | exact .inr rfl | assumption) : PS X (.Assign [.Name x pos'] e pos) (upS X.K W (mSet i m)) := L2.PS.to (ps_set hN hi hx he hs hf) fun D σ H ⟨m, S, Dm, h1, h2, h3, h4⟩ =>
  ⟨m, S, _, _, h1, h2, h3, fun d S1 v H1 q e s r => h4.nx _ S1 _ H1 q e s ((h1.ext e).set r i), xAt_ref h1 h4.ex⟩
def mPar (i j : Nat) (t : MA) : MS := fun D σ S => t σ S (fun ds S1 => match ds with
  | [d, e] => D.nx ((σ.set i (some d)).set j (some e)) S1
  | _ => False) (xAt D σ)
theorem spar {i j : Nat} {x y : Str} {mas : MA} {px py pt : Pos} {kt k2 pt2} (hc : X.calm = true) (hN : X.N.Nodup) (ha : PA X [a, b] (upA X.K W mas)) (hi : X.N[i]? = some x := by rfl) (hj : X.N[j]? = some y := by rfl) (hij : i ≠ j := by decide)
    (hx : X.env.scope.names.lookup x = some .local := by rfl) (hy : X.env.scope.names.lookup y = some .local := by rfl)
    (hw : swappedStores [.Tuple [.Name x px, .Name y py] kt pt] (.Tuple [a, b] k2 pt2) X.env = pure (some [x, y]) := by rfl)
    (hs : swapsWithSole [.Tuple [.Name x px, .Name y py] kt pt] (.Tuple [a, b] k2 pt2) pos.line X.env = pure false := by rfl) :
    PS X (.Assign [.Tuple [.Name x px, .Name y py] kt pt] (.Tuple [a, b] k2 pt2) pos) (upS X.K W (mPar i j mas)) := L2.PS.to (ps_par hc hN hi hj hij hx hy ha hw hs) fun D σ H ⟨m, S, Dm, h1, h2, h3, h4⟩ =>
  ⟨m, S, _, _, h1, h2, h3, fun ds S1 vs H1 q e s r => by
    dsimp only at q
    split at q
    · obtain ⟨v, w, rfl, r1, r2⟩ := rds2 r
      exact ⟨v, w, rfl, h4.nx _ S1 _ H1 q e s (((h1.ext e).set r1 i).set r2 j)⟩
    · exact q.elim, xAt_ref h1 h4.ex⟩
def mWhile (c : MT) (tb : MS) : MS := fun D σ S => ∃ I : Nat → MSt → Sto → Prop, (∃ n, I n σ S) ∧ ∀ n σ S, I n σ S →
  c σ S (fun b S1 => if b = true then tb { D with nx := fun σ' S' => ∃ m, m < n ∧ I m σ' S', ct := fun σ' S' => ∃ m, m < n ∧ I m σ' S', bk := D.nx } σ S1 else D.nx σ S1) (xAt D σ)
theorem swhile {tc : MT} {tb : MS} {body : List Stmt} (hp : PassesOwn (model X.prog X.w) X.A X.env X.xe) (hc : PT X c (upT X.K W tc)) (hb : PSs X body (upS X.K W tb)) : PS X (.While c body [] pos) (upS X.K W (mWhile tc tb)) :=
  L2.PS.to (ps_while hp hc hb) fun D σ H ⟨m, S, Dm, h1, h2, ⟨I, ⟨n0, i0⟩, turn⟩, h4⟩ => by
    refine ⟨fun n σ' H' => ∃ m' S', RSt X.K H' S' σ' m' ∧ RSto X.K H' S' ∧ Ext H S H' S' ∧ I n m' S', ⟨n0, m, S, h1, h2, Ext.refl, i0⟩, ?_⟩
    rintro n σ1 H1 ⟨m1, S1, k1, k2, k3, k4⟩
    have D4 := h4.ext k3
    refine ⟨m1, S1, _, _, k1, k2, turn n m1 S1 k4, fun k S2 H2 q e s => ?_, xAt_ref k1 D4.ex⟩
    cases k with
    | true =>
      have q' : tb { Dm with nx := fun σ' S' => ∃ m, m < n ∧ I m σ' S', ct := fun σ' S' => ∃ m, m < n ∧ I m σ' S', bk := Dm.nx } m1 S2 := by simpa using q
      rw [if_pos rfl]
      have N : RefN X.K H2 S2 (fun σ' S' => ∃ m, m < n ∧ I m σ' S') (fun σ' H' => ∃ m', m' < n ∧ ∃ m'' S', RSt X.K H' S' σ' m'' ∧ RSto X.K H' S' ∧ Ext H S H' S' ∧ I m' m'' S') :=
        fun m3 S3 σ3 H3 ⟨n3, l3, i3⟩ e3 s3 r3 => ⟨n3, l3, m3, S3, r3, s3, k3.trans (e.trans e3), i3⟩
      exact ⟨fun σ' H' => ∃ m', m' < n ∧ ∃ m'' S', RSt X.K H' S' σ' m'' ∧ RSto X.K H' S' ∧ Ext H S H' S' ∧ I m' m'' S', fun σ' H' z => z, m1, S2, _, k1.ext e, s, q', ⟨N, D4.rt.ext e, D4.nx.ext e, N, D4.ex.ext e⟩⟩
    | false =>
      have q' : Dm.nx m1 S2 := by simpa using q
      rw [if_neg Bool.false_ne_true]
      exact D4.nx m1 S2 σ1 H2 q' e s (k1.ext e)
abbrev MI := MSt → Sto → (List D → (Sto → Prop) → Sto → Prop) → MXQ → Prop
structure ItOk (K : PySem.W.Frag) (H0 : Hp) (S0 : Sto) (J : It) (items : List D) (G : Sto → Prop) : Prop where
  go : ∀ (i : Nat) (H : Hp) (S : Sto), Ext H0 S0 H S → RSto K H S → G S → i < items.length → J.go i H
  yld : ∀ (i : Nat) (H : Hp) (S : Sto) (v : V) (H' : Hp) (d : D), Ext H0 S0 H S → RSto K H S → G S → items[i]? = some d → J.yld i H v H' → Ext H S H' S ∧ RSto K H' S ∧ RD K H' S v d
  stop : ∀ (i : Nat) (H : Hp) (S : Sto), Ext H0 S0 H S → RSto K H S → G S → items.length ≤ i → J.stop i H
def RefI (K : PySem.W.Frag) (H : Hp) (S : Sto) (Rm : List D → (Sto → Prop) → Sto → Prop) (R : It → Hp → Prop) : Prop := ∀ items G S' J H', Rm items G S' → Ext H S H' S' → RSto K H' S' → ItOk K H' S' J items G → R J H'
theorem RefI.ext {K : PySem.W.Frag} {H H' : Hp} {S S' : Sto} {Rm : List D → (Sto → Prop) → Sto → Prop} {R : It → Hp → Prop} (r : RefI K H S Rm R) (e : Ext H S H' S') : RefI K H' S' Rm R := fun items G S1 J H1 q e1 s k => r items G S1 J H1 q (e.trans e1) s k
def upI (K : PySem.W.Frag) (W : WX) (mi : MI) : TI := fun σ H R => ∃ mσ S Rm Em, RSt K H S σ mσ ∧ RSto K H S ∧ mi mσ S Rm Em ∧ RefI K H S Rm R ∧ RefX K H S Em (fun c d H' => W c d σ H')
theorem _root_.L2.PI.to {iter : Expr} {t t' : TI} (h : PI X tg iter t) (i : ∀ σ H R, t' σ H R → t σ H R) : PI X tg iter t' := ⟨fun pins s σ H R I q => h.run pins s σ H R I (i σ H R q)⟩
def wfor (G : Sto → Prop) (g : MG) (mb : MS) (D : MEnds) (items : List ML.D) (σ : MSt) (S : Sto) : Prop := ∃ I : Nat → MSt → Sto → Prop, I 0 σ S ∧ ∀ i σ S, i ≤ items.length → I i σ S → G S ∧ match items[i]? with
  | some d => g d σ S (fun σ' S' => mb { D with nx := I (i + 1), ct := I (i + 1), bk := D.nx } σ' S') (xAt D σ)
  | none => D.nx σ S
def mFor (mi : MI) (g : MG) (mb : MS) : MS := fun D σ S => mi σ S (fun items G S1 => wfor G g mb D items σ S1) (xAt D σ)
theorem sfor {iter : Expr} {body : List Stmt} {mi : MI} {mb : MS} (hp : PassesOwn (model X.prog X.w) X.A X.env X.xe) (hc : X.calm = true) (hi : PI X tg iter (upI X.K W mi)) (hg : PG X tg (upG X.K W g)) (hb : PSs X body (upS X.K W mb))
    (hs : ∀ x, foldedSetIterable iter X.env x = pure x := by intro _; rfl) : PS X (.For tg iter body [] pos) (upS X.K W (mFor mi g mb)) :=
  L2.PS.to (ps_for hp hc hi hg hb hs) fun D σ H ⟨m, S, Dm, h1, h2, h3, h4⟩ => by
    refine ⟨m, S, _, _, h1, h2, h3, fun items G S1 J H1 q e1 s1 it => ?_, xAt_ref h1 h4.ex⟩
    obtain ⟨I, i0, turn⟩ := q
    refine ⟨fun i n σ' H' => n = items.length - i ∧ i ≤ items.length ∧ ∃ m' S', RSt X.K H' S' σ' m' ∧ RSto X.K H' S' ∧ Ext H1 S1 H' S' ∧ I i m' S', ⟨items.length, by simp, Nat.zero_le _, m, S1, h1.ext e1, s1, Ext.refl, i0⟩, ?_⟩
    rintro i n σ2 H2 ⟨rfl, hle, m2, S2, k1, k2, k3, k4⟩
    have D4 := h4.ext (e1.trans k3)
    obtain ⟨gS, k4⟩ := turn i m2 S2 hle k4
    by_cases hlt : i < items.length
    · rw [List.getElem?_eq_getElem hlt] at k4
      refine .inr ⟨it.go i H2 S2 k3 k2 gS hlt, fun σ' H' => ∃ m' S', RSt X.K H' S' σ' m' ∧ RSto X.K H' S' ∧ Ext H1 S1 H' S' ∧ I (i + 1) m' S', fun σ' H' z => ⟨items.length - (i + 1), by omega, rfl, hlt, z⟩, fun v H3 y => ?_⟩
      obtain ⟨e3, s3, r3⟩ := it.yld i H2 S2 v H3 _ k3 k2 gS (List.getElem?_eq_getElem hlt) y
      refine ⟨_, m2, S2, _, _, r3, k1.ext e3, s3, k4, fun m4 S4 σ4 H4 q4 e4 s4 r4 => ?_, (xAt_ref k1 D4.ex).ext e3⟩
      have e34 := e3.trans e4
      have N : RefN X.K H4 S4 (I (i + 1)) (fun σ' H' => ∃ m' S', RSt X.K H' S' σ' m' ∧ RSto X.K H' S' ∧ Ext H1 S1 H' S' ∧ I (i + 1) m' S') :=
        fun m5 S5 σ5 H5 q5 e5 s5 r5 => ⟨m5, S5, r5, s5, k3.trans (e34.trans e5), q5⟩
      exact ⟨m4, S4, _, r4, s4, q4, ⟨N, D4.rt.ext e34, D4.nx.ext e34, N, D4.ex.ext e34⟩⟩
    · rw [List.getElem?_eq_none (by omega)] at k4
      exact .inl ⟨it.stop i H2 S2 k3 k2 gS (by omega), D4.nx m2 S2 σ2 H2 k4 Ext.refl k2 k1⟩
def wroll (G : Sto → Prop) (g : MG) (mb : MS) (D : MEnds) : List ML.D → MSt → Sto → Prop
  | [], σ, S => G S ∧ D.nx σ S
  | d :: ds, σ, S => G S ∧ g d σ S (fun σ' S' => mb { D with nx := wroll G g mb D ds, ct := wroll G g mb D ds, bk := D.nx } σ' S') (xAt D σ)
theorem wfor_roll {G : Sto → Prop} {mb : MS} {D : MEnds} {items : List ML.D} {σ : MSt} {S : Sto} (h : wroll G g mb D items σ S) : wfor G g mb D items σ S := by
  refine ⟨fun i => wroll G g mb D (items.drop i), by simpa using h, fun i σ S hi h => ?_⟩
  dsimp only at h ⊢
  by_cases hlt : i < items.length
  · have hd : items.drop i = items[i] :: items.drop (i + 1) := List.drop_eq_getElem_cons hlt
    rw [hd] at h
    rw [List.getElem?_eq_getElem hlt]
    exact h
  · have e : i = items.length := by omega
    subst e
    rw [List.drop_length] at h
    rw [List.getElem?_eq_none (by omega)]
    exact h
def iL (m : ME) : MI := fun σ S R E => m σ S (fun d S1 => match lstOf S1 d with
  | some ds => R ds (fun S' => lstOf S' d = some ds) S1
  | none => False) E
def iT (m : ME) : MI := fun σ S R E => m σ S (fun d S1 => match d with
  | .tup ds => R ds (fun _ => True) S1
  | _ => False) E
theorem itok_list {K : PySem.W.Frag} {H : Hp} {S : Sto} {d : D} {v : V} {ds : List D} (s : RSto K H S) (r : RD K H S v d) (h : lstOf S d = some ds) : ∃ a, v = .ref a ∧ (∃ xs, SqL K H a xs) ∧ ItOk K H S (Itl K a) ds (fun S' => lstOf S' d = some ds) := by
  obtain ⟨a, vs, rfl, hq, _⟩ := lst_sq s r h
  refine ⟨a, rfl, ⟨vs, hq⟩, fun i H' S' e s' g hi => ?_, fun i H' S' v H'' x e s' g hx y => ?_, fun i H' S' e s' g hi => ?_⟩
  · obtain ⟨a', vs', ea, hq', rs'⟩ := lst_sq s' (r.ext e) g
    cases ea
    exact ⟨vs', vs'[i]'(by rw [rs'.length]; exact hi), hq', List.getElem?_eq_getElem _⟩
  · obtain ⟨a', vs', ea, hq', rs'⟩ := lst_sq s' (r.ext e) g
    cases ea
    obtain ⟨rfl, y⟩ := y
    obtain ⟨w, hw, rw'⟩ := rs'.get hx
    have : v = w := Option.some.inj ((y _ hq').symm.trans hw)
    subst this
    exact ⟨Ext.refl, s', rw'⟩
  · obtain ⟨a', vs', ea, hq', rs'⟩ := lst_sq s' (r.ext e) g
    cases ea
    exact ⟨vs', hq', by rw [rs'.length]; exact hi⟩
theorem itok_tup {K : PySem.W.Frag} {H : Hp} {S : Sto} {v : V} {ds : List D} (s : RSto K H S) (r : RD K H S v (.tup ds)) : ∃ a, v = .ref a ∧ (∃ xs, SqT K H a xs) ∧ ItOk K H S (Itt K a) ds (fun _ => True) := by
  obtain ⟨a, vs, rfl, hq, _⟩ := r.tupSq
  refine ⟨a, rfl, ⟨vs, hq⟩, fun i H' S' e s' g hi => ?_, fun i H' S' v H'' x e s' g hx y => ?_, fun i H' S' e s' g hi => ?_⟩
  · obtain ⟨a', vs', ea, hq', rs'⟩ := (r.ext e).tupSq
    cases ea
    exact ⟨vs', vs'[i]'(by rw [rs'.length]; exact hi), hq', List.getElem?_eq_getElem _⟩
  · obtain ⟨a', vs', ea, hq', rs'⟩ := (r.ext e).tupSq
    cases ea
    obtain ⟨rfl, y⟩ := y
    obtain ⟨w, hw, rw'⟩ := rs'.get hx
    have : v = w := Option.some.inj ((y _ hq').symm.trans hw)
    subst this
    exact ⟨Ext.refl, s', rw'⟩
  · obtain ⟨a', vs', ea, hq', rs'⟩ := (r.ext e).tupSq
    cases ea
    exact ⟨vs', hq', by rw [rs'.length]; exact hi⟩
theorem il {l : Expr} (h : PE X l (upE X.K W m)) : PI X tg l (upI X.K W (iL m)) := L2.PI.to (pi_list h) fun σ H R ⟨m, S, Rm, Em, h1, h2, h3, h4, h5⟩ =>
  ⟨m, S, _, Em, h1, h2, h3, fun d S1 v H1 q e s r => by
    dsimp only at q
    cases e2 : lstOf S1 d with
    | none => rw [e2] at q; exact q.elim
    | some ds =>
      rw [e2] at q
      obtain ⟨a, rfl, hx, it⟩ := itok_list s r e2
      exact ⟨a, rfl, hx, h4 ds _ S1 _ H1 q e s it⟩, h5⟩
theorem it {l : Expr} (h : PE X l (upE X.K W m)) : PI X tg l (upI X.K W (iT m)) := L2.PI.to (pi_tup h) fun σ H R ⟨m, S, Rm, Em, h1, h2, h3, h4, h5⟩ =>
  ⟨m, S, _, Em, h1, h2, h3, fun d S1 v H1 q e s r => by
    cases d with
    | tup ds =>
      obtain ⟨a, rfl, hx, it⟩ := itok_tup s r
      exact ⟨a, rfl, hx, h4 ds _ S1 _ H1 q e s it⟩
    | _ => exact q.elim, h5⟩
def rngD (lo : Int) (n : Nat) : List D := (List.range n).map fun i => .int (lo + (i : Nat))
theorem rngD_get {lo : Int} {n i : Nat} {d : D} (h : (rngD lo n)[i]? = some d) : d = .int (lo + (i : Nat)) := by
  unfold rngD at h
  rw [List.getElem?_map] at h
  by_cases hi : i < n
  · rw [List.getElem?_eq_getElem (by simpa using hi), List.getElem_range] at h; cases h; rfl
  · rw [List.getElem?_eq_none (by simpa using Nat.le_of_not_lt hi)] at h; cases h
theorem rngD_len (lo : Int) (n : Nat) : (rngD lo n).length = n := by unfold rngD; rw [List.length_map, List.length_range]
theorem itok_rng {K : PySem.W.Frag} {H : Hp} {S : Sto} (lo : Int) (n : Nat) : ItOk K H S (Itr lo n) (rngD lo n) (fun _ => True) :=
  ⟨fun i H' S' e s' g hi => by rw [rngD_len] at hi; exact hi, fun i H' S' v H'' x e s' g hx ⟨y1, y2⟩ => by subst y1 y2; rw [rngD_get hx]; exact ⟨Ext.refl, s', .int _⟩, fun i H' S' e s' g hi => by rw [rngD_len] at hi; exact hi⟩
def iR1 (t : MA) : MI := fun σ S R E => t σ S (fun ds S1 => match ds with
  | [.int j] => (-(2 ^ 62) ≤ j ∧ j < 2 ^ 62) ∧ R (rngD 0 j.toNat) (fun _ => True) S1
  | _ => False) E
def iR2 (t : MA) : MI := fun σ S R E => t σ S (fun ds S1 => match ds with
  | [.int i, .int j] => (-(2 ^ 62) ≤ i ∧ i < 2 ^ 62 ∧ -(2 ^ 62) ≤ j ∧ j < 2 ^ 62) ∧ R (rngD i (j - i).toNat) (fun _ => True) S1
  | _ => False) E
theorem ir1 {mas : MA} {p : Pos} (hm : X.mg "range" = none) (ha : PA X [a] (upA X.K W mas)) (hg : Gl X "range" := by rfl) (hs : starEach [a] X.env = [(false, eval a X.env)] := by rfl) : PI X tg (.Call (.Name "range" p) [a] [] pos) (upI X.K W (iR1 mas)) :=
  L2.PI.to (pi_range1 hg hm ha hs) fun σ H R ⟨m, S, Rm, Em, h1, h2, h3, h4, h5⟩ => ⟨m, S, _, Em, h1, h2, h3, fun ds S1 vs H1 q e s r => by
    dsimp only at q
    split at q
    · obtain ⟨v, rfl, r1⟩ := rds1 r
      cases r1
      exact ⟨_, rfl, q.1.1, q.1.2, h4 _ _ S1 _ H1 q.2 e s (itok_rng _ _)⟩
    · exact q.elim, h5⟩
theorem pair_new {K : PySem.W.Frag} {H : Hp} {S : Sto} {T : Addr} {v w : V} {d e : D} (s : RSto K H S) (hT : H T = none) (r1 : RD K H S v d) (r2 : RD K H S w e) : Ext H S (upd H T (.tup [v, w])) S ∧ RSto K (upd H T (.tup [v, w])) S ∧ RD K (upd H T (.tup [v, w])) S (.ref T) (.tup [d, e]) := by
  have x := Ext.new (u := .tup [v, w]) s hT
  exact ⟨x, s.new hT, .tup (.inl upd_same) (s.fresh hT) (.cons (r1.ext x) (.cons (r2.ext x) .nil))⟩
def enumD (ds : List D) : List D := ds.zipIdx.map fun p => .tup [.int (p.2 : Nat), p.1]
theorem enumD_len (ds : List D) : (enumD ds).length = ds.length := by unfold enumD; rw [List.length_map, List.length_zipIdx]
theorem enumD_get {ds : List D} {i : Nat} {d : D} (h : (enumD ds)[i]? = some d) : ∃ x, ds[i]? = some x ∧ d = .tup [.int (i : Nat), x] := by
  unfold enumD at h
  rw [List.getElem?_map, List.getElem?_zipIdx] at h
  cases e : ds[i]? with
  | none => rw [e] at h; cases h
  | some x => rw [e] at h; cases h; exact ⟨x, rfl, by rw [Nat.zero_add]⟩
def iEn (t : MA) : MI := fun σ S R E => t σ S (fun ds S1 => match ds with
  | [d] => match lstOf S1 d with
    | some xs => R (enumD xs) (fun S' => lstOf S' d = some xs) S1
    | none => False
  | _ => False) E
theorem ien {mas : MA} {p tpos : Pos} {elts : List Expr} {kk : Nat} (hm : X.mg "enumerate" = none) (ha : PA X [e] (upA X.K W mas)) (hg : Gl X "enumerate" := by rfl) (hs : starEach [e] X.env = [(false, eval e X.env)] := by rfl) :
    PI X (.Tuple elts kk tpos) (.Call (.Name "enumerate" p) [e] [] pos) (upI X.K W (iEn mas)) :=
  L2.PI.to (pi_enum hg hm ha hs) fun σ H R ⟨m, S, Rm, Em, h1, h2, h3, h4, h5⟩ => ⟨m, S, _, Em, h1, h2, h3, fun ds S1 vs H1 q e1 s r => by
    dsimp only at q
    split at q
    · next d =>
      obtain ⟨v, rfl, r1⟩ := rds1 r
      cases e2 : lstOf S1 d with
      | none => rw [e2] at q; exact q.elim
      | some xs =>
        rw [e2] at q
        obtain ⟨a, us, rfl, hq, _⟩ := lst_sq s r1 e2
        refine ⟨a, us, rfl, hq, h4 _ _ S1 _ H1 q e1 s ⟨fun i H' S' e s' g hi => ?_, fun i H' S' v H'' x e s' g hx y => ?_, fun i H' S' e s' g hi => ?_⟩⟩
        · rw [enumD_len] at hi
          obtain ⟨a', vs', ea, hq', rs'⟩ := lst_sq s' (r1.ext e) g
          cases ea
          exact ⟨vs', vs'[i]'(by rw [rs'.length]; exact hi), hq', List.getElem?_eq_getElem _⟩
        · obtain ⟨a', vs', ea, hq', rs'⟩ := lst_sq s' (r1.ext e) g
          cases ea
          obtain ⟨T, w, rfl, hT, rfl, hy⟩ := y
          obtain ⟨z, hz, rfl⟩ := enumD_get hx
          obtain ⟨w', hw, rw'⟩ := rs'.get hz
          have : w = w' := Option.some.inj ((hy _ hq').symm.trans hw)
          subst this
          exact pair_new s' hT (.int _) rw'
        · rw [enumD_len] at hi
          obtain ⟨a', vs', ea, hq', rs'⟩ := lst_sq s' (r1.ext e) g
          cases ea
          exact ⟨vs', hq', by rw [rs'.length]; exact hi⟩
    · exact q.elim, h5⟩
def zipD (xs ys : List D) : List D := List.zipWith (fun x y => .tup [x, y]) xs ys
theorem zipD_get {xs ys : List D} {i : Nat} {d : D} (h : (zipD xs ys)[i]? = some d) : ∃ x y, xs[i]? = some x ∧ ys[i]? = some y ∧ d = .tup [x, y] := by
  unfold zipD at h
  rw [List.getElem?_zipWith] at h
  cases e1 : xs[i]? with
  | none => rw [e1] at h; cases h
  | some x =>
    cases e2 : ys[i]? with
    | none => rw [e1, e2] at h; cases h
    | some y => rw [e1, e2] at h; cases h; exact ⟨x, y, rfl, rfl, rfl⟩
def iZp (t : MA) : MI := fun σ S R E => t σ S (fun ds S1 => match ds with
  | [d, e] => match lstOf S1 d, lstOf S1 e with
    | some xs, some ys => R (zipD xs ys) (fun S' => lstOf S' d = some xs ∧ lstOf S' e = some ys) S1
    | _, _ => False
  | _ => False) E
end
abbrev wM (E : XK) : WX := fun cls d _ H => E cls d H
abbrev cxM (P : Program) (w : World) (K : PySem.W.Frag) (mg : Str → Option Value) (base : Heap) (N : List Str) (qual : Str) (st : Stmt) (f : Addr) (cdv : Value) (A : Around) (outer : List Env) (s : Shared) (H : Hp) (E : XK) : Cx :=
  cxOf (L2.CX P w) P w K mg base N qual (defScope st) f cdv A outer s H E
theorem tkM {P : Program} {w : World} {K : PySem.W.Frag} {mg : Str → Option Value} {base : Heap} {N : List Str} {qual : Str} {st : Stmt} {f : Addr} {cdv : Value} {A : Around} {outer : List Env} {s : Shared} {H : Hp} {E : XK} :
    Takes (cxM P w K mg base N qual st f cdv A outer s H E) (wM E) := takes_of rfl rfl rfl rfl
theorem poM {P : Program} {w : World} {K : PySem.W.Frag} {mg : Str → Option Value} {base : Heap} {N : List Str} {qual : Str} {st : Stmt} {f : Addr} {cdv : Value} {A : Around} {outer : List Env} {s : Shared} {H : Hp} {E : XK} :
    PassesOwn (model P w) (cxM P w K mg base N qual st f cdv A outer s H E).A (cxM P w K mg base N qual st f cdv A outer s H E).env (cxM P w K mg base N qual st f cdv A outer s H E).xe := passes_of rfl
def mstart (n : Nat) (ds : List D) : MSt := ds.map some ++ List.replicate n none
def mends (Q : MQ) (E : MXQ) : MEnds := { nx := fun _ S' => Q .non S', rt := Q, ex := fun x _ S' => E x S' }
theorem fn_mk {P : Program} {w : World} {K : PySem.W.Frag} {mg : Str → Option Value} {base : Heap} {x qual : Str} {st : Stmt} {f : Addr} {fd : FuncData} {N ps : List Str} {k n : Nat} {sp : MSp} {body : MS}
    (F : FunD K x qual (defArgs st) (defBody st) (defScope st) [] [] f fd) (S : FnScope N ps (defScope st)) (hn : N.length - ps.length = n)
    (len : ∀ ds S Q E, sp ds S Q E → ds.length = ps.length)
    (hbody : ∀ (cdv : Value) (A : Around) (outer : List Env) (s : Shared) (H : Hp) (E : XK), Room k (cxM P w K mg base N qual st f cdv A outer s H E).A → PSs (cxM P w K mg base N qual st f cdv A outer s H E) (defBody st) (upS K (wM E) body))
    (read : ∀ ds S Q E, sp ds S Q E → body (mends Q E) (mstart n ds) S) : FnOk P w K mg base (L2.CX P w) (k + 1) f fd ps (upSp K sp) := by
  refine F.ok S (fun vs H Q E ⟨ds, S, Qm, Em, h1, h2, h3, h4⟩ => by rw [h1.length]; exact len ds S Qm Em h3) fun cdv A outer s H vs Q E hr hsp => ?_
  refine ⟨_, hbody cdv A outer s H E hr, ?_⟩
  obtain ⟨ds, S, Qm, Em, h1, h2, h3, h4, h5⟩ := hsp
  have hl : vs.length = ps.length := by rw [h1.length]; exact len ds S Qm Em h3
  refine ⟨_, S, _, ?_, h2, read ds S Qm Em h3, ⟨fun m S' σ H' q e s r => h4 .non S' .non H' q e s .non, h4, fun _ _ _ _ z => z.elim, fun _ _ _ _ z => z.elim, fun x m S' c d σ H' q e s r rx => h5 x S' c d H' q e s rx⟩⟩
  unfold L2.start
  rw [hl, hn]
  exact RSt.start _ h1
def spLaw : MSp := fun ds _ Q _ => ∃ ns : List Int, ds = [.scr (ns.map .int)] ∧ ns.length ≤ 63 ∧ ∀ S', Q (.bl true) S'
theorem law_sp {K : PySem.W.Frag} {H : Hp} {a : Addr} {ns : List Int} (hl : ns.length ≤ 63) (hO : Only H) (hS : SqL K H a (ns.map V.int)) : upSp K spLaw [.ref a] H (fun v _ => v = .bl true) fun _ _ _ => False := by
  have r : RD K H (fun _ => none) (.ref a) (.scr (ns.map .int)) := by
    rcases hS with (h | ⟨o, h⟩) | ⟨o, its, n, h1, h2, h3, h4, h5, h6⟩
    · rcases hO a with z | ⟨o, xs, z⟩
      · rw [h] at z; cases z
      · rw [h] at z; cases z
    · exact .scr h rfl RDs.of_ints
    · exact .klst h1 h2 h3 h4 h5 h6 RDs.of_ints
  refine ⟨[.scr (ns.map .int)], fun _ => none, fun d _ => d = .bl true, fun _ _ => False, .cons r .nil, ?_, ⟨ns, rfl, hl, fun _ => rfl⟩, ?_, ?_⟩
  · intro _ _ e; cases e
  · intro d S' v H' q _ _ r
    have q' : d = .bl true := q
    rw [q'] at r
    cases r; rfl
  · intro x S' cls d H' q _ _ _; exact q
theorem law_cx {P : Program} {w : World} (H : Hp) (s : Shared) (e : Value) (s' : Shared) (h : L2.CX P w [] H s (fun _ _ _ => False) e s') : False := by
  obtain ⟨_, _, _, _, _, _, _, _, _, _, _, _, z⟩ := h
  exact z.elim
theorem law_end {l : PySem.W.OpenLaw} {k : Nat} {q : Program} {loose : List Str} {XP : (Str → Option Value) → Heap → Prop} {YP : World → Heap → Prop} {d : DefRec} {x : Str} (hn : l.most = some 63) (hdf : d.params.defaults = []) (hr : Room k callerA)
    (F : ∀ (w : World) (mg : Str → Option Value) (fa : Addr) (h : Heap), YP w h → h.Ns mainGlobals mg → mg d.name = some (.ref fa) → ∃ (K : PySem.W.Frag) (fd : FuncData), K.In h ∧ (∀ (s : Shared) (u : Value), BindsTo s fd ⟨[u], []⟩ [(x, u)]) ∧
      ∀ base : Heap, K.In base → base.Ns mainGlobals mg → FnOk l.prog w K mg base (L2.CX l.prog w) k fa fd [x] (upSp K spLaw)) : PySem.W.WalkO q loose XP YP l.row.toRowW d [] (fun f vs => PySem.call f vs) := by
  apply Att.attach_call hn hdf
  intro w _ s1 mg _ fa _ _ _ _ a vs ns G Y _ _ _ hmg hobj hints hlen hg
  have ⟨K, fd, KX, hb, hF⟩ := F w mg fa _ Y G.T.g hmg
  have h63 : ns.length ≤ sizeLine := by rw [sizeLine_eq]; omega
  refine law_call KX G.T.g G.T.b G.T.builtins G.T.nolimit hg hobj hints h63 hr hF hb ?_ ?_
  · intro H hO hS; exact law_sp hlen hO hS
  · intro H e s' z; exact law_cx H s1 e s' z
end ML
set_option maxRecDepth 100000
namespace ML
open PySem PySem.Spec L2
open PyProof.Rows hiding St
mutual
def D.py : D → PyData
  | .non => .none
  | .bl b => .bool b
  | .int i => .int i
  | .str x => .str x
  | .tup ds => .tuple (D.pys ds)
  | .lst ds => .list (D.pys ds)
  | .scr ds => .list (D.pys ds)
  | .ref _ => .none
def D.pys : List D → List PyData
  | [] => []
  | d :: ds => D.py d :: D.pys ds
end
mutual
def D.plain : D → Bool
  | .non => true
  | .bl _ => false
  | .int _ => true
  | .str x => PyData.strOk x
  | .tup ds => D.plains ds
  | .lst ds => D.plains ds
  | .scr ds => D.plains ds
  | .ref _ => false
def D.plains : List D → Bool
  | [] => true
  | d :: ds => D.plain d && D.plains ds
end
mutual
def D.deq : D → D → Bool
  | .non, .non => true
  | .bl a, .bl b => a == b
  | .int a, .int b => a == b
  | .str a, .str b => a == b
  | .tup a, .tup b => D.deqs a b
  | .lst a, .lst b => D.deqs a b
  | .lst a, .scr b => D.deqs a b
  | .scr a, .lst b => D.deqs a b
  | .scr a, .scr b => D.deqs a b
  | _, _ => false
def D.deqs : List D → List D → Bool
  | [], [] => true
  | a :: as, b :: bs => D.deq a b && D.deqs as bs
  | _, _ => false
end
mutual
def D.dep : D → Nat
  | .tup ds => D.deps ds + 1
  | .lst ds => D.deps ds + 1
  | .scr ds => D.deps ds + 1
  | _ => 0
def D.deps : List D → Nat
  | [] => 0
  | d :: ds => max (D.dep d) (D.deps ds)
end
mutual
theorem D.dep_py : ∀ d : D, (D.py d).depth = D.dep d
  | .non => rfl
  | .bl _ => rfl
  | .int _ => rfl
  | .str _ => rfl
  | .tup ds => by rw [D.py, PyData.depth, D.dep, D.deps_py ds]
  | .lst ds => by rw [D.py, PyData.depth, D.dep, D.deps_py ds]
  | .scr ds => by rw [D.py, PyData.depth, D.dep, D.deps_py ds]
  | .ref _ => rfl
theorem D.deps_py : ∀ ds : List D, PyData.depthAll (D.pys ds) = D.deps ds
  | [] => rfl
  | d :: ds => by rw [D.pys, PyData.depthAll, D.deps, D.dep_py d, D.deps_py ds]
end
mutual
theorem D.lay_py : ∀ d : D, D.plain d = true → (D.py d).canLay0 = true
  | .non, _ => by rw [D.py, PyData.canLay0]
  | .bl _, h => by cases h
  | .int _, _ => by rw [D.py, PyData.canLay0]
  | .str x, h => by rw [D.py, PyData.canLay0]; exact h
  | .tup ds, h => by rw [D.py, PyData.canLay0]; exact D.lays_py ds h
  | .lst ds, h => by rw [D.py, PyData.canLay0]; exact D.lays_py ds h
  | .scr ds, h => by rw [D.py, PyData.canLay0]; exact D.lays_py ds h
  | .ref _, h => by cases h
theorem D.lays_py : ∀ ds : List D, D.plains ds = true → PyData.canLayAll0 (D.pys ds) = true
  | [], _ => by rw [D.pys, PyData.canLayAll0]
  | d :: ds, h => by
    obtain ⟨h1, h2⟩ := Bool.and_eq_true_iff.mp (show (D.plain d && D.plains ds) = true from h)
    rw [D.pys, PyData.canLayAll0, D.lay_py d h1, D.lays_py ds h2]; rfl
end
mutual
theorem D.eqv_py : ∀ d e : D, D.plain d = true → D.plain e = true → PyData.eqv (D.py d) (D.py e) = D.deq d e
  | .bl _, _, h, _ => by cases h
  | .ref _, _, h, _ => by cases h
  | .non, e, _, h => by cases e <;> first | (cases h; done) | simp [D.py, PyData.eqv, D.deq]
  | .int _, e, _, h => by cases e <;> first | (cases h; done) | simp [D.py, PyData.eqv, D.deq]
  | .str _, e, _, h => by cases e <;> first | (cases h; done) | simp [D.py, PyData.eqv, D.deq]
  | .tup ds, e, h1, h => by
    cases e with
    | tup es => rw [D.py, D.py, PyData.eqv, D.deq]; exact D.eqvs_py ds es h1 h
    | bl _ => cases h
    | ref _ => cases h
    | _ => simp [D.py, PyData.eqv, D.deq]
  | .lst ds, e, h1, h => by
    cases e with
    | lst es => rw [D.py, D.py, PyData.eqv, D.deq]; exact D.eqvs_py ds es h1 h
    | scr es => rw [D.py, D.py, PyData.eqv, D.deq]; exact D.eqvs_py ds es h1 h
    | bl _ => cases h
    | ref _ => cases h
    | _ => simp [D.py, PyData.eqv, D.deq]
  | .scr ds, e, h1, h => by
    cases e with
    | lst es => rw [D.py, D.py, PyData.eqv, D.deq]; exact D.eqvs_py ds es h1 h
    | scr es => rw [D.py, D.py, PyData.eqv, D.deq]; exact D.eqvs_py ds es h1 h
    | bl _ => cases h
    | ref _ => cases h
    | _ => simp [D.py, PyData.eqv, D.deq]
theorem D.eqvs_py : ∀ ds es : List D, D.plains ds = true → D.plains es = true → PyData.eqvAll (D.pys ds) (D.pys es) = D.deqs ds es
  | [], [], _, _ => by rw [D.pys, PyData.eqvAll, D.deqs]
  | [], _ :: _, _, _ => by simp [D.pys, PyData.eqvAll, D.deqs]
  | _ :: _, [], _, _ => by simp [D.pys, PyData.eqvAll, D.deqs]
  | d :: ds, e :: es, h1, h2 => by
    obtain ⟨a1, a2⟩ := Bool.and_eq_true_iff.mp (show (D.plain d && D.plains ds) = true from h1)
    obtain ⟨b1, b2⟩ := Bool.and_eq_true_iff.mp (show (D.plain e && D.plains es) = true from h2)
    rw [D.pys, D.pys, PyData.eqvAll, D.deqs, D.eqv_py d e a1 b1, D.eqvs_py ds es a2 b2]
end
theorem D.shaped_py {d : D} (h : D.plain d = true) (hd : D.dep d ≤ 64) : SeqAt.shaped (D.py d) = true := by
  unfold SeqAt.shaped
  rw [D.lay_py d h, D.dep_py d, decide_eq_true hd]; rfl
mutual
theorem RD.dp {K : PySem.W.Frag} {H : Hp} {S : Sto} : ∀ {v : V} {d : D}, RD K H S v d → D.plain d = true → Dp K H v (D.py d)
  | _, _, .non, _ => by rw [D.py]; exact .non
  | _, _, .bl _, h => by cases h
  | _, _, .int i, _ => by rw [D.py]; exact .int i
  | _, _, .str x, _ => by rw [D.py]; exact .str x
  | _, _, .ref _, h => by cases h
  | _, _, .tup h n r, k => by rw [D.py]; exact .tup (.inl h) (RDs.dp r k)
  | _, _, .lst h n r, k => by rw [D.py]; exact .lst (.inl (.inl h)) (RDs.dp r k)
  | _, _, .scr h n r, k => by rw [D.py]; exact .lst (.inl (.inr ⟨_, h⟩)) (RDs.dp r k)
  | _, _, .ktup h1 h2 h3 h4 h5 r, k => by rw [D.py]; exact .tup (.inr ⟨_, _, _, h1, h2, h3, h4, h5⟩) (RDs.dp r k)
  | _, _, .klst h1 h2 h3 h4 h5 h6 r, k => by rw [D.py]; exact .lst (.inr ⟨_, _, _, h1, h2, h3, h4, h5, h6⟩) (RDs.dp r k)
theorem RDs.dp {K : PySem.W.Frag} {H : Hp} {S : Sto} : ∀ {vs : List V} {ds : List D}, RDs K H S vs ds → D.plains ds = true → DpAll K H vs (D.pys ds)
  | _, _, .nil, _ => by rw [D.pys]; exact .nil
  | _, _, .cons (d := d) (ds := ds) h r, k => by
    obtain ⟨a1, a2⟩ := Bool.and_eq_true_iff.mp (show (D.plain d && D.plains ds) = true from k)
    rw [D.pys]; exact .cons (RD.dp h a1) (RDs.dp r a2)
end
def look (S : Sto) : D → D
  | .ref p => match S p with
    | some (.lst ds) => .lst ds
    | _ => .ref p
  | d => d
theorem look_dp {K : PySem.W.Frag} {H : Hp} {S : Sto} {v : V} {d : D} (s : RSto K H S) (r : RD K H S v d) (h : D.plain (look S d) = true) : Dp K H v (D.py (look S d)) := by
  cases d with
  | ref p =>
    cases r
    simp only [look] at h ⊢
    cases e : S p with
    | none => rw [e] at h; cases h
    | some o =>
      rw [e] at h
      cases o with
      | lst ds =>
        obtain ⟨vs, e1, r1⟩ := s p _ e
        simp only
        rw [D.py]
        exact .lst (.inl (.inl e1)) (r1.dp h)
      | _ => cases h
  | _ => exact r.dp h
def eqOk (d e : D) : Bool := match d, e with
  | .bl _, .bl _ => true
  | d, e => D.plain d && D.plain e && decide (D.dep d ≤ 64) && decide (D.dep e ≤ 64)
theorem eqOk_at {d e : D} (h : eqOk d e = true) : (∃ a b, d = .bl a ∧ e = .bl b) ∨ (D.plain d = true ∧ D.plain e = true ∧ D.dep d ≤ 64 ∧ D.dep e ≤ 64) := by
  unfold eqOk at h
  split at h
  · exact .inl ⟨_, _, rfl, rfl⟩
  · simp only [Bool.and_eq_true, decide_eq_true_eq] at h
    exact .inr ⟨h.1.1.1, h.1.1.2, h.1.2, h.2⟩
def rEqM : R2m := fun d e S Q => eqOk (look S d) (look S e) = true ∧ Q (.bl (D.deq (look S d) (look S e))) S
def rNeM : R2m := fun d e S Q => eqOk (look S d) (look S e) = true ∧ Q (.bl (!D.deq (look S d) (look S e))) S
section
variable {X : Cx} {W : WX} {a b c e tg : Expr} {ma mb mc m : ME} {pos : Pos}
theorem look_bl {S : Sto} {d : D} {a : Bool} (h : look S d = .bl a) : d = .bl a := by
  cases d with
  | ref p => simp only [look] at h; split at h <;> cases h
  | _ => exact h
theorem ol_eq : OpL X.K (fun x y H Q => rEq x y H Q ∨ rEqD X.K x y H Q) rEqM := fun H S x y d e Qm Q s rx ry ⟨h1, h2⟩ k => by
  rcases eqOk_at h1 with ⟨p, q, e1, e2⟩ | ⟨p1, p2, d1, d2⟩
  · rw [e1, e2] at h2
    cases look_bl e1; cases look_bl e2
    cases rx; cases ry
    refine .inl ⟨rfl, k _ S _ H h2 Ext.refl s ?_⟩
    rw [dec_bl]; rw [D.deq]; exact .bl _
  · refine .inr ⟨_, _, look_dp s rx p1, look_dp s ry p2, D.shaped_py p1 d1, D.shaped_py p2 d2, k _ S _ H h2 Ext.refl s ?_⟩
    rw [D.eqv_py _ _ p1 p2]; exact .bl _
theorem ol_ne : OpL X.K (fun x y H Q => rNe x y H Q ∨ rNeD X.K x y H Q) rNeM := fun H S x y d e Qm Q s rx ry ⟨h1, h2⟩ k => by
  rcases eqOk_at h1 with ⟨p, q, e1, e2⟩ | ⟨p1, p2, d1, d2⟩
  · rw [e1, e2] at h2
    cases look_bl e1; cases look_bl e2
    cases rx; cases ry
    refine .inl ⟨rfl, k _ S _ H h2 Ext.refl s ?_⟩
    rw [dec_bl]; rw [D.deq]; exact .bl _
  · refine .inr ⟨_, _, look_dp s rx p1, look_dp s ry p2, D.shaped_py p1 d1, D.shaped_py p2 d2, k _ S _ H h2 Ext.refl s ?_⟩
    rw [D.eqv_py _ _ p1 p2]; exact .bl _
theorem op_eqA (hu : X.A.units + 64 < cLine) : OpR X (compareOp .Eq) (fun x y H Q => rEq x y H Q ∨ rEqD X.K x y H Q) := op_eq.or (op_eqD hu)
theorem op_neA (hu : X.A.units + 64 < cLine) : OpR X (compareOp .NotEq) (fun x y H Q => rNe x y H Q ∨ rNeD X.K x y H Q) := op_ne.or (op_neD hu)
theorem op_inDT (hu : X.A.units + 65 < cLine) : OpR X (compareOp .In) (fun x y H Q => ∃ d ds, Dp X.K H x d ∧ Dp X.K H y (.tuple ds) ∧ SeqAt.shaped d = true ∧ SeqAt.shaped (.tuple ds) = true ∧ Q (.bl (ds.any fun z => PyData.eqv z d)) H) := by
  intro pins s σ H x y v u Q I rx ry h
  have ⟨d, ds, hd, he, sd, se, q⟩ := h
  have ⟨as, r1⟩ := Dp.reads I d x v hd rx
  have ⟨bs, r2⟩ := Dp.reads I (.tuple ds) y u he ry
  have hm : min (PyData.depthAll ds) d.depth ≤ d.depth := Nat.min_le_right _ _
  have hd64 := SeqAt.depth_of_shaped sd
  exact SeqAt.in_tuple_reads r2 r1 (SeqAt.canLay_of_shaped se) (SeqAt.canLay_of_shaped sd) (by omega) ⟨.bl _, H, I, rfl, q⟩
def memD (d : D) (ds : List D) : Bool := ds.any fun z => D.deq z d
theorem memD_py {d : D} {ds : List D} (h : D.plain d = true) (hs : D.plains ds = true) : ((D.pys ds).any fun z => PyData.eqv z (D.py d)) = memD d ds := by
  induction ds with
  | nil => rw [D.pys]; rfl
  | cons e es ih =>
    obtain ⟨a1, a2⟩ := Bool.and_eq_true_iff.mp (show (D.plain e && D.plains es) = true from hs)
    rw [D.pys]
    show (PyData.eqv (D.py e) (D.py d) || (D.pys es).any _) = (D.deq e d || memD d es)
    rw [D.eqv_py e d a1 h, ih a2]
def rInM (neg : Bool) : R2m := fun d e S Q => match look S e with
  | .tup ds => (D.plain d = true ∧ D.plains ds = true ∧ D.dep d ≤ 64 ∧ D.deps ds ≤ 63) ∧ Q (.bl (if neg then !memD d ds else memD d ds)) S
  | .lst ds => (D.plain d = true ∧ D.plains ds = true ∧ D.dep d ≤ 64 ∧ D.deps ds ≤ 63) ∧ Q (.bl (if neg then !memD d ds else memD d ds)) S
  | .scr ds => (D.plain d = true ∧ D.plains ds = true ∧ D.dep d ≤ 64 ∧ D.deps ds ≤ 63) ∧ Q (.bl (if neg then !memD d ds else memD d ds)) S
  | _ => False
theorem rInM_at {neg : Bool} {d e : D} {S : Sto} {Q : MQ} (h : rInM neg d e S Q) : ∃ ds, (look S e = .tup ds ∨ look S e = .lst ds ∨ look S e = .scr ds) ∧ (D.plain d = true ∧ D.plains ds = true ∧ D.dep d ≤ 64 ∧ D.deps ds ≤ 63) ∧ Q (.bl (if neg then !memD d ds else memD d ds)) S := by
  unfold rInM at h
  split at h
  · next ds q => exact ⟨ds, .inl q, h⟩
  · next ds q => exact ⟨ds, .inr (.inl q), h⟩
  · next ds q => exact ⟨ds, .inr (.inr q), h⟩
  · exact h.elim
theorem ol_in : OpL X.K (fun x y H Q => rInD X.K x y H Q ∨ ∃ d ds, Dp X.K H x d ∧ Dp X.K H y (.tuple ds) ∧ SeqAt.shaped d = true ∧ SeqAt.shaped (.tuple ds) = true ∧ Q (.bl (ds.any fun z => PyData.eqv z d)) H) (rInM false) := fun H S x y d e Qm Q s rx ry h k => by
  obtain ⟨ds, hl, ⟨p1, p2, d1, d2⟩, q⟩ := rInM_at h
  have pl : D.plain (look S e) = true := by rcases hl with z | z | z <;> (rw [z]; exact p2)
  have dl : D.dep (look S e) ≤ 64 := by rcases hl with z | z | z <;> (rw [z, D.dep]; omega)
  have dp := look_dp s ry pl
  have sh := D.shaped_py pl dl
  have fin : ∀ K', RD K' H S (.bl ((D.pys ds).any fun z => PyData.eqv z (D.py d))) (.bl (memD d ds)) := fun _ => by rw [memD_py p1 p2]; exact .bl _
  rcases hl with z | z | z
  · rw [z, D.py] at dp sh
    exact .inr ⟨_, _, rx.dp p1, dp, D.shaped_py p1 d1, sh, k _ S _ H q Ext.refl s (fin _)⟩
  · rw [z, D.py] at dp sh
    exact .inl ⟨_, _, rx.dp p1, dp, D.shaped_py p1 d1, sh, k _ S _ H q Ext.refl s (fin _)⟩
  · rw [z, D.py] at dp sh
    exact .inl ⟨_, _, rx.dp p1, dp, D.shaped_py p1 d1, sh, k _ S _ H q Ext.refl s (fin _)⟩
theorem op_inA (hu : X.A.units + 65 < cLine) : OpR X (compareOp .In) (fun x y H Q => rInD X.K x y H Q ∨ ∃ d ds, Dp X.K H x d ∧ Dp X.K H y (.tuple ds) ∧ SeqAt.shaped d = true ∧ SeqAt.shaped (.tuple ds) = true ∧ Q (.bl (ds.any fun z => PyData.eqv z d)) H) := (op_inD hu).or (op_inDT hu)
def rIsBM (neg : Bool) : R2m := fun d e S Q => match d, e with
  | .bl p, .bl q => Q (.bl (if neg then !decide (p = q) else decide (p = q))) S
  | _, _ => False
def tyD (S : Sto) : D → Option String
  | .non => some "NoneType"
  | .bl _ => some "bool"
  | .int _ => some "int"
  | .str _ => some "str"
  | .tup _ => some "tuple"
  | .lst _ => some "list"
  | .scr _ => some "list"
  | .ref p => match S p with
    | some (.lst _) => some "list"
    | some (.dK _) => some "dict"
    | _ => none
def isTy (t u : String) : Bool := t == u || (t == "bool" && u == "int")
def mIsi (u : String) (m : ME) : ME := fun σ S Q E => m σ S (fun d S1 => match tyD S1 d with
  | some t => Q (.bl (isTy t u)) S1
  | none => False) E
def cutD (xs : List D) (lo hi : Option Int) : List D := (xs.drop (HT.sIx xs.length 0 lo)).take (HT.sIx xs.length xs.length hi - HT.sIx xs.length 0 lo)
theorem cut_rds {K : PySem.W.Frag} {H : Hp} {S : Sto} {vs : List V} {ds : List D} (r : RDs K H S vs ds) (lo hi : Option Int) : RDs K H S (cutV vs lo hi) (cutD ds lo hi) := by
  unfold cutV cutD
  rw [r.length]
  exact (r.drop _).take _
abbrev MO' := MSt → Sto → (Option Int → Sto → Prop) → MXQ → Prop
def upO (K : PySem.W.Frag) (W : WX) (m : MO') : TO := fun σ H Q => ∃ mσ S Qm Em, RSt K H S σ mσ ∧ RSto K H S ∧ m mσ S Qm Em ∧ (∀ o S' H', Qm o S' → Ext H S H' S' → RSto K H' S' → Q o H') ∧ RefX K H S Em (fun c d H' => W c d σ H')
def oNo : MO' := fun _ S Q _ => Q none S
def oSo (m : ME) : MO' := fun σ S Q E => m σ S (fun d S1 => match d with
  | .int i => Q (some i) S1
  | _ => False) E
theorem PO_to {oe : Option Expr} {t t' : TO} (h : PO X oe t) (i : ∀ σ H Q, t' σ H Q → t σ H Q) : PO X oe t' := by
  constructor
  intros
  apply h.run
  · assumption
  · exact i _ _ _ (by assumption)
theorem ono : PO X none (upO X.K W oNo) := PO_to po_none fun σ H Q ⟨m, S, Qm, Em, h1, h2, h3, h4, h5⟩ => h4 none S H h3 Ext.refl h2
theorem oso (h : PE X e (upE X.K W m)) : PO X (some e) (upO X.K W (oSo m)) := PO_to (po_some h) fun σ H Q ⟨m, S, Qm, Em, h1, h2, h3, h4, h5⟩ => ⟨m, S, _, Em, h1, h2, h3, fun d S1 v H1 q e s r => by
  cases d with
  | int i => cases r; exact ⟨i, rfl, h4 _ S1 H1 q e s⟩
  | _ => exact q.elim, h5⟩
def mCut (m : ME) (lo hi : MO') : ME := fun σ S Q E => m σ S (fun d S1 => lo σ S1 (fun l S2 => hi σ S2 (fun u S3 => match d with
  | .tup xs => ¬ (HT.sIx xs.length 0 l = 0 ∧ HT.sIx xs.length xs.length u = xs.length) ∧ Q (.tup (cutD xs l u)) S3
  | d => match lstOf S3 d with
    | some xs => Q (.lst (cutD xs l u)) S3
    | none => False) E) E) E
theorem ecut {lo hi : Option Expr} {ml mh : MO'} {p2 : Pos} (he : PE X e (upE X.K W m)) (hl : PO X lo (upO X.K W ml)) (hu : PO X hi (upO X.K W mh)) : PE X (.Subscript e (.Slice lo hi none p2) pos) (upE X.K W (mCut m ml mh)) :=
  (pe_slice (sl_tup.or sl_list) he hl hu).to fun σ H Q ⟨m, S, Qm, Em, h1, h2, h3, h4, h5⟩ => by
    refine ⟨m, S, _, Em, h1, h2, h3, fun d S1 v H1 q1 e1 s1 r1 => ⟨m, S1, _, Em, h1.ext e1, s1, q1, fun l S2 H2 q2 e2 s2 => ⟨m, S2, _, Em, h1.ext (e1.trans e2), s2, q2, fun u S3 H3 q3 e3 s3 => ?_, h5.ext (e1.trans e2)⟩, h5.ext e1⟩, h5⟩
    have r3 := r1.ext (e2.trans e3)
    have e123 := e1.trans (e2.trans e3)
    split at q3
    · next xs =>
      obtain ⟨a, vs, rfl, hq, rs⟩ := r3.tupSq
      refine .inl ⟨a, vs, rfl, hq, by rw [rs.length]; exact q3.1, fun p hp => ?_⟩
      exact h4 _ S3 _ _ q3.2 (e123.trans (Ext.new s3 hp)) (s3.new hp) (.tup (.inl upd_same) (s3.fresh hp) ((cut_rds rs l u).ext (Ext.new s3 hp)))
    · cases e : lstOf S3 d with
      | none => rw [e] at q3; exact q3.elim
      | some xs =>
        rw [e] at q3
        obtain ⟨a, vs, rfl, hq, rs⟩ := lst_sq s3 r3 e
        exact .inr ⟨a, vs, rfl, hq, fun p hp => h4 _ S3 _ _ q3 (e123.trans (Ext.new s3 hp)) (s3.new hp) (.lst upd_same (s3.fresh hp) ((cut_rds rs l u).ext (Ext.new s3 hp)))⟩
def isLst (S : Sto) (d : D) : Prop := ∃ xs, lstOf S d = some xs
abbrev RMm := D → List D → Sto → MQ → Prop
def MtL (K : PySem.W.Frag) (r : V → List V → Hp → VK → Prop) (rm : RMm) : Prop := ∀ (H : Hp) (S : Sto) (x : V) (xs : List V) (d : D) (ds : List D) (Qm : MQ) (Q : VK), RSto K H S → RD K H S x d → RDs K H S xs ds → rm d ds S Qm → Ref K H S Qm Q → r x xs H Q
def mMt (rm : RMm) (mo : ME) (t : MA) : ME := fun σ S Q E => mo σ S (fun d S1 => isLst S1 d ∧ t σ S1 (fun ds S2 => rm d ds S2 Q) E) E
def mMt0 (rm : RMm) (mo : ME) : ME := fun σ S Q E => mo σ S (fun d S1 => isLst S1 d ∧ rm d [] S1 Q) E
theorem isLst_ty {K : PySem.W.Frag} {H : Hp} {S : Sto} {v : V} {d : D} (s : RSto K H S) (r : RD K H S v d) (h : isLst S d) : tyV K "list" v H := by
  obtain ⟨xs, e⟩ := h
  obtain ⟨a, vs, rfl, hq, _⟩ := lst_sq s r e
  exact .inl ⟨rfl, vs, hq⟩
theorem emt {id : String} {name : Str} {r : V → List V → Hp → VK → Prop} {rm : RMm} {o : Expr} {mo : ME} {es : List Expr} {mas : MA} {apos cpos : Pos} (slot : Slot "list" name id) (hty : typeOf (.builtin id) = pure (.type "method_descriptor")) (hm : MtR X id r) (hl : MtL X.K r rm) (ho : PE X o (upE X.K W mo)) (ha : PA X (e :: es) (upA X.K W mas))
    (hbase : attributeBase o name X.env (eval o X.env) = eval o X.env := by rfl)
    (hfew : ((backTo cpos (starEach (e :: es) X.env)).all (fun x => !x.1) && (backToKw cpos (keywordEach [] X.env)).all (fun x => x.1.isSome)
      && decide ((e :: es).length + ([] : List Keyword).length + (if ([] : List Keyword).isEmpty then 0 else 1) < 30)) = true := by rfl)
    (hline : (apos.endLine == cpos.line) = true := by rfl) (hs : starEach (e :: es) X.env = (false, eval e X.env) :: starEach es X.env := by rfl) (hplain : (backTo cpos (starEach es X.env)).any (·.1) = false := by rfl) :
    PE X (.Call (.Attribute o name apos) (e :: es) [] cpos) (upE X.K W (mMt rm mo mas)) :=
  (pe_bm PySem.F.plainAttrs_list slot hty hm ho ha hbase hfew hline hs hplain).to fun σ H Q ⟨m, S, Qm, Em, h1, h2, h3, h4, h5⟩ =>
    ⟨m, S, _, Em, h1, h2, h3, fun d S1 v H1 q1 e1 s1 r1 => ⟨isLst_ty s1 r1 q1.1, m, S1, _, Em, h1.ext e1, s1, q1.2, fun ds S2 vs H2 q2 e2 s2 r2 => hl H2 S2 v vs d ds Qm Q s2 (r1.ext e2) r2 q2 (h4.ext (e1.trans e2)), h5.ext e1⟩, h5⟩
theorem chg_lst {K : PySem.W.Frag} {H : Hp} {S : Sto} {p : Addr} {xs ys : List D} {vs : List V} (s : RSto K H S) (e : S p = some (.lst xs)) (r : RDs K H S vs ys) : Ext H S (upd H p (.lst vs)) (put S p (.lst ys)) ∧ RSto K (upd H p (.lst vs)) (put S p (.lst ys)) :=
  ⟨Ext.chg e, s.chg e ⟨vs, upd_same, r.ext (Ext.chg e)⟩⟩
def mtAppend : RMm := fun d ds S Q => match d, ds with
  | .ref p, [y] => match S p with
    | some (.lst xs) => xs.length < sizeLine ∧ Q .non (put S p (.lst (xs ++ [y])))
    | _ => False
  | _, _ => False
theorem ml_append : MtL X.K rAppend mtAppend := fun H S x vs d ds Qm Q s rx rs h k => by
  unfold mtAppend at h
  split at h
  · next p y =>
    cases rx
    obtain ⟨w, rfl, rw1⟩ := rds1 rs
    split at h
    · next xs e =>
      obtain ⟨us, eu, ru⟩ := s p _ e
      obtain ⟨x1, x2⟩ := chg_lst s e (ru.append (.cons rw1 .nil))
      exact ⟨p, us, w, rfl, rfl, eu, by rw [ru.length]; exact h.1, k _ _ _ _ h.2 x1 x2 .non⟩
    · exact h.elim
  · exact h.elim
def mtInsert : RMm := fun d ds S Q => match d, ds with
  | .ref p, [.int i, y] => match S p with
    | some (.lst xs) => (xs.length < sizeLine ∧ 0 ≤ i ∧ i < 2 ^ 63) ∧ Q .non (put S p (.lst (xs.take i.toNat ++ [y] ++ xs.drop i.toNat)))
    | _ => False
  | _, _ => False
theorem ml_insert : MtL X.K (fun x vs H Q => ∃ (l : Addr) (xs : List V) (i : Int) (y : V), x = .ref l ∧ vs = [.int i, y] ∧ H l = some (.lst xs) ∧ xs.length < sizeLine ∧ 0 ≤ i ∧ i < 2 ^ 63 ∧ Q .non (upd H l (.lst (xs.take i.toNat ++ [y] ++ xs.drop i.toNat)))) mtInsert := fun H S x vs d ds Qm Q s rx rs h k => by
  unfold mtInsert at h
  split at h
  · next p i y =>
    cases rx
    obtain ⟨v, w, rfl, rv, rw1⟩ := rds2 rs
    cases rv
    split at h
    · next xs e =>
      obtain ⟨us, eu, ru⟩ := s p _ e
      obtain ⟨x1, x2⟩ := chg_lst s e (((ru.take i.toNat).append (.cons rw1 .nil)).append (ru.drop i.toNat))
      exact ⟨p, us, i, w, rfl, rfl, eu, by rw [ru.length]; exact h.1.1, h.1.2.1, h.1.2.2, k _ _ _ _ h.2 x1 x2 .non⟩
    · exact h.elim
  · exact h.elim
def mtPop : RMm := fun d ds S Q => match d, ds with
  | .ref p, [] => match S p with
    | some (.lst xs) => match xs[xs.length - 1]? with
      | some y => Q y (put S p (.lst xs.dropLast))
      | none => False
    | _ => False
  | _, _ => False
def mtPop0 : RMm := fun d ds S Q => match d, ds with
  | .ref p, [.int 0] => match S p with
    | some (.lst (y :: xs)) => Q y (put S p (.lst xs))
    | _ => False
  | _, _ => False
def mtReverse : RMm := fun d ds S Q => match d, ds with
  | .ref p, [] => match S p with
    | some (.lst xs) => Q .non (put S p (.lst xs.reverse))
    | _ => False
  | _, _ => False
def mtClear : RMm := fun d ds S Q => match d, ds with
  | .ref p, [] => match S p with
    | some (.lst xs) => Q .non (put S p (.lst []))
    | _ => False
  | _, _ => False
def mtExtend : RMm := fun d ds S Q => match d, ds with
  | .ref p, [y] => match S p, ownOf S y with
    | some (.lst xs), some ys => xs.length + ys.length ≤ sizeLine ∧ Q .non (put S p (.lst (xs ++ ys)))
    | _, _ => False
  | _, _ => False
def idxD (d : D) : List D → Option Nat
  | [] => none
  | e :: es => if D.deq e d = true then some 0 else (idxD d es).map (· + 1)
def mtIndex : RMm := fun d ds S Q => match ds with
  | [y] => match lstOf S d with
    | some xs => (D.plain y = true ∧ D.plains xs = true ∧ D.dep y ≤ 64 ∧ D.deps xs ≤ 63) ∧ match idxD y xs with
      | some j => Q (.int (j : Nat)) S
      | none => False
    | none => False
  | _ => False
end
end ML
set_option maxRecDepth 100000
namespace ML
open PySem PySem.Spec L2
open PyProof.Rows hiding St
theorem u65 {k : Nat} {A : Around} (r : Room k A) : A.units + 65 < cLine := by have := r.un; omega
section
variable {X : Cx} {W : WX} {a b c e tg : Expr} {ma mb mc m : ME} {pos : Pos} {g : MG}
theorem eglobI {x : Str} {i : Int} {pos : Pos} (hm : ∃ t, X.mg x = some (.int i t)) (hg : Gl X x := by rfl) (hd : (x == ("__debug__" : Str)) = false := by decide) : PE X (.Name x pos) (upE X.K W (mC (.int i))) := by
  obtain ⟨t, h⟩ := hm
  exact eglob (v := .int i) (fun _ _ _ => .int i) ⟨t, rfl⟩ h hg hd
def wipeM (σ : MSt) : List Nat → MSt
  | [] => σ
  | v :: vs => (wipeM σ vs).set v none
theorem wipe_rst {K : PySem.W.Frag} {H : Hp} {S : Sto} {σ : L2.St} {m : MSt} (r : RSt K H S σ m) : ∀ vs : List Nat, RSt K H S (wipe σ vs) (wipeM m vs)
  | [] => r
  | v :: vs => (wipe_rst r vs).unset v none
theorem wipe_get {σ : L2.St} {i : Nat} : ∀ {vs : List Nat}, i < σ.length → (wipe σ vs)[i]? = if i ∈ vs then some none else σ[i]?
  | [], _ => by simp [wipe]
  | v :: vs, h => by
    unfold wipe
    by_cases hv : v = i
    · subst hv
      rw [List.getElem?_set_self (by rw [wipe_length]; exact h)]
      simp
    · rw [List.getElem?_set_ne hv, wipe_get h]
      simp [Ne.symm hv]
theorem wipe_ext {σ τ : L2.St} {vs : List Nat} (hl : σ.length = τ.length) (h : ∀ i, i ∉ vs → σ[i]? = τ[i]?) : wipe σ vs = wipe τ vs := by
  apply List.ext_getElem?
  intro i
  by_cases hi : i < σ.length
  · rw [wipe_get hi, wipe_get (by omega)]
    split
    · rfl
    · next hn => exact h i hn
  · rw [List.getElem?_eq_none (by rw [wipe_length]; omega), List.getElem?_eq_none (by rw [wipe_length]; omega)]
theorem wipe_idem {σ : L2.St} {vs : List Nat} : wipe (wipe σ vs) vs = wipe σ vs :=
  wipe_ext (wipe_length _ _) fun i hi => by
    by_cases hl : i < σ.length
    · rw [wipe_get hl, if_neg hi]
    · rw [List.getElem?_eq_none (by rw [wipe_length]; omega), List.getElem?_eq_none (by omega)]
theorem wipe_set {σ : L2.St} {vs : List Nat} {i : Nat} {o : Option V} (h : i ∈ vs) : wipe (σ.set i o) vs = wipe σ vs :=
  wipe_ext (List.length_set ..) fun j hj => List.getElem?_set_ne (fun e => by subst e; exact hj h)
def upGo (K : PySem.W.Frag) (vs : List Nat) (g : MG) : TG := fun v σ H Q => ∃ d mσ S Qm, RD K H S v d ∧ RSt K H S σ mσ ∧ RSto K H S ∧ g d mσ S Qm (fun _ _ => False) ∧ ∀ m S' σ' H', Qm m S' → Ext H S H' S' → RSto K H' S' → RSt K H' S' σ' m → wipe σ' vs = wipe σ vs → Q σ' H'
theorem gonm {i : Nat} {x : Str} {vs : List Nat} (hN : X.N.Nodup) (hv : i ∈ vs) (hi : X.N[i]? = some x := by rfl) (hx : Loc X.env.scope x := by first | exact Or.inl rfl | exact Or.inr rfl) (hf : X.fn x = true ∨ X.env.scope.names.lookup x = some .local := by first | exact .inr rfl | exact .inl rfl | assumption) :
    PG X (.Name x pos) (upGo X.K vs (gNm i)) := (pg_name hN hi hx hf).to fun v σ H Q ⟨d, m, S, Qm, r, h1, h2, h3, h4⟩ => h4 _ S _ H h3 Ext.refl h2 (h1.set r i) (wipe_set hv)
def upGos (K : PySem.W.Frag) (vs : List Nat) (g : MGs) : TGs := fun us σ H Q => ∃ ds mσ S Qm, RDs K H S us ds ∧ RSt K H S σ mσ ∧ RSto K H S ∧ g ds mσ S Qm (fun _ _ => False) ∧ ∀ m S' σ' H', Qm m S' → Ext H S H' S' → RSto K H' S' → RSt K H' S' σ' m → wipe σ' vs = wipe σ vs → Q σ' H'
theorem gonl {vs : List Nat} : PGs X [] (upGos X.K vs gNl) := by
  constructor
  intro pins s σ H us ws Q I r ⟨ds, m, S, Qm, r1, h1, h2, h3, h4⟩
  cases ds with
  | nil => cases r1; exact pgs_nil.run pins s σ H [] ws Q I r ⟨rfl, h4 m S σ H h3 Ext.refl h2 h1 rfl⟩
  | cons _ _ => exact h3.elim
theorem gocn {vs : List Nat} {gs : MGs} {es : List Expr} (h1 : PG X e (upGo X.K vs g)) (h2 : PGs X es (upGos X.K vs gs)) (hs : (assignEach (e :: es) X.env).map (·.2) = assign e X.env :: (assignEach es X.env).map (·.2) := by rfl) : PGs X (e :: es) (upGos X.K vs (gCn g gs)) := by
  constructor
  intro pins s σ H us ws Q I r ⟨ds, m, S, Qm, r1, k1, k2, k3, k4⟩
  refine (pgs_cons h1 h2 hs).run pins s σ H us ws Q I r ?_
  cases ds with
  | nil => exact k3.elim
  | cons d ds =>
    cases r1 with
    | cons rd rds =>
      refine ⟨_, _, rfl, d, m, S, _, rd, k1, k2, k3, fun m' S' σ' H' q e s' st w1 => ?_⟩
      exact ⟨ds, m', S', Qm, rds.ext e, st, s', q, fun m2 S2 σ2 H2 q2 e2 s2 r2 w2 => k4 m2 S2 σ2 H2 q2 (e.trans e2) s2 r2 (w2.trans w1)⟩
theorem gotp {vs : List Nat} {gs : MGs} {es : List Expr} {k n : Nat} (hc : X.calm = true) (h : PGs X es (upGos X.K vs gs)) (hn : (assignEach es X.env).length = n := by rfl) (hst : (assignEach es X.env).findIdx? (·.1) = none := by rfl) : PG X (.Tuple es k pos) (upGo X.K vs (gTp n gs)) :=
  (pg_tup hc h hn hst).to fun v σ H Q ⟨d, m, S, Qm, r, h1, h2, h3, h4⟩ => by
    cases d with
    | tup ds =>
      obtain ⟨a, us, rfl, hq, rs⟩ := r.tupSq
      exact ⟨a, us, rfl, hq, rs.length.trans h3.1, ds, m, S, Qm, rs, h1, h2, h3.2, h4⟩
    | _ => exact h3.elim
abbrev W0 : WX := fun _ _ _ _ => False
def mYes : MT := fun _ S Q _ => Q true S
theorem tsNil : PTs X [] (upT X.K W0 mYes) := by
  constructor
  intro pins s σ H Q I ⟨m, S, Qm, Em, h1, h2, h3, h4, _⟩
  exact pts_nil.run pins s σ H Q I (h4 true S H h3 Ext.refl h2)
def noX : MXQ := fun _ _ => False
def wlc (G : Sto → Prop) (g : MG) (mt : MT) (me : ME) (p : Addr) (own : List Nat) (σ : MSt) (fin : List D → Sto → Prop) (items : List D) (S : Sto) : Prop := ∃ I : Nat → Sto → Prop, I 0 S ∧ ∀ i S, i ≤ items.length → I i S → G S ∧ match items[i]? with
  | some d => g d (wipeM σ own) S (fun σ2 S2 => mt σ2 S2 (fun k S3 => if k = true then me σ2 S3 (fun y S4 => ∃ acc, S4 p = some (.lst acc) ∧ acc.length < sizeLine ∧ I (i + 1) (put S4 p (.lst (acc ++ [y])))) noX else I (i + 1) S3) noX) noX
  | none => ∃ acc, S p = some (.lst acc) ∧ fin acc S
def del (S : Sto) (p : Addr) : Sto := fun b => if b = p then none else S b
theorem del_put {S : Sto} {p : Addr} {o : MO} (h : S p = none) : del (put S p o) p = S := by
  funext b; unfold del put
  by_cases e : b = p
  · subst e; rw [if_pos rfl, h]
  · rw [if_neg e, if_neg e]
def mComp (mi : MI) (g : MG) (mt : MT) (me : ME) (own : List Nat) : ME := fun σ S Q E => mi σ S (fun items G S1 => ∀ p, S1 p = none → wlc G g mt me p own σ (fun _ S2 => Q (.ref p) S2) items (put S1 p (.lst []))) E
def mCompF (mi : MI) (g : MG) (mt : MT) (me : ME) (own : List Nat) : ME := fun σ S Q E => mi σ S (fun items G S1 => ∀ p, S1 p = none → wlc G g mt me p own σ (fun acc S2 => Q (.lst acc) (del S2 p)) items (put S1 p (.lst []))) E
theorem lc_to {mt : MT} {me : ME} {vs : List Nat} {K : PySem.W.Frag} {σ : L2.St} {m : MSt} {H1 : Hp} {S1 : Sto} {J : It} {items : List D} {G : Sto → Prop} {Dp : Addr} {Q : VK} {fin : List D → Sto → Prop} (h1 : RSt K H1 S1 σ m) (s1 : RSto K H1 S1) (it : ItOk K H1 S1 J items G)
    (hD : H1 Dp = none) (h : wlc G g mt me Dp vs m fin items (put S1 Dp (.lst [])))
    (hf : ∀ acc H S, fin acc S → S Dp = some (.lst acc) → Ext H1 S1 H S → RSto K H S → Q (.ref Dp) H) :
    ∃ W : Nat → Nat → Hp → Prop, (∃ n, W 0 n (upd H1 Dp (.lst []))) ∧ ∀ i n H, W i n H → (J.stop i H ∧ Q (.ref Dp) H) ∨ (J.go i H ∧ ∃ Nx : Hp → Prop, (∀ H', Nx H' → ∃ m', m' < n ∧ W (i + 1) m' H') ∧ ∀ x H', J.yld i H x H' →
      upGo K vs g x (wipe σ vs) H' fun σ2 H2 => wipe σ2 vs = wipe σ vs ∧ upT K W0 mt σ2 H2 fun b H3 => if b = true then upE K W0 me σ2 H3 fun y H4 => ∃ acc, H4 Dp = some (.lst acc) ∧ acc.length < sizeLine ∧ Nx (upd H4 Dp (.lst (acc ++ [y]))) else Nx H3) := by
  have x0 : Ext H1 S1 (upd H1 Dp (.lst [])) (put S1 Dp (.lst [])) := Ext.newS s1 hD
  obtain ⟨I, i0, turn⟩ := h
  refine ⟨fun i n H => n = items.length - i ∧ i ≤ items.length ∧ ∃ S, RSto K H S ∧ Ext H1 S1 H S ∧ I i S, ⟨items.length, by simp, Nat.zero_le _, _, s1.newS (o := .lst []) hD ⟨[], upd_same, .nil⟩, x0, i0⟩, ?_⟩
  rintro i n H ⟨rfl, hle, S, s, e, q⟩
  obtain ⟨gS, q⟩ := turn i S hle q
  by_cases hlt : i < items.length
  · rw [List.getElem?_eq_getElem hlt] at q
    refine .inr ⟨it.go i H S e s gS hlt, fun H' => ∃ S', RSto K H' S' ∧ Ext H1 S1 H' S' ∧ I (i + 1) S', fun H' z => ⟨items.length - (i + 1), by omega, rfl, hlt, z⟩, fun v H2 y => ?_⟩
    obtain ⟨e2, s2, r2⟩ := it.yld i H S v H2 _ e s gS (List.getElem?_eq_getElem hlt) y
    refine ⟨_, wipeM m vs, S, _, r2, wipe_rst (h1.ext (e.trans e2)) vs, s2, q, fun m3 S3 σ3 H3 q3 e3 s3 r3 w3 => ⟨w3.trans wipe_idem, m3, S3, _, noX, r3, s3, q3, fun k S4 H4 q4 e4 s4 => ?_, fun _ _ _ _ _ z => z.elim⟩⟩
    have e1234 := e.trans (e2.trans (e3.trans e4))
    cases k with
    | true =>
      rw [if_pos rfl] at q4
      show (if true = true then _ else _)
      rw [if_pos rfl]
      refine ⟨m3, S4, _, noX, r3.ext e4, s4, q4, fun d S5 w5 H5 q5 e5 s5 r5 => ?_, fun _ _ _ _ _ z => z.elim⟩
      obtain ⟨acc, ea, hz, q6⟩ := q5
      obtain ⟨us, eu, ru⟩ := s5 _ _ ea
      obtain ⟨x1, x2⟩ := chg_lst s5 ea (ru.append (.cons r5 .nil))
      exact ⟨us, eu, by rw [ru.length]; exact hz, _, x2, e1234.trans (e5.trans x1), q6⟩
    | false =>
      rw [if_neg Bool.false_ne_true] at q4
      show (if false = true then _ else _)
      rw [if_neg Bool.false_ne_true]
      exact ⟨S4, s4, e1234, q4⟩
  · rw [List.getElem?_eq_none (by omega)] at q
    obtain ⟨acc, ea, q⟩ := q
    exact .inl ⟨it.stop i H S e s gS (by omega), hf acc H S q ea e s⟩
theorem rsto_del {K : PySem.W.Frag} {H : Hp} {S : Sto} {p : Addr} (s : RSto K H S) : Ext H S H (del S p) := fun a o h n => ⟨h, by unfold del; split <;> first | rfl | exact n⟩
theorem rsto_del' {K : PySem.W.Frag} {H : Hp} {S : Sto} {p : Addr} (s : RSto K H S) : RSto K H (del S p) := fun a o e => by
  unfold del at e
  split at e
  · cases e
  · exact (s a o e).ext (rsto_del s) rfl
theorem ecompF {elt iter : Expr} {ifs : List Expr} {scope : Scope} {own : List (Str × Nat)} {mi : MI} {mt : MT} {me : ME} (hc : X.calm = true) (hN : X.N.Nodup) (hi : PI X tg iter (upI X.K W mi)) (ok : BlkOk X.N X.env.scope scope own)
    (hg : ∀ (s : Shared) (H : Hp) (C : Addr) (cl : List (Str × Addr)) (fp : List Addr), PG (X.blk s H scope (compEnvC scope cl C X.env) fp) tg (upGo X.K (own.map (·.2)) g)) (ht : ∀ (s : Shared) (H : Hp) (C : Addr) (cl : List (Str × Addr)) (fp : List Addr), PTs (X.blk s H scope (compEnvC scope cl C X.env) fp) ifs (upT X.K W0 mt))
    (he : ∀ (s : Shared) (H : Hp) (C : Addr) (cl : List (Str × Addr)) (fp : List Addr), PE (X.blk s H scope (compEnvC scope cl C X.env) fp) elt (upE X.K W0 me)) (hs : ∀ x, foldedSetIterable iter X.env x = pure x := by intro _; rfl) :
    PE X (.ListComp elt [⟨tg, iter, ifs, 0⟩] scope pos) (upE X.K W (mCompF mi g mt me (own.map (·.2)))) :=
  (pe_lc hc hN hi ok hg ht he hs).to fun σ H Q ⟨m, S, Qm, Em, h1, h2, h3, h4, h5⟩ => ⟨m, S, _, Em, h1, h2, h3, fun items G S1 J H1 q e1 s1 it Dp hD =>
    lc_to (h1.ext e1) s1 it hD (q Dp (s1.fresh hD)) fun acc H' S' f ea e' s' => by
      obtain ⟨us, eu, ru⟩ := s' _ _ ea
      exact h4 _ (del S' Dp) _ H' f (e1.trans (e'.trans (rsto_del s'))) (rsto_del' s') (.lst eu (if_pos rfl) (ru.ext (rsto_del s'))), h5⟩
end
def kitB (K : PySem.W.Frag) (u : String) : Bool := (["NoneType", "bool", "int", "str", "tuple", "list", "dict"] : List String).all fun t => decide (PySem.W.kitOne K (.type t) (.type u) = some (isTy t u))
abbrev AlK : Type := He.AlD × Bool
def obsK (fa : List He.Fa) (fn : List He.DefD) (ks : List String) (K : PySem.W.Frag) : AlK := (He.obsD fa fn K, ks.all (kitB K))
structure SaysK (fa : List He.Fa) (fn : List He.DefD) (ks : List String) (K : PySem.W.Frag) : Prop where
  says : He.SaysD fa fn K
  kits : ks.all (kitB K) = true
end ML
namespace ML
open PySem PySem.Spec L2
theorem mulok_r {i j : Int} (h1 : -(2 ^ 64) < j) (h2 : j < 2 ^ 64) : IntMulOk i j := .of_right (intBits_le_64 h1 h2)
theorem mulok_l {i j : Int} (h1 : -(2 ^ 64) < i) (h2 : i < 2 ^ 64) : IntMulOk i j := .of_left (intBits_le_64 h1 h2)
theorem mulok_w {i j : Int} {a b : Nat} (ha : i.natAbs < 2 ^ a) (hb : j.natAbs < 2 ^ b) (h0 : 0 < a) (h1 : 0 < b) (h : a + b ≤ 1000000) : IntMulOk i j := (wide_mul ha hb h0 h1 h).ok
theorem divok_s {i j : Int} (h0 : j ≠ 0) (h : j.natAbs < 1073741824) : DivOk i j := ⟨h0, PyProof.noPylong_small h⟩
theorem divok_w {i j : Int} {b : Nat} (h0 : j ≠ 0) (hb : j.natAbs < 2 ^ b) (h1 : 0 < b) (h : b ≤ 9000) : DivOk i j := ⟨h0, PyProof.noPylong_of_log2 (Nat.lt_of_lt_of_le (PySem.Flt.log2_lt_of h1 hb) h)⟩
theorem fdiv_pos {i j : Int} (h : 0 ≤ j) : i.fdiv j = i / j := Int.fdiv_eq_ediv_of_nonneg i h
theorem fmod_pos {i j : Int} (h : 0 ≤ j) : i.fmod j = i % j := Int.fmod_eq_emod_of_nonneg i h
theorem line_le {n : Nat} (h : n ≤ 1000) : n ≤ sizeLine := by rw [sizeLine_eq]; omega
theorem line_lt {n : Nat} (h : n ≤ 1000) : n < sizeLine := by rw [sizeLine_eq]; omega
theorem scr_get {ns : List Int} {k : Nat} (h : k < ns.length) : (ns.map D.int)[k]? = some (.int ns[k]) := by rw [List.getElem?_map, List.getElem?_eq_getElem h]; rfl
theorem isTy_NoneType_int : isTy "NoneType" "int" = false := by decide
theorem isTy_NoneType_bool : isTy "NoneType" "bool" = false := by decide
theorem isTy_NoneType_tuple : isTy "NoneType" "tuple" = false := by decide
theorem isTy_NoneType_list : isTy "NoneType" "list" = false := by decide
theorem isTy_NoneType_str : isTy "NoneType" "str" = false := by decide
theorem isTy_bool_int : isTy "bool" "int" = true := by decide
theorem isTy_bool_bool : isTy "bool" "bool" = true := by decide
theorem isTy_bool_tuple : isTy "bool" "tuple" = false := by decide
theorem isTy_bool_list : isTy "bool" "list" = false := by decide
theorem isTy_bool_str : isTy "bool" "str" = false := by decide
theorem isTy_int_int : isTy "int" "int" = true := by decide
theorem isTy_int_bool : isTy "int" "bool" = false := by decide
theorem isTy_int_tuple : isTy "int" "tuple" = false := by decide
theorem isTy_int_list : isTy "int" "list" = false := by decide
theorem isTy_int_str : isTy "int" "str" = false := by decide
theorem isTy_str_int : isTy "str" "int" = false := by decide
theorem isTy_str_bool : isTy "str" "bool" = false := by decide
theorem isTy_str_tuple : isTy "str" "tuple" = false := by decide
theorem isTy_str_list : isTy "str" "list" = false := by decide
theorem isTy_str_str : isTy "str" "str" = true := by decide
theorem isTy_tuple_int : isTy "tuple" "int" = false := by decide
theorem isTy_tuple_bool : isTy "tuple" "bool" = false := by decide
theorem isTy_tuple_tuple : isTy "tuple" "tuple" = true := by decide
theorem isTy_tuple_list : isTy "tuple" "list" = false := by decide
theorem isTy_tuple_str : isTy "tuple" "str" = false := by decide
theorem isTy_list_int : isTy "list" "int" = false := by decide
theorem isTy_list_bool : isTy "list" "bool" = false := by decide
theorem isTy_list_tuple : isTy "list" "tuple" = false := by decide
theorem isTy_list_list : isTy "list" "list" = true := by decide
theorem isTy_list_str : isTy "list" "str" = false := by decide
theorem isTy_dict_int : isTy "dict" "int" = false := by decide
theorem isTy_dict_bool : isTy "dict" "bool" = false := by decide
theorem isTy_dict_tuple : isTy "dict" "tuple" = false := by decide
theorem isTy_dict_list : isTy "dict" "list" = false := by decide
theorem isTy_dict_str : isTy "dict" "str" = false := by decide
theorem deq_int {a b : Int} : D.deq (.int a) (.int b) = decide (a = b) := by rw [D.deq, Bool.beq_eq_decide_eq]
theorem deq_bl {a b : Bool} : D.deq (.bl a) (.bl b) = (a == b) := by rw [D.deq]
theorem deq_str {a b : Str} : D.deq (.str a) (.str b) = decide (a = b) := by rw [D.deq, Bool.beq_eq_decide_eq]
theorem deq_non : D.deq .non .non = true := by rw [D.deq]
theorem eqOk_int {a b : Int} : eqOk (.int a) (.int b) = true := by simp [eqOk, D.plain, D.dep]
theorem eqOk_bl {a b : Bool} : eqOk (.bl a) (.bl b) = true := rfl
theorem wfor_inv {G : Sto → Prop} {g : MG} {mb : MS} {D : MEnds} {items : List ML.D} {σ : MSt} {S : Sto} (I : Nat → MSt → Sto → Prop) (h0 : I 0 σ S)
    (hs : ∀ i d σ S, items[i]? = some d → I i σ S → G S ∧ g d σ S (fun σ' S' => mb { D with nx := I (i + 1), ct := I (i + 1), bk := D.nx } σ' S') (xAt D σ)) (hd : ∀ σ S, I items.length σ S → G S ∧ D.nx σ S) : wfor G g mb D items σ S := by
  refine ⟨I, h0, fun i σ S hi h => ?_⟩
  cases e : items[i]? with
  | some d => exact hs i d σ S e h
  | none =>
    have : i = items.length := by have := List.getElem?_eq_none_iff.mp e; omega
    subst this; exact hd σ S h
theorem rng_inv {lo : Int} {n : Nat} {g : MG} {mb : MS} {D : MEnds} {σ : MSt} {S : Sto} (I : Nat → MSt → Sto → Prop) (h0 : I 0 σ S)
    (hs : ∀ i σ S, i < n → I i σ S → g (.int (lo + (i : Nat))) σ S (fun σ' S' => mb { D with nx := I (i + 1), ct := I (i + 1), bk := D.nx } σ' S') (xAt D σ)) (hd : ∀ σ S, I n σ S → D.nx σ S) : wfor (fun _ => True) g mb D (rngD lo n) σ S :=
  wfor_inv I h0 (fun i d σ S e h => by
    have hi : i < n := by
      have := (List.getElem?_eq_some_iff.mp e).1
      rwa [rngD_len] at this
    rw [rngD_get e]; exact ⟨trivial, hs i σ S hi h⟩) fun σ S h => ⟨trivial, hd σ S (by rwa [rngD_len] at h)⟩
end ML
namespace ML
open PySem PySem.Spec L2
theorem q_mSeq : type_of% @mSeq.eq_def := by intros; exact Eq.trans (mSeq.eq_def ..) (Eq.refl _)
theorem q_mSet : type_of% @mSet.eq_def := by intros; exact Eq.trans (mSet.eq_def ..) (Eq.refl _)
theorem q_mC : type_of% @mC.eq_def := by intros; exact Eq.trans (mC.eq_def ..) (Eq.refl _)
theorem q_mVar : type_of% @mVar.eq_def := by intros; exact Eq.trans (mVar.eq_def ..) (Eq.refl _)
theorem q_mOp : type_of% @mOp.eq_def := by intros; exact Eq.trans (mOp.eq_def ..) (Eq.refl _)
theorem q_mUn : type_of% @mUn.eq_def := by intros; exact Eq.trans (mUn.eq_def ..) (Eq.refl _)
theorem q_mTst : type_of% @mTst.eq_def := by intros; exact Eq.trans (mTst.eq_def ..) (Eq.refl _)
theorem q_mTru : type_of% @mTru.eq_def := by intros; exact Eq.trans (mTru.eq_def ..) (Eq.refl _)
theorem q_mIfS : type_of% @mIfS.eq_def := by intros; exact Eq.trans (mIfS.eq_def ..) (Eq.refl _)
theorem q_mIf : type_of% @mIf.eq_def := by intros; exact Eq.trans (mIf.eq_def ..) (Eq.refl _)
theorem q_mAnd : type_of% @mAnd.eq_def := by intros; exact Eq.trans (mAnd.eq_def ..) (Eq.refl _)
theorem q_mOr : type_of% @mOr.eq_def := by intros; exact Eq.trans (mOr.eq_def ..) (Eq.refl _)
theorem q_mNot : type_of% @mNot.eq_def := by intros; exact Eq.trans (mNot.eq_def ..) (Eq.refl _)
theorem q_mAndV : type_of% @mAndV.eq_def := by intros; exact Eq.trans (mAndV.eq_def ..) (Eq.refl _)
theorem q_mOrV : type_of% @mOrV.eq_def := by intros; exact Eq.trans (mOrV.eq_def ..) (Eq.refl _)
theorem q_mNotV : type_of% @mNotV.eq_def := by intros; exact Eq.trans (mNotV.eq_def ..) (Eq.refl _)
theorem q_mRet : type_of% @mRet.eq_def := by intros; exact Eq.trans (mRet.eq_def ..) (Eq.refl _)
theorem q_mRetN : type_of% @mRetN.eq_def := by intros; exact Eq.trans (mRetN.eq_def ..) (Eq.refl _)
theorem q_mExpr : type_of% @mExpr.eq_def := by intros; exact Eq.trans (mExpr.eq_def ..) (Eq.refl _)
theorem q_mNext : type_of% @mNext.eq_def := by intros; exact Eq.trans (mNext.eq_def ..) (Eq.refl _)
theorem q_mBreak : type_of% @mBreak.eq_def := by intros; exact Eq.trans (mBreak.eq_def ..) (Eq.refl _)
theorem q_mCont : type_of% @mCont.eq_def := by intros; exact Eq.trans (mCont.eq_def ..) (Eq.refl _)
theorem q_mAsg : type_of% @mAsg.eq_def := by intros; exact Eq.trans (mAsg.eq_def ..) (Eq.refl _)
theorem q_mPar : type_of% @mPar.eq_def := by intros; exact Eq.trans (mPar.eq_def ..) (Eq.refl _)
theorem q_gNm : type_of% @gNm.eq_def := by intros; exact Eq.trans (gNm.eq_def ..) (Eq.refl _)
theorem q_gLs : type_of% @gLs.eq_def := by intros; exact Eq.trans (gLs.eq_def ..) (Eq.refl _)
theorem q_gCn : type_of% @gCn.eq_def := by intros; exact Eq.trans (gCn.eq_def ..) (Eq.refl _)
theorem q_gNl : type_of% @gNl.eq_def := by intros; exact Eq.trans (gNl.eq_def ..) (Eq.refl _)
theorem q_gSb : type_of% @gSb.eq_def := by intros; exact Eq.trans (gSb.eq_def ..) (Eq.refl _)
theorem q_mTup : type_of% @mTup.eq_def := by intros; exact Eq.trans (mTup.eq_def ..) (Eq.refl _)
theorem q_mLst : type_of% @mLst.eq_def := by intros; exact Eq.trans (mLst.eq_def ..) (Eq.refl _)
theorem q_mLstF : type_of% @mLstF.eq_def := by intros; exact Eq.trans (mLstF.eq_def ..) (Eq.refl _)
theorem q_mCons : type_of% @mCons.eq_def := by intros; exact Eq.trans (mCons.eq_def ..) (Eq.refl _)
theorem q_mNil : type_of% @mNil.eq_def := by intros; exact Eq.trans (mNil.eq_def ..) (Eq.refl _)
theorem q_mCall : type_of% @mCall.eq_def := by intros; exact Eq.trans (mCall.eq_def ..) (Eq.refl _)
theorem q_mBlt : type_of% @mBlt.eq_def := by intros; exact Eq.trans (mBlt.eq_def ..) (Eq.refl _)
theorem q_bLen : type_of% @bLen.eq_def := by intros; exact Eq.trans (bLen.eq_def ..) (Eq.refl _)
theorem q_bAbs : type_of% @bAbs.eq_def := by intros; exact Eq.trans (bAbs.eq_def ..) (Eq.refl _)
theorem q_bMax2 : type_of% @bMax2.eq_def := by intros; exact Eq.trans (bMax2.eq_def ..) (Eq.refl _)
theorem q_bMin2 : type_of% @bMin2.eq_def := by intros; exact Eq.trans (bMin2.eq_def ..) (Eq.refl _)
theorem q_bInt : type_of% @bInt.eq_def := by intros; exact Eq.trans (bInt.eq_def ..) (Eq.refl _)
theorem q_bTuple : type_of% @bTuple.eq_def := by intros; exact Eq.trans (bTuple.eq_def ..) (Eq.refl _)
theorem q_bList : type_of% @bList.eq_def := by intros; exact Eq.trans (bList.eq_def ..) (Eq.refl _)
theorem q_bListF : type_of% @bListF.eq_def := by intros; exact Eq.trans (bListF.eq_def ..) (Eq.refl _)
theorem q_bAll : type_of% @bAll.eq_def := by intros; exact Eq.trans (bAll.eq_def ..) (Eq.refl _)
theorem q_lenD : type_of% @lenD.eq_def := by intros; exact Eq.trans (lenD.eq_def ..) (Eq.refl _)
theorem q_truD : type_of% @truD.eq_def := by intros; exact Eq.trans (truD.eq_def ..) (Eq.refl _)
theorem q_lstOf : type_of% @lstOf.eq_def := by intros; exact Eq.trans (lstOf.eq_def ..) (Eq.refl _)
theorem q_ownOf : type_of% @ownOf.eq_def := by intros; exact Eq.trans (ownOf.eq_def ..) (Eq.refl _)
theorem q_rInt : type_of% @rInt.eq_def := by intros; exact Eq.trans (rInt.eq_def ..) (Eq.refl _)
theorem q_rInt0 : type_of% @rInt0.eq_def := by intros; exact Eq.trans (rInt0.eq_def ..) (Eq.refl _)
theorem q_rSub : type_of% @rSub.eq_def := by intros; exact Eq.trans (rSub.eq_def ..) (Eq.refl _)
theorem q_rMul : type_of% @rMul.eq_def := by intros; exact Eq.trans (rMul.eq_def ..) (Eq.refl _)
theorem q_rDiv : type_of% @rDiv.eq_def := by intros; exact Eq.trans (rDiv.eq_def ..) (Eq.refl _)
theorem q_rMod : type_of% @rMod.eq_def := by intros; exact Eq.trans (rMod.eq_def ..) (Eq.refl _)
theorem q_rPow : type_of% @rPow.eq_def := by intros; exact Eq.trans (rPow.eq_def ..) (Eq.refl _)
theorem q_rAdd : type_of% @rAdd.eq_def := by intros; exact Eq.trans (rAdd.eq_def ..) (Eq.refl _)
theorem q_rLt : type_of% @rLt.eq_def := by intros; exact Eq.trans (rLt.eq_def ..) (Eq.refl _)
theorem q_rLe : type_of% @rLe.eq_def := by intros; exact Eq.trans (rLe.eq_def ..) (Eq.refl _)
theorem q_rGt : type_of% @rGt.eq_def := by intros; exact Eq.trans (rGt.eq_def ..) (Eq.refl _)
theorem q_rGe : type_of% @rGe.eq_def := by intros; exact Eq.trans (rGe.eq_def ..) (Eq.refl _)
theorem q_rNeg : type_of% @rNeg.eq_def := by intros; exact Eq.trans (rNeg.eq_def ..) (Eq.refl _)
theorem q_rIxM : type_of% @rIxM.eq_def := by intros; exact Eq.trans (rIxM.eq_def ..) (Eq.refl _)
theorem q_ixL : type_of% @ixL.eq_def := by intros; exact Eq.trans (ixL.eq_def ..) (Eq.refl _)
theorem q_rIsN : type_of% @rIsN.eq_def := by intros; exact Eq.trans (rIsN.eq_def ..) (Eq.refl _)
theorem q_rNotN : type_of% @rNotN.eq_def := by intros; exact Eq.trans (rNotN.eq_def ..) (Eq.refl _)
theorem q_isN : type_of% @isN.eq_def := by intros; exact Eq.trans (isN.eq_def ..) (Eq.refl _)
theorem q_rEqM : type_of% @rEqM.eq_def := by intros; exact Eq.trans (rEqM.eq_def ..) (Eq.refl _)
theorem q_rNeM : type_of% @rNeM.eq_def := by intros; exact Eq.trans (rNeM.eq_def ..) (Eq.refl _)
theorem q_rInM : type_of% @rInM.eq_def := by intros; exact Eq.trans (rInM.eq_def ..) (Eq.refl _)
theorem q_mIsi : type_of% @mIsi.eq_def := by intros; exact Eq.trans (mIsi.eq_def ..) (Eq.refl _)
theorem q_tyD : type_of% @tyD.eq_def := by intros; exact Eq.trans (tyD.eq_def ..) (Eq.refl _)
theorem q_mCut : type_of% @mCut.eq_def := by intros; exact Eq.trans (mCut.eq_def ..) (Eq.refl _)
theorem q_oNo : type_of% @oNo.eq_def := by intros; exact Eq.trans (oNo.eq_def ..) (Eq.refl _)
theorem q_oSo : type_of% @oSo.eq_def := by intros; exact Eq.trans (oSo.eq_def ..) (Eq.refl _)
theorem q_mMt : type_of% @mMt.eq_def := by intros; exact Eq.trans (mMt.eq_def ..) (Eq.refl _)
theorem q_mMt0 : type_of% @mMt0.eq_def := by intros; exact Eq.trans (mMt0.eq_def ..) (Eq.refl _)
theorem q_mtAppend : type_of% @mtAppend.eq_def := by intros; exact Eq.trans (mtAppend.eq_def ..) (Eq.refl _)
theorem q_mtInsert : type_of% @mtInsert.eq_def := by intros; exact Eq.trans (mtInsert.eq_def ..) (Eq.refl _)
theorem q_mtPop : type_of% @mtPop.eq_def := by intros; exact Eq.trans (mtPop.eq_def ..) (Eq.refl _)
theorem q_mtPop0 : type_of% @mtPop0.eq_def := by intros; exact Eq.trans (mtPop0.eq_def ..) (Eq.refl _)
theorem q_mtReverse : type_of% @mtReverse.eq_def := by intros; exact Eq.trans (mtReverse.eq_def ..) (Eq.refl _)
theorem q_mtClear : type_of% @mtClear.eq_def := by intros; exact Eq.trans (mtClear.eq_def ..) (Eq.refl _)
theorem q_mtExtend : type_of% @mtExtend.eq_def := by intros; exact Eq.trans (mtExtend.eq_def ..) (Eq.refl _)
theorem q_mtIndex : type_of% @mtIndex.eq_def := by intros; exact Eq.trans (mtIndex.eq_def ..) (Eq.refl _)
theorem q_rSetM : type_of% @rSetM.eq_def := by intros; exact Eq.trans (rSetM.eq_def ..) (Eq.refl _)
theorem q_setAt : type_of% @setAt.eq_def := by intros; exact Eq.trans (setAt.eq_def ..) (Eq.refl _)
theorem q_mends : type_of% @mends.eq_def := by intros; exact Eq.trans (mends.eq_def ..) (Eq.refl _)
theorem q_mstart : type_of% @mstart.eq_def := by intros; exact Eq.trans (mstart.eq_def ..) (Eq.refl _)
theorem q_mFor : type_of% @mFor.eq_def := by intros; exact Eq.trans (mFor.eq_def ..) (Eq.refl _)
theorem q_iL : type_of% @iL.eq_def := by intros; exact Eq.trans (iL.eq_def ..) (Eq.refl _)
theorem q_iT : type_of% @iT.eq_def := by intros; exact Eq.trans (iT.eq_def ..) (Eq.refl _)
theorem q_iR1 : type_of% @iR1.eq_def := by intros; exact Eq.trans (iR1.eq_def ..) (Eq.refl _)
theorem q_iR2 : type_of% @iR2.eq_def := by intros; exact Eq.trans (iR2.eq_def ..) (Eq.refl _)
theorem q_iEn : type_of% @iEn.eq_def := by intros; exact Eq.trans (iEn.eq_def ..) (Eq.refl _)
theorem q_iZp : type_of% @iZp.eq_def := by intros; exact Eq.trans (iZp.eq_def ..) (Eq.refl _)
theorem q_mChain : type_of% @mChain.eq_def := by intros; exact Eq.trans (mChain.eq_def ..) (Eq.refl _)
theorem q_mYes : type_of% @mYes.eq_def := by intros; exact Eq.trans (mYes.eq_def ..) (Eq.refl _)
theorem q_mCompF : type_of% @mCompF.eq_def := by intros; exact Eq.trans (mCompF.eq_def ..) (Eq.refl _)
theorem q_mComp : type_of% @mComp.eq_def := by intros; exact Eq.trans (mComp.eq_def ..) (Eq.refl _)
theorem q_wipeM : type_of% @wipeM.eq_def := by intros; exact Eq.trans (wipeM.eq_def ..) (Eq.refl _)
theorem q_rIsBM : type_of% @rIsBM.eq_def := by intros; exact Eq.trans (rIsBM.eq_def ..) (Eq.refl _)
theorem q_xAt : type_of% @xAt.eq_def := by intros; exact Eq.trans (xAt.eq_def ..) (Eq.refl _)
end ML
set_option maxRecDepth 100000
namespace ML
open PySem PySem.Spec L2
open PyProof.Rows hiding St
end ML
set_option maxRecDepth 100000
namespace ML
open PySem PySem.Spec L2
class Hold (α : Type) where
  v : α
theorem Hold_v {α : Type} {x : α} : (Hold.mk x).v = x := Eq.trans rfl rfl
def CallP (sp : MSp) (ds : List D) (S : Sto) [Q : Hold MQ] [E : Hold MXQ] : Prop := sp ds S Q.v E.v
def IteP (c : Prop) [A : Hold Prop] [B : Hold Prop] : Prop := (c → A.v) ∧ (¬ c → B.v)
theorem IteP_true {A B : Hold Prop} : @IteP True A B = A.v := propext ⟨fun h => h.1 trivial, fun h => ⟨fun _ => h, fun z => (z trivial).elim⟩⟩
theorem IteP_false {A B : Hold Prop} : @IteP False A B = B.v := propext ⟨fun h => h.2 id, fun h => ⟨fun z => z.elim, fun _ => h⟩⟩
theorem IteP_bool {b : Bool} {A B : Prop} : (if b = true then A else B) = @IteP (b = true) ⟨A⟩ ⟨B⟩ := by
  cases b
  · rw [if_neg Bool.false_ne_true]; exact propext ⟨fun h => ⟨fun z => (Bool.false_ne_true z).elim, fun _ => h⟩, fun h => h.2 Bool.false_ne_true⟩
  · rw [if_pos rfl]; exact propext ⟨fun h => ⟨fun _ => h, fun z => (z rfl).elim⟩, fun h => h.1 rfl⟩
theorem l_mCall {sp : MSp} {t : MA} {σ : MSt} {S : Sto} {Q : MQ} {E : MXQ} : mCall sp t σ S Q E = t σ S (fun ds S1 => @CallP sp ds S1 ⟨Q⟩ ⟨E⟩) E := Eq.trans rfl rfl
theorem l_mAnd {t u : MT} {σ : MSt} {S : Sto} {Q : Bool → Sto → Prop} {E : MXQ} : mAnd t u σ S Q E = t σ S (fun c S1 => @IteP (c = true) ⟨u σ S1 Q E⟩ ⟨Q false S1⟩) E := by
  unfold mAnd; simp only [IteP_bool]
theorem l_mOr {t u : MT} {σ : MSt} {S : Sto} {Q : Bool → Sto → Prop} {E : MXQ} : mOr t u σ S Q E = t σ S (fun c S1 => @IteP (c = true) ⟨Q true S1⟩ ⟨u σ S1 Q E⟩) E := by
  unfold mOr; simp only [IteP_bool]
theorem l_mAndV {ma mb : ME} {σ : MSt} {S : Sto} {Q : MQ} {E : MXQ} : mAndV ma mb σ S Q E = ma σ S (fun d S1 => match d with
  | .bl k => @IteP (k = true) ⟨mb σ S1 Q E⟩ ⟨Q (.bl false) S1⟩
  | _ => False) E := by
  unfold mAndV
  apply congrArg (fun f => ma σ S f E)
  funext d S1
  cases d <;> first | rfl | exact IteP_bool
theorem l_mOrV {ma mb : ME} {σ : MSt} {S : Sto} {Q : MQ} {E : MXQ} : mOrV ma mb σ S Q E = ma σ S (fun d S1 => match d with
  | .bl k => @IteP (k = true) ⟨Q (.bl true) S1⟩ ⟨mb σ S1 Q E⟩
  | _ => False) E := by
  unfold mOrV
  apply congrArg (fun f => ma σ S f E)
  funext d S1
  cases d <;> first | rfl | exact IteP_bool
theorem l_mIf {t : MT} {ma mb : ME} {σ : MSt} {S : Sto} {Q : MQ} {E : MXQ} : mIf t ma mb σ S Q E = t σ S (fun c S1 => @IteP (c = true) ⟨ma σ S1 Q E⟩ ⟨mb σ S1 Q E⟩) E := by unfold mIf; simp only [IteP_bool]
theorem l_mChain {r r' : R2m} {ma mb mc : ME} {σ : MSt} {S : Sto} {Q : MQ} {E : MXQ} : mChain r r' ma mb mc σ S Q E = ma σ S (fun x S1 => mb σ S1 (fun y S2 => r x y S2 fun z S3 => match z with
  | .bl k => @IteP (k = true) ⟨mc σ S3 (fun w S4 => r' y w S4 Q) E⟩ ⟨Q (.bl false) S3⟩
  | _ => False) E) E := by
  unfold mChain
  apply congrArg (fun f => ma σ S f E)
  funext x S1
  apply congrArg (fun f => mb σ S1 f E)
  funext y S2
  apply congrArg (fun f => r x y S2 f)
  funext d S3
  cases d <;> first | rfl | exact IteP_bool
theorem l_mIfS {c : MT} {t u : MS} {D : MEnds} {σ : MSt} {S : Sto} : mIfS c t u D σ S = c σ S (fun b S1 => @IteP (b = true) ⟨t D σ S1⟩ ⟨u D σ S1⟩) (xAt D σ) := by unfold mIfS; simp only [IteP_bool]
theorem while_rule {c : MT} {tb : MS} {D : MEnds} {σ : MSt} {S : Sto} (I : Nat → MSt → Sto → Prop) (h0 : ∃ n, I n σ S)
    (hs : ∀ n σ S, I n σ S → c σ S (fun b S1 => @IteP (b = true) ⟨tb { D with nx := fun σ' S' => ∃ m, m < n ∧ I m σ' S', ct := fun σ' S' => ∃ m, m < n ∧ I m σ' S', bk := D.nx } σ S1⟩ ⟨D.nx σ S1⟩) (xAt D σ)) : mWhile c tb D σ S := by
  refine ⟨I, h0, fun n σ S h => ?_⟩
  simp only [IteP_bool]
  exact hs n σ S h
def OptP {α : Type} (o : Option α) [k : Hold (α → Prop)] : Prop := match o with
  | some x => k.v x
  | none => False
def optP {α : Type} (o : Option α) (k : α → Prop) : Prop := @OptP α o ⟨k⟩
theorem l_optP {α : Type} {o : Option α} {k : α → Prop} : optP o k = @OptP α o ⟨k⟩ := Eq.trans rfl rfl
theorem OptP_some {α : Type} {x : α} {k : Hold (α → Prop)} : @OptP α (some x) k = k.v x := Eq.trans rfl rfl
def GoP (σ : MSt) (S : Sto) [k : Hold (MSt → Sto → Prop)] : Prop := k.v σ S
def Go (k : MSt → Sto → Prop) (σ : MSt) (S : Sto) : Prop := @GoP σ S ⟨k⟩
theorem l_Go {k : MSt → Sto → Prop} {σ : MSt} {S : Sto} : Go k σ S = @GoP σ S ⟨k⟩ := Eq.trans rfl rfl
def VarP (i : Nat) (σ : MSt) (S : Sto) [Q : Hold MQ] : Prop := match σ[i]? with
  | some (some d) => Q.v d S
  | _ => False
theorem l_mVar {i : Nat} {σ : MSt} {S : Sto} {Q : MQ} {E : MXQ} : mVar i σ S Q E = @VarP i σ S ⟨Q⟩ := Eq.trans rfl rfl
def ForP (items : List D) (σ : MSt) (S : Sto) [G : Hold (Sto → Prop)] [g : Hold MG] [mb : Hold MS] [De : Hold MEnds] : Prop := wfor G.v g.v mb.v De.v items σ S
theorem l_mFor {mi : MI} {g : MG} {mb : MS} {De : MEnds} {σ : MSt} {S : Sto} : mFor mi g mb De σ S = mi σ S (fun items G S1 => @ForP items σ S1 ⟨G⟩ ⟨g⟩ ⟨mb⟩ ⟨De⟩) (xAt De σ) := Eq.trans rfl rfl
def WhileP (σ : MSt) (S : Sto) [c : Hold MT] [mb : Hold MS] [De : Hold MEnds] : Prop := mWhile c.v mb.v De.v σ S
theorem l_mWhile {c : MT} {mb : MS} {De : MEnds} {σ : MSt} {S : Sto} : mWhile c mb De σ S = @WhileP σ S ⟨c⟩ ⟨mb⟩ ⟨De⟩ := Eq.trans rfl rfl
def CompP (items : List D) (σ : MSt) (S : Sto) (p : Addr) (own : List Nat) [G : Hold (Sto → Prop)] [g : Hold MG] [mt : Hold MT] [me : Hold ME] [fin : Hold (List D → Sto → Prop)] : Prop := wlc G.v g.v mt.v me.v p own σ fin.v items S
theorem l_mComp {mi : MI} {g : MG} {mt : MT} {me : ME} {own : List Nat} {σ : MSt} {S : Sto} {Q : MQ} {E : MXQ} : mComp mi g mt me own σ S Q E = mi σ S (fun items G S1 => ∀ p, S1 p = none → @CompP items σ (put S1 p (.lst [])) p own ⟨G⟩ ⟨g⟩ ⟨mt⟩ ⟨me⟩ ⟨fun _ S2 => Q (.ref p) S2⟩) E := Eq.trans rfl rfl
theorem l_mCompF {mi : MI} {g : MG} {mt : MT} {me : ME} {own : List Nat} {σ : MSt} {S : Sto} {Q : MQ} {E : MXQ} : mCompF mi g mt me own σ S Q E = mi σ S (fun items G S1 => ∀ p, S1 p = none → @CompP items σ (put S1 p (.lst [])) p own ⟨G⟩ ⟨g⟩ ⟨mt⟩ ⟨me⟩ ⟨fun acc S2 => Q (.lst acc) (del S2 p)⟩) E := Eq.trans rfl rfl
theorem Go_eq {k : Hold (MSt → Sto → Prop)} {σ : MSt} {S : Sto} : @GoP σ S k = k.v σ S := Eq.trans rfl rfl
theorem l_mVar_z {d : D} {σ : MSt} {S : Sto} {Q : Hold MQ} : @VarP 0 (some d :: σ) S Q = Q.v d S := Eq.trans rfl rfl
theorem l_mVar_s {i : Nat} {x : Option D} {σ : MSt} {S : Sto} {Q : Hold MQ} : @VarP (i + 1) (x :: σ) S Q = @VarP i σ S Q := Eq.trans rfl rfl
theorem l_mSet {i : Nat} {m : ME} {D : MEnds} {σ : MSt} {S : Sto} : mSet i m D σ S = m σ S (fun d S1 => Go D.nx (σ.set i (some d)) S1) (xAt D σ) := Eq.trans rfl rfl
theorem l_gNm {i : Nat} {d : D} {σ : MSt} {S : Sto} {Q : MSt → Sto → Prop} {E : MXQ} : gNm i d σ S Q E = Go Q (σ.set i (some d)) S := Eq.trans rfl rfl
theorem l_mPar {i j : Nat} {t : MA} {De : MEnds} {σ : MSt} {S : Sto} : mPar i j t De σ S = t σ S (fun ds S1 => match ds with
  | [d, e] => Go De.nx ((σ.set i (some d)).set j (some e)) S1
  | _ => False) (xAt De σ) := by
  unfold mPar
  apply congrArg (fun f => t σ S f (xAt De σ))
  funext ds S1
  rcases ds with _ | ⟨a, _ | ⟨b, _ | ⟨c, r⟩⟩⟩ <;> rfl
def olP : Option MO → Option (List D)
  | some (.lst ds) => some ds
  | _ => none
theorem olP_lst {ds : List D} : olP (some (.lst ds)) = some ds := Eq.trans rfl rfl
theorem lstOf_ref' {S : Sto} {p : Addr} : lstOf S (.ref p) = olP (S p) := by
  cases e : S p with
  | none => simp only [lstOf, olP, e]
  | some o => cases o <;> simp only [lstOf, olP, e]
theorem lstOf_lst {S : Sto} {ds : List D} : lstOf S (.lst ds) = some ds := Eq.trans rfl rfl
theorem lstOf_scr {S : Sto} {ds : List D} : lstOf S (.scr ds) = some ds := Eq.trans rfl rfl
theorem lstOf_tup {S : Sto} {ds : List D} : lstOf S (.tup ds) = none := Eq.trans rfl rfl
theorem ownOf_ref' {S : Sto} {p : Addr} : ownOf S (.ref p) = olP (S p) := by
  cases e : S p with
  | none => simp only [ownOf, olP, e]
  | some o => cases o <;> simp only [ownOf, olP, e]
theorem ownOf_lst {S : Sto} {ds : List D} : ownOf S (.lst ds) = some ds := Eq.trans rfl rfl
theorem seqOf_tup' {S : Sto} {ds : List D} : seqOf S (.tup ds) = some ds := Eq.trans rfl rfl
theorem seqOf_lst' {S : Sto} {ds : List D} : seqOf S (.lst ds) = some ds := Eq.trans rfl rfl
theorem seqOf_scr' {S : Sto} {ds : List D} : seqOf S (.scr ds) = some ds := Eq.trans rfl rfl
theorem seqOf_ref' {S : Sto} {p : Addr} : seqOf S (.ref p) = olP (S p) := by rw [← lstOf_ref']; rfl
def tupOf : D → Option (List D)
  | .tup ds => some ds
  | _ => none
theorem tupOf_tup {ds : List D} : tupOf (.tup ds) = some ds := Eq.trans rfl rfl
theorem l_rIxM {d : D} {i : Int} {S : Sto} {Q : MQ} : rIxM d (.int i) S Q = optP (seqOf S d) fun xs => optP (ixL xs i) fun x => Q x S := by
  simp only [rIxM, optP, OptP]
  cases seqOf S d with
  | none => rfl
  | some xs =>
    dsimp only
    cases ixL xs i <;> rfl
theorem ixL_lit {α : Type} {xs : List α} {n : Nat} : ixL xs (no_index (OfNat.ofNat n : Int)) = xs[(OfNat.ofNat n : Nat)]? := Eq.trans rfl rfl
theorem ixL_cast {α : Type} {xs : List α} {n : Nat} : ixL xs ((n : Nat) : Int) = xs[n]? := Eq.trans rfl rfl
theorem ixL_m1 {α : Type} {x : α} {xs : List α} : ixL (x :: xs) (-1) = (x :: xs)[xs.length]? := by
  show ixL (x :: xs) (.negSucc 0) = _
  simp [ixL]
theorem setAt_lit {α : Type} {xs : List α} {n : Nat} {v : α} : setAt xs (no_index (OfNat.ofNat n : Int)) v = if (OfNat.ofNat n : Nat) < xs.length then some (xs.set (OfNat.ofNat n : Nat) v) else none := Eq.trans rfl rfl
theorem setAt_cast {α : Type} {xs : List α} {n : Nat} {v : α} : setAt xs ((n : Nat) : Int) v = if n < xs.length then some (xs.set n v) else none := Eq.trans rfl rfl
theorem l_rSetM {p : Addr} {k : Int} {v : D} {S : Sto} {Q : Sto → Prop} : rSetM (.ref p) (.int k) v S Q = optP (olP (S p)) fun xs => optP (setAt xs k v) fun ys => Q (put S p (.lst ys)) := by
  simp only [rSetM, optP, OptP, olP]
  cases S p with
  | none => rfl
  | some o =>
    cases o with
    | lst xs => dsimp only; cases setAt xs k v <;> rfl
    | _ => rfl
theorem l_rInt {C : Int → Int → Prop} {g : Int → Int → D} {i j : Int} {S : Sto} {Q : MQ} : rInt C g (.int i) (.int j) S Q = (C i j ∧ Q (g i j) S) := Eq.trans rfl rfl
theorem l_rInt0 {g : Int → Int → D} {i j : Int} {S : Sto} {Q : MQ} : rInt0 g (.int i) (.int j) S Q = Q (g i j) S := Eq.trans rfl rfl
theorem l_rAdd_int {i j : Int} {S : Sto} {Q : MQ} : rAdd (.int i) (.int j) S Q = Q (.int (i + j)) S := Eq.trans rfl rfl
theorem l_rAdd_str {i j : Str} {S : Sto} {Q : MQ} : rAdd (.str i) (.str j) S Q = (i.length + j.length ≤ sizeLine ∧ Q (.str (i ++ j)) S) := Eq.trans rfl rfl
theorem l_rAdd_tup {i j : List D} {S : Sto} {Q : MQ} : rAdd (.tup i) (.tup j) S Q = ((i ≠ [] ∧ i.length + j.length ≤ sizeLine) ∧ Q (.tup (i ++ j)) S) := Eq.trans rfl rfl
theorem l_rNeg {i : Int} {S : Sto} {Q : MQ} : rNeg (.int i) S Q = Q (.int (-i)) S := Eq.trans rfl rfl
theorem l_rIsN {d : D} {S : Sto} {Q : MQ} : rIsN d .non S Q = Q (.bl (isN d)) S := Eq.trans rfl rfl
theorem l_rNotN {d : D} {S : Sto} {Q : MQ} : rNotN d .non S Q = Q (.bl (!isN d)) S := Eq.trans rfl rfl
theorem l_rIsBM {neg a b : Bool} {S : Sto} {Q : MQ} : rIsBM neg (.bl a) (.bl b) S Q = Q (.bl (if neg then !decide (a = b) else decide (a = b))) S := Eq.trans rfl rfl
theorem l_mTru {m : ME} {σ : MSt} {S : Sto} {Q : Bool → Sto → Prop} {E : MXQ} : mTru m σ S Q E = m σ S (fun d S1 => optP (truD S1 d) fun k => Q k S1) E := by
  unfold mTru optP OptP
  apply congrArg (fun f => m σ S f E)
  funext d S1
  cases truD S1 d <;> rfl
theorem truD_bl {S : Sto} {b : Bool} : truD S (.bl b) = some b := Eq.trans rfl rfl
theorem truD_int {S : Sto} {i : Int} : truD S (.int i) = some (i != 0) := Eq.trans rfl rfl
theorem truD_tup {S : Sto} {ds : List D} : truD S (.tup ds) = some (!ds.isEmpty) := Eq.trans rfl rfl
theorem truD_lst {S : Sto} {ds : List D} : truD S (.lst ds) = some (!ds.isEmpty) := Eq.trans rfl rfl
theorem truD_scr {S : Sto} {ds : List D} : truD S (.scr ds) = some (!ds.isEmpty) := Eq.trans rfl rfl
theorem truD_non {S : Sto} : truD S .non = some false := Eq.trans rfl rfl
theorem l_bLen {d : D} {S : Sto} {Q : MQ} : bLen [d] S Q = optP (lenD S d) fun n => Q (.int n) S := by
  simp only [bLen, optP, OptP]; cases lenD S d <;> rfl
theorem lenD_tup {S : Sto} {ds : List D} : lenD S (.tup ds) = some ds.length := Eq.trans rfl rfl
theorem lenD_lst {S : Sto} {ds : List D} : lenD S (.lst ds) = some ds.length := Eq.trans rfl rfl
theorem lenD_scr {S : Sto} {ds : List D} : lenD S (.scr ds) = some ds.length := Eq.trans rfl rfl
theorem lenD_ref {S : Sto} {p : Addr} : lenD S (.ref p) = (olP (S p)).map List.length := by rw [← lstOf_ref']; rfl
theorem l_bAbs {i : Int} {S : Sto} {Q : MQ} : bAbs [.int i] S Q = Q (.int (i.natAbs : Nat)) S := by
  have e : (if i < 0 then -i else i) = (i.natAbs : Int) := by split <;> omega
  simp only [bAbs, e]
theorem l_bMax2 {i j : Int} {S : Sto} {Q : MQ} : bMax2 [.int i, .int j] S Q = Q (.int (if j > i then j else i)) S := Eq.trans rfl rfl
theorem l_bMin2 {i j : Int} {S : Sto} {Q : MQ} : bMin2 [.int i, .int j] S Q = Q (.int (if j < i then j else i)) S := Eq.trans rfl rfl
theorem l_bInt_i {i : Int} {S : Sto} {Q : MQ} : bInt [.int i] S Q = Q (.int i) S := Eq.trans rfl rfl
theorem l_bInt_b {k : Bool} {S : Sto} {Q : MQ} : bInt [.bl k] S Q = Q (.int (if k then 1 else 0)) S := Eq.trans rfl rfl
theorem l_bTuple {d : D} {S : Sto} {Q : MQ} : bTuple [d] S Q = optP (seqOf S d) fun xs => Q (.tup xs) S := by
  cases d with
  | tup xs => rfl
  | _ =>
    simp only [bTuple, optP, OptP, seqOf]
    split <;> simp_all
theorem l_bListF {d : D} {S : Sto} {Q : MQ} : bListF [d] S Q = optP (seqOf S d) fun xs => Q (.lst xs) S := by
  simp only [bListF, optP, OptP]; cases seqOf S d <;> rfl
theorem l_bList {d : D} {S : Sto} {Q : MQ} : bList [d] S Q = optP (seqOf S d) fun xs => ∀ p, S p = none → Q (.ref p) (put S p (.lst xs)) := by
  simp only [bList, optP, OptP]; cases seqOf S d <;> rfl
theorem l_mIsi {u : String} {m : ME} {σ : MSt} {S : Sto} {Q : MQ} {E : MXQ} : mIsi u m σ S Q E = m σ S (fun d S1 => optP (tyD S1 d) fun t => Q (.bl (isTy t u)) S1) E := by
  unfold mIsi optP OptP
  apply congrArg (fun f => m σ S f E)
  funext d S1
  cases tyD S1 d <;> rfl
theorem tyD_non {S : Sto} : tyD S .non = some "NoneType" := Eq.trans rfl rfl
theorem tyD_bl {S : Sto} {b : Bool} : tyD S (.bl b) = some "bool" := Eq.trans rfl rfl
theorem tyD_int {S : Sto} {b : Int} : tyD S (.int b) = some "int" := Eq.trans rfl rfl
theorem tyD_str {S : Sto} {b : Str} : tyD S (.str b) = some "str" := Eq.trans rfl rfl
theorem tyD_tup {S : Sto} {b : List D} : tyD S (.tup b) = some "tuple" := Eq.trans rfl rfl
theorem tyD_lst {S : Sto} {b : List D} : tyD S (.lst b) = some "list" := Eq.trans rfl rfl
theorem l_iL {m : ME} {σ : MSt} {S : Sto} {R : List D → (Sto → Prop) → Sto → Prop} {E : MXQ} : iL m σ S R E = m σ S (fun d S1 => optP (lstOf S1 d) fun ds => R ds (fun S' => lstOf S' d = some ds) S1) E := by
  unfold iL optP OptP
  apply congrArg (fun f => m σ S f E)
  funext d S1
  cases lstOf S1 d <;> rfl
theorem l_iT {m : ME} {σ : MSt} {S : Sto} {R : List D → (Sto → Prop) → Sto → Prop} {E : MXQ} : iT m σ S R E = m σ S (fun d S1 => optP (tupOf d) fun ds => R ds (fun _ => True) S1) E := by
  unfold iT optP OptP tupOf
  apply congrArg (fun f => m σ S f E)
  funext d S1
  cases d <;> rfl
theorem l_gTp {n : Nat} {gs : MGs} {d : D} {σ : MSt} {S : Sto} {Q : MSt → Sto → Prop} {E : MXQ} : gTp n gs d σ S Q E = optP (tupOf d) fun ds => ds.length = n ∧ gs ds σ S Q E := by cases d <;> rfl
theorem l_gLs {n : Nat} {gs : MGs} {d : D} {σ : MSt} {S : Sto} {Q : MSt → Sto → Prop} {E : MXQ} : gLs n gs d σ S Q E = optP (lstOf S d) fun ds => ds.length = n ∧ gs ds σ S Q E := by
  unfold gLs optP OptP; cases lstOf S d <;> rfl
theorem l_gCn {g : MG} {gs : MGs} {d : D} {r : List D} {σ : MSt} {S : Sto} {Q : MSt → Sto → Prop} {E : MXQ} : gCn g gs (d :: r) σ S Q E = g d σ S (fun σ' S' => gs r σ' S' Q E) E := Eq.trans rfl rfl
theorem l_gNl {σ : MSt} {S : Sto} {Q : MSt → Sto → Prop} {E : MXQ} : gNl [] σ S Q E = Go Q σ S := Eq.trans rfl rfl
theorem l_mtAppend {p : Addr} {y : D} {S : Sto} {Q : MQ} : mtAppend (.ref p) [y] S Q = optP (olP (S p)) fun xs => xs.length < sizeLine ∧ Q .non (put S p (.lst (xs ++ [y]))) := by
  simp only [mtAppend, optP, OptP, olP]
  cases S p with
  | none => rfl
  | some o => cases o <;> rfl
theorem isLst_ref {S : Sto} {p : Addr} {ds : List D} (h : S p = some (.lst ds)) : isLst S (.ref p) = True := eq_true ⟨ds, by simp only [lstOf, h]⟩
theorem szl {n : Nat} (h : n ≤ 1000) : (n ≤ sizeLine) = True := eq_true (line_le h)
theorem szlt {n : Nat} (h : n ≤ 1000) : (n < sizeLine) = True := eq_true (line_lt h)
theorem cpow_lit {i j : Int} (h : 0 ≤ j) (h2 : j ≤ 1000000) (h3 : -1000 ≤ i) (h4 : i ≤ 1000) : CPow i j = True := eq_true ⟨h, h2, by omega⟩
theorem mulok_rl {i j : Int} (h1 : -18446744073709551616 < j) (h2 : j < 18446744073709551616) : IntMulOk i j = True := eq_true (mulok_r (by omega) (by omega))
theorem mulok_ll {i j : Int} (h1 : -18446744073709551616 < i) (h2 : i < 18446744073709551616) : IntMulOk i j = True := eq_true (mulok_l (by omega) (by omega))
theorem divok_l {i j : Int} (h1 : 0 < j) (h2 : j < 1073741824) : DivOk i j = True := eq_true (divok_s (by omega) (by omega))
end ML
set_option maxRecDepth 100000
namespace ML
open PySem PySem.Spec L2
open PyProof.Rows hiding St
section
variable {X : Cx} {W : WX} {tg : Expr} {g : MG} {pos : Pos}
theorem ssetLc {i : Nat} {y : Str} {py spos : Pos} {elt iter : Expr} {ifs : List Expr} {scope : Scope} {own : List (Str × Nat)} {mi : MI} {mt : MT} {me : ME} (hc : X.calm = true) (hN : X.N.Nodup) (hi : PI X tg iter (upI X.K W mi)) (ok : BlkOk X.N X.env.scope scope own)
    (hg : ∀ (s : Shared) (H : Hp) (C : Addr) (cl : List (Str × Addr)) (fp : List Addr), PG (X.blk s H scope (compEnvC scope cl C X.env) fp) tg (upGo X.K (own.map (·.2)) g)) (ht : ∀ (s : Shared) (H : Hp) (C : Addr) (cl : List (Str × Addr)) (fp : List Addr), PTs (X.blk s H scope (compEnvC scope cl C X.env) fp) ifs (upT X.K W0 mt))
    (he : ∀ (s : Shared) (H : Hp) (C : Addr) (cl : List (Str × Addr)) (fp : List Addr), PE (X.blk s H scope (compEnvC scope cl C X.env) fp) elt (upE X.K W0 me)) (hy : X.N[i]? = some y := by rfl) (hyl : X.env.scope.names.lookup y = some .local := by rfl)
    (hsw : swapsWith (.ListComp elt [⟨tg, iter, ifs, 0⟩] scope pos) (some (.Name y py)) spos.line X.env = pure true := by exact sw_true rfl rfl rfl rfl) (hs : ∀ x, foldedSetIterable iter X.env x = pure x := by intro _; rfl) :
    PS X (.Assign [.Name y py] (.ListComp elt [⟨tg, iter, ifs, 0⟩] scope pos) spos) (upS X.K W (mSet i (mComp mi g mt me (own.map (·.2))))) :=
  L2.PS.to (ps_setLc hc hN hy hyl hsw hi ok hg ht he hs) fun D σ H ⟨m, S, Dm, h1, h2, h3, h4⟩ =>
    ⟨m, S, _, _, h1, h2, h3, fun items G S1 J H1 q e1 s1 it Dp hD =>
      lc_to (Q := fun x H1 => gName i x σ H1 D.nx) (h1.ext e1) s1 it hD (q Dp (s1.fresh hD)) fun acc H' S' f ea e' s' => h4.nx _ S' _ H' f (e1.trans e') s' ((h1.ext (e1.trans e')).set (.ref Dp) i), xAt_ref h1 h4.ex⟩
end
def CompNext (p : Addr) (J : Nat → List D → Sto → Prop) (i : Nat) (y : D) (S4 : Sto) : Prop := ∃ acc, S4 p = some (.lst acc) ∧ acc.length < sizeLine ∧ ∃ acc', put S4 p (.lst (acc ++ [y])) p = some (.lst acc') ∧ J (i + 1) acc' (put S4 p (.lst (acc ++ [y])))
theorem CompNext.mk {p : Addr} {J : Nat → List D → Sto → Prop} {i : Nat} {y : D} {S4 : Sto} {acc : List D} (h : S4 p = some (.lst acc)) (hl : acc.length < sizeLine) (hj : J (i + 1) (acc ++ [y]) (put S4 p (.lst (acc ++ [y])))) : CompNext p J i y S4 := ⟨acc, h, hl, acc ++ [y], put_same, hj⟩
theorem comp_inv {items : List D} {σ : MSt} {S : Sto} {p : Addr} {own : List Nat} {G : Sto → Prop} {g : MG} {me : ME} {fin : List D → Sto → Prop} (J : Nat → List D → Sto → Prop) (hS : S p = some (.lst [])) (h0 : J 0 [] S)
    (hs : ∀ i d acc S', items[i]? = some d → J i acc S' → S' p = some (.lst acc) → G S' ∧ g d (wipeM σ own) S' (fun σ2 S2 => me σ2 S2 (fun y S4 => CompNext p J i y S4) noX) noX)
    (hd : ∀ acc S', J items.length acc S' → S' p = some (.lst acc) → G S' ∧ fin acc S') : @CompP items σ S p own ⟨G⟩ ⟨g⟩ ⟨mYes⟩ ⟨me⟩ ⟨fin⟩ := by
  refine ⟨fun i S' => ∃ acc, S' p = some (.lst acc) ∧ J i acc S', ⟨[], hS, h0⟩, fun i S' hi ⟨acc, ha, hj⟩ => ?_⟩
  cases e : items[i]? with
  | none =>
    have : i = items.length := by have := List.getElem?_eq_none_iff.mp e; omega
    subst this
    obtain ⟨h1, h2⟩ := hd acc S' hj ha
    exact ⟨h1, acc, ha, h2⟩
  | some d =>
    obtain ⟨h1, h2⟩ := hs i d acc S' e hj ha
    refine ⟨h1, ?_⟩
    have ee : (fun (σ2 : MSt) (S2 : Sto) => mYes σ2 S2 (fun k S3 => if k = true then me σ2 S3 (fun y S4 => ∃ acc, S4 p = some (.lst acc) ∧ acc.length < sizeLine ∧ ∃ acc_1, put S4 p (.lst (acc ++ [y])) p = some (.lst acc_1) ∧ J (i + 1) acc_1 (put S4 p (.lst (acc ++ [y])))) noX
        else ∃ acc, S3 p = some (.lst acc) ∧ J (i + 1) acc S3) noX) = fun σ2 S2 => me σ2 S2 (fun y S4 => CompNext p J i y S4) noX := by
      funext σ2 S2
      simp only [mYes, if_true, CompNext]
    exact Eq.mp (congrArg (fun f => g d (wipeM σ own) S' f noX) ee.symm) h2
end ML
set_option maxRecDepth 100000
namespace ML
open PySem PySem.Spec L2
open PyProof.Rows hiding St
section
variable {X : Cx} {W : WX} {tg : Expr} {m : ME}
theorem pi_sq {l : Expr} {tl : TE} (hl : PE X l tl) : PI X tg l (fun σ H R => tl σ H fun x H1 => ∃ a, x = .ref a ∧ (((∃ xs, SqL X.K H1 a xs) ∧ R (Itl X.K a) H1) ∨ ((∃ xs, SqT X.K H1 a xs) ∧ R (Itt X.K a) H1))) := by
  constructor
  intro pins s σ H R I h
  apply thn (hl.run pins s σ H _ I h)
  rintro v s1 ⟨x, H1, I1, r1, a, rfl, q1⟩
  obtain rfl : v = Value.ref a := r1
  have top : ∀ b ∈ [s1.heap.objs.size], FpOk X pins H1 b := by
    intro b hb
    obtain rfl := List.mem_singleton.mp hb
    exact I1.fpOk (Nat.le_refl _) (I1.hok.fresh (Nat.le_refl _))
  rcases q1 with ⟨⟨xs, hq⟩, q⟩ | ⟨⟨xs, hq⟩, q⟩
  · have ⟨its, _, p, _⟩ := I1.list hq
    apply wpAny_pyIter_list p.isList
    exact ⟨_, [s1.heap.objs.size], _, _, H1, rfl, I1.kept (t' := s1.toks) (fun _ _ e => Heap.get?_push_of_some _ e), turn_list a _, ⟨_, Heap.get?_push_size _ rfl, rfl, rfl⟩, top, q⟩
  · have ⟨its, _, p, _⟩ := I1.tuple hq
    apply wpAny_pyIter_tuple (show s1.heap.IsTuple a its.toArray from p)
    exact ⟨_, [s1.heap.objs.size], _, _, H1, rfl, I1.kept (t' := s1.toks) (fun _ _ e => Heap.get?_push_of_some _ e), turn_tuple a _, ⟨_, Heap.get?_push_size _ rfl, rfl, rfl⟩, top, q⟩
def iS (m : ME) : MI := fun σ S R E => m σ S (fun d S1 => match d with
  | .tup ds => R ds (fun _ => True) S1
  | d => match lstOf S1 d with
    | some ds => R ds (fun S' => lstOf S' d = some ds) S1
    | none => False) E
theorem is {l : Expr} (h : PE X l (upE X.K W m)) : PI X tg l (upI X.K W (iS m)) := L2.PI.to (pi_sq h) fun σ H R ⟨m, S, Rm, Em, h1, h2, h3, h4, h5⟩ =>
  ⟨m, S, _, Em, h1, h2, h3, fun d S1 v H1 q e s r => by
    have key : ∀ ds, lstOf S1 d = some ds → Rm ds (fun S' => lstOf S' d = some ds) S1 → ∃ a, v = .ref a ∧ (((∃ xs, SqL X.K H1 a xs) ∧ R (Itl X.K a) H1) ∨ ((∃ xs, SqT X.K H1 a xs) ∧ R (Itt X.K a) H1)) := fun ds e2 q => by
      obtain ⟨a, e1, hx, it⟩ := itok_list s r e2
      exact ⟨a, e1, .inl ⟨hx, h4 ds _ S1 _ H1 q e s it⟩⟩
    cases d with
    | tup ds =>
      obtain ⟨a, rfl, hx, it⟩ := itok_tup s r
      exact ⟨a, rfl, .inr ⟨hx, h4 _ _ S1 _ H1 q e s it⟩⟩
    | lst ds => exact key ds rfl q
    | scr ds => exact key ds rfl q
    | ref p =>
      dsimp only at q
      cases e2 : lstOf S1 (.ref p) with
      | none => rw [e2] at q; exact q.elim
      | some ds => rw [e2] at q; exact key ds e2 q
    | _ => exact q.elim, h5⟩
end
def sqI (S : Sto) : D → Option (List D × (Sto → Prop))
  | .tup ds => some (ds, fun _ => True)
  | .lst ds => some (ds, fun _ => True)
  | .scr ds => some (ds, fun _ => True)
  | .ref p => (olP (S p)).map fun ds => (ds, fun S' => olP (S' p) = some ds)
  | _ => none
theorem l_iS {m : ME} {σ : MSt} {S : Sto} {R : List D → (Sto → Prop) → Sto → Prop} {E : MXQ} : iS m σ S R E = m σ S (fun d S1 => optP (sqI S1 d) fun r => R r.1 r.2 S1) E := by
  unfold iS
  apply congrArg (fun f => m σ S f E)
  funext d S1
  cases d with
  | ref p =>
    simp only [lstOf_ref', optP, OptP, sqI]
    cases e : olP (S1 p) <;> simp
  | lst ds => simp only [lstOf, optP, OptP, sqI]
  | scr ds => simp only [lstOf, optP, OptP, sqI]
  | tup ds => simp only [optP, OptP, sqI]
  | _ => simp only [lstOf, optP, OptP, sqI]
theorem sqI_tup {S : Sto} {ds : List D} : sqI S (.tup ds) = some (ds, fun _ => True) := Eq.trans rfl rfl
theorem sqI_lst {S : Sto} {ds : List D} : sqI S (.lst ds) = some (ds, fun _ => True) := Eq.trans rfl rfl
theorem sqI_scr {S : Sto} {ds : List D} : sqI S (.scr ds) = some (ds, fun _ => True) := Eq.trans rfl rfl
theorem sqI_ref {S : Sto} {p : Addr} {ds : List D} : sqI (put S p (.lst ds)) (.ref p) = some (ds, fun S' => olP (S' p) = some ds) := by
  simp only [sqI, put_same, olP, Option.map_some]
theorem sqI_at {S : Sto} {p : Addr} {ds : List D} (h : S p = some (.lst ds)) : sqI S (.ref p) = some (ds, fun S' => olP (S' p) = some ds) := by
  simp only [sqI, h, olP, Option.map_some]
def croll (G : Sto → Prop) (g : MG) (mt : MT) (me : ME) (p : Addr) (own : List Nat) (σ : MSt) (fin : List D → Sto → Prop) : List D → Sto → Prop
  | [], S => G S ∧ ∃ acc, S p = some (.lst acc) ∧ fin acc S
  | d :: ds, S => G S ∧ g d (wipeM σ own) S (fun σ2 S2 => mt σ2 S2 (fun k S3 => if k = true then me σ2 S3 (fun y S4 => ∃ acc, S4 p = some (.lst acc) ∧ acc.length < sizeLine ∧ croll G g mt me p own σ fin ds (put S4 p (.lst (acc ++ [y])))) noX else croll G g mt me p own σ fin ds S3) noX) noX
def CrA (y : D) (S : Sto) (p : Addr) [k : Hold (Sto → Prop)] : Prop := ∃ acc, S p = some (.lst acc) ∧ acc.length < sizeLine ∧ k.v (put S p (.lst (acc ++ [y])))
theorem CrA_at {y : D} {S : Sto} {p : Addr} {acc : List D} {k : Hold (Sto → Prop)} : @CrA y (put S p (.lst acc)) p k = (acc.length < sizeLine ∧ k.v (put S p (.lst (acc ++ [y])))) := by
  unfold CrA
  apply propext
  constructor
  · rintro ⟨a, h1, h2, h3⟩
    rw [put_same] at h1
    cases h1
    rw [put_put] at h3
    exact ⟨h2, h3⟩
  · rintro ⟨h1, h2⟩
    exact ⟨acc, put_same, h1, by rw [put_put]; exact h2⟩
structure CrK where
  G : Sto → Prop
  g : MG
  mt : MT
  me : ME
  p : Addr
  own : List Nat
  σ : MSt
  fin : List D → Sto → Prop
def CrollP (items : List D) (S : Sto) [k : Hold CrK] : Prop := croll k.v.G k.v.g k.v.mt k.v.me k.v.p k.v.own k.v.σ k.v.fin items S
theorem CrollP_nil {S : Sto} {G : Sto → Prop} {g : MG} {mt : MT} {me : ME} {p : Addr} {own : List Nat} {σ : MSt} {fin : List D → Sto → Prop} {acc : List D} : @CrollP [] (put S p (.lst acc)) ⟨⟨G, g, mt, me, p, own, σ, fin⟩⟩ = (G (put S p (.lst acc)) ∧ fin acc (put S p (.lst acc))) := by
  apply propext
  constructor
  · rintro ⟨h, a, h1, h2⟩
    have h3 : put S p (.lst acc) p = some (.lst a) := h1
    rw [put_same] at h3; cases h3
    exact ⟨h, h2⟩
  · rintro ⟨h1, h2⟩; exact ⟨h1, acc, put_same, h2⟩
theorem CrollP_cons {d : D} {ds : List D} {S : Sto} {G : Sto → Prop} {g : MG} {mt : MT} {me : ME} {p : Addr} {own : List Nat} {σ : MSt} {fin : List D → Sto → Prop} : @CrollP (d :: ds) S ⟨⟨G, g, mt, me, p, own, σ, fin⟩⟩ =
    (G S ∧ g d (wipeM σ own) S (fun σ2 S2 => mt σ2 S2 (fun k S3 => @IteP (k = true) ⟨me σ2 S3 (fun y S4 => @CrA y S4 p ⟨fun S5 => @CrollP ds S5 ⟨⟨G, g, mt, me, p, own, σ, fin⟩⟩⟩) noX⟩ ⟨@CrollP ds S3 ⟨⟨G, g, mt, me, p, own, σ, fin⟩⟩⟩) noX) noX) := by
  simp only [CrollP, croll, IteP_bool]
  rfl
theorem l_mYes {σ : MSt} {S : Sto} {Q : Bool → Sto → Prop} {E : MXQ} : mYes σ S Q E = Q true S := Eq.trans rfl rfl
structure FoK where
  G : Sto → Prop
  g : MG
  mb : MS
  D : MEnds
def FrollP (items : List D) (σ : MSt) (S : Sto) [k : Hold FoK] : Prop := wroll k.v.G k.v.g k.v.mb k.v.D items σ S
theorem FrollP_nil {σ : MSt} {S : Sto} {G : Sto → Prop} {g : MG} {mb : MS} {De : MEnds} : @FrollP [] σ S ⟨⟨G, g, mb, De⟩⟩ = (G S ∧ Go De.nx σ S) := Eq.trans rfl rfl
theorem FrollP_cons {d : D} {ds : List D} {σ : MSt} {S : Sto} {G : Sto → Prop} {g : MG} {mb : MS} {De : MEnds} : @FrollP (d :: ds) σ S ⟨⟨G, g, mb, De⟩⟩ =
    (G S ∧ g d σ S (fun σ' S' => mb { De with nx := fun σ S => @FrollP ds σ S ⟨⟨G, g, mb, De⟩⟩, ct := fun σ S => @FrollP ds σ S ⟨⟨G, g, mb, De⟩⟩, bk := De.nx } σ' S') (xAt De σ)) := Eq.trans rfl rfl
theorem for_roll {items : List D} {σ : MSt} {S : Sto} {G : Sto → Prop} {g : MG} {mb : MS} {De : MEnds} (h : @FrollP items σ S ⟨⟨G, g, mb, De⟩⟩) : @ForP items σ S ⟨G⟩ ⟨g⟩ ⟨mb⟩ ⟨De⟩ := wfor_roll h
def mIfJ (c : MT) (t u : MS) : MS := fun De σ S => c σ S (fun b S1 => ∃ J : MSt → Sto → Prop, (if b = true then t { De with nx := J } σ S1 else u { De with nx := J } σ S1) ∧ ∀ σ' S', J σ' S' → De.nx σ' S') (xAt De σ)
section
variable {X : Cx} {W : WX} {c : Expr} {mt mu : MS} {pos : Pos}
theorem sifJ {tc : MT} {as bs : List Stmt} (hc : PT X c (upT X.K W tc)) (ha : PSs X as (upS X.K W mt)) (hb : PSs X bs (upS X.K W mu)) : PS X (.If c as bs pos) (upS X.K W (mIfJ tc mt mu)) := L2.PS.to (ps_if hc ha hb) fun D σ H ⟨m, S, Dm, h1, h2, h3, h4⟩ =>
  ⟨m, S, _, _, h1, h2, h3, fun k S1 H1 q e s => by
    obtain ⟨J, q, hJ⟩ := q
    have r : RefE X.K H1 S1 { Dm with nx := J } D W := ⟨fun m' S' σ' H' z e' s' r' => h4.nx m' S' σ' H' (hJ _ _ z) (e.trans e') s' r', (h4.ext e).rt, (h4.ext e).bk, (h4.ext e).ct, (h4.ext e).ex⟩
    cases k with
    | true => rw [if_pos rfl]; exact ⟨m, S1, _, h1.ext e, s, by simpa using q, r⟩
    | false => rw [if_neg Bool.false_ne_true]; exact ⟨m, S1, _, h1.ext e, s, by simpa using q, r⟩, xAt_ref h1 h4.ex⟩
end
def JfP (c : Prop) (σ : MSt) (S : Sto) [t : Hold MS] [u : Hold MS] [De : Hold MEnds] : Prop := ∃ J : MSt → Sto → Prop, ((c → t.v { De.v with nx := J } σ S) ∧ (¬ c → u.v { De.v with nx := J } σ S)) ∧ ∀ σ' S', J σ' S' → De.v.nx σ' S'
theorem l_mIfJ {c : MT} {t u : MS} {De : MEnds} {σ : MSt} {S : Sto} : mIfJ c t u De σ S = c σ S (fun b S1 => @JfP (b = true) σ S1 ⟨t⟩ ⟨u⟩ ⟨De⟩) (xAt De σ) := by
  unfold mIfJ
  apply congrArg (fun f => c σ S f (xAt De σ))
  funext b S1
  have e : ∀ J : MSt → Sto → Prop, (if b = true then t { De with nx := J } σ S1 else u { De with nx := J } σ S1) = ((b = true → t { De with nx := J } σ S1) ∧ (¬ b = true → u { De with nx := J } σ S1)) := fun J => IteP_bool
  simp only [e]
  rfl
theorem jf {c : Prop} {σ : MSt} {S : Sto} {t u : MS} {De : MEnds} (J : MSt → Sto → Prop) (h1 : c → t { De with nx := J } σ S) (h2 : ¬ c → u { De with nx := J } σ S) (k : ∀ σ' S', J σ' S' → Go De.nx σ' S') : @JfP c σ S ⟨t⟩ ⟨u⟩ ⟨De⟩ := ⟨J, ⟨h1, h2⟩, k⟩
def mJ (t : MS) : MS := fun De σ S => ∃ J : MSt → Sto → Prop, t { De with nx := J } σ S ∧ ∀ σ' S', J σ' S' → De.nx σ' S'
theorem sJ {X : Cx} {W : WX} {st : Stmt} {t : MS} (h : PS X st (upS X.K W t)) : PS X st (upS X.K W (mJ t)) := L2.PS.to h fun D σ H ⟨m, S, Dm, h1, h2, ⟨J, q, hJ⟩, h4⟩ =>
  ⟨m, S, _, h1, h2, q, ⟨fun m' S' σ' H' z e' s' r' => h4.nx m' S' σ' H' (hJ _ _ z) e' s' r', h4.rt, h4.bk, h4.ct, h4.ex⟩⟩
def JP (σ : MSt) (S : Sto) [t : Hold MS] [De : Hold MEnds] : Prop := ∃ J : MSt → Sto → Prop, t.v { De.v with nx := J } σ S ∧ ∀ σ' S', J σ' S' → De.v.nx σ' S'
theorem l_mJ {t : MS} {De : MEnds} {σ : MSt} {S : Sto} : mJ t De σ S = @JP σ S ⟨t⟩ ⟨De⟩ := Eq.trans rfl rfl
theorem jp {σ : MSt} {S : Sto} {t : MS} {De : MEnds} (J : MSt → Sto → Prop) (h1 : t { De with nx := J } σ S) (k : ∀ σ' S', J σ' S' → Go De.nx σ' S') : @JP σ S ⟨t⟩ ⟨De⟩ := ⟨J, h1, k⟩
theorem isN_non : isN .non = true := Eq.trans rfl rfl
theorem isN_int {i : Int} : isN (.int i) = false := Eq.trans rfl rfl
theorem isN_bl {i : Bool} : isN (.bl i) = false := Eq.trans rfl rfl
theorem isN_str {i : Str} : isN (.str i) = false := Eq.trans rfl rfl
theorem isN_tup {i : List D} : isN (.tup i) = false := Eq.trans rfl rfl
theorem isN_lst {i : List D} : isN (.lst i) = false := Eq.trans rfl rfl
theorem isN_ref {i : Addr} : isN (.ref i) = false := Eq.trans rfl rfl
theorem rngD_0 {lo : Int} : rngD lo 0 = [] := rfl
theorem rngD_1 {lo : Int} : rngD lo 1 = [.int lo] := by simp [rngD, List.range, List.range.loop]
theorem rngD_2 {lo : Int} : rngD lo 2 = [.int lo, .int (lo + 1)] := by simp [rngD, List.range, List.range.loop]
theorem rngD_3 {lo : Int} : rngD lo 3 = [.int lo, .int (lo + 1), .int (lo + 2)] := by simp [rngD, List.range, List.range.loop]
theorem rngD_4 {lo : Int} : rngD lo 4 = [.int lo, .int (lo + 1), .int (lo + 2), .int (lo + 3)] := by simp [rngD, List.range, List.range.loop]
theorem rngD_6 {lo : Int} : rngD lo 6 = [.int lo, .int (lo + 1), .int (lo + 2), .int (lo + 3), .int (lo + 4), .int (lo + 5)] := by simp [rngD, List.range, List.range.loop]
theorem q_wipeM_nil {σ : MSt} : wipeM σ [] = σ := rfl
theorem q_wipeM_cons {σ : MSt} {v : Nat} {vs : List Nat} : wipeM σ (v :: vs) = (wipeM σ vs).set v none := rfl
end ML
set_option maxRecDepth 100000
namespace PySem
def CmpAt (prog : Program) (w : World) (A : Around) (s0 : Heap) (op : CmpOp) (x y : Value) (b : Bool) : Prop :=
  ∀ (s : Shared) (Q E : Value → Shared → Prop), (∀ c o, s0.get? c = some o → s.heap.get? c = some o) → Q (.bool b) s → wpAny (model prog w) A (richCompare op x y) Q E s
section
variable {prog : Program} {w : World} {A : Around} {E : Value → Shared → Prop} {s : Shared}
theorem two_loop_max {a b : Value} {k : Bool} {I S ax : Addr} {h0 : Heap} {n0 : Nat} (hh : A.handled = none) (hne : ax ≠ I) (hSI : S ≠ I) (hSa : S ≠ ax) (hc : CmpAt prog w A.in1 h0 .Gt b a k) {R : Result → Shared → Prop} (lt : ∀ c o, h0.get? c = some o → c ≠ I ∧ c ≠ S)
    (hk0 : ∀ c o, h0.get? c = some o → s.heap.get? c = some o) (hI : s.heap.IsTupleIter I ax 0) (hT : s.heap.IsTuple ax #[a, b]) (hS : s.heap.get? S = some { cls := .type "list", dict := none, data := .seq #[] n0, slots := #[] })
    (hR : ∀ h' tk, (∀ c o, h0.get? c = some o → h'.get? c = some o) → R (.ok (.ret (if k = true then b else a))) { s with heap := h', toks := tk }) :
    codeAny (model prog w) A (.builtin "max.loop" ⟨[.ref I, .none, .ref S], []⟩) R s := by
  have W := Walks.tuple (prog := prog) (w := w) (A := A.in1) hh I ax hne #[a, b]
  have hw : S ∉ [I] := by simp [hSI]
  have hname : (toString "max" ++ toString ".loop" : String) = "max.loop" := by decide
  have ni : ∀ c o, h0.get? c = some o → c ∉ [I] := fun c o e => by simp [(lt c o e).1]
  apply codeAny_builtin F.entry_max_loop; rw [Around.under_plainId F.plain_max_loop _]; show wpAny _ A.in1 (_ >>= _) _ _ s
  refine wpAny_bind (wpAny_seqItems hS rfl ?_); show wpAny _ A.in1 (tryCatch (pyNext (.ref I)) _ >>= _) _ _ s
  refine wpAny_bind (wpAny_tryCatch (W.item 0 s _ _ (by simp) ⟨hI, hT⟩ fun v1 h1 t1 p1 st1 k1 => ?_))
  have e1 : v1 = a := by simpa using p1.symm
  have hS1 := k1 S _ hw hS
  show wpAny _ A.in1 (updateSeq S (fun _ => #[v1, v1]) >>= _) _ _ _
  apply wpAny_bind; refine wpAny_updateSeq hS1 rfl ?_; rw [hname]
  refine wpAny_pure ⟨plainId_quiet F.plain_max_loop _, ?_⟩
  have hS2 := Heap.get?_update_self (Obj.mapSeq fun _ => #[v1, v1]) hS1 rfl
  have st2 := W.frame 1 _ (h1.update S (Obj.mapSeq fun _ => #[v1, v1])) st1 fun c hc o e => (Heap.get?_update_other _ _ (fun z : S = c => by
    rw [← z] at hc; simp [hSI, hSa] at hc)).trans e
  have k2 : ∀ c o, h0.get? c = some o → (h1.update S (Obj.mapSeq fun _ => #[v1, v1])).get? c = some o := fun c o e => (Heap.get?_update_other _ _ (Ne.symm (lt c o e).2)).trans (k1 c o (ni c o e) (hk0 c o e))
  generalize h1.update S (Obj.mapSeq fun _ => #[v1, v1]) = h2 at hS2 st2 k2
  apply codeAny_builtin F.entry_max_loop; rw [Around.under_plainId F.plain_max_loop _]; show wpAny _ A.in1 (_ >>= _) _ _ _
  refine wpAny_bind (wpAny_seqItems hS2 rfl ?_); show wpAny _ A.in1 (tryCatch (pyNext (.ref I)) _ >>= _) _ _ _
  refine wpAny_bind (wpAny_tryCatch (W.item 1 _ _ _ (by simp) st2 fun v2 h3 t3 p2 st3 k3 => ?_))
  have e2 : v2 = b := by simpa using p2.symm
  have hS3 := k3 S _ hw hS2
  have k4 : ∀ c o, h0.get? c = some o → h3.get? c = some o := fun c o e => k3 c o (ni c o e) (k2 c o e)
  show wpAny _ A.in1 (tryCatch (holding [v2, v2] (richCompare .Gt v2 v1 >>= _)) _ >>= _) _ _ _
  subst e1 e2
  refine wpAny_bind (wpAny_tryCatch (wpAny_holding (wpAny_bind (hc _ _ _ k4 ?_))))
  refine wpAny_bind (wpAny_holding (wpAny_truthy_bool ?_)); refine wpAny_bind (wpAny_letGo (wpAny_pure ?_))
  have fin : ∀ (h4 : Heap) (t4 m4 : Nat) (vb : Value), h4.IsTupleIter I ax 2 ∧ h4.IsTuple ax #[v1, v2] → h4.get? S = some { cls := .type "list", dict := none, data := .seq #[vb, vb] m4, slots := #[] } → (∀ c o, h0.get? c = some o → h4.get? c = some o) →
      (∀ h' tk, (∀ c o, h0.get? c = some o → h'.get? c = some o) → R (.ok (.ret vb)) { s with heap := h', toks := tk }) → codeAny (model prog w) A (.builtin "max.loop" ⟨[.ref I, .none, .ref S], []⟩) R { s with heap := h4, toks := t4 } := fun h4 t4 m4 vb st4 hS4 k4 hR => by
    apply codeAny_builtin F.entry_max_loop; rw [Around.under_plainId F.plain_max_loop _]; show wpAny _ A.in1 (_ >>= _) _ _ _
    refine wpAny_bind (wpAny_seqItems hS4 rfl ?_); show wpAny _ A.in1 (tryCatch (pyNext (.ref I)) _ >>= _) _ _ _
    refine wpAny_bind (wpAny_tryCatch (W.done _ _ _ st4 fun h5 t5 k5 => ?_))
    have hS5 := k5 S _ hw hS4
    show wpAny _ A.in1 (updateSeq S (fun _ => #[]) >>= _) _ _ _
    apply wpAny_bind; refine wpAny_updateSeq hS5 rfl (wpAny_bind (wpAny_letGo (wpAny_pure ?_)))
    exact hR _ t5 fun c o e => (Heap.get?_update_other _ _ (Ne.symm (lt c o e).2)).trans (k5 c o (ni c o e) (k4 c o e))
  cases k with
  | true =>
    simp only [if_true] at hR ⊢
    apply wpAny_bind; refine wpAny_updateSeq hS3 rfl (wpAny_bind (wpAny_letGo ?_)); rw [hname]
    refine wpAny_pure ⟨plainId_quiet F.plain_max_loop _, fin _ _ _ v2 ?_ (Heap.get?_update_self _ hS3 rfl) (fun c o e => (Heap.get?_update_other _ _ (Ne.symm (lt c o e).2)).trans (k4 c o e)) hR⟩
    exact W.frame 2 _ _ st3 fun c hc o e => (Heap.get?_update_other _ _ (fun z : S = c => by
      rw [← z] at hc; simp [hSI, hSa] at hc)).trans e
  | false =>
    simp only [Bool.false_eq_true, if_false] at hR ⊢
    refine wpAny_bind (wpAny_letGo ?_); rw [hname]
    exact wpAny_pure ⟨plainId_quiet F.plain_max_loop _, fin _ _ _ v1 st3 hS3 k4 hR⟩
theorem call_max_at {a b : Value} {k : Bool} {Q : Value → Shared → Prop} (hh : A.handled = none) (hc : CmpAt prog w A.in1 s.heap .Gt b a k)
    (h : ∀ h' tk, (∀ c o, s.heap.get? c = some o → h'.get? c = some o) → Q (if k = true then b else a) { s with heap := h', toks := tk }) : wpAny (model prog w) A (call (.builtin "max") [a, b]) Q E s := by
  have hT : (s.heap.push { cls := .type "tuple", data := .seq #[a, b] }).IsTuple s.heap.objs.size #[a, b] := ⟨_, Heap.get?_push_size _ rfl, rfl, 0, rfl⟩
  have hname : (toString "max" ++ toString ".loop" : String) = "max.loop" := by decide
  have z1 : (s.heap.push { cls := .type "tuple", data := .seq #[a, b] }).objs.size = s.heap.objs.size + 1 := Heap.size_push ..
  apply call_function_tree F.kind_max F.plain_max F.entry_max (F.args_max2 _ _)
  show wpAny _ A.in1 (Builtin.Builtins.bindParams "max" ["key", "default"] 0 ⟨[], []⟩ >>= _) _ _ s
  apply wpAny_bind; apply wpAny_of_eq (show Builtin.Builtins.bindParams "max" ["key", "default"] 0 ⟨[], []⟩ = pure [none, none] from rfl)
  show wpAny _ A.in1 (newTuple [a, b] >>= _) _ _ s
  apply wpAny_bind; refine wpAny_newObj_type ?_; apply wpAny_bind; apply wpAny_pyIter_tuple hT
  apply wpAny_bind; refine wpAny_newObj_type ?_
  rw [hname]
  refine wpAny_pure ⟨plainId_quiet F.plain_max_loop _, two_loop_max (h0 := s.heap) (ax := s.heap.objs.size) hh ?_ ?_ ?_ hc (fun c o e => ?_) (fun c o e => ?_) ?_ ?_ (Heap.get?_push_size _ rfl) h⟩
  · exact Nat.ne_of_lt (show s.heap.objs.size < (s.heap.push _).objs.size by simp only [Heap.size_push]; omega)
  · exact Nat.ne_of_gt (show (s.heap.push _).objs.size < ((s.heap.push _).push _).objs.size by simp only [Heap.size_push]; omega)
  · exact Nat.ne_of_gt (show s.heap.objs.size < ((s.heap.push _).push _).objs.size by simp only [Heap.size_push]; omega)
  · have lz := Heap.lt_size e
    exact ⟨Nat.ne_of_lt (show c < (s.heap.push _).objs.size by simp only [Heap.size_push]; exact Nat.lt_succ_of_lt lz), Nat.ne_of_lt (show c < ((s.heap.push _).push _).objs.size by simp only [Heap.size_push]; exact Nat.lt_succ_of_lt (Nat.lt_succ_of_lt lz))⟩
  · exact Heap.get?_push_of_some _ (Heap.get?_push_of_some _ (Heap.get?_push_of_some _ e))
  · exact ⟨_, Heap.get?_push_of_some _ (Heap.get?_push_size _ rfl), rfl, rfl⟩
  · exact (hT.push _).push _
end
section
variable {prog : Program} {w : World} {A : Around} {E : Value → Shared → Prop} {s : Shared}
theorem two_loop_min {a b : Value} {k : Bool} {I S ax : Addr} {h0 : Heap} {n0 : Nat} (hh : A.handled = none) (hne : ax ≠ I) (hSI : S ≠ I) (hSa : S ≠ ax) (hc : CmpAt prog w A.in1 h0 .Lt b a k) {R : Result → Shared → Prop} (lt : ∀ c o, h0.get? c = some o → c ≠ I ∧ c ≠ S)
    (hk0 : ∀ c o, h0.get? c = some o → s.heap.get? c = some o) (hI : s.heap.IsTupleIter I ax 0) (hT : s.heap.IsTuple ax #[a, b]) (hS : s.heap.get? S = some { cls := .type "list", dict := none, data := .seq #[] n0, slots := #[] })
    (hR : ∀ h' tk, (∀ c o, h0.get? c = some o → h'.get? c = some o) → R (.ok (.ret (if k = true then b else a))) { s with heap := h', toks := tk }) :
    codeAny (model prog w) A (.builtin "min.loop" ⟨[.ref I, .none, .ref S], []⟩) R s := by
  have W := Walks.tuple (prog := prog) (w := w) (A := A.in1) hh I ax hne #[a, b]
  have hw : S ∉ [I] := by simp [hSI]
  have hname : (toString "min" ++ toString ".loop" : String) = "min.loop" := by decide
  have ni : ∀ c o, h0.get? c = some o → c ∉ [I] := fun c o e => by simp [(lt c o e).1]
  apply codeAny_builtin F.entry_min_loop; rw [Around.under_plainId F.plain_min_loop _]; show wpAny _ A.in1 (_ >>= _) _ _ s
  refine wpAny_bind (wpAny_seqItems hS rfl ?_); show wpAny _ A.in1 (tryCatch (pyNext (.ref I)) _ >>= _) _ _ s
  refine wpAny_bind (wpAny_tryCatch (W.item 0 s _ _ (by simp) ⟨hI, hT⟩ fun v1 h1 t1 p1 st1 k1 => ?_))
  have e1 : v1 = a := by simpa using p1.symm
  have hS1 := k1 S _ hw hS
  show wpAny _ A.in1 (updateSeq S (fun _ => #[v1, v1]) >>= _) _ _ _
  apply wpAny_bind; refine wpAny_updateSeq hS1 rfl ?_; rw [hname]
  refine wpAny_pure ⟨plainId_quiet F.plain_min_loop _, ?_⟩
  have hS2 := Heap.get?_update_self (Obj.mapSeq fun _ => #[v1, v1]) hS1 rfl
  have st2 := W.frame 1 _ (h1.update S (Obj.mapSeq fun _ => #[v1, v1])) st1 fun c hc o e => (Heap.get?_update_other _ _ (fun z : S = c => by
    rw [← z] at hc; simp [hSI, hSa] at hc)).trans e
  have k2 : ∀ c o, h0.get? c = some o → (h1.update S (Obj.mapSeq fun _ => #[v1, v1])).get? c = some o := fun c o e => (Heap.get?_update_other _ _ (Ne.symm (lt c o e).2)).trans (k1 c o (ni c o e) (hk0 c o e))
  generalize h1.update S (Obj.mapSeq fun _ => #[v1, v1]) = h2 at hS2 st2 k2
  apply codeAny_builtin F.entry_min_loop; rw [Around.under_plainId F.plain_min_loop _]; show wpAny _ A.in1 (_ >>= _) _ _ _
  refine wpAny_bind (wpAny_seqItems hS2 rfl ?_); show wpAny _ A.in1 (tryCatch (pyNext (.ref I)) _ >>= _) _ _ _
  refine wpAny_bind (wpAny_tryCatch (W.item 1 _ _ _ (by simp) st2 fun v2 h3 t3 p2 st3 k3 => ?_))
  have e2 : v2 = b := by simpa using p2.symm
  have hS3 := k3 S _ hw hS2
  have k4 : ∀ c o, h0.get? c = some o → h3.get? c = some o := fun c o e => k3 c o (ni c o e) (k2 c o e)
  show wpAny _ A.in1 (tryCatch (holding [v2, v2] (richCompare .Lt v2 v1 >>= _)) _ >>= _) _ _ _
  subst e1 e2
  refine wpAny_bind (wpAny_tryCatch (wpAny_holding (wpAny_bind (hc _ _ _ k4 ?_))))
  refine wpAny_bind (wpAny_holding (wpAny_truthy_bool ?_)); refine wpAny_bind (wpAny_letGo (wpAny_pure ?_))
  have fin : ∀ (h4 : Heap) (t4 m4 : Nat) (vb : Value), h4.IsTupleIter I ax 2 ∧ h4.IsTuple ax #[v1, v2] → h4.get? S = some { cls := .type "list", dict := none, data := .seq #[vb, vb] m4, slots := #[] } → (∀ c o, h0.get? c = some o → h4.get? c = some o) →
      (∀ h' tk, (∀ c o, h0.get? c = some o → h'.get? c = some o) → R (.ok (.ret vb)) { s with heap := h', toks := tk }) → codeAny (model prog w) A (.builtin "min.loop" ⟨[.ref I, .none, .ref S], []⟩) R { s with heap := h4, toks := t4 } := fun h4 t4 m4 vb st4 hS4 k4 hR => by
    apply codeAny_builtin F.entry_min_loop; rw [Around.under_plainId F.plain_min_loop _]; show wpAny _ A.in1 (_ >>= _) _ _ _
    refine wpAny_bind (wpAny_seqItems hS4 rfl ?_); show wpAny _ A.in1 (tryCatch (pyNext (.ref I)) _ >>= _) _ _ _
    refine wpAny_bind (wpAny_tryCatch (W.done _ _ _ st4 fun h5 t5 k5 => ?_))
    have hS5 := k5 S _ hw hS4
    show wpAny _ A.in1 (updateSeq S (fun _ => #[]) >>= _) _ _ _
    apply wpAny_bind; refine wpAny_updateSeq hS5 rfl (wpAny_bind (wpAny_letGo (wpAny_pure ?_)))
    exact hR _ t5 fun c o e => (Heap.get?_update_other _ _ (Ne.symm (lt c o e).2)).trans (k5 c o (ni c o e) (k4 c o e))
  cases k with
  | true =>
    simp only [if_true] at hR ⊢
    apply wpAny_bind; refine wpAny_updateSeq hS3 rfl (wpAny_bind (wpAny_letGo ?_)); rw [hname]
    refine wpAny_pure ⟨plainId_quiet F.plain_min_loop _, fin _ _ _ v2 ?_ (Heap.get?_update_self _ hS3 rfl) (fun c o e => (Heap.get?_update_other _ _ (Ne.symm (lt c o e).2)).trans (k4 c o e)) hR⟩
    exact W.frame 2 _ _ st3 fun c hc o e => (Heap.get?_update_other _ _ (fun z : S = c => by
      rw [← z] at hc; simp [hSI, hSa] at hc)).trans e
  | false =>
    simp only [Bool.false_eq_true, if_false] at hR ⊢
    refine wpAny_bind (wpAny_letGo ?_); rw [hname]
    exact wpAny_pure ⟨plainId_quiet F.plain_min_loop _, fin _ _ _ v1 st3 hS3 k4 hR⟩
theorem call_min_at {a b : Value} {k : Bool} {Q : Value → Shared → Prop} (hh : A.handled = none) (hc : CmpAt prog w A.in1 s.heap .Lt b a k)
    (h : ∀ h' tk, (∀ c o, s.heap.get? c = some o → h'.get? c = some o) → Q (if k = true then b else a) { s with heap := h', toks := tk }) : wpAny (model prog w) A (call (.builtin "min") [a, b]) Q E s := by
  have hT : (s.heap.push { cls := .type "tuple", data := .seq #[a, b] }).IsTuple s.heap.objs.size #[a, b] := ⟨_, Heap.get?_push_size _ rfl, rfl, 0, rfl⟩
  have hname : (toString "min" ++ toString ".loop" : String) = "min.loop" := by decide
  have z1 : (s.heap.push { cls := .type "tuple", data := .seq #[a, b] }).objs.size = s.heap.objs.size + 1 := Heap.size_push ..
  apply call_function_tree F.kind_min F.plain_min F.entry_min (F.args_min2 _ _)
  show wpAny _ A.in1 (Builtin.Builtins.bindParams "min" ["key", "default"] 0 ⟨[], []⟩ >>= _) _ _ s
  apply wpAny_bind; apply wpAny_of_eq (show Builtin.Builtins.bindParams "min" ["key", "default"] 0 ⟨[], []⟩ = pure [none, none] from rfl)
  show wpAny _ A.in1 (newTuple [a, b] >>= _) _ _ s
  apply wpAny_bind; refine wpAny_newObj_type ?_; apply wpAny_bind; apply wpAny_pyIter_tuple hT
  apply wpAny_bind; refine wpAny_newObj_type ?_
  rw [hname]
  refine wpAny_pure ⟨plainId_quiet F.plain_min_loop _, two_loop_min (h0 := s.heap) (ax := s.heap.objs.size) hh ?_ ?_ ?_ hc (fun c o e => ?_) (fun c o e => ?_) ?_ ?_ (Heap.get?_push_size _ rfl) h⟩
  · exact Nat.ne_of_lt (show s.heap.objs.size < (s.heap.push _).objs.size by simp only [Heap.size_push]; omega)
  · exact Nat.ne_of_gt (show (s.heap.push _).objs.size < ((s.heap.push _).push _).objs.size by simp only [Heap.size_push]; omega)
  · exact Nat.ne_of_gt (show s.heap.objs.size < ((s.heap.push _).push _).objs.size by simp only [Heap.size_push]; omega)
  · have lz := Heap.lt_size e
    exact ⟨Nat.ne_of_lt (show c < (s.heap.push _).objs.size by simp only [Heap.size_push]; exact Nat.lt_succ_of_lt lz), Nat.ne_of_lt (show c < ((s.heap.push _).push _).objs.size by simp only [Heap.size_push]; exact Nat.lt_succ_of_lt (Nat.lt_succ_of_lt lz))⟩
  · exact Heap.get?_push_of_some _ (Heap.get?_push_of_some _ (Heap.get?_push_of_some _ e))
  · exact ⟨_, Heap.get?_push_of_some _ (Heap.get?_push_size _ rfl), rfl, rfl⟩
  · exact (hT.push _).push _
end
end PySem
namespace ML
open PySem PySem.Spec L2
open PyProof.Rows hiding St
abbrev U2 := Int × Int
def ult (p q : U2) : Prop := p.1 < q.1 ∨ (p.1 = q.1 ∧ p.2 < q.2)
def ule (p q : U2) : Prop := p.1 < q.1 ∨ (p.1 = q.1 ∧ p.2 ≤ q.2)
instance : DecidableRel ult := fun a b => by unfold ult; infer_instance
instance : DecidableRel ule := fun a b => by unfold ule; infer_instance
def uD (p : U2) : D := .tup [.int p.1, .int p.2]
theorem ints2 {us : List Value} {p : U2} (r : Vals [V.int p.1, V.int p.2] us) : ∃ t u, us = [.int p.1 t, .int p.2 u] := by
  obtain ⟨a, b, rfl, r1, r2⟩ := vals2 r
  obtain ⟨t, rfl⟩ : ∃ t, a = .int p.1 t := r1
  obtain ⟨u, rfl⟩ : ∃ t, b = .int p.2 t := r2
  exact ⟨t, u, rfl⟩
theorem eq2 {A : Around} {s : Shared} {p q : U2} {t u t' u' : Tok} : ∀ j (h1 : j < (#[Value.int p.1 t, Value.int p.2 u] : Array Value).size) (h2 : j < (#[Value.int q.1 t', Value.int q.2 u'] : Array Value).size),
    SeqAt.EqAt A s (#[Value.int p.1 t, Value.int p.2 u] : Array Value)[j] (#[Value.int q.1 t', Value.int q.2 u'] : Array Value)[j] (if j = 0 then decide (p.1 = q.1) else decide (p.2 = q.2)) := by
  intro j h1 h2
  have e : ∀ a b : Int, (a == b) = decide (a = b) := fun a b => Bool.beq_eq_decide_eq a b
  rcases j with _ | _ | j
  · have := SeqAt.EqAt.int_int (A := A) (s := s) p.1 t q.1 t'
    rw [e] at this
    simpa using this
  · have := SeqAt.EqAt.int_int (A := A) (s := s) p.2 u q.2 u'
    rw [e] at this
    simpa using this
  · simp at h1; omega
theorem rc_lt {A : Around} {s : Shared} {l b : Addr} {p q : U2} {t u t' u' : Tok} (hl : s.heap.IsTuple l #[.int p.1 t, .int p.2 u]) (hb : s.heap.IsTuple b #[.int q.1 t', .int q.2 u']) (hu : A.units < cLine) : Ob.RcOp .Lt A s (.ref l) (.ref b) (decide (ult p q)) := by
  have R := Ob.RcOp.tuples_lt (A := A) (s := s) (e := fun j => if j = 0 then decide (p.1 = q.1) else decide (p.2 = q.2)) (r := fun j => if j = 0 then decide (p.1 < q.1) else decide (p.2 < q.2)) hl hb hu eq2 (fun j h1 h2 _ => by
    rcases j with _ | _ | j
    · simpa using Ob.RcOp.lt_int (A := A.in1) (s := s) p.1 q.1 t t'
    · simpa using Ob.RcOp.lt_int (A := A.in1) (s := s) p.2 q.2 u u'
    · simp at h1; omega)
  have e : (decide (ult p q)) = Ob.lexAt (fun j => if j = 0 then decide (p.1 = q.1) else decide (p.2 = q.2)) (fun j => if j = 0 then decide (p.1 < q.1) else decide (p.2 < q.2)) false 0 2 := by
    rw [Ob.lexAt_succ, Ob.lexAt_succ, Ob.lexAt_zero]
    simp only [if_true, if_false, Nat.zero_add, Nat.one_ne_zero, decide_eq_true_eq]
    apply Bool.eq_iff_iff.mpr
    by_cases h1 : p.1 = q.1 <;> by_cases h2 : p.2 = q.2 <;> simp only [h1, h2, if_true, if_false, decide_eq_true_eq, ult, ule, Bool.false_eq_true, true_and, false_and, or_false, Int.lt_irrefl, Int.le_refl, false_or, iff_self]
    all_goals grind
  rw [e]
  simpa using R
def tuplt (K : PySem.W.Frag) : R2 := fun x y H Q => ∃ (a b : Addr) (p q : U2), x = .ref a ∧ y = .ref b ∧ SqT K H a [.int p.1, .int p.2] ∧ SqT K H b [.int q.1, .int q.2] ∧ Q (.bl (decide (ult p q))) H
theorem opT_lt {X : Cx} (hu : X.A.units < cLine) : OpR X (compareOp .Lt) (tuplt X.K) := by
  rintro pins s σ H x y v u Q I rx ry ⟨a, b, p, q, rfl, rfl, ha, hb, k⟩
  obtain rfl : v = Value.ref a := rx
  obtain rfl : u = Value.ref b := ry
  obtain ⟨its, r1, p1, _⟩ := I.tuple ha
  obtain ⟨its2, r2, p2, _⟩ := I.tuple hb
  obtain ⟨t, u, rfl⟩ := ints2 r1
  obtain ⟨t', u', rfl⟩ := ints2 r2
  exact rc_lt p1 p2 hu X.prog X.w X.xe _ ⟨.bl _, H, I, rfl, k⟩
theorem rc_gt {A : Around} {s : Shared} {l b : Addr} {p q : U2} {t u t' u' : Tok} (hl : s.heap.IsTuple l #[.int p.1 t, .int p.2 u]) (hb : s.heap.IsTuple b #[.int q.1 t', .int q.2 u']) (hu : A.units < cLine) : Ob.RcOp .Gt A s (.ref l) (.ref b) (decide (ult q p)) := by
  have R := Ob.RcOp.tuples_gt (A := A) (s := s) (e := fun j => if j = 0 then decide (p.1 = q.1) else decide (p.2 = q.2)) (r := fun j => if j = 0 then decide (q.1 < p.1) else decide (q.2 < p.2)) hl hb hu eq2 (fun j h1 h2 _ => by
    rcases j with _ | _ | j
    · simpa using Ob.RcOp.gt_int (A := A.in1) (s := s) p.1 q.1 t t'
    · simpa using Ob.RcOp.gt_int (A := A.in1) (s := s) p.2 q.2 u u'
    · simp at h1; omega)
  have e : (decide (ult q p)) = Ob.lexAt (fun j => if j = 0 then decide (p.1 = q.1) else decide (p.2 = q.2)) (fun j => if j = 0 then decide (q.1 < p.1) else decide (q.2 < p.2)) false 0 2 := by
    rw [Ob.lexAt_succ, Ob.lexAt_succ, Ob.lexAt_zero]
    simp only [if_true, if_false, Nat.zero_add, Nat.one_ne_zero, decide_eq_true_eq]
    apply Bool.eq_iff_iff.mpr
    by_cases h1 : p.1 = q.1 <;> by_cases h2 : p.2 = q.2 <;> simp only [h1, h2, if_true, if_false, decide_eq_true_eq, ult, ule, Bool.false_eq_true, true_and, false_and, or_false, Int.lt_irrefl, Int.le_refl, false_or, iff_self]
    all_goals grind
  rw [e]
  simpa using R
def tupgt (K : PySem.W.Frag) : R2 := fun x y H Q => ∃ (a b : Addr) (p q : U2), x = .ref a ∧ y = .ref b ∧ SqT K H a [.int p.1, .int p.2] ∧ SqT K H b [.int q.1, .int q.2] ∧ Q (.bl (decide (ult q p))) H
theorem opT_gt {X : Cx} (hu : X.A.units < cLine) : OpR X (compareOp .Gt) (tupgt X.K) := by
  rintro pins s σ H x y v u Q I rx ry ⟨a, b, p, q, rfl, rfl, ha, hb, k⟩
  obtain rfl : v = Value.ref a := rx
  obtain rfl : u = Value.ref b := ry
  obtain ⟨its, r1, p1, _⟩ := I.tuple ha
  obtain ⟨its2, r2, p2, _⟩ := I.tuple hb
  obtain ⟨t, u, rfl⟩ := ints2 r1
  obtain ⟨t', u', rfl⟩ := ints2 r2
  exact rc_gt p1 p2 hu X.prog X.w X.xe _ ⟨.bl _, H, I, rfl, k⟩
def tuple (K : PySem.W.Frag) : R2 := fun x y H Q => ∃ (a b : Addr) (p q : U2), x = .ref a ∧ y = .ref b ∧ SqT K H a [.int p.1, .int p.2] ∧ SqT K H b [.int q.1, .int q.2] ∧ Q (.bl (decide (ule p q))) H
theorem rc_ge {A : Around} {s : Shared} {l b : Addr} {p q : U2} {t u t' u' : Tok} (hl : s.heap.IsTuple l #[.int p.1 t, .int p.2 u]) (hb : s.heap.IsTuple b #[.int q.1 t', .int q.2 u']) (hu : A.units < cLine) : Ob.RcOp .GtE A s (.ref l) (.ref b) (decide (ule q p)) := by
  have R := Ob.RcOp.tuples_ge (A := A) (s := s) (e := fun j => if j = 0 then decide (p.1 = q.1) else decide (p.2 = q.2)) (r := fun j => if j = 0 then decide (q.1 ≤ p.1) else decide (q.2 ≤ p.2)) hl hb hu eq2 (fun j h1 h2 _ => by
    rcases j with _ | _ | j
    · simpa using Ob.RcOp.ge_int (A := A.in1) (s := s) p.1 q.1 t t'
    · simpa using Ob.RcOp.ge_int (A := A.in1) (s := s) p.2 q.2 u u'
    · simp at h1; omega)
  have e : (decide (ule q p)) = Ob.lexAt (fun j => if j = 0 then decide (p.1 = q.1) else decide (p.2 = q.2)) (fun j => if j = 0 then decide (q.1 ≤ p.1) else decide (q.2 ≤ p.2)) true 0 2 := by
    rw [Ob.lexAt_succ, Ob.lexAt_succ, Ob.lexAt_zero]
    simp only [if_true, if_false, Nat.zero_add, Nat.one_ne_zero, decide_eq_true_eq]
    apply Bool.eq_iff_iff.mpr
    by_cases h1 : p.1 = q.1 <;> by_cases h2 : p.2 = q.2 <;> simp only [h1, h2, if_true, if_false, decide_eq_true_eq, ult, ule, Bool.false_eq_true, true_and, false_and, or_false, Int.lt_irrefl, Int.le_refl, false_or, iff_self]
    all_goals grind
  rw [e]
  simpa using R
def tupge (K : PySem.W.Frag) : R2 := fun x y H Q => ∃ (a b : Addr) (p q : U2), x = .ref a ∧ y = .ref b ∧ SqT K H a [.int p.1, .int p.2] ∧ SqT K H b [.int q.1, .int q.2] ∧ Q (.bl (decide (ule q p))) H
theorem opT_ge {X : Cx} (hu : X.A.units < cLine) : OpR X (compareOp .GtE) (tupge X.K) := by
  rintro pins s σ H x y v u Q I rx ry ⟨a, b, p, q, rfl, rfl, ha, hb, k⟩
  obtain rfl : v = Value.ref a := rx
  obtain rfl : u = Value.ref b := ry
  obtain ⟨its, r1, p1, _⟩ := I.tuple ha
  obtain ⟨its2, r2, p2, _⟩ := I.tuple hb
  obtain ⟨t, u, rfl⟩ := ints2 r1
  obtain ⟨t', u', rfl⟩ := ints2 r2
  exact rc_ge p1 p2 hu X.prog X.w X.xe _ ⟨.bl _, H, I, rfl, k⟩
theorem ct_max {X : Cx} (hc : X.calm = true) (hu : X.A.units + 65 < cLine) : CallR X (.builtin "max") (fun xs H Q => ∃ (a b : Addr) (p q : U2), xs = [.ref a, .ref b] ∧ SqT X.K H a [.int p.1, .int p.2] ∧ SqT X.K H b [.int q.1, .int q.2] ∧ Q (if ult p q then .ref b else .ref a) H) := by
  rintro pins s σ H xs us Q I r ⟨a, b, p, q, rfl, ha, hb, k⟩
  obtain ⟨u, w', rfl, r1, r2⟩ := vals2 r
  obtain rfl : u = Value.ref a := r1
  obtain rfl : w' = Value.ref b := r2
  obtain ⟨its, v1, p1, _⟩ := I.tuple ha
  obtain ⟨its2, v2, p2, _⟩ := I.tuple hb
  obtain ⟨t, u, rfl⟩ := ints2 v1
  obtain ⟨t', u', rfl⟩ := ints2 v2
  refine call_max_at (k := decide (ult p q)) (I.ok.hd hc) (fun s' Q' E' kp q' => ?_) fun h' tk kp => ⟨_, H, I.kept kp, ?_, k⟩
  · have p1' : s'.heap.IsTuple a #[.int p.1 t, .int p.2 u] := (by obtain ⟨o, e, c⟩ := p1; exact ⟨o, kp _ _ e, c⟩)
    have p2' : s'.heap.IsTuple b #[.int q.1 t', .int q.2 u'] := (by obtain ⟨o, e, c⟩ := p2; exact ⟨o, kp _ _ e, c⟩)
    exact rc_gt p2' p1' (show X.A.units + 1 < cLine by omega) X.prog X.w _ _ q'
  · by_cases h : ult p q
    · simp only [h, decide_true, if_true]; rfl
    · simp only [h, decide_false, if_false, Bool.false_eq_true]; rfl
theorem ct_min {X : Cx} (hc : X.calm = true) (hu : X.A.units + 65 < cLine) : CallR X (.builtin "min") (fun xs H Q => ∃ (a b : Addr) (p q : U2), xs = [.ref a, .ref b] ∧ SqT X.K H a [.int p.1, .int p.2] ∧ SqT X.K H b [.int q.1, .int q.2] ∧ Q (if ult q p then .ref b else .ref a) H) := by
  rintro pins s σ H xs us Q I r ⟨a, b, p, q, rfl, ha, hb, k⟩
  obtain ⟨u, w', rfl, r1, r2⟩ := vals2 r
  obtain rfl : u = Value.ref a := r1
  obtain rfl : w' = Value.ref b := r2
  obtain ⟨its, v1, p1, _⟩ := I.tuple ha
  obtain ⟨its2, v2, p2, _⟩ := I.tuple hb
  obtain ⟨t, u, rfl⟩ := ints2 v1
  obtain ⟨t', u', rfl⟩ := ints2 v2
  refine call_min_at (k := decide (ult q p)) (I.ok.hd hc) (fun s' Q' E' kp q' => ?_) fun h' tk kp => ⟨_, H, I.kept kp, ?_, k⟩
  · have p1' : s'.heap.IsTuple a #[.int p.1 t, .int p.2 u] := (by obtain ⟨o, e, c⟩ := p1; exact ⟨o, kp _ _ e, c⟩)
    have p2' : s'.heap.IsTuple b #[.int q.1 t', .int q.2 u'] := (by obtain ⟨o, e, c⟩ := p2; exact ⟨o, kp _ _ e, c⟩)
    exact rc_lt p2' p1' (show X.A.units + 1 < cLine by omega) X.prog X.w _ _ q'
  · by_cases h : ult q p
    · simp only [h, decide_true, if_true]; rfl
    · simp only [h, decide_false, if_false, Bool.false_eq_true]; rfl
end ML
namespace ML
open PySem PySem.Spec L2
open PyProof.Rows hiding St
section
variable {X : Cx}
theorem rd_int {K : PySem.W.Frag} {H : Hp} {S : Sto} {v : V} {i : Int} (r : RD K H S v (.int i)) : v = .int i := by cases r; rfl
theorem rds_u {K : PySem.W.Frag} {H : Hp} {S : Sto} {vs : List V} {a b : Int} (r : RDs K H S vs [.int a, .int b]) : vs = [.int a, .int b] := by
  obtain ⟨v, w, rfl, r1, r2⟩ := rds2 r
  rw [rd_int r1, rd_int r2]
def aLt : R2m := fun d e S Q => match d, e with
  | .int i, .int j => Q (.bl (decide (i < j))) S
  | .tup [.int a, .int b], .tup [.int c, .int e] => Q (.bl (decide (ult (a, b) (c, e)))) S
  | _, _ => False
theorem oa_lt (hu : X.A.units + 65 < cLine) : OpR X (compareOp .Lt) (fun x y H Q => rI0 (fun i j => .bl (decide (i < j))) x y H Q ∨ tuplt X.K x y H Q) := op_lt.or (opT_lt (by omega))
theorem la_lt : OpL X.K (fun x y H Q => rI0 (fun i j => .bl (decide (i < j))) x y H Q ∨ tuplt X.K x y H Q) aLt := by
  intro H S x y d e Qm Q s rx ry h k
  unfold aLt at h
  split at h
  · cases rx; cases ry
    exact .inl ⟨_, _, rfl, rfl, k _ S _ H h Ext.refl s (.bl _)⟩
  · obtain ⟨p, vs, rfl, h1, r1⟩ := rx.tupSq
    obtain ⟨p2, ws, rfl, h2, r2⟩ := ry.tupSq
    rw [rds_u r1] at h1
    rw [rds_u r2] at h2
    exact .inr ⟨p, p2, (_, _), (_, _), rfl, rfl, h1, h2, k _ S _ H h Ext.refl s (.bl _)⟩
  · exact h.elim
theorem l_aLt_int {i j : Int} {S : Sto} {Q : MQ} : aLt (.int i) (.int j) S Q = Q (.bl (decide (i < j))) S := Eq.trans rfl rfl
theorem l_aLt_u {p q : U2} {S : Sto} {Q : MQ} : aLt (uD p) (uD q) S Q = Q (.bl (decide (ult p q))) S := Eq.trans rfl rfl
def aGt : R2m := fun d e S Q => match d, e with
  | .int i, .int j => Q (.bl (decide (j < i))) S
  | .tup [.int a, .int b], .tup [.int c, .int e] => Q (.bl (decide (ult (c, e) (a, b)))) S
  | _, _ => False
theorem oa_gt (hu : X.A.units + 65 < cLine) : OpR X (compareOp .Gt) (fun x y H Q => rI0 (fun i j => .bl (decide (j < i))) x y H Q ∨ tupgt X.K x y H Q) := op_gt.or (opT_gt (by omega))
theorem la_gt : OpL X.K (fun x y H Q => rI0 (fun i j => .bl (decide (j < i))) x y H Q ∨ tupgt X.K x y H Q) aGt := by
  intro H S x y d e Qm Q s rx ry h k
  unfold aGt at h
  split at h
  · cases rx; cases ry
    exact .inl ⟨_, _, rfl, rfl, k _ S _ H h Ext.refl s (.bl _)⟩
  · obtain ⟨p, vs, rfl, h1, r1⟩ := rx.tupSq
    obtain ⟨p2, ws, rfl, h2, r2⟩ := ry.tupSq
    rw [rds_u r1] at h1
    rw [rds_u r2] at h2
    exact .inr ⟨p, p2, (_, _), (_, _), rfl, rfl, h1, h2, k _ S _ H h Ext.refl s (.bl _)⟩
  · exact h.elim
theorem l_aGt_int {i j : Int} {S : Sto} {Q : MQ} : aGt (.int i) (.int j) S Q = Q (.bl (decide (j < i))) S := Eq.trans rfl rfl
theorem l_aGt_u {p q : U2} {S : Sto} {Q : MQ} : aGt (uD p) (uD q) S Q = Q (.bl (decide (ult q p))) S := Eq.trans rfl rfl
def aLe : R2m := fun d e S Q => match d, e with
  | .int i, .int j => Q (.bl (decide (i ≤ j))) S
  | .tup [.int a, .int b], .tup [.int c, .int e] => Q (.bl (decide (ule (a, b) (c, e)))) S
  | _, _ => False
theorem l_aLe_int {i j : Int} {S : Sto} {Q : MQ} : aLe (.int i) (.int j) S Q = Q (.bl (decide (i ≤ j))) S := Eq.trans rfl rfl
theorem l_aLe_u {p q : U2} {S : Sto} {Q : MQ} : aLe (uD p) (uD q) S Q = Q (.bl (decide (ule p q))) S := Eq.trans rfl rfl
def aGe : R2m := fun d e S Q => match d, e with
  | .int i, .int j => Q (.bl (decide (j ≤ i))) S
  | .tup [.int a, .int b], .tup [.int c, .int e] => Q (.bl (decide (ule (c, e) (a, b)))) S
  | _, _ => False
theorem oa_ge (hu : X.A.units + 65 < cLine) : OpR X (compareOp .GtE) (fun x y H Q => rI0 (fun i j => .bl (decide (j ≤ i))) x y H Q ∨ tupge X.K x y H Q) := op_ge.or (opT_ge (by omega))
theorem la_ge : OpL X.K (fun x y H Q => rI0 (fun i j => .bl (decide (j ≤ i))) x y H Q ∨ tupge X.K x y H Q) aGe := by
  intro H S x y d e Qm Q s rx ry h k
  unfold aGe at h
  split at h
  · cases rx; cases ry
    exact .inl ⟨_, _, rfl, rfl, k _ S _ H h Ext.refl s (.bl _)⟩
  · obtain ⟨p, vs, rfl, h1, r1⟩ := rx.tupSq
    obtain ⟨p2, ws, rfl, h2, r2⟩ := ry.tupSq
    rw [rds_u r1] at h1
    rw [rds_u r2] at h2
    exact .inr ⟨p, p2, (_, _), (_, _), rfl, rfl, h1, h2, k _ S _ H h Ext.refl s (.bl _)⟩
  · exact h.elim
theorem l_aGe_int {i j : Int} {S : Sto} {Q : MQ} : aGe (.int i) (.int j) S Q = Q (.bl (decide (j ≤ i))) S := Eq.trans rfl rfl
theorem l_aGe_u {p q : U2} {S : Sto} {Q : MQ} : aGe (uD p) (uD q) S Q = Q (.bl (decide (ule q p))) S := Eq.trans rfl rfl
def bMaxA : List D → Sto → MQ → Prop := fun ds S Q => match ds with
  | [.int i, .int j] => Q (.int (if j > i then j else i)) S
  | [.tup [.int a, .int b], .tup [.int c, .int e]] => Q (if ult (a, b) (c, e) then .tup [.int c, .int e] else .tup [.int a, .int b]) S
  | _ => False
theorem ca_max (hc : X.calm = true) (hu : X.A.units + 65 < cLine) : CallR X (.builtin "max") (fun xs H Q => (∃ i j, xs = [.int i, .int j] ∧ Q (.int (if j > i then j else i)) H) ∨ ∃ (a b : Addr) (p q : U2), xs = [.ref a, .ref b] ∧ SqT X.K H a [.int p.1, .int p.2] ∧ SqT X.K H b [.int q.1, .int q.2] ∧ Q (if ult p q then .ref b else .ref a) H) := by
  rintro pins s σ H xs us Q I r (h | h)
  · exact call_max2 hc pins s σ H xs us Q I r h
  · exact ct_max hc hu pins s σ H xs us Q I r h
theorem cl_maxA : CaL X.K (fun xs H Q => (∃ i j, xs = [.int i, .int j] ∧ Q (.int (if j > i then j else i)) H) ∨ ∃ (a b : Addr) (p q : U2), xs = [.ref a, .ref b] ∧ SqT X.K H a [.int p.1, .int p.2] ∧ SqT X.K H b [.int q.1, .int q.2] ∧ Q (if ult p q then .ref b else .ref a) H) bMaxA := by
  intro H S xs ds Qm Q s r h k
  unfold bMaxA at h
  split at h
  · obtain ⟨v, w, rfl, r1, r2⟩ := rds2 r
    cases r1; cases r2
    exact .inl ⟨_, _, rfl, k _ S _ H h Ext.refl s (.int _)⟩
  · next a b c e =>
    obtain ⟨v, w, rfl, r1, r2⟩ := rds2 r
    obtain ⟨p, vs, rfl, h1, q1⟩ := r1.tupSq
    obtain ⟨p2, ws, rfl, h2, q2⟩ := r2.tupSq
    rw [rds_u q1] at h1
    rw [rds_u q2] at h2
    refine .inr ⟨p, p2, (a, b), (c, e), rfl, h1, h2, ?_⟩
    split
    · next z => rw [if_pos z] at h; exact k _ S _ H h Ext.refl s r2
    · next z => rw [if_neg z] at h; exact k _ S _ H h Ext.refl s r1
  · exact h.elim
theorem l_bMaxA_int {i j : Int} {S : Sto} {Q : MQ} : bMaxA [.int i, .int j] S Q = Q (.int (if j > i then j else i)) S := Eq.trans rfl rfl
theorem l_bMaxA_u {p q : U2} {S : Sto} {Q : MQ} : bMaxA [uD p, uD q] S Q = Q (uD (if ult p q then q else p)) S := by
  have e : (if ult p q then uD q else uD p) = uD (if ult p q then q else p) := by split <;> rfl
  show Q (if ult p q then uD q else uD p) S = _
  rw [e]
def bMinA : List D → Sto → MQ → Prop := fun ds S Q => match ds with
  | [.int i, .int j] => Q (.int (if j < i then j else i)) S
  | [.tup [.int a, .int b], .tup [.int c, .int e]] => Q (if ult (c, e) (a, b) then .tup [.int c, .int e] else .tup [.int a, .int b]) S
  | _ => False
theorem ca_min (hc : X.calm = true) (hu : X.A.units + 65 < cLine) : CallR X (.builtin "min") (fun xs H Q => (∃ i j, xs = [.int i, .int j] ∧ Q (.int (if j < i then j else i)) H) ∨ ∃ (a b : Addr) (p q : U2), xs = [.ref a, .ref b] ∧ SqT X.K H a [.int p.1, .int p.2] ∧ SqT X.K H b [.int q.1, .int q.2] ∧ Q (if ult q p then .ref b else .ref a) H) := by
  rintro pins s σ H xs us Q I r (h | h)
  · exact call_min2 hc pins s σ H xs us Q I r h
  · exact ct_min hc hu pins s σ H xs us Q I r h
theorem cl_minA : CaL X.K (fun xs H Q => (∃ i j, xs = [.int i, .int j] ∧ Q (.int (if j < i then j else i)) H) ∨ ∃ (a b : Addr) (p q : U2), xs = [.ref a, .ref b] ∧ SqT X.K H a [.int p.1, .int p.2] ∧ SqT X.K H b [.int q.1, .int q.2] ∧ Q (if ult q p then .ref b else .ref a) H) bMinA := by
  intro H S xs ds Qm Q s r h k
  unfold bMinA at h
  split at h
  · obtain ⟨v, w, rfl, r1, r2⟩ := rds2 r
    cases r1; cases r2
    exact .inl ⟨_, _, rfl, k _ S _ H h Ext.refl s (.int _)⟩
  · next a b c e =>
    obtain ⟨v, w, rfl, r1, r2⟩ := rds2 r
    obtain ⟨p, vs, rfl, h1, q1⟩ := r1.tupSq
    obtain ⟨p2, ws, rfl, h2, q2⟩ := r2.tupSq
    rw [rds_u q1] at h1
    rw [rds_u q2] at h2
    refine .inr ⟨p, p2, (a, b), (c, e), rfl, h1, h2, ?_⟩
    split
    · next z => rw [if_pos z] at h; exact k _ S _ H h Ext.refl s r2
    · next z => rw [if_neg z] at h; exact k _ S _ H h Ext.refl s r1
  · exact h.elim
theorem l_bMinA_int {i j : Int} {S : Sto} {Q : MQ} : bMinA [.int i, .int j] S Q = Q (.int (if j < i then j else i)) S := Eq.trans rfl rfl
theorem l_bMinA_u {p q : U2} {S : Sto} {Q : MQ} : bMinA [uD p, uD q] S Q = Q (uD (if ult q p then q else p)) S := by
  have e : (if ult q p then uD q else uD p) = uD (if ult q p then q else p) := by split <;> rfl
  show Q (if ult q p then uD q else uD p) S = _
  rw [e]
end
theorem tup_u {a b : Int} : D.tup [.int a, .int b] = uD (a, b) := Eq.trans rfl rfl
theorem tupOf_u {p : U2} : tupOf (uD p) = some [.int p.1, .int p.2] := Eq.trans rfl rfl
theorem seqOf_u {S : Sto} {p : U2} : seqOf S (uD p) = some [.int p.1, .int p.2] := Eq.trans rfl rfl
theorem sqI_u {S : Sto} {p : U2} : sqI S (uD p) = some ([.int p.1, .int p.2], fun _ => True) := Eq.trans rfl rfl
theorem look_u {S : Sto} {p : U2} : look S (uD p) = uD p := Eq.trans rfl rfl
theorem isN_u {p : U2} : isN (uD p) = false := Eq.trans rfl rfl
theorem lenD_u {S : Sto} {p : U2} : lenD S (uD p) = some 2 := Eq.trans rfl rfl
theorem tyD_u {S : Sto} {p : U2} : tyD S (uD p) = some "tuple" := Eq.trans rfl rfl
abbrev UW := U2 × U2
def uwD (w : UW) : D := .tup [uD w.1, uD w.2]
theorem tup_uw {a b : U2} : D.tup [uD a, uD b] = uwD (a, b) := Eq.trans rfl rfl
theorem tupOf_uw {p : UW} : tupOf (uwD p) = some [uD p.1, uD p.2] := Eq.trans rfl rfl
theorem seqOf_uw {S : Sto} {p : UW} : seqOf S (uwD p) = some [uD p.1, uD p.2] := Eq.trans rfl rfl
theorem sqI_uw {S : Sto} {p : UW} : sqI S (uwD p) = some ([uD p.1, uD p.2], fun _ => True) := Eq.trans rfl rfl
theorem look_uw {S : Sto} {p : UW} : look S (uwD p) = uwD p := Eq.trans rfl rfl
theorem isN_uw {p : UW} : isN (uwD p) = false := Eq.trans rfl rfl
theorem lenD_uw {S : Sto} {p : UW} : lenD S (uwD p) = some 2 := Eq.trans rfl rfl
theorem tyD_uw {S : Sto} {p : UW} : tyD S (uwD p) = some "tuple" := Eq.trans rfl rfl
theorem plain_u (p : U2) : D.plain (uD p) = true := by simp [uD, D.plain, D.plains]
theorem plain_uw (p : UW) : D.plain (uwD p) = true := by simp [uwD, D.plain, D.plains, plain_u]
theorem dep_u (p : U2) : D.dep (uD p) = 1 := by simp [uD, D.dep, D.deps]
theorem dep_uw (p : UW) : D.dep (uwD p) = 2 := by simp [uwD, D.dep, D.deps, dep_u]
theorem eqOk_of' {d e : D} (h1 : D.plain d = true) (h2 : D.plain e = true) (h3 : D.dep d ≤ 64) (h4 : D.dep e ≤ 64) : eqOk d e = true := by
  unfold eqOk
  split
  · rfl
  · simp [h1, h2, h3, h4]
theorem eqOk_u {p q : U2} : eqOk (uD p) (uD q) = true := eqOk_of' (plain_u p) (plain_u q) (by rw [dep_u]; decide) (by rw [dep_u]; decide)
theorem eqOk_uw {p q : UW} : eqOk (uwD p) (uwD q) = true := eqOk_of' (plain_uw p) (plain_uw q) (by rw [dep_uw]; decide) (by rw [dep_uw]; decide)
theorem deq_u {p q : U2} : D.deq (uD p) (uD q) = decide (p = q) := by
  simp only [uD, D.deq, D.deqs, Bool.and_true]
  rw [Bool.eq_iff_iff]
  simp only [Bool.and_eq_true, beq_iff_eq, decide_eq_true_eq]
  exact ⟨fun ⟨a, b⟩ => Prod.ext a b, fun h => by subst h; exact ⟨rfl, rfl⟩⟩
theorem deq_uw {p q : UW} : D.deq (uwD p) (uwD q) = decide (p = q) := by
  simp only [uwD, D.deq, D.deqs, Bool.and_true, deq_u]
  rw [Bool.eq_iff_iff]
  simp only [Bool.and_eq_true, decide_eq_true_eq]
  exact ⟨fun ⟨a, b⟩ => Prod.ext a b, fun h => by subst h; exact ⟨rfl, rfl⟩⟩
end ML
set_option maxRecDepth 100000
namespace ML
open PySem PySem.Spec L2
open PyProof.Rows hiding St
theorem ncast {n : Nat} : ((no_index (OfNat.ofNat n : Nat) : Nat) : Int) = (no_index (OfNat.ofNat n : Int)) := rfl
def KP [p : Hold Prop] : Prop := p.v
theorem KP.mk {p : Prop} (h : p) : @KP ⟨p⟩ := h
theorem comp_map {α : Type} {σ : MSt} {S : Sto} {p : Addr} {own : List Nat} {G : Sto → Prop} {g : MG} {me : ME} {fin : List D → Sto → Prop} {items : List D} (enc res : α → D) (xs : List α) (hi : items = xs.map enc) (hz : xs.length ≤ 1000) (hG : ∀ acc, G (put S p (.lst acc)))
    (h : ∀ a acc (Q : MQ), a ∈ xs → Q (res a) (put S p (.lst acc)) → g (enc a) (wipeM σ own) (put S p (.lst acc)) (fun σ2 S2 => me σ2 S2 Q noX) noX)
    (hf : fin (xs.map res) (put S p (.lst (xs.map res)))) : @CompP items σ (put S p (.lst [])) p own ⟨G⟩ ⟨g⟩ ⟨mYes⟩ ⟨me⟩ ⟨fin⟩ := by
  subst hi
  refine comp_inv (fun i acc S' => acc = (xs.take i).map res ∧ S' = put S p (.lst acc)) put_same ⟨by simp, rfl⟩ ?_ ?_
  · rintro i d acc S' e ⟨rfl, rfl⟩ -
    rw [List.getElem?_map] at e
    cases ea : xs[i]? with
    | none => rw [ea] at e; cases e
    | some a =>
      rw [ea] at e; cases e
      have hlt : i < xs.length := (List.getElem?_eq_some_iff.mp ea).1
      have hm : a ∈ xs := List.mem_of_getElem? ea
      refine ⟨hG _, h a _ _ hm ?_⟩
      refine CompNext.mk put_same (line_lt (by simp only [List.length_map, List.length_take]; omega)) ⟨?_, by rw [put_put]⟩
      rw [List.take_add_one, ea, List.map_append]; rfl
  · rintro acc S' ⟨rfl, rfl⟩ -
    refine ⟨hG _, ?_⟩
    rw [List.length_map, List.take_length]; exact hf
inductive SeqK (S : Sto) : D → List D → Prop
  | lst {ds : List D} : SeqK S (.lst ds) ds
  | tup {ds : List D} : SeqK S (.tup ds) ds
  | ref {q : Addr} {ds : List D} : S q = some (.lst ds) → SeqK S (.ref q) ds
theorem SeqK.seq {S : Sto} {d : D} {ds : List D} (h : SeqK S d ds) : seqOf S d = some ds := by
  cases h with
  | lst => rfl
  | tup => rfl
  | ref h => rw [seqOf_ref', h]; rfl
theorem SeqK.it {S : Sto} {d : D} {ds : List D} (h : SeqK S d ds) : ∃ G : Sto → Prop, sqI S d = some (ds, G) ∧ G S ∧ ∀ p o, S p = none → G (put S p o) := by
  cases h with
  | lst => exact ⟨_, rfl, trivial, fun _ _ _ => trivial⟩
  | tup => exact ⟨_, rfl, trivial, fun _ _ _ => trivial⟩
  | ref h => exact ⟨_, sqI_at h, by rw [h]; rfl, fun p o hp => by rw [put_ne (sne h hp), h]; rfl⟩
theorem SeqK.len {S : Sto} {d : D} {ds : List D} (h : SeqK S d ds) : lenD S d = some ds.length := by
  cases h with
  | lst => rfl
  | tup => rfl
  | ref h => rw [lenD_ref, h]; rfl
theorem SeqK.put {S : Sto} {d : D} {ds : List D} (h : SeqK S d ds) {p : Addr} {o : MO} (hp : S p = none) : SeqK (put S p o) d ds := by
  cases h with
  | lst => exact .lst
  | tup => exact .tup
  | ref h => exact .ref (by rw [put_ne (sne h hp)]; exact h)
theorem plains_map {α : Type} {f : α → D} {xs : List α} (h : ∀ a, D.plain (f a) = true) : D.plains (xs.map f) = true := by
  induction xs with
  | nil => rfl
  | cons a xs ih => show (D.plain (f a) && D.plains (xs.map f)) = true; rw [h, ih]; rfl
theorem deps_map {α : Type} {f : α → D} {xs : List α} {n : Nat} (h : ∀ a, D.dep (f a) ≤ n) : D.deps (xs.map f) ≤ n := by
  induction xs with
  | nil => exact Nat.zero_le _
  | cons a xs ih => show max (D.dep (f a)) (D.deps (xs.map f)) ≤ n; have := h a; omega
theorem in_uw {neg : Bool} {p : U2} {w : UW} {S : Sto} {Q : MQ} : rInM neg (uD p) (uwD w) S Q = Q (.bl (if neg then !(decide (w.1 = p) || decide (w.2 = p)) else (decide (w.1 = p) || decide (w.2 = p)))) S := by
  have e : look S (uwD w) = .tup [uD w.1, uD w.2] := rfl
  have m : memD (uD p) [uD w.1, uD w.2] = (decide (w.1 = p) || decide (w.2 = p)) := by
    show (D.deq (uD w.1) (uD p) || (D.deq (uD w.2) (uD p) || false)) = _
    rw [deq_u, deq_u, Bool.or_false]
  have c : D.plain (uD p) = true ∧ D.plains [uD w.1, uD w.2] = true ∧ D.dep (uD p) ≤ 64 ∧ D.deps [uD w.1, uD w.2] ≤ 63 :=
    ⟨plain_u p, plain_uw w, by rw [dep_u]; decide, by have := dep_uw w; rw [uwD, D.dep] at this; omega⟩
  simp only [rInM, e, m]
  exact propext ⟨fun h => h.2, fun h => ⟨c, h⟩⟩
end ML
set_option maxRecDepth 100000
namespace ML
open PySem PySem.Spec L2
open PyProof.Rows hiding St
section
variable {X : Cx}
def bMaxL : List D → Sto → MQ → Prop := fun ds S Q => ∃ (d : D) (ns : List Int), ds = [d] ∧ lstOf S d = some (ns.map .int) ∧ 0 < ns.length ∧ ∀ m, m ∈ ns → (∀ y, y ∈ ns → y ≤ m) → Q (.int m) S
def bMinL : List D → Sto → MQ → Prop := fun ds S Q => ∃ (d : D) (ns : List Int), ds = [d] ∧ lstOf S d = some (ns.map .int) ∧ 0 < ns.length ∧ ∀ m, m ∈ ns → (∀ y, y ∈ ns → m ≤ y) → Q (.int m) S
end
def MaxP (ds : List D) (S : Sto) [Q : Hold MQ] : Prop := bMaxL ds S Q.v
def MinP (ds : List D) (S : Sto) [Q : Hold MQ] : Prop := bMinL ds S Q.v
theorem l_bMaxL {ds : List D} {S : Sto} {Q : MQ} : bMaxL ds S Q = @MaxP ds S ⟨Q⟩ := Eq.trans rfl rfl
theorem l_bMinL {ds : List D} {S : Sto} {Q : MQ} : bMinL ds S Q = @MinP ds S ⟨Q⟩ := Eq.trans rfl rfl
end ML
set_option maxRecDepth 100000
namespace ML
open PySem PySem.Spec L2
open PyProof.Rows hiding St
section
variable {X : Cx}
def bSortU : List D → Sto → MQ → Prop := fun ds S Q => ∃ (d : D) (us : List U2), ds = [d] ∧ lstOf S d = some (us.map uD) ∧ us.length < 64 ∧ (∀ u ∈ us, 0 ≤ u.1 ∧ u.1 < 1048576 ∧ 0 ≤ u.2 ∧ u.2 < 1048576) ∧
  ∀ vs : List U2, vs.Perm us → vs.Pairwise ule → Q (.lst (vs.map uD)) S
end
def SortP (ds : List D) (S : Sto) [Q : Hold MQ] : Prop := bSortU ds S Q.v
theorem l_bSortU {ds : List D} {S : Sto} {Q : MQ} : bSortU ds S Q = @SortP ds S ⟨Q⟩ := Eq.trans rfl rfl
theorem l_mtInsert {p : Addr} {n : Nat} {y : D} {S : Sto} {Q : MQ} : mtInsert (.ref p) [.int (n : Nat), y] S Q = optP (olP (S p)) fun xs => (xs.length < sizeLine ∧ 0 ≤ ((n : Nat) : Int) ∧ ((n : Nat) : Int) < 2 ^ 63) ∧ Q .non (put S p (.lst (xs.take n ++ [y] ++ xs.drop n))) := by
  simp only [mtInsert, optP, OptP, olP]
  cases S p with
  | none => rfl
  | some o => cases o <;> simp
theorem l_mtReverse {p : Addr} {S : Sto} {Q : MQ} : mtReverse (.ref p) [] S Q = optP (olP (S p)) fun xs => Q .non (put S p (.lst xs.reverse)) := by
  simp only [mtReverse, optP, OptP, olP]
  cases S p with
  | none => rfl
  | some o => cases o <;> rfl
theorem l_mtClear {p : Addr} {S : Sto} {Q : MQ} : mtClear (.ref p) [] S Q = optP (olP (S p)) fun xs => Q .non (put S p (.lst [])) := by
  simp only [mtClear, optP, OptP, olP]
  cases S p with
  | none => rfl
  | some o => cases o <;> rfl
end ML
set_option maxRecDepth 100000
namespace ML
open PySem PySem.Spec L2
def Grow (p : Addr) (S S' : Sto) : Prop := ∀ q o, q ≠ p → S q = some o → S' q = some o
theorem Grow.rfl {p : Addr} {S : Sto} : Grow p S S := fun _ _ _ h => h
def Ext0 (S S' : Sto) : Prop := ∀ q o, S q = some o → S' q = some o
theorem Grow.ext {p : Addr} {S S' S'' : Sto} (h : Grow p S S') (k : Ext0 S' S'') : Grow p S S'' := fun q u hq e => k q u (h q u hq e)
end ML
set_option maxRecDepth 100000
namespace ML
open PySem PySem.Spec L2
open PyProof.Rows hiding St
structure ShowOk (P : Program) (w : World) (K : PySem.W.Frag) (mg : Str → Option Value) (base : Heap) (k : Nat) (f : Addr) (fd : FuncData) (ps : List Str) (sp : Sp) : Prop where
  many : ∀ vs H Q E, sp vs H Q E → vs.length = ps.length
  runs : ∀ (A : Around), A.guards = some [] → Room k A → ∀ (outer : List Env) (s : Shared) (H : Hp), Env0 P w K mg base A outer s H → ∀ (args : Args) (us : List Value) (vs : List V), BindsTo s fd args (ps.zip us) → Vals vs us → ∀ (Q : VK) (E : XK), sp vs H Q E → codeAny (model P w) A (.call (.ref f) args) (CR (L2.CX P w) outer P w H s Q E) s
theorem ShowOk.of {P : Program} {w : World} {K : PySem.W.Frag} {mg : Str → Option Value} {base : Heap} {k : Nat} {f : Addr} {fd : FuncData} {ps : List Str} {sp : Sp} (F : FnOk P w K mg base (L2.CX P w) k f fd ps sp) : ShowOk P w K mg base k f fd ps sp :=
  ⟨F.len, fun A _ hr outer s H e args us vs b r Q E h => F.run A outer s H args us vs Q E hr e b r h⟩
structure HasS (P : Program) (w : World) (K : PySem.W.Frag) (mg : Str → Option Value) (base : Heap) (x : Str) (ps : List Str) (k : Nat) (sp : MSp) : Prop where
  ex : ∃ f fd, mg x = some (.ref f) ∧ PySem.W.keepIn K (.ref f) = true ∧ Binds K fd ps [] ∧ ShowOk P w K mg base k f fd ps (upSp K sp)
theorem Has.s {P : Program} {w : World} {K : PySem.W.Frag} {mg : Str → Option Value} {base : Heap} {x : Str} {ps : List Str} {k : Nat} {sp : MSp} (h : Has P w K mg base x ps k sp) : HasS P w K mg base x ps k sp :=
  let ⟨f, fd, a, b, c, d⟩ := h.ex
  ⟨f, fd, a, b, c, .of d⟩
theorem HasS.mono {P : Program} {w : World} {K : PySem.W.Frag} {mg : Str → Option Value} {base : Heap} {x : Str} {ps : List Str} {j k : Nat} {sp : MSp} (h : HasS P w K mg base x ps j sp) (l : j ≤ k) : HasS P w K mg base x ps k sp :=
  let ⟨f, fd, a, b, c, d⟩ := h.ex
  ⟨f, fd, a, b, c, d.many, fun A hg hr => d.runs A hg (hr.mono l)⟩
end ML
set_option maxRecDepth 100000
namespace ML
open PySem PySem.Spec L2
open PyProof.Rows hiding St
def reprD (d : D) : Str := (D.py d).shown
end ML
set_option maxRecDepth 100000
namespace ML
open PySem PySem.Spec L2
open PyProof.Rows hiding St
def tupsB (ts : List (Str × List Int)) (K : PySem.W.Frag) : Bool := ts.all fun p => He.tupB K p.1 (p.2.map He.Dv.int)
end ML
set_option maxRecDepth 100000
set_option maxHeartbeats 2000000
namespace L2
open PySem PySem.Spec PyProof.Rows
end L2
namespace ML
open PySem PySem.Spec L2
open PyProof.Rows hiding St
def subE (c d : Str) : Bool := decide (c = d) || decide (d ∈ (["SpotError", "ValueError", "Exception", "BaseException"] : List Str))
def excCB (K : PySem.W.Frag) (D : Addr) : Bool := decide (PySem.W.findIn K (.ref D) "__getattribute__" = some (some (.builtin "BaseException.__getattribute__"))) && (decide (PySem.W.findIn K (.ref D) "__getattr__" = some none) && (decide (PySem.W.subIn K (.ref D) (.type "BaseException") = some true) && (PySem.W.hasDictIn K D &&
  (decide (PySem.W.findIn K (.ref D) "__class__" = some (some (.builtin "object.__class__"))) && (decide (PySem.W.specialIn K (.builtin "object.__class__") "__get__" = some (some (.builtin "getset_descriptor.__get__"))) && (decide (PySem.W.takesIn K (.builtin "object.__class__") = some true) && decide (PySem.W.mroIn K D (.type "object") = some true)))))))
def excB1 (K : PySem.W.Frag) (ns : List Str) (C : Str) : Bool := excCB K (He.ga K C) && (decide (PySem.W.kitOne K (.ref (He.ga K C)) (.type "ValueError") = some true) && (decide (PySem.W.findIn K (.ref (He.ga K C)) "__str__" = some (some (.builtin "BaseException.__str__"))) && ns.all fun y => decide (PySem.W.kitOne K (.ref (He.ga K C)) (.ref (He.ga K y)) = some (subE C y)) && decide (PySem.W.exmOne K (.ref (He.ga K C)) (.ref (He.ga K y)) = some (subE C y))))
def excsB (ns : List Str) (K : PySem.W.Frag) : Bool := ns.all (excB1 K ns)
def mRaise (C : Str) : MS := fun D σ S => D.ex ⟨C, none⟩ σ S
section
variable {X : Cx} {W : WX} {a : Expr} {pos : Pos} {m : ME}
def endM (D : MEnds) (i : Nat) : MEnds := { nx := fun σ S => D.nx (σ.set i none) S, rt := D.rt, bk := fun σ S => D.bk (σ.set i none) S, ct := fun σ S => D.ct (σ.set i none) S }
def mTry (ns : List Str) (c : Str) (i : Nat) (mb ms : MS) : MS := fun D σ S => mb { D with ex := fun x σ' S' => x.C ∈ ns ∧ (subE x.C c = true → ∀ p, S' p = none → ms (endM D i) (σ'.set i (some (.ref p))) (put S' p (.exc x.C x.fs))) ∧ (subE x.C c = false → D.ex x σ' S') } σ S
def excOf : Option MO → Option Str
  | some (.exc C none) => some C
  | _ => none
def excD (S : Sto) : D → Option Str
  | .ref p => excOf (S p)
  | _ => none
def mIsE (ns : List Str) (x : Str) (m : ME) : ME := fun σ S Q E => m σ S (fun d S1 => match excD S1 d with
  | some C => C ∈ ns ∧ Q (.bl (subE C x)) S1
  | none => False) E
def mIsV (ns : List Str) (m : ME) : ME := fun σ S Q E => m σ S (fun d S1 => match excD S1 d with
  | some C => C ∈ ns ∧ Q (.bl true) S1
  | none => False) E
def rAddS : R2m := fun d e S Q => match ownOf S d, ownOf S e with
  | some xs, some ys => xs.length + ys.length ≤ sizeLine ∧ ∀ p, S p = none → Q (.ref p) (put S p (.lst (xs ++ ys)))
  | _, _ => False
def mtCount : RMm := fun d ds S Q => match ds with
  | [.bl k] => match (lstOf S d).bind blsOf with
    | some bs => Q (.int (bs.count k : Nat)) S
    | none => False
  | _ => False
end
theorem l_mRaise {C : Str} {D : MEnds} {σ : MSt} {S : Sto} : mRaise C D σ S = D.ex ⟨C, none⟩ σ S := Eq.trans rfl rfl
def TryP (x : MX) (σ : MSt) (S : Sto) (ns : List Str) (c : Str) (i : Nat) [ms : Hold MS] [De : Hold MEnds] : Prop := x.C ∈ ns ∧ (subE x.C c = true → ∀ p, S p = none → ms.v (endM De.v i) (σ.set i (some (.ref p))) (put S p (.exc x.C x.fs))) ∧ (subE x.C c = false → De.v.ex x σ S)
theorem l_mTry {ns : List Str} {c : Str} {i : Nat} {mb ms : MS} {D : MEnds} {σ : MSt} {S : Sto} : mTry ns c i mb ms D σ S = mb { D with ex := fun x σ' S' => @TryP x σ' S' ns c i ⟨ms⟩ ⟨D⟩ } σ S := Eq.trans rfl rfl
theorem l_mIsE {ns : List Str} {x : Str} {m : ME} {σ : MSt} {S : Sto} {Q : MQ} {E : MXQ} : mIsE ns x m σ S Q E = m σ S (fun d S1 => optP (excD S1 d) fun C => C ∈ ns ∧ Q (.bl (subE C x)) S1) E := by
  unfold mIsE optP OptP
  apply congrArg (fun f => m σ S f E)
  funext d S1
  cases excD S1 d <;> rfl
theorem l_mIsV {ns : List Str} {m : ME} {σ : MSt} {S : Sto} {Q : MQ} {E : MXQ} : mIsV ns m σ S Q E = m σ S (fun d S1 => optP (excD S1 d) fun C => C ∈ ns ∧ Q (.bl true) S1) E := by
  unfold mIsV optP OptP
  apply congrArg (fun f => m σ S f E)
  funext d S1
  cases excD S1 d <;> rfl
theorem excD_ref {S : Sto} {p : Addr} : excD S (.ref p) = excOf (S p) := Eq.trans rfl rfl
theorem excOf_exc {C : Str} : excOf (some (.exc C none)) = some C := Eq.trans rfl rfl
theorem l_rAddS_rl {p : Addr} {ys : List D} {S : Sto} {Q : MQ} : rAddS (.ref p) (.lst ys) S Q = optP (olP (S p)) fun xs => xs.length + ys.length ≤ sizeLine ∧ ∀ q, S q = none → Q (.ref q) (put S q (.lst (xs ++ ys))) := by
  simp only [rAddS, ownOf_ref', ownOf_lst, optP, OptP]
  cases olP (S p) <;> rfl
theorem l_rAddS_ll {xs ys : List D} {S : Sto} {Q : MQ} : rAddS (.lst xs) (.lst ys) S Q = (xs.length + ys.length ≤ sizeLine ∧ ∀ q, S q = none → Q (.ref q) (put S q (.lst (xs ++ ys)))) := Eq.trans rfl rfl
theorem l_mtCount {d : D} {k : Bool} {S : Sto} {Q : MQ} : mtCount d [.bl k] S Q = optP ((lstOf S d).bind blsOf) fun bs => Q (.int (bs.count k : Nat)) S := by
  simp only [mtCount, optP, OptP]
  cases (lstOf S d).bind blsOf <;> rfl
theorem blsOf_nil : blsOf [] = some [] := Eq.trans rfl rfl
theorem blsOf_cons {b : Bool} {r : List D} : blsOf (.bl b :: r) = (blsOf r).map (b :: ·) := Eq.trans rfl rfl
theorem endM_nx {De : MEnds} {i : Nat} {σ : MSt} {S : Sto} : (endM De i).nx σ S = De.nx (σ.set i none) S := Eq.trans rfl rfl
theorem endM_rt {De : MEnds} {i : Nat} : (endM De i).rt = De.rt := Eq.trans rfl rfl
theorem exn_SpotError : (("SpotError" : Str) ∈ (["SpotError", "NoFraction", "NoWall", "TooMany", "Crossing", "Absent", "NoText", "NoRow"] : List Str)) = True := eq_true (by decide)
theorem sub_SpotError_SpotError : subE "SpotError" "SpotError" = true := by decide
theorem sub_SpotError_NoFraction : subE "SpotError" "NoFraction" = false := by decide
theorem sub_SpotError_NoWall : subE "SpotError" "NoWall" = false := by decide
theorem sub_SpotError_TooMany : subE "SpotError" "TooMany" = false := by decide
theorem sub_SpotError_Crossing : subE "SpotError" "Crossing" = false := by decide
theorem sub_SpotError_Absent : subE "SpotError" "Absent" = false := by decide
theorem sub_SpotError_NoText : subE "SpotError" "NoText" = false := by decide
theorem sub_SpotError_NoRow : subE "SpotError" "NoRow" = false := by decide
theorem exn_NoFraction : (("NoFraction" : Str) ∈ (["SpotError", "NoFraction", "NoWall", "TooMany", "Crossing", "Absent", "NoText", "NoRow"] : List Str)) = True := eq_true (by decide)
theorem sub_NoFraction_SpotError : subE "NoFraction" "SpotError" = true := by decide
theorem sub_NoFraction_NoFraction : subE "NoFraction" "NoFraction" = true := by decide
theorem sub_NoFraction_NoWall : subE "NoFraction" "NoWall" = false := by decide
theorem sub_NoFraction_TooMany : subE "NoFraction" "TooMany" = false := by decide
theorem sub_NoFraction_Crossing : subE "NoFraction" "Crossing" = false := by decide
theorem sub_NoFraction_Absent : subE "NoFraction" "Absent" = false := by decide
theorem sub_NoFraction_NoText : subE "NoFraction" "NoText" = false := by decide
theorem sub_NoFraction_NoRow : subE "NoFraction" "NoRow" = false := by decide
theorem exn_NoWall : (("NoWall" : Str) ∈ (["SpotError", "NoFraction", "NoWall", "TooMany", "Crossing", "Absent", "NoText", "NoRow"] : List Str)) = True := eq_true (by decide)
theorem sub_NoWall_SpotError : subE "NoWall" "SpotError" = true := by decide
theorem sub_NoWall_NoFraction : subE "NoWall" "NoFraction" = false := by decide
theorem sub_NoWall_NoWall : subE "NoWall" "NoWall" = true := by decide
theorem sub_NoWall_TooMany : subE "NoWall" "TooMany" = false := by decide
theorem sub_NoWall_Crossing : subE "NoWall" "Crossing" = false := by decide
theorem sub_NoWall_Absent : subE "NoWall" "Absent" = false := by decide
theorem sub_NoWall_NoText : subE "NoWall" "NoText" = false := by decide
theorem sub_NoWall_NoRow : subE "NoWall" "NoRow" = false := by decide
theorem exn_TooMany : (("TooMany" : Str) ∈ (["SpotError", "NoFraction", "NoWall", "TooMany", "Crossing", "Absent", "NoText", "NoRow"] : List Str)) = True := eq_true (by decide)
theorem sub_TooMany_SpotError : subE "TooMany" "SpotError" = true := by decide
theorem sub_TooMany_NoFraction : subE "TooMany" "NoFraction" = false := by decide
theorem sub_TooMany_NoWall : subE "TooMany" "NoWall" = false := by decide
theorem sub_TooMany_TooMany : subE "TooMany" "TooMany" = true := by decide
theorem sub_TooMany_Crossing : subE "TooMany" "Crossing" = false := by decide
theorem sub_TooMany_Absent : subE "TooMany" "Absent" = false := by decide
theorem sub_TooMany_NoText : subE "TooMany" "NoText" = false := by decide
theorem sub_TooMany_NoRow : subE "TooMany" "NoRow" = false := by decide
theorem exn_Crossing : (("Crossing" : Str) ∈ (["SpotError", "NoFraction", "NoWall", "TooMany", "Crossing", "Absent", "NoText", "NoRow"] : List Str)) = True := eq_true (by decide)
theorem sub_Crossing_SpotError : subE "Crossing" "SpotError" = true := by decide
theorem sub_Crossing_NoFraction : subE "Crossing" "NoFraction" = false := by decide
theorem sub_Crossing_NoWall : subE "Crossing" "NoWall" = false := by decide
theorem sub_Crossing_TooMany : subE "Crossing" "TooMany" = false := by decide
theorem sub_Crossing_Crossing : subE "Crossing" "Crossing" = true := by decide
theorem sub_Crossing_Absent : subE "Crossing" "Absent" = false := by decide
theorem sub_Crossing_NoText : subE "Crossing" "NoText" = false := by decide
theorem sub_Crossing_NoRow : subE "Crossing" "NoRow" = false := by decide
theorem exn_Absent : (("Absent" : Str) ∈ (["SpotError", "NoFraction", "NoWall", "TooMany", "Crossing", "Absent", "NoText", "NoRow"] : List Str)) = True := eq_true (by decide)
theorem sub_Absent_SpotError : subE "Absent" "SpotError" = true := by decide
theorem sub_Absent_NoFraction : subE "Absent" "NoFraction" = false := by decide
theorem sub_Absent_NoWall : subE "Absent" "NoWall" = false := by decide
theorem sub_Absent_TooMany : subE "Absent" "TooMany" = false := by decide
theorem sub_Absent_Crossing : subE "Absent" "Crossing" = false := by decide
theorem sub_Absent_Absent : subE "Absent" "Absent" = true := by decide
theorem sub_Absent_NoText : subE "Absent" "NoText" = false := by decide
theorem sub_Absent_NoRow : subE "Absent" "NoRow" = false := by decide
theorem exn_NoText : (("NoText" : Str) ∈ (["SpotError", "NoFraction", "NoWall", "TooMany", "Crossing", "Absent", "NoText", "NoRow"] : List Str)) = True := eq_true (by decide)
theorem sub_NoText_SpotError : subE "NoText" "SpotError" = true := by decide
theorem sub_NoText_NoFraction : subE "NoText" "NoFraction" = false := by decide
theorem sub_NoText_NoWall : subE "NoText" "NoWall" = false := by decide
theorem sub_NoText_TooMany : subE "NoText" "TooMany" = false := by decide
theorem sub_NoText_Crossing : subE "NoText" "Crossing" = false := by decide
theorem sub_NoText_Absent : subE "NoText" "Absent" = false := by decide
theorem sub_NoText_NoText : subE "NoText" "NoText" = true := by decide
theorem sub_NoText_NoRow : subE "NoText" "NoRow" = false := by decide
theorem exn_NoRow : (("NoRow" : Str) ∈ (["SpotError", "NoFraction", "NoWall", "TooMany", "Crossing", "Absent", "NoText", "NoRow"] : List Str)) = True := eq_true (by decide)
theorem sub_NoRow_SpotError : subE "NoRow" "SpotError" = true := by decide
theorem sub_NoRow_NoFraction : subE "NoRow" "NoFraction" = false := by decide
theorem sub_NoRow_NoWall : subE "NoRow" "NoWall" = false := by decide
theorem sub_NoRow_TooMany : subE "NoRow" "TooMany" = false := by decide
theorem sub_NoRow_Crossing : subE "NoRow" "Crossing" = false := by decide
theorem sub_NoRow_Absent : subE "NoRow" "Absent" = false := by decide
theorem sub_NoRow_NoText : subE "NoRow" "NoText" = false := by decide
theorem sub_NoRow_NoRow : subE "NoRow" "NoRow" = true := by decide
end ML
set_option maxRecDepth 100000
namespace ML
open PySem PySem.Spec L2
open PyProof.Rows hiding St
section
variable {X : Cx} {W : WX} {e o : Expr} {es : List Expr} {pos : Pos} {m mo mv : ME} {mas : MA}
def mListR (m : ME) : ME := fun σ S Q E => m σ S (fun d S1 => match d with
  | .int n => (0 ≤ n ∧ n ≤ 16777216) ∧ Q (.lst (rngD 0 n.toNat)) S1
  | _ => False) E
theorem l_mListR {σ : MSt} {S : Sto} {Q : MQ} {E : MXQ} : mListR m σ S Q E = m σ S (fun d S1 => match d with
  | .int n => (0 ≤ n ∧ n ≤ 16777216) ∧ Q (.lst (rngD 0 n.toNat)) S1
  | _ => False) E := Eq.trans rfl rfl
def keyD : D → Option Key
  | .int i => some (.inl i)
  | .str x => some (.inr x)
  | _ => none
def keysD : List D → Option (List Key)
  | [] => some []
  | d :: r => match keyD d, keysD r with
    | some k, some ks => some (k :: ks)
    | _, _ => none
def valD {κ : Type} [DecidableEq κ] (kvs : List (κ × D)) (k : κ) : Option D := (kvs.find? fun kv => decide (kv.1 = k)).map (·.2)
def putD {κ : Type} [DecidableEq κ] (kvs : List (κ × D)) (k : κ) (v : D) : List (κ × D) :=
  if (kvs.any fun kv => decide (kv.1 = k)) = true then kvs.map (fun kv => if kv.1 = k then (kv.1, v) else kv) else kvs ++ [(k, v)]
theorem RKs.any {κ : Type} {K : PySem.W.Frag} {H : Hp} {S : Sto} (f : κ → Bool) : ∀ {vs : List (κ × V)} {ds : List (κ × D)}, RKs K H S vs ds → (vs.any fun kv => f kv.1) = ds.any fun kv => f kv.1
  | _, _, .nil => rfl
  | _, _, .cons _ r => by rw [List.any_cons, List.any_cons, RKs.any f r]
theorem RKs.valV {κ : Type} [DecidableEq κ] {K : PySem.W.Frag} {H : Hp} {S : Sto} (k : κ) : ∀ {vs : List (κ × V)} {ds : List (κ × D)}, RKs K H S vs ds → (L2.valV vs k).isSome = (valD ds k).isSome
  | _, _, .nil => rfl
  | _, _, .cons (k := j) h r => by
    have ih := RKs.valV k r
    unfold L2.valV valD at *
    rw [List.find?_cons, List.find?_cons]
    by_cases e : j = k
    · simp [e]
    · simpa [e] using ih
def dtO : Option MO → Option (List (List Key × D))
  | some (.dT k) => some k
  | _ => none
def dtD (S : Sto) : D → Option (List (List Key × D))
  | .ref p => dtO (S p)
  | _ => none
theorem dtO_dT {kvs : List (List Key × D)} : dtO (some (.dT kvs)) = some kvs := Eq.trans rfl rfl
theorem dtD_ref {S : Sto} {p : Addr} : dtD S (.ref p) = dtO (S p) := Eq.trans rfl rfl
def mDNew : ME := fun _ S Q _ => ∀ p, S p = none → Q (.ref p) (put S p (.dT []))
def mDIn (neg : Bool) (t : MA) (mo : ME) : ME := fun σ S Q E => t σ S (fun ds S1 => ds.length ≤ sizeLine ∧ mo σ S1 (fun d S2 => optP (keysD ds) fun ks => optP (dtD S2 d) fun kvs => Q (.bl (if neg then !(valD kvs ks).isSome else (valD kvs ks).isSome)) S2) E) E
def mDPut (mv mo : ME) (t : MA) : MS := fun De σ S => mv σ S (fun v S1 => mo σ S1 (fun d S2 => t σ S2 (fun ds S3 => ds.length ≤ sizeLine ∧ optP (keysD ds) fun ks => match d with
  | .ref p => optP (dtO (S3 p)) fun kvs => kvs.length < sizeLine ∧ Go De.nx σ (put S3 p (.dT (putD kvs ks v)))
  | _ => False) (xAt De σ)) (xAt De σ)) (xAt De σ)
theorem l_mDIn {neg : Bool} {σ : MSt} {S : Sto} {Q : MQ} {E : MXQ} : mDIn neg mas mo σ S Q E = mas σ S (fun ds S1 => ds.length ≤ sizeLine ∧ mo σ S1 (fun d S2 => optP (keysD ds) fun ks => optP (dtD S2 d) fun kvs => Q (.bl (if neg then !(valD kvs ks).isSome else (valD kvs ks).isSome)) S2) E) E := Eq.trans rfl rfl
theorem l_mDPut {De : MEnds} {σ : MSt} {S : Sto} : mDPut mv mo mas De σ S = mv σ S (fun v S1 => mo σ S1 (fun d S2 => mas σ S2 (fun ds S3 => ds.length ≤ sizeLine ∧ optP (keysD ds) fun ks => match d with
  | .ref p => optP (dtO (S3 p)) fun kvs => kvs.length < sizeLine ∧ Go De.nx σ (put S3 p (.dT (putD kvs ks v)))
  | _ => False) (xAt De σ)) (xAt De σ)) (xAt De σ) := Eq.trans rfl rfl
theorem l_mDNew {σ : MSt} {S : Sto} {Q : MQ} {E : MXQ} : mDNew σ S Q E = ∀ p, S p = none → Q (.ref p) (put S p (.dT [])) := Eq.trans rfl rfl
theorem keysD_nil : keysD [] = some [] := Eq.trans rfl rfl
theorem keysD_int {i : Int} {r : List D} : keysD (.int i :: r) = (keysD r).map (.inl i :: ·) := by
  simp only [keysD, keyD]
  cases keysD r <;> rfl
end
end ML
set_option maxRecDepth 100000
set_option maxHeartbeats 2000000
namespace PySem
open Sem (wp)
open AutoSeq1 (wpAny_loadPart')
section
variable {prog : Program} {w : World} {A : Around} {E : Value → Shared → Prop} {s : Shared}
theorem nextTup_item {it t : Addr} {i : Nat} {items} {x : Value} {Q : Value → Shared → Prop} (hit : s.heap.IsTupleIter it t i) (ht : s.heap.IsTuple t items) (hx : items[i]? = some x) (hQ : ∀ h', h'.IsTupleIter it t (i + 1) → Heap.SameBut it s.heap h' → Q x { s with heap := h' }) : wpAny (model prog w) A (Builtin.SmallTypes.nextOf (.ref it)) Q E s := by
  obtain ⟨o, ho, hc, hd⟩ := id hit; obtain ⟨ol, hol, _, nl, hdl⟩ := ht
  unfold Builtin.SmallTypes.nextOf
  refine wpAny_bind (wpAny_callSpecial?_slot (name := Str.ofString "__next__") hit.typeIs F.slot_tuple_iterator_next (wpAny_call_entry F.slot_tuple_iterator_next hit.typeIs F.entry_tuple_iterator_next ?_ (F.args_tuple_iterator_next_1 _)))
  show wpAny _ _ (field (.ref it) 0 >>= _) _ _ s; refine wpAny_bind (wpAny_field ho hd (x := .ref t) rfl ?_)
  show wpAny _ _ (if (Value.ref t == Value.none) = true then _ else _) _ _ s; rw [if_neg (show ¬ ((Value.ref t == Value.none) = true) from Bool.false_ne_true)]
  show wpAny _ _ (field (.ref it) 1 >>= _) _ _ s; refine wpAny_bind (wpAny_field ho hd (x := .int i 0) rfl ?_)
  show wpAny _ _ (seqItems? (.ref t) >>= _) _ _ s; refine wpAny_bind (wpAny_seqItems hol hdl ?_)
  simp only [Int.toNat_natCast, hx]; refine wpAny_bind (wpAny_setField ho hd (by simp) (wpAny_pure ⟨x, rfl, wpAny_pure (hQ _ ?_ (Heap.SameBut.update ..))⟩))
  exact ⟨_, Heap.get?_update_self _ ho (Obj.isFreed_of_fields (Obj.data_mapFields hd _)), (Obj.cls_mapFields ..).trans hc, by rw [Obj.data_mapFields hd]; simp [rawInt]⟩
theorem nextTup_end {it t : Addr} {i : Nat} {items} {Q : Value → Shared → Prop} (hh : A.handled = none) (hit : s.heap.IsTupleIter it t i) (ht : s.heap.IsTuple t items) (hx : items[i]? = none)
    (hE : ∀ h' e, Heap.ExtBut it s.heap h' → (∃ o, h'.get? e = some o ∧ o.cls = .type "StopIteration") → E (.ref e) { s with heap := h' }) : wpAny (model prog w) A (Builtin.SmallTypes.nextOf (.ref it)) Q E s := by
  obtain ⟨o, ho, hc, hd⟩ := id hit; obtain ⟨ol, hol, _, nl, hdl⟩ := ht
  unfold Builtin.SmallTypes.nextOf
  refine wpAny_bind (wpAny_callSpecial?_slot (name := Str.ofString "__next__") hit.typeIs F.slot_tuple_iterator_next (wpAny_call_entry F.slot_tuple_iterator_next hit.typeIs F.entry_tuple_iterator_next ?_ (F.args_tuple_iterator_next_1 _)))
  show wpAny _ _ (field (.ref it) 0 >>= _) _ _ s; refine wpAny_bind (wpAny_field ho hd (x := .ref t) rfl ?_)
  show wpAny _ _ (if (Value.ref t == Value.none) = true then _ else _) _ _ s; rw [if_neg (show ¬ ((Value.ref t == Value.none) = true) from Bool.false_ne_true)]
  show wpAny _ _ (field (.ref it) 1 >>= _) _ _ s; refine wpAny_bind (wpAny_field ho hd (x := .int i 0) rfl ?_)
  show wpAny _ _ (seqItems? (.ref t) >>= _) _ _ s; refine wpAny_bind (wpAny_seqItems hol hdl ?_)
  simp only [Int.toNat_natCast, hx]; refine wpAny_bind (wpAny_rule (wpAny_bind (wpAny_setField ho hd (by simp) ?_)))
  show wpAny _ _ (newExc (.type "StopIteration") [] >>= _) _ _ _; refine wpAny_bind ?_
  simp only [newExc, newTuple]; refine wpAny_bind (wpAny_newObj_type ?_ (by size_fits))
  refine wpAny_bind (m := firstArgMember _ _) (wpAny_of_eq (a := Value.none) (by first | rfl | (simp only [firstArgMember]; rfl)) ?_); refine wpAny_newObj_type ?_ (by size_fits)
  simp only [raiseNew]; refine wpAny_bind (wpAny_handled ?_)
  first | rw [show A.in1.handled = none from hh] | rw [hh]
  refine wpAny_bind (wpAny_pure (wpAny_throw ?_)); exact hE _ _ (((Heap.SameBut.update ..).extBut.push _).push _) ⟨_, Heap.get?_push_size _ rfl, rfl⟩
end
theorem Draws.tup {prog : Program} {w : World} {A : Around} (hh : A.handled = none) (it t : Addr) (hne : t ≠ it) (items : Array Value) : Draws prog w A it [it, t] items.size (fun i v => items[i]? = some v) (fun i h => h.IsTupleIter it t i ∧ h.IsTuple t items) where
  live := fun _ _ st => let ⟨o, ho, _⟩ := st.1; ⟨o, ho⟩
  frame := fun _ _ _ st hk => ⟨let ⟨o, ho, r⟩ := st.1; ⟨o, hk it (by simp) o ho, r⟩, let ⟨o, ho, r⟩ := st.2; ⟨o, hk t (by simp) o ho, r⟩⟩
  item := fun i s Q E hi st hQ => nextTup_item st.1 st.2 (x := items[i]) (by simp [hi]) fun h' hit' hs' => hQ _ h' s.toks (by simp [hi]) ⟨hit', let ⟨o, ho, r⟩ := st.2; ⟨o, hs'.extBut _ _ hne ho, r⟩⟩ hs'
  done := fun s Q E st hE => nextTup_end hh st.1 st.2 (by simp) hE
end PySem
namespace L2
open PySem PySem.Spec PyProof.Rows
end L2
namespace ML
open PySem PySem.Spec L2
open PyProof.Rows hiding St
section
variable {X : Cx} {W : WX} {e : Expr} {pos : Pos}
def iEnT (t : MA) : MI := fun σ S R E => t σ S (fun ds S1 => match ds with
  | [d] => match tupOf d with
    | some xs => R (enumD xs) (fun _ => True) S1
    | none => False
  | _ => False) E
theorem l_iEnT {mas : MA} {σ : MSt} {S : Sto} {R : List D → (Sto → Prop) → Sto → Prop} {E : MXQ} : iEnT mas σ S R E = mas σ S (fun ds S1 => match ds with
  | [d] => optP (tupOf d) fun xs => R (enumD xs) (fun _ => True) S1
  | _ => False) E := by
  unfold iEnT optP OptP
  apply congrArg (fun f => mas σ S f E)
  funext ds S1
  rcases ds with _ | ⟨d, _ | ⟨_, _⟩⟩
  · rfl
  · cases h : tupOf d with
    | none => simp only [h]
    | some x => simp only [h]
  · rfl
def bSortSet : List D → Sto → MQ → Prop := fun ds S Q => ∃ (d : D) (us : List U2), ds = [d] ∧ lstOf S d = some (us.map uD) ∧ us.length < 64 ∧ (∀ u ∈ us, 0 ≤ u.1 ∧ u.1 < 1048576 ∧ 0 ≤ u.2 ∧ u.2 < 1048576) ∧
  ∀ vs : List U2, vs.Nodup → (∀ u, u ∈ vs ↔ u ∈ us) → vs.Pairwise ule → Q (.lst (vs.map uD)) S
def mSortSet (m : ME) : ME := fun σ S Q E => m σ S (fun d S1 => bSortSet [d] S1 Q) E
def SortSetP (ds : List D) (S : Sto) [Q : Hold MQ] : Prop := bSortSet ds S Q.v
theorem l_mSortSet {m : ME} {σ : MSt} {S : Sto} {Q : MQ} {E : MXQ} : mSortSet m σ S Q E = m σ S (fun d S1 => @SortSetP [d] S1 ⟨Q⟩) E := Eq.trans rfl rfl
end
end ML
set_option maxRecDepth 100000
set_option maxHeartbeats 2000000
namespace L2
open PySem PySem.Spec PyProof.Rows
end L2
namespace ML
open PySem PySem.Spec L2
open PyProof.Rows hiding St
section
variable {X : Cx} {W : WX} {e : Expr} {pos : Pos} {m : ME}
def mRev2 (m : ME) : ME := fun σ S Q E => m σ S (fun d S1 => match tupOf d with
  | some [x, y] => Q (.tup [y, x]) S1
  | _ => False) E
theorem l_mRev2 {σ : MSt} {S : Sto} {Q : MQ} {E : MXQ} : mRev2 m σ S Q E = m σ S (fun d S1 => match tupOf d with
  | some [x, y] => Q (.tup [y, x]) S1
  | _ => False) E := Eq.trans rfl rfl
def intsOf : List D → Option (List Int)
  | [] => some []
  | .int i :: r => (intsOf r).map (i :: ·)
  | _ :: _ => none
def bSum : List D → Sto → MQ → Prop := fun ds S Q => match ds with
  | [d] => optP ((lstOf S d).bind intsOf) fun ns => Q (.int ns.sum) S
  | _ => False
theorem l_bSum {d : D} {S : Sto} {Q : MQ} : bSum [d] S Q = optP ((lstOf S d).bind intsOf) fun ns => Q (.int ns.sum) S := Eq.trans rfl rfl
end
end ML
set_option maxRecDepth 100000
namespace ML
open PySem PySem.Spec L2
open PyProof.Rows hiding St
theorem nkey_inj {a b : K4} (h : nkey a = nkey b) : a = b := by
  obtain ⟨⟨a1, a2⟩, a3, a4⟩ := a
  obtain ⟨⟨b1, b2⟩, b3, b4⟩ := b
  simp only [nkey] at h
  injection h with h
  injection h with h1 h2
  injection h2 with h2 _
  injection h1 with h1
  injection h2 with h2
  injection h1 with h1 h3
  injection h2 with h2 h4
  injection h3 with h3 _
  injection h4 with h4 _
  injection h1 with h1
  injection h2 with h2
  injection h3 with h3
  injection h4 with h4
  rw [h1, h2, h3, h4]
theorem nkey_depth (k : K4) : (nkey k).depth ≤ 8 := by
  simp only [nkey, NestedKey.depth, NestedKey.depthAll]; decide
theorem nkey_hash (w : World) (k : K4) : (nkey k).hash w = hash4 k := by
  simp only [nkey, hash4, NestedKey.hash, NestedKey.hashes]
def spotKind (prog : Program) (w : World) : HeapKind prog w K4 where
  is := fun h k a => (nestedKind prog w).is h (nkey k) a
  hash := hash4
  draws := fun k => (nestedKind prog w).draws (nkey k)
  room := fun A => (nestedKind prog w).room A
  inj := fun hx hy => nkey_inj ((nestedKind prog w).inj hx hy)
  keeps := fun x ho hd hs => (nestedKind prog w).keeps x ho hd hs
  pyHash := fun {A E s k a Q} hu hk h => (nestedKind prog w).pyHash hu hk (by
    show Q (NestedKey.hash w (nkey k)) _
    rw [nkey_hash]; exact h)
  eqBool := fun {A E s x y a b Q} hu hx hy h => (nestedKind prog w).eqBool hu hx hy (by
    have e : decide (nkey x = nkey y) = decide (x = y) := by
      rw [decide_eq_decide]; exact ⟨nkey_inj, fun z => by rw [z]⟩
    rw [e]; exact h)
  quiet := fun {A E s k a Q} hk h => (nestedKind prog w).quiet hk h
def KeyV (K : PySem.W.Frag) (H : Hp) (k : K4) (v : V) : Prop := ∃ p p1 p2, v = .ref p ∧ SqT K H p [.ref p1, .ref p2] ∧ SqT K H p1 [.int k.1.1, .int k.1.2] ∧ SqT K H p2 [.int k.2.1, .int k.2.2]
section
variable {X : Cx} {pins : List (Addr × Obj)} {σ : L2.St} {H : Hp} {s : Shared} {a p : Addr} {k : K4} {A : Around} {E : Value → Shared → Prop}
theorem two_at {a b : V} {its : List Value} (r : Vals [a, b] its) : ∃ u v, its = [u, v] ∧ RelV a u ∧ RelV b v := by
  cases r with
  | cons r1 r => cases r with
    | cons r2 r => cases r; exact ⟨_, _, rfl, r1, r2⟩
theorem ints_is (I : Inv X pins σ H s) {i j : Int} (h : SqT X.K H p [.int i, .int j]) : NestedIs s.heap (.tup [.num i, .num j]) (.ref p) := by
  obtain ⟨its, r, ⟨o, e1, e2, n, e3⟩, _⟩ := I.tuple h
  obtain ⟨u, v, rfl, r1, r2⟩ := two_at r
  obtain ⟨t1, rfl⟩ := r1
  obtain ⟨t2, rfl⟩ := r2
  exact .tup e1 e2 e3 (.cons (.int _ _) (.cons (.int _ _) .nil))
theorem key_is (I : Inv X pins σ H s) (h : KeyV X.K H k (.ref p)) : (spotKind X.prog X.w).is s.heap k p := by
  obtain ⟨p', p1, p2, e, h0, h1, h2⟩ := h
  cases e
  obtain ⟨its, r, ⟨o, e1, e2, n, e3⟩, _⟩ := I.tuple h0
  obtain ⟨u, v, rfl, r1, r2⟩ := two_at r
  obtain rfl : u = Value.ref p1 := r1
  obtain rfl : v = Value.ref p2 := r2
  exact ⟨.tup e1 e2 e3 (.cons (ints_is I h1) (.cons (ints_is I h2) .nil)), nkey_depth k⟩
structure DSat (K : PySem.W.Frag) (H : Hp) (a : Addr) (xs : List (K4 × Addr × Value)) : Prop where
  at' : H a = some (DicS xs a)
  sys : (a == sysModules) = false
  key : ∀ x ∈ xs, KeyV K H x.1 (.ref x.2.1)
theorem DSat.of (I : Inv X pins σ H s) {xs : List (K4 × Addr × Value)} (d : DSat X.K H a xs) : s.heap.DictOfH (spotKind X.prog X.w) a xs := by
  obtain ⟨⟨o, es, ep, h1, h2, h3, h4, h5⟩, _⟩ := I.hok a _ d.at'
  exact ⟨o, es, ep, h1, h2, h3, h4, fun x hx => key_is I (d.key x hx), h5⟩
theorem DSat.type (I : Inv X pins σ H s) {xs : List (K4 × Addr × Value)} (d : DSat X.K H a xs) :
    s.TypeIs (.ref a) "dict" ∧ (∀ b, Value.ref a = .ref b → ∃ ob, s.heap.get? b = some ob ∧ ob.dict = none) := by
  have dd := d.of I
  refine ⟨dd.typeIs, fun b q => ?_⟩
  cases q
  obtain ⟨ob, _, _, h1, h2, _⟩ := dd
  exact ⟨ob, h1, h2.2.1⟩
end
end ML
namespace ML
open PySem PySem.Spec L2
open PyProof.Rows hiding St
def k4Of : D → Option K4
  | .tup [.tup [.int a, .int b], .tup [.int c, .int d]] => some ((a, b), (c, d))
  | _ => none
theorem RD.key {K : PySem.W.Frag} {H : Hp} {S : Sto} {k : K4} {v : V} (r : RD K H S v (k4D k)) : ∃ p, v = .ref p ∧ KeyV K H k v := by
  obtain ⟨a, vs, rfl, h1, r1⟩ := RD.tupSq r
  cases r1 with
  | cons ra r1 => cases r1 with
    | cons rb r1 =>
      cases r1
      obtain ⟨p1, vs1, rfl, h2, r2⟩ := RD.tupSq ra
      obtain ⟨p2, vs2, rfl, h3, r3⟩ := RD.tupSq rb
      cases r2 with
      | cons x1 r2 => cases r2 with
        | cons x2 r2 =>
          cases r2
          cases r3 with
          | cons y1 r3 => cases r3 with
            | cons y2 r3 =>
              cases r3
              cases x1; cases x2; cases y1; cases y2
              exact ⟨a, rfl, a, p1, p2, rfl, h1, h2, h3⟩
def dsO : Option MO → Option (List (K4 × D))
  | some (.dS k) => some k
  | _ => none
def dsD (S : Sto) : D → Option (List (K4 × D))
  | .ref p => dsO (S p)
  | _ => none
theorem dsO_dS {kvs : List (K4 × D)} : dsO (some (.dS kvs)) = some kvs := Eq.trans rfl rfl
theorem dsD_ref {S : Sto} {p : Addr} : dsD S (.ref p) = dsO (S p) := Eq.trans rfl rfl
section
variable {K : PySem.W.Frag} {H : Hp} {S : Sto}
theorem R4.length {kvs : List (K4 × D)} {xs : List (K4 × Addr × Value)} (r : R4 K H S kvs xs) : kvs.length = xs.length := Paired.length r
theorem R4.val (k : K4) : ∀ {kvs : List (K4 × D)} {xs : List (K4 × Addr × Value)}, R4 K H S kvs xs → (∀ v, valD kvs k = some v → ∃ u w, atKey xs k = some u ∧ RelV w u.2 ∧ RD K H S w v) ∧ (valD kvs k = none ↔ atKey xs k = none)
  | _, _, .nil => ⟨fun v h => (by cases h), fun _ => rfl, fun _ => rfl⟩
  | p :: ps, q :: qs, .cons ⟨h1, h2, w, h3, h4⟩ r => by
    have ih := R4.val k r
    unfold valD atKey at *
    rw [List.find?_cons, List.find?_cons]
    by_cases e : p.1 = k
    · have e2 : q.1 = k := h1.symm.trans e
      simp only [e, e2, decide_true]
      exact ⟨fun v hv => by cases hv; exact ⟨_, w, rfl, h3, h4⟩, by simp⟩
    · have e2 : ¬ q.1 = k := fun z => e (h1.trans z)
      simp only [e, e2, decide_false]
      exact ih
end
section
variable {X : Cx} {W : WX} {e o i f : Expr} {pos : Pos} {mo mi mx : ME} {A : Around}
def mSNew : ME := fun _ S Q _ => ∀ p, S p = none → Q (.ref p) (put S p (.dS []))
def mSGet (mo mi : ME) : ME := fun σ S Q E => mo σ S (fun d S1 => mi σ S1 (fun y S2 => optP (k4Of y) fun k => optP (dsD S2 d) fun kvs => optP (valD kvs k) fun v => Q v S2) E) E
def mSSetd (mo mi mx : ME) : ME := fun σ S Q E => mo σ S (fun d S1 => (∃ kvs, dsD S1 d = some kvs) ∧ mi σ S1 (fun y S2 => mx σ S2 (fun z S3 => optP (k4Of y) fun k => match d with
  | .ref p => optP (dsO (S3 p)) fun kvs => kvs.length < sizeLine ∧ (∀ v, valD kvs k = some v → Q v S3) ∧ (valD kvs k = none → Q z (put S3 p (.dS (kvs ++ [(k, z)]))))
  | _ => False) E) E) E
theorem l_mSNew {σ : MSt} {S : Sto} {Q : MQ} {E : MXQ} : mSNew σ S Q E = ∀ p, S p = none → Q (.ref p) (put S p (.dS [])) := Eq.trans rfl rfl
theorem l_mSGet {σ : MSt} {S : Sto} {Q : MQ} {E : MXQ} : mSGet mo mi σ S Q E = mo σ S (fun d S1 => mi σ S1 (fun y S2 => optP (k4Of y) fun k => optP (dsD S2 d) fun kvs => optP (valD kvs k) fun v => Q v S2) E) E := Eq.trans rfl rfl
theorem l_mSSetd {σ : MSt} {S : Sto} {Q : MQ} {E : MXQ} : mSSetd mo mi mx σ S Q E = mo σ S (fun d S1 => (∃ kvs, dsD S1 d = some kvs) ∧ mi σ S1 (fun y S2 => mx σ S2 (fun z S3 => optP (k4Of y) fun k => match d with
  | .ref p => optP (dsO (S3 p)) fun kvs => kvs.length < sizeLine ∧ (∀ v, valD kvs k = some v → Q v S3) ∧ (valD kvs k = none → Q z (put S3 p (.dS (kvs ++ [(k, z)]))))
  | _ => False) E) E) E := Eq.trans rfl rfl
def dkO : Option MO → Option (List (Key × D))
  | some (.dK k) => some k
  | _ => none
def dkD (S : Sto) : D → Option (List (Key × D))
  | .ref p => dkO (S p)
  | _ => none
theorem dkO_dK {kvs : List (Key × D)} : dkO (some (.dK kvs)) = some kvs := Eq.trans rfl rfl
theorem dkD_ref {S : Sto} {p : Addr} : dkD S (.ref p) = dkO (S p) := Eq.trans rfl rfl
theorem RKs.val {κ : Type} [DecidableEq κ] {K : PySem.W.Frag} {H : Hp} {S : Sto} (k : κ) : ∀ {vs : List (κ × V)} {ds : List (κ × D)}, RKs K H S vs ds → ∀ d, valD ds k = some d → ∃ v, L2.valV vs k = some v ∧ RD K H S v d
  | _, _, .nil, d, h => by cases h
  | _, _, .cons (k := j) hr r, d, h => by
    have ih := RKs.val k r d
    unfold L2.valV valD at *
    rw [List.find?_cons] at h ⊢
    by_cases e : j = k
    · simp only [e, decide_true] at h ⊢
      cases h; exact ⟨_, rfl, hr⟩
    · simp only [e, decide_false] at h ⊢
      exact ih h
def mKNew : ME := fun _ S Q _ => ∀ p, S p = none → Q (.ref p) (put S p (.dK []))
def mKIn (neg : Bool) (mi mo : ME) : ME := fun σ S Q E => mi σ S (fun y S1 => mo σ S1 (fun d S2 => optP (keyD y) fun k => optP (dkD S2 d) fun kvs => Q (.bl (if neg then !(valD kvs k).isSome else (valD kvs k).isSome)) S2) E) E
def mKGet (mo mi : ME) : ME := fun σ S Q E => mo σ S (fun d S1 => mi σ S1 (fun y S2 => optP (keyD y) fun k => optP (dkD S2 d) fun kvs => optP (valD kvs k) fun v => Q v S2) E) E
def mKPut (mv mo mi : ME) : MS := fun De σ S => mv σ S (fun v S1 => mo σ S1 (fun d S2 => mi σ S2 (fun y S3 => optP (keyD y) fun k => match d with
  | .ref p => optP (dkO (S3 p)) fun kvs => kvs.length < sizeLine ∧ Go De.nx σ (put S3 p (.dK (putD kvs k v)))
  | _ => False) (xAt De σ)) (xAt De σ)) (xAt De σ)
theorem l_mKNew {σ : MSt} {S : Sto} {Q : MQ} {E : MXQ} : mKNew σ S Q E = ∀ p, S p = none → Q (.ref p) (put S p (.dK [])) := Eq.trans rfl rfl
theorem l_mKIn {neg : Bool} {σ : MSt} {S : Sto} {Q : MQ} {E : MXQ} : mKIn neg mi mo σ S Q E = mi σ S (fun y S1 => mo σ S1 (fun d S2 => optP (keyD y) fun k => optP (dkD S2 d) fun kvs => Q (.bl (if neg then !(valD kvs k).isSome else (valD kvs k).isSome)) S2) E) E := Eq.trans rfl rfl
theorem l_mKGet {σ : MSt} {S : Sto} {Q : MQ} {E : MXQ} : mKGet mo mi σ S Q E = mo σ S (fun d S1 => mi σ S1 (fun y S2 => optP (keyD y) fun k => optP (dkD S2 d) fun kvs => optP (valD kvs k) fun v => Q v S2) E) E := Eq.trans rfl rfl
theorem l_mKPut {mv : ME} {De : MEnds} {σ : MSt} {S : Sto} : mKPut mv mo mi De σ S = mv σ S (fun v S1 => mo σ S1 (fun d S2 => mi σ S2 (fun y S3 => optP (keyD y) fun k => match d with
  | .ref p => optP (dkO (S3 p)) fun kvs => kvs.length < sizeLine ∧ Go De.nx σ (put S3 p (.dK (putD kvs k v)))
  | _ => False) (xAt De σ)) (xAt De σ)) (xAt De σ) := Eq.trans rfl rfl
theorem keyD_i {i : Int} : keyD (.int i) = some (.inl i) := Eq.trans rfl rfl
end
end ML
set_option maxRecDepth 100000
namespace ML
open PySem PySem.Spec L2
open PyProof.Rows hiding St
section
variable {X : Cx}
def bSortI : List D → Sto → MQ → Prop := fun ds S Q => ∃ (d : D) (ns : List Int), ds = [d] ∧ lstOf S d = some (ns.map .int) ∧ ns.length ≤ 10000 ∧
  ∀ ms : List Int, ms.Perm ns → ms.Pairwise (· ≤ ·) → Q (.lst (ms.map .int)) S
end
def SortIP (ds : List D) (S : Sto) [Q : Hold MQ] : Prop := bSortI ds S Q.v
theorem l_bSortI {ds : List D} {S : Sto} {Q : MQ} : bSortI ds S Q = @SortIP ds S ⟨Q⟩ := Eq.trans rfl rfl
def rInB : R2m := fun d e S Q => match d with
  | .bl b => match (lstOf S e).bind blsOf with
    | some bs => Q (.bl (bs.any fun c => c == b)) S
    | none => False
  | _ => False
theorem inV_bls (b : Bool) (bs : List Bool) : inV (.bl b) (bs.map V.bl) = bs.any fun c => c == b := by
  unfold inV
  rw [List.any_map]; rfl
theorem ol_inB {X : Cx} : OpL X.K (rIn X.K false) rInB := fun H S x y d e Qm Q s rx ry h k => by
  cases d with
  | bl b =>
    cases rx
    cases hb : (lstOf S e).bind blsOf with
    | none =>
      have h' : (match (lstOf S e).bind blsOf with
        | some bs => Qm (.bl (bs.any fun c => c == b)) S
        | none => False) := h
      rw [hb] at h'; exact h'.elim
    | some bs =>
      have h' : (match (lstOf S e).bind blsOf with
        | some bs => Qm (.bl (bs.any fun c => c == b)) S
        | none => False) := h
      rw [hb] at h'
      have q : Qm (.bl (bs.any fun c => c == b)) S := h'
      obtain ⟨ds, hl, hd⟩ := Option.bind_eq_some_iff.mp hb
      obtain ⟨a, vs, rfl, hq, rs⟩ := lst_sq s ry hl
      rw [blsOf_eq hd] at rs
      rw [rs.bls] at hq
      refine ⟨a, _, rfl, .inl hq, rfl, by rw [List.all_map]; exact List.all_eq_true.mpr fun _ _ => rfl, ?_⟩
      rw [if_neg (by decide), inV_bls]
      exact k _ S _ H q Ext.refl s (.bl _)
  | _ => exact h.elim
theorem l_rInB {b : Bool} {bs : List Bool} {S : Sto} {Q : MQ} : rInB (.bl b) (.lst (bs.map .bl)) S Q = Q (.bl (bs.any fun c => c == b)) S := by
  simp only [rInB, lstOf, Option.bind_some, blsOf_map]
mutual
inductive Deep (S : Sto) : D → D → Prop
  | same {d : D} : D.plain d = true → Deep S d d
  | ref {p : Addr} {ds es : List D} : S p = some (.lst ds) → Deeps S ds es → Deep S (.ref p) (.lst es)
  | lst {ds es : List D} : Deeps S ds es → Deep S (.lst ds) (.lst es)
  | tup {ds es : List D} : Deeps S ds es → Deep S (.tup ds) (.tup es)
inductive Deeps (S : Sto) : List D → List D → Prop
  | nil : Deeps S [] []
  | cons {d e : D} {ds es : List D} : Deep S d e → Deeps S ds es → Deeps S (d :: ds) (e :: es)
end
def rNeX : R2m := fun d e S Q => ∃ d' e', Deep S d d' ∧ Deep S e e' ∧ (D.plain d' = true ∧ D.plain e' = true ∧ D.dep d' ≤ 64 ∧ D.dep e' ≤ 64) ∧ Q (.bl (!D.deq d' e')) S
def NeXP (d e : D) (S : Sto) [Q : Hold MQ] : Prop := rNeX d e S Q.v
theorem l_rNeX {d e : D} {S : Sto} {Q : MQ} : rNeX d e S Q = @NeXP d e S ⟨Q⟩ := Eq.trans rfl rfl
end ML
set_option maxRecDepth 100000
namespace ML
open PySem PySem.Spec L2
end ML
set_option maxRecDepth 100000
namespace ML
open PySem PySem.Spec L2
end ML
set_option maxRecDepth 100000
namespace ML
open PySem PySem.Spec L2
variable {X : Cx} {W : WX} {A : Around} {o i e f a : Expr} {pos : Pos} {mo mi mx : ME}
def repD (n : Nat) (ds : List D) : List D := (List.replicate n ds).flatten
def rRepS : R2m := fun d e S Q => match ownOf S d, e with
  | some xs, .int k => (0 ≤ k ∧ k < 2 ^ 62 ∧ xs.length * k.toNat ≤ sizeLine) ∧ ∀ p, S p = none → Q (.ref p) (put S p (.lst (repD k.toNat xs)))
  | _, _ => False
theorem l_rRepS_l {xs : List D} {k : Int} {S : Sto} {Q : MQ} : rRepS (.lst xs) (.int k) S Q = ((0 ≤ k ∧ k < 2 ^ 62 ∧ xs.length * k.toNat ≤ sizeLine) ∧ ∀ p, S p = none → Q (.ref p) (put S p (.lst (repD k.toNat xs)))) := Eq.trans rfl rfl
def rInX (neg : Bool) : R2m := fun d e S Q => ∃ (d' : D) (es : List D), Deep S d d' ∧ Deep S e (.lst es) ∧ (D.plain d' = true ∧ D.plains es = true ∧ D.dep d' ≤ 64 ∧ D.deps es ≤ 63) ∧ Q (.bl (if neg then !memD d' es else memD d' es)) S
def InXP (neg : Bool) (d e : D) (S : Sto) [Q : Hold MQ] : Prop := rInX neg d e S Q.v
theorem l_rInX {neg : Bool} {d e : D} {S : Sto} {Q : MQ} : rInX neg d e S Q = @InXP neg d e S ⟨Q⟩ := Eq.trans rfl rfl
def mtIndexX : RMm := fun d ds S Q => match ds with
  | [y] => ∃ (y' : D) (es : List D) (j : Nat), Deep S y y' ∧ Deep S d (.lst es) ∧ (D.plain y' = true ∧ D.plains es = true ∧ D.dep y' ≤ 64 ∧ D.deps es ≤ 63) ∧ idxD y' es = some j ∧ Q (.int (j : Nat)) S
  | _ => False
def IdxXP (d : D) (ds : List D) (S : Sto) [Q : Hold MQ] : Prop := mtIndexX d ds S Q.v
theorem l_mtIndexX {d : D} {ds : List D} {S : Sto} {Q : MQ} : mtIndexX d ds S Q = @IdxXP d ds S ⟨Q⟩ := Eq.trans rfl rfl
end ML
set_option maxRecDepth 100000
namespace ML
open PySem PySem.Spec L2
section
variable {X : Cx}
def bMinU : List D → Sto → MQ → Prop := fun ds S Q => ∃ (d : D) (us : List U2), ds = [d] ∧ lstOf S d = some (us.map uD) ∧ us ≠ [] ∧ ∀ m, m ∈ us → (∀ y ∈ us, ule m y) → Q (uD m) S
def bMaxU : List D → Sto → MQ → Prop := fun ds S Q => ∃ (d : D) (us : List U2), ds = [d] ∧ lstOf S d = some (us.map uD) ∧ us ≠ [] ∧ ∀ m, m ∈ us → (∀ y ∈ us, ule y m) → Q (uD m) S
end
def MinUP (ds : List D) (S : Sto) [Q : Hold MQ] : Prop := bMinU ds S Q.v
def MaxUP (ds : List D) (S : Sto) [Q : Hold MQ] : Prop := bMaxU ds S Q.v
theorem l_bMinU {ds : List D} {S : Sto} {Q : MQ} : bMinU ds S Q = @MinUP ds S ⟨Q⟩ := Eq.trans rfl rfl
theorem l_bMaxU {ds : List D} {S : Sto} {Q : MQ} : bMaxU ds S Q = @MaxUP ds S ⟨Q⟩ := Eq.trans rfl rfl
end ML
set_option maxRecDepth 100000
namespace ML
open PySem PySem.Spec L2
mutual
def D.pb : D → Bool
  | .non => true
  | .bl _ => true
  | .int _ => true
  | .str x => PyData.strOk x
  | .tup ds => D.pbs ds
  | .lst ds => D.pbs ds
  | .scr ds => D.pbs ds
  | .ref _ => false
def D.pbs : List D → Bool
  | [] => true
  | d :: ds => D.pb d && D.pbs ds
end
end ML
set_option maxRecDepth 100000
namespace ML
open PySem PySem.Spec L2
mutual
def D.sml : D → Bool
  | .int i => decide (i.natAbs.log2 < 1920)
  | .tup ds => D.smls ds
  | .lst ds => D.smls ds
  | .scr ds => D.smls ds
  | .str _ => true
  | .non => true
  | .bl _ => true
  | .ref _ => true
def D.smls : List D → Bool
  | [] => true
  | d :: ds => D.sml d && D.smls ds
end
mutual
def D.wt : D → Nat
  | .int _ => 2000
  | .str x => 10 * x.length + 10
  | .tup ds => D.wts ds + 10
  | .lst ds => D.wts ds + 10
  | .scr ds => D.wts ds + 10
  | .non => 10
  | .bl _ => 10
  | .ref _ => 10
def D.wts : List D → Nat
  | [] => 0
  | d :: ds => D.wt d + 2 + D.wts ds
end
mutual
inductive Opn (S : Sto) : D → D → Prop
  | same {d : D} : D.pb d = true → Opn S d d
  | ref {p : Addr} {ds es : List D} : S p = some (.lst ds) → Opns S ds es → Opn S (.ref p) (.lst es)
  | lst {ds es : List D} : Opns S ds es → Opn S (.lst ds) (.lst es)
  | tup {ds es : List D} : Opns S ds es → Opn S (.tup ds) (.tup es)
inductive Opns (S : Sto) : List D → List D → Prop
  | nil : Opns S [] []
  | cons {d e : D} {ds es : List D} : Opn S d e → Opns S ds es → Opns S (d :: ds) (e :: es)
end
def bReprO : List D → Sto → MQ → Prop := fun ds S Q => ∃ d e : D, ds = [d] ∧ Opn S d e ∧ D.dep e ≤ 60 ∧ D.sml e = true ∧ D.wt e ≤ 16000000 ∧ Q (.str (reprD e)) S
def ReprP (ds : List D) (S : Sto) [Q : Hold MQ] : Prop := bReprO ds S Q.v
theorem l_bReprO {ds : List D} {S : Sto} {Q : MQ} : bReprO ds S Q = @ReprP ds S ⟨Q⟩ := Eq.trans rfl rfl
def rEqS : R2m := fun d e S Q => match d, e with
  | .str x, .str y => Q (.bl (decide (x = y))) S
  | _, _ => False
theorem l_rEqS {x y : Str} {S : Sto} {Q : MQ} : rEqS (.str x) (.str y) S Q = Q (.bl (decide (x = y))) S := Eq.trans rfl rfl
end ML
set_option maxRecDepth 100000
namespace L2
open PySem PySem.Spec PyProof.Rows
section
variable {X : Cx} {CX : CXT} {k : Nat} {m : Str} {E : St → XK} {o e : Expr} {es : List Expr} {ta : TE} {t : TA} {pos apos : Pos} {G : Addr → Sp → Prop}
theorem passNo {P : Program} {w : World} (h1 : X.prog = P) (h2 : X.w = w) : Passes (L2.CX P w) X (fun _ _ _ => False) := fun _ _ _ _ _ _ _ ⟨_, _, _, _, _, _, _, _, _, _, _, _, f⟩ => f.elim
end
section
variable {X : Cx} {CX : CXT} {k : Nat} {C f : Addr} {fd : FuncData} {ps : List Str} {sp : Sp} {E : St → XK} {x m : Str} {e : Expr} {es : List Expr} {t : TA} {p apos pos : Pos} {mc : Value}
structure CFun (K : PySem.W.Frag) (C f : Addr) (m : Str) : Prop where
  rd : PySem.W.readsIn K C (.type "type") = true
  ga : PySem.W.specialIn K (.ref C) "__getattribute__" = some (some (.builtin "type.__getattribute__"))
  at_ : PySem.W.findCls K (.ref C) (.type "type") m = some (.val (.ref f))
  kp : PySem.W.keepIn K (.ref f) = true
end
end L2
namespace ML
open PySem PySem.Spec L2
open PyProof.Rows hiding St
def insO : Option MO → Option (Str × List (Str × D))
  | some (.ins C fs) => some (C, fs)
  | _ => none
def insD (S : Sto) : D → Option (Str × List (Str × D))
  | .ref p => insO (S p)
  | _ => none
def putL (f : Str) (v : D) : List (Str × D) → List (Str × D)
  | [] => [(f, v)]
  | (g, x) :: r => if g = f then (g, v) :: r else (g, x) :: putL f v r
section
variable {X : Cx} {W : WX} {o e value : Expr} {es : List Expr} {pos pos' apos : Pos} {m mo mv : ME} {mas : MA} {f : Str}
def mFld (ns : List Str) (f : Str) (m : ME) : ME := fun σ S Q E => m σ S (fun d S1 => optP (insD S1 d) fun x => x.1 ∈ ns ∧ optP (x.2.lookup f) fun v => Q v S1) E
def mFldS (ns : List Str) (f : Str) (mv mo : ME) : MS := fun De σ S => mv σ S (fun y S1 => mo σ S1 (fun d S2 => match d with
  | .ref p => optP (insO (S2 p)) fun x => (x.1 ∈ ns ∧ x.2.length < 900) ∧ De.nx σ (put S2 p (.ins x.1 (putL f y x.2)))
  | _ => False) (xAt De σ)) (xAt De σ)
structure HasM (P : Program) (w : World) (K : PySem.W.Frag) (mg : Str → Option Value) (base : Heap) (C m : Str) (k : Nat) (sp : MSp) : Prop where
  ex : ∃ f fd ps, Cls K (He.ga K C) ∧ Meth K (He.ga K C) m f ∧ Binds K fd ps [] ∧ FnOk P w K mg base (L2.CX P w) k f fd ps (upSp K sp)
theorem HasM.mono {P : Program} {w : World} {K : PySem.W.Frag} {mg : Str → Option Value} {base : Heap} {C m : Str} {j k : Nat} {sp : MSp} (h : HasM P w K mg base C m j sp) (l : j ≤ k) : HasM P w K mg base C m k sp :=
  let ⟨f, fd, ps, a, b, c, d⟩ := h.ex
  ⟨f, fd, ps, a, b, c, d.mono l⟩
def mMeth (n : Str) (tbl : List (Str × MSp)) (mo : ME) (t : MA) : ME := fun σ S Q E => mo σ S (fun d S1 => ∃ C fs sp, insD S1 d = some (C, fs) ∧ fs.lookup n = none ∧ (C, sp) ∈ tbl ∧ t σ S1 (fun ds S2 => sp (d :: ds) S2 Q E) E) E
structure HasMk (P : Program) (w : World) (K : PySem.W.Frag) (mg : Str → Option Value) (base : Heap) (C : Str) (k : Nat) (sp : MSp) : Prop where
  ex : ∃ f fd ps, mg C = some (.ref (He.ga K C)) ∧ Mk K (He.ga K C) f ∧ Binds K fd ps [] ∧ FnOk P w K mg base (L2.CX P w) k f fd ps (upSp K sp)
theorem HasMk.mono {P : Program} {w : World} {K : PySem.W.Frag} {mg : Str → Option Value} {base : Heap} {C : Str} {j k : Nat} {sp : MSp} (h : HasMk P w K mg base C j sp) (l : j ≤ k) : HasMk P w K mg base C k sp :=
  let ⟨f, fd, ps, a, b, c, d⟩ := h.ex
  ⟨f, fd, ps, a, b, c, d.mono l⟩
def mMake (C : Str) (sp : MSp) (t : MA) : ME := fun σ S Q E => t σ S (fun ds S1 => ∀ p, S1 p = none → sp (.ref p :: ds) (put S1 p (.ins C [])) (fun v S2 => v = .non ∧ Q (.ref p) S2) fun _ _ => False) E
structure HasC (P : Program) (w : World) (K : PySem.W.Frag) (mg : Str → Option Value) (base : Heap) (C m : Str) (k : Nat) (sp : MSp) : Prop where
  ex : ∃ f fd ps, mg C = some (.ref (He.ga K C)) ∧ CFun K (He.ga K C) f m ∧ Binds K fd ps [] ∧ FnOk P w K mg base (L2.CX P w) k f fd ps (upSp K sp)
theorem HasC.mono {P : Program} {w : World} {K : PySem.W.Frag} {mg : Str → Option Value} {base : Heap} {C m : Str} {j k : Nat} {sp : MSp} (h : HasC P w K mg base C m j sp) (l : j ≤ k) : HasC P w K mg base C m k sp :=
  let ⟨f, fd, ps, a, b, c, d⟩ := h.ex
  ⟨f, fd, ps, a, b, c, d.mono l⟩
end
theorem insD_ref {S : Sto} {p : Addr} : insD S (.ref p) = insO (S p) := Eq.trans rfl rfl
theorem insO_ins {C : Str} {fs : List (Str × D)} : insO (some (.ins C fs)) = some (C, fs) := Eq.trans rfl rfl
theorem l_mFld {ns : List Str} {f : Str} {m : ME} {σ : MSt} {S : Sto} {Q : MQ} {E : MXQ} : mFld ns f m σ S Q E = m σ S (fun d S1 => optP (insD S1 d) fun x => x.1 ∈ ns ∧ optP (x.2.lookup f) fun v => Q v S1) E := Eq.trans rfl rfl
theorem l_mFldS {ns : List Str} {f : Str} {mv mo : ME} {De : MEnds} {σ : MSt} {S : Sto} : mFldS ns f mv mo De σ S = mv σ S (fun y S1 => mo σ S1 (fun d S2 => match d with
  | .ref p => optP (insO (S2 p)) fun x => (x.1 ∈ ns ∧ x.2.length < 900) ∧ Go De.nx σ (put S2 p (.ins x.1 (putL f y x.2)))
  | _ => False) (xAt De σ)) (xAt De σ) := Eq.trans rfl rfl
def MethP (d : D) (n : Str) (tbl : List (Str × MSp)) (σ : MSt) (S : Sto) [t : Hold MA] [Q : Hold MQ] [E : Hold MXQ] : Prop := ∃ C fs sp, insD S d = some (C, fs) ∧ fs.lookup n = none ∧ (C, sp) ∈ tbl ∧ t.v σ S (fun ds S2 => sp (d :: ds) S2 Q.v E.v) E.v
theorem l_mMeth {n : Str} {tbl : List (Str × MSp)} {mo : ME} {t : MA} {σ : MSt} {S : Sto} {Q : MQ} {E : MXQ} : mMeth n tbl mo t σ S Q E = mo σ S (fun d S1 => @MethP d n tbl σ S1 ⟨t⟩ ⟨Q⟩ ⟨E⟩) E := Eq.trans rfl rfl
theorem l_mMake {C : Str} {sp : MSp} {t : MA} {σ : MSt} {S : Sto} {Q : MQ} {E : MXQ} : mMake C sp t σ S Q E = t σ S (fun ds S1 => ∀ p, S1 p = none → @CallP sp (.ref p :: ds) (put S1 p (.ins C [])) ⟨fun v S2 => v = .non ∧ Q (.ref p) S2⟩ ⟨fun _ _ => False⟩) E := Eq.trans rfl rfl
def cfunB (K : PySem.W.Frag) (p : Str × Str) : Bool := PySem.W.readsIn K (He.ga K p.1) (.type "type") && (decide (PySem.W.specialIn K (.ref (He.ga K p.1)) "__getattribute__" = some (some (.builtin "type.__getattribute__"))) && ((match PySem.W.findCls K (.ref (He.ga K p.1)) (.type "type") p.2 with
  | some (.val u) => decide (u = .ref (He.ma K (He.ga K p.1) p.2))
  | _ => false) && PySem.W.keepIn K (.ref (He.ma K (He.ga K p.1) p.2))))
def cfunsB (cs : List (Str × Str)) (K : PySem.W.Frag) : Bool := cs.all (cfunB K)
end ML
set_option maxRecDepth 100000
set_option maxHeartbeats 2000000
namespace ML
open PySem PySem.Spec L2
open PyProof.Rows hiding St
def oexB (K : PySem.W.Frag) (C : Addr) : Bool := (match K.lookup C with
  | some ⟨.type "type", _, .cls cd, sl⟩ => (match cd.mro, sl.toList with
    | .ref C' :: bm, [_, _, _, _, some (.builtin n), _] => C' == C && n == "ValueError.__new__" && !cd.hasDel && cd.hasDict && PySem.HandSPX.refsVE bm
    | _, _ => false)
  | _ => false) && (decide (PySem.W.findIn K (.ref C) "__setattr__" = some (some (.builtin "object.__setattr__"))) && (decide (PySem.W.subIn K (.ref C) (.type "BaseException") = some true) && (decide (PySem.W.typeIn K (.ref C) = some (.type "type")) && PySem.W.keepIn K (.ref C))))
theorem oexB_ok {K : PySem.W.Frag} {C : Addr} (h : oexB K C = true) : OexC K C := by
  unfold oexB at h
  simp only [Bool.and_eq_true, decide_eq_true_eq] at h
  obtain ⟨q, h2, h3, h4, h5⟩ := h
  refine ⟨?_, h2, h3, h4, h5⟩
  split at q
  · rename_i dd cd sl ho
    split at q
    · rename_i C' bm k0 k1 k2 k3 n k5 hm hs
      simp only [Bool.and_eq_true, beq_iff_eq, Bool.not_eq_true'] at q
      obtain ⟨⟨⟨⟨rfl, rfl⟩, hdel⟩, hdc⟩, ht⟩ := q
      obtain ⟨nm, bs, mro, ns, qn, hd, sn, sub, ab, col, del⟩ := cd
      dsimp only at hm hdel hdc
      subst hm hdel hdc
      have hsl : sl = #[k0, k1, k2, k3, some (.builtin "ValueError.__new__"), k5] := by
        obtain ⟨l⟩ := sl
        simp only at hs
        rw [hs]
      subst hsl
      exact ⟨nm, qn, ns, bs, bm, sn, sub, ab, col, dd, k0, k1, k2, k3, k5, ho, ht⟩
    · cases q
  · cases q
def xinB1 (K : PySem.W.Frag) (x : Str × List Str) : Bool := oexB K (He.ga K x.1) && (xfB K (He.ga K x.1) && (x.2.all (fun f => decide (PySem.W.findIn K (.ref (He.ga K x.1)) f = some none)) && (decide (PySem.W.findIn K (.ref (He.ga K x.1)) "__init__" = some (some (.ref (He.ma K (He.ga K x.1) "__init__")))) && decide (PySem.W.typeIn K (.ref (He.ma K (He.ga K x.1) "__init__")) = some (.type "function")))))
def xinB (xs : List (Str × List Str)) (K : PySem.W.Frag) : Bool := xs.all (xinB1 K)
structure XinC (K : PySem.W.Frag) (C f : Addr) (fs : List Str) : Prop where
  o : OexC K C
  x : XfC K C
  n : ∀ g ∈ fs, PySem.W.findIn K (.ref C) g = some none
  i : PySem.W.findIn K (.ref C) "__init__" = some (some (.ref f))
  t : PySem.W.typeIn K (.ref f) = some (.type "function")
theorem xinB_ok {K : PySem.W.Frag} {xs : List (Str × List Str)} (h : xinB xs K = true) (x : Str × List Str) (hx : x ∈ xs) : XinC K (He.ga K x.1) (He.ma K (He.ga K x.1) "__init__") x.2 := by
  have q := List.all_eq_true.mp h x hx
  unfold xinB1 at q
  simp only [Bool.and_eq_true, decide_eq_true_eq] at q
  obtain ⟨q1, q2, q3, q4, q5⟩ := q
  exact ⟨oexB_ok q1, xfB_ok q2, fun f hf => of_decide_eq_true (List.all_eq_true.mp q3 f hf), q4, q5⟩
end ML
set_option maxRecDepth 100000
set_option maxHeartbeats 2000000
namespace ML
open PySem PySem.Spec L2
open PyProof.Rows hiding St
def refsM (o : Obj) : List Addr := match o.data with
  | .func fd => He.refV fd.code ++ (He.refV fd.defaults ++ He.refV fd.kwdefaults)
  | .cls cd => [cd.ns]
  | .dict es _ => es.toList.flatMap fun e => He.refV e.val
  | _ => []
def layM (g : Addr → Option Obj) (as : List Addr) : List Addr := as.flatMap fun a => match g a with
  | some o => refsM o
  | none => []
def asM (g : Addr → Option Obj) : List Addr := mainGlobals :: cStatics :: (layM g [mainGlobals] ++ (layM g (layM g [mainGlobals]) ++ (layM g (layM g (layM g [mainGlobals])) ++ layM g (layM g (layM g (layM g [mainGlobals]))))))
structure LamOk (K : PySem.W.Frag) (h : Heap) (p : Str × Option Str) : Prop where
  tab : h.get? (tabA K p) = some { cls := .none, data := .fields #[] }
  no : K.lookup (tabA K p) = none
  hd : PySem.W.CodeHd h (codeA K p) (tabA K p)
def lamB (g : Addr → Option Obj) (K : PySem.W.Frag) (p : Str × Option Str) : Bool := (match g (tabA K p) with
  | some ⟨.none, none, .fields vs, sl⟩ => decide (vs.size = 0) && decide (sl.size = 0)
  | _ => false) && ((match K.lookup (tabA K p) with
  | none => true
  | some _ => false) && (match K.lookup (codeA K p) with
  | some ⟨.type "code", _, .fields vs, _⟩ => decide (vs[11]? = some (.ref (tabA K p))) && (decide (vs.getD 11 .none = .ref (tabA K p)) && ((match vs.getD 18 .none with
    | .str _ _ => true
    | _ => false) && ((match vs.getD 7 .none with
    | .int _ _ => true
    | _ => false) && ((match vs.getD 9 .none with
    | .bool _ => true
    | _ => false) && ((match vs.getD 10 .none with
    | .int _ _ => true
    | _ => false) && decide (codeA K p ≠ tabA K p))))))
  | _ => false))
theorem lamB_ok {h : Heap} {K : PySem.W.Frag} {p : Str × Option Str} (KX : K.In h) (e : lamB h.get? K p = true) : LamOk K h p := by
  unfold lamB at e
  obtain ⟨e1, e⟩ := Bool.and_eq_true_iff.mp e
  obtain ⟨e2, e3⟩ := Bool.and_eq_true_iff.mp e
  refine ⟨?_, ?_, ?_⟩
  · split at e1
    · next vs sl he =>
      obtain ⟨v0, s0⟩ := Bool.and_eq_true_iff.mp e1
      have v0 := Array.eq_empty_of_size_eq_zero (of_decide_eq_true v0)
      have s0 := Array.eq_empty_of_size_eq_zero (of_decide_eq_true s0)
      rw [he, v0, s0]
    · cases e1
  · split at e2
    · next he => exact he
    · cases e2
  · split at e3
    · next od vs sl he =>
      obtain ⟨f1, e3⟩ := Bool.and_eq_true_iff.mp e3
      obtain ⟨f2, e3⟩ := Bool.and_eq_true_iff.mp e3
      obtain ⟨f3, e3⟩ := Bool.and_eq_true_iff.mp e3
      obtain ⟨f4, e3⟩ := Bool.and_eq_true_iff.mp e3
      obtain ⟨f5, e3⟩ := Bool.and_eq_true_iff.mp e3
      obtain ⟨f6, f7⟩ := Bool.and_eq_true_iff.mp e3
      have g3 : ∃ a b, vs.getD 18 .none = .str a b := by split at f3 <;> first | exact ⟨_, _, by assumption⟩ | cases f3
      have g4 : ∃ a b, vs.getD 7 .none = .int a b := by split at f4 <;> first | exact ⟨_, _, by assumption⟩ | cases f4
      have g5 : ∃ a, vs.getD 9 .none = .bool a := by split at f5 <;> first | exact ⟨_, by assumption⟩ | cases f5
      have g6 : ∃ a b, vs.getD 10 .none = .int a b := by split at f6 <;> first | exact ⟨_, _, by assumption⟩ | cases f6
      obtain ⟨a3, b3, g3⟩ := g3
      obtain ⟨a4, b4, g4⟩ := g4
      obtain ⟨a5, g5⟩ := g5
      obtain ⟨a6, b6, g6⟩ := g6
      exact ⟨_, vs, a3, b3, a4, b4, a5, a6, b6, KX _ _ he, rfl, rfl, of_decide_eq_true f1, of_decide_eq_true f2, g3, g4, g5, g6, of_decide_eq_true f7⟩
    · cases e3
theorem LamOk.keeps {K : PySem.W.Frag} {h h' : Heap} {p : Str × Option Str} (x : LamOk K h p) (k : ∀ b o, h.get? b = some o → h'.get? b = some o) : LamOk K h' p := ⟨k _ _ x.tab, x.no, x.hd.keeps k⟩
def obsMK (fa : List He.Fa) (fn : List He.DefD) (ks : List String) (ts : List (Str × List Int)) (ns : List Str) (cs : List (Str × Str)) (xs : List (Str × List Str)) (ls : List (Str × Option Str)) (g : Addr → Option Obj) (K : PySem.W.Frag) : AlK × Bool :=
  (obsK fa fn ks K, ((tupsB ts K && (excsB ns K && cfunsB cs K)) && xinB xs K) && (ls.all (lamB g K) && decide (ls.map (tabA K)).Nodup))
def obsM (fa : List He.Fa) (fn : List He.DefD) (ks : List String) (ts : List (Str × List Int)) (ns : List Str) (cs : List (Str × Str)) (xs : List (Str × List Str)) (ls : List (Str × Option Str)) (g : Addr → Option Obj) : AlK × Bool :=
  obsMK fa fn ks ts ns cs xs ls g (He.frG g (asM g))
def hookM (fa : List He.Fa) (fn : List He.DefD) (ks : List String) (ts : List (Str × List Int)) (ns : List Str) (cs : List (Str × Str)) (xs : List (Str × List Str)) (ls : List (Str × Option Str)) : PySem.W.Hook where
  α := AlK × Bool
  obs := fun s => obsM fa fn ks ts ns cs xs ls s.heap.get?
  val := fun _ => ((He.valD fn, true), true)
  says := fun _ h => ∃ K : PySem.W.Frag, K.In h ∧ SaysK fa fn ks K ∧ ((tupsB ts K && (excsB ns K && cfunsB cs K)) && xinB xs K) = true ∧ (∀ p ∈ ls, LamOk K h p) ∧ (ls.map (tabA K)).Nodup
  of := fun _ s e => by
    have e2 := congrArg (fun z : AlK × Bool => z.2) e
    obtain ⟨e3, e4⟩ := Bool.and_eq_true_iff.mp (show (((tupsB ts _ && (excsB ns _ && cfunsB cs _)) && xinB xs _) && (ls.all (lamB s.heap.get? _) && decide (ls.map (tabA _)).Nodup)) = true from e2)
    obtain ⟨e4, e5⟩ := Bool.and_eq_true_iff.mp e4
    exact ⟨_, He.frG_in, ⟨congrArg (fun z : AlK × Bool => z.1.1) e, congrArg (fun z : AlK × Bool => z.1.2) e⟩, e3, fun p hp => lamB_ok He.frG_in (List.all_eq_true.mp e4 p hp), of_decide_eq_true e5⟩
  keeps := fun _ _ _ ⟨K, hK, c, d, l, nd⟩ k => ⟨K, PySem.W.Frag.In.keeps hK k, c, d, fun p hp => (l p hp).keeps k, nd⟩
theorem obsM_eq {fa : List He.Fa} {fn : List He.DefD} {ks : List String} {ts : List (Str × List Int)} {ns : List Str} {cs : List (Str × Str)} {xs : List (Str × List Str)} {ls : List (Str × Option Str)} {g : Addr → Option Obj} {s : Shared} (h : ∀ a, g a = s.heap.get? a) :
    obsM fa fn ks ts ns cs xs ls g = (hookM fa fn ks ts ns cs xs ls).obs s := by
  have e : g = s.heap.get? := funext h
  subst e; rfl
end ML
namespace Lk12
section
set_option maxRecDepth 100000
set_option maxHeartbeats 0
open PySem PySem.Spec L2 ML
open PyProof.Rows hiding St
def top (i : Nat) : Stmt := PySem.Challenge.pw_spotlook_k12_whole_parted_covers_the_sam.main.body.getD i (.Pass ⟨0, 0, 0, 0⟩)
def clsM (s : Stmt) (j : Nat) : Stmt := match s with
  | .ClassDef _ _ _ body _ _ _ _ _ _ _ => body.getD j (.Pass ⟨0, 0, 0, 0⟩)
  | _ => .Pass ⟨0, 0, 0, 0⟩
abbrev s_TooMany_init : Stmt := clsM (top 3) 0
abbrev s_divisor : Stmt := top 6
abbrev s_is_less : Stmt := top 12
abbrev s_law_cell_at : Stmt := top 36
abbrev s_law_take : Stmt := top 37
abbrev s_law_low : Stmt := top 38
abbrev s_fraction : Stmt := top 7
abbrev s_is_ahead : Stmt := top 14
abbrev s_law_scale : Stmt := top 39
abbrev s_law_spot : Stmt := top 40
abbrev s_law_any : Stmt := top 42
abbrev s_law_spots : Stmt := top 43
abbrev s_plus : Stmt := top 8
abbrev s_less : Stmt := top 9
abbrev s_times : Stmt := top 10
abbrev s_over : Stmt := top 11
abbrev s_passed : Stmt := top 20
abbrev s_is_sooner : Stmt := top 32
abbrev s_law_made : Stmt := top 41
abbrev s_along : Stmt := top 15
abbrev s_crossed : Stmt := top 16
abbrev s_put_in_row : Stmt := top 21
abbrev s_put_wall : Stmt := top 33
abbrev s_leaning : Stmt := top 17
abbrev s_spot_of_lines : Stmt := top 24
abbrev s_side_of : Stmt := top 18
abbrev s_lies_on : Stmt := top 19
abbrev s_meeting_in_line : Stmt := top 25
abbrev s_meeting : Stmt := top 26
abbrev s_law_covered : Stmt := top 44
abbrev s_is_fair : Stmt := top 27
abbrev s_cuts_of : Stmt := top 31
abbrev s_unfair_with : Stmt := top 28
abbrev s_parted : Stmt := top 34
abbrev s_plot_of : Stmt := top 29
abbrev s_law : Stmt := top 45
def mkD (x : Str) (s : Stmt) : He.DefD := ⟨(x, none), x, x, defArgs s, defBody s, defScope s, [], []⟩
def mkM (C m q : Str) (s : Stmt) : He.DefD := ⟨(C, some m), m, q, defArgs s, defBody s, defScope s, [], []⟩
def fn0 : List He.DefD := [mkD "divisor" s_divisor, mkD "is_less" s_is_less, mkD "_law_cell_at" s_law_cell_at, mkD "_law_take" s_law_take, mkD "_law_low" s_law_low, mkD "fraction" s_fraction, mkD "is_ahead" s_is_ahead, mkD "_law_scale" s_law_scale, mkD "_law_spot" s_law_spot, mkD "_law_any" s_law_any, mkD "_law_spots" s_law_spots, mkD "plus" s_plus, mkD "less" s_less, mkD "times" s_times, mkD "over" s_over, mkD "passed" s_passed, mkD "is_sooner" s_is_sooner, mkD "_law_made" s_law_made, mkD "along" s_along, mkD "crossed" s_crossed, mkD "put_in_row" s_put_in_row, mkD "put_wall" s_put_wall, mkD "leaning" s_leaning, mkD "spot_of_lines" s_spot_of_lines, mkD "side_of" s_side_of, mkD "lies_on" s_lies_on, mkD "meeting_in_line" s_meeting_in_line, mkD "meeting" s_meeting, mkD "_law_covered" s_law_covered, mkD "is_fair" s_is_fair]
def fn1 : List He.DefD := [mkD "cuts_of" s_cuts_of, mkD "unfair_with" s_unfair_with, mkD "parted" s_parted, mkD "plot_of" s_plot_of, mkD "law" s_law, mkM "TooMany" "__init__" "TooMany.__init__" s_TooMany_init]
def fn : List He.DefD := fn0 ++ fn1
def fa0 : List He.Fa := [.glo "divisor", .glo "is_less", .glo "_law_cell_at", .glo "_law_take", .glo "_law_low", .glo "fraction", .glo "is_ahead", .glo "_law_scale", .glo "_law_spot", .glo "_law_any", .glo "_law_spots", .glo "plus", .glo "less", .glo "times", .glo "over", .glo "passed", .glo "is_sooner", .glo "_law_made", .glo "along", .glo "crossed", .glo "put_in_row", .glo "put_wall", .glo "leaning", .glo "spot_of_lines", .glo "side_of", .glo "lies_on", .glo "meeting_in_line", .glo "meeting", .glo "_law_covered", .glo "is_fair"]
def fa1 : List He.Fa := [.glo "cuts_of", .glo "unfair_with", .glo "parted", .glo "plot_of", .glo "law", .free "abs", .free "enumerate", .free "int", .free "len", .free "list", .free "max", .free "min", .free "range", .free "tuple", .free "zip", .int "MOST_WALLS" 40, .glo "TooMany"]
def fa : List He.Fa := fa0 ++ fa1
abbrev names : List Str := (["SpotError", "NoFraction", "TooMany", "Crossing", "divisor", "fraction", "plus", "less", "times", "over", "is_less", "is_ahead", "along", "crossed", "leaning", "side_of", "lies_on", "passed", "put_in_row", "MOST_WALLS", "spot_of_lines", "meeting_in_line", "meeting", "is_fair", "unfair_with", "plot_of", "cuts_of", "is_sooner", "put_wall", "parted"] : List Str) ++ (["_law_cell_at", "_law_take", "_law_low", "_law_scale", "_law_spot", "_law_made", "_law_any", "_law_spots", "_law_covered"] : List Str)
abbrev R : PySem.W.OpenRow := PySem.W.OpenLaw.row PySem.Challenge.rw_spotlook_k12_whole_parted_covers_the_sam
abbrev hk : PySem.W.Hook := hookM fa fn [] [] [] [] [("TooMany", ["count"])] []
def ob (s : PySem.W.SharedT) : AlK × Bool := obsM fa fn [] [] [] [] [("TooMany", ["count"])] [] (HandSHeadRun.getT s)
theorem ob_eq (s : PySem.W.SharedT) : ob s = hk.obs s.abs := obsM_eq (HandSHeadRun.getT_eq s)
theorem run (w : World) : HandSHeadRun.RunEq R (PySem.W.view R.prog [45]) hk ob 4120 names w := by
  intro os
  kernel_rfl
end
end Lk12
set_option maxRecDepth 100000
namespace ML
open PySem PySem.Spec L2
open PyProof.Rows hiding St
section
variable {X : Cx} {W : WX} {e e2 o : Expr} {es : List Expr} {pos : Pos} {m m2 mo mv : ME} {mas : MA}
def mListR2 (m m2 : ME) : ME := fun σ S Q E => m σ S (fun d S1 => m2 σ S1 (fun d2 S2 => match d, d2 with
  | .int i, .int j => (0 ≤ i ∧ i ≤ 16777216 ∧ 0 ≤ j ∧ j ≤ 16777216) ∧ Q (.lst (rngD i (j - i).toNat)) S2
  | _, _ => False) E) E
theorem l_mListR2 {σ : MSt} {S : Sto} {Q : MQ} {E : MXQ} : mListR2 m m2 σ S Q E = m σ S (fun d S1 => m2 σ S1 (fun d2 S2 => match d, d2 with
  | .int i, .int j => (0 ≤ i ∧ i ≤ 16777216 ∧ 0 ≤ j ∧ j ≤ 16777216) ∧ Q (.lst (rngD i (j - i).toNat)) S2
  | _, _ => False) E) E := Eq.trans rfl rfl
end
section
variable {X : Cx}
def bSortX : List D → Sto → MQ → Prop := fun ds S Q => ∃ (d : D) (us : List U2), ds = [d] ∧ lstOf S d = some (us.map uD) ∧ ∀ vs : List U2, vs.Perm us → vs.Pairwise ule → Q (.lst (vs.map uD)) S
end
def SortXP (ds : List D) (S : Sto) [Q : Hold MQ] : Prop := bSortX ds S Q.v
theorem l_bSortX {ds : List D} {S : Sto} {Q : MQ} : bSortX ds S Q = @SortXP ds S ⟨Q⟩ := Eq.trans rfl rfl
end ML
set_option maxRecDepth 100000
namespace L2
open PySem PySem.Spec PyProof.Rows
end L2
namespace ML
open PySem PySem.Spec L2
open PyProof.Rows hiding St
section
variable {X : Cx} {W : WX} {a b : Expr} {ma mb : ME} {pos : Pos}
def mInR (ma mb : ME) : ME := fun σ S Q E => ma σ S (fun d S1 => mb σ S1 (fun d2 S2 => match d, d2 with
  | .int i, .int n => Q (.bl (decide (0 ≤ i ∧ i < n))) S2
  | _, _ => False) E) E
theorem l_mInR {σ : MSt} {S : Sto} {Q : MQ} {E : MXQ} : mInR ma mb σ S Q E = ma σ S (fun d S1 => mb σ S1 (fun d2 S2 => match d, d2 with
  | .int i, .int n => Q (.bl (decide (0 ≤ i ∧ i < n))) S2
  | _, _ => False) E) E := Eq.trans rfl rfl
end
end ML
set_option maxRecDepth 100000
set_option maxHeartbeats 1000000
namespace PySem
open Sem (wp)
abbrev ZipG (h : Heap) (z TI TO : Addr) (f0 : Value) (u : Bool) : Prop :=
  h.get? z = some { cls := .type "zip", dict := none, data := .fields #[f0, .bool u, .bool false, .ref TI, .ref TO], slots := #[] }
abbrev ZipF (f0 : Value) : Prop := f0 = .none ∨ ∃ T : Nat, f0 = rawInt T
section
variable {prog : Program} {w : World} {A : Around} {E : Value → Shared → Prop} {s : Shared}
theorem zg_alive {n : Nat} {Q : Option Obj → Shared → Prop} (h : Q (s.heap.get? n) s) : wpAny (model prog w) A (loadIfAlive n) Q E s := fun _ _ _ => h
theorem zg_free {z TI TO : Addr} {f0 : Value} {u : Bool} {Q : Bool → Shared → Prop} (hz : ZipG s.heap z TI TO f0 u) (hf : ZipF f0) (q1 : Q true s)
    (q2 : ∀ h', ZipG h' z TI TO f0 true → Heap.SameBut z s.heap h' → Q false { s with heap := h' }) : wpAny (model prog w) A (Builtin.SmallTypes.ownedTupleIsFree (.ref z)) Q E s := by
  unfold Builtin.SmallTypes.ownedTupleIsFree
  rcases hf with rfl | ⟨T, rfl⟩
  · exact wpAny_bind (wpAny_field hz rfl (x := .none) rfl (wpAny_pure q1))
  · refine wpAny_bind (wpAny_field hz rfl (x := rawInt T) rfl ?_)
    show wpAny _ _ (loadIfAlive ((T : Int).toNat) >>= _) _ _ _
    rw [Int.toNat_natCast]
    refine wpAny_bind (zg_alive ?_)
    cases e : s.heap.get? T with
    | none =>
      simp only [Option.isNone_none, if_true]
      exact wpAny_pure q1
    | some o =>
      simp only [Option.isNone_some, Bool.false_eq_true, if_false]
      refine wpAny_bind (wpAny_field hz rfl (x := .bool u) rfl ?_)
      cases u with
      | true =>
        rw [if_neg (show ¬ ((Value.bool true != Value.bool true) = true) from Bool.false_ne_true)]
        exact wpAny_pure (q2 s.heap hz (Heap.SameBut.refl _ _))
      | false =>
        rw [if_pos (show (Value.bool false != Value.bool true) = true from rfl)]
        exact wpAny_bind (wpAny_setField_rec hz (by simp) fun k kz ks => wpAny_pure (q2 k kz ks))
theorem zg_item {z TI TO i1 i2 l1 l2 : Addr} {m n : Nat} {xs ys : Array Value} {x y a b f0 : Value} {u : Bool} {Q : Value → Shared → Prop} (D : ZipApart z TI TO i1 i2 l1 l2)
    (hz : ZipG s.heap z TI TO f0 u) (hf : ZipF f0) (hI : IsPair s.heap TI (.ref i1) (.ref i2)) (hO : IsPair s.heap TO a b)
    (p1 : s.heap.IsListIter i1 l1 m) (p2 : s.heap.IsListIter i2 l2 n) (q1 : s.heap.IsList l1 xs) (q2 : s.heap.IsList l2 ys) (ex : xs[m]? = some x) (ey : ys[n]? = some y)
    (hQ : ∀ k f1 v a1 b1, ZipG k z TI TO f1 v → ZipF f1 → IsPair k TO a1 b1 → k.IsListIter i1 l1 (m + 1) → k.IsListIter i2 l2 (n + 1) → IsPair k s.heap.objs.size x y →
      (∀ c o, c ≠ z → c ≠ TO → c ≠ i1 → c ≠ i2 → s.heap.get? c = some o → k.get? c = some o) → Q (.ref s.heap.objs.size) { s with heap := k }) :
    wpAny (model prog w) A (Builtin.«zip.__next__» ⟨[.ref z], []⟩) (fun fin s' => ∃ v, fin = .done (.ret v) ∧ Q v s') E s := by
  show wpAny _ _ (field (.ref z) 2 >>= _) _ _ _
  refine wpAny_bind (wpAny_field hz rfl (x := .bool false) rfl ?_)
  show wpAny _ _ (field (.ref z) 3 >>= _) _ _ _
  refine wpAny_bind (wpAny_field hz rfl (x := .ref TI) rfl (wpAny_bind (wpAny_seqItems hI rfl ?_)))
  show wpAny _ _ (Builtin.SmallTypes.ownedTupleIsFree (.ref z) >>= _) _ _ _
  refine wpAny_bind (zg_free hz hf ?_ ?_)
  · simp only [if_true]
    refine wpAny_bind (wpAny_rule (wpAny_bind (wpAny_field hz rfl (x := .ref TO) rfl (wpAny_bind (wpAny_setField_rec hz (by simp) fun k1 g1 t1 => wpAny_bind ?_)))))
    replace g1 : ZipG k1 z TI TO .ellipsis u := g1
    simp only [List.zipIdx_cons, List.zipIdx_nil, List.forIn_cons, List.forIn_nil]
    refine wpAny_bind (wpAny_bind (wpAny_onRaise ?_))
    show wpAny _ _ (Builtin.SmallTypes.nextOf (.ref i1) >>= _) _ _ _
    refine wpAny_bind (wpAny_nextOf_list_item (p1.extBut t1.extBut D.i1z) (q1.extBut t1.extBut D.l1z) ex fun k2 r2 t2 => wpAny_pure ?_)
    have o2 : IsPair k2 TO a b := t2.extBut _ _ D.TOi1 (t1.extBut _ _ D.TOz hO)
    refine wpAny_bind (wpAny_seqItems o2 rfl (wpAny_bind (wpAny_updateSeq_pair o2 fun k3 o3 t3 => wpAny_bind (wpAny_letGo (wpAny_pure ?_)))))
    replace o3 : IsPair k3 TO x b := o3
    refine wpAny_bind (wpAny_bind (wpAny_onRaise ?_))
    show wpAny _ _ (Builtin.SmallTypes.nextOf (.ref i2) >>= _) _ _ _
    refine wpAny_bind (wpAny_nextOf_list_item (((p2.extBut t1.extBut D.i2z).extBut t2.extBut D.i12.symm).extBut t3.extBut D.TOi2.symm) (((q2.extBut t1.extBut D.l2z).extBut t2.extBut D.l2i1).extBut t3.extBut D.l2TO) ey fun k4 r4 t4 => wpAny_pure ?_)
    have o4 : IsPair k4 TO x b := t4.extBut _ _ D.TOi2 o3
    refine wpAny_bind (wpAny_seqItems o4 rfl (wpAny_bind (wpAny_updateSeq_pair o4 fun k5 o5 t5 => wpAny_bind (wpAny_letGo (wpAny_pure (wpAny_pure ?_))))))
    replace o5 : IsPair k5 TO x y := o5
    refine wpAny_bind (wpAny_seqItems o5 rfl (wpAny_bind (wpAny_newTuple ?_)))
    have sz : k5.objs.size = s.heap.objs.size := by rw [t5.1, t4.1, t3.1, t2.1, t1.1]
    have g5 : ZipG k5 z TI TO .ellipsis u := t5.extBut _ _ D.TOz.symm (t4.extBut _ _ D.i2z.symm (t3.extBut _ _ D.TOz.symm (t2.extBut _ _ D.i1z.symm g1)))
    have up5 : ∀ c o, c ≠ z → c ≠ TO → c ≠ i1 → c ≠ i2 → s.heap.get? c = some o → k5.get? c = some o := fun c o c1 c2 c3 c4 e =>
      t5.extBut _ _ c2 (t4.extBut _ _ c4 (t3.extBut _ _ c2 (t2.extBut _ _ c3 (t1.extBut _ _ c1 e))))
    have i5 : k5.IsListIter i1 l1 (m + 1) := ((r2.extBut t3.extBut D.TOi1.symm).extBut t4.extBut D.i12).extBut t5.extBut D.TOi1.symm
    have j5 : k5.IsListIter i2 l2 (n + 1) := r4.extBut t5.extBut D.TOi2.symm
    have lz : z < k5.objs.size := Heap.lt_size g5
    show wpAny _ _ (Builtin.SmallTypes.ownedTupleHandOut (.ref z) (.ref k5.objs.size) >>= _) _ _ _
    refine wpAny_bind ?_
    unfold Builtin.SmallTypes.ownedTupleHandOut
    have g6 : ZipG (k5.push { cls := .type "tuple", data := .seq #[x, y] }) z TI TO .ellipsis u := Heap.get?_push_of_some _ g5
    refine wpAny_bind (wpAny_setField_rec g6 (by simp) fun k7 g7 t7 => ?_)
    replace g7 : ZipG k7 z TI TO (rawInt k5.objs.size) u := g7
    refine wpAny_setField_rec g7 (by simp) fun k8 g8 t8 => ?_
    replace g8 : ZipG k8 z TI TO (rawInt k5.objs.size) false := g8
    have up : ∀ c o, c ≠ z → k5.get? c = some o → k8.get? c = some o := fun c o c1 e => t8.extBut _ _ c1 (t7.extBut _ _ c1 (Heap.get?_push_of_some _ e))
    have T8 : IsPair k8 k5.objs.size x y := t8.extBut _ _ (Nat.ne_of_gt lz) (t7.extBut _ _ (Nat.ne_of_gt lz) (Heap.get?_push_size _ rfl))
    rw [sz] at g8 T8
    refine wpAny_pure ⟨_, rfl, ?_⟩
    show Q (.ref k5.objs.size) _
    rw [sz]
    exact hQ k8 _ _ _ _ g8 (.inr ⟨_, rfl⟩) (up _ _ D.TOz o5) (i5.at fun o e => up _ o D.i1z e) (j5.at fun o e => up _ o D.i2z e) T8 fun c o c1 c2 c3 c4 e => up c o c1 (up5 c o c1 c2 c3 c4 e)
  · intro k1 g1 t1
    simp only [Bool.false_eq_true, if_false]
    refine wpAny_bind ?_
    rw [← Array.forIn_toList]
    simp only [List.forIn_cons, List.forIn_nil]
    refine wpAny_bind (wpAny_bind (wpAny_holding ?_))
    show wpAny _ _ (Builtin.SmallTypes.nextOf (.ref i1) >>= _) _ _ _
    refine wpAny_bind (wpAny_nextOf_list_item (p1.extBut t1.extBut D.i1z) (q1.extBut t1.extBut D.l1z) ex fun k2 r2 t2 => wpAny_pure (wpAny_pure ?_))
    refine wpAny_bind (wpAny_bind (wpAny_holding ?_))
    show wpAny _ _ (Builtin.SmallTypes.nextOf (.ref i2) >>= _) _ _ _
    refine wpAny_bind (wpAny_nextOf_list_item ((p2.extBut t1.extBut D.i2z).extBut t2.extBut D.i12.symm) ((q2.extBut t1.extBut D.l2z).extBut t2.extBut D.l2i1) ey fun k3 r3 t3 => wpAny_pure (wpAny_pure (wpAny_pure ?_)))
    refine wpAny_bind (wpAny_newTuple (wpAny_pure ⟨_, rfl, ?_⟩) (by show (2 : Nat) ≤ sizeLine; decide))
    have sz : k3.objs.size = s.heap.objs.size := by rw [t3.1, t2.1, t1.1]
    show Q (.ref k3.objs.size) _
    have T3 : IsPair (k3.push { cls := .type "tuple", data := .seq #[x, y] }) k3.objs.size x y := Heap.get?_push_size _ rfl
    rw [sz] at T3
    rw [sz]
    exact hQ _ _ _ _ _ (Heap.get?_push_of_some _ (t3.extBut _ _ D.i2z.symm (t2.extBut _ _ D.i1z.symm g1))) hf (Heap.get?_push_of_some _ (t3.extBut _ _ D.TOi2 (t2.extBut _ _ D.TOi1 (t1.extBut _ _ D.TOz hO))))
      ((r2.extBut t3.extBut D.i12).at fun o e => Heap.get?_push_of_some _ e) (r3.at fun o e => Heap.get?_push_of_some _ e) T3
      fun c o c1 c2 c3 c4 e => Heap.get?_push_of_some _ (t3.extBut _ _ c4 (t2.extBut _ _ c3 (t1.extBut _ _ c1 e)))
theorem zg_end {z TI TO i1 i2 l1 l2 : Addr} {m n : Nat} {xs ys : Array Value} {a b f0 : Value} {u : Bool} {Q : Fin → Shared → Prop} (hh : A.handled = none) (D : ZipApart z TI TO i1 i2 l1 l2)
    (hz : ZipG s.heap z TI TO f0 u) (hf : ZipF f0) (hI : IsPair s.heap TI (.ref i1) (.ref i2)) (hO : IsPair s.heap TO a b)
    (p1 : s.heap.IsListIter i1 l1 m) (p2 : s.heap.IsListIter i2 l2 n) (q1 : s.heap.IsList l1 xs) (q2 : s.heap.IsList l2 ys) (hend : xs[m]? = none ∨ ys[n]? = none)
    (hE : ∀ k e, (∀ c o, c ≠ z → c ≠ TO → c ≠ i1 → c ≠ i2 → s.heap.get? c = some o → k.get? c = some o) → (∃ o, k.get? e = some o ∧ o.cls = .type "StopIteration") → E (.ref e) { s with heap := k }) :
    wpAny (model prog w) A (Builtin.«zip.__next__» ⟨[.ref z], []⟩) Q E s := by
  show wpAny _ _ (field (.ref z) 2 >>= _) _ _ _
  refine wpAny_bind (wpAny_field hz rfl (x := .bool false) rfl ?_)
  show wpAny _ _ (field (.ref z) 3 >>= _) _ _ _
  refine wpAny_bind (wpAny_field hz rfl (x := .ref TI) rfl (wpAny_bind (wpAny_seqItems hI rfl ?_)))
  show wpAny _ _ (Builtin.SmallTypes.ownedTupleIsFree (.ref z) >>= _) _ _ _
  refine wpAny_bind (zg_free hz hf ?_ ?_)
  · simp only [if_true]
    refine wpAny_bind (wpAny_rule (wpAny_bind (wpAny_field hz rfl (x := .ref TO) rfl (wpAny_bind (wpAny_setField_rec hz (by simp) fun k1 g1 t1 => wpAny_bind ?_)))))
    replace g1 : ZipG k1 z TI TO .ellipsis u := g1
    simp only [List.zipIdx_cons, List.zipIdx_nil, List.forIn_cons, List.forIn_nil]
    refine wpAny_bind (wpAny_bind (wpAny_onRaise ?_))
    show wpAny _ _ (Builtin.SmallTypes.nextOf (.ref i1) >>= _) _ _ _
    cases ex : xs[m]? with
    | none =>
      refine wpAny_bind (wpAny_nextOf_list_end hh (p1.extBut t1.extBut D.i1z) (q1.extBut t1.extBut D.l1z) ex fun k2 e t2 he => ?_)
      obtain ⟨oe, e1, e2⟩ := he
      have g2 : ZipG k2 z TI TO .ellipsis u := t2 _ _ D.i1z.symm g1
      have ne : e ≠ z := fun x => by subst x; rw [g2] at e1; cases e1; simp at e2
      exact wpAny_setField_rec g2 (by simp) fun k3 _ t3 => hE k3 e (fun c o c1 _ c3 _ x => t3.extBut _ _ c1 (t2 _ _ c3 (t1.extBut _ _ c1 x))) ⟨oe, t3.extBut _ _ ne e1, e2⟩
    | some x =>
      have ey : ys[n]? = none := by rcases hend with h | h; rw [ex] at h; cases h; exact h
      refine wpAny_bind (wpAny_nextOf_list_item (p1.extBut t1.extBut D.i1z) (q1.extBut t1.extBut D.l1z) ex fun k2 r2 t2 => wpAny_pure ?_)
      have o2 : IsPair k2 TO a b := t2.extBut _ _ D.TOi1 (t1.extBut _ _ D.TOz hO)
      refine wpAny_bind (wpAny_seqItems o2 rfl (wpAny_bind (wpAny_updateSeq_pair o2 fun k3 o3 t3 => wpAny_bind (wpAny_letGo (wpAny_pure ?_)))))
      refine wpAny_bind (wpAny_bind (wpAny_onRaise ?_))
      show wpAny _ _ (Builtin.SmallTypes.nextOf (.ref i2) >>= _) _ _ _
      refine wpAny_bind (wpAny_nextOf_list_end hh (((p2.extBut t1.extBut D.i2z).extBut t2.extBut D.i12.symm).extBut t3.extBut D.TOi2.symm) (((q2.extBut t1.extBut D.l2z).extBut t2.extBut D.l2i1).extBut t3.extBut D.l2TO) ey fun k4 e t4 he => ?_)
      obtain ⟨oe, e1, e2⟩ := he
      have g4 : ZipG k4 z TI TO .ellipsis u := t4 _ _ D.i2z.symm (t3.extBut _ _ D.TOz.symm (t2.extBut _ _ D.i1z.symm g1))
      have ne : e ≠ z := fun x => by subst x; rw [g4] at e1; cases e1; simp at e2
      exact wpAny_setField_rec g4 (by simp) fun k5 _ t5 => hE k5 e (fun c o c1 c2 c3 c4 x => t5.extBut _ _ c1 (t4 _ _ c4 (t3.extBut _ _ c2 (t2.extBut _ _ c3 (t1.extBut _ _ c1 x))))) ⟨oe, t5.extBut _ _ ne e1, e2⟩
  · intro k1 g1 t1
    simp only [Bool.false_eq_true, if_false]
    refine wpAny_bind ?_
    rw [← Array.forIn_toList]
    simp only [List.forIn_cons, List.forIn_nil]
    refine wpAny_bind (wpAny_bind (wpAny_holding ?_))
    show wpAny _ _ (Builtin.SmallTypes.nextOf (.ref i1) >>= _) _ _ _
    cases ex : xs[m]? with
    | none =>
      refine wpAny_bind (wpAny_nextOf_list_end hh (p1.extBut t1.extBut D.i1z) (q1.extBut t1.extBut D.l1z) ex fun k2 e t2 he => ?_)
      exact hE k2 e (fun c o c1 _ c3 _ x => t2 _ _ c3 (t1.extBut _ _ c1 x)) he
    | some x =>
      have ey : ys[n]? = none := by rcases hend with h | h; rw [ex] at h; cases h; exact h
      refine wpAny_bind (wpAny_nextOf_list_item (p1.extBut t1.extBut D.i1z) (q1.extBut t1.extBut D.l1z) ex fun k2 r2 t2 => wpAny_pure (wpAny_pure ?_))
      refine wpAny_bind (wpAny_bind (wpAny_holding ?_))
      show wpAny _ _ (Builtin.SmallTypes.nextOf (.ref i2) >>= _) _ _ _
      refine wpAny_bind (wpAny_nextOf_list_end hh ((p2.extBut t1.extBut D.i2z).extBut t2.extBut D.i12.symm) ((q2.extBut t1.extBut D.l2z).extBut t2.extBut D.l2i1) ey fun k4 e t4 he => ?_)
      exact hE k4 e (fun c o c1 c2 c3 c4 x => t4 _ _ c4 (t2.extBut _ _ c3 (t1.extBut _ _ c1 x))) he
theorem zg_next_item {z TI TO i1 i2 l1 l2 : Addr} {m n : Nat} {xs ys : Array Value} {x y a b f0 : Value} {u : Bool} {Q : Option Value → Shared → Prop} (D : ZipApart z TI TO i1 i2 l1 l2)
    (hz : ZipG s.heap z TI TO f0 u) (hf : ZipF f0) (hI : IsPair s.heap TI (.ref i1) (.ref i2)) (hO : IsPair s.heap TO a b)
    (p1 : s.heap.IsListIter i1 l1 m) (p2 : s.heap.IsListIter i2 l2 n) (q1 : s.heap.IsList l1 xs) (q2 : s.heap.IsList l2 ys) (ex : xs[m]? = some x) (ey : ys[n]? = some y)
    (hQ : ∀ k f1 v a1 b1, ZipG k z TI TO f1 v → ZipF f1 → IsPair k TO a1 b1 → k.IsListIter i1 l1 (m + 1) → k.IsListIter i2 l2 (n + 1) → IsPair k s.heap.objs.size x y →
      (∀ c o, c ≠ z → c ≠ TO → c ≠ i1 → c ≠ i2 → s.heap.get? c = some o → k.get? c = some o) → Q (some (.ref s.heap.objs.size)) { s with heap := k }) :
    wpAny (model prog w) A (pyNext (.ref z)) Q E s := by
  have T : s.TypeIs (.ref z) "zip" := ⟨_, hz, rfl⟩
  unfold pyNext
  exact wpAny_bind (wpAny_attempt (wpAny_callSpecial?_slot (name := Str.ofString "__next__") T F.slot_zip_next (wpAny_call_entry F.slot_zip_next T F.entry_zip_next
    (zg_item D hz hf hI hO p1 p2 q1 q2 ex ey fun k f1 v a1 b1 c1 c2 c3 c4 c5 c6 c7 => wpAny_pure (hQ k f1 v a1 b1 c1 c2 c3 c4 c5 c6 c7)) (F.args_zip_next_1 _))))
theorem zg_next_end {z TI TO i1 i2 l1 l2 : Addr} {m n : Nat} {xs ys : Array Value} {a b f0 : Value} {u : Bool} {Q : Option Value → Shared → Prop} (hh : A.handled = none) (D : ZipApart z TI TO i1 i2 l1 l2)
    (hz : ZipG s.heap z TI TO f0 u) (hf : ZipF f0) (hI : IsPair s.heap TI (.ref i1) (.ref i2)) (hO : IsPair s.heap TO a b)
    (p1 : s.heap.IsListIter i1 l1 m) (p2 : s.heap.IsListIter i2 l2 n) (q1 : s.heap.IsList l1 xs) (q2 : s.heap.IsList l2 ys) (hend : xs[m]? = none ∨ ys[n]? = none)
    (hQ : ∀ k, (∀ c o, c ≠ z → c ≠ TO → c ≠ i1 → c ≠ i2 → s.heap.get? c = some o → k.get? c = some o) → Q none { s with heap := k }) : wpAny (model prog w) A (pyNext (.ref z)) Q E s := by
  have T : s.TypeIs (.ref z) "zip" := ⟨_, hz, rfl⟩
  unfold pyNext
  refine wpAny_bind (wpAny_attempt (wpAny_callSpecial?_slot (name := Str.ofString "__next__") T F.slot_zip_next (wpAny_call_entry F.slot_zip_next T F.entry_zip_next
    (zg_end hh D hz hf hI hO p1 p2 q1 q2 hend fun k e up he => ?_) (F.args_zip_next_1 _))))
  obtain ⟨o, e1, e2⟩ := he
  exact wpAny_bind (wpAny_isInstance (T := "StopIteration") (b := true) ⟨o, e1, e2⟩ isSubtype_stop (wpAny_pure (hQ _ up)))
theorem zg_iter {z TI TO : Addr} {f0 : Value} {u : Bool} {Q : Value → Shared → Prop} (hz : ZipG s.heap z TI TO f0 u) (h : Q (.ref z) s) : wpAny (model prog w) A (pyIter (.ref z)) Q E s := by
  have T : s.TypeIs (.ref z) "zip" := ⟨_, hz, rfl⟩
  refine wpAny_pyIter_slot T F.slot_zip_iter (wpAny_call_entry F.slot_zip_iter T F.entry_zip_iter ?_ (F.args_zip_iter_1 _))
  show wpAny _ _ (ret (.ref z)) _ _ s
  exact wpAny_pure ⟨_, rfl, "zip", _, T, F.slot_zip_next.lookup, h⟩
end
end PySem
namespace L2
open PySem PySem.Spec PyProof.Rows
theorem turn_zipN {P : Program} {w : World} {K : PySem.W.Frag} {x : Str} {npos : Pos} {a b z TI TO i1 i2 : Addr} (D : ZipApart z TI TO i1 i2 a b) :
    Turn P w K (.Name x npos) (Itz K a b) [z, TI, TO, i1, i2] z (fun i h => (∃ f0 u, ZipG h z TI TO f0 u ∧ ZipF f0) ∧ IsPair h TI (.ref i1) (.ref i2) ∧ (∃ x y, IsPair h TO x y) ∧ h.IsListIter i1 a i ∧ h.IsListIter i2 b i) where
  mem := by simp
  obj := fun i h st c hc => by
    obtain ⟨⟨f0, u, hz, _⟩, hI, ⟨v, y, hO⟩, ⟨o1, e1, _, d1⟩, ⟨o2, e2, _, d2⟩⟩ := st
    have e' : c = z ∨ c = TI ∨ c = TO ∨ c = i1 ∨ c = i2 := by simpa using hc
    rcases e' with rfl | rfl | rfl | rfl | rfl
    · exact ⟨_, hz, nofun⟩
    · exact ⟨_, hI, nofun⟩
    · exact ⟨_, hO, nofun⟩
    · exact ⟨o1, e1, fun v q => by rw [d1] at q; cases q⟩
    · exact ⟨o2, e2, fun v q => by rw [d2] at q; cases q⟩
  keep := fun i h h' st k => by
    obtain ⟨⟨f0, u, hz, hf⟩, hI, ⟨v, y, hO⟩, p1, p2⟩ := st
    exact ⟨⟨f0, u, k z (by simp) _ hz, hf⟩, k TI (by simp) _ hI, ⟨v, y, k TO (by simp) _ hO⟩, p1.at fun o q => k i1 (by simp) o q, p2.at fun o q => k i2 (by simp) o q⟩
  item := by
    intro X hP hw hK hc i pins s σ H E I hf st hg
    subst hP hw hK
    obtain ⟨⟨f0, u, hz, hF⟩, hI, ⟨v0, y0, hO⟩, p1, p2⟩ := st
    obtain ⟨xs, ys, v, y, hqx, hqy, hx, hy⟩ := hg
    obtain ⟨its, rv, r1, _⟩ := I.list hqx
    obtain ⟨its2, rv2, r2, _⟩ := I.list hqy
    obtain ⟨u1, hu, ru⟩ := rv.get hx
    obtain ⟨u2, hu2, ru2⟩ := rv2.get hy
    refine zg_next_item D hz hF hI hO p1 p2 r1.isList r2.isList (x := u1) (y := u2) (by simpa using hu) (by simpa using hu2) fun k f1 w1 a1 b1 c1 c2 c3 c4 c5 c6 hk => ?_
    refine ⟨_, rfl, wpAny_pure ?_⟩
    have new : ObjOk X.prog X.w (upd H s.heap.objs.size (.tup [v, y])) k s.heap.objs.size (.tup [v, y]) :=
      ⟨by show 2 ≤ sizeLine; decide, [u1, u2], .cons ru (.cons ru2 .nil), ⟨_, c6, rfl, _, rfl⟩⟩
    have I1 : Inv X pins σ (upd H s.heap.objs.size (.tup [v, y])) { s with heap := k } :=
      I.turnedNew (t' := s.toks) (ch := [z, TI, TO, i1, i2]) (fun c o hb q => hk c o (fun q' => hb (by simp [q'])) (fun q' => hb (by simp [q'])) (fun q' => hb (by simp [q'])) (fun q' => hb (by simp [q'])) q) hf (Nat.le_refl _) new
    refine ⟨.ref s.heap.objs.size, _, I1, rfl, ⟨_, v, y, rfl, I.hok.fresh (Nat.le_refl _), rfl, fun l hl => by rw [I.list_inj hl hqx]; exact hx, fun l hl => by rw [I.list_inj hl hqy]; exact hy⟩,
      ⟨⟨f1, w1, c1, c2⟩, hk _ _ D.TIz D.TITO D.TIi1 D.TIi2 hI, ⟨a1, b1, c3⟩, c4, c5⟩, fun c hcm => ?_⟩
    have lt : c < s.heap.objs.size := by
      have e' : c = z ∨ c = TI ∨ c = TO ∨ c = i1 ∨ c = i2 := by simpa using hcm
      rcases e' with rfl | rfl | rfl | rfl | rfl
      · exact Heap.lt_size hz
      · exact Heap.lt_size hI
      · exact Heap.lt_size hO
      · obtain ⟨_, e1, _⟩ := p1; exact Heap.lt_size e1
      · obtain ⟨_, e2, _⟩ := p2; exact Heap.lt_size e2
    rw [upd_ne (Nat.ne_of_lt lt)]
    exact (hf c hcm).1
  done := by
    intro X hP hw hK hc i pins s σ H E I hf st hg
    subst hP hw hK
    obtain ⟨⟨f0, u, hz, hF⟩, hI, ⟨v0, y0, hO⟩, p1, p2⟩ := st
    obtain ⟨xs, ys, hqx, hqy, hend⟩ := hg
    obtain ⟨its, rv, r1, _⟩ := I.list hqx
    obtain ⟨its2, rv2, r2, _⟩ := I.list hqy
    have l1 := rv.length
    have l2 := rv2.length
    have he : its.toArray[i]? = none ∨ its2.toArray[i]? = none := hend.imp (fun q => by simp; omega) fun q => by simp; omega
    exact zg_next_end (I.ok.hd hc) D hz hF hI hO p1 p2 r1.isList r2.isList he fun k hk => ⟨rfl, I.turnedL (t' := s.toks) (ch := [z, TI, TO, i1, i2]) (fun c o hb q =>
      hk c o (fun q' => hb (by simp [q'])) (fun q' => hb (by simp [q'])) (fun q' => hb (by simp [q'])) (fun q' => hb (by simp [q'])) q) hf⟩
  self := fun A i s Q E st h => by
    obtain ⟨⟨f0, u, hz, _⟩, _⟩ := st
    exact zg_iter hz h
theorem pi_zipN {X : Cx} {e e2 : Expr} {ta : TA} {p pos npos : Pos} {x : Str} (hg : Gl X "zip") (hm : X.mg "zip" = none) (ha : PA X [e, e2] ta)
    (hs : starEach [e, e2] X.env = (false, eval e X.env) :: starEach [e2] X.env := by rfl) (hpl : (backTo pos (starEach [e2] X.env)).any (·.1) = false := by rfl) :
    PI X (.Name x npos) (.Call (.Name "zip" p) [e, e2] [] pos) (iZip X.K ta) := by
  refine ⟨fun pins s σ H R I h => Call_ (ld_blt I hg hm PyProof.Rows.boot_zip (PyProof.Rows.callWith_type1 (thn (ha.run pos pins s σ H _ I h) fun us s1 ⟨vs, H1, I1, r1, a, b, xs, ys, ex, hqx, hqy, q⟩ => ?_) hs hpl))⟩
  subst ex
  obtain ⟨u1, u2, rfl, t1, t2⟩ := vals2 r1
  cases t1
  cases t2
  obtain ⟨its, rv, r1, _⟩ := I1.list hqx
  obtain ⟨its2, rv2, r2, _⟩ := I1.list hqy
  refine call_zip_2 r1.isList r2.isList fun k hz hI hO p1 p2 sz hk => zg_iter (u := false) hz ?_
  have I2 : Inv X pins σ H1 { s1 with heap := k } := I1.kept (t' := s1.toks) hk
  refine ⟨s1.heap.objs.size + 4, [s1.heap.objs.size + 4, s1.heap.objs.size + 2, s1.heap.objs.size + 3, s1.heap.objs.size, s1.heap.objs.size + 1], _, _, H1, rfl, I2, turn_zipN (PySem.W.ktu_apart s1.heap.objs.size a b r1.lt r2.lt), ⟨⟨_, _, hz, .inl rfl⟩, hI, ⟨_, _, hO⟩, p1, p2⟩, fun c hcm => ?_, q⟩
  have e' : c = s1.heap.objs.size + 4 ∨ c = s1.heap.objs.size + 2 ∨ c = s1.heap.objs.size + 3 ∨ c = s1.heap.objs.size ∨ c = s1.heap.objs.size + 1 := by simpa using hcm
  have le : s1.heap.objs.size ≤ c := by rcases e' with z | z | z | z | z <;> rw [z] <;> first | exact Nat.le_refl _ | exact Nat.le_add_right _ _
  exact I1.fpOk le (I1.hok.fresh le)
end L2
namespace ML
open PySem PySem.Spec L2
open PyProof.Rows hiding St
section
variable {X : Cx} {W : WX} {e : Expr} {pos : Pos}
theorem izpN {mas : MA} {p npos : Pos} {x : Str} {e2 : Expr} (hm : X.mg "zip" = none) (ha : PA X [e, e2] (upA X.K W mas)) (hg : Gl X "zip" := by rfl)
    (hs : starEach [e, e2] X.env = (false, eval e X.env) :: starEach [e2] X.env := by rfl) (hs2 : (backTo pos (starEach [e2] X.env)).any (·.1) = false := by rfl) :
    PI X (.Name x npos) (.Call (.Name "zip" p) [e, e2] [] pos) (upI X.K W (iZp mas)) :=
  L2.PI.to (pi_zipN hg hm ha hs hs2) fun σ H R ⟨m, S, Rm, Em, h1, h2, h3, h4, h5⟩ => ⟨m, S, _, Em, h1, h2, h3, fun ds S1 vs H1 q e1 s r => by
    dsimp only at q
    split at q
    · next d e =>
      obtain ⟨v, w, rfl, r1, r2⟩ := rds2 r
      split at q
      · next xs ys e3 e4 =>
        obtain ⟨a, us, rfl, hq, ru⟩ := lst_sq s r1 e3
        obtain ⟨b, ws, rfl, hq2, rw2⟩ := lst_sq s r2 e4
        refine ⟨a, b, us, ws, rfl, hq, hq2, h4 _ _ S1 _ H1 q e1 s ⟨fun i H' S' e s' g hi => ?_, fun i H' S' v H'' x e s' g hx y => ?_, fun i H' S' e s' g hi => ?_⟩⟩
        · obtain ⟨a', vs', ea, hq', rs'⟩ := lst_sq s' (r1.ext e) g.1
          cases ea
          obtain ⟨b', ws', eb, hq2', rs2'⟩ := lst_sq s' (r2.ext e) g.2
          cases eb
          have hi' : i < xs.length ∧ i < ys.length := by unfold zipD at hi; rw [List.length_zipWith] at hi; omega
          exact ⟨vs', ws', vs'[i]'(by rw [rs'.length]; exact hi'.1), ws'[i]'(by rw [rs2'.length]; exact hi'.2), hq', hq2', List.getElem?_eq_getElem _, List.getElem?_eq_getElem _⟩
        · obtain ⟨a', vs', ea, hq', rs'⟩ := lst_sq s' (r1.ext e) g.1
          cases ea
          obtain ⟨b', ws', eb, hq2', rs2'⟩ := lst_sq s' (r2.ext e) g.2
          cases eb
          obtain ⟨T, w, w2, rfl, hT, rfl, hy, hy2⟩ := y
          obtain ⟨z, z2, hz, hz2, rfl⟩ := zipD_get hx
          obtain ⟨w', hw, rw'⟩ := rs'.get hz
          obtain ⟨w2', hw2, rw2'⟩ := rs2'.get hz2
          have t1 : w = w' := Option.some.inj ((hy _ hq').symm.trans hw)
          have t2 : w2 = w2' := Option.some.inj ((hy2 _ hq2').symm.trans hw2)
          subst t1 t2
          exact pair_new s' hT rw' rw2'
        · obtain ⟨a', vs', ea, hq', rs'⟩ := lst_sq s' (r1.ext e) g.1
          cases ea
          obtain ⟨b', ws', eb, hq2', rs2'⟩ := lst_sq s' (r2.ext e) g.2
          cases eb
          refine ⟨vs', ws', hq', hq2', ?_⟩
          unfold zipD at hi
          rw [List.length_zipWith] at hi
          rw [rs'.length, rs2'.length]
          omega
      · exact q.elim
    · exact q.elim, h5⟩
def mRevL (m : ME) : ME := fun σ S Q E => m σ S (fun d S1 => optP (lstOf S1 d) fun xs => Q (.lst xs.reverse) S1) E
theorem l_mRevL {m : ME} {σ : MSt} {S : Sto} {Q : MQ} {E : MXQ} : mRevL m σ S Q E = m σ S (fun d S1 => optP (lstOf S1 d) fun xs => Q (.lst xs.reverse) S1) E := Eq.trans rfl rfl
end
end ML
set_option maxRecDepth 100000
namespace ML
open PySem PySem.Spec L2
end ML
set_option maxRecDepth 100000
namespace L2
open PySem PySem.Spec PyProof.Rows
end L2
namespace ML
open PySem PySem.Spec L2
end ML
set_option maxRecDepth 100000
set_option maxHeartbeats 4000000
namespace L2
open PySem PySem.Spec PyProof.Rows
section
variable {P : Program} {w : World} {A : Around} {env : Env} {h : Heap} {K : PySem.W.Frag} {H : Hp}
def Pu (P : Program) (w : World) (A : Around) (env : Env) (h : Heap) (e : Expr) (R : Value → Prop) : Prop :=
  ∀ (s : Shared) (Q E : Value → Shared → Prop), s.heap = h → (∀ u tk, R u → Q u { s with toks := tk }) → wpAny (model P w) A (eval e env) Q E s
end
def KeyV (K : PySem.W.Frag) (H : Hp) (z : V) (d : PyData) : Prop := (∃ i, z = .int i ∧ d = .int i) ∨ ∃ t i j, z = .ref t ∧ SqT K H t [.int i, .int j] ∧ d = .tuple [.int i, .int j]
structure KeyB (K : PySem.W.Frag) (H : Hp) (b : V) (n : Int) (d : PyData) : Prop where
  ex : ∃ (p r : Addr) (xs ys : List V) (i : Nat) (z : V), b = .ref p ∧ n = (i : Int) ∧ (SqL K H p xs ∨ SqT K H p xs) ∧ xs[i]? = some (.ref r) ∧ (SqL K H r ys ∨ SqT K H r ys) ∧ ys[0]? = some z ∧ KeyV K H z d
def BaseV (K : PySem.W.Frag) (H : Hp) (σ : St) (iy : Nat) (fld : Option (Str × Pos)) (b : V) : Prop := match fld with
  | none => σ[iy]? = some (some b)
  | some (f, _) => ∃ a C dx fs, σ[iy]? = some (some (.ref a)) ∧ H a = some (.ins C dx fs) ∧ Cls K C ∧ NoAttr K C f ∧ fs.lookup f = some b
section
variable {P : Program} {w : World} {A : Around} {env : Env} {h : Heap} {K : PySem.W.Frag} {H H' : Hp}
open LamX (ExtN)
theorem extN_rd (e : ExtN H H') {a : Addr} {u : HO} (n : ∀ ps, u ≠ .tbl ps) (r : Rd H a u) : Rd H' a u := by
  rcases r with r | ⟨o, r⟩
  · exact .inl (e _ _ r n)
  · exact .inr ⟨o, e _ _ r (fun ps z => by cases z)⟩
theorem extN_l (e : ExtN H H') {a : Addr} {xs : List V} (r : SqL K H a xs) : SqL K H' a xs := r.elim (fun r => .inl (extN_rd e (fun ps z => by cases z) r)) .inr
theorem extN_t (e : ExtN H H') {a : Addr} {xs : List V} (r : SqT K H a xs) : SqT K H' a xs := r.elim (fun r => .inl (extN_rd e (fun ps z => by cases z) r)) .inr
theorem KeyV.ext (e : ExtN H H') {z : V} {d : PyData} (h : KeyV K H z d) : KeyV K H' z d := h.imp id fun ⟨t, i, j, a, b, c⟩ => ⟨t, i, j, a, extN_t e b, c⟩
theorem KeyB.ext (e : ExtN H H') {b : V} {n : Int} {d : PyData} (h : KeyB K H b n d) : KeyB K H' b n d := by
  obtain ⟨p, r, xs, ys, i, z, h1, h2, h3, h4, h5, h6, h7⟩ := h.ex
  exact ⟨p, r, xs, ys, i, z, h1, h2, h3.imp (extN_l e) (extN_t e), h4, h5.imp (extN_l e) (extN_t e), h6, h7.ext e⟩
theorem BaseV.ext (e : ExtN H H') {σ : St} {iy : Nat} {fld : Option (Str × Pos)} {b : V} (h : BaseV K H σ iy fld b) : BaseV K H' σ iy fld b := by
  unfold BaseV at *
  split at h
  · exact h
  · obtain ⟨a, C, dx, fs, h1, h2, h3⟩ := h
    exact ⟨a, C, dx, fs, h1, e _ _ h2 (fun ps z => by cases z), h3⟩
theorem Pu.mono {e : Expr} {R R' : Value → Prop} (p : Pu P w A env h e R) (k : ∀ u, R u → R' u) : Pu P w A env h e R' := fun s Q E e2 q => p s Q E e2 fun u tk r => q u tk (k u r)
end
section
variable {X : Cx} {e : Expr} {params : Arguments} {body : Expr} {scope : Scope} {c Pt : Addr} {x y : Str} {iy k : Nat} {fld : Option (Str × Pos)}
open LamX (ExtN TabB CodeO)
open ML (TabG)
def ExtP (P : Addr) (H H' : Hp) : Prop := ∀ b o, b ≠ P → H b = some o → H' b = some o
theorem ExtP.n {P : Addr} {q : Str} {G : Addr → Prop} {H H' : Hp} (e : ExtP P H H') (t : TabG H P q G) : ExtN H H' := fun b o h n => e b o (fun z => by
  obtain ⟨ps, hp, _⟩ := t
  rw [z, hp] at h
  exact n ps (Option.some.inj h).symm) h
variable {te : TE} {p pos lpos kp py px pc p1 p2 : Pos} {j : Nat}
end
end L2
namespace ML
open PySem PySem.Spec L2
open PyProof.Rows hiding St
end ML
set_option maxRecDepth 100000
set_option maxHeartbeats 2000000
namespace ML
open PySem PySem.Spec L2
open PyProof.Rows hiding St
end ML
set_option maxRecDepth 100000
set_option maxHeartbeats 2000000
namespace ML
open PySem PySem.Spec L2
open PyProof.Rows hiding St
end ML
set_option maxRecDepth 100000
set_option maxHeartbeats 2000000
namespace PySem.W
open PySem PySem.Spec PySem.Calls PyProof.Rows
end PySem.W
namespace L2
open PySem PySem.Spec PyProof.Rows
def flds {α : Type} (fs : List Str) (ys : List α) : List (Str × α) := (fs.zip ys).reverse
def spX (C : Addr) (fs : List Str) : Sp := fun vs H Q _ => ∃ (a : Addr) (ys : List V), vs = .ref a :: ys ∧ ys.length = fs.length ∧ H a = some (exo a C none) ∧
  ∀ H2 d, H d = none → d ≠ a → H2 a = some (exo a C (some d)) → H2 d = some (exd d (flds fs ys)) → (∀ b, b ≠ a → b ≠ d → H2 b = H b) → Q .non H2
theorem fn_xi1 {P : Program} {w : World} {K : PySem.W.Frag} {mg : Str → Option Value} {base : Heap} {x qual : Str} {st : Stmt} {f C : Addr} {fd : FuncData} {u v g : Str} {k : Nat}
    (F : FunD K x qual (defArgs st) (defBody st) (defScope st) [] [] f fd) (S : FnScope [u, v] [u, v] (defScope st)) (T : OexC K C) (hno : PySem.W.findIn K (.ref C) g = some none)
    (hbody : ∀ (cdv : Value) (A : Around) (outer : List Env) (s : Shared) (H : Hp) (E : XK), PSs (ML.cxM P w K mg base [u, v] qual st f cdv A outer s H E) (defBody st) (tOst K g (tVar 0) (tVar 1))) :
    FnOk P w K mg base (L2.CX P w) (k + 1) f fd [u, v] (spX C [g]) := by
  refine F.ok S (fun vs H Q E ⟨a, ys, e, l, _⟩ => by rw [e, List.length_cons, l]; rfl) fun cdv A outer s H vs Q E hr hsp => ?_
  refine ⟨_, hbody cdv A outer s H E, ?_⟩
  obtain ⟨a, ys, rfl, hl, ha, k⟩ := hsp
  match ys, hl with
  | [y], _ =>
    refine ⟨y, rfl, .ref a, rfl, a, C, rfl, T, hno, .inl ⟨ha, fun dx hdx ne => k _ dx hdx ne upd_same ?_ fun b h1 h2 => ?_⟩⟩
    · rw [upd_ne ne, upd_same]; rfl
    · rw [upd_ne h1, upd_ne h2]
end L2
namespace ML
open PySem PySem.Spec L2
open PyProof.Rows hiding St
structure HasX (P : Program) (w : World) (K : PySem.W.Frag) (mg : Str → Option Value) (base : Heap) (C : Str) (k : Nat) (fs : List Str) : Prop where
  ex : ∃ f fd ps, mg C = some (.ref (He.ga K C)) ∧ OexC K (He.ga K C) ∧ PySem.W.findIn K (.ref (He.ga K C)) "__init__" = some (some (.ref f)) ∧ PySem.W.typeIn K (.ref f) = some (.type "function") ∧ Binds K fd ps [] ∧ FnOk P w K mg base (L2.CX P w) k f fd ps (spX (He.ga K C) fs)
theorem HasX.mono {P : Program} {w : World} {K : PySem.W.Frag} {mg : Str → Option Value} {base : Heap} {C : Str} {j k : Nat} {fs : List Str} (h : HasX P w K mg base C j fs) (l : j ≤ k) : HasX P w K mg base C k fs :=
  let ⟨f, fd, ps, a, b, c, d, e, g⟩ := h.ex
  ⟨f, fd, ps, a, b, c, d, e, g.mono l⟩
theorem rds_flds {K : PySem.W.Frag} {H : Hp} {S : Sto} : ∀ {fs : List Str} {vs : List V} {ds : List D}, RDs K H S vs ds → RKs K H S (fs.zip vs) (fs.zip ds)
  | [], _, _, _ => .nil
  | _ :: _, _, _, .nil => .nil
  | _ :: _, _, _, .cons r rr => .cons r (rds_flds rr)
theorem RKs.app {K : PySem.W.Frag} {H : Hp} {S : Sto} : ∀ {xs : List (Str × V)} {ds : List (Str × D)} {ys : List (Str × V)} {es : List (Str × D)}, RKs K H S xs ds → RKs K H S ys es → RKs K H S (xs ++ ys) (ds ++ es)
  | _, _, _, _, .nil, h => h
  | _, _, _, _, .cons r rr, h => .cons r (RKs.app rr h)
theorem RKs.rev {K : PySem.W.Frag} {H : Hp} {S : Sto} : ∀ {xs : List (Str × V)} {ds : List (Str × D)}, RKs K H S xs ds → RKs K H S xs.reverse ds.reverse
  | _, _, .nil => .nil
  | _, _, .cons r rr => by
    rw [List.reverse_cons, List.reverse_cons]
    exact RKs.app (RKs.rev rr) (.cons r .nil)
def mRaiseF (C : Str) (fs : List Str) (t : MA) : MS := fun De σ S => t σ S (fun ds S1 => ds.length = fs.length ∧ ds.length ≤ 1000 ∧ De.ex ⟨C, some (flds fs ds)⟩ σ S1) (xAt De σ)
section
variable {X : Cx} {W : WX} {e : Expr} {es : List Expr} {pos : Pos} {mas : MA} {m : ME}
theorem sraiseF {C : Str} {k : Nat} {fs : List Str} {p pos' : Pos} (hx : HasX X.prog X.w X.K X.mg X.base C k fs) (hr : Room (k + 1) X.A) (hc : X.calm = true) (tk : Takes X W) (ha : PA X (e :: es) (upA X.K W mas)) (hg : Gl X C := by rfl)
    (hdb : (C == ("__debug__" : Str)) = false := by decide) (he : starEach (e :: es) X.env = (false, eval e X.env) :: starEach es X.env := by rfl) (hpl : (backTo pos (starEach es X.env)).any (·.1) = false := by rfl) :
    PS X (.Raise (some (.Call (.Name C p) (e :: es) [] pos)) none pos') (upS X.K W (mRaiseF C fs mas)) := by
  obtain ⟨f, fd, ps, hm, T, iC, tI, hb, G⟩ := hx.ex
  refine L2.PS.to (ps_raise hc tk (pmk_oex T iC tI G hr hb .nil (passNo rfl rfl) hg hm ha hdb he hpl)) fun D σ H ⟨m, S, Dm, h1, h2, h3, h4⟩ => ?_
  refine ⟨m, S, _, _, h1, h2, h3, fun ds S1 vs H1 q1 e1 s1 r1 => ?_, xAt_ref h1 h4.ex⟩
  obtain ⟨hl, hz, q⟩ := q1
  have lv := r1.length
  refine ⟨by omega, fun a ha => ?_⟩
  rw [List.append_nil]
  refine ⟨a, vs, rfl, by omega, upd_same, fun H2 d hd ne e2 e3 e4 => ⟨rfl, d, flds fs vs, e2, e3, by rw [upd_ne ne] at hd; exact hd, ?_⟩⟩
  have hd1 : H1 d = none := by rw [upd_ne ne] at hd; exact hd
  have eH : upd (L2.del H2 a) d (.xd (flds fs vs)) = upd H1 d (.xd (flds fs vs)) := by
    funext b
    by_cases h : b = d
    · rw [h, upd_same, upd_same]
    · rw [upd_ne h, upd_ne h]
      by_cases h' : b = a
      · rw [h', L2.del_same, ha]
      · rw [L2.del_ne h', e4 b h' h, upd_ne h']
  rw [eH]
  have E1 := Ext.new (u := .xd (flds fs vs)) s1 hd1
  refine h4.ex ⟨C, some (flds fs ds)⟩ m S1 _ (some d) σ _ q (e1.trans E1) (s1.new hd1) (h1.ext (e1.trans E1)) ⟨rfl, d, flds fs vs, rfl, upd_same, s1.fresh hd1, ?_⟩
  exact (RKs.rev (rds_flds r1)).ext E1
def mMkF (C : Str) (fs : List Str) (f : Str) (t : MA) : ME := fun σ S Q E => t σ S (fun ds S1 => (ds.length = fs.length ∧ ds.length ≤ 1000) ∧ optP ((flds fs ds).lookup f) fun v => Q v S1) E
def excX : Option MO → Option (Str × Option (List (Str × D)))
  | some (.exc C fs) => some (C, fs)
  | _ => none
def exDX (S : Sto) : D → Option (Str × Option (List (Str × D)))
  | .ref p => excX (S p)
  | _ => none
def mIsX (ns : List Str) (x : Str) (m : ME) : ME := fun σ S Q E => m σ S (fun d S1 => optP (exDX S1 d) fun y => y.1 ∈ ns ∧ Q (.bl (subE y.1 x)) S1) E
def mIsXV (ns : List Str) (m : ME) : ME := fun σ S Q E => m σ S (fun d S1 => optP (exDX S1 d) fun y => y.1 ∈ ns ∧ Q (.bl true) S1) E
def mIsT (ns xs : List Str) (m : ME) : ME := fun σ S Q E => m σ S (fun d S1 => optP (exDX S1 d) fun y => y.1 ∈ ns ∧ Q (.bl (xs.any (subE y.1))) S1) E
def mXf (ns : List Str) (f : Str) (m : ME) : ME := fun σ S Q E => m σ S (fun d S1 => optP (exDX S1 d) fun y => y.1 ∈ ns ∧ optP y.2 fun gs => optP (gs.lookup f) fun v => Q v S1) E
end
section
variable {σ : MSt} {S : Sto} {Q : MQ} {E : MXQ} {m : ME} {t : MA} {De : MEnds} {ns xs : List Str} {x C f : Str} {fs : List Str}
theorem exDX_ref {p : Addr} : exDX S (.ref p) = excX (S p) := Eq.trans rfl rfl
theorem excX_exc {gs : Option (List (Str × D))} : excX (some (.exc C gs)) = some (C, gs) := Eq.trans rfl rfl
theorem l_mRaiseF : mRaiseF C fs t De σ S = t σ S (fun ds S1 => (ds.length = fs.length ∧ ds.length ≤ 1000) ∧ De.ex ⟨C, some (flds fs ds)⟩ σ S1) (xAt De σ) := by
  unfold mRaiseF
  simp only [and_assoc]
theorem l_mIsX : mIsX ns x m σ S Q E = m σ S (fun d S1 => optP (exDX S1 d) fun y => y.1 ∈ ns ∧ Q (.bl (subE y.1 x)) S1) E := Eq.trans rfl rfl
theorem l_mIsXV : mIsXV ns m σ S Q E = m σ S (fun d S1 => optP (exDX S1 d) fun y => y.1 ∈ ns ∧ Q (.bl true) S1) E := Eq.trans rfl rfl
theorem l_mIsT : mIsT ns xs m σ S Q E = m σ S (fun d S1 => optP (exDX S1 d) fun y => y.1 ∈ ns ∧ Q (.bl (xs.any (subE y.1))) S1) E := Eq.trans rfl rfl
theorem l_mXf : mXf ns f m σ S Q E = m σ S (fun d S1 => optP (exDX S1 d) fun y => y.1 ∈ ns ∧ optP y.2 fun gs => optP (gs.lookup f) fun v => Q v S1) E := Eq.trans rfl rfl
theorem l_mMkF : mMkF C fs f t σ S Q E = t σ S (fun ds S1 => (ds.length = fs.length ∧ ds.length ≤ 1000) ∧ optP ((flds fs ds).lookup f) fun v => Q v S1) E := Eq.trans rfl rfl
theorem flds1 {d : D} : flds [f] [d] = [(f, d)] := rfl
theorem flds2 {g : Str} {d e : D} : flds [f, g] [d, e] = [(g, e), (f, d)] := rfl
end
end ML
set_option maxRecDepth 100000
namespace ML
open PySem PySem.Spec L2
open PyProof.Rows hiding St
theorem nums_inj : ∀ {a b : List Int}, a.map NestedKey.num = b.map NestedKey.num → a = b
  | [], [], _ => rfl
  | [], _ :: _, h => by cases h
  | _ :: _, [], h => by cases h
  | x :: xs, y :: ys, h => by
    rw [List.map_cons, List.map_cons] at h
    injection h with h1 h2
    injection h1 with h1
    rw [h1, nums_inj h2]
theorem nkN_inj {a b : NK} (h : nkN a = nkN b) : a = b := by
  obtain ⟨a1, a2, a3⟩ := a
  obtain ⟨b1, b2, b3⟩ := b
  simp only [nkN] at h
  injection h with h
  injection h with h1 h2
  injection h2 with h2 h3
  injection h3 with h3 _
  injection h1 with h1
  injection h2 with h2
  injection h3 with h3
  rw [h1, h2, nums_inj h3]
theorem nums_depth : ∀ ns : List Int, NestedKey.depthAll (ns.map .num) = 0
  | [] => rfl
  | n :: ns => by rw [List.map_cons, NestedKey.depthAll, NestedKey.depth, nums_depth ns]; rfl
theorem nkN_depth (k : NK) : (nkN k).depth ≤ 8 := by
  simp only [nkN, NestedKey.depth, NestedKey.depthAll, nums_depth]; decide
theorem nums_hash (w : World) : ∀ ns : List Int, NestedKey.hashes w (ns.map .num) = ns.map hashInt
  | [] => rfl
  | n :: ns => by rw [List.map_cons, List.map_cons, NestedKey.hashes, NestedKey.hash, nums_hash w ns]
theorem nkN_hash (w : World) (k : NK) : (nkN k).hash w = hashN k := by
  simp only [nkN, hashN, NestedKey.hash, NestedKey.hashes, nums_hash]
def nKind (prog : Program) (w : World) : HeapKind prog w NK where
  is := fun h k a => (nestedKind prog w).is h (nkN k) a
  hash := hashN
  draws := fun k => (nestedKind prog w).draws (nkN k)
  room := fun A => (nestedKind prog w).room A
  inj := fun hx hy => nkN_inj ((nestedKind prog w).inj hx hy)
  keeps := fun x ho hd hs => (nestedKind prog w).keeps x ho hd hs
  pyHash := fun {A E s k a Q} hu hk h => (nestedKind prog w).pyHash hu hk (by
    show Q (NestedKey.hash w (nkN k)) _
    rw [nkN_hash]; exact h)
  eqBool := fun {A E s x y a b Q} hu hx hy h => (nestedKind prog w).eqBool hu hx hy (by
    have e : decide (nkN x = nkN y) = decide (x = y) := by
      rw [decide_eq_decide]; exact ⟨nkN_inj, fun z => by rw [z]⟩
    rw [e]; exact h)
  quiet := fun {A E s k a Q} hk h => (nestedKind prog w).quiet hk h
def KeyN (K : PySem.W.Frag) (H : Hp) (k : NK) (v : V) : Prop := ∃ p p1, v = .ref p ∧ SqT K H p [.int k.1, .int k.2.1, .ref p1] ∧ SqT K H p1 (k.2.2.map .int)
section
variable {X : Cx} {pins : List (Addr × Obj)} {σ : L2.St} {H : Hp} {s : Shared} {a p : Addr} {k : NK} {A : Around} {E : Value → Shared → Prop}
theorem three_at {a b c : V} {its : List Value} (r : Vals [a, b, c] its) : ∃ u v w, its = [u, v, w] ∧ RelV a u ∧ RelV b v ∧ RelV c w := by
  cases r with
  | cons r1 r => cases r with
    | cons r2 r => cases r with
      | cons r3 r => cases r; exact ⟨_, _, _, rfl, r1, r2, r3⟩
theorem nums_all {h : Heap} : ∀ {ns : List Int} {its : List Value}, Vals (ns.map V.int) its → NestedAll h (ns.map .num) its
  | [], _, .nil => .nil
  | n :: ns, _, .cons r rs => by
    obtain ⟨t, rfl⟩ := r
    exact .cons (.int _ _) (nums_all rs)
theorem keyN_is (I : Inv X pins σ H s) (h : KeyN X.K H k (.ref p)) : (nKind X.prog X.w).is s.heap k p := by
  obtain ⟨p', p1, e, h0, h1⟩ := h
  cases e
  obtain ⟨its, r, ⟨o, e1, e2, n, e3⟩, _⟩ := I.tuple h0
  obtain ⟨u, v, w, rfl, r1, r2, r3⟩ := three_at r
  obtain ⟨t1, rfl⟩ := r1
  obtain ⟨t2, rfl⟩ := r2
  obtain rfl : w = Value.ref p1 := r3
  obtain ⟨its2, r', ⟨o2, f1, f2, n2, f3⟩, _⟩ := I.tuple h1
  exact ⟨.tup e1 e2 e3 (.cons (.int _ _) (.cons (.int _ _) (.cons (.tup f1 f2 f3 (nums_all r')) .nil))), nkN_depth k⟩
structure DNat (K : PySem.W.Frag) (H : Hp) (a : Addr) (xs : List (NK × Addr × Value)) : Prop where
  at' : H a = some (DicN xs a)
  sys : (a == sysModules) = false
  key : ∀ x ∈ xs, KeyN K H x.1 (.ref x.2.1)
theorem DNat.of (I : Inv X pins σ H s) {xs : List (NK × Addr × Value)} (d : DNat X.K H a xs) : s.heap.DictOfH (nKind X.prog X.w) a xs := by
  obtain ⟨⟨o, es, ep, h1, h2, h3, h4, h5⟩, _⟩ := I.hok a _ d.at'
  exact ⟨o, es, ep, h1, h2, h3, h4, fun x hx => keyN_is I (d.key x hx), h5⟩
theorem DNat.type (I : Inv X pins σ H s) {xs : List (NK × Addr × Value)} (d : DNat X.K H a xs) : s.TypeIs (.ref a) "dict" := (d.of I).typeIs
end
end ML
namespace ML
open PySem PySem.Spec L2
open PyProof.Rows hiding St
section
variable {K : PySem.W.Frag} {H : Hp} {S : Sto}
theorem RN.length {kvs : List (NK × D)} {xs : List (NK × Addr × Value)} (r : RN K H S kvs xs) : kvs.length = xs.length := Paired.length r
theorem RN.val (k : NK) : ∀ {kvs : List (NK × D)} {xs : List (NK × Addr × Value)}, RN K H S kvs xs → (∀ v, valD kvs k = some v → ∃ u w, atKey xs k = some u ∧ RelV w u.2 ∧ RD K H S w v) ∧ (valD kvs k).isSome = (atKey xs k).isSome
  | _, _, .nil => ⟨fun v h => (by cases h), rfl⟩
  | p :: ps, q :: qs, .cons ⟨h1, h2, w, h3, h4⟩ r => by
    have ih := RN.val k r
    unfold valD atKey at *
    rw [List.find?_cons, List.find?_cons]
    by_cases e : p.1 = k
    · have e2 : q.1 = k := h1.symm.trans e
      simp only [e, e2, decide_true]
      exact ⟨fun v hv => by cases hv; exact ⟨_, w, rfl, h3, h4⟩, rfl⟩
    · have e2 : ¬ q.1 = k := fun z => e (h1.trans z)
      simp only [e, e2, decide_false]
      exact ih
end
end ML
set_option maxRecDepth 100000
namespace ML
open PySem PySem.Spec L2
end ML
set_option maxRecDepth 100000
set_option maxHeartbeats 1000000
namespace ML
open PySem PySem.Spec L2
open PyProof.Rows hiding St
end ML
namespace FL
open PySem PySem.Spec L2 ML
def fr (q : Rat) : D := .tup [.int q.num, .int (q.den : Nat)]
abbrev Pt := Rat × Rat
def spD (s : Pt) : D := .tup [fr s.1, fr s.2]
abbrev Wl := Pt × Pt
def wlD (w : Wl) : D := .tup [spD w.1, spD w.2]
def sz (q : Rat) : Nat := max q.num.natAbs.log2 q.den.log2 + 1
def SzS (n : Nat) (s : Pt) : Prop := sz s.1 ≤ n ∧ sz s.2 ≤ n
def ahead (a b : Pt) : Prop := a.1 < b.1 ∨ (a.1 = b.1 ∧ a.2 < b.2)
instance : DecidableRel ahead := fun a b => by unfold ahead; infer_instance
def alng (w : Wl) : Pt := (w.2.1 - w.1.1, w.2.2 - w.1.2)
def crs (u v : Pt) : Rat := u.1 * v.2 - u.2 * v.1
def sgn (q : Rat) : Int := if 0 < q then 1 else if q < 0 then -1 else 0
def side (w : Wl) (s : Pt) : Int := sgn (crs (alng w) (alng (w.1, s)))
def liesOn (w : Wl) (s : Pt) : Prop := ¬ ahead s w.1 ∧ ¬ ahead w.2 s ∧ side w s = 0
instance : Decidable (liesOn w s) := by unfold liesOn; infer_instance
def spansW (w : Wl) (s : Pt) : Prop := ¬ ahead s w.1 ∧ ahead s w.2
instance : Decidable (spansW w s) := by unfold spansW; infer_instance
def rowO (c n : Int) : MO := .lst [.int c, .int n]
def sp_cell_at : MSp := fun ds S Q _ => ∃ (ns : List Int) (k : Nat), ds = [.scr (ns.map .int), .int k] ∧ ∀ c : Int, Q (.int c) S
def sp_take : MSp := fun ds S Q _ => ∃ (p : Addr) (c : Int) (n : Nat) (z : Int), ds = [.ref p, .int z] ∧ S p = some (rowO c n) ∧ 0 < z ∧ z < 2 ^ 200 ∧ n < 2 ^ 60 ∧ ∀ r c' : Int, 0 ≤ r → r < z → Q (.int r) (put S p (rowO c' (n + 1 : Nat)))
def sp_low : MSp := fun ds S Q _ => ∃ t b : Int, ds = [.int t, .int b] ∧ b ≠ 0 ∧ b.natAbs.log2 < 9000 ∧ Q (fr (Rat.divInt t b)) S
def sp_divisor : MSp := fun ds S Q _ => ∃ a b : Nat, ds = [.int a, .int b] ∧ Q (.int (Nat.gcd a b : Nat)) S
def two (f : Rat → Rat → Rat) : MSp := fun ds S Q _ => ∃ p q : Rat, ds = [fr p, fr q] ∧ sz p + sz q < 8000 ∧ Q (fr (f p q)) S
abbrev sp_plus : MSp := two (· + ·)
abbrev sp_less : MSp := two (· - ·)
abbrev sp_times : MSp := two (· * ·)
def sp_over : MSp := fun ds S Q _ => ∃ p q : Rat, ds = [fr p, fr q] ∧ sz p + sz q < 8000 ∧ q ≠ 0 ∧ Q (fr (p / q)) S
abbrev sp_law_less : MSp := two (· - ·)
def sp_is_less : MSp := fun ds S Q _ => ∃ p q : Rat, ds = [fr p, fr q] ∧ sz p + sz q < 8000 ∧ Q (.bl (decide (p < q))) S
def sp_is_ahead : MSp := fun ds S Q _ => ∃ a b : Pt, ds = [spD a, spD b] ∧ (∃ n, SzS n a ∧ SzS n b ∧ n < 4000) ∧ Q (.bl (decide (ahead a b))) S
def sp_along : MSp := fun ds S Q _ => ∃ w : Wl, ds = [wlD w] ∧ (∃ n, SzS n w.1 ∧ SzS n w.2 ∧ n < 4000) ∧ Q (spD (alng w)) S
def sp_crossed : MSp := fun ds S Q _ => ∃ u v : Pt, ds = [spD u, spD v] ∧ (∃ n, SzS n u ∧ SzS n v ∧ n < 1900) ∧ Q (fr (crs u v)) S
def sp_leaning : MSp := fun ds S Q _ => ∃ u v : Pt, ds = [spD u, spD v] ∧ (∃ n, SzS n u ∧ SzS n v ∧ n < 1900) ∧ Q (.int (sgn (crs u v))) S
def sp_side_of : MSp := fun ds S Q _ => ∃ (w : Wl) (s : Pt), ds = [wlD w, spD s] ∧ (∃ n, SzS n w.1 ∧ SzS n w.2 ∧ SzS n s ∧ n < 900) ∧ Q (.int (side w s)) S
def sp_lies_on : MSp := fun ds S Q _ => ∃ (w : Wl) (s : Pt), ds = [wlD w, spD s] ∧ (∃ n, SzS n w.1 ∧ SzS n w.2 ∧ SzS n s ∧ n < 900) ∧ Q (.bl (decide (liesOn w s))) S
def sp_spans : MSp := fun ds S Q _ => ∃ (w : Wl) (s : Pt), ds = [wlD w, spD s] ∧ (∃ n, SzS n w.1 ∧ SzS n w.2 ∧ SzS n s ∧ n < 4000) ∧ Q (.bl (decide (spansW w s))) S
theorem sz_pos (q : Rat) : 1 ≤ sz q := by unfold sz; omega
theorem sz_num (q : Rat) : q.num.natAbs < 2 ^ sz q := by
  unfold sz
  exact Nat.lt_of_lt_of_le Nat.lt_log2_self (Nat.pow_le_pow_right (by decide) (by omega))
theorem sz_den (q : Rat) : q.den < 2 ^ sz q := by
  unfold sz
  exact Nat.lt_of_lt_of_le Nat.lt_log2_self (Nat.pow_le_pow_right (by decide) (by omega))
theorem log2_lt' {a n : Nat} (h : a < 2 ^ n) (hn : 0 < n) : a.log2 < n := by
  by_cases z : a = 0
  · subst z; simpa using hn
  · exact (Nat.log2_lt z).mpr h
theorem log2_mono {a b : Nat} (h : a ≤ b) : a.log2 ≤ b.log2 := by
  have := log2_lt' (Nat.lt_of_le_of_lt h (Nat.lt_log2_self (n := b))) (by omega)
  omega
theorem sz_le {q : Rat} {n : Nat} (hn : 0 < n) (h1 : q.num.natAbs < 2 ^ n) (h2 : q.den < 2 ^ n) : sz q ≤ n := by
  have := log2_lt' h1 hn
  have := log2_lt' h2 hn
  unfold sz; omega
theorem sz_divInt {t b : Int} {n : Nat} (hn : 0 < n) (h1 : t.natAbs < 2 ^ n) (h2 : b.natAbs < 2 ^ n) : sz (Rat.divInt t b) ≤ n := by
  refine sz_le hn ?_ ?_
  · rw [Rat.num_divInt, Int.natAbs_ediv_of_dvd]
    · refine Nat.lt_of_le_of_lt (Nat.div_le_self _ _) ?_
      rw [Int.natAbs_mul]
      rcases Int.lt_trichotomy b 0 with h | h | h
      · rw [Int.sign_eq_neg_one_of_neg h]; simpa using h1
      · subst h; simp; exact Nat.two_pow_pos n
      · rw [Int.sign_eq_one_of_pos h]; simpa using h1
    · exact Int.dvd_mul_of_dvd_right (Int.gcd_dvd_right ..)
  · rw [Rat.den_divInt]
    split
    · exact Nat.one_lt_two_pow (by omega)
    · exact Nat.lt_of_le_of_lt (Nat.div_le_self _ _) h2
theorem natAbs_mul_lt {i j : Int} {a b : Nat} (h1 : i.natAbs < 2 ^ a) (h2 : j.natAbs < 2 ^ b) : (i * j).natAbs < 2 ^ (a + b) := by
  rw [Int.natAbs_mul, Nat.pow_add]
  exact Nat.mul_lt_mul'' h1 h2
theorem natAbs_add_lt {i j : Int} {a : Nat} (h1 : i.natAbs < 2 ^ a) (h2 : j.natAbs < 2 ^ a) : (i + j).natAbs < 2 ^ (a + 1) := by
  rw [Nat.pow_succ]; omega
theorem den_abs (q : Rat) : ((q.den : Nat) : Int).natAbs < 2 ^ sz q := by simpa using sz_den q
theorem sz_add (p q : Rat) : sz (p + q) ≤ sz p + sz q + 1 := by
  rw [Rat.add_def', ← Rat.divInt_ofNat]
  refine sz_divInt (by omega) (natAbs_add_lt (natAbs_mul_lt (sz_num p) (den_abs q)) ?_) ?_
  · rw [Nat.add_comm (sz p)]; exact natAbs_mul_lt (sz_num q) (den_abs p)
  · rw [Int.natCast_mul]; exact Nat.lt_of_lt_of_le (natAbs_mul_lt (den_abs p) (den_abs q)) (Nat.pow_le_pow_right (by decide) (by omega))
theorem sz_neg (p : Rat) : sz (-p) = sz p := by simp [sz]
theorem sz_sub (p q : Rat) : sz (p - q) ≤ sz p + sz q + 1 := by
  rw [Rat.sub_eq_add_neg]
  have := sz_add p (-q)
  rwa [sz_neg] at this
theorem sz_mul (p q : Rat) : sz (p * q) ≤ sz p + sz q := by
  rw [Rat.mul_def', ← Rat.divInt_ofNat]
  have := sz_pos p
  refine sz_divInt (by omega) (natAbs_mul_lt (sz_num p) (sz_num q)) ?_
  · rw [Int.natCast_mul]; exact natAbs_mul_lt (den_abs p) (den_abs q)
theorem div_eq (p q : Rat) : p / q = Rat.divInt (p.num * q.den) (p.den * q.num) := by
  rw [Rat.div_def, Rat.inv_def, ← Rat.divInt_mul_divInt, Rat.num_divInt_den]
theorem sz_div (p q : Rat) : sz (p / q) ≤ sz p + sz q := by
  rw [div_eq]
  have := sz_pos p
  exact sz_divInt (by omega) (natAbs_mul_lt (sz_num p) (den_abs q)) (natAbs_mul_lt (den_abs p) (sz_num q))
theorem ok_nn {p q : Rat} (h : sz p + sz q ≤ 100000) : IntMulOk p.num q.num := by
  have := sz_pos p; have := sz_pos q
  exact mulok_w (sz_num p) (sz_num q) (by omega) (by omega) (by omega)
theorem ok_nd {p q : Rat} (h : sz p + sz q ≤ 100000) : IntMulOk p.num (q.den : Nat) := by
  have := sz_pos p; have := sz_pos q
  exact mulok_w (sz_num p) (den_abs q) (by omega) (by omega) (by omega)
theorem ok_dd {p q : Rat} (h : sz p + sz q ≤ 100000) : IntMulOk (p.den : Nat) (q.den : Nat) := by
  have := sz_pos p; have := sz_pos q
  exact mulok_w (den_abs p) (den_abs q) (by omega) (by omega) (by omega)
theorem ok_dn {p q : Rat} (h : sz p + sz q ≤ 100000) : IntMulOk (p.den : Nat) q.num := by
  have := sz_pos p; have := sz_pos q
  exact mulok_w (den_abs p) (sz_num q) (by omega) (by omega) (by omega)
theorem cp {i j : Int} (h : 0 ≤ j ∧ j ≤ 1000000 ∧ i.natAbs < 2 ^ 64 := by decide) : CPow i j := h
theorem den_ne (q : Rat) : ((q.den : Nat) : Int) ≠ 0 := by have := q.den_nz; omega
theorem ahead_irrefl (a : Pt) : ¬ ahead a a := by unfold ahead; grind
theorem ahead_asymm {a b : Pt} (h : ahead a b) : ¬ ahead b a := by unfold ahead at *; grind
theorem ahead_trans {a b c : Pt} (h : ahead a b) (h2 : ahead b c) : ahead a c := by unfold ahead at *; grind
theorem ahead_tri (a b : Pt) : ahead a b ∨ a = b ∨ ahead b a := by
  obtain ⟨a1, a2⟩ := a
  obtain ⟨b1, b2⟩ := b
  unfold ahead
  simp only [Prod.mk.injEq]
  grind
theorem tup_fr {q : Rat} : D.tup [.int q.num, .int (q.den : Nat)] = fr q := Eq.trans rfl rfl
theorem tup_sp {a b : Rat} : D.tup [fr a, fr b] = spD (a, b) := Eq.trans rfl rfl
theorem tup_wl {a b : Pt} : D.tup [spD a, spD b] = wlD (a, b) := Eq.trans rfl rfl
theorem tyD_fr {S : Sto} {q : Rat} : tyD S (fr q) = some "tuple" := Eq.trans rfl rfl
theorem tyD_sp {S : Sto} {s : Pt} : tyD S (spD s) = some "tuple" := Eq.trans rfl rfl
theorem tyD_wl {S : Sto} {w : Wl} : tyD S (wlD w) = some "tuple" := Eq.trans rfl rfl
theorem isN_fr {q : Rat} : isN (fr q) = false := Eq.trans rfl rfl
theorem isN_sp {s : Pt} : isN (spD s) = false := Eq.trans rfl rfl
theorem isN_wl {w : Wl} : isN (wlD w) = false := Eq.trans rfl rfl
theorem lenD_sp {S : Sto} {s : Pt} : lenD S (spD s) = some 2 := Eq.trans rfl rfl
theorem lenD_wl {S : Sto} {s : Wl} : lenD S (wlD s) = some 2 := Eq.trans rfl rfl
theorem rAdd_wl_tup {w : Wl} {ds : List D} {S : Sto} {Q : MQ} : rAdd (wlD w) (.tup ds) S Q = ((([spD w.1, spD w.2] : List D) ≠ [] ∧ 2 + ds.length ≤ sizeLine) ∧ Q (.tup (spD w.1 :: spD w.2 :: ds)) S) := Eq.trans rfl rfl
theorem tupOf_fr {q : Rat} : tupOf (fr q) = some [.int q.num, .int (q.den : Nat)] := Eq.trans rfl rfl
theorem tupOf_sp {s : Pt} : tupOf (spD s) = some [fr s.1, fr s.2] := Eq.trans rfl rfl
theorem tupOf_wl {w : Wl} : tupOf (wlD w) = some [spD w.1, spD w.2] := Eq.trans rfl rfl
theorem gTp_at {n : Nat} {gs : MGs} {d : D} {σ : MSt} {S : Sto} {Q : MSt → Sto → Prop} {E : MXQ} : gTp n gs d σ S Q E = match tupOf d with
  | some ds => ds.length = n ∧ gs ds σ S Q E
  | none => False := by cases d <;> rfl
theorem nz0 : (0 : Int) + ((0 : Nat) : Int) = 0 := rfl
theorem nz1 : (0 : Int) + ((1 : Nat) : Int) = 1 := rfl
theorem nz2 : (0 : Int) + ((2 : Nat) : Int) = 2 := rfl
theorem nz3 : (0 : Int) + ((3 : Nat) : Int) = 3 := rfl
theorem seqOf_tup {S : Sto} {ds : List D} : seqOf S (.tup ds) = some ds := Eq.trans rfl rfl
theorem seqOf_lst {S : Sto} {ds : List D} : seqOf S (.lst ds) = some ds := Eq.trans rfl rfl
theorem seqOf_scr {S : Sto} {ds : List D} : seqOf S (.scr ds) = some ds := Eq.trans rfl rfl
theorem seqOf_ref {S : Sto} {p : Addr} : seqOf S (.ref p) = lstOf S (.ref p) := Eq.trans rfl rfl
theorem look_non {S : Sto} : look S .non = .non := Eq.trans rfl rfl
theorem look_int {S : Sto} {i : Int} : look S (.int i) = .int i := Eq.trans rfl rfl
theorem look_bl {S : Sto} {i : Bool} : look S (.bl i) = .bl i := Eq.trans rfl rfl
theorem look_str {S : Sto} {i : Str} : look S (.str i) = .str i := Eq.trans rfl rfl
theorem look_tup {S : Sto} {ds : List D} : look S (.tup ds) = .tup ds := Eq.trans rfl rfl
theorem look_lst {S : Sto} {ds : List D} : look S (.lst ds) = .lst ds := Eq.trans rfl rfl
theorem look_scr {S : Sto} {ds : List D} : look S (.scr ds) = .scr ds := Eq.trans rfl rfl
theorem look_ref {S : Sto} {p : Addr} {ds : List D} (h : S p = some (.lst ds)) : look S (.ref p) = .lst ds := by simp only [look, h]
theorem seqOf_fr {S : Sto} {q : Rat} : seqOf S (fr q) = some [.int q.num, .int (q.den : Nat)] := Eq.trans rfl rfl
theorem seqOf_sp {S : Sto} {s : Pt} : seqOf S (spD s) = some [fr s.1, fr s.2] := Eq.trans rfl rfl
theorem seqOf_wl {S : Sto} {w : Wl} : seqOf S (wlD w) = some [spD w.1, spD w.2] := Eq.trans rfl rfl
theorem look_fr {S : Sto} {q : Rat} : look S (fr q) = fr q := Eq.trans rfl rfl
theorem look_sp {S : Sto} {s : Pt} : look S (spD s) = spD s := Eq.trans rfl rfl
theorem look_wl {S : Sto} {w : Wl} : look S (wlD w) = wlD w := Eq.trans rfl rfl
theorem plain_fr (q : Rat) : D.plain (fr q) = true := by simp [fr, D.plain, D.plains]
theorem plain_sp (s : Pt) : D.plain (spD s) = true := by simp [spD, D.plain, D.plains, plain_fr]
theorem plain_wl (w : Wl) : D.plain (wlD w) = true := by simp [wlD, D.plain, D.plains, plain_sp]
theorem dep_fr (q : Rat) : D.dep (fr q) = 1 := by simp [fr, D.dep, D.deps]
theorem dep_sp (s : Pt) : D.dep (spD s) = 2 := by simp [spD, D.dep, D.deps, dep_fr]
theorem dep_wl (w : Wl) : D.dep (wlD w) = 3 := by simp [wlD, D.dep, D.deps, dep_sp]
theorem eqOk_of {d e : D} (h1 : D.plain d = true) (h2 : D.plain e = true) (h3 : D.dep d ≤ 64) (h4 : D.dep e ≤ 64) : eqOk d e = true := by
  unfold eqOk
  split
  · rfl
  · simp [h1, h2, h3, h4]
theorem eqOk_fr {p q : Rat} : eqOk (fr p) (fr q) = true := eqOk_of (plain_fr p) (plain_fr q) (by rw [dep_fr]; decide) (by rw [dep_fr]; decide)
theorem eqOk_sp {p q : Pt} : eqOk (spD p) (spD q) = true := eqOk_of (plain_sp p) (plain_sp q) (by rw [dep_sp]; decide) (by rw [dep_sp]; decide)
theorem eqOk_wl {p q : Wl} : eqOk (wlD p) (wlD q) = true := eqOk_of (plain_wl p) (plain_wl q) (by rw [dep_wl]; decide) (by rw [dep_wl]; decide)
theorem fr_inj {p q : Rat} : fr p = fr q ↔ p = q := by
  constructor
  · intro h
    simp only [fr, D.tup.injEq, List.cons.injEq, D.int.injEq, and_true] at h
    exact Rat.ext h.1 (by omega)
  · rintro rfl; rfl
theorem deq_fr {p q : Rat} : D.deq (fr p) (fr q) = decide (p = q) := by
  simp only [fr, D.deq, D.deqs, Bool.and_true]
  rw [Bool.eq_iff_iff]
  simp only [Bool.and_eq_true, beq_iff_eq, decide_eq_true_eq]
  exact ⟨fun ⟨a, b⟩ => Rat.ext a (by omega), fun h => by subst h; exact ⟨rfl, rfl⟩⟩
theorem deq_sp {p q : Pt} : D.deq (spD p) (spD q) = decide (p = q) := by
  simp only [spD, D.deq, D.deqs, Bool.and_true, deq_fr]
  rw [Bool.eq_iff_iff]
  simp only [Bool.and_eq_true, decide_eq_true_eq]
  exact ⟨fun ⟨a, b⟩ => Prod.ext a b, fun h => by subst h; exact ⟨rfl, rfl⟩⟩
theorem deq_wl {p q : Wl} : D.deq (wlD p) (wlD q) = decide (p = q) := by
  simp only [wlD, D.deq, D.deqs, Bool.and_true, deq_sp]
  rw [Bool.eq_iff_iff]
  simp only [Bool.and_eq_true, decide_eq_true_eq]
  exact ⟨fun ⟨a, b⟩ => Prod.ext a b, fun h => by subst h; exact ⟨rfl, rfl⟩⟩
end FL
set_option maxRecDepth 100000
namespace FL
open PySem PySem.Spec L2 ML
def b_cell_at : MS := (mSeq (mIfS (mTst (mOp aLt (mVar 1) (mBlt bLen (mCons (mVar 0) mNil)))) (mRet (mOp rIxM (mVar 0) (mVar 1))) mNext)
  (mRet (mC (.int 0))))
def b_take : MS := (mSeq (mAsg (mOp rAdd (mOp rIxM (mVar 0) (mC (.int 1))) (mC (.int 1))) (gSb (mVar 0) (mC (.int 1))))
  (mSeq (mIfS (mTst (mOp aGe (mOp rIxM (mVar 0) (mC (.int 0))) (mOp rPow (mC (.int 10)) (mC (.int 18))))) (mSeq (mSet 2 (mOp rSub (mOp rIxM (mVar 0) (mC (.int 0))) (mOp rPow (mC (.int 10)) (mC (.int 18)))))
  (mSeq (mAsg (mOp rAdd (mOp rPow (mC (.int 10)) (mC (.int 18))) (mOp rDiv (mVar 2) (mVar 1))) (gSb (mVar 0) (mC (.int 0))))
  (mRet (mOp rMod (mVar 2) (mVar 1))))) mNext)
  (mSeq (mSet 3 (mOp rMod (mOp rAdd (mOp rAdd (mOp rAdd (mOp rMul (mOp rIxM (mVar 0) (mC (.int 0))) (mC (.int 40692))) (mOp rMul (mOp rMul (mC (.int 104729)) (mOp rIxM (mVar 0) (mC (.int 1)))) (mOp rIxM (mVar 0) (mC (.int 1))))) (mOp rMul (mC (.int 31)) (mOp rIxM (mVar 0) (mC (.int 1))))) (mC (.int 5))) (mC (.int 2147483399))))
  (mSeq (mSet 3 (mOp rMod (mOp rAdd (mOp rAdd (mOp rMul (mVar 3) (mVar 3)) (mOp rMul (mC (.int 48271)) (mVar 3))) (mOp rIxM (mVar 0) (mC (.int 1)))) (mC (.int 2147483647))))
  (mRet (mOp rMod (mOp rDiv (mVar 3) (mC (.int 7))) (mVar 1)))))))
def b_low : MS := (mSeq (mSet 2 (mBlt bAbs (mCons (mVar 0) mNil)))
  (mSeq (mSet 3 (mBlt bAbs (mCons (mVar 1) mNil)))
  (mSeq (mWhile (mTst (mOp rNeM (mVar 3) (mC (.int 0)))) (mPar 2 3 (mCons (mVar 3) (mCons (mOp rMod (mVar 2) (mVar 3)) mNil))))
  (mSeq (mIfS (mTst (mOp aLt (mVar 1) (mC (.int 0)))) (mSet 2 (mUn rNeg (mVar 2))) mNext)
  (mRet (mTup (mCons (mOp rDiv (mVar 0) (mVar 2)) (mCons (mOp rDiv (mVar 1) (mVar 2)) mNil))))))))
def b_divisor : MS := (mSeq (mWhile (mTst (mOp rNeM (mVar 1) (mC (.int 0)))) (mPar 0 1 (mCons (mVar 1) (mCons (mOp rMod (mVar 0) (mVar 1)) mNil))))
  (mRet (mVar 0)))
def b_is_less : MS := (mRet (mOp aLt (mOp rMul (mOp rIxM (mVar 0) (mC (.int 0))) (mOp rIxM (mVar 1) (mC (.int 1)))) (mOp rMul (mOp rIxM (mVar 1) (mC (.int 0))) (mOp rIxM (mVar 0) (mC (.int 1))))))
def b_fraction : MS := (mSeq (mIfS (mTst (mOp rEqM (mVar 1) (mC (.int 0)))) mNever mNext)
  (mSeq (mSet 2 (mCall FL.sp_divisor (mCons (mBlt bAbs (mCons (mVar 0) mNil)) (mCons (mBlt bAbs (mCons (mVar 1) mNil)) mNil))))
  (mSeq (mIfS (mTst (mOp aLt (mVar 1) (mC (.int 0)))) (mSet 2 (mUn rNeg (mVar 2))) mNext)
  (mRet (mTup (mCons (mOp rDiv (mVar 0) (mVar 2)) (mCons (mOp rDiv (mVar 1) (mVar 2)) mNil)))))))
def b_is_ahead : MS := (mSeq (mIfS (mTst (mOp rNeM (mOp rIxM (mVar 0) (mC (.int 0))) (mOp rIxM (mVar 1) (mC (.int 0))))) (mRet (mCall FL.sp_is_less (mCons (mOp rIxM (mVar 0) (mC (.int 0))) (mCons (mOp rIxM (mVar 1) (mC (.int 0))) mNil)))) mNext)
  (mRet (mCall FL.sp_is_less (mCons (mOp rIxM (mVar 0) (mC (.int 1))) (mCons (mOp rIxM (mVar 1) (mC (.int 1))) mNil)))))
def b_plus : MS := (mRet (mCall FL.sp_low (mCons (mOp rAdd (mOp rMul (mOp rIxM (mVar 0) (mC (.int 0))) (mOp rIxM (mVar 1) (mC (.int 1)))) (mOp rMul (mOp rIxM (mVar 1) (mC (.int 0))) (mOp rIxM (mVar 0) (mC (.int 1))))) (mCons (mOp rMul (mOp rIxM (mVar 0) (mC (.int 1))) (mOp rIxM (mVar 1) (mC (.int 1)))) mNil))))
def b_less : MS := (mRet (mCall FL.sp_low (mCons (mOp rSub (mOp rMul (mOp rIxM (mVar 0) (mC (.int 0))) (mOp rIxM (mVar 1) (mC (.int 1)))) (mOp rMul (mOp rIxM (mVar 1) (mC (.int 0))) (mOp rIxM (mVar 0) (mC (.int 1))))) (mCons (mOp rMul (mOp rIxM (mVar 0) (mC (.int 1))) (mOp rIxM (mVar 1) (mC (.int 1)))) mNil))))
def b_times : MS := (mRet (mCall FL.sp_low (mCons (mOp rMul (mOp rIxM (mVar 0) (mC (.int 0))) (mOp rIxM (mVar 1) (mC (.int 0)))) (mCons (mOp rMul (mOp rIxM (mVar 0) (mC (.int 1))) (mOp rIxM (mVar 1) (mC (.int 1)))) mNil))))
def b_over : MS := (mRet (mCall FL.sp_low (mCons (mOp rMul (mOp rIxM (mVar 0) (mC (.int 0))) (mOp rIxM (mVar 1) (mC (.int 1)))) (mCons (mOp rMul (mOp rIxM (mVar 0) (mC (.int 1))) (mOp rIxM (mVar 1) (mC (.int 0)))) mNil))))
def b_along : MS := (mSeq (mAsg (mVar 0) (gTp 2 (gCn (gNm 1) (gCn (gNm 2) gNl))))
  (mRet (mTup (mCons (mCall FL.sp_less (mCons (mOp rIxM (mVar 2) (mC (.int 0))) (mCons (mOp rIxM (mVar 1) (mC (.int 0))) mNil))) (mCons (mCall FL.sp_less (mCons (mOp rIxM (mVar 2) (mC (.int 1))) (mCons (mOp rIxM (mVar 1) (mC (.int 1))) mNil))) mNil)))))
def b_crossed : MS := (mRet (mCall FL.sp_less (mCons (mCall FL.sp_times (mCons (mOp rIxM (mVar 0) (mC (.int 0))) (mCons (mOp rIxM (mVar 1) (mC (.int 1))) mNil))) (mCons (mCall FL.sp_times (mCons (mOp rIxM (mVar 0) (mC (.int 1))) (mCons (mOp rIxM (mVar 1) (mC (.int 0))) mNil))) mNil))))
def b_leaning : MS := (mSeq (mSet 2 (mCall FL.sp_crossed (mCons (mVar 0) (mCons (mVar 1) mNil))))
  (mRet (mOp rSub (mBlt bInt (mCons (mOp aGt (mOp rIxM (mVar 2) (mC (.int 0))) (mC (.int 0))) mNil)) (mBlt bInt (mCons (mOp aLt (mOp rIxM (mVar 2) (mC (.int 0))) (mC (.int 0))) mNil)))))
def b_side_of : MS := (mRet (mCall FL.sp_leaning (mCons (mCall FL.sp_along (mCons (mVar 0) mNil)) (mCons (mCall FL.sp_along (mCons (mTup (mCons (mOp rIxM (mVar 0) (mC (.int 0))) (mCons (mVar 1) mNil))) mNil)) mNil))))
def b_lies_on : MS := (mSeq (mAsg (mVar 0) (gTp 2 (gCn (gNm 2) (gCn (gNm 3) gNl))))
  (mSeq (mIfS (mOr (mTru (mCall FL.sp_is_ahead (mCons (mVar 1) (mCons (mVar 2) mNil)))) (mTru (mCall FL.sp_is_ahead (mCons (mVar 3) (mCons (mVar 1) mNil))))) (mRet (mC (.bl false))) mNext)
  (mRet (mOp rEqM (mCall FL.sp_side_of (mCons (mVar 0) (mCons (mVar 1) mNil))) (mC (.int 0))))))
end FL
set_option maxRecDepth 100000
namespace FL
open PySem PySem.Spec L2 ML
theorem l_cell_at : ∀ ds S Q E, FL.sp_cell_at ds S Q E → ds.length = 2 := by rintro _ _ _ _ ⟨_, _, rfl, _⟩; rfl
theorem l_take : ∀ ds S Q E, FL.sp_take ds S Q E → ds.length = 2 := by rintro _ _ _ _ ⟨_, _, _, _, rfl, _⟩; rfl
theorem l_low : ∀ ds S Q E, FL.sp_low ds S Q E → ds.length = 2 := by rintro _ _ _ _ ⟨_, _, rfl, _⟩; rfl
theorem l_divisor : ∀ ds S Q E, FL.sp_divisor ds S Q E → ds.length = 2 := by rintro _ _ _ _ ⟨_, _, rfl, _⟩; rfl
theorem l_fraction : ∀ ds S Q E, sp_low ds S Q E → ds.length = 2 := l_low
theorem l_two {f : Rat → Rat → Rat} : ∀ ds S Q E, two f ds S Q E → ds.length = 2 := by rintro _ _ _ _ ⟨p, c, rfl, _⟩; rfl
theorem l_plus : ∀ ds S Q E, sp_plus ds S Q E → ds.length = 2 := l_two
theorem l_less : ∀ ds S Q E, sp_less ds S Q E → ds.length = 2 := l_two
theorem l_times : ∀ ds S Q E, sp_times ds S Q E → ds.length = 2 := l_two
theorem l_over : ∀ ds S Q E, FL.sp_over ds S Q E → ds.length = 2 := by rintro _ _ _ _ ⟨_, _, rfl, _⟩; rfl
theorem l_is_less : ∀ ds S Q E, FL.sp_is_less ds S Q E → ds.length = 2 := by rintro _ _ _ _ ⟨_, _, rfl, _⟩; rfl
theorem l_is_ahead : ∀ ds S Q E, FL.sp_is_ahead ds S Q E → ds.length = 2 := by rintro _ _ _ _ ⟨_, _, rfl, _⟩; rfl
theorem l_along : ∀ ds S Q E, FL.sp_along ds S Q E → ds.length = 1 := by rintro _ _ _ _ ⟨_, rfl, _⟩; rfl
theorem l_crossed : ∀ ds S Q E, FL.sp_crossed ds S Q E → ds.length = 2 := by rintro _ _ _ _ ⟨_, _, rfl, _⟩; rfl
theorem l_leaning : ∀ ds S Q E, FL.sp_leaning ds S Q E → ds.length = 2 := by rintro _ _ _ _ ⟨_, _, rfl, _⟩; rfl
theorem l_side_of : ∀ ds S Q E, FL.sp_side_of ds S Q E → ds.length = 2 := by rintro _ _ _ _ ⟨_, _, rfl, _⟩; rfl
theorem l_lies_on : ∀ ds S Q E, FL.sp_lies_on ds S Q E → ds.length = 2 := by rintro _ _ _ _ ⟨_, _, rfl, _⟩; rfl
theorem r_cell_at : ∀ ds S Q E, FL.sp_cell_at ds S Q E → b_cell_at (mends Q E) (mstart 0 ds) S := by
  rintro _ S Q E ⟨ns, k, rfl, q⟩
  unfold b_cell_at
  simp only [ML.q_mstart, ML.q_mends, List.map_cons, List.map_nil, List.replicate, List.cons_append, List.nil_append]
  simp only [gz0]
  split
  · next h =>
    have h : k < ns.length := by simpa using h
    rw [scr_get h]
    exact q _
  · exact q _
theorem r_take : ∀ ds S Q E, FL.sp_take ds S Q E → b_take (mends Q E) (mstart 2 ds) S := by
  rintro _ S Q E ⟨p, c, n, z, rfl, hp, h0, h1, hn, q⟩
  have hz : z.natAbs < 2 ^ 200 := by omega
  unfold b_take
  simp only [ML.q_mstart, ML.q_mends, List.map_cons, List.map_nil, List.replicate, List.cons_append, List.nil_append]
  simp only [gz0, hp, rowO]
  have e : ((n + 1 : Nat) : Int) = (n : Int) + 1 := by omega
  rw [e] at q
  refine ⟨cp, ?_⟩
  split
  · refine ⟨cp, cp, divok_w (by omega) hz (by decide) (by decide), by omega, ?_⟩
    rw [put_put, fmod_pos (j := z) (by omega)]
    exact q _ _ (Int.emod_nonneg _ (by omega)) (Int.emod_lt_of_pos _ (by omega))
  · refine ⟨mulok_r (by decide) (by decide), mulok_r (by omega) (by omega), mulok_r (by omega) (by omega), mulok_r (by omega) (by omega), by decide, ?_⟩
    generalize hx : (c * 40692 + 104729 * ((n : Int) + 1) * ((n : Int) + 1) + 31 * ((n : Int) + 1) + 5).fmod 2147483399 = x
    rw [fmod_pos (by decide)] at hx
    have x0 : 0 ≤ x ∧ x < 2147483399 := by omega
    refine ⟨mulok_r (by omega) (by omega), mulok_r (by omega) (by omega), by decide, divok_s (by decide) (by decide), by omega, ?_⟩
    rw [fmod_pos (j := z) (by omega)]
    exact q _ _ (Int.emod_nonneg _ (by omega)) (Int.emod_lt_of_pos _ (by omega))
theorem gcd_step {i j : Nat} (h : ¬ j = 0) : Nat.gcd i j = Nat.gcd j (i % j) := by rw [Nat.gcd_comm, Nat.gcd_rec, Nat.gcd_comm]
theorem r_divisor : ∀ ds S Q E, FL.sp_divisor ds S Q E → b_divisor (mends Q E) (mstart 0 ds) S := by
  rintro _ S Q E ⟨a, b, rfl, q⟩
  unfold b_divisor
  simp only [ML.q_mstart, ML.q_mends, List.map_cons, List.map_nil, List.replicate, List.cons_append, List.nil_append]
  simp only [gz0]
  refine ⟨fun k σ S' => ∃ i j : Nat, σ = [some (.int i), some (.int j)] ∧ k = j ∧ Nat.gcd i j = Nat.gcd a b ∧ S' = S, ⟨b, a, b, rfl, rfl, rfl, rfl⟩, ?_⟩
  rintro k σ S' ⟨i, j, rfl, rfl, hg, rfl⟩
  simp only [gz0]
  by_cases z : k = 0
  · subst z
    rw [if_neg (by decide)]
    rw [Nat.gcd_zero_right] at hg
    rw [hg]; exact q
  · rw [if_pos (by simpa using z)]
    refine ⟨by omega, i % k, Nat.mod_lt _ (by omega), k, i % k, ?_, rfl, by rw [← gcd_step z]; exact hg⟩
    rw [fmod_pos (by omega)]; simp
theorem low_val {t b : Int} (hb : b ≠ 0) {g : Int} (h : g = if b < 0 then -((t.natAbs.gcd b.natAbs : Nat) : Int) else ((t.natAbs.gcd b.natAbs : Nat) : Int)) : t.fdiv g = (Rat.divInt t b).num ∧ b.fdiv g = ((Rat.divInt t b).den : Nat) := by
  have g0 : (0 : Int) < (t.natAbs.gcd b.natAbs : Nat) := by
    have := Nat.gcd_pos_of_pos_right t.natAbs (n := b.natAbs) (by omega)
    omega
  obtain ⟨k, hk⟩ : ((t.natAbs.gcd b.natAbs : Nat) : Int) ∣ t := Int.gcd_dvd_left t b
  obtain ⟨m, hm⟩ : ((t.natAbs.gcd b.natAbs : Nat) : Int) ∣ b := Int.gcd_dvd_right t b
  have e0 : b.gcd t = t.natAbs.gcd b.natAbs := Nat.gcd_comm ..
  rw [Rat.num_divInt, Rat.den_divInt, if_neg hb, e0]
  generalize hn : t.natAbs.gcd b.natAbs = n at *
  have eb : ((b.natAbs / n : Nat) : Int) = (b.natAbs : Int) / n := by simp
  rw [eb]
  have ne : (n : Int) ≠ 0 := by omega
  split at h
  · next hs =>
    subst h
    rw [Int.sign_eq_neg_one_of_neg hs, Int.ofNat_natAbs_of_nonpos (by omega)]
    clear hn e0 eb
    subst hk; subst hm
    have e1 : (n : Int) * k = (-(n : Int)) * (-k) := (Int.neg_mul_neg _ _).symm
    have e2 : (n : Int) * m = (-(n : Int)) * (-m) := (Int.neg_mul_neg _ _).symm
    have e3 : -1 * ((n : Int) * k) = n * (-k) := by rw [Int.mul_neg, Int.neg_one_mul]
    have e4 : -((n : Int) * m) = n * (-m) := by rw [Int.mul_neg]
    rw [e3, e4, Int.mul_ediv_cancel_left _ ne, Int.mul_ediv_cancel_left _ ne, e1, e2, Int.mul_fdiv_cancel_left _ (by omega), Int.mul_fdiv_cancel_left _ (by omega)]
    exact ⟨rfl, rfl⟩
  · next hs =>
    subst h
    rw [Int.sign_eq_one_of_pos (by omega), Int.natAbs_of_nonneg (by omega)]
    clear hn e0 eb
    subst hk; subst hm
    rw [Int.one_mul, Int.mul_ediv_cancel_left _ ne, Int.mul_ediv_cancel_left _ ne, Int.mul_fdiv_cancel_left _ (by omega), Int.mul_fdiv_cancel_left _ (by omega)]
    exact ⟨rfl, rfl⟩
theorem low_end {t b : Int} (hb : b ≠ 0) (hz : b.natAbs.log2 < 9000) {g : Int} (h : g = if b < 0 then -((t.natAbs.gcd b.natAbs : Nat) : Int) else ((t.natAbs.gcd b.natAbs : Nat) : Int)) {S : Sto} {Q : MQ} (q : Q (fr (Rat.divInt t b)) S) :
    DivOk t g ∧ DivOk b g ∧ 2 ≤ sizeLine ∧ Q (.tup [.int (t.fdiv g), .int (b.fdiv g)]) S := by
  have g0 : (0 : Int) < (t.natAbs.gcd b.natAbs : Nat) := by
    have := Nat.gcd_pos_of_pos_right t.natAbs (n := b.natAbs) (by omega)
    omega
  have gl := log2_mono (Nat.gcd_le_right t.natAbs (n := b.natAbs) (by omega))
  have ne : g ≠ 0 := by split at h <;> omega
  have gz : g.natAbs.log2 < 9000 := by
    have : g.natAbs = t.natAbs.gcd b.natAbs := by split at h <;> omega
    rw [this]; omega
  refine ⟨⟨ne, PyProof.noPylong_of_log2 gz⟩, ⟨ne, PyProof.noPylong_of_log2 gz⟩, line_le (by decide), ?_⟩
  obtain ⟨e1, e2⟩ := low_val hb h
  rw [e1, e2]; exact q
theorem abs_eq (t : Int) : (if t < 0 then -t else t) = (t.natAbs : Int) := by split <;> omega
theorem r_low : ∀ ds S Q E, FL.sp_low ds S Q E → b_low (mends Q E) (mstart 2 ds) S := by
  rintro _ S Q E ⟨t, b, rfl, hb, hz, q⟩
  unfold b_low
  simp only [ML.q_mstart, ML.q_mends, List.map_cons, List.map_nil, List.replicate, List.cons_append, List.nil_append]
  simp only [gz0, abs_eq]
  refine ⟨fun k σ S' => ∃ i j : Nat, σ = [some (.int t), some (.int b), some (.int i), some (.int j)] ∧ k = j ∧ Nat.gcd i j = Nat.gcd t.natAbs b.natAbs ∧ S' = S, ⟨b.natAbs, t.natAbs, b.natAbs, rfl, rfl, rfl, rfl⟩, ?_⟩
  rintro k σ S' ⟨i, j, rfl, rfl, hg, rfl⟩
  simp only [gz0]
  by_cases z : k = 0
  · subst z
    rw [if_neg (by decide)]
    rw [Nat.gcd_zero_right] at hg
    subst hg
    split
    · next h => exact low_end hb hz (by rw [if_pos h]) q
    · next h => exact low_end hb hz (by rw [if_neg h]) q
  · rw [if_pos (by simpa using z)]
    refine ⟨by omega, i % k, Nat.mod_lt _ (by omega), k, i % k, ?_, rfl, by rw [← gcd_step z]; exact hg⟩
    rw [fmod_pos (by omega)]; simp
theorem r_fraction : ∀ ds S Q E, FL.sp_low ds S Q E → b_fraction (mends Q E) (mstart 1 ds) S := by
  rintro _ S Q E ⟨t, b, rfl, hb, hz, q⟩
  unfold b_fraction
  simp only [ML.q_mstart, ML.q_mends, List.map_cons, List.map_nil, List.replicate, List.cons_append, List.nil_append]
  simp only [gz0, abs_eq, mNever]
  rw [if_neg (by simpa using hb)]
  refine ⟨t.natAbs, b.natAbs, rfl, ?_⟩
  simp only [gz0]
  split
  · next h => exact low_end hb hz (by rw [if_pos h]) q
  · next h => exact low_end hb hz (by rw [if_neg h]) q
theorem r_is_less : ∀ ds S Q E, FL.sp_is_less ds S Q E → b_is_less (mends Q E) (mstart 0 ds) S := by
  rintro _ S Q E ⟨p, q, rfl, hz, k⟩
  unfold b_is_less
  simp only [ML.q_mstart, ML.q_mends, List.map_cons, List.map_nil, List.replicate, List.cons_append, List.nil_append]
  simp only [gz0]
  refine ⟨ok_nd (by omega), ok_nd (by omega), ?_⟩
  have e : (p.num * q.den < q.num * p.den) = (p < q) := propext (Rat.lt_iff p q).symm
  simp only [e]; exact k
theorem log2_dd {p q : Rat} (h : sz p + sz q < 8000) : ((p.den : Int) * (q.den : Int)).natAbs.log2 < 9000 := by
  have := sz_pos p
  have := log2_lt' (natAbs_mul_lt (den_abs p) (den_abs q)) (by omega)
  omega
theorem log2_dn {p q : Rat} (h : sz p + sz q < 8000) : ((p.den : Int) * q.num).natAbs.log2 < 9000 := by
  have := sz_pos p
  have := log2_lt' (natAbs_mul_lt (den_abs p) (sz_num q)) (by omega)
  omega
theorem dd_ne (p q : Rat) : (p.den : Int) * (q.den : Int) ≠ 0 := Int.mul_ne_zero (den_ne p) (den_ne q)
theorem r_plus : ∀ ds S Q E, FL.sp_plus ds S Q E → b_plus (mends Q E) (mstart 0 ds) S := by
  rintro _ S Q E ⟨p, q, rfl, hz, k⟩
  unfold b_plus
  simp only [ML.q_mstart, ML.q_mends, List.map_cons, List.map_nil, List.replicate, List.cons_append, List.nil_append]
  simp only [gz0]
  refine ⟨ok_nd (by omega), ok_nd (by omega), ok_dd (by omega), _, _, rfl, dd_ne p q, log2_dd hz, ?_⟩
  rw [← Int.natCast_mul, Rat.divInt_ofNat, ← Rat.add_def']; exact k
theorem r_less : ∀ ds S Q E, FL.sp_less ds S Q E → b_less (mends Q E) (mstart 0 ds) S := by
  rintro _ S Q E ⟨p, q, rfl, hz, k⟩
  unfold b_less
  simp only [ML.q_mstart, ML.q_mends, List.map_cons, List.map_nil, List.replicate, List.cons_append, List.nil_append]
  simp only [gz0]
  refine ⟨ok_nd (by omega), ok_nd (by omega), ok_dd (by omega), _, _, rfl, dd_ne p q, log2_dd hz, ?_⟩
  rw [← Int.natCast_mul, Rat.divInt_ofNat, ← Rat.sub_def']; exact k
theorem r_times : ∀ ds S Q E, FL.sp_times ds S Q E → b_times (mends Q E) (mstart 0 ds) S := by
  rintro _ S Q E ⟨p, q, rfl, hz, k⟩
  unfold b_times
  simp only [ML.q_mstart, ML.q_mends, List.map_cons, List.map_nil, List.replicate, List.cons_append, List.nil_append]
  simp only [gz0]
  refine ⟨ok_nn (by omega), ok_dd (by omega), _, _, rfl, dd_ne p q, log2_dd hz, ?_⟩
  rw [← Int.natCast_mul, Rat.divInt_ofNat, ← Rat.mul_def']; exact k
theorem r_over : ∀ ds S Q E, FL.sp_over ds S Q E → b_over (mends Q E) (mstart 0 ds) S := by
  rintro _ S Q E ⟨p, q, rfl, hz, hq, k⟩
  unfold b_over
  simp only [ML.q_mstart, ML.q_mends, List.map_cons, List.map_nil, List.replicate, List.cons_append, List.nil_append]
  simp only [gz0]
  refine ⟨ok_nd (by omega), ok_dn (by omega), _, _, rfl, Int.mul_ne_zero (den_ne p) (fun z => hq (Rat.num_eq_zero.mp z)), log2_dn hz, ?_⟩
  rw [← div_eq]; exact k
theorem r_is_ahead : ∀ ds S Q E, FL.sp_is_ahead ds S Q E → b_is_ahead (mends Q E) (mstart 0 ds) S := by
  rintro _ S Q E ⟨a, b, rfl, ⟨n, ⟨h1, h2⟩, ⟨h3, h4⟩, hn⟩, k⟩
  unfold b_is_ahead
  simp only [ML.q_mstart, ML.q_mends, List.map_cons, List.map_nil, List.replicate, List.cons_append, List.nil_append]
  simp only [gz0]
  by_cases z : a.1 = b.1
  · rw [if_neg (by simpa using z)]
    refine ⟨_, _, rfl, by omega, ?_⟩
    have e : (a.2 < b.2) = ahead a b := by
      unfold ahead; rw [z]; simp [Rat.lt_irrefl]
    simp only [e]; exact k
  · rw [if_pos (by simpa using z)]
    refine ⟨_, _, rfl, by omega, ?_⟩
    have e : (a.1 < b.1) = ahead a b := by
      unfold ahead; simp [z]
    simp only [e]; exact k
theorem SzS.alng {n : Nat} {w : Wl} (h1 : SzS n w.1) (h2 : SzS n w.2) : SzS (2 * n + 1) (alng w) := by
  have := sz_sub w.2.1 w.1.1
  have := sz_sub w.2.2 w.1.2
  obtain ⟨a, b⟩ := h1
  obtain ⟨c, d⟩ := h2
  exact ⟨by simp only [FL.alng]; omega, by simp only [FL.alng]; omega⟩
theorem r_along : ∀ ds S Q E, FL.sp_along ds S Q E → b_along (mends Q E) (mstart 2 ds) S := by
  rintro _ S Q E ⟨w, rfl, ⟨n, ⟨h1, h2⟩, ⟨h3, h4⟩, hn⟩, k⟩
  unfold b_along
  simp only [ML.q_mstart, ML.q_mends, List.map_cons, List.map_nil, List.replicate, List.cons_append, List.nil_append]
  simp only [gz0]
  refine ⟨_, _, rfl, by omega, ?_⟩
  simp only [gz0]
  refine ⟨_, _, rfl, by omega, ?_⟩
  simp only [gz0]
  exact ⟨line_le (by decide), k⟩
theorem r_crossed : ∀ ds S Q E, FL.sp_crossed ds S Q E → b_crossed (mends Q E) (mstart 0 ds) S := by
  rintro _ S Q E ⟨u, v, rfl, ⟨n, ⟨h1, h2⟩, ⟨h3, h4⟩, hn⟩, k⟩
  unfold b_crossed
  simp only [ML.q_mstart, ML.q_mends, List.map_cons, List.map_nil, List.replicate, List.cons_append, List.nil_append]
  simp only [gz0]
  refine ⟨_, _, rfl, by omega, ?_⟩
  simp only [gz0]
  refine ⟨_, _, rfl, by omega, ?_⟩
  simp only [gz0]
  have := sz_mul u.1 v.2
  have := sz_mul u.2 v.1
  refine ⟨_, _, rfl, by omega, ?_⟩
  exact k
theorem r_leaning : ∀ ds S Q E, FL.sp_leaning ds S Q E → b_leaning (mends Q E) (mstart 1 ds) S := by
  rintro _ S Q E ⟨u, v, rfl, hn, k⟩
  unfold b_leaning
  simp only [ML.q_mstart, ML.q_mends, List.map_cons, List.map_nil, List.replicate, List.cons_append, List.nil_append]
  simp only [gz0]
  refine ⟨_, _, rfl, hn, ?_⟩
  simp only [gz0]
  have e : ((if 0 < (crs u v).num then 1 else 0) - if (crs u v).num < 0 then 1 else 0 : Int) = sgn (crs u v) := by
    have h1 : 0 < (crs u v).num ↔ 0 < crs u v := by rw [Rat.lt_iff]; simp
    have h2 : (crs u v).num < 0 ↔ crs u v < 0 := by rw [Rat.lt_iff]; simp
    unfold sgn
    simp only [← h1, ← h2]
    by_cases a : 0 < (crs u v).num
    · rw [if_pos a, if_pos a, if_neg (by omega)]; rfl
    · by_cases b : (crs u v).num < 0
      · rw [if_neg a, if_neg a, if_pos b, if_pos b]; rfl
      · rw [if_neg a, if_neg a, if_neg b, if_neg b]; rfl
  rw [e]; exact k
theorem r_side_of : ∀ ds S Q E, FL.sp_side_of ds S Q E → b_side_of (mends Q E) (mstart 0 ds) S := by
  rintro _ S Q E ⟨w, s, rfl, ⟨n, h1, h2, h3, hn⟩, k⟩
  unfold b_side_of
  simp only [ML.q_mstart, ML.q_mends, List.map_cons, List.map_nil, List.replicate, List.cons_append, List.nil_append]
  simp only [gz0]
  refine ⟨_, rfl, ⟨n, h1, h2, by omega⟩, ?_⟩
  simp only [gz0]
  refine ⟨line_le (by decide), (w.1, s), rfl, ⟨n, h1, h3, by omega⟩, ?_⟩
  simp only [gz0]
  exact ⟨_, _, rfl, ⟨2 * n + 1, SzS.alng h1 h2, SzS.alng (w := (w.1, s)) h1 h3, by omega⟩, k⟩
theorem r_lies_on : ∀ ds S Q E, FL.sp_lies_on ds S Q E → b_lies_on (mends Q E) (mstart 2 ds) S := by
  rintro _ S Q E ⟨w, s, rfl, ⟨n, h1, h2, h3, hn⟩, k⟩
  unfold b_lies_on
  simp only [ML.q_mstart, ML.q_mends, List.map_cons, List.map_nil, List.replicate, List.cons_append, List.nil_append]
  simp only [gz0]
  refine ⟨_, _, rfl, ⟨n, h3, h1, by omega⟩, ?_⟩
  simp only [gz0]
  by_cases z1 : ahead s w.1
  · rw [if_pos (by simpa using z1)]
    have e : decide (liesOn w s) = false := by simp [liesOn, z1]
    rw [e] at k; exact k
  · rw [if_neg (by simpa using z1)]
    refine ⟨_, _, rfl, ⟨n, h2, h3, by omega⟩, ?_⟩
    simp only [gz0]
    by_cases z2 : ahead w.2 s
    · rw [if_pos (by simpa using z2)]
      have e : decide (liesOn w s) = false := by simp [liesOn, z2]
      rw [e] at k; exact k
    · rw [if_neg (by simpa using z2)]
      refine ⟨_, _, rfl, ⟨n, h1, h2, h3, by omega⟩, ?_⟩
      simp only [gz0]
      have e : (side w s = 0) = liesOn w s := by simp [liesOn, z1, z2]
      simp only [e]; exact k
end FL
set_option maxRecDepth 100000
namespace FL
open PySem PySem.Spec L2 ML
theorem z_add {p q : Rat} {a b : Nat} (h1 : sz p ≤ a) (h2 : sz q ≤ b) : sz (p + q) ≤ a + b + 1 := by have := sz_add p q; omega
theorem z_sub {p q : Rat} {a b : Nat} (h1 : sz p ≤ a) (h2 : sz q ≤ b) : sz (p - q) ≤ a + b + 1 := by have := sz_sub p q; omega
theorem z_mul {p q : Rat} {a b : Nat} (h1 : sz p ≤ a) (h2 : sz q ≤ b) : sz (p * q) ≤ a + b := by have := sz_mul p q; omega
theorem z_div {p q : Rat} {a b : Nat} (h1 : sz p ≤ a) (h2 : sz q ≤ b) : sz (p / q) ≤ a + b := by have := sz_div p q; omega
theorem z_neg {p : Rat} {a : Nat} (h1 : sz p ≤ a) : sz (-p) ≤ a := by rwa [sz_neg]
theorem z_a1 {w : Wl} {a b : Nat} (h1 : sz w.2.1 ≤ a) (h2 : sz w.1.1 ≤ b) : sz (alng w).1 ≤ a + b + 1 := z_sub h1 h2
theorem z_a2 {w : Wl} {a b : Nat} (h1 : sz w.2.2 ≤ a) (h2 : sz w.1.2 ≤ b) : sz (alng w).2 ≤ a + b + 1 := z_sub h1 h2
theorem z_crs {u v : Pt} {a b c d : Nat} (h1 : sz u.1 ≤ a) (h2 : sz v.2 ≤ b) (h3 : sz u.2 ≤ c) (h4 : sz v.1 ≤ d) : sz (crs u v) ≤ a + b + (c + d) + 1 := z_sub (z_mul h1 h2) (z_mul h3 h4)
theorem SzS.l {n : Nat} {s : Pt} (h : SzS n s) : sz s.1 ≤ n := h.1
theorem SzS.r {n : Nat} {s : Pt} (h : SzS n s) : sz s.2 ≤ n := h.2
theorem SzS.mk {n : Nat} {s : Pt} (h : sz s.1 ≤ n) (h2 : sz s.2 ≤ n) : SzS n s := ⟨h, h2⟩
theorem SzS.mono {m n : Nat} {s : Pt} (h : SzS m s) (hn : m ≤ n) : SzS n s := ⟨Nat.le_trans h.1 hn, Nat.le_trans h.2 hn⟩
theorem z_int {i : Int} {n : Nat} (h : i.natAbs < 2 ^ n) (h0 : 0 < n) : sz (i : Rat) ≤ n := sz_le h0 (by rwa [Rat.num_intCast]) (by rw [Rat.den_intCast]; exact Nat.one_lt_two_pow (by omega))
class BD (q : Rat) (n : outParam Nat) : Prop where
  le : sz q ≤ n
class BP (s : Pt) (n : outParam Nat) : Prop where
  l : sz s.1 ≤ n
  r : sz s.2 ≤ n
class BW (w : Wl) (n : outParam Nat) : Prop where
  f : BP w.1 n
  s : BP w.2 n
section
variable {p q : Rat} {s u v : Pt} {w : Wl} {a b n : Nat}
instance bd_add [h1 : BD p a] [h2 : BD q b] : BD (p + q) (a + b + 1) := ⟨z_add h1.le h2.le⟩
instance bd_sub [h1 : BD p a] [h2 : BD q b] : BD (p - q) (a + b + 1) := ⟨z_sub h1.le h2.le⟩
instance bd_mul [h1 : BD p a] [h2 : BD q b] : BD (p * q) (a + b) := ⟨z_mul h1.le h2.le⟩
instance bd_div [h1 : BD p a] [h2 : BD q b] : BD (p / q) (a + b) := ⟨z_div h1.le h2.le⟩
instance bd_neg [h1 : BD p a] : BD (-p) a := ⟨z_neg h1.le⟩
instance bd_l [h : BP s n] : BD s.1 n := ⟨h.l⟩
instance bd_r [h : BP s n] : BD s.2 n := ⟨h.r⟩
instance bp_f [h : BW w n] : BP w.1 n := h.f
instance bp_s [h : BW w n] : BP w.2 n := h.s
instance bd_0 : BD 0 1 := ⟨by decide⟩
instance bd_1 : BD 1 1 := ⟨by decide⟩
instance bp_mk [h1 : BD p a] [h2 : BD q b] : BP (p, q) (max a b) := ⟨by have := h1.le; show sz p ≤ _; omega, by have := h2.le; show sz q ≤ _; omega⟩
instance bw_mk [h1 : BP u a] [h2 : BP v b] : BW (u, v) (max a b) := ⟨⟨by have := h1.l; show sz u.1 ≤ _; omega, by have := h1.r; show sz u.2 ≤ _; omega⟩, ⟨by have := h2.l; show sz v.1 ≤ _; omega, by have := h2.r; show sz v.2 ≤ _; omega⟩⟩
instance bp_alng [h : BW w n] : BP (alng w) (n + n + 1) := ⟨z_a1 h.s.l h.f.l, z_a2 h.s.r h.f.r⟩
instance bd_crs [h1 : BP u a] [h2 : BP v b] : BD (crs u v) (a + b + (a + b) + 1) := ⟨z_crs h1.l h2.r h1.r h2.l⟩
theorem BD.mono [h : BD q a] (hn : a ≤ n) : BD q n := ⟨Nat.le_trans h.le hn⟩
theorem BP.mono [h : BP s a] (hn : a ≤ n) : BP s n := ⟨Nat.le_trans h.l hn, Nat.le_trans h.r hn⟩
theorem BW.mono [h : BW w a] (hn : a ≤ n) : BW w n := ⟨BP.mono hn, BP.mono hn⟩
theorem BP.S [h : BP s a] (hn : a ≤ n) : SzS n s := ⟨Nat.le_trans h.l hn, Nat.le_trans h.r hn⟩
end
theorem spD_inj {a b : Pt} (h : spD a = spD b) : a = b := by
  have := deq_sp (p := a) (q := b)
  rw [h] at this
  have r := deq_sp (p := b) (q := b)
  rw [this] at r
  simpa using r
theorem wlD_inj {a b : Wl} (h : wlD a = wlD b) : a = b := by
  have := deq_wl (p := a) (q := b)
  rw [h] at this
  have r := deq_wl (p := b) (q := b)
  rw [this] at r
  simpa using r
section
variable {S : Sto} {Q : Hold MQ} {E : Hold MXQ} {p q : Rat} {a b u v s : Pt} {w : Wl} {m n k : Nat}
theorem c_two {f : Rat → Rat → Rat} [h1 : BD p m] [h2 : BD q n] (h : m + n < 8000) : @CallP (two f) [fr p, fr q] S Q E = Q.v (fr (f p q)) S := by
  have := h1.le
  have := h2.le
  apply propext
  constructor
  · rintro ⟨p', q', e, _, k⟩
    simp only [List.cons.injEq, and_true, fr_inj] at e
    rw [e.1, e.2]; exact k
  · intro k; exact ⟨p, q, rfl, by omega, k⟩
theorem c_plus [h1 : BD p m] [h2 : BD q n] (h : m + n < 8000) : @CallP sp_plus [fr p, fr q] S Q E = Q.v (fr (p + q)) S := c_two h
theorem c_less [h1 : BD p m] [h2 : BD q n] (h : m + n < 8000) : @CallP sp_less [fr p, fr q] S Q E = Q.v (fr (p - q)) S := c_two h
theorem c_law_less [h1 : BD p m] [h2 : BD q n] (h : m + n < 8000) : @CallP sp_law_less [fr p, fr q] S Q E = Q.v (fr (p - q)) S := c_two h
theorem c_times [h1 : BD p m] [h2 : BD q n] (h : m + n < 8000) : @CallP sp_times [fr p, fr q] S Q E = Q.v (fr (p * q)) S := c_two h
theorem c_over [h1 : BD p m] [h2 : BD q n] (h : m + n < 8000) (h3 : q ≠ 0) : @CallP sp_over [fr p, fr q] S Q E = Q.v (fr (p / q)) S := by
  have := h1.le
  have := h2.le
  apply propext
  constructor
  · rintro ⟨p', q', e, _, _, k⟩
    simp only [List.cons.injEq, and_true, fr_inj] at e
    rw [e.1, e.2]; exact k
  · intro k; exact ⟨p, q, rfl, by omega, h3, k⟩
theorem c_is_less [h1 : BD p m] [h2 : BD q n] (h : m + n < 8000) : @CallP sp_is_less [fr p, fr q] S Q E = Q.v (.bl (decide (p < q))) S := by
  have := h1.le
  have := h2.le
  apply propext
  constructor
  · rintro ⟨p', q', e, _, k⟩
    simp only [List.cons.injEq, and_true, fr_inj] at e
    rw [e.1, e.2]; exact k
  · intro k; exact ⟨p, q, rfl, by omega, k⟩
theorem c_is_ahead [h1 : BP a m] [h2 : BP b n] (h : m + n < 4000) : @CallP sp_is_ahead [spD a, spD b] S Q E = Q.v (.bl (decide (ahead a b))) S := by
  apply propext
  constructor
  · rintro ⟨p', q', e, _, k⟩
    simp only [List.cons.injEq, and_true] at e
    cases spD_inj e.1; cases spD_inj e.2; exact k
  · intro k; exact ⟨a, b, rfl, ⟨m + n, BP.S (by omega), BP.S (by omega), by omega⟩, k⟩
theorem c_along [h1 : BW w m] (h : m < 4000) : @CallP sp_along [wlD w] S Q E = Q.v (spD (alng w)) S := by
  apply propext
  constructor
  · rintro ⟨w', e, _, k⟩
    simp only [List.cons.injEq, and_true] at e
    cases wlD_inj e; exact k
  · intro k; exact ⟨w, rfl, ⟨m, BP.S (by omega), BP.S (by omega), by omega⟩, k⟩
theorem c_crossed [h1 : BP u m] [h2 : BP v n] (h : m + n < 1900) : @CallP sp_crossed [spD u, spD v] S Q E = Q.v (fr (crs u v)) S := by
  apply propext
  constructor
  · rintro ⟨p', q', e, _, k⟩
    simp only [List.cons.injEq, and_true] at e
    cases spD_inj e.1; cases spD_inj e.2; exact k
  · intro k; exact ⟨u, v, rfl, ⟨m + n, BP.S (by omega), BP.S (by omega), by omega⟩, k⟩
theorem c_leaning [h1 : BP u m] [h2 : BP v n] (h : m + n < 1900) : @CallP sp_leaning [spD u, spD v] S Q E = Q.v (.int (sgn (crs u v))) S := by
  apply propext
  constructor
  · rintro ⟨p', q', e, _, k⟩
    simp only [List.cons.injEq, and_true] at e
    cases spD_inj e.1; cases spD_inj e.2; exact k
  · intro k; exact ⟨u, v, rfl, ⟨m + n, BP.S (by omega), BP.S (by omega), by omega⟩, k⟩
theorem c_side_of [h1 : BW w m] [h2 : BP s n] (h : m + n < 900) : @CallP sp_side_of [wlD w, spD s] S Q E = Q.v (.int (side w s)) S := by
  apply propext
  constructor
  · rintro ⟨p', q', e, _, k⟩
    simp only [List.cons.injEq, and_true] at e
    cases wlD_inj e.1; cases spD_inj e.2; exact k
  · intro k; exact ⟨w, s, rfl, ⟨m + n, BP.S (by omega), BP.S (by omega), BP.S (by omega), by omega⟩, k⟩
theorem c_lies_on [h1 : BW w m] [h2 : BP s n] (h : m + n < 900) : @CallP sp_lies_on [wlD w, spD s] S Q E = Q.v (.bl (decide (liesOn w s))) S := by
  apply propext
  constructor
  · rintro ⟨p', q', e, _, k⟩
    simp only [List.cons.injEq, and_true] at e
    cases wlD_inj e.1; cases spD_inj e.2; exact k
  · intro k; exact ⟨w, s, rfl, ⟨m + n, BP.S (by omega), BP.S (by omega), BP.S (by omega), by omega⟩, k⟩
theorem c_spans [h1 : BW w m] [h2 : BP s n] (h : m + n < 4000) : @CallP sp_spans [wlD w, spD s] S Q E = Q.v (.bl (decide (spansW w s))) S := by
  apply propext
  constructor
  · rintro ⟨p', q', e, _, k⟩
    simp only [List.cons.injEq, and_true] at e
    cases wlD_inj e.1; cases spD_inj e.2; exact k
  · intro k; exact ⟨w, s, rfl, ⟨m + n, BP.S (by omega), BP.S (by omega), BP.S (by omega), by omega⟩, k⟩
theorem sqI_sp {S : Sto} {s : Pt} : sqI S (spD s) = some ([fr s.1, fr s.2], fun _ => True) := Eq.trans rfl rfl
theorem sqI_wl {S : Sto} {w : Wl} : sqI S (wlD w) = some ([spD w.1, spD w.2], fun _ => True) := Eq.trans rfl rfl
theorem t_cell {ns : List Int} {k : Nat} (h : ∀ c : Int, Q.v (.int c) S) : @CallP sp_cell_at [.scr (ns.map .int), .int (k : Nat)] S Q E := ⟨ns, k, rfl, h⟩
theorem t_take {P : Addr} {c z : Int} {n : Nat} (hp : S P = some (rowO c n)) (h0 : 0 < z) (h1 : z < 2 ^ 200) (hn : n < 2 ^ 60) (k : ∀ r c' : Int, 0 ≤ r → r < z → Q.v (.int r) (put S P (rowO c' (n + 1 : Nat)))) : @CallP sp_take [.ref P, .int z] S Q E :=
  ⟨P, c, n, z, rfl, hp, h0, h1, hn, k⟩
theorem t_low {t b : Int} (hb : b ≠ 0) (hz : b.natAbs < 2 ^ 200) (k : Q.v (fr (Rat.divInt t b)) S) : @CallP sp_low [.int t, .int b] S Q E :=
  ⟨t, b, rfl, hb, by have := log2_lt' hz (by decide); omega, k⟩
end
end FL
namespace FL
open PySem PySem.Spec L2 ML
structure Sc where
  t : Int
  b : Int
  x : Int
  y : Int
def scD (s : Sc) : D := .tup [.int s.t, .int s.b, .int s.x, .int s.y]
structure ScOk (s : Sc) : Prop where
  t1 : 1 ≤ s.t
  t2 : s.t ≤ 2 ^ 70
  b1 : 1 ≤ s.b
  b2 : s.b ≤ 2 ^ 90
  x1 : -(2 ^ 100) ≤ s.x
  x2 : s.x ≤ 2 ^ 100
  y1 : -(2 ^ 100) ≤ s.y
  y2 : s.y ≤ 2 ^ 100
def ofU (u : U2) : Pt := ((u.1 : Rat), (u.2 : Rat))
def ofW (w : UW) : Wl := (ofU w.1, ofU w.2)
def af (s : Sc) (p : Pt) : Pt := ((p.1 * s.t + s.x) / s.b, (p.2 * s.t + s.y) / s.b)
def afw (s : Sc) (w : Wl) : Wl := (af s w.1, af s w.2)
structure Told where
  x : Int
  y : Int
  n : Int
def toD (t : Told) : D := .tup [.int t.x, .int t.y, .int t.n]
def ofT (t : Told) : Pt := ((t.x : Rat) / t.n, (t.y : Rat) / t.n)
structure UOk (m : Int) (u : U2) : Prop where
  a1 : -m ≤ u.1
  a2 : u.1 ≤ m
  b1 : -m ≤ u.2
  b2 : u.2 ≤ m
structure WOk (m : Int) (w : UW) : Prop where
  f : UOk m w.1
  s : UOk m w.2
structure TOk (t : Told) : Prop where
  x1 : -(2 ^ 40) ≤ t.x
  x2 : t.x ≤ 2 ^ 40
  y1 : -(2 ^ 40) ≤ t.y
  y2 : t.y ≤ 2 ^ 40
  n1 : 1 ≤ t.n
  n2 : t.n ≤ 2 ^ 24
def uturn (a b c : U2) : Int := side (ofU a, ofU b) (ofU c)
def uon (w : UW) (s : U2) : Prop := ule w.1 s ∧ ule s w.2 ∧ uturn w.1 w.2 s = 0
instance : Decidable (uon w s) := by unfold uon; infer_instance
def ufair (a b : UW) : Bool :=
  !decide (a = b) && (!(!(decide (a.1 = b.1) || decide (a.2 = b.1)) && decide (uon a b.1)) && (!(!(decide (a.1 = b.2) || decide (a.2 = b.2)) && decide (uon a b.2)) &&
  (!(!(decide (b.1 = a.1) || decide (b.2 = a.1)) && decide (uon b a.1)) && (!(!(decide (b.1 = a.2) || decide (b.2 = a.2)) && decide (uon b a.2)) &&
  (decide (0 ≤ uturn a.1 a.2 b.1 * uturn a.1 a.2 b.2) || decide (0 ≤ uturn b.1 b.2 a.1 * uturn b.1 b.2 a.2))))))
def sp_scale : MSp := fun ds S Q _ => ∃ (p : Addr) (c : Int) (n : Nat), ds = [.ref p] ∧ S p = some (rowO c n) ∧ n < 2 ^ 50 ∧ ∀ (s : Sc) (c' : Int) (n' : Nat), ScOk s → n' ≤ n + 8 → Q (scD s) (put S p (rowO c' n'))
def sp_uspot : MSp := fun ds S Q _ => ∃ (s : Sc) (u : U2), ds = [scD s, uD u] ∧ ScOk s ∧ UOk (2 ^ 20) u ∧ Q (spD (af s (ofU u))) S
def sp_made : MSp := fun ds S Q _ => ∃ (s : Sc) (d : D) (ws : List UW), ds = [scD s, d] ∧ SeqK S d (ws.map uwD) ∧ ws.length ≤ 1000 ∧ ScOk s ∧ (∀ w ∈ ws, WOk (2 ^ 20) w) ∧ Q (.tup (ws.map fun w => wlD (afw s (ofW w)))) S
structure Drawn (most : Nat) (size : Int) (ws : List UW) : Prop where
  len : ws.length ≤ most
  up : ∀ w ∈ ws, ult w.1 w.2
  lo : ∀ w ∈ ws, -size ≤ w.1.1 ∧ w.1.1 < size ∧ -size ≤ w.1.2 ∧ w.1.2 < size ∧ -size ≤ w.2.1 ∧ w.2.1 < size ∧ -size ≤ w.2.2 ∧ w.2.2 < size
  fair : ws.Pairwise fun a b => ufair b a = true
theorem deps_uw (ws : List UW) : D.deps (ws.map uwD) ≤ 2 := deps_map fun w => by rw [dep_uw]; exact Nat.le_refl _
theorem plains_uw (ws : List UW) : D.plains (ws.map uwD) = true := plains_map plain_uw
theorem eqOk_luw0 {ws : List UW} : eqOk (.lst (ws.map uwD)) (.lst []) = true := eqOk_of' (plains_uw ws) rfl (by have := deps_uw ws; rw [D.dep]; omega) (by decide)
theorem deq_luw0 {ws : List UW} : D.deq (.lst (ws.map uwD)) (.lst []) = ws.isEmpty := by cases ws <;> rfl
theorem ixL_map {α : Type} {xs : List α} {f : α → D} {r : Int} (h0 : 0 ≤ r) (h1 : r < xs.length) : ∃ a ∈ xs, ixL (xs.map f) r = some (f a) := by
  obtain ⟨k, rfl⟩ := Int.eq_ofNat_of_zero_le h0
  have hk : k < xs.length := by omega
  refine ⟨xs[k], List.getElem_mem hk, ?_⟩
  rw [ixL_cast, List.getElem?_map, List.getElem?_eq_getElem hk]; rfl
theorem ult_asymm {a b : U2} (h : ult a b) : ¬ ult b a := by unfold ult at *; omega
theorem ult_tri {a b : U2} (h : a ≠ b) : ult a b ∨ ult b a := by
  unfold ult
  have : ¬ (a.1 = b.1 ∧ a.2 = b.2) := fun z => h (Prod.ext z.1 z.2)
  omega
theorem t_takeA {S : Sto} {Q : Hold MQ} {E : Hold MXQ} {P : Addr} {c z : Int} {n : Nat} (hp : S P = some (rowO c n)) (h0 : 0 < z) (h1 : z < 2 ^ 200) (hn : n < 2 ^ 60)
    (k : ∀ (r c' : Int) (S' : Sto), 0 ≤ r → r < z → S' P = some (rowO c' (n + 1 : Nat)) → (∀ a, a ≠ P → S' a = S a) → Q.v (.int r) S') : @CallP sp_take [.ref P, .int z] S Q E :=
  t_take hp h0 h1 hn fun r c' r0 r1 => k r c' _ r0 r1 put_same fun a h => put_ne h
end FL
set_option maxRecDepth 100000
namespace FL
open PySem PySem.Spec L2 ML
def b_scale : MS := (mSeq (mPar 1 2 (mCons (mOp rAdd (mC (.int 1)) (mCall FL.sp_take (mCons (mVar 0) (mCons (mC (.int 6)) mNil)))) (mCons (mOp rAdd (mC (.int 1)) (mCall FL.sp_take (mCons (mVar 0) (mCons (mC (.int 6)) mNil)))) mNil)))
  (mSeq (mIfJ (mTst (mOp rEqM (mCall FL.sp_take (mCons (mVar 0) (mCons (mC (.int 4)) mNil))) (mC (.int 0)))) (mPar 1 2 (mCons (mOp rAdd (mC (.int 1)) (mCall FL.sp_take (mCons (mVar 0) (mCons (mOp rPow (mC (.int 10)) (mC (.int 9))) mNil)))) (mCons (mOp rAdd (mC (.int 1)) (mCall FL.sp_take (mCons (mVar 0) (mCons (mOp rPow (mC (.int 10)) (mC (.int 9))) mNil)))) mNil))) mNext)
  (mSeq (mSet 3 (mOp rIxM (mLstF (mCons (mC (.int 1)) (mCons (mOp rPow (mC (.int 10)) (mC (.int 15))) mNil))) (mBlt bInt (mCons (mOp rEqM (mCall FL.sp_take (mCons (mVar 0) (mCons (mC (.int 6)) mNil))) (mC (.int 0))) mNil))))
  (mRet (mTup (mCons (mVar 1) (mCons (mVar 2) (mCons (mOp rMul (mVar 3) (mOp rSub (mCall FL.sp_take (mCons (mVar 0) (mCons (mC (.int 41)) mNil))) (mC (.int 20)))) (mCons (mOp rMul (mVar 3) (mOp rSub (mCall FL.sp_take (mCons (mVar 0) (mCons (mC (.int 41)) mNil))) (mC (.int 20)))) mNil)))))))))
def b_uspot : MS := (mSeq (mAsg (mVar 0) (gTp 4 (gCn (gNm 2) (gCn (gNm 3) (gCn (gNm 4) (gCn (gNm 5) gNl))))))
  (mRet (mTup (mCons (mCall FL.sp_low (mCons (mOp rAdd (mOp rMul (mOp rIxM (mVar 1) (mC (.int 0))) (mVar 2)) (mVar 4)) (mCons (mVar 3) mNil))) (mCons (mCall FL.sp_low (mCons (mOp rAdd (mOp rMul (mOp rIxM (mVar 1) (mC (.int 1))) (mVar 2)) (mVar 5)) (mCons (mVar 3) mNil))) mNil)))))
def b_made : MS := (mRet (mBlt bTuple (mCons (mCompF (iS (mVar 1)) (gTp 2 (gCn (gNm 2) (gCn (gNm 3) gNl))) mYes (mTup (mCons (mCall FL.sp_uspot (mCons (mVar 0) (mCons (mVar 2) mNil))) (mCons (mCall FL.sp_uspot (mCons (mVar 0) (mCons (mVar 3) mNil))) mNil))) [2, 3]) mNil)))
end FL
set_option maxRecDepth 100000
namespace FL
open PySem PySem.Spec L2 ML
theorem l_scale : ∀ ds S Q E, FL.sp_scale ds S Q E → ds.length = 1 := by rintro _ _ _ _ ⟨_, _, _, rfl, _⟩; rfl
theorem l_uspot : ∀ ds S Q E, FL.sp_uspot ds S Q E → ds.length = 2 := by rintro _ _ _ _ ⟨_, _, rfl, _⟩; rfl
theorem l_made : ∀ ds S Q E, FL.sp_made ds S Q E → ds.length = 2 := by rintro _ _ _ _ ⟨_, _, _, rfl, _⟩; rfl
theorem rat_div_int {a b : Int} (hb : b ≠ 0) : Rat.divInt a b = (a : Rat) / (b : Rat) := by rw [Rat.divInt_eq_div]
theorem r_uspot : ∀ ds S Q E, FL.sp_uspot ds S Q E → b_uspot (mends Q E) (mstart 4 ds) S := by
  rintro _ S Q E ⟨s, u, rfl, hs, hu, k⟩
  obtain ⟨t1, t2, b1, b2, x1, x2, y1, y2⟩ := hs
  obtain ⟨u1, u2, u3, u4⟩ := hu
  have m1 : (u.1 * s.t).natAbs < 2 ^ 92 := natAbs_mul_lt (a := 21) (b := 71) (by omega) (by omega)
  have m2 : (u.2 * s.t).natAbs < 2 ^ 92 := natAbs_mul_lt (a := 21) (b := 71) (by omega) (by omega)
  unfold b_uspot
  simp only [ML.q_mstart, ML.q_mends, List.map_cons, List.map_nil, List.replicate, List.cons_append, List.nil_append]
  simp only [gz1, scD]
  refine ⟨mulok_l (by omega) (by omega), t_low (by omega) (by omega) ?_⟩
  simp only [gz1]
  refine ⟨mulok_l (by omega) (by omega), t_low (by omega) (by omega) ?_⟩
  simp only [gz1]
  rw [rat_div_int (by omega), rat_div_int (by omega)]
  simp only [Rat.intCast_add, Rat.intCast_mul]
  exact k
theorem r_scale : ∀ ds S Q E, FL.sp_scale ds S Q E → b_scale (mends Q E) (mstart 3 ds) S := by
  rintro _ S Q E ⟨p, c, n, rfl, hp, hn, k⟩
  unfold b_scale
  simp only [ML.q_mstart, ML.q_mends, List.map_cons, List.map_nil, List.replicate, List.cons_append, List.nil_append]
  simp only [gz1]
  refine t_take hp (by decide) (by decide) (by omega) fun t0 c1 t1 t2 => ?_
  simp only [gz1]
  refine t_take put_same (by decide) (by decide) (by omega) fun b0 c2 b1 b2 => ?_
  simp only [gz1]
  refine t_take put_same (by decide) (by decide) (by omega) fun v c3 v1 v2 => ?_
  simp only [gz1]
  refine jf (fun σ' S' => ∃ (t b c' : Int) (n' : Nat), 1 ≤ t ∧ t ≤ 2 ^ 30 ∧ 1 ≤ b ∧ b ≤ 2 ^ 30 ∧ n' ≤ n + 5 ∧ σ' = [some (.ref p), some (.int t), some (.int b), none] ∧ S' = put S p (rowO c' n')) ?_ ?_ ?_
  · intro hv
    simp only [gz1]
    refine t_take put_same (by decide) (by decide) (by omega) fun t3 c4 t4 t5 => ?_
    simp only [gz1]
    refine t_take put_same (by decide) (by decide) (by omega) fun b3 c5 b4 b5 => ?_
    simp only [gz1]
    exact ⟨1 + t3, 1 + b3, c5, _, by omega, by omega, by omega, by omega, Nat.le_refl _, rfl, rfl⟩
  · intro hv
    simp only [gz1]
    exact ⟨1 + t0, 1 + b0, c3, n + 1 + 1 + 1, by omega, by omega, by omega, by omega, by omega, rfl, rfl⟩
  rintro _ _ ⟨t, b, c4, n4, t3, t4, b3, b4, hn4, rfl, rfl⟩
  simp only [gz1]
  refine t_take put_same (by decide) (by decide) (by omega) fun f c5 f1 f2 => ?_
  have hf : ∃ F : Int, ixL [D.int 1, D.int 1000000000000000] (if f = 0 then 1 else 0) = some (.int F) ∧ 0 ≤ F ∧ F ≤ 1000000000000000 := by
    by_cases h : f = 0
    · rw [if_pos h]; exact ⟨_, rfl, by decide, by decide⟩
    · rw [if_neg h]; exact ⟨_, rfl, by decide, by decide⟩
  obtain ⟨F, eF, F1, F2⟩ := hf
  simp only [gz1, eF]
  refine t_take put_same (by decide) (by decide) (by omega) fun x0 c6 x1 x2 => ?_
  simp only [gz1]
  refine ⟨mulok_l (by omega) (by omega), t_take put_same (by decide) (by decide) (by omega) fun y0 c7 y1 y2 => ?_⟩
  simp only [gz1]
  refine ⟨mulok_l (by omega) (by omega), ?_⟩
  have bd : ∀ z : Int, 0 ≤ z → z < 41 → -(2 ^ 55) ≤ F * (z - 20) ∧ F * (z - 20) ≤ 2 ^ 55 := by
    intro z z1 z2
    have h1 : (F * (z - 20)).natAbs < 2 ^ 55 := natAbs_mul_lt (a := 50) (b := 5) (by omega) (by omega)
    omega
  exact k ⟨t, b, F * (x0 - 20), F * (y0 - 20)⟩ c7 _ (by have h1 := bd x0 x1 x2; have h2 := bd y0 y1 y2; exact ⟨t3, Int.le_trans t4 (by decide), b3, Int.le_trans b4 (by decide), Int.le_trans (by decide) h1.1, Int.le_trans h1.2 (by decide), Int.le_trans (by decide) h2.1, Int.le_trans h2.2 (by decide)⟩) (by omega)
theorem r_made : ∀ ds S Q E, FL.sp_made ds S Q E → b_made (mends Q E) (mstart 2 ds) S := by
  rintro _ S Q E ⟨s, d, ws, rfl, hd, hz, hs0, hw, k⟩
  unfold b_made
  simp only [ML.q_mstart, ML.q_mends, List.map_cons, List.map_nil, List.replicate, List.cons_append, List.nil_append]
  obtain ⟨G, hs, g0, hG⟩ := hd.it
  simp only [gz1, hs]
  intro p hp
  refine comp_map uwD (fun w => wlD (afw s (ofW w))) ws rfl hz (fun acc => hG _ _ hp) ?_ ?_
  · intro w acc Q' hm q
    simp only [gz1]
    refine ⟨s, w.1, rfl, hs0, (hw w hm).f, ?_⟩
    simp only [gz1]
    refine ⟨s, w.2, rfl, hs0, (hw w hm).s, ?_⟩
    simp only [gz1]
    exact q
  · simp only [gz1, del_put hp]
    exact k
theorem Drawn.mono {i j : Nat} {size : Int} {ws : List UW} (h : Drawn i size ws) (hij : i ≤ j) : Drawn j size ws := ⟨Nat.le_trans h.len hij, h.up, h.lo, h.fair⟩
theorem Drawn.ok {i : Nat} {size : Int} {ws : List UW} (h : Drawn i size ws) (hs : size ≤ 1000) : ∀ w ∈ ws, WOk 1000 w := fun w hw => by
  have := h.lo w hw
  exact ⟨⟨by omega, by omega, by omega, by omega⟩, ⟨by omega, by omega, by omega, by omega⟩⟩
theorem UOk.mono {m n : Int} {u : U2} (h : UOk m u) (hn : m ≤ n) : UOk n u := ⟨by have := h.a1; omega, by have := h.a2; omega, by have := h.b1; omega, by have := h.b2; omega⟩
theorem WOk.mono {m n : Int} {u : UW} (h : WOk m u) (hn : m ≤ n) : WOk n u := ⟨h.f.mono hn, h.s.mono hn⟩
end FL
namespace FL
open PySem PySem.Spec L2 ML
theorem rat_int_pos {i : Int} (h : 0 < i) : (0 : Rat) < (i : Rat) := by exact_mod_cast h
theorem lt_div {a b c : Rat} (h : 0 < c) : a / c < b / c ↔ a < b := by
  rw [Rat.div_def, Rat.div_def]
  have hi : 0 < c⁻¹ := Rat.inv_pos.mpr h
  constructor
  · intro z
    have := Rat.mul_lt_mul_of_pos_right z h
    rw [Rat.mul_assoc, Rat.mul_assoc, Rat.inv_mul_cancel _ (by grind), Rat.mul_one, Rat.mul_one] at this
    exact this
  · intro z; exact Rat.mul_lt_mul_of_pos_right z hi
theorem eq_div {a b c : Rat} (h : 0 < c) : a / c = b / c ↔ a = b := by
  constructor
  · intro z
    have : a / c * c = b / c * c := by rw [z]
    rw [Rat.div_mul_cancel (by grind), Rat.div_mul_cancel (by grind)] at this
    exact this
  · intro z; rw [z]
theorem lt_aff {a b t x : Rat} (h : 0 < t) : a * t + x < b * t + x ↔ a < b := by
  constructor
  · intro z
    have : a * t < b * t := by grind
    by_cases w : a < b
    · exact w
    · have : b * t ≤ a * t := Rat.mul_le_mul_of_nonneg_right (by grind) (by grind)
      grind
  · intro z
    have := Rat.mul_lt_mul_of_pos_right z h
    grind
theorem eq_aff {a b t x : Rat} (h : 0 < t) : a * t + x = b * t + x ↔ a = b := by
  constructor
  · intro z
    have e : a * t = b * t := by grind
    have : a * t / t = b * t / t := by rw [e]
    rwa [Rat.mul_div_cancel (by grind), Rat.mul_div_cancel (by grind)] at this
  · intro z; rw [z]
theorem ScOk.tp {s : Sc} (h : ScOk s) : (0 : Rat) < (s.t : Rat) := rat_int_pos (by have := h.t1; omega)
theorem ScOk.bp {s : Sc} (h : ScOk s) : (0 : Rat) < (s.b : Rat) := rat_int_pos (by have := h.b1; omega)
theorem ahead_af {s : Sc} (h : ScOk s) (p q : Pt) : ahead (af s p) (af s q) ↔ ahead p q := by
  unfold ahead af
  simp only [lt_div h.bp, eq_div h.bp, lt_aff h.tp, eq_aff h.tp]
theorem ahead_ofU (u v : U2) : ahead (ofU u) (ofU v) ↔ ult u v := by
  unfold ahead ofU ult
  simp only [Rat.intCast_lt_intCast, Rat.intCast_inj]
theorem bd_af {s : Sc} {p : Pt} {n : Nat} (hs : ScOk s) (hp : BP p n) (m : Nat) (hm : n + 71 + 102 + 1 + 91 ≤ m) : BP (af s p) m := by
  obtain ⟨t1, t2, b1, b2, x1, x2, y1, y2⟩ := hs
  have ht : BD (s.t : Rat) 71 := ⟨z_int (by omega) (by decide)⟩
  have hb : BD (s.b : Rat) 91 := ⟨z_int (by omega) (by decide)⟩
  have hx : BD (s.x : Rat) 102 := ⟨z_int (by omega) (by decide)⟩
  have hy : BD (s.y : Rat) 102 := ⟨z_int (by omega) (by decide)⟩
  unfold af
  exact BP.mono (by omega)
theorem bd_ofU {u : U2} (h : UOk (2 ^ 20) u) : BP (ofU u) 21 := by
  obtain ⟨a1, a2, a3, a4⟩ := h
  exact ⟨z_int (by omega) (by decide), z_int (by omega) (by decide)⟩
theorem bd_ofT {t : Told} (h : TOk t) : BP (ofT t) 66 := by
  obtain ⟨a1, a2, a3, a4, n1, n2⟩ := h
  have hx : BD (t.x : Rat) 41 := ⟨z_int (by omega) (by decide)⟩
  have hy : BD (t.y : Rat) 41 := ⟨z_int (by omega) (by decide)⟩
  have hn : BD (t.n : Rat) 25 := ⟨z_int (by omega) (by decide)⟩
  unfold ofT
  exact BP.mono (by omega)
theorem bw_afw {s : Sc} {w : UW} (hs : ScOk s) (h : WOk (2 ^ 20) w) : BW (afw s (ofW w)) 300 := ⟨bd_af hs (bd_ofU h.f) _ (by decide), bd_af hs (bd_ofU h.s) _ (by decide)⟩
theorem bp_afT {s : Sc} {t : Told} (hs : ScOk s) (h : TOk t) : BP (af s (ofT t)) 350 := bd_af hs (bd_ofT h) _ (by decide)
section
variable {S : Sto} {Q : Hold MQ} {E : Hold MXQ}
theorem t_scale {p : Addr} {c : Int} {n : Nat} (hp : S p = some (rowO c n)) (hn : n < 2 ^ 50) (k : ∀ (s : Sc) (c' : Int) (n' : Nat), ScOk s → n' ≤ n + 8 → Q.v (scD s) (put S p (rowO c' n'))) : @CallP sp_scale [.ref p] S Q E := ⟨p, c, n, rfl, hp, hn, k⟩
end
end FL
namespace FL
open PySem PySem.Spec L2 ML
def posv (v : Pt) : Prop := 0 < v.1 ∨ (v.1 = 0 ∧ 0 < v.2)
def sb (p q : Pt) : Pt := (p.1 - q.1, p.2 - q.2)
theorem ahead_posv {a b : Pt} : ahead a b ↔ posv (sb b a) := by
  unfold ahead posv sb
  constructor <;> intro h <;> grind
theorem crs_swap (u v : Pt) : crs u v = - crs v u := by unfold crs; grind
def cx (w : Wl) (s : Pt) : Rat := crs (alng w) (alng (w.1, s))
theorem side_cx (w : Wl) (s : Pt) : side w s = sgn (cx w s) := rfl
theorem sgn_0 {q : Rat} : sgn q = 0 ↔ q = 0 := by
  unfold sgn
  split
  · constructor
    · intro h; simp at h
    · intro h; grind
  · split
    · constructor
      · intro h; simp at h
      · intro h; grind
    · constructor <;> intro _ <;> grind
structure FairW (a b : Wl) : Prop where
  ne : a ≠ b
  e1 : liesOn a b.1 → b.1 = a.1 ∨ b.1 = a.2
  e2 : liesOn a b.2 → b.2 = a.1 ∨ b.2 = a.2
  e3 : liesOn b a.1 → a.1 = b.1 ∨ a.1 = b.2
  e4 : liesOn b a.2 → a.2 = b.1 ∨ a.2 = b.2
  cr : 0 ≤ cx a b.1 * cx a b.2 ∨ 0 ≤ cx b a.1 * cx b a.2
theorem FairW.symm {a b : Wl} (h : FairW a b) : FairW b a := ⟨fun z => h.ne z.symm, h.e3, h.e4, h.e1, h.e2, h.cr.symm⟩
def both (a b : Wl) : Prop := ahead a.1 b.2 ∧ ahead b.1 a.2
instance (a b : Wl) : Decidable (both a b) := by unfold both; infer_instance
theorem ahead_ne {a b : Pt} (h : ahead a b) : a ≠ b := fun z => by subst z; exact ahead_irrefl _ h
theorem cx_f (w : Wl) : cx w w.1 = 0 := by simp only [cx, crs, alng]; grind
theorem cx_s (w : Wl) : cx w w.2 = 0 := by simp only [cx, crs, alng]; grind
structure Up (w : Wl) : Prop where
  up : ahead w.1 w.2
section
variable {a b : Wl}
def pend (a b : Wl) : Pt × Bool := if a.1 ≠ b.1 then (if ahead a.1 b.1 then (b.1, false) else (a.1, true)) else (if ahead a.2 b.2 then (a.2, true) else (b.2, false))
def aboveW (a b : Wl) : Prop := both a b ∧ (if (pend a b).2 = true then side b (pend a b).1 = 1 else side a (pend a b).1 = -1)
instance (a b : Wl) : Decidable (aboveW a b) := by unfold aboveW; infer_instance
end
end FL
namespace FL
open PySem PySem.Spec L2 ML
section
variable {S : Sto} {Q : MQ}
theorem l_rAdd_rl {p : Addr} {ys : List D} : ML.rAdd (.ref p) (.lst ys) S Q = optP (olP (S p)) fun xs => xs.length + ys.length ≤ sizeLine ∧ Q (.lst (xs ++ ys)) S := by
  simp only [ML.rAdd, ownOf_ref', ownOf_lst, optP, OptP]
  cases olP (S p) <;> rfl
theorem l_rAdd_ll {xs ys : List D} : ML.rAdd (.lst xs) (.lst ys) S Q = (xs.length + ys.length ≤ sizeLine ∧ Q (.lst (xs ++ ys)) S) := Eq.trans rfl rfl
theorem l_rAdd_lr {p : Addr} {xs : List D} : ML.rAdd (.lst xs) (.ref p) S Q = optP (olP (S p)) fun ys => xs.length + ys.length ≤ sizeLine ∧ Q (.lst (xs ++ ys)) S := by
  simp only [ML.rAdd, ownOf_ref', ownOf_lst, optP, OptP]
  cases olP (S p) <;> rfl
theorem l_rAdd_rr {p q : Addr} : ML.rAdd (.ref p) (.ref q) S Q = optP (olP (S p)) fun xs => optP (olP (S q)) fun ys => xs.length + ys.length ≤ sizeLine ∧ Q (.lst (xs ++ ys)) S := by
  simp only [ML.rAdd, ownOf_ref', optP, OptP]
  cases olP (S p) <;> cases olP (S q) <;> rfl
theorem plains_int (ns : List Int) : D.plains (ns.map D.int) = true := plains_map fun _ => rfl
theorem deps_int (ns : List Int) : D.deps (ns.map D.int) ≤ 0 := deps_map fun _ => Nat.le_refl _
theorem mem_int (i : Int) (ns : List Int) : memD (.int i) (ns.map D.int) = decide (i ∈ ns) := by
  induction ns with
  | nil => simp [memD]
  | cons n ns ih =>
    have : memD (.int i) ((n :: ns).map D.int) = (D.deq (.int n) (.int i) || memD (.int i) (ns.map D.int)) := rfl
    rw [this, ih, deq_int]
    by_cases h : n = i
    · simp [h]
    · have h' : ¬ i = n := fun z => h z.symm
      simp [h, h']
theorem in_ints {neg : Bool} {i : Int} {ns : List Int} : rInM neg (.int i) (.lst (ns.map .int)) S Q = Q (.bl (if neg then !decide (i ∈ ns) else decide (i ∈ ns))) S := by
  have c : D.plain (.int i) = true ∧ D.plains (ns.map D.int) = true ∧ D.dep (.int i) ≤ 64 ∧ D.deps (ns.map D.int) ≤ 63 := ⟨rfl, plains_int ns, Nat.zero_le _, Nat.le_trans (deps_int ns) (Nat.zero_le _)⟩
  simp only [rInM, look_lst, mem_int]
  exact propext ⟨fun h => h.2, fun h => ⟨c, h⟩⟩
end
theorem Drawn.up' {m : Nat} {z : Int} {ws : List UW} (h : Drawn m z ws) {w : UW} (hw : w ∈ ws) : Up (ofW w) := ⟨(ahead_ofU _ _).mpr (h.up w hw)⟩
end FL
set_option maxRecDepth 100000
namespace FL
open PySem PySem.Spec L2 ML
end FL
set_option maxRecDepth 100000
namespace FL
open PySem PySem.Spec L2 ML
end FL
namespace FL
open PySem PySem.Spec L2 ML
inductive Meet where
  | no
  | spot (p : Pt)
  | stretch (w : Wl)
deriving DecidableEq
def meD : Meet → D
  | .no => .non
  | .spot p => .tup [.str "spot", spD p]
  | .stretch w => .tup [.str "stretch", wlD w]
def solW (a b : Wl) : Pt := (a.1.1 + crs (alng (a.1, b.1)) (alng b) / crs (alng a) (alng b) * (alng a).1, a.1.2 + crs (alng (a.1, b.1)) (alng b) / crs (alng a) (alng b) * (alng a).2)
def maxP (p q : Pt) : Pt := if ahead p q then q else p
def minP (p q : Pt) : Pt := if ahead q p then q else p
def inLine (a b : Wl) : Meet := if side a b.1 ≠ 0 then .no else if maxP a.1 b.1 = minP a.2 b.2 then .spot (maxP a.1 b.1) else if ahead (maxP a.1 b.1) (minP a.2 b.2) then .stretch (maxP a.1 b.1, minP a.2 b.2) else .no
def meetW (a b : Wl) : Meet := if crs (alng a) (alng b) = 0 then inLine a b else if liesOn a (solW a b) ∧ liesOn b (solW a b) then .spot (solW a b) else .no
section
variable {s : Sc}
theorem alng_af (h : ScOk s) (w : Wl) : alng (afw s w) = (s.t / s.b * (alng w).1, s.t / s.b * (alng w).2) := by
  have hb : (s.b : Rat) ≠ 0 := by have := h.bp; grind
  simp only [alng, afw, af, Prod.mk.injEq]
  constructor <;> grind
theorem crs_smul (k : Rat) (u v : Pt) : crs (k * u.1, k * u.2) (k * v.1, k * v.2) = k * k * crs u v := by simp only [crs]; grind
theorem kpos (h : ScOk s) : (0 : Rat) < s.t / s.b := by rw [Rat.div_def]; exact Rat.mul_pos h.tp (Rat.inv_pos.mpr h.bp)
theorem crs_af (h : ScOk s) (a b : Wl) : crs (alng (afw s a)) (alng (afw s b)) = (s.t / s.b * (s.t / s.b)) * crs (alng a) (alng b) := by
  rw [alng_af h, alng_af h, crs_smul]
theorem crs_af0 (h : ScOk s) (a b : Wl) : crs (alng (afw s a)) (alng (afw s b)) = 0 ↔ crs (alng a) (alng b) = 0 := by
  rw [crs_af h, Rat.mul_eq_zero, Rat.mul_eq_zero]
  have := kpos h
  constructor
  · rintro ((z | z) | z)
    · grind
    · grind
    · exact z
  · intro z; exact .inr z
theorem sol_af (h : ScOk s) {a b : Wl} (hc : crs (alng a) (alng b) ≠ 0) : solW (afw s a) (afw s b) = af s (solW a b) := by
  have k0 := kpos h
  have hb : (s.b : Rat) ≠ 0 := by have := h.bp; grind
  have e1 : crs (alng ((afw s a).1, (afw s b).1)) (alng (afw s b)) = (s.t / s.b * (s.t / s.b)) * crs (alng (a.1, b.1)) (alng b) := by
    have := crs_af h (a.1, b.1) b
    exact this
  have e2 : crs (alng (afw s a)) (alng (afw s b)) = (s.t / s.b * (s.t / s.b)) * crs (alng a) (alng b) := crs_af h a b
  have kk : (s.t / s.b * (s.t / s.b) : Rat) ≠ 0 := by
    rw [ne_eq, Rat.mul_eq_zero]; grind
  unfold solW
  rw [e1, e2, alng_af h]
  have e3 : (s.t / s.b * (s.t / s.b)) * crs (alng (a.1, b.1)) (alng b) / ((s.t / s.b * (s.t / s.b)) * crs (alng a) (alng b)) = crs (alng (a.1, b.1)) (alng b) / crs (alng a) (alng b) := by
    generalize (s.t / s.b * (s.t / s.b) : Rat) = K at kk
    generalize crs (alng a) (alng b) = C at hc
    grind
  rw [e3]
  generalize crs (alng (a.1, b.1)) (alng b) / crs (alng a) (alng b) = P
  simp only [afw, af, Prod.mk.injEq]
  constructor <;> grind
end
theorem sol_symm {a b : Wl} (hc : crs (alng a) (alng b) ≠ 0) : solW b a = solW a b := by
  unfold solW
  have e : crs (alng b) (alng a) = - crs (alng a) (alng b) := crs_swap _ _
  rw [e]
  have k1 : crs (alng (b.1, a.1)) (alng a) / - crs (alng a) (alng b) = crs (alng (a.1, b.1)) (alng a) / crs (alng a) (alng b) := by
    have : crs (alng (b.1, a.1)) (alng a) = - crs (alng (a.1, b.1)) (alng a) := by simp only [crs, alng]; grind
    rw [this]
    generalize crs (alng a) (alng b) = C at hc
    grind
  rw [k1]
  have e2 : ∀ C : Rat, C ≠ 0 → C = crs (alng a) (alng b) → (b.1.1 + crs (alng (a.1, b.1)) (alng a) / C * (alng b).1 = a.1.1 + crs (alng (a.1, b.1)) (alng b) / C * (alng a).1) ∧ (b.1.2 + crs (alng (a.1, b.1)) (alng a) / C * (alng b).2 = a.1.2 + crs (alng (a.1, b.1)) (alng b) / C * (alng a).2) := by
    intro C hC eC
    have f1 : (b.1.1 - a.1.1) * C = crs (alng (a.1, b.1)) (alng b) * (alng a).1 - crs (alng (a.1, b.1)) (alng a) * (alng b).1 := by rw [eC]; simp only [crs, alng]; grind
    have f2 : (b.1.2 - a.1.2) * C = crs (alng (a.1, b.1)) (alng b) * (alng a).2 - crs (alng (a.1, b.1)) (alng a) * (alng b).2 := by rw [eC]; simp only [crs, alng]; grind
    generalize crs (alng (a.1, b.1)) (alng b) = X at f1 f2 ⊢
    generalize crs (alng (a.1, b.1)) (alng a) = Y at f1 f2 ⊢
    constructor <;> grind
  exact Prod.ext (e2 _ hc rfl).1 (e2 _ hc rfl).2
end FL
namespace FL
open PySem PySem.Spec L2 ML
def ucross (u v : U2) : Int := u.1 * v.2 - u.2 * v.1
def sp_spot_of_lines : MSp := fun ds S Q _ => ∃ a b : Wl, ds = [wlD a, wlD b] ∧ BW a 400 ∧ BW b 400 ∧ crs (alng a) (alng b) ≠ 0 ∧ Q (spD (solW a b)) S
def sp_meeting_in_line : MSp := fun ds S Q _ => ∃ a b : Wl, ds = [wlD a, wlD b] ∧ BW a 400 ∧ BW b 400 ∧ Q (meD (inLine a b)) S
def sp_meeting : MSp := fun ds S Q _ => ∃ a b : Wl, ds = [wlD a, wlD b] ∧ BW a 400 ∧ BW b 400 ∧ (crs (alng a) (alng b) ≠ 0 → BP (solW a b) 400) ∧ Q (meD (meetW a b)) S
def atP (w : Wl) (t : Rat) : Pt := (w.1.1 + t * (alng w).1, w.1.2 + t * (alng w).2)
theorem sol_a (a b : Wl) : solW a b = atP a (crs (alng (a.1, b.1)) (alng b) / crs (alng a) (alng b)) := rfl
theorem sol_b {a b : Wl} (hc : crs (alng a) (alng b) ≠ 0) : solW a b = atP b (crs (alng (a.1, b.1)) (alng a) / crs (alng a) (alng b)) := by
  have hc' : crs (alng b) (alng a) ≠ 0 := by rw [crs_swap]; grind
  rw [sol_symm hc', sol_a]
  congr 1
  rw [crs_swap (alng b) (alng a)]
  have : crs (alng (b.1, a.1)) (alng a) = - crs (alng (a.1, b.1)) (alng a) := by simp only [crs, alng]; grind
  rw [this]
  generalize crs (alng a) (alng b) = C at hc
  grind
theorem ucross_crs (a b c d : U2) : ((ucross (b.1 - a.1, b.2 - a.2) (d.1 - c.1, d.2 - c.2) : Int) : Rat) = crs (alng (ofU a, ofU b)) (alng (ofU c, ofU d)) := by
  simp only [ucross, crs, alng, ofU, Rat.intCast_sub, Rat.intCast_mul]
end FL
set_option maxRecDepth 100000
namespace FL
open PySem PySem.Spec L2 ML
def b_spot_of_lines : MS := (mSeq (mSet 2 (mCall FL.sp_along (mCons (mVar 0) mNil)))
  (mSeq (mSet 3 (mCall FL.sp_over (mCons (mCall FL.sp_crossed (mCons (mCall FL.sp_along (mCons (mTup (mCons (mOp rIxM (mVar 0) (mC (.int 0))) (mCons (mOp rIxM (mVar 1) (mC (.int 0))) mNil))) mNil)) (mCons (mCall FL.sp_along (mCons (mVar 1) mNil)) mNil))) (mCons (mCall FL.sp_crossed (mCons (mVar 2) (mCons (mCall FL.sp_along (mCons (mVar 1) mNil)) mNil))) mNil))))
  (mRet (mTup (mCons (mCall FL.sp_plus (mCons (mOp rIxM (mOp rIxM (mVar 0) (mC (.int 0))) (mC (.int 0))) (mCons (mCall FL.sp_times (mCons (mVar 3) (mCons (mOp rIxM (mVar 2) (mC (.int 0))) mNil))) mNil))) (mCons (mCall FL.sp_plus (mCons (mOp rIxM (mOp rIxM (mVar 0) (mC (.int 0))) (mC (.int 1))) (mCons (mCall FL.sp_times (mCons (mVar 3) (mCons (mOp rIxM (mVar 2) (mC (.int 1))) mNil))) mNil))) mNil))))))
def b_meeting_in_line : MS := (mSeq (mIfS (mTst (mOp rNeM (mCall FL.sp_side_of (mCons (mVar 0) (mCons (mOp rIxM (mVar 1) (mC (.int 0))) mNil))) (mC (.int 0)))) (mRet (mC .non)) mNext)
  (mSeq (mSet 2 (mOp rIxM (mVar 0) (mC (.int 0))))
  (mSeq (mIfJ (mTru (mCall FL.sp_is_ahead (mCons (mVar 2) (mCons (mOp rIxM (mVar 1) (mC (.int 0))) mNil)))) (mSet 2 (mOp rIxM (mVar 1) (mC (.int 0)))) mNext)
  (mSeq (mSet 3 (mOp rIxM (mVar 0) (mC (.int 1))))
  (mSeq (mIfJ (mTru (mCall FL.sp_is_ahead (mCons (mOp rIxM (mVar 1) (mC (.int 1))) (mCons (mVar 3) mNil)))) (mSet 3 (mOp rIxM (mVar 1) (mC (.int 1)))) mNext)
  (mSeq (mIfS (mTst (mOp rEqM (mVar 2) (mVar 3))) (mRet (mTup (mCons (mC (.str "spot")) (mCons (mVar 2) mNil)))) mNext)
  (mSeq (mIfS (mTru (mCall FL.sp_is_ahead (mCons (mVar 2) (mCons (mVar 3) mNil)))) (mRet (mTup (mCons (mC (.str "stretch")) (mCons (mTup (mCons (mVar 2) (mCons (mVar 3) mNil))) mNil)))) mNext)
  (mRet (mC .non)))))))))
def b_meeting : MS := (mSeq (mIfS (mTst (mOp rEqM (mCall FL.sp_leaning (mCons (mCall FL.sp_along (mCons (mVar 0) mNil)) (mCons (mCall FL.sp_along (mCons (mVar 1) mNil)) mNil))) (mC (.int 0)))) (mRet (mCall FL.sp_meeting_in_line (mCons (mVar 0) (mCons (mVar 1) mNil)))) mNext)
  (mSeq (mSet 2 (mCall FL.sp_spot_of_lines (mCons (mVar 0) (mCons (mVar 1) mNil))))
  (mSeq (mIfS (mAnd (mTru (mCall FL.sp_lies_on (mCons (mVar 0) (mCons (mVar 2) mNil)))) (mTru (mCall FL.sp_lies_on (mCons (mVar 1) (mCons (mVar 2) mNil))))) (mRet (mTup (mCons (mC (.str "spot")) (mCons (mVar 2) mNil)))) mNext)
  (mRet (mC .non)))))
end FL
set_option maxRecDepth 100000
set_option maxHeartbeats 4000000
namespace FL
open PySem PySem.Spec L2 ML
theorem l_spot_of_lines : ∀ ds S Q E, FL.sp_spot_of_lines ds S Q E → ds.length = 2 := by rintro _ _ _ _ ⟨_, _, rfl, _⟩; rfl
theorem l_meeting_in_line : ∀ ds S Q E, FL.sp_meeting_in_line ds S Q E → ds.length = 2 := by rintro _ _ _ _ ⟨_, _, rfl, _⟩; rfl
theorem l_meeting : ∀ ds S Q E, FL.sp_meeting ds S Q E → ds.length = 2 := by rintro _ _ _ _ ⟨_, _, rfl, _⟩; rfl
theorem r_spot_of_lines : ∀ ds S Q E, FL.sp_spot_of_lines ds S Q E → b_spot_of_lines (mends Q E) (mstart 2 ds) S := by
  rintro _ S Q E ⟨a, b, rfl, h1, h2, hc, k⟩
  unfold b_spot_of_lines
  simp only [ML.q_mstart, ML.q_mends, List.map_cons, List.map_nil, List.replicate, List.cons_append, List.nil_append]
  simp (disch := (first | assumption | omega)) only [gz2]
  exact k
theorem maxP_bd {p q : Pt} {n : Nat} (h1 : BP p n) (h2 : BP q n) : BP (maxP p q) n := by unfold maxP; split <;> assumption
theorem minP_bd {p q : Pt} {n : Nat} (h1 : BP p n) (h2 : BP q n) : BP (minP p q) n := by unfold minP; split <;> assumption
theorem r_meeting_in_line : ∀ ds S Q E, FL.sp_meeting_in_line ds S Q E → b_meeting_in_line (mends Q E) (mstart 2 ds) S := by
  rintro _ S Q E ⟨a, b, rfl, h1, h2, k⟩
  unfold b_meeting_in_line
  simp only [ML.q_mstart, ML.q_mends, List.map_cons, List.map_nil, List.replicate, List.cons_append, List.nil_append]
  simp (disch := (first | assumption | omega)) only [gz2]
  have fin : ∀ m, m = inLine a b → Q (meD m) S := by rintro _ rfl; exact k
  refine ⟨fun hs => ?_, fun hs => ?_⟩
  · simp (disch := (first | assumption | omega)) only [gz2]
    exact fin .no (by unfold inLine; rw [if_pos hs])
  simp (disch := (first | assumption | omega)) only [gz2]
  refine jf (fun σ' S' => @KP ⟨σ' = [some (wlD a), some (wlD b), some (spD (maxP a.1 b.1)), none] ∧ S' = S⟩) (fun z => ?_) (fun z => ?_) ?_
  · simp (disch := (first | assumption | omega)) only [gz2]
    exact KP.mk ⟨by unfold maxP; rw [if_pos z], rfl⟩
  · simp (disch := (first | assumption | omega)) only [gz2]
    exact KP.mk ⟨by unfold maxP; rw [if_neg z], rfl⟩
  rintro _ S1 ⟨rfl, rfl⟩
  simp (disch := (first | assumption | omega)) only [gz2]
  refine jf (fun σ' S' => @KP ⟨σ' = [some (wlD a), some (wlD b), some (spD (maxP a.1 b.1)), some (spD (minP a.2 b.2))] ∧ S' = S1⟩) (fun z => ?_) (fun z => ?_) ?_
  · simp (disch := (first | assumption | omega)) only [gz2]
    exact KP.mk ⟨by unfold minP; rw [if_pos z], rfl⟩
  · simp (disch := (first | assumption | omega)) only [gz2]
    exact KP.mk ⟨by unfold minP; rw [if_neg z], rfl⟩
  rintro _ S2 ⟨rfl, rfl⟩
  have z1 : BP (maxP a.1 b.1) 400 := maxP_bd h1.f h2.f
  have z2 : BP (minP a.2 b.2) 400 := minP_bd h1.s h2.s
  simp (disch := (first | assumption | omega)) only [gz2]
  refine ⟨fun z => ?_, fun z => ?_⟩
  · simp (disch := (first | assumption | omega)) only [gz2]
    exact fin (.spot (maxP a.1 b.1)) (by unfold inLine; rw [if_neg hs, if_pos z])
  simp (disch := (first | assumption | omega)) only [gz2]
  refine ⟨fun y => ?_, fun y => ?_⟩
  · simp (disch := (first | assumption | omega)) only [gz2]
    exact fin (.stretch (maxP a.1 b.1, minP a.2 b.2)) (by unfold inLine; rw [if_neg hs, if_neg z, if_pos y])
  · simp (disch := (first | assumption | omega)) only [gz2]
    exact fin .no (by unfold inLine; rw [if_neg hs, if_neg z, if_neg y])
theorem r_meeting : ∀ ds S Q E, FL.sp_meeting ds S Q E → b_meeting (mends Q E) (mstart 1 ds) S := by
  rintro _ S Q E ⟨a, b, rfl, h1, h2, hs, k⟩
  unfold b_meeting
  simp only [ML.q_mstart, ML.q_mends, List.map_cons, List.map_nil, List.replicate, List.cons_append, List.nil_append]
  simp (disch := (first | assumption | omega)) only [gz2]
  rw [sgn_0]
  have fin : ∀ m, m = meetW a b → Q (meD m) S := by rintro _ rfl; exact k
  refine ⟨fun hc => ?_, fun hc => ?_⟩
  · simp (disch := (first | assumption | omega)) only [gz2]
    exact ⟨a, b, rfl, h1, h2, fin _ (by unfold meetW; rw [if_pos hc])⟩
  simp (disch := (first | assumption | omega)) only [gz2]
  refine ⟨a, b, rfl, h1, h2, hc, ?_⟩
  have hz := hs hc
  simp (disch := (first | assumption | omega)) only [gz2]
  refine ⟨fun y => ?_, fun y => ?_⟩
  · simp (disch := (first | assumption | omega)) only [gz2]
    refine ⟨fun x => ?_, fun x => ?_⟩
    · simp (disch := (first | assumption | omega)) only [gz2]
      exact fin (.spot (solW a b)) (by unfold meetW; rw [if_neg hc, if_pos ⟨y, x⟩])
    · simp (disch := (first | assumption | omega)) only [gz2]
      exact fin .no (by unfold meetW; rw [if_neg hc, if_neg (fun z => x z.2)])
  · simp (disch := (first | assumption | omega)) only [gz2]
    exact fin .no (by unfold meetW; rw [if_neg hc, if_neg (fun z => y z.1)])
end FL
namespace FL
open PySem PySem.Spec L2 ML
theorem sol_units {a b : UW} (ha : WOk 500 a) (hb : WOk 500 b) (hc : crs (alng (ofW a)) (alng (ofW b)) ≠ 0) : ∃ t, TOk t ∧ solW (ofW a) (ofW b) = ofT t := by
  obtain ⟨⟨a1, a2, a3, a4⟩, ⟨a5, a6, a7, a8⟩⟩ := ha
  obtain ⟨⟨b1, b2, b3, b4⟩, ⟨b5, b6, b7, b8⟩⟩ := hb
  have bd : ∀ x y : Int, -1000 ≤ x → x ≤ 1000 → -1000 ≤ y → y ≤ 1000 → -(2 ^ 20) ≤ x * y ∧ x * y ≤ 2 ^ 20 := by
    intro x y x1 x2 y1 y2
    have : (x * y).natAbs < 2 ^ 20 := natAbs_mul_lt (a := 10) (b := 10) (by omega) (by omega)
    omega
  have cD := ucross_crs a.1 a.2 b.1 b.2
  have cP := ucross_crs a.1 b.1 b.1 b.2
  have bD := bd (a.2.1 - a.1.1) (b.2.2 - b.1.2) (by omega) (by omega) (by omega) (by omega)
  have bD2 := bd (a.2.2 - a.1.2) (b.2.1 - b.1.1) (by omega) (by omega) (by omega) (by omega)
  have bP1 := bd (b.1.1 - a.1.1) (b.2.2 - b.1.2) (by omega) (by omega) (by omega) (by omega)
  have bP2 := bd (b.1.2 - a.1.2) (b.2.1 - b.1.1) (by omega) (by omega) (by omega) (by omega)
  have bD' : -(2 ^ 21) ≤ ucross (a.2.1 - a.1.1, a.2.2 - a.1.2) (b.2.1 - b.1.1, b.2.2 - b.1.2) ∧ ucross (a.2.1 - a.1.1, a.2.2 - a.1.2) (b.2.1 - b.1.1, b.2.2 - b.1.2) ≤ 2 ^ 21 := by
    simp only [ucross]; omega
  have bP : -(2 ^ 21) ≤ ucross (b.1.1 - a.1.1, b.1.2 - a.1.2) (b.2.1 - b.1.1, b.2.2 - b.1.2) ∧ ucross (b.1.1 - a.1.1, b.1.2 - a.1.2) (b.2.1 - b.1.1, b.2.2 - b.1.2) ≤ 2 ^ 21 := by
    simp only [ucross]; omega
  have eS : solW (ofW a) (ofW b) = atP (ofW a) ((ucross (b.1.1 - a.1.1, b.1.2 - a.1.2) (b.2.1 - b.1.1, b.2.2 - b.1.2) : Rat) / (ucross (a.2.1 - a.1.1, a.2.2 - a.1.2) (b.2.1 - b.1.1, b.2.2 - b.1.2) : Int)) := by
    rw [sol_a, cP, cD]; rfl
  have hD : ucross (a.2.1 - a.1.1, a.2.2 - a.1.2) (b.2.1 - b.1.1, b.2.2 - b.1.2) ≠ 0 := by
    intro z; apply hc
    show crs (alng (ofU a.1, ofU a.2)) (alng (ofU b.1, ofU b.2)) = 0
    rw [← cD, z]; rfl
  generalize ucross (a.2.1 - a.1.1, a.2.2 - a.1.2) (b.2.1 - b.1.1, b.2.2 - b.1.2) = D at bD' eS hD
  generalize ucross (b.1.1 - a.1.1, b.1.2 - a.1.2) (b.2.1 - b.1.1, b.2.2 - b.1.2) = P at bP eS
  have hD' : (D : Rat) ≠ 0 := by intro z; exact hD (by exact_mod_cast z)
  have fin : ∀ D P : Int, 0 < D → D ≤ 2 ^ 21 → -(2 ^ 21) ≤ P → P ≤ 2 ^ 21 → ∃ t, TOk t ∧ atP (ofW a) ((P : Rat) / D) = ofT t := by
    intro D P d0 d1 p0 p1
    have hD' : (D : Rat) ≠ 0 := by intro z; have : D = 0 := by exact_mod_cast z
                                   omega
    have q1 : (a.1.1 * D).natAbs < 2 ^ 35 := natAbs_mul_lt (a := 10) (b := 25) (by omega) (by omega)
    have q2 : (a.1.2 * D).natAbs < 2 ^ 35 := natAbs_mul_lt (a := 10) (b := 25) (by omega) (by omega)
    have q3 : (P * (a.2.1 - a.1.1)).natAbs < 2 ^ 35 := natAbs_mul_lt (a := 22) (b := 13) (by omega) (by omega)
    have q4 : (P * (a.2.2 - a.1.2)).natAbs < 2 ^ 35 := natAbs_mul_lt (a := 22) (b := 13) (by omega) (by omega)
    refine ⟨⟨a.1.1 * D + P * (a.2.1 - a.1.1), a.1.2 * D + P * (a.2.2 - a.1.2), D⟩, ⟨by simp only; omega, by simp only; omega, by simp only; omega, by simp only; omega, by simp only; omega, by simp only; omega⟩, ?_⟩
    unfold atP ofT ofW alng ofU
    simp only [Rat.intCast_add, Rat.intCast_mul, Rat.intCast_sub, Prod.mk.injEq]
    constructor <;> grind
  rw [eS]
  by_cases h : 0 < D
  · exact fin D P h (by omega) (by omega) (by omega)
  · obtain ⟨t, h1, h2⟩ := fin (-D) (-P) (by omega) (by omega) (by omega) (by omega)
    refine ⟨t, h1, ?_⟩
    rw [← h2]
    congr 1
    rw [Rat.intCast_neg, Rat.intCast_neg]
    grind
theorem sol_bd {s : Sc} {a b : UW} (hs : ScOk s) (ha : WOk 500 a) (hb : WOk 500 b) (hc : crs (alng (afw s (ofW a))) (alng (afw s (ofW b))) ≠ 0) : BP (solW (afw s (ofW a)) (afw s (ofW b))) 400 := by
  have hc' : crs (alng (ofW a)) (alng (ofW b)) ≠ 0 := fun z => hc ((crs_af0 hs _ _).mpr z)
  obtain ⟨t, ht, e⟩ := sol_units ha hb hc'
  rw [sol_af hs hc', e]
  exact (bp_afT hs ht).mono (by decide)
theorem t_meeting {a b : Wl} {S : Sto} {Q : Hold MQ} {E : Hold MXQ} (ha : BW a 400) (hb : BW b 400) (hs : crs (alng a) (alng b) ≠ 0 → BP (solW a b) 400) (k : Q.v (meD (meetW a b)) S) : @CallP sp_meeting [wlD a, wlD b] S Q E := ⟨a, b, rfl, ha, hb, hs, k⟩
end FL
namespace FL
open PySem PySem.Spec L2 ML
def ins (s : Pt) : List Pt → List Pt
  | [] => [s]
  | t :: r => if ahead t s then t :: ins s r else if t = s then t :: r else s :: t :: r
def insAll (ps : List Pt) (acc : List Pt) : List Pt := ps.foldl (fun r s => ins s r) acc
abbrev Srt (ps : List Pt) : Prop := ps.Pairwise ahead
theorem mem_ins {s t : Pt} : ∀ {ps : List Pt}, t ∈ ins s ps ↔ t = s ∨ t ∈ ps
  | [] => by simp [ins]
  | p :: ps => by
    unfold ins
    split
    · simp only [List.mem_cons, mem_ins (ps := ps)]
      constructor
      · rintro (h | h | h) <;> simp [h]
      · rintro (h | h | h) <;> simp [h]
    · split
      · next e => subst e; simp
      · simp
theorem srt_ins {s : Pt} : ∀ {ps : List Pt}, Srt ps → Srt (ins s ps)
  | [], _ => List.pairwise_singleton ..
  | p :: ps, h => by
    replace h := List.pairwise_cons.mp h
    unfold ins
    split
    · next z =>
      refine List.pairwise_cons.mpr ⟨fun t ht => ?_, srt_ins h.2⟩
      rcases mem_ins.mp ht with e | e
      · rw [e]; exact z
      · exact h.1 t e
    · split
      · exact List.pairwise_cons.mpr h
      · next z n =>
        have y : ahead s p := by
          rcases ahead_tri s p with y | y | y
          · exact y
          · exact absurd y.symm n
          · exact absurd y z
        refine List.pairwise_cons.mpr ⟨fun t ht => ?_, List.pairwise_cons.mpr h⟩
        rcases List.mem_cons.mp ht with e | e
        · rw [e]; exact y
        · exact ahead_trans y (h.1 t e)
theorem srt_all {ps : List Pt} : ∀ {acc : List Pt}, Srt acc → Srt (insAll ps acc) := by
  induction ps with
  | nil => intro acc h; exact h
  | cons p ps ih => intro acc h; exact ih (srt_ins h)
theorem mem_all {ps : List Pt} {t : Pt} : ∀ {acc : List Pt}, t ∈ insAll ps acc ↔ t ∈ ps ∨ t ∈ acc := by
  induction ps with
  | nil => intro acc; simp [insAll]
  | cons p ps ih =>
    intro acc
    show t ∈ insAll ps (ins p acc) ↔ _
    rw [ih, mem_ins, List.mem_cons]
    constructor
    · rintro (h | h | h) <;> simp [h]
    · rintro ((h | h) | h) <;> simp [h]
theorem len_ins {s : Pt} : ∀ {ps : List Pt}, (ins s ps).length ≤ ps.length + 1
  | [] => Nat.le_refl _
  | p :: ps => by
    unfold ins
    split
    · have := len_ins (s := s) (ps := ps); simp only [List.length_cons]; omega
    · split <;> simp only [List.length_cons] <;> omega
theorem srt_ext : ∀ {ps qs : List Pt}, Srt ps → Srt qs → (∀ t, t ∈ ps ↔ t ∈ qs) → ps = qs
  | [], [], _, _, _ => rfl
  | [], q :: qs, _, _, h => by have := (h q).mpr List.mem_cons_self; cases this
  | p :: ps, [], _, _, h => by have := (h p).mp List.mem_cons_self; cases this
  | p :: ps, q :: qs, h1, h2, h => by
    replace h1 := List.pairwise_cons.mp h1
    replace h2 := List.pairwise_cons.mp h2
    have e : p = q := by
      rcases List.mem_cons.mp ((h p).mp List.mem_cons_self) with z | z
      · exact z
      · rcases List.mem_cons.mp ((h q).mpr List.mem_cons_self) with y | y
        · exact y.symm
        · exact absurd (h1.1 q y) (ahead_asymm (h2.1 p z))
    subst e
    congr 1
    refine srt_ext h1.2 h2.2 fun t => ?_
    constructor
    · intro ht
      rcases List.mem_cons.mp ((h t).mp (List.mem_cons_of_mem _ ht)) with z | z
      · subst z; exact absurd (h1.1 t ht) (ahead_irrefl t)
      · exact z
    · intro ht
      rcases List.mem_cons.mp ((h t).mpr (List.mem_cons_of_mem _ ht)) with z | z
      · subst z; exact absurd (h2.1 t ht) (ahead_irrefl t)
      · exact z
def Pass (ps : List Pt) (s : Pt) (k : Nat) : Prop := k ≤ ps.length ∧ (∀ i (h : i < ps.length), i < k → ahead ps[i] s) ∧ (∀ i (h : i < ps.length), k ≤ i → ¬ ahead ps[i] s)
theorem ins_pass : ∀ {ps : List Pt} {s : Pt} {k : Nat}, Pass ps s k → (∀ h : k < ps.length, ps[k] = s → ins s ps = ps) ∧ ((∀ h : k < ps.length, ps[k] ≠ s) → ins s ps = ps.take k ++ [s] ++ ps.drop k)
  | [], s, k, h => by
    have : k = 0 := by have := h.1; simpa using this
    subst this
    exact ⟨fun z => absurd z (Nat.lt_irrefl _), fun _ => rfl⟩
  | p :: ps, s, 0, h => by
    have n := h.2.2 0 (Nat.succ_pos _) (Nat.le_refl _)
    simp only [List.getElem_cons_zero] at n
    constructor
    · intro _ e
      simp only [List.getElem_cons_zero] at e
      unfold ins; rw [if_neg n, if_pos e]
    · intro z
      have := z (Nat.succ_pos _)
      simp only [List.getElem_cons_zero] at this
      unfold ins; rw [if_neg n, if_neg this]; rfl
  | p :: ps, s, k + 1, h => by
    have n := h.2.1 0 (Nat.succ_pos _) (Nat.succ_pos _)
    simp only [List.getElem_cons_zero] at n
    have h' : Pass ps s k := ⟨by have := h.1; simp only [List.length_cons] at this; omega, fun i hi hk => by
      have := h.2.1 (i + 1) (by simp only [List.length_cons]; omega) (by omega)
      simpa only [List.getElem_cons_succ] using this, fun i hi hk => by
      have := h.2.2 (i + 1) (by simp only [List.length_cons]; omega) (by omega)
      simpa only [List.getElem_cons_succ] using this⟩
    obtain ⟨i1, i2⟩ := ins_pass h'
    constructor
    · intro z e
      simp only [List.getElem_cons_succ] at e
      unfold ins; rw [if_pos n, i1 (by simp only [List.length_cons] at z; omega) e]
    · intro z
      unfold ins; rw [if_pos n, i2 (fun y => by have := z (by simp only [List.length_cons]; omega); simpa only [List.getElem_cons_succ] using this)]
      rfl
theorem deqs_map {α : Type} [DecidableEq α] {enc : α → D} (h : ∀ a b, D.deq (enc a) (enc b) = decide (a = b)) : ∀ as bs : List α, D.deqs (as.map enc) (bs.map enc) = decide (as = bs)
  | [], [] => by simp [D.deqs]
  | [], _ :: _ => by simp [D.deqs]
  | _ :: _, [] => by simp [D.deqs]
  | a :: as, b :: bs => by
    simp only [List.map_cons, D.deqs, h, deqs_map h as bs]
    rw [Bool.eq_iff_iff]
    simp only [Bool.and_eq_true, decide_eq_true_eq, List.cons.injEq]
theorem eqOk_lm {α β : Type} {f : α → D} {g : β → D} (h1 : ∀ a, D.plain (f a) = true) (h2 : ∀ a, D.plain (g a) = true) (d1 : ∀ a, D.dep (f a) ≤ 20) (d2 : ∀ a, D.dep (g a) ≤ 20) (as : List α) (bs : List β) : eqOk (.lst (as.map f)) (.lst (bs.map g)) = true :=
  eqOk_of (plains_map h1) (plains_map h2) (by have := deps_map (xs := as) d1; rw [D.dep]; omega) (by have := deps_map (xs := bs) d2; rw [D.dep]; omega)
theorem eqOk_tm {α β : Type} {f : α → D} {g : β → D} (h1 : ∀ a, D.plain (f a) = true) (h2 : ∀ a, D.plain (g a) = true) (d1 : ∀ a, D.dep (f a) ≤ 20) (d2 : ∀ a, D.dep (g a) ≤ 20) (as : List α) (bs : List β) : eqOk (.tup (as.map f)) (.tup (bs.map g)) = true :=
  eqOk_of (plains_map h1) (plains_map h2) (by have := deps_map (xs := as) d1; rw [D.dep]; omega) (by have := deps_map (xs := bs) d2; rw [D.dep]; omega)
theorem eqOk_lsp {as bs : List Pt} : eqOk (.lst (as.map spD)) (.lst (bs.map spD)) = true := eqOk_lm plain_sp plain_sp (fun a => by rw [dep_sp]; decide) (fun a => by rw [dep_sp]; decide) as bs
theorem deq_lsp {as bs : List Pt} : D.deq (.lst (as.map spD)) (.lst (bs.map spD)) = decide (as = bs) := by rw [D.deq]; exact deqs_map (fun _ _ => deq_sp) as bs
theorem eqOk_twl {as bs : List Wl} : eqOk (.tup (as.map wlD)) (.tup (bs.map wlD)) = true := eqOk_tm plain_wl plain_wl (fun a => by rw [dep_wl]; decide) (fun a => by rw [dep_wl]; decide) as bs
theorem deq_twl {as bs : List Wl} : D.deq (.tup (as.map wlD)) (.tup (bs.map wlD)) = decide (as = bs) := by rw [D.deq]; exact deqs_map (fun _ _ => deq_wl) as bs
theorem deq_lwl {as bs : List Wl} : D.deq (.lst (as.map wlD)) (.lst (bs.map wlD)) = decide (as = bs) := by rw [D.deq]; exact deqs_map (fun _ _ => deq_wl) as bs
theorem eqOk_lwl {as bs : List Wl} : eqOk (.lst (as.map wlD)) (.lst (bs.map wlD)) = true := eqOk_lm plain_wl plain_wl (fun a => by rw [dep_wl]; decide) (fun a => by rw [dep_wl]; decide) as bs
theorem memD_map {α : Type} [DecidableEq α] {enc : α → D} (h : ∀ a b, D.deq (enc a) (enc b) = decide (a = b)) (a : α) : ∀ as : List α, memD (enc a) (as.map enc) = decide (a ∈ as)
  | [] => by simp [memD]
  | b :: as => by
    have : memD (enc a) ((b :: as).map enc) = (D.deq (enc b) (enc a) || memD (enc a) (as.map enc)) := rfl
    rw [this, h, memD_map h a as, Bool.eq_iff_iff]
    simp only [Bool.or_eq_true, decide_eq_true_eq, List.mem_cons]
    constructor
    · rintro (z | z)
      · exact .inl z.symm
      · exact .inr z
    · rintro (z | z)
      · exact .inl z.symm
      · exact .inr z
theorem in_lst {α : Type} [DecidableEq α] {enc : α → D} (h : ∀ a b, D.deq (enc a) (enc b) = decide (a = b)) (h1 : ∀ a, D.plain (enc a) = true) (d1 : ∀ a, D.dep (enc a) ≤ 20) {neg : Bool} {a : α} {d : D} {as : List α} {S : Sto} {Q : MQ} (hl : look S d = .lst (as.map enc)) : rInM neg (enc a) d S Q = Q (.bl (if neg then !decide (a ∈ as) else decide (a ∈ as))) S := by
  have c : D.plain (enc a) = true ∧ D.plains (as.map enc) = true ∧ D.dep (enc a) ≤ 64 ∧ D.deps (as.map enc) ≤ 63 := ⟨h1 a, plains_map h1, by have := d1 a; omega, Nat.le_trans (deps_map d1) (by decide)⟩
  simp only [rInM, hl, memD_map h]
  exact propext ⟨fun h => h.2, fun h => ⟨c, h⟩⟩
theorem in_lu {neg : Bool} {u : U2} {us : List U2} {S : Sto} {Q : MQ} : rInM neg (uD u) (.lst (us.map uD)) S Q = Q (.bl (if neg then !decide (u ∈ us) else decide (u ∈ us))) S := by
  rw [in_lst (enc := uD) (as := us) (d := .lst (us.map uD)) (a := u) (fun a b => deq_u (p := a) (q := b)) plain_u (fun a => by rw [dep_u]; decide) rfl]
  have e : ∀ (i1 i2 : Decidable (u ∈ us)), @decide _ i1 = @decide _ i2 := fun i1 i2 => congrArg (fun i => @decide _ i) (Subsingleton.elim i1 i2)
  exact congrArg (fun b => Q (.bl (if neg then !b else b)) S) (e _ _)
def sp_passed : MSp := fun ds S Q _ => ∃ (d : D) (ps : List Pt) (s : Pt) (m : Nat), ds = [d, spD s] ∧ SeqK S d (ps.map spD) ∧ ps.length ≤ 1000 ∧ Srt ps ∧ m < 2000 ∧ BP s m ∧ (∀ p ∈ ps, BP p m) ∧ ∀ k : Nat, Pass ps s k → Q (.int k) S
def sp_put_in_row : MSp := fun ds S Q _ => ∃ (p : Addr) (ps : List Pt) (s : Pt) (m : Nat), ds = [.ref p, spD s] ∧ S p = some (.lst (ps.map spD)) ∧ ps.length ≤ 900 ∧ Srt ps ∧ m < 2000 ∧ BP s m ∧ (∀ p ∈ ps, BP p m) ∧ Q .non (put S p (.lst ((ins s ps).map spD)))
end FL
set_option maxRecDepth 100000
namespace FL
open PySem PySem.Spec L2 ML
def b_passed : MS := (mSeq (mSet 2 (mC (.int 0)))
  (mSeq (mSet 3 (mBlt bLen (mCons (mVar 0) mNil)))
  (mSeq (mWhile (mTst (mOp aLt (mVar 2) (mVar 3))) (mSeq (mSet 4 (mOp rDiv (mOp rAdd (mVar 2) (mVar 3)) (mC (.int 2))))
  (mIfS (mTru (mCall FL.sp_is_ahead (mCons (mOp rIxM (mVar 0) (mVar 4)) (mCons (mVar 1) mNil)))) (mSet 2 (mOp rAdd (mVar 4) (mC (.int 1)))) (mSet 3 (mVar 4)))))
  (mRet (mVar 2)))))
def b_put_in_row : MS := (mSeq (mSet 2 (mCall FL.sp_passed (mCons (mVar 0) (mCons (mVar 1) mNil))))
  (mIfS (mTst (mOp rNeM (mCut (mVar 0) (oSo (mVar 2)) (oSo (mOp rAdd (mVar 2) (mC (.int 1))))) (mLstF (mCons (mVar 1) mNil)))) (mExpr (mMt mtInsert (mVar 0) (mCons (mVar 2) (mCons (mVar 1) mNil)))) mNext))
end FL
set_option maxRecDepth 100000
set_option maxHeartbeats 4000000
namespace FL
open PySem PySem.Spec L2 ML
theorem l_passed : ∀ ds S Q E, FL.sp_passed ds S Q E → ds.length = 2 := by rintro _ _ _ _ ⟨_, _, _, _, rfl, _⟩; rfl
theorem l_put_in_row : ∀ ds S Q E, FL.sp_put_in_row ds S Q E → ds.length = 2 := by rintro _ _ _ _ ⟨_, _, _, _, rfl, _⟩; rfl
theorem r_passed : ∀ ds S Q E, FL.sp_passed ds S Q E → b_passed (mends Q E) (mstart 3 ds) S := by
  rintro _ S Q E ⟨d, ps, s, m, rfl, hd, hz, hs, hm, hbs, hbp, k⟩
  unfold b_passed
  simp only [ML.q_mstart, ML.q_mends, List.map_cons, List.map_nil, List.replicate, List.cons_append, List.nil_append]
  simp only [gz1, hd.len, List.length_map]
  refine while_rule (fun n σ S' => @KP ⟨∃ (lo hi : Nat) (a : Option D), σ = [some d, some (spD s), some (.int lo), some (.int hi), a] ∧ S' = S ∧ n = hi - lo ∧ lo ≤ hi ∧ hi ≤ ps.length ∧ (∀ i (h : i < ps.length), i < lo → ahead ps[i] s) ∧ (∀ i (h : i < ps.length), hi ≤ i → ¬ ahead ps[i] s)⟩) ⟨_, 0, ps.length, none, rfl, rfl, rfl, Nat.zero_le _, Nat.le_refl _, fun i h z => by omega, fun i h z => by omega⟩ ?_
  rintro n σ S' ⟨lo, hi, a, rfl, rfl, rfl, h1, h2, h3, h4⟩
  simp only [gz1]
  refine ⟨fun hl => ?_, fun hl => ?_⟩
  · have hl' : lo < hi := by omega
    have em : ((lo : Int) + hi).fdiv 2 = ((lo + hi) / 2 : Nat) := by
      rw [fdiv_pos (by decide)]; omega
    have hlt : (lo + hi) / 2 < ps.length := by omega
    have eg : (ps.map spD)[(lo + hi) / 2]? = some (spD ps[(lo + hi) / 2]) := by rw [List.getElem?_map, List.getElem?_eq_getElem hlt]; rfl
    have z1 := hbp _ (List.getElem_mem hlt)
    simp only [gz1, em, hd.seq, eg]
    simp (disch := omega) only [gz1, c_is_ahead]
    refine ⟨fun hx => ?_, fun hx => ?_⟩
    · simp only [gz1]
      have e1 : (((lo + hi) / 2 : Nat) : Int) + 1 = ((lo + hi) / 2 + 1 : Nat) := by omega
      rw [e1]
      refine ⟨hi - ((lo + hi) / 2 + 1), by omega, (lo + hi) / 2 + 1, hi, _, rfl, rfl, rfl, by omega, h2, fun i h z => ?_, h4⟩
      by_cases y : i = (lo + hi) / 2
      · subst y; exact hx
      · exact ahead_trans (List.pairwise_iff_getElem.mp hs i _ h hlt (by omega)) hx
    · simp only [gz1]
      refine ⟨(lo + hi) / 2 - lo, by omega, lo, (lo + hi) / 2, _, rfl, rfl, rfl, by omega, by omega, h3, fun i h z => ?_⟩
      by_cases y : i = (lo + hi) / 2
      · subst y; exact hx
      · intro w
        exact hx (ahead_trans (List.pairwise_iff_getElem.mp hs _ i hlt h (by omega)) w)
  · simp only [gz1]
    have e : lo = hi := by omega
    subst e
    exact k lo ⟨h2, h3, h4⟩
theorem r_put_in_row : ∀ ds S Q E, FL.sp_put_in_row ds S Q E → b_put_in_row (mends Q E) (mstart 1 ds) S := by
  rintro _ S Q E ⟨p, ps, s, m, rfl, hp, hz, hs, hm, hbs, hbp, k⟩
  unfold b_put_in_row
  simp only [ML.q_mstart, ML.q_mends, List.map_cons, List.map_nil, List.replicate, List.cons_append, List.nil_append]
  simp only [gz1]
  refine ⟨_, ps, s, m, rfl, .ref hp, by omega, hs, hm, hbs, hbp, fun n hn => ?_⟩
  obtain ⟨i1, i2⟩ := ins_pass hn
  simp only [gz1, hp]
  have ec : cutD (ps.map spD) (some ↑n) (some (↑n + 1)) = ((ps.drop n).take 1).map spD := by
    have h1 := hn.1
    have e1 : HT.sIx (ps.map spD).length 0 (some (n : Int)) = n := by
      simp only [HT.sIx, List.length_map]
      rw [if_neg (by omega)]; omega
    have e2 : HT.sIx (ps.map spD).length (ps.map spD).length (some ((n : Int) + 1)) = min (n + 1) ps.length := by
      simp only [HT.sIx, List.length_map]
      rw [if_neg (by omega)]; congr 1
    unfold cutD
    rw [e1, e2, ← List.map_drop, ← List.map_take]
    congr 1
    by_cases h : n < ps.length
    · rw [show min (n + 1) ps.length - n = 1 by omega]
    · rw [List.drop_eq_nil_of_le (by omega)]; simp
  have o1 : eqOk (.lst (((ps.drop n).take 1).map spD)) (.lst [spD s]) = true := eqOk_lsp (bs := [s])
  have o2 : D.deq (.lst (((ps.drop n).take 1).map spD)) (.lst [spD s]) = decide ((ps.drop n).take 1 = [s]) := deq_lsp (bs := [s])
  rw [ec]
  simp only [gz1, o1, o2]
  have n1 := hn.1
  refine ⟨fun hx => ?_, fun hx => ?_⟩
  · simp only [gz1, isLst_ref hp, hp]
    refine ⟨⟨line_lt (by omega), by omega, by omega⟩, ?_⟩
    have e : ins s ps = ps.take n ++ [s] ++ ps.drop n := by
      refine i2 fun h e => hx ?_
      rw [List.drop_eq_getElem_cons h, e]; rfl
    rw [e] at k
    simp only [List.map_append, List.map_take, List.map_drop, List.map_cons, List.map_nil] at k
    exact k
  · simp only [gz1]
    have e : ins s ps = ps := by
      have hx' : (ps.drop n).take 1 = [s] := Decidable.not_not.mp hx
      by_cases h : n < ps.length
      · rw [List.drop_eq_getElem_cons h] at hx'
        exact i1 h (List.cons.inj hx').1
      · rw [List.drop_eq_nil_of_le (by omega)] at hx'; cases hx'
    rw [e, put_back hp] at k
    exact k
theorem t_put_in_row {p : Addr} {ps : List Pt} {s : Pt} {m : Nat} {S : Sto} {Q : Hold MQ} {E : Hold MXQ} (hp : S p = some (.lst (ps.map spD))) (hz : ps.length ≤ 900) (hs : Srt ps) (hm : m < 2000) (hbs : BP s m) (hbp : ∀ p ∈ ps, BP p m) (k : Q.v .non (put S p (.lst ((ins s ps).map spD)))) : @CallP sp_put_in_row [.ref p, spD s] S Q E := ⟨p, ps, s, m, rfl, hp, hz, hs, hm, hbs, hbp, k⟩
theorem len_all {ps : List Pt} : ∀ {acc : List Pt}, (insAll ps acc).length ≤ acc.length + ps.length := by
  induction ps with
  | nil => intro acc; exact Nat.le_refl _
  | cons p ps ih =>
    intro acc
    have h1 := ih (acc := ins p acc)
    have h2 := len_ins (s := p) (ps := acc)
    show (insAll ps (ins p acc)).length ≤ _
    simp only [List.length_cons]; omega
theorem insAll_append (ps qs acc : List Pt) : insAll (ps ++ qs) acc = insAll qs (insAll ps acc) := by unfold insAll; rw [List.foldl_append]
end FL
namespace FL
open PySem PySem.Spec L2 ML
def isFair (a b : Wl) : Bool := match meetW a b with
  | .no => true
  | .spot p => (decide (a.1 = p) || decide (a.2 = p)) && (decide (b.1 = p) || decide (b.2 = p))
  | .stretch _ => false
section
variable {a b : Wl}
theorem cx_ends (a b : Wl) : cx b a.2 = cx b a.1 - crs (alng a) (alng b) ∧ cx a b.2 = cx a b.1 + crs (alng a) (alng b) := by
  constructor <;> (simp only [cx, crs, alng]; grind)
theorem sol_ta (hc : crs (alng a) (alng b) ≠ 0) : solW a b = atP a (cx b a.1 / crs (alng a) (alng b)) := by
  rw [sol_a]
  congr 2
  simp only [cx, crs, alng]; grind
theorem sol_tb (hc : crs (alng a) (alng b) ≠ 0) : solW a b = atP b (- cx a b.1 / crs (alng a) (alng b)) := by
  rw [sol_b hc]
  congr 2
  simp only [cx, crs, alng]; grind
theorem cx_at (w : Wl) (t : Rat) : cx w (atP w t) = 0 := by simp only [cx, crs, alng, atP]; grind
theorem cx_sol_b (hc : crs (alng a) (alng b) ≠ 0) : cx b (solW a b) = 0 := by rw [sol_tb hc, cx_at]
theorem cx_sol_a (hc : crs (alng a) (alng b) ≠ 0) : cx a (solW a b) = 0 := by rw [sol_ta hc, cx_at]
theorem not_ahead_iff {p q : Pt} : ¬ ahead p q ↔ q = p ∨ ahead q p := by
  constructor
  · intro h
    rcases ahead_tri p q with z | z | z
    · exact absurd z h
    · exact .inl z.symm
    · exact .inr z
  · rintro (z | z)
    · subst z; exact ahead_irrefl _
    · exact ahead_asymm z
theorem le_lt {p q r : Pt} (h : ¬ ahead q p) (k : ahead q r) : ahead p r := by
  rcases not_ahead_iff.mp h with z | z
  · rw [z]; exact k
  · exact ahead_trans z k
theorem lt_le {p q r : Pt} (h : ahead p q) (k : ¬ ahead r q) : ahead p r := by
  rcases not_ahead_iff.mp k with z | z
  · rw [← z]; exact h
  · exact ahead_trans h z
theorem par_zero (ha : Up a) (hb : Up b) (hc : crs (alng a) (alng b) = 0) (h : cx a b.1 = 0) : cx a b.2 = 0 ∧ cx b a.1 = 0 ∧ cx b a.2 = 0 := by
  have e := cx_ends a b
  have pa := ahead_posv.mp ha.up
  have k1 : cx b a.1 * (alng a).1 = - (cx a b.1 * (alng b).1) := by
    have : cx b a.1 * (alng a).1 + cx a b.1 * (alng b).1 = (b.1.1 - a.1.1) * crs (alng a) (alng b) := by simp only [cx, crs, alng]; grind
    rw [hc] at this; grind
  have k2 : cx b a.1 * (alng a).2 = - (cx a b.1 * (alng b).2) := by
    have : cx b a.1 * (alng a).2 + cx a b.1 * (alng b).2 = (b.1.2 - a.1.2) * crs (alng a) (alng b) := by simp only [cx, crs, alng]; grind
    rw [hc] at this; grind
  have z : cx b a.1 = 0 := by
    rw [h] at k1 k2
    rcases pa with y | ⟨y, y2⟩
    · have h1 : cx b a.1 * (alng a).1 = 0 := by grind
      rcases Rat.mul_eq_zero.mp h1 with w | w
      · exact w
      · simp only [alng, sb] at w y; grind
    · have h1 : cx b a.1 * (alng a).2 = 0 := by grind
      rcases Rat.mul_eq_zero.mp h1 with w | w
      · exact w
      · simp only [alng, sb] at w y2; grind
  exact ⟨by grind, z, by grind⟩
end
end FL
namespace FL
open PySem PySem.Spec L2 ML
def solB (a b : Wl) : Prop := crs (alng a) (alng b) ≠ 0 → BP (solW a b) 400
def unfairAt (ws : List Wl) (w : Wl) : Option Nat := ws.findIdx? fun v => !isFair w v
def onD : Option Nat → D
  | none => .non
  | some n => .int n
inductive LstK (S : Sto) : D → List D → Prop
  | lst {ds : List D} : LstK S (.lst ds) ds
  | ref {q : Addr} {ds : List D} : S q = some (.lst ds) → LstK S (.ref q) ds
theorem LstK.of {S : Sto} {d : D} {ds : List D} (h : LstK S d ds) : lstOf S d = some ds := by
  cases h with
  | lst => rfl
  | ref h => simp only [lstOf, h]
theorem LstK.seqk {S : Sto} {d : D} {ds : List D} (h : LstK S d ds) : SeqK S d ds := by
  cases h with
  | lst => exact .lst
  | ref h => exact .ref h
theorem cut_take {α : Type} {f : α → D} {as : List α} {n : Nat} (h : n ≤ as.length) : cutD (as.map f) none (some (n : Int)) = (as.take n).map f := by
  unfold cutD
  have e1 : HT.sIx (as.map f).length 0 none = 0 := by simp [HT.sIx]
  have e2 : HT.sIx (as.map f).length (as.map f).length (some (n : Int)) = n := by
    simp only [HT.sIx, List.length_map]
    rw [if_neg (by omega)]; omega
  rw [e1, e2, List.map_take]
  simp
theorem in_wl {neg : Bool} {p : Pt} {w : Wl} {S : Sto} {Q : MQ} : rInM neg (spD p) (wlD w) S Q = Q (.bl (if neg then !(decide (w.1 = p) || decide (w.2 = p)) else (decide (w.1 = p) || decide (w.2 = p)))) S := by
  have e : look S (wlD w) = .tup [spD w.1, spD w.2] := rfl
  have m : memD (spD p) [spD w.1, spD w.2] = (decide (w.1 = p) || decide (w.2 = p)) := by
    show (D.deq (spD w.1) (spD p) || (D.deq (spD w.2) (spD p) || false)) = _
    rw [deq_sp, deq_sp, Bool.or_false]
  have c : D.plain (spD p) = true ∧ D.plains [spD w.1, spD w.2] = true ∧ D.dep (spD p) ≤ 64 ∧ D.deps [spD w.1, spD w.2] ≤ 63 :=
    ⟨plain_sp p, plain_wl w, by rw [dep_sp]; decide, by have := dep_wl w; rw [wlD, D.dep] at this; omega⟩
  simp only [rInM, e, m]
  exact propext ⟨fun h => h.2, fun h => ⟨c, h⟩⟩
def sp_is_fair : MSp := fun ds S Q _ => ∃ a b : Wl, ds = [wlD a, wlD b] ∧ BW a 400 ∧ BW b 400 ∧ solB a b ∧ Q (.bl (isFair a b)) S
def sp_unfair_with : MSp := fun ds S Q _ => ∃ (d : D) (ws : List Wl) (w : Wl), ds = [d, wlD w] ∧ LstK S d (ws.map wlD) ∧ ws.length ≤ 1000 ∧ BW w 400 ∧ (∀ v ∈ ws, BW v 400 ∧ solB w v) ∧ Q (onD (unfairAt ws w)) S
def Fairs (ws : List Wl) : Prop := ws.Pairwise fun a b => isFair b a = true
def sp_plot_of : MSp := fun ds S Q _ => ∃ (d : D) (ws : List Wl), ds = [d] ∧ LstK S d (ws.map wlD) ∧ ws.length ≤ 40 ∧ (∀ v ∈ ws, BW v 400) ∧ ws.Pairwise (fun a b => solB b a) ∧ Fairs ws ∧ Q (.tup (ws.map wlD)) S
theorem unfair_none {ws : List Wl} {w : Wl} (h : ∀ v ∈ ws, isFair w v = true) : unfairAt ws w = none := by
  unfold unfairAt
  rw [List.findIdx?_eq_none_iff]
  intro v hv; simp [h v hv]
theorem t_is_fair {a b : Wl} {S : Sto} {Q : Hold MQ} {E : Hold MXQ} (ha : BW a 400) (hb : BW b 400) (hs : solB a b) (k : Q.v (.bl (isFair a b)) S) : @CallP sp_is_fair [wlD a, wlD b] S Q E := ⟨a, b, rfl, ha, hb, hs, k⟩
theorem t_plot {d : D} {ws : List Wl} {S : Sto} {Q : Hold MQ} {E : Hold MXQ} (hd : LstK S d (ws.map wlD)) (hz : ws.length ≤ 40) (hb : ∀ v ∈ ws, BW v 400) (hs : ws.Pairwise (fun a b => solB b a)) (hf : Fairs ws) (k : Q.v (.tup (ws.map wlD)) S) : @CallP sp_plot_of [d] S Q E := ⟨d, ws, rfl, hd, hz, hb, hs, hf, k⟩
end FL
set_option maxRecDepth 100000
namespace FL
open PySem PySem.Spec L2 ML
def b_is_fair : MS := (mSeq (mSet 2 (mCall FL.sp_meeting (mCons (mVar 0) (mCons (mVar 1) mNil))))
  (mSeq (mIfS (mTst (mOp rIsN (mVar 2) (mC .non))) (mRet (mC (.bl true))) mNext)
  (mRet (mAndV (mOp rEqM (mOp rIxM (mVar 2) (mC (.int 0))) (mC (.str "spot"))) (mAndV (mOp (rInM false) (mOp rIxM (mVar 2) (mC (.int 1))) (mVar 0)) (mOp (rInM false) (mOp rIxM (mVar 2) (mC (.int 1))) (mVar 1)))))))
def b_unfair_with : MS := (mSeq (mFor (iEn (mCons (mVar 0) mNil)) (gTp 2 (gCn (gNm 2) (gCn (gNm 3) gNl))) (mIfS (mNot (mTru (mCall FL.sp_is_fair (mCons (mVar 1) (mCons (mVar 3) mNil))))) (mRet (mVar 2)) mNext))
  (mRet (mC .non)))
def b_plot_of : MS := (mSeq (mIfS (mTst (mOp aGt (mBlt bLen (mCons (mVar 0) mNil)) (mC (.int 40)))) mNever mNext)
  (mSeq (mFor (iEn (mCons (mVar 0) mNil)) (gTp 2 (gCn (gNm 1) (gCn (gNm 2) gNl))) (mSeq (mSet 3 (mCall FL.sp_unfair_with (mCons (mCut (mVar 0) oNo (oSo (mVar 1))) (mCons (mVar 2) mNil))))
  (mIfS (mTst (mOp rNotN (mVar 3) (mC .non))) mNever mNext)))
  (mRet (mBlt bTuple (mCons (mVar 0) mNil)))))
end FL
set_option maxRecDepth 100000
set_option maxHeartbeats 4000000
namespace FL
open PySem PySem.Spec L2 ML
theorem l_is_fair : ∀ ds S Q E, FL.sp_is_fair ds S Q E → ds.length = 2 := by rintro _ _ _ _ ⟨_, _, rfl, _⟩; rfl
theorem l_unfair_with : ∀ ds S Q E, FL.sp_unfair_with ds S Q E → ds.length = 2 := by rintro _ _ _ _ ⟨_, _, _, rfl, _⟩; rfl
theorem l_plot_of : ∀ ds S Q E, FL.sp_plot_of ds S Q E → ds.length = 1 := by rintro _ _ _ _ ⟨_, _, rfl, _⟩; rfl
theorem r_is_fair : ∀ ds S Q E, FL.sp_is_fair ds S Q E → b_is_fair (mends Q E) (mstart 1 ds) S := by
  rintro _ S Q E ⟨a, b, rfl, ha, hb, hs, k⟩
  unfold b_is_fair
  simp only [ML.q_mstart, ML.q_mends, List.map_cons, List.map_nil, List.replicate, List.cons_append, List.nil_append]
  simp only [gz1]
  refine t_meeting ha hb hs ?_
  simp only [gz1]
  unfold isFair at k
  have hw : ¬ (("stretch" : Str) = "spot") := by decide +kernel
  have o1 : eqOk (.str "spot") (.str "spot") = true := by decide +kernel
  have o2 : eqOk (.str "stretch") (.str "spot") = true := by decide +kernel
  cases e : meetW a b with
  | no => rw [e] at k; simp only [gz1, meD]; exact k
  | spot p =>
    rw [e] at k
    simp only [gz1, meD, o1, in_wl]
    simp only at k
    generalize (decide (a.1 = p) || decide (a.2 = p)) = x at k ⊢
    cases x
    · simp only [gz1, meD, o1, in_wl]; exact k
    · simp only [gz1, meD, o1, in_wl]; exact k
  | stretch w =>
    rw [e] at k; simp only [gz1, meD, o2, hw]; exact k
theorem r_unfair_with : ∀ ds S Q E, FL.sp_unfair_with ds S Q E → b_unfair_with (mends Q E) (mstart 2 ds) S := by
  rintro _ S Q E ⟨d, ws, w, rfl, hd, hz, hb, hv, k⟩
  unfold b_unfair_with
  simp only [ML.q_mstart, ML.q_mends, List.map_cons, List.map_nil, List.replicate, List.cons_append, List.nil_append]
  simp only [gz1, ML.q_iEn, hd.of]
  refine wfor_inv (fun i σ S' => @KP ⟨(∃ a b, σ = [some d, some (wlD w), a, b]) ∧ S' = S ∧ ∀ v ∈ ws.take i, isFair w v = true⟩) ⟨⟨_, _, rfl⟩, rfl, fun v hv => by simp at hv⟩ ?_ ?_
  · rintro i x σ S' hx ⟨⟨a, b, rfl⟩, rfl, hf⟩
    obtain ⟨y, hy, rfl⟩ := enumD_get hx
    rw [List.getElem?_map] at hy
    cases ea : ws[i]? with
    | none => rw [ea] at hy; cases hy
    | some v =>
      rw [ea] at hy; cases hy
      have hm : v ∈ ws := List.mem_of_getElem? ea
      refine ⟨hd.of, ?_⟩
      simp only [gz1]
      refine t_is_fair hb (hv v hm).1 (hv v hm).2 ?_
      simp only [gz1]
      refine ⟨fun h => ?_, fun h => ?_⟩
      · simp only [gz1]
        have e : unfairAt ws w = some i := by
          unfold unfairAt
          rw [List.findIdx?_eq_some_iff_getElem]
          obtain ⟨hi, ei⟩ := List.getElem?_eq_some_iff.mp ea
          refine ⟨hi, by rw [ei, h]; rfl, fun j hj => ?_⟩
          have := hf ws[j] (List.mem_take_iff_getElem.mpr ⟨j, by omega, rfl⟩)
          rw [this]; simp
        rw [e] at k
        exact k
      · simp only [gz1]
        refine KP.mk ⟨⟨_, _, rfl⟩, rfl, fun u hu => ?_⟩
        rw [List.take_add_one, ea] at hu
        rcases List.mem_append.mp hu with z | z
        · exact hf u z
        · have : u = v := by simpa using z
          rw [this]; simpa using h
  · rintro σ S' ⟨⟨a, b, rfl⟩, rfl, hf⟩
    rw [enumD_len, List.length_map, List.take_length] at hf
    refine ⟨hd.of, ?_⟩
    simp only [gz1]
    rw [unfair_none hf] at k
    exact k
theorem r_plot_of : ∀ ds S Q E, FL.sp_plot_of ds S Q E → b_plot_of (mends Q E) (mstart 3 ds) S := by
  rintro _ S Q E ⟨d, ws, rfl, hd, hz, hb, hs, hf, k⟩
  unfold b_plot_of
  simp only [ML.q_mstart, ML.q_mends, List.map_cons, List.map_nil, List.replicate, List.cons_append, List.nil_append]
  simp only [gz1, hd.seqk.len, List.length_map]
  refine ⟨fun h => by omega, fun _ => ?_⟩
  simp only [gz1, ML.q_iEn, hd.of]
  refine wfor_inv (fun i σ S' => @KP ⟨(∃ a b c, σ = [some d, a, b, c]) ∧ S' = S⟩) ⟨⟨_, _, _, rfl⟩, rfl⟩ ?_ ?_
  · rintro i x σ S' hx ⟨⟨a, b, c, rfl⟩, rfl⟩
    obtain ⟨y, hy, rfl⟩ := enumD_get hx
    rw [List.getElem?_map] at hy
    cases ea : ws[i]? with
    | none => rw [ea] at hy; cases hy
    | some v =>
      rw [ea] at hy; cases hy
      have hm : v ∈ ws := List.mem_of_getElem? ea
      obtain ⟨hi, ei⟩ := List.getElem?_eq_some_iff.mp ea
      refine ⟨hd.of, ?_⟩
      have pick : ∀ u ∈ ws.take i, ∃ j, ∃ (hj : j < i) (hl : j < ws.length), ws[j] = u := by
        intro u hu
        obtain ⟨j, hj, e⟩ := List.mem_take_iff_getElem.mp hu
        exact ⟨j, by omega, by omega, e⟩
      simp only [gz1]
      cases hd with
      | lst =>
        simp only [gz1, cut_take (show i ≤ ws.length by omega)]
        refine ⟨.lst ((ws.take i).map wlD), ws.take i, v, rfl, .lst, by rw [List.length_take]; omega, hb v hm, fun u hu => ?_, ?_⟩
        · obtain ⟨j, hj, hl, rfl⟩ := pick u hu
          refine ⟨hb _ (List.getElem_mem hl), ?_⟩
          have := List.pairwise_iff_getElem.mp hs j i hl hi hj
          rw [ei] at this; exact this
        · rw [unfair_none fun u hu => ?_]
          · simp only [gz1, onD]
            exact KP.mk ⟨⟨_, _, _, rfl⟩, rfl⟩
          · obtain ⟨j, hj, hl, rfl⟩ := pick u hu
            have := List.pairwise_iff_getElem.mp hf j i hl hi hj
            rw [ei] at this; exact this
      | ref h =>
        simp only [gz1, h, cut_take (show i ≤ ws.length by omega)]
        refine ⟨.lst ((ws.take i).map wlD), ws.take i, v, rfl, .lst, by rw [List.length_take]; omega, hb v hm, fun u hu => ?_, ?_⟩
        · obtain ⟨j, hj, hl, rfl⟩ := pick u hu
          refine ⟨hb _ (List.getElem_mem hl), ?_⟩
          have := List.pairwise_iff_getElem.mp hs j i hl hi hj
          rw [ei] at this; exact this
        · rw [unfair_none fun u hu => ?_]
          · simp only [gz1, onD]
            exact KP.mk ⟨⟨_, _, _, rfl⟩, rfl⟩
          · obtain ⟨j, hj, hl, rfl⟩ := pick u hu
            have := List.pairwise_iff_getElem.mp hf j i hl hi hj
            rw [ei] at this; exact this
  · rintro σ S' ⟨⟨a, b, c, rfl⟩, rfl⟩
    refine ⟨hd.of, ?_⟩
    simp only [gz1, hd.seqk.seq]
    exact k
end FL
namespace FL
open PySem PySem.Spec L2 ML
def pltW (s : Sc) (ws : List UW) : List Wl := ws.map fun w => afw s (ofW w)
theorem plt_len (s : Sc) (ws : List UW) : (pltW s ws).length = ws.length := List.length_map ..
section
variable {m : Nat} {z : Int} {ws : List UW} {s : Sc}
theorem Drawn.wok (h : Drawn m z ws) (hz : z ≤ 500) {w : UW} (hw : w ∈ ws) : WOk 500 w := by
  have := h.lo w hw
  exact ⟨⟨by omega, by omega, by omega, by omega⟩, ⟨by omega, by omega, by omega, by omega⟩⟩
theorem Drawn.bw (h : Drawn m z ws) (hs : ScOk s) (hz : z ≤ 500) : ∀ v ∈ pltW s ws, BW v 400 := by
  intro v hv
  obtain ⟨w, hw, rfl⟩ := List.mem_map.mp hv
  exact BW.mono (h := bw_afw hs ((h.wok hz hw).mono (by decide))) (by decide)
theorem Drawn.sol (h : Drawn m z ws) (hs : ScOk s) (hz : z ≤ 500) {a b : Wl} (ha : a ∈ pltW s ws) (hb : b ∈ pltW s ws) : solB a b := by
  obtain ⟨w, hw, rfl⟩ := List.mem_map.mp ha
  obtain ⟨v, hv, rfl⟩ := List.mem_map.mp hb
  exact sol_bd hs (h.wok hz hw) (h.wok hz hv)
theorem Drawn.upA (h : Drawn m z ws) (hs : ScOk s) : ∀ v ∈ pltW s ws, Up v := by
  intro v hv
  obtain ⟨w, hw, rfl⟩ := List.mem_map.mp hv
  exact ⟨(ahead_af hs _ _).mpr (h.up' hw).1⟩
end
end FL
namespace FL
open PySem PySem.Spec L2 ML
section
variable {a b : Wl}
theorem cx_lies {w : Wl} {p : Pt} (h : liesOn w p) : cx w p = 0 := by
  have := h.2.2
  rw [side_cx] at this
  exact sgn_0.mp this
theorem lies1 (hb : Up b) : liesOn b b.1 := ⟨ahead_irrefl _, ahead_asymm hb.up, by rw [side_cx]; exact sgn_0.mpr (by simp only [cx, crs, alng]; grind)⟩
theorem lies2 (hb : Up b) : liesOn b b.2 := ⟨ahead_asymm hb.up, ahead_irrefl _, by rw [side_cx]; exact sgn_0.mpr (by simp only [cx, crs, alng]; grind)⟩
end
end FL
namespace FL
open PySem PySem.Spec L2 ML
def sh (d : Rat) (p : Pt) : Rat := p.1 + d * p.2
instance : DecidablePred fun w : Wl => aboveW w a := fun w => by infer_instance
theorem cut_from1 {α : Type} {f : α → D} {a : α} {as : List α} : cutD ((a :: as).map f) (some 1) none = as.map f := by
  unfold cutD
  have e1 : HT.sIx ((a :: as).map f).length 0 (some 1) = 1 := by
    simp only [HT.sIx, List.length_map, List.length_cons]
    rw [if_neg (by omega)]; omega
  have e2 : HT.sIx ((a :: as).map f).length ((a :: as).map f).length none = as.length + 1 := by simp [HT.sIx]
  rw [e1, e2]
  simp only [List.map_cons, List.drop_succ_cons, List.drop_zero, Nat.add_sub_cancel]
  rw [List.take_of_length_le (by rw [List.length_map]; omega)]
end FL
set_option maxRecDepth 100000
namespace FL
open PySem PySem.Spec L2 ML
end FL
set_option maxRecDepth 100000
set_option maxHeartbeats 4000000
namespace FL
open PySem PySem.Spec L2 ML
end FL
set_option maxRecDepth 100000
namespace FL
open PySem PySem.Spec L2 ML
def nD (k : Nat) : D := .int (k : Int)
theorem LstK.ext {S S' : Sto} {d : D} {ds : List D} (k : Ext0 S S') (h : LstK S d ds) : LstK S' d ds := by
  cases h with
  | lst => exact .lst
  | ref h => exact .ref (k _ _ h)
theorem LstK.itx {S : Sto} {d : D} {ds : List D} (h : LstK S d ds) : ∃ G : Sto → Prop, sqI S d = some (ds, G) ∧ ∀ S', LstK S' d ds → G S' := by
  cases h with
  | lst => exact ⟨_, rfl, fun _ _ => trivial⟩
  | ref h => exact ⟨_, sqI_at h, fun S' h' => by cases h' with | ref h' => show olP _ = _; rw [h']; rfl⟩
theorem ext0_put {S : Sto} {p : Addr} {o : MO} (h : S p = none) : Ext0 S (put S p o) := fun q u e => by rw [put_ne (fun z => by rw [z, h] at e; cases e)]; exact e
end FL
namespace FL
open PySem PySem.Spec L2 ML
end FL
set_option maxRecDepth 100000
namespace FL
open PySem PySem.Spec L2 ML
end FL
set_option maxRecDepth 100000
set_option maxHeartbeats 4000000
namespace FL
open PySem PySem.Spec L2 ML
end FL
namespace FL
open PySem PySem.Spec L2 ML
structure PDrawn (most : Nat) (ws : List UW) : Prop where
  len : ws.length ≤ most
  up : ∀ w ∈ ws, ult w.1 w.2
  ok : ∀ w ∈ ws, WOk 100 w
  fair : ws.Pairwise fun a b => ufair b a = true
end FL
set_option maxRecDepth 100000
namespace FL
open PySem PySem.Spec L2 ML
end FL
set_option maxRecDepth 100000
set_option maxHeartbeats 4000000
namespace FL
open PySem PySem.Spec L2 ML
end FL
namespace FL
open PySem PySem.Spec L2 ML
def But (p : Addr) (S S' : Sto) : Prop := ∀ a o, a ≠ p → S a = some o → S' a = some o
theorem But.trans {p : Addr} {S S' S'' : Sto} (h : But p S S') (k : But p S' S'') : But p S S'' := fun a o ha e => k a o ha (h a o ha e)
theorem But.rfl {p : Addr} {S : Sto} : But p S S := fun _ _ _ e => e
theorem But.ext {p : Addr} {S S' : Sto} (h : Ext0 S S') : But p S S' := fun a o _ e => h a o e
theorem PDrawn.mono {m n : Nat} {ws : List UW} (h : PDrawn m ws) (k : m ≤ n) : PDrawn n ws := ⟨Nat.le_trans h.len k, h.up, h.ok, h.fair⟩
end FL
set_option maxRecDepth 100000
namespace FL
open PySem PySem.Spec L2 ML
end FL
set_option maxRecDepth 100000
set_option maxHeartbeats 4000000
namespace FL
open PySem PySem.Spec L2 ML
end FL
set_option maxRecDepth 100000
namespace FL
open PySem PySem.Spec L2 ML
end FL
set_option maxRecDepth 100000
namespace FL
open PySem PySem.Spec L2 ML
end FL
set_option maxRecDepth 100000
set_option maxHeartbeats 4000000
namespace FL
open PySem PySem.Spec L2 ML
end FL
namespace FL
open PySem PySem.Spec L2 ML
def sn (a b : Wl) : Prop := if a.1 ≠ b.1 then ahead a.1 b.1 else ahead a.2 b.2
instance : DecidableRel sn := fun a b => by unfold sn; infer_instance
theorem sn_irrefl (a : Wl) : ¬ sn a a := by unfold sn; rw [if_neg (by simp)]; exact ahead_irrefl _
theorem sn_tri (a b : Wl) : sn a b ∨ a = b ∨ sn b a := by
  unfold sn
  by_cases h : a.1 = b.1
  · rw [if_neg (by simpa using h), if_neg (by simpa using h.symm)]
    rcases ahead_tri a.2 b.2 with z | z | z
    · exact .inl z
    · exact .inr (.inl (Prod.ext h z))
    · exact .inr (.inr z)
  · rw [if_pos h, if_pos (fun e => h e.symm)]
    rcases ahead_tri a.1 b.1 with z | z | z
    · exact .inl z
    · exact absurd z h
    · exact .inr (.inr z)
theorem sn_trans {a b c : Wl} (h1 : sn a b) (h2 : sn b c) : sn a c := by
  unfold sn at *
  by_cases x : a.1 = b.1
  · rw [if_neg (by simpa using x)] at h1
    by_cases y : b.1 = c.1
    · rw [if_neg (by simpa using y)] at h2
      rw [if_neg (by simpa using x.trans y)]; exact ahead_trans h1 h2
    · rw [if_pos y] at h2
      rw [if_pos (by rw [x]; exact y), x]; exact h2
  · rw [if_pos x] at h1
    by_cases y : b.1 = c.1
    · rw [if_pos (by rw [← y]; exact x), ← y]; exact h1
    · rw [if_pos y] at h2
      have := ahead_trans h1 h2
      rw [if_pos (ahead_ne this)]; exact this
theorem sn_asymm {a b : Wl} (h : sn a b) : ¬ sn b a := fun k => sn_irrefl a (sn_trans h k)
def insV (s : Wl) : List Wl → List Wl
  | [] => [s]
  | t :: r => if sn t s then t :: insV s r else if t = s then t :: r else s :: t :: r
def insAllV (ps : List Wl) (acc : List Wl) : List Wl := ps.foldl (fun r s => insV s r) acc
abbrev SrtV (ps : List Wl) : Prop := ps.Pairwise sn
theorem mem_insV {s t : Wl} : ∀ {ps : List Wl}, t ∈ insV s ps ↔ t = s ∨ t ∈ ps
  | [] => by simp [insV]
  | p :: ps => by
    unfold insV
    split
    · simp only [List.mem_cons, mem_insV (ps := ps)]
      constructor
      · rintro (h | h | h) <;> simp [h]
      · rintro (h | h | h) <;> simp [h]
    · split
      · next e => subst e; simp
      · simp
theorem srt_insV {s : Wl} : ∀ {ps : List Wl}, SrtV ps → SrtV (insV s ps)
  | [], _ => List.pairwise_singleton ..
  | p :: ps, h => by
    replace h := List.pairwise_cons.mp h
    unfold insV
    split
    · next z =>
      refine List.pairwise_cons.mpr ⟨fun t ht => ?_, srt_insV h.2⟩
      rcases mem_insV.mp ht with e | e
      · rw [e]; exact z
      · exact h.1 t e
    · split
      · exact List.pairwise_cons.mpr h
      · next z n =>
        have y : sn s p := by
          rcases sn_tri s p with y | y | y
          · exact y
          · exact absurd y.symm n
          · exact absurd y z
        refine List.pairwise_cons.mpr ⟨fun t ht => ?_, List.pairwise_cons.mpr h⟩
        rcases List.mem_cons.mp ht with e | e
        · rw [e]; exact y
        · exact sn_trans y (h.1 t e)
theorem srt_allV {ps : List Wl} : ∀ {acc : List Wl}, SrtV acc → SrtV (insAllV ps acc) := by
  induction ps with
  | nil => intro acc h; exact h
  | cons p ps ih => intro acc h; exact ih (srt_insV h)
theorem mem_allV {ps : List Wl} {t : Wl} : ∀ {acc : List Wl}, t ∈ insAllV ps acc ↔ t ∈ ps ∨ t ∈ acc := by
  induction ps with
  | nil => intro acc; simp [insAllV]
  | cons p ps ih =>
    intro acc
    show t ∈ insAllV ps (insV p acc) ↔ _
    rw [ih, mem_insV, List.mem_cons]
    constructor
    · rintro (h | h | h) <;> simp [h]
    · rintro ((h | h) | h) <;> simp [h]
theorem len_insV {s : Wl} : ∀ {ps : List Wl}, (insV s ps).length ≤ ps.length + 1
  | [] => Nat.le_refl _
  | p :: ps => by
    unfold insV
    split
    · have := len_insV (s := s) (ps := ps); simp only [List.length_cons]; omega
    · split <;> simp only [List.length_cons] <;> omega
theorem srt_extV : ∀ {ps qs : List Wl}, SrtV ps → SrtV qs → (∀ t, t ∈ ps ↔ t ∈ qs) → ps = qs
  | [], [], _, _, _ => rfl
  | [], q :: qs, _, _, h => by have := (h q).mpr List.mem_cons_self; cases this
  | p :: ps, [], _, _, h => by have := (h p).mp List.mem_cons_self; cases this
  | p :: ps, q :: qs, h1, h2, h => by
    replace h1 := List.pairwise_cons.mp h1
    replace h2 := List.pairwise_cons.mp h2
    have e : p = q := by
      rcases List.mem_cons.mp ((h p).mp List.mem_cons_self) with z | z
      · exact z
      · rcases List.mem_cons.mp ((h q).mpr List.mem_cons_self) with y | y
        · exact y.symm
        · exact absurd (h1.1 q y) (sn_asymm (h2.1 p z))
    subst e
    congr 1
    refine srt_extV h1.2 h2.2 fun t => ?_
    constructor
    · intro ht
      rcases List.mem_cons.mp ((h t).mp (List.mem_cons_of_mem _ ht)) with z | z
      · subst z; exact absurd (h1.1 t ht) (sn_irrefl t)
      · exact z
    · intro ht
      rcases List.mem_cons.mp ((h t).mpr (List.mem_cons_of_mem _ ht)) with z | z
      · subst z; exact absurd (h2.1 t ht) (sn_irrefl t)
      · exact z
def PassV (ps : List Wl) (s : Wl) (k : Nat) : Prop := k ≤ ps.length ∧ (∀ i (h : i < ps.length), i < k → sn ps[i] s) ∧ (∀ i (h : i < ps.length), k ≤ i → ¬ sn ps[i] s)
theorem ins_passV : ∀ {ps : List Wl} {s : Wl} {k : Nat}, PassV ps s k → (∀ h : k < ps.length, ps[k] = s → insV s ps = ps) ∧ ((∀ h : k < ps.length, ps[k] ≠ s) → insV s ps = ps.take k ++ [s] ++ ps.drop k)
  | [], s, k, h => by
    have : k = 0 := by have := h.1; simpa using this
    subst this
    exact ⟨fun z => absurd z (Nat.lt_irrefl _), fun _ => rfl⟩
  | p :: ps, s, 0, h => by
    have n := h.2.2 0 (Nat.succ_pos _) (Nat.le_refl _)
    simp only [List.getElem_cons_zero] at n
    constructor
    · intro _ e
      simp only [List.getElem_cons_zero] at e
      unfold insV; rw [if_neg n, if_pos e]
    · intro z
      have := z (Nat.succ_pos _)
      simp only [List.getElem_cons_zero] at this
      unfold insV; rw [if_neg n, if_neg this]; rfl
  | p :: ps, s, k + 1, h => by
    have n := h.2.1 0 (Nat.succ_pos _) (Nat.succ_pos _)
    simp only [List.getElem_cons_zero] at n
    have h' : PassV ps s k := ⟨by have := h.1; simp only [List.length_cons] at this; omega, fun i hi hk => by
      have := h.2.1 (i + 1) (by simp only [List.length_cons]; omega) (by omega)
      simpa only [List.getElem_cons_succ] using this, fun i hi hk => by
      have := h.2.2 (i + 1) (by simp only [List.length_cons]; omega) (by omega)
      simpa only [List.getElem_cons_succ] using this⟩
    obtain ⟨i1, i2⟩ := ins_passV h'
    constructor
    · intro z e
      simp only [List.getElem_cons_succ] at e
      unfold insV; rw [if_pos n, i1 (by simp only [List.length_cons] at z; omega) e]
    · intro z
      unfold insV; rw [if_pos n, i2 (fun y => by have := z (by simp only [List.length_cons]; omega); simpa only [List.getElem_cons_succ] using this)]
      rfl
def cutBy (w o : Wl) : List Pt := ([o.1, o.2].filter fun t => decide (liesOn w t)) ++ match meetW w o with
  | .spot p => [p]
  | _ => []
def cutsW (ws : List Wl) (w : Wl) : List Pt := insAll (ws.flatMap (cutBy w)) []
theorem cuts_srt (ws : List Wl) (w : Wl) : Srt (cutsW ws w) := srt_all List.Pairwise.nil
theorem mem_cuts {ws : List Wl} {w : Wl} {t : Pt} : t ∈ cutsW ws w ↔ ∃ o ∈ ws, (t = o.1 ∨ t = o.2) ∧ liesOn w t ∨ meetW w o = .spot t := by
  unfold cutsW
  rw [mem_all, List.mem_flatMap]
  constructor
  · rintro (⟨o, ho, h⟩ | h)
    · refine ⟨o, ho, ?_⟩
      unfold cutBy at h
      rcases List.mem_append.mp h with h | h
      · obtain ⟨h1, h2⟩ := List.mem_filter.mp h
        exact .inl ⟨by simpa using h1, of_decide_eq_true h2⟩
      · cases e : meetW w o with
        | no => rw [e] at h; cases h
        | stretch v => rw [e] at h; cases h
        | spot p => rw [e] at h; rw [List.mem_singleton.mp h]; exact .inr rfl
    · cases h
  · rintro ⟨o, ho, h⟩
    refine .inl ⟨o, ho, ?_⟩
    unfold cutBy
    rcases h with ⟨h1, h2⟩ | h
    · exact List.mem_append_left _ (List.mem_filter.mpr ⟨by simpa using h1, decide_eq_true h2⟩)
    · rw [h]; exact List.mem_append_right _ List.mem_cons_self
theorem cut_len (ws : List Wl) (w : Wl) : (ws.flatMap (cutBy w)).length ≤ 3 * ws.length := by
  induction ws with
  | nil => exact Nat.le_refl _
  | cons o ws ih =>
    rw [List.flatMap_cons, List.length_append, List.length_cons]
    have : (cutBy w o).length ≤ 3 := by
      unfold cutBy
      rw [List.length_append]
      have h1 := List.length_filter_le (fun t => decide (liesOn w t)) [o.1, o.2]
      have h2 : ([o.1, o.2] : List Pt).length = 2 := rfl
      split <;> simp only [List.length_cons, List.length_nil] <;> omega
    omega
def piecesOf (cs : List Pt) : List Wl := cs.zip cs.tail
def partedW (ws : List Wl) : List Wl := insAllV (ws.flatMap fun w => piecesOf (cutsW ws w)) []
def sp_cuts_of : MSp := fun ds S Q _ => ∃ (d : D) (ws : List Wl) (w : Wl), ds = [d, wlD w] ∧ LstK S d (ws.map wlD) ∧ ws.length ≤ 100 ∧ BW w 400 ∧ (∀ v ∈ ws, BW v 400 ∧ solB w v) ∧ ∀ q S', Ext0 S S' → S q = none → S' q = some (.lst ((cutsW ws w).map spD)) → Q (.ref q) S'
def sp_is_sooner : MSp := fun ds S Q _ => ∃ a b : Wl, ds = [wlD a, wlD b] ∧ BW a 900 ∧ BW b 900 ∧ Q (.bl (decide (sn a b))) S
def sp_put_wall : MSp := fun ds S Q _ => ∃ (p : Addr) (ws : List Wl) (w : Wl), ds = [.ref p, wlD w] ∧ S p = some (.lst (ws.map wlD)) ∧ ws.length ≤ 1000000 ∧ SrtV ws ∧ BW w 900 ∧ (∀ v ∈ ws, BW v 900) ∧ Q .non (put S p (.lst ((insV w ws).map wlD)))
end FL
set_option maxRecDepth 100000
namespace FL
open PySem PySem.Spec L2 ML
def b_cuts_of : MS := (mSeq (mSet 2 (mLst mNil))
  (mSeq (mFor (iS (mVar 0)) (gNm 3) (mSeq (mFor (iS (mVar 3)) (gNm 4) (mIfS (mTru (mCall FL.sp_lies_on (mCons (mVar 1) (mCons (mVar 4) mNil)))) (mExpr (mCall FL.sp_put_in_row (mCons (mVar 2) (mCons (mVar 4) mNil)))) mNext))
  (mSeq (mSet 5 (mCall FL.sp_meeting (mCons (mVar 1) (mCons (mVar 3) mNil))))
  (mIfS (mAnd (mTst (mOp rNotN (mVar 5) (mC .non))) (mTst (mOp rEqM (mOp rIxM (mVar 5) (mC (.int 0))) (mC (.str "spot"))))) (mExpr (mCall FL.sp_put_in_row (mCons (mVar 2) (mCons (mOp rIxM (mVar 5) (mC (.int 1))) mNil)))) mNext))))
  (mRet (mVar 2))))
def b_is_sooner : MS := (mSeq (mIfS (mTst (mOp rNeM (mOp rIxM (mVar 0) (mC (.int 0))) (mOp rIxM (mVar 1) (mC (.int 0))))) (mRet (mCall FL.sp_is_ahead (mCons (mOp rIxM (mVar 0) (mC (.int 0))) (mCons (mOp rIxM (mVar 1) (mC (.int 0))) mNil)))) mNext)
  (mRet (mCall FL.sp_is_ahead (mCons (mOp rIxM (mVar 0) (mC (.int 1))) (mCons (mOp rIxM (mVar 1) (mC (.int 1))) mNil)))))
def b_put_wall : MS := (mSeq (mSet 2 (mC (.int 0)))
  (mSeq (mWhile (mAnd (mTst (mOp aLt (mVar 2) (mBlt bLen (mCons (mVar 0) mNil)))) (mTru (mCall FL.sp_is_sooner (mCons (mOp rIxM (mVar 0) (mVar 2)) (mCons (mVar 1) mNil))))) (mSet 2 (mOp rAdd (mVar 2) (mC (.int 1)))))
  (mIfS (mTst (mOp rNeM (mCut (mVar 0) (oSo (mVar 2)) (oSo (mOp rAdd (mVar 2) (mC (.int 1))))) (mLstF (mCons (mVar 1) mNil)))) (mExpr (mMt mtInsert (mVar 0) (mCons (mVar 2) (mCons (mVar 1) mNil)))) mNext)))
end FL
set_option maxRecDepth 100000
set_option maxHeartbeats 4000000
namespace FL
open PySem PySem.Spec L2 ML
theorem l_cuts_of : ∀ ds S Q E, FL.sp_cuts_of ds S Q E → ds.length = 2 := by rintro _ _ _ _ ⟨_, _, _, rfl, _⟩; rfl
theorem l_is_sooner : ∀ ds S Q E, FL.sp_is_sooner ds S Q E → ds.length = 2 := by rintro _ _ _ _ ⟨_, _, rfl, _⟩; rfl
theorem l_put_wall : ∀ ds S Q E, FL.sp_put_wall ds S Q E → ds.length = 2 := by rintro _ _ _ _ ⟨_, _, _, rfl, _⟩; rfl
theorem r_is_sooner : ∀ ds S Q E, FL.sp_is_sooner ds S Q E → b_is_sooner (mends Q E) (mstart 0 ds) S := by
  rintro _ S Q E ⟨a, b, rfl, ha, hb, k⟩
  unfold b_is_sooner
  simp only [ML.q_mstart, ML.q_mends, List.map_cons, List.map_nil, List.replicate, List.cons_append, List.nil_append]
  simp only [gz6]
  refine ⟨fun h => ?_, fun h => ?_⟩
  · have e : decide (sn a b) = decide (ahead a.1 b.1) := by rw [decide_eq_decide]; unfold sn; rw [if_pos h]
    rw [e] at k
    have z1 := ha.f; have z2 := hb.f
    simp only [gz6]
    rw [c_is_ahead (by decide)]
    exact k
  · have e : decide (sn a b) = decide (ahead a.2 b.2) := by rw [decide_eq_decide]; unfold sn; rw [if_neg h]
    rw [e] at k
    have z1 := ha.s; have z2 := hb.s
    simp only [gz6]
    rw [c_is_ahead (by decide)]
    exact k
theorem cut1 {α : Type} {f : α → D} {ws : List α} {i : Nat} (h1 : i ≤ ws.length) : cutD (ws.map f) (some (i : Int)) (some ((i : Int) + 1)) = ((ws.drop i).take 1).map f := by
  have e1 : HT.sIx (ws.map f).length 0 (some (i : Int)) = i := by
    simp only [HT.sIx, List.length_map]
    rw [if_neg (by omega)]; omega
  have e2 : HT.sIx (ws.map f).length (ws.map f).length (some ((i : Int) + 1)) = min (i + 1) ws.length := by
    simp only [HT.sIx, List.length_map]
    rw [if_neg (by omega)]; congr 1
  unfold cutD
  rw [e1, e2, ← List.map_drop, ← List.map_take]
  congr 1
  by_cases h : i < ws.length
  · rw [show min (i + 1) ws.length - i = 1 by omega]
  · rw [List.drop_eq_nil_of_le (by omega)]; simp
theorem r_put_wall : ∀ ds S Q E, FL.sp_put_wall ds S Q E → b_put_wall (mends Q E) (mstart 1 ds) S := by
  rintro _ S Q E ⟨p, ws, w, rfl, hp, hz, hs, hw, hv, k⟩
  unfold b_put_wall
  simp only [ML.q_mstart, ML.q_mends, List.map_cons, List.map_nil, List.replicate, List.cons_append, List.nil_append]
  simp only [gz6]
  refine while_rule (fun n σ S' => @KP ⟨∃ (i : Nat), σ = [some (.ref p), some (wlD w), some (.int i)] ∧ S' = S ∧ n = ws.length - i ∧ i ≤ ws.length ∧ (∀ j (h : j < ws.length), j < i → sn ws[j] w)⟩) ⟨_, 0, rfl, rfl, rfl, Nat.zero_le _, fun j h z => by omega⟩ ?_
  rintro n σ S' ⟨i, rfl, rfl, rfl, h1, h2⟩
  simp only [gz6, hp, isLst_ref hp, olP_lst, List.length_map]
  refine ⟨fun hl => ?_, fun hl => ?_⟩
  · have hi : i < ws.length := by omega
    simp only [gz6, hp, olP_lst, List.getElem?_map, List.getElem?_eq_getElem hi, Option.map_some]
    refine ⟨ws[i], w, rfl, hv _ (List.getElem_mem hi), hw, ?_⟩
    simp only [gz6]
    refine ⟨fun hy => ?_, fun hy => ?_⟩
    · simp only [gz6]
      have e1 : (i : Int) + 1 = ((i + 1 : Nat) : Int) := rfl
      rw [e1]
      refine ⟨ws.length - (i + 1), by omega, i + 1, rfl, rfl, rfl, by omega, fun j h z => ?_⟩
      rcases (by omega : j < i ∨ j = i) with y | y
      · exact h2 j h y
      · subst y; simpa using hy
    · have hy' : ¬ sn ws[i] w := by simpa using hy
      have hn : PassV ws w i := ⟨h1, h2, fun j h z y => by
        rcases (by omega : j = i ∨ i < j) with e | e
        · subst e; exact hy' y
        · exact hy' (sn_trans (List.pairwise_iff_getElem.mp hs i j hi h e) y)⟩
      simp only [gz6]
      obtain ⟨i1, i2⟩ := ins_passV hn
      have ec : cutD (ws.map wlD) (some (i : Int)) (some ((i : Int) + 1)) = ((ws.drop i).take 1).map wlD := cut1 h1
      have o1 : eqOk (.lst (((ws.drop i).take 1).map wlD)) (.lst [wlD w]) = true := eqOk_lwl (bs := [w])
      have o2 : D.deq (.lst (((ws.drop i).take 1).map wlD)) (.lst [wlD w]) = decide ((ws.drop i).take 1 = [w]) := deq_lwl (bs := [w])
      simp only [gz6, hp, olP_lst, ec, o1, o2]
      refine ⟨fun hx => ?_, fun hx => ?_⟩
      · simp only [gz6, isLst_ref hp, hp, olP_lst, List.length_map]
        refine ⟨⟨by rw [sizeLine_eq]; omega, by omega, by omega⟩, ?_⟩
        have e : insV w ws = ws.take i ++ [w] ++ ws.drop i := by
          refine i2 fun h e => hx ?_
          rw [List.drop_eq_getElem_cons h, e]; rfl
        rw [e] at k
        simp only [List.map_append, List.map_take, List.map_drop, List.map_cons, List.map_nil] at k
        exact k
      · simp only [gz6]
        have e : insV w ws = ws := by
          have hx' : (ws.drop i).take 1 = [w] := Decidable.not_not.mp hx
          by_cases h : i < ws.length
          · rw [List.drop_eq_getElem_cons h] at hx'
            exact i1 h (List.cons.inj hx').1
          · rw [List.drop_eq_nil_of_le (by omega)] at hx'; cases hx'
        rw [e, put_back hp] at k
        exact k
  · have hn : PassV ws w i := ⟨h1, h2, fun j h z => by omega⟩
    simp only [gz6]
    obtain ⟨i1, i2⟩ := ins_passV hn
    have ec : cutD (ws.map wlD) (some (i : Int)) (some ((i : Int) + 1)) = ((ws.drop i).take 1).map wlD := cut1 h1
    have o1 : eqOk (.lst (((ws.drop i).take 1).map wlD)) (.lst [wlD w]) = true := eqOk_lwl (bs := [w])
    have o2 : D.deq (.lst (((ws.drop i).take 1).map wlD)) (.lst [wlD w]) = decide ((ws.drop i).take 1 = [w]) := deq_lwl (bs := [w])
    simp only [gz6, hp, olP_lst, ec, o1, o2]
    refine ⟨fun hx => ?_, fun hx => ?_⟩
    · simp only [gz6, isLst_ref hp, hp, olP_lst, List.length_map]
      refine ⟨⟨by rw [sizeLine_eq]; omega, by omega, by omega⟩, ?_⟩
      have e : insV w ws = ws.take i ++ [w] ++ ws.drop i := by
        refine i2 fun h e => hx ?_
        rw [List.drop_eq_getElem_cons h, e]; rfl
      rw [e] at k
      simp only [List.map_append, List.map_take, List.map_drop, List.map_cons, List.map_nil] at k
      exact k
    · simp only [gz6]
      have e : insV w ws = ws := by
        have hx' : (ws.drop i).take 1 = [w] := Decidable.not_not.mp hx
        by_cases h : i < ws.length
        · rw [List.drop_eq_getElem_cons h] at hx'
          exact i1 h (List.cons.inj hx').1
        · rw [List.drop_eq_nil_of_le (by omega)] at hx'; cases hx'
      rw [e, put_back hp] at k
      exact k
theorem r_cuts_of : ∀ ds S Q E, FL.sp_cuts_of ds S Q E → b_cuts_of (mends Q E) (mstart 4 ds) S := by
  rintro _ S Q E ⟨d, ws, w, rfl, hd, hz, hw, hv, k⟩
  unfold b_cuts_of
  simp only [ML.q_mstart, ML.q_mends, List.map_cons, List.map_nil, List.replicate, List.cons_append, List.nil_append]
  simp only [gz6]
  intro q hq
  have x0 : ∀ o, Ext0 S (put S q o) := fun o => ext0_put hq
  obtain ⟨G, eG, hG⟩ := (hd.ext (x0 (.lst []))).itx
  simp only [gz6, eG]
  have hc0 : ∀ i, ∀ t ∈ cutsW (ws.take i) w, BP t 450 := fun i t ht => by
    obtain ⟨o, ho, h⟩ := mem_cuts.mp ht
    obtain ⟨b1, b2⟩ := hv o (List.mem_of_mem_take ho)
    rcases h with ⟨e | e, _⟩ | h
    · rw [e]; exact BP.mono (h := b1.f) (by decide)
    · rw [e]; exact BP.mono (h := b1.s) (by decide)
    · unfold meetW at h
      by_cases hc : crs (alng w) (alng o) = 0
      · rw [if_pos hc] at h
        unfold inLine at h
        by_cases h1 : side w o.1 ≠ 0
        · rw [if_pos h1] at h; cases h
        · rw [if_neg h1] at h
          by_cases h2 : maxP w.1 o.1 = minP w.2 o.2
          · rw [if_pos h2] at h
            cases h
            unfold maxP
            split
            · exact BP.mono (h := b1.f) (by decide)
            · exact BP.mono (h := hw.f) (by decide)
          · rw [if_neg h2] at h
            split at h <;> cases h
      · rw [if_neg hc] at h
        split at h
        · cases h
          exact BP.mono (h := b2 hc) (by decide)
        · cases h
  refine wfor_inv (fun i σ S' => @KP ⟨(∃ a b c, σ = [some d, some (wlD w), some (.ref q), a, b, c]) ∧ Ext0 S S' ∧ S' q = some (.lst ((cutsW (ws.take i) w).map spD))⟩) ⟨⟨_, _, _, rfl⟩, x0 _, put_same⟩ ?_ ?_
  · rintro i x σ S1 hx ⟨⟨a, b, c, rfl⟩, x1, hq1⟩
    rw [List.getElem?_map] at hx
    cases ei : ws[i]? with
    | none => rw [ei] at hx; cases hx
    | some o =>
      rw [ei] at hx; cases hx
      have hom := List.mem_of_getElem? ei
      obtain ⟨b1, b2⟩ := hv o hom
      have tk : cutsW (ws.take (i + 1)) w = insAll (cutBy w o) (cutsW (ws.take i) w) := by
        unfold cutsW
        rw [List.take_add_one, ei]
        show insAll ((ws.take i ++ [o]).flatMap (cutBy w)) [] = _
        rw [List.flatMap_append, insAll_append]
        simp
      refine ⟨hG _ (hd.ext x1), ?_⟩
      simp only [gz6]
      refine for_roll ?_
      have C1 := hc0 i
      have Cs : Srt (cutsW (ws.take i) w) := cuts_srt _ _
      have Cl : (cutsW (ws.take i) w).length ≤ 300 := by
        have h := len_all (ps := (ws.take i).flatMap (cutBy w)) (acc := [])
        have h2 := cut_len (ws.take i) w
        rw [List.length_take] at h2
        unfold cutsW
        simp only [List.length_nil] at h
        omega
      have bo1 : BP o.1 450 := BP.mono (h := b1.f) (by decide)
      have bo2 : BP o.2 450 := BP.mono (h := b1.s) (by decide)
      have bsp : ∀ p, meetW w o = .spot p → BP p 450 := fun p h => hc0 ws.length p (by rw [List.take_length]; exact mem_cuts.mpr ⟨o, hom, .inr h⟩)
      generalize cutsW (ws.take i) w = C at *
      have put1 : ∀ (S' : Sto) (t : Pt) (cs : List Pt) (Q1 : Hold MQ) (E1 : Hold MXQ), S' q = some (.lst (cs.map spD)) → Srt cs → cs.length ≤ 900 → BP t 450 → (∀ p ∈ cs, BP p 450) → Q1.v .non (put S' q (.lst ((ins t cs).map spD))) → @CallP sp_put_in_row [.ref q, spD t] S' Q1 E1 := fun S' t cs Q1 E1 a1 a2 a3 a4 a5 a6 => t_put_in_row (m := 450) a1 a3 a2 (by decide) a4 a5 a6
      have ext : ∀ (S' : Sto) (o : MO), Ext0 S S' → Ext0 S (put S' q o) := fun S' o x a u e => by rw [put_ne (fun z => by rw [z, hq] at e; cases e)]; exact x a u e
      have bins : ∀ (t : Pt) (cs : List Pt), BP t 450 → (∀ p ∈ cs, BP p 450) → ∀ p ∈ ins t cs, BP p 450 := fun t cs a b p hp => by
        rcases mem_ins.mp hp with e | e
        · rw [e]; exact a
        · exact b p e
      simp only [gz6]
      rw [c_lies_on (by decide)]
      simp only [gz6]
      refine ⟨fun l1 => ?_, fun l1 => ?_⟩
      · simp only [gz6]
        refine put1 _ _ _ _ _ hq1 Cs (by omega) bo1 C1 ?_
        simp only [gz6]
        rw [c_lies_on (by decide)]
        simp only [gz6]
        refine ⟨fun l2 => ?_, fun l2 => ?_⟩
        · simp only [gz6]
          refine put1 _ _ _ _ _ put_same (srt_ins Cs) (by have := len_ins (s := o.1) (ps := C); omega) bo2 (bins _ _ bo1 C1) ?_
          simp only [gz6]
          have tk' : cutsW (ws.take (i + 1)) w = insAll (match meetW w o with | .spot p => [p] | _ => []) (ins o.2 (ins o.1 C)) := by
            have ef : ([o.1, o.2].filter fun t => decide (liesOn w t)) = [o.1, o.2] := by simp [l1, l2]
            rw [tk]; unfold cutBy; rw [ef, insAll_append]; rfl
          have hcs : Srt (ins o.2 (ins o.1 C)) := by exact srt_ins (srt_ins Cs)
          have hcl : (ins o.2 (ins o.1 C)).length ≤ 900 := by have := len_ins (s := o.1) (ps := C); have := len_ins (s := o.2) (ps := ins o.1 C); omega
          have hcb : ∀ p ∈ (ins o.2 (ins o.1 C)), BP p 450 := bins _ _ bo2 (bins _ _ bo1 C1)
          have hq2 : put S1 q (.lst ((ins o.2 (ins o.1 C)).map spD)) q = some (.lst ((ins o.2 (ins o.1 C)).map spD)) := put_same
          have x2 : Ext0 S (put S1 q (.lst ((ins o.2 (ins o.1 C)).map spD))) := ext _ _ x1
          generalize put S1 q (.lst ((ins o.2 (ins o.1 C)).map spD)) = S2 at *
          generalize ins o.2 (ins o.1 C) = cs at *
          refine t_meeting hw b1 b2 ?_
          cases em : meetW w o with
          | no =>
            rw [em] at tk'
            simp only [gz6, meD]
            exact KP.mk ⟨⟨_, _, _, rfl⟩, x2, by rw [tk']; exact hq2⟩
          | stretch v =>
            rw [em] at tk'
            simp only [gz6, meD]
            refine ⟨eqOk_of' (by decide +kernel) (by decide +kernel) (by decide) (by decide), fun z => absurd z (by decide), fun _ => ?_⟩
            simp only [gz6]
            exact KP.mk ⟨⟨_, _, _, rfl⟩, x2, by rw [tk']; exact hq2⟩
          | spot p =>
            have bp := bsp p em
            rw [em] at tk'
            simp only [gz6, meD]
            refine ⟨eqOk_of' (by decide +kernel) (by decide +kernel) (by decide) (by decide), put1 _ _ _ _ _ hq2 hcs hcl bp hcb ?_⟩
            simp only [gz6]
            exact KP.mk ⟨⟨_, _, _, rfl⟩, ext _ _ x2, by rw [put_same, tk']; rfl⟩
        · simp only [gz6]
          have tk' : cutsW (ws.take (i + 1)) w = insAll (match meetW w o with | .spot p => [p] | _ => []) (ins o.1 C) := by
            have ef : ([o.1, o.2].filter fun t => decide (liesOn w t)) = [o.1] := by simp [l1, l2]
            rw [tk]; unfold cutBy; rw [ef, insAll_append]; rfl
          have hcs : Srt (ins o.1 C) := by exact srt_ins Cs
          have hcl : (ins o.1 C).length ≤ 900 := by have := len_ins (s := o.1) (ps := C); omega
          have hcb : ∀ p ∈ (ins o.1 C), BP p 450 := bins _ _ bo1 C1
          have hq2 : put S1 q (.lst ((ins o.1 C).map spD)) q = some (.lst ((ins o.1 C).map spD)) := put_same
          have x2 : Ext0 S (put S1 q (.lst ((ins o.1 C).map spD))) := ext _ _ x1
          generalize put S1 q (.lst ((ins o.1 C).map spD)) = S2 at *
          generalize ins o.1 C = cs at *
          refine t_meeting hw b1 b2 ?_
          cases em : meetW w o with
          | no =>
            rw [em] at tk'
            simp only [gz6, meD]
            exact KP.mk ⟨⟨_, _, _, rfl⟩, x2, by rw [tk']; exact hq2⟩
          | stretch v =>
            rw [em] at tk'
            simp only [gz6, meD]
            refine ⟨eqOk_of' (by decide +kernel) (by decide +kernel) (by decide) (by decide), fun z => absurd z (by decide), fun _ => ?_⟩
            simp only [gz6]
            exact KP.mk ⟨⟨_, _, _, rfl⟩, x2, by rw [tk']; exact hq2⟩
          | spot p =>
            have bp := bsp p em
            rw [em] at tk'
            simp only [gz6, meD]
            refine ⟨eqOk_of' (by decide +kernel) (by decide +kernel) (by decide) (by decide), put1 _ _ _ _ _ hq2 hcs hcl bp hcb ?_⟩
            simp only [gz6]
            exact KP.mk ⟨⟨_, _, _, rfl⟩, ext _ _ x2, by rw [put_same, tk']; rfl⟩
      · simp only [gz6]
        rw [c_lies_on (by decide)]
        simp only [gz6]
        refine ⟨fun l2 => ?_, fun l2 => ?_⟩
        · simp only [gz6]
          refine put1 _ _ _ _ _ hq1 Cs (by omega) bo2 C1 ?_
          simp only [gz6]
          have tk' : cutsW (ws.take (i + 1)) w = insAll (match meetW w o with | .spot p => [p] | _ => []) (ins o.2 C) := by
            have ef : ([o.1, o.2].filter fun t => decide (liesOn w t)) = [o.2] := by simp [l1, l2]
            rw [tk]; unfold cutBy; rw [ef, insAll_append]; rfl
          have hcs : Srt (ins o.2 C) := by exact srt_ins Cs
          have hcl : (ins o.2 C).length ≤ 900 := by have := len_ins (s := o.2) (ps := C); omega
          have hcb : ∀ p ∈ (ins o.2 C), BP p 450 := bins _ _ bo2 C1
          have hq2 : put S1 q (.lst ((ins o.2 C).map spD)) q = some (.lst ((ins o.2 C).map spD)) := put_same
          have x2 : Ext0 S (put S1 q (.lst ((ins o.2 C).map spD))) := ext _ _ x1
          generalize put S1 q (.lst ((ins o.2 C).map spD)) = S2 at *
          generalize ins o.2 C = cs at *
          refine t_meeting hw b1 b2 ?_
          cases em : meetW w o with
          | no =>
            rw [em] at tk'
            simp only [gz6, meD]
            exact KP.mk ⟨⟨_, _, _, rfl⟩, x2, by rw [tk']; exact hq2⟩
          | stretch v =>
            rw [em] at tk'
            simp only [gz6, meD]
            refine ⟨eqOk_of' (by decide +kernel) (by decide +kernel) (by decide) (by decide), fun z => absurd z (by decide), fun _ => ?_⟩
            simp only [gz6]
            exact KP.mk ⟨⟨_, _, _, rfl⟩, x2, by rw [tk']; exact hq2⟩
          | spot p =>
            have bp := bsp p em
            rw [em] at tk'
            simp only [gz6, meD]
            refine ⟨eqOk_of' (by decide +kernel) (by decide +kernel) (by decide) (by decide), put1 _ _ _ _ _ hq2 hcs hcl bp hcb ?_⟩
            simp only [gz6]
            exact KP.mk ⟨⟨_, _, _, rfl⟩, ext _ _ x2, by rw [put_same, tk']; rfl⟩
        · simp only [gz6]
          have tk' : cutsW (ws.take (i + 1)) w = insAll (match meetW w o with | .spot p => [p] | _ => []) C := by
            have ef : ([o.1, o.2].filter fun t => decide (liesOn w t)) = [] := by simp [l1, l2]
            rw [tk]; unfold cutBy; rw [ef, insAll_append]; rfl
          have hcs := Cs
          have hcl : C.length ≤ 900 := by omega
          have hcb := C1
          have hq2 := hq1
          have x2 := x1
          refine t_meeting hw b1 b2 ?_
          cases em : meetW w o with
          | no =>
            rw [em] at tk'
            simp only [gz6, meD]
            exact KP.mk ⟨⟨_, _, _, rfl⟩, x2, by rw [tk']; exact hq2⟩
          | stretch v =>
            rw [em] at tk'
            simp only [gz6, meD]
            refine ⟨eqOk_of' (by decide +kernel) (by decide +kernel) (by decide) (by decide), fun z => absurd z (by decide), fun _ => ?_⟩
            simp only [gz6]
            exact KP.mk ⟨⟨_, _, _, rfl⟩, x2, by rw [tk']; exact hq2⟩
          | spot p =>
            have bp := bsp p em
            rw [em] at tk'
            simp only [gz6, meD]
            refine ⟨eqOk_of' (by decide +kernel) (by decide +kernel) (by decide) (by decide), put1 _ _ _ _ _ hq2 hcs hcl bp hcb ?_⟩
            simp only [gz6]
            exact KP.mk ⟨⟨_, _, _, rfl⟩, ext _ _ x2, by rw [put_same, tk']; rfl⟩
  · rintro σ S1 ⟨⟨a, b, c, rfl⟩, x1, hq1⟩
    rw [List.length_map, List.take_length] at hq1
    refine ⟨hG _ (hd.ext x1), ?_⟩
    simp only [gz6]
    exact k q S1 x1 hq hq1
end FL
namespace FL
open PySem PySem.Spec L2 ML
section
variable {w o : Wl}
theorem maxP_ge1 (p q : Pt) : ¬ ahead (maxP p q) p := by
  unfold maxP; split
  · next h => exact ahead_asymm h
  · exact ahead_irrefl _
theorem maxP_ge2 (p q : Pt) : ¬ ahead (maxP p q) q := by
  unfold maxP; split
  · exact ahead_irrefl _
  · next h => exact h
theorem minP_le1 (p q : Pt) : ¬ ahead p (minP p q) := by
  unfold minP; split
  · next h => exact ahead_asymm h
  · exact ahead_irrefl _
theorem minP_le2 (p q : Pt) : ¬ ahead q (minP p q) := by
  unfold minP; split
  · exact ahead_irrefl _
  · next h => exact h
theorem maxP_or (p q : Pt) : maxP p q = p ∨ maxP p q = q := by unfold maxP; split <;> simp
theorem side_0 {t : Pt} : side w t = 0 ↔ cx w t = 0 := by rw [side_cx]; exact sgn_0
end
theorem mem_parted {ws : List Wl} {t : Wl} : t ∈ partedW ws ↔ ∃ w ∈ ws, t ∈ piecesOf (cutsW ws w) := by
  unfold partedW
  rw [mem_allV, List.mem_flatMap]; simp
theorem parted_srt (ws : List Wl) : SrtV (partedW ws) := srt_allV List.Pairwise.nil
end FL
namespace FL
open PySem PySem.Spec L2 ML
def sp_parted : MSp := fun ds S Q E => ∃ (d : D) (ws : List Wl), ds = [d] ∧ LstK S d (ws.map wlD) ∧ ws.length ≤ 100 ∧ (∀ w ∈ ws, BW w 400) ∧ (∀ w ∈ ws, ∀ v ∈ ws, solB w v) ∧
  (40 < (partedW ws).length → ∀ S', Ext0 S S' → E ⟨"TooMany", some [("count", nD (partedW ws).length)]⟩ S') ∧ (¬ 40 < (partedW ws).length → ∀ S', Ext0 S S' → Q (.tup ((partedW ws).map wlD)) S')
structure AnyU (most : Nat) (size : Int) (ws : List UW) : Prop where
  up : ∀ w ∈ ws, ult w.1 w.2
  ok : ∀ w ∈ ws, WOk (size + 1) w
  len : ws.length ≤ most + 1
  few : ∃ vs : List UW, vs.length ≤ most ∧ ∀ t, t ∈ ws ↔ t ∈ vs
def sp_uany : MSp := fun ds S Q _ => ∃ (p : Addr) (c : Int) (n most : Nat) (size : Int), ds = [.ref p, .int most, .int size] ∧ S p = some (rowO c n) ∧ n < 2 ^ 50 ∧ most ≤ 100 ∧ 0 < size ∧ size ≤ 1000 ∧
  ∀ (ws : List UW) (q : Addr) (c' : Int) (n' : Nat) (S' : Sto), AnyU most size ws → n' ≤ n + 1000 → S q = none → q ≠ p → (∀ a o, a ≠ p → S a = some o → S' a = some o) → S' p = some (rowO c' n') → S' q = some (.lst (ws.map uwD)) → Q (.ref q) S'
theorem cut_tail {α : Type} {f : α → D} : ∀ {as : List α}, cutD (as.map f) (some 1) none = as.tail.map f
  | [] => rfl
  | _ :: _ => cut_from1
theorem zip_pieces (cs : List Pt) : zipD (cs.map spD) (cs.tail.map spD) = (piecesOf cs).map wlD := by
  unfold zipD piecesOf
  rw [List.zipWith_map]
  rw [List.zip, List.map_zipWith]
  rfl
theorem cuts_bd {ws : List Wl} {w : Wl} (hw : BW w 400) (hv : ∀ v ∈ ws, BW v 400 ∧ solB w v) : ∀ t ∈ cutsW ws w, BP t 450 := fun t ht => by
  obtain ⟨o, ho, h⟩ := mem_cuts.mp ht
  obtain ⟨b1, b2⟩ := hv o ho
  rcases h with ⟨e | e, _⟩ | h
  · rw [e]; exact BP.mono (h := b1.f) (by decide)
  · rw [e]; exact BP.mono (h := b1.s) (by decide)
  · unfold meetW at h
    by_cases hc : crs (alng w) (alng o) = 0
    · rw [if_pos hc] at h
      unfold inLine at h
      by_cases h1 : side w o.1 ≠ 0
      · rw [if_pos h1] at h; cases h
      · rw [if_neg h1] at h
        by_cases h2 : maxP w.1 o.1 = minP w.2 o.2
        · rw [if_pos h2] at h
          cases h
          unfold maxP
          split
          · exact BP.mono (h := b1.f) (by decide)
          · exact BP.mono (h := hw.f) (by decide)
        · rw [if_neg h2] at h
          split at h <;> cases h
    · rw [if_neg hc] at h
      split at h
      · cases h
        exact BP.mono (h := b2 hc) (by decide)
      · cases h
theorem cuts_len (ws : List Wl) (w : Wl) : (cutsW ws w).length ≤ 3 * ws.length := by
  have h := len_all (ps := ws.flatMap (cutBy w)) (acc := [])
  have h2 := cut_len ws w
  unfold cutsW
  simp only [List.length_nil] at h
  omega
theorem pieces_len (cs : List Pt) : (piecesOf cs).length ≤ cs.length := by unfold piecesOf; rw [List.length_zip]; omega
theorem pieces_mem {cs : List Pt} {p : Wl} (h : p ∈ piecesOf cs) : p.1 ∈ cs ∧ p.2 ∈ cs := by
  unfold piecesOf at h
  have h1 := List.of_mem_zip (a := p.1) (b := p.2) h
  exact ⟨h1.1, List.mem_of_mem_tail h1.2⟩
theorem len_allV {ps : List Wl} : ∀ {acc : List Wl}, (insAllV ps acc).length ≤ acc.length + ps.length := by
  induction ps with
  | nil => intro acc; exact Nat.le_refl _
  | cons p ps ih =>
    intro acc
    have h1 := ih (acc := insV p acc)
    have h2 := len_insV (s := p) (ps := acc)
    show (insAllV ps (insV p acc)).length ≤ _
    rw [List.length_cons]; omega
theorem insAllV_append {ps qs acc : List Wl} : insAllV (ps ++ qs) acc = insAllV qs (insAllV ps acc) := by unfold insAllV; rw [List.foldl_append]
theorem t_uany {p : Addr} {most : Nat} {size : Int} {c : Int} {n : Nat} {S : Sto} {Q : Hold MQ} {E : Hold MXQ} {m : Int} (em : m = most) (hp : S p = some (rowO c n)) (hn : n < 2 ^ 50) (h1 : most ≤ 100) (h2 : 0 < size) (h3 : size ≤ 1000)
    (k : ∀ (ws : List UW) (q : Addr) (c' : Int) (n' : Nat) (S' : Sto), AnyU most size ws → n' ≤ n + 1000 → S q = none → q ≠ p → (∀ a o, a ≠ p → S a = some o → S' a = some o) → S' p = some (rowO c' n') → S' q = some (.lst (ws.map uwD)) → Q.v (.ref q) S') :
    @CallP sp_uany [.ref p, .int m, .int size] S Q E := ⟨p, c, n, most, size, by rw [em], hp, hn, h1, h2, h3, k⟩
end FL
set_option maxRecDepth 100000
namespace FL
open PySem PySem.Spec L2 ML
section
variable {w v o : Wl} {t x : Pt}
theorem le_le {a b c : Pt} (h : ¬ ahead b a) (k : ¬ ahead c b) : ¬ ahead c a := fun z => h (by
  rcases ahead_tri b c with e | e | e
  · exact ahead_trans e z
  · rw [e]; exact z
  · exact absurd e k)
theorem lt_of {a b : Pt} (h : ¬ ahead b a) (ne : a ≠ b) : ahead a b := by
  rcases ahead_tri a b with e | e | e
  · exact e
  · exact absurd e ne
  · exact absurd e h
theorem eq_of {a b : Pt} (h : ¬ ahead b a) (k : ¬ ahead a b) : a = b := by
  rcases ahead_tri a b with e | e | e
  · exact absurd e k
  · exact e
  · exact absurd e h
theorem al_ne (h : Up w) : (alng w).1 ≠ 0 ∨ (alng w).2 ≠ 0 := by
  have := h.up
  unfold ahead at this
  unfold alng
  simp only
  grind
theorem par_trans (hv : Up v) (h1 : crs (alng v) (alng w) = 0) (h2 : crs (alng v) (alng o) = 0) : crs (alng w) (alng o) = 0 := by
  have hn := al_ne hv
  revert h1 h2 hn
  generalize alng v = a
  generalize alng w = b
  generalize alng o = c
  obtain ⟨a1, a2⟩ := a
  obtain ⟨b1, b2⟩ := b
  obtain ⟨c1, c2⟩ := c
  simp only [crs]
  intro h1 h2 hn
  rcases hn with hn | hn
  · have : a1 * (b1 * c2 - b2 * c1) = 0 := by grind
    rcases Rat.mul_eq_zero.mp this with e | e
    · exact absurd e hn
    · exact e
  · have : a2 * (b1 * c2 - b2 * c1) = 0 := by grind
    rcases Rat.mul_eq_zero.mp this with e | e
    · exact absurd e hn
    · exact e
theorem crs_symm0 {a b : Pt} (h : crs a b = 0) : crs b a = 0 := by simp only [crs] at *; grind
theorem line_in (hw : Up w) (hc : crs (alng w) (alng v) = 0) (h1 : cx w x = 0) (h2 : cx v x = 0) (h3 : cx w t = 0) : cx v t = 0 := by
  have hn := al_ne hw
  have e1 : cx w t - cx w x = crs (alng w) (t.1 - x.1, t.2 - x.2) := by simp only [cx, crs, alng]; grind
  have e2 : cx v t - cx v x = crs (alng v) (t.1 - x.1, t.2 - x.2) := by simp only [cx, crs, alng]; grind
  rw [h1, h3] at e1
  rw [h2] at e2
  have e3 : crs (alng v) (t.1 - x.1, t.2 - x.2) = 0 := by
    revert hc hn e1
    generalize alng w = a
    generalize alng v = b
    generalize (t.1 - x.1, t.2 - x.2) = c
    obtain ⟨a1, a2⟩ := a
    obtain ⟨b1, b2⟩ := b
    obtain ⟨c1, c2⟩ := c
    simp only [crs]
    intro h1 hn h2
    rcases hn with hn | hn
    · have : a1 * (b1 * c2 - b2 * c1) = 0 := by grind
      rcases Rat.mul_eq_zero.mp this with e | e
      · exact absurd e hn
      · exact e
    · have : a2 * (b1 * c2 - b2 * c1) = 0 := by grind
      rcases Rat.mul_eq_zero.mp this with e | e
      · exact absurd e hn
      · exact e
  rw [e3] at e2
  grind
theorem sol_of (hc : crs (alng w) (alng v) ≠ 0) (h1 : cx w t = 0) (h2 : cx v t = 0) : t = solW w v := by
  have k1 := cx_sol_a hc
  have k2 := cx_sol_b hc
  generalize solW w v = q at *
  have e1 : cx w t - cx w q = crs (alng w) (t.1 - q.1, t.2 - q.2) := by simp only [cx, crs, alng]; grind
  have e2 : cx v t - cx v q = crs (alng v) (t.1 - q.1, t.2 - q.2) := by simp only [cx, crs, alng]; grind
  rw [h1, k1] at e1
  rw [h2, k2] at e2
  have e3 : t.1 - q.1 = 0 ∧ t.2 - q.2 = 0 := by
    revert hc e1 e2
    generalize alng w = a
    generalize alng v = b
    generalize t.1 - q.1 = c1
    generalize t.2 - q.2 = c2
    obtain ⟨a1, a2⟩ := a
    obtain ⟨b1, b2⟩ := b
    simp only [crs]
    intro hn h1 h2
    constructor
    · have : (a1 * b2 - a2 * b1) * c1 = 0 := by grind
      rcases Rat.mul_eq_zero.mp this with e | e
      · exact absurd e hn
      · exact e
    · have : (a1 * b2 - a2 * b1) * c2 = 0 := by grind
      rcases Rat.mul_eq_zero.mp this with e | e
      · exact absurd e hn
      · exact e
  refine Prod.ext ?_ ?_
  · have := e3.1; grind
  · have := e3.2; grind
theorem meet_spot (hc : crs (alng w) (alng v) ≠ 0) (h1 : liesOn w t) (h2 : liesOn v t) : meetW w v = .spot t := by
  have e := sol_of hc (cx_lies h1) (cx_lies h2)
  unfold meetW
  rw [if_neg hc, ← e, if_pos ⟨h1, h2⟩]
theorem meet_lies (hw : Up w) (hv : Up v) (h : meetW w v = .spot t) : liesOn w t ∧ liesOn v t ∧ (crs (alng w) (alng v) ≠ 0 ∨ crs (alng w) (alng v) = 0 ∧ (t = w.1 ∨ t = v.1)) := by
  unfold meetW at h
  by_cases hc : crs (alng w) (alng v) = 0
  · rw [if_pos hc] at h
    unfold inLine at h
    by_cases h1 : side w v.1 ≠ 0
    · rw [if_pos h1] at h; cases h
    · rw [if_neg h1] at h
      have c1 : cx w v.1 = 0 := side_0.mp (Decidable.not_not.mp h1)
      obtain ⟨c2, c3, c4⟩ := par_zero hw hv hc c1
      by_cases h2 : maxP w.1 v.1 = minP w.2 v.2
      · rw [if_pos h2] at h
        cases h
        have a1 := maxP_ge1 w.1 v.1
        have a2 := maxP_ge2 w.1 v.1
        have a3 := minP_le1 w.2 v.2
        have a4 := minP_le2 w.2 v.2
        rw [← h2] at a3 a4
        rcases maxP_or w.1 v.1 with e | e
        · rw [e] at a1 a2 a3 a4 ⊢
          exact ⟨⟨a1, a3, side_0.mpr (cx_f w)⟩, ⟨a2, a4, side_0.mpr c3⟩, .inr ⟨hc, .inl rfl⟩⟩
        · rw [e] at a1 a2 a3 a4 ⊢
          exact ⟨⟨a1, a3, side_0.mpr c1⟩, ⟨a2, a4, side_0.mpr (cx_f v)⟩, .inr ⟨hc, .inr rfl⟩⟩
      · rw [if_neg h2] at h
        split at h <;> cases h
  · rw [if_neg hc] at h
    split at h
    · next k => cases h; exact ⟨k.1, k.2, .inl hc⟩
    · cases h
theorem meet_self (hw : Up w) : meetW w w ≠ .spot t := fun h => by
  unfold meetW at h
  have hc : crs (alng w) (alng w) = 0 := by simp only [crs]; grind
  rw [if_pos hc] at h
  unfold inLine at h
  rw [if_neg (by rw [Decidable.not_not]; exact side_0.mpr (cx_f w))] at h
  have e1 : maxP w.1 w.1 = w.1 := by unfold maxP; split <;> rfl
  have e2 : minP w.2 w.2 = w.2 := by unfold minP; split <;> rfl
  rw [e1, e2, if_neg (fun z => by have := hw.up; rw [z] at this; exact ahead_irrefl _ this), if_pos hw.up] at h
  cases h
end
section
variable {cs : List Pt} {p q : Wl} {t : Pt}
theorem pc_at (h : p ∈ piecesOf cs) : ∃ i, cs[i]? = some p.1 ∧ cs[i + 1]? = some p.2 := by
  obtain ⟨i, hi⟩ := List.mem_iff_getElem?.mp h
  unfold piecesOf at hi
  rw [List.getElem?_zip_eq_some] at hi
  exact ⟨i, hi.1, by have := hi.2; rw [List.getElem?_tail] at this; exact this⟩
theorem srt_lt (h : Srt cs) {i j : Nat} {a b : Pt} (hi : cs[i]? = some a) (hj : cs[j]? = some b) (hl : i < j) : ahead a b := by
  obtain ⟨h1, e1⟩ := List.getElem?_eq_some_iff.mp hi
  obtain ⟨h2, e2⟩ := List.getElem?_eq_some_iff.mp hj
  have := List.pairwise_iff_getElem.mp h i j h1 h2 hl
  rwa [e1, e2] at this
theorem srt_idx (h : Srt cs) {i j : Nat} {a b : Pt} (hi : cs[i]? = some a) (hj : cs[j]? = some b) (hl : ahead a b) : i < j := by
  rcases Nat.lt_trichotomy i j with e | e | e
  · exact e
  · subst e; rw [hi] at hj; cases hj; exact absurd hl (ahead_irrefl _)
  · exact absurd (srt_lt h hj hi e) (ahead_asymm hl)
theorem pc_adj (h : Srt cs) (hp : p ∈ piecesOf cs) : p.1 ∈ cs ∧ p.2 ∈ cs ∧ ahead p.1 p.2 ∧ ∀ t ∈ cs, ahead p.1 t → ¬ ahead t p.2 := by
  obtain ⟨i, h1, h2⟩ := pc_at hp
  refine ⟨List.mem_of_getElem? h1, List.mem_of_getElem? h2, srt_lt h h1 h2 (by omega), fun t ht a b => ?_⟩
  obtain ⟨j, hj⟩ := List.mem_iff_getElem?.mp ht
  have := srt_idx h h1 hj a
  have := srt_idx h hj h2 b
  omega
theorem pc_conv (h : Srt cs) {a b : Pt} (ha : a ∈ cs) (hb : b ∈ cs) (hl : ahead a b) (no : ∀ t ∈ cs, ahead a t → ¬ ahead t b) : (a, b) ∈ piecesOf cs := by
  obtain ⟨i, hi⟩ := List.mem_iff_getElem?.mp ha
  obtain ⟨j, hj⟩ := List.mem_iff_getElem?.mp hb
  have ij := srt_idx h hi hj hl
  have e : j = i + 1 := by
    rcases Nat.lt_or_ge (i + 1) j with k | k
    · have jl := (List.getElem?_eq_some_iff.mp hj).1
      obtain ⟨c, hc⟩ : ∃ c, cs[i + 1]? = some c := ⟨_, List.getElem?_eq_getElem (by omega)⟩
      exact absurd (srt_lt h hc hj k) (no c (List.mem_of_getElem? hc) (srt_lt h hi hc (by omega)))
    · omega
  subst e
  refine List.mem_iff_getElem?.mpr ⟨i, ?_⟩
  unfold piecesOf
  rw [List.getElem?_zip_eq_some]
  exact ⟨hi, by rw [List.getElem?_tail]; exact hj⟩
theorem pc_uniq (h : Srt cs) (hp : p ∈ piecesOf cs) (hq : q ∈ piecesOf cs) (e : p.1 = q.1) : p = q := by
  obtain ⟨a1, a2, a3, a4⟩ := pc_adj h hp
  obtain ⟨b1, b2, b3, b4⟩ := pc_adj h hq
  refine Prod.ext e (eq_of (fun k => a4 q.2 b2 (by rw [e]; exact b3) k) fun k => b4 p.2 a2 (by rw [← e]; exact a3) k)
theorem pc_find : ∀ {cs : List Pt} {a : Pt}, Srt (a :: cs) → ¬ ahead t a → (∃ b ∈ cs, ¬ ahead b t) → ∃ p ∈ piecesOf (a :: cs), ¬ ahead t p.1 ∧ ¬ ahead p.2 t
  | [], a, _, _, ⟨b, hb, _⟩ => by cases hb
  | c :: cs, a, h, h1, ⟨b, hb, k⟩ => by
    by_cases hc : ahead c t
    · have hb' : b ∈ cs := by
        rcases List.mem_cons.mp hb with e | e
        · rw [e] at k; exact absurd hc k
        · exact e
      obtain ⟨p, hp, e1, e2⟩ := pc_find (List.pairwise_cons.mp h).2 (ahead_asymm hc) ⟨b, hb', k⟩
      refine ⟨p, ?_, e1, e2⟩
      unfold piecesOf at hp ⊢
      rw [List.tail_cons] at *
      rw [List.zip_cons_cons]
      exact List.mem_cons_of_mem _ hp
    · refine ⟨(a, c), ?_, h1, hc⟩
      unfold piecesOf
      rw [List.tail_cons, List.zip_cons_cons]
      exact List.mem_cons_self
end
section
variable {V : List Wl} {w v o : Wl} {p q : Wl} {t : Pt}
theorem cut_on (hU : ∀ w ∈ V, Up w) (hw : w ∈ V) (ht : t ∈ cutsW V w) : liesOn w t := by
  obtain ⟨o, ho, h⟩ := mem_cuts.mp ht
  rcases h with ⟨_, h⟩ | h
  · exact h
  · exact (meet_lies (hU w hw) (hU o ho) h).1
theorem cut_star (hU : ∀ w ∈ V, Up w) (hw : w ∈ V) (hv : v ∈ V) (ht : t ∈ cutsW V w) (hl : liesOn v t) : t ∈ cutsW V v := by
  by_cases hc : crs (alng v) (alng w) = 0
  · obtain ⟨o, ho, h⟩ := mem_cuts.mp ht
    rcases h with ⟨e, _⟩ | h
    · exact mem_cuts.mpr ⟨o, ho, .inl ⟨e, hl⟩⟩
    · obtain ⟨h1, h2, h3⟩ := meet_lies (hU w hw) (hU o ho) h
      rcases h3 with h3 | ⟨_, h3 | h3⟩
      · exact mem_cuts.mpr ⟨o, ho, .inr (meet_spot (fun z => h3 (par_trans (hU v hv) hc z)) hl h2)⟩
      · exact mem_cuts.mpr ⟨w, hw, .inl ⟨.inl h3, hl⟩⟩
      · exact mem_cuts.mpr ⟨o, ho, .inl ⟨.inl h3, hl⟩⟩
  · exact mem_cuts.mpr ⟨w, hw, .inr (meet_spot hc hl (cut_on hU hw ht))⟩
theorem cut_end (hU : ∀ w ∈ V, Up w) (hw : w ∈ V) : w.1 ∈ cutsW V w ∧ w.2 ∈ cutsW V w := ⟨mem_cuts.mpr ⟨w, hw, .inl ⟨.inl rfl, lies1 (hU w hw)⟩⟩, mem_cuts.mpr ⟨w, hw, .inl ⟨.inr rfl, lies2 (hU w hw)⟩⟩⟩
structure Pc (V : List Wl) (w p : Wl) : Prop where
  hw : w ∈ V
  c1 : p.1 ∈ cutsW V w
  c2 : p.2 ∈ cutsW V w
  up : Up p
  no : ∀ t ∈ cutsW V w, ahead p.1 t → ¬ ahead t p.2
theorem pc_of (hw : w ∈ V) (h : p ∈ piecesOf (cutsW V w)) : Pc V w p := by
  obtain ⟨a1, a2, a3, a4⟩ := pc_adj (cuts_srt V w) h
  exact ⟨hw, a1, a2, ⟨a3⟩, a4⟩
theorem Pc.mem (h : Pc V w p) : p ∈ piecesOf (cutsW V w) := pc_conv (cuts_srt V w) h.c1 h.c2 h.up.up h.no
theorem Pc.par (hU : ∀ w ∈ V, Up w) (h : Pc V w p) : crs (alng p) (alng w) = 0 := by
  have := (cx_ends p w).1
  rw [cx_lies (cut_on hU h.hw h.c1), cx_lies (cut_on hU h.hw h.c2)] at this
  grind
theorem Pc.line (hU : ∀ w ∈ V, Up w) (h : Pc V w p) : cx p t = 0 ↔ cx w t = 0 :=
  ⟨fun k => line_in h.up (h.par hU) (cx_f p) (cx_lies (cut_on hU h.hw h.c1)) k, fun k => line_in (hU w h.hw) (crs_symm0 (h.par hU)) (cx_lies (cut_on hU h.hw h.c1)) (cx_f p) k⟩
theorem Pc.lies (hU : ∀ w ∈ V, Up w) (h : Pc V w p) (k : liesOn p t) : liesOn w t :=
  ⟨le_le (cut_on hU h.hw h.c1).1 k.1, le_le k.2.1 (cut_on hU h.hw h.c2).2.1, side_0.mpr ((h.line hU).mp (cx_lies k))⟩
theorem piece_one (hU : ∀ w ∈ V, Up w) (hp : Pc V w p) (hq : Pc V v q) (ht : liesOn q t) (h1 : ahead p.1 t) (h2 : ahead t p.2) (hl : cx p t = 0) : p = q := by
  have w1 := cut_on hU hp.hw hp.c1
  have w2 := cut_on hU hp.hw hp.c2
  have tw : liesOn w t := ⟨le_le w1.1 (ahead_asymm h1), le_le (ahead_asymm h2) w2.2.1, side_0.mpr ((hp.line hU).mp hl)⟩
  have tv := hq.lies hU ht
  have hc : crs (alng w) (alng v) = 0 := Decidable.byContradiction fun hc => hp.no t (mem_cuts.mpr ⟨v, hq.hw, .inr (meet_spot hc tw tv)⟩) h1 h2
  have wv : ∀ {x}, cx w x = 0 → cx v x = 0 := fun {x} k => line_in (hU w hp.hw) hc (cx_lies tw) (cx_lies tv) k
  have vw : ∀ {x}, cx v x = 0 → cx w x = 0 := fun {x} k => line_in (hU v hq.hw) (crs_symm0 hc) (cx_lies tv) (cx_lies tw) k
  have n1 : ¬ ahead p.1 v.1 := fun k => by
    have a : ahead v.1 p.2 := le_lt tv.1 h2
    exact hp.no v.1 (mem_cuts.mpr ⟨v, hq.hw, .inl ⟨.inl rfl, ⟨le_le w1.1 (ahead_asymm k), le_le (ahead_asymm a) w2.2.1, side_0.mpr (vw (cx_f v))⟩⟩⟩) k a
  have n2 : ¬ ahead v.2 p.2 := fun k => by
    have a : ahead p.1 v.2 := lt_le h1 tv.2.1
    exact hp.no v.2 (mem_cuts.mpr ⟨v, hq.hw, .inl ⟨.inr rfl, ⟨le_le w1.1 (ahead_asymm a), le_le (ahead_asymm k) w2.2.1, side_0.mpr (vw (cx_s v))⟩⟩⟩) a k
  have p1v : liesOn v p.1 := ⟨n1, ahead_asymm (lt_le h1 tv.2.1), side_0.mpr (wv (cx_lies w1))⟩
  have p2v : liesOn v p.2 := ⟨ahead_asymm (le_lt tv.1 h2), n2, side_0.mpr (wv (cx_lies w2))⟩
  have c1 := cut_star hU hp.hw hq.hw hp.c1 p1v
  have c2 := cut_star hU hp.hw hq.hw hp.c2 p2v
  have m1 : ¬ ahead q.1 p.1 := fun k => hq.no p.1 c1 k (lt_le h1 ht.2.1)
  have m2 : ¬ ahead p.2 q.2 := fun k => hq.no p.2 c2 (le_lt ht.1 h2) k
  have v1 := cut_on hU hq.hw hq.c1
  have v2 := cut_on hU hq.hw hq.c2
  have q1p : ahead q.1 p.2 := le_lt ht.1 h2
  have q2p : ahead p.1 q.2 := lt_le h1 ht.2.1
  have q1w : liesOn w q.1 := ⟨le_le w1.1 m1, le_le (ahead_asymm q1p) w2.2.1, side_0.mpr (vw (cx_lies v1))⟩
  have q2w : liesOn w q.2 := ⟨le_le w1.1 (ahead_asymm q2p), le_le m2 w2.2.1, side_0.mpr (vw (cx_lies v2))⟩
  have d1 := cut_star hU hq.hw hp.hw hq.c1 q1w
  have d2 := cut_star hU hq.hw hp.hw hq.c2 q2w
  refine Prod.ext (eq_of m1 fun k => hp.no q.1 d1 k q1p) (eq_of (fun k => hp.no q.2 d2 q2p k) m2)
theorem piece_end (hU : ∀ w ∈ V, Up w) (hp : Pc V w p) (hq : Pc V v q) (ne : p ≠ q) (h1 : liesOn p t) (h2 : liesOn q t) : t = p.1 ∨ t = p.2 := by
  by_cases a : t = p.1
  · exact .inl a
  · by_cases b : t = p.2
    · exact .inr b
    · exact absurd (piece_one hU hp hq h2 (lt_of h1.1 (Ne.symm a)) (lt_of h1.2.1 b) (cx_lies h1)) ne
theorem parted_pc (h : p ∈ partedW V) : ∃ w, Pc V w p := by
  obtain ⟨w, hw, hp⟩ := mem_parted.mp h
  exact ⟨w, pc_of hw hp⟩
theorem piece_fair (hU : ∀ w ∈ V, Up w) (hp : Pc V w p) (hq : Pc V v q) (ne : p ≠ q) : isFair p q = true := by
  unfold isFair
  cases e : meetW p q with
  | no => rfl
  | spot t =>
    obtain ⟨h1, h2, _⟩ := meet_lies hp.up hq.up e
    have a := piece_end hU hp hq ne h1 h2
    have b := piece_end hU hq hp (Ne.symm ne) h2 h1
    show ((decide (p.1 = t) || decide (p.2 = t)) && (decide (q.1 = t) || decide (q.2 = t))) = true
    simp only [Bool.and_eq_true, Bool.or_eq_true, decide_eq_true_eq]
    exact ⟨a.imp Eq.symm Eq.symm, b.imp Eq.symm Eq.symm⟩
  | stretch s =>
    exfalso
    unfold meetW at e
    by_cases hc : crs (alng p) (alng q) = 0
    · rw [if_pos hc] at e
      unfold inLine at e
      by_cases h1 : side p q.1 ≠ 0
      · rw [if_pos h1] at e; cases e
      · rw [if_neg h1] at e
        by_cases h2 : maxP p.1 q.1 = minP p.2 q.2
        · rw [if_pos h2] at e; cases e
        · rw [if_neg h2] at e
          by_cases h3 : ahead (maxP p.1 q.1) (minP p.2 q.2)
          · have c1 : cx p q.1 = 0 := side_0.mp (Decidable.not_not.mp h1)
            obtain ⟨c2, c3, c4⟩ := par_zero hp.up hq.up hc c1
            have a1 : ahead p.1 q.2 := le_lt (maxP_ge1 p.1 q.1) (lt_le h3 (minP_le2 p.2 q.2))
            have a2 : ahead q.1 p.2 := le_lt (maxP_ge2 p.1 q.1) (lt_le h3 (minP_le1 p.2 q.2))
            rcases ahead_tri p.1 q.1 with k | k | k
            · exact ne (piece_one hU hp hq (lies1 hq.up) k a2 c1)
            · rcases ahead_tri p.2 q.2 with l | l | l
              · exact ne (piece_one hU hq hp (lies2 hp.up) (by rw [← k]; exact hp.up.up) l c4).symm
              · exact ne (Prod.ext k l)
              · exact ne (piece_one hU hp hq (lies2 hq.up) a1 l c2)
            · exact ne (piece_one hU hq hp (lies1 hp.up) k a1 c3).symm
          · rw [if_neg h3] at e; cases e
    · rw [if_neg hc] at e
      split at e <;> cases e
theorem parted_fairs (hU : ∀ w ∈ V, Up w) : Fairs (partedW V) := by
  refine (parted_srt V).imp_of_mem fun {a b} ha hb h => ?_
  obtain ⟨w, hp⟩ := parted_pc ha
  obtain ⟨v, hq⟩ := parted_pc hb
  exact piece_fair hU hq hp fun z => by rw [z] at h; exact sn_irrefl _ h
theorem parted_again (hU : ∀ w ∈ V, Up w) : partedW (partedW V) = partedW V := by
  have ec : ∀ w ∈ partedW V, cutsW (partedW V) w = [w.1, w.2] := fun w hw => by
    obtain ⟨w', hp⟩ := parted_pc hw
    refine srt_ext (cuts_srt _ _) (List.pairwise_cons.mpr ⟨fun b hb => (by rw [List.mem_singleton.mp hb]; exact hp.up.up), List.pairwise_singleton _ _⟩) fun t => ?_
    rw [List.mem_cons, List.mem_singleton]
    constructor
    · intro ht
      obtain ⟨o, ho, h⟩ := mem_cuts.mp ht
      obtain ⟨o', hq⟩ := parted_pc ho
      by_cases e : w = o
      · subst e
        rcases h with ⟨h, _⟩ | h
        · exact h
        · exact absurd h (meet_self hp.up)
      · rcases h with ⟨h, k⟩ | h
        · exact piece_end hU hp hq e k (by
            rcases h with h | h
            · rw [h]; exact lies1 hq.up
            · rw [h]; exact lies2 hq.up)
        · obtain ⟨a, b, _⟩ := meet_lies hp.up hq.up h
          exact piece_end hU hp hq e a b
    · intro h
      exact mem_cuts.mpr ⟨w, hw, .inl ⟨h, by
        rcases h with h | h
        · rw [h]; exact lies1 hp.up
        · rw [h]; exact lies2 hp.up⟩⟩
  refine srt_extV (parted_srt _) (parted_srt _) fun t => ?_
  rw [mem_parted]
  constructor
  · rintro ⟨w, hw, ht⟩
    rw [ec w hw] at ht
    have : t = (w.1, w.2) := by simpa [piecesOf] using ht
    rw [this]; exact hw
  · intro ht
    exact ⟨t, ht, by rw [ec t ht]; simp [piecesOf]⟩
theorem parted_cover (hU : ∀ w ∈ V, Up w) : (∃ w ∈ V, liesOn w t) ↔ ∃ p ∈ partedW V, liesOn p t := by
  constructor
  · rintro ⟨w, hw, ht⟩
    obtain ⟨e1, e2⟩ := cut_end hU hw
    have hs := cuts_srt V w
    have key : ∃ p ∈ piecesOf (cutsW V w), ¬ ahead t p.1 ∧ ¬ ahead p.2 t := by
      generalize hC : cutsW V w = C at *
      cases C with
      | nil => cases e1
      | cons a cs =>
        have ha : a ∈ cutsW V w := by rw [hC]; exact List.mem_cons_self
        have w1 : a = w.1 := by
          refine eq_of (fun k => ?_) (cut_on hU hw ha).1
          rcases List.mem_cons.mp e1 with e | e
          · rw [e] at k; exact ahead_irrefl _ k
          · exact absurd k (ahead_asymm ((List.pairwise_cons.mp hs).1 _ e))
        refine pc_find hs (by rw [w1]; exact ht.1) ⟨w.2, ?_, ht.2.1⟩
        rcases List.mem_cons.mp e2 with e | e
        · have := (hU w hw).up
          rw [e, w1] at this
          exact absurd this (ahead_irrefl _)
        · exact e
    obtain ⟨p, hp, k1, k2⟩ := key
    have pc := pc_of hw hp
    exact ⟨p, mem_parted.mpr ⟨w, hw, hp⟩, k1, k2, side_0.mpr ((pc.line hU).mpr (cx_lies ht))⟩
  · rintro ⟨p, hp, ht⟩
    obtain ⟨w, pc⟩ := parted_pc hp
    exact ⟨w, pc.hw, pc.lies hU ht⟩
def Fst (V : List Wl) (p : Wl) (x : Wl × Wl) : Prop := (x.1 ∈ V ∧ x.2 ∈ V) ∧ ((x.1 = x.2 ∧ x.1.1 = p.1 ∧ Pc V x.1 p) ∨ ((∀ v, Pc V v p → v.1 ≠ p.1) ∧ Pc V x.1 p ∧ (((p.1 = x.2.1 ∨ p.1 = x.2.2) ∧ liesOn x.1 p.1) ∨ meetW x.1 x.2 = .spot p.1)))
theorem fst_ex (h : p ∈ partedW V) : ∃ x, Fst V p x := by
  obtain ⟨w, hp⟩ := parted_pc h
  by_cases c : ∃ v, Pc V v p ∧ v.1 = p.1
  · obtain ⟨v, hv, e⟩ := c
    exact ⟨(v, v), ⟨hv.hw, hv.hw⟩, .inl ⟨rfl, e, hv⟩⟩
  · obtain ⟨o, ho, k⟩ := mem_cuts.mp hp.c1
    exact ⟨(w, o), ⟨hp.hw, ho⟩, .inr ⟨fun v hv e => c ⟨v, hv, e⟩, hp, k⟩⟩
theorem fst_second (hU : ∀ w ∈ V, Up w) (ho : o ∈ V) (hn : ∀ v, Pc V v p → v.1 ≠ p.1) (hp : Pc V w p) (k : ((p.1 = o.1 ∨ p.1 = o.2) ∧ liesOn w p.1) ∨ meetW w o = .spot p.1) : (crs (alng w) (alng o) ≠ 0 ∧ p.1 = solW w o) ∨ (crs (alng w) (alng o) = 0 ∧ p.1 = o.2) := by
  have w1 := cut_on hU hp.hw hp.c1
  have w2 := cut_on hU hp.hw hp.c2
  have hUo := hU o ho
  have hUw := hU w hp.hw
  have oo : liesOn o p.1 := by
    rcases k with ⟨e | e, _⟩ | k
    · rw [e]; exact lies1 hUo
    · rw [e]; exact lies2 hUo
    · exact (meet_lies hUw hUo k).2.1
  by_cases hc : crs (alng w) (alng o) = 0
  · refine .inr ⟨hc, ?_⟩
    have n1 : p.1 ≠ o.1 := fun e => by
      have wo : ∀ {x}, cx w x = 0 → cx o x = 0 := fun {x} k => line_in hUw hc (cx_lies w1) (cx_lies oo) k
      have ow : ∀ {x}, cx o x = 0 → cx w x = 0 := fun {x} k => line_in hUo (crs_symm0 hc) (cx_lies oo) (cx_lies w1) k
      have m : ¬ ahead o.2 p.2 := fun k => by
        have a : ahead p.1 o.2 := by rw [e]; exact hUo.up
        exact hp.no o.2 (mem_cuts.mpr ⟨o, ho, .inl ⟨.inr rfl, ⟨le_le w1.1 (ahead_asymm a), le_le (ahead_asymm k) w2.2.1, side_0.mpr (ow (cx_s o))⟩⟩⟩) a k
      have p2o : liesOn o p.2 := ⟨by rw [← e]; exact ahead_asymm hp.up.up, m, side_0.mpr (wo (cx_lies w2))⟩
      refine hn o ⟨ho, cut_star hU hp.hw ho hp.c1 oo, cut_star hU hp.hw ho hp.c2 p2o, hp.up, fun t ht a b => ?_⟩ e.symm
      have to := cut_on hU ho ht
      exact hp.no t (cut_star hU ho hp.hw ht ⟨le_le w1.1 (ahead_asymm a), le_le (ahead_asymm b) w2.2.1, side_0.mpr (ow (cx_lies to))⟩) a b
    rcases k with ⟨e | e, _⟩ | k
    · exact absurd e n1
    · exact e
    · obtain ⟨_, _, h3⟩ := meet_lies hUw hUo k
      rcases h3 with h3 | ⟨_, h3 | h3⟩
      · exact absurd hc h3
      · exact absurd h3.symm (hn w hp)
      · exact absurd h3 n1
  · exact .inl ⟨hc, sol_of hc (cx_lies w1) (cx_lies oo)⟩
theorem fst_inj (hU : ∀ w ∈ V, Up w) {x : Wl × Wl} (a : Fst V p x) (b : Fst V q x) : p = q := by
  obtain ⟨w, o⟩ := x
  have self : ∀ {p q : Wl}, w = o → Pc V w p → w.1 = p.1 → (∀ v, Pc V v q → v.1 ≠ q.1) → Pc V w q → (((q.1 = o.1 ∨ q.1 = o.2) ∧ liesOn w q.1) ∨ meetW w o = .spot q.1) → False := fun {p q} e hp e1 hn hq k => by
    subst e
    rcases k with ⟨e | e, _⟩ | k
    · exact hn w hq e.symm
    · have := (cut_on hU hq.hw hq.c2).2.1
      rw [← e] at this
      exact this hq.up.up
    · exact meet_self (hU w hq.hw) k
  obtain ⟨⟨hw, ho⟩, a⟩ := a
  obtain ⟨_, b⟩ := b
  rcases a with ⟨e, e1, hp⟩ | ⟨hn, hp, k⟩ <;> rcases b with ⟨e', e1', hq⟩ | ⟨hn', hq, k'⟩
  · exact pc_uniq (cuts_srt V w) hp.mem hq.mem (e1.symm.trans e1')
  · exact (self e hp e1 hn' hq k').elim
  · exact (self e' hq e1' hn hp k).elim
  · refine pc_uniq (cuts_srt V w) hp.mem hq.mem ?_
    rcases fst_second hU ho hn hp k with ⟨hc, e⟩ | ⟨hc, e⟩ <;> rcases fst_second hU ho hn' hq k' with ⟨hc', e'⟩ | ⟨hc', e'⟩
    · exact e.trans e'.symm
    · exact absurd hc' hc
    · exact absurd hc hc'
    · exact e.trans e'.symm
theorem parted_count (hU : ∀ w ∈ V, Up w) : (partedW V).length ≤ V.length * V.length := by
  have hf : ∀ p : Wl, ∃ x, p ∈ partedW V → Fst V p x := fun p => by
    by_cases h : p ∈ partedW V
    · obtain ⟨x, hx⟩ := fst_ex h; exact ⟨x, fun _ => hx⟩
    · exact ⟨(p, p), fun k => absurd k h⟩
  let f : Wl → Wl × Wl := fun p => (hf p).choose
  have ff : ∀ p ∈ partedW V, Fst V p (f p) := fun p hp => (hf p).choose_spec hp
  have nd : (partedW V).Nodup := (parted_srt V).imp fun {a b} h e => by subst e; exact sn_irrefl _ h
  have l : ((partedW V).map f).length ≤ (V.flatMap fun a => V.map fun b => (a, b)).length := by
    refine List.Nodup.length_le_of_subset (List.pairwise_map.mpr (nd.imp_of_mem fun {a b} ha hb ne e => ne (fst_inj hU (ff a ha) (by rw [e]; exact ff b hb)))) fun x hx => ?_
    obtain ⟨p, hp, rfl⟩ := List.mem_map.mp hx
    have := (ff p hp).1
    exact List.mem_flatMap.mpr ⟨_, this.1, List.mem_map.mpr ⟨_, this.2, rfl⟩⟩
  rw [List.length_map] at l
  have e : ∀ (A B : List Wl), (A.flatMap fun a => B.map fun b => (a, b)).length = A.length * B.length := fun A B => by
    induction A with
    | nil => simp
    | cons a A ih => rw [List.flatMap_cons, List.length_append, ih, List.length_map, List.length_cons, Nat.succ_mul]; omega
  rw [e] at l
  exact l
theorem cut_bd4 (hU : ∀ w ∈ V, Up w) (hb : ∀ w ∈ V, BW w 400) (hs : ∀ w ∈ V, ∀ v ∈ V, solB w v) (hw : w ∈ V) (ht : t ∈ cutsW V w) : BP t 400 := by
  obtain ⟨o, ho, h⟩ := mem_cuts.mp ht
  rcases h with ⟨e | e, _⟩ | h
  · rw [e]; exact (hb o ho).f
  · rw [e]; exact (hb o ho).s
  · obtain ⟨a, b, c⟩ := meet_lies (hU w hw) (hU o ho) h
    rcases c with c | ⟨_, c | c⟩
    · rw [sol_of c (cx_lies a) (cx_lies b)]; exact hs w hw o ho c
    · rw [c]; exact (hb w hw).f
    · rw [c]; exact (hb o ho).f
theorem piece_bw (hU : ∀ w ∈ V, Up w) (hb : ∀ w ∈ V, BW w 400) (hs : ∀ w ∈ V, ∀ v ∈ V, solB w v) (h : p ∈ partedW V) : BW p 400 := by
  obtain ⟨w, hp⟩ := parted_pc h
  exact ⟨cut_bd4 hU hb hs hp.hw hp.c1, cut_bd4 hU hb hs hp.hw hp.c2⟩
theorem piece_sol (hU : ∀ w ∈ V, Up w) (hs : ∀ w ∈ V, ∀ v ∈ V, solB w v) (h : p ∈ partedW V) (k : q ∈ partedW V) : solB p q := fun hc => by
  obtain ⟨w, hp⟩ := parted_pc h
  obtain ⟨v, hq⟩ := parted_pc k
  have c1 := cx_sol_a hc
  have c2 := cx_sol_b hc
  have hn : crs (alng w) (alng v) ≠ 0 := fun z => hc (par_trans (hU w hp.hw) (crs_symm0 (hp.par hU)) (par_trans (hU v hq.hw) (crs_symm0 z) (crs_symm0 (hq.par hU))))
  rw [sol_of hn ((hp.line hU).mp c1) ((hq.line hU).mp c2)]
  exact hs w hp.hw v hq.hw hn
end
end FL
set_option maxRecDepth 100000
namespace FL
open PySem PySem.Spec L2 ML
def b_uany : MS := (mSeq (mSet 3 (mLst mNil))
  (mSeq (mFor (iR1 (mCons (mCall FL.sp_take (mCons (mVar 0) (mCons (mOp rAdd (mVar 1) (mC (.int 1))) mNil))) mNil)) (gNm 4) (mSeq (mSet 5 (mTup (mCons (mCall FL.sp_take (mCons (mVar 0) (mCons (mVar 2) mNil))) (mCons (mCall FL.sp_take (mCons (mVar 0) (mCons (mVar 2) mNil))) mNil))))
  (mSeq (mSet 6 (mTup (mCons (mCall FL.sp_take (mCons (mVar 0) (mCons (mVar 2) mNil))) (mCons (mCall FL.sp_take (mCons (mVar 0) (mCons (mVar 2) mNil))) mNil))))
  (mSeq (mJ (mIfS (mAnd (mTst (mOp rNeM (mVar 3) (mLstF mNil))) (mTst (mOp rEqM (mCall FL.sp_take (mCons (mVar 0) (mCons (mC (.int 4)) mNil))) (mC (.int 0))))) (mSet 5 (mOp rIxM (mOp rIxM (mVar 3) (mCall FL.sp_take (mCons (mVar 0) (mCons (mBlt bLen (mCons (mVar 3) mNil)) mNil)))) (mCall FL.sp_take (mCons (mVar 0) (mCons (mC (.int 2)) mNil))))) mNext))
  (mSeq (mIfJ (mTst (mOp rEqM (mVar 5) (mVar 6))) (mSet 6 (mTup (mCons (mOp rAdd (mOp rAdd (mOp rIxM (mVar 5) (mC (.int 0))) (mC (.int 1))) (mCall FL.sp_take (mCons (mVar 0) (mCons (mC (.int 2)) mNil)))) (mCons (mOp rIxM (mVar 5) (mC (.int 1))) mNil)))) mNext)
  (mExpr (mMt mtAppend (mVar 3) (mCons (mTup (mCons (mBlt bMinA (mCons (mVar 5) (mCons (mVar 6) mNil))) (mCons (mBlt bMaxA (mCons (mVar 5) (mCons (mVar 6) mNil))) mNil))) mNil))))))))
  (mSeq (mJ (mIfS (mAnd (mTst (mOp rNeM (mVar 3) (mLstF mNil))) (mTst (mOp rEqM (mCall FL.sp_take (mCons (mVar 0) (mCons (mC (.int 6)) mNil))) (mC (.int 0))))) (mExpr (mMt mtAppend (mVar 3) (mCons (mOp rIxM (mVar 3) (mCall FL.sp_take (mCons (mVar 0) (mCons (mBlt bLen (mCons (mVar 3) mNil)) mNil)))) mNil))) mNext))
  (mRet (mVar 3)))))
def b_parted : MS := (mSeq (mSet 1 (mLst mNil))
  (mSeq (mFor (iS (mVar 0)) (gNm 2) (mSeq (mSet 3 (mCall FL.sp_cuts_of (mCons (mVar 0) (mCons (mVar 2) mNil))))
  (mFor (iZp (mCons (mVar 3) (mCons (mCut (mVar 3) (oSo (mC (.int 1))) oNo) mNil))) (gNm 4) (mExpr (mCall FL.sp_put_wall (mCons (mVar 1) (mCons (mVar 4) mNil)))))))
  (mSeq (mIfS (mTst (mOp aGt (mBlt bLen (mCons (mVar 1) mNil)) (mC (.int 40)))) (mRaiseF "TooMany" ["count"] (mCons (mBlt bLen (mCons (mVar 1) mNil)) mNil)) mNext)
  (mRet (mBlt bTuple (mCons (mVar 1) mNil))))))
end FL
set_option maxRecDepth 100000
set_option maxHeartbeats 4000000
namespace FL
open PySem PySem.Spec L2 ML
theorem l_parted : ∀ ds S Q E, FL.sp_parted ds S Q E → ds.length = 1 := by rintro _ _ _ _ ⟨_, _, rfl, _⟩; rfl
theorem l_uany : ∀ ds S Q E, FL.sp_uany ds S Q E → ds.length = 3 := by rintro _ _ _ _ ⟨_, _, _, _, _, rfl, _⟩; rfl
theorem r_parted : ∀ ds S Q E, FL.sp_parted ds S Q E → b_parted (mends Q E) (mstart 4 ds) S := by
  rintro _ S Q E ⟨d, ws, rfl, hd, hz, hb, hs, k1, k2⟩
  unfold b_parted
  simp only [ML.q_mstart, ML.q_mends, List.map_cons, List.map_nil, List.replicate, List.cons_append, List.nil_append]
  simp only [gz7]
  intro q hq
  have x0 : ∀ o, Ext0 S (put S q o) := fun o => ext0_put hq
  obtain ⟨G, eG, hG⟩ := (hd.ext (x0 (.lst []))).itx
  simp only [gz7, eG]
  have ext : ∀ (S' : Sto) (o : MO), Ext0 S S' → Ext0 S (put S' q o) := fun S' o x a u e => by rw [put_ne (fun z => by rw [z, hq] at e; cases e)]; exact x a u e
  have lenP : ∀ i : Nat, ((ws.take i).flatMap (fun w => piecesOf (cutsW ws w))).length ≤ 300 * i := fun i => by
    induction i with
    | zero => simp
    | succ i ih =>
      rw [List.take_add_one]
      cases e : ws[i]? with
      | none => simp only [Option.toList_none, List.append_nil]; omega
      | some w =>
        simp only [Option.toList_some, List.flatMap_append, List.length_append, List.flatMap_cons, List.flatMap_nil, List.append_nil]
        have h1 := pieces_len (cutsW ws w)
        have h2 := cuts_len ws w
        omega
  refine wfor_inv (fun i σ S' => @KP ⟨(∃ a b c, σ = [some d, some (.ref q), a, b, c]) ∧ Ext0 S S' ∧ S' q = some (.lst ((insAllV ((ws.take i).flatMap fun w => piecesOf (cutsW ws w)) []).map wlD))⟩) ⟨⟨_, _, _, rfl⟩, x0 _, put_same⟩ ?_ ?_
  · rintro i x σ S1 hx ⟨⟨a, b, c, rfl⟩, x1, hq1⟩
    rw [List.getElem?_map] at hx
    cases ei : ws[i]? with
    | none => rw [ei] at hx; cases hx
    | some w =>
      rw [ei] at hx; cases hx
      have hw := List.mem_of_getElem? ei
      have hi := (List.getElem?_eq_some_iff.mp ei).1
      refine ⟨hG _ (hd.ext x1), ?_⟩
      have lA := lenP i
      have mA : ∀ v ∈ insAllV ((ws.take i).flatMap fun w => piecesOf (cutsW ws w)) [], BW v 900 := fun v hv => by
        rcases mem_allV.mp hv with h | h
        · obtain ⟨o, ho, h⟩ := List.mem_flatMap.mp h
          have hom := List.mem_of_mem_take ho
          obtain ⟨m1, m2⟩ := pieces_mem h
          have bd := cuts_bd (hb o hom) (fun v hv => ⟨hb v hv, hs o hom v hv⟩)
          exact ⟨BP.mono (h := bd _ m1) (by decide), BP.mono (h := bd _ m2) (by decide)⟩
        · cases h
      have tk : ∀ j, insAllV ((piecesOf (cutsW ws w)).take j) (insAllV ((ws.take i).flatMap fun w => piecesOf (cutsW ws w)) []) = insAllV (((ws.take i).flatMap fun w => piecesOf (cutsW ws w)) ++ (piecesOf (cutsW ws w)).take j) [] := fun j => insAllV_append.symm
      have fin : insAllV ((ws.take (i + 1)).flatMap fun w => piecesOf (cutsW ws w)) [] = insAllV (piecesOf (cutsW ws w)) (insAllV ((ws.take i).flatMap fun w => piecesOf (cutsW ws w)) []) := by
        rw [List.take_add_one, ei, List.flatMap_append, insAllV_append]; simp
      have lB : (insAllV ((ws.take i).flatMap fun w => piecesOf (cutsW ws w)) []).length ≤ 300 * i := by
        have := len_allV (ps := (ws.take i).flatMap fun w => piecesOf (cutsW ws w)) (acc := [])
        simp only [List.length_nil] at this; omega
      have sA : SrtV (insAllV ((ws.take i).flatMap fun w => piecesOf (cutsW ws w)) []) := srt_allV List.Pairwise.nil
      rw [fin]
      generalize insAllV ((ws.take i).flatMap fun w => piecesOf (cutsW ws w)) [] = A at *
      simp only [gz7]
      refine ⟨d, ws, w, rfl, hd.ext x1, hz, hb w hw, fun v hv => ⟨hb v hv, hs w hw v hv⟩, fun q2 S2 x2 hq2 hq22 => ?_⟩
      have x12 : Ext0 S S2 := fun a o e => x2 a o (x1 a o e)
      have bd := cuts_bd (hb w hw) (fun v hv => ⟨hb v hv, hs w hw v hv⟩)
      have ln := cuts_len ws w
      generalize cutsW ws w = cs at *
      have qq : q ≠ q2 := fun e => by rw [← e, hq1] at hq2; cases hq2
      have hq2q : S2 q = some (.lst (A.map wlD)) := x2 _ _ hq1
      simp only [gz7, ML.q_iZp, hq22, olP_lst, cut_tail, zip_pieces]
      refine wfor_inv (fun j σ S' => @KP ⟨(∃ c, σ = [some d, some (.ref q), some (wlD w), some (.ref q2), c]) ∧ Ext0 S S' ∧ S' q2 = some (.lst (cs.map spD)) ∧ S' q = some (.lst ((insAllV ((piecesOf cs).take j) A).map wlD))⟩) ⟨⟨_, rfl⟩, x12, hq22, hq2q⟩ ?_ ?_
      · rintro j y σ S3 hy ⟨⟨c, rfl⟩, x3, hq3, hA3⟩
        rw [List.getElem?_map] at hy
        cases ej : (piecesOf cs)[j]? with
        | none => rw [ej] at hy; cases hy
        | some p =>
          rw [ej] at hy; cases hy
          have hp := List.mem_of_getElem? ej
          have hj := (List.getElem?_eq_some_iff.mp ej).1
          have lp := pieces_len cs
          obtain ⟨m1, m2⟩ := pieces_mem hp
          have lC := len_allV (ps := (piecesOf cs).take j) (acc := A)
          rw [List.length_take] at lC
          refine ⟨by simp only [gz7, hq3, olP_lst, cut_tail, and_self], ?_⟩
          simp only [gz7]
          refine ⟨q, insAllV ((piecesOf cs).take j) A, p, rfl, hA3, by omega, srt_allV sA, ⟨BP.mono (h := bd _ m1) (by decide), BP.mono (h := bd _ m2) (by decide)⟩, fun v hv => ?_, ?_⟩
          · rcases mem_allV.mp hv with h | h
            · obtain ⟨n1, n2⟩ := pieces_mem (List.mem_of_mem_take h)
              exact ⟨BP.mono (h := bd _ n1) (by decide), BP.mono (h := bd _ n2) (by decide)⟩
            · exact mA v h
          · simp only [gz7]
            refine KP.mk ⟨⟨_, rfl⟩, ext _ _ x3, by rw [put_ne (Ne.symm qq)]; exact hq3, ?_⟩
            rw [put_same, List.take_add_one, ej, insAllV_append]; rfl
      · rintro σ S3 ⟨⟨c, rfl⟩, x3, hq3, hA3⟩
        rw [List.length_map, List.take_length] at hA3
        refine ⟨by simp only [gz7, hq3, olP_lst, cut_tail, and_self], ?_⟩
        simp only [gz7]
        exact KP.mk ⟨⟨_, _, _, rfl⟩, x3, hA3⟩
  · rintro σ S1 ⟨⟨a, b, c, rfl⟩, x1, hq1⟩
    rw [List.length_map, List.take_length] at hq1
    have eP : insAllV (ws.flatMap fun w => piecesOf (cutsW ws w)) [] = partedW ws := rfl
    rw [eP] at hq1
    refine ⟨hG _ (hd.ext x1), ?_⟩
    simp only [gz7, hq1, olP_lst, List.length_map]
    refine ⟨fun h => ?_, fun h => ?_⟩
    · simp only [gz7, hq1, olP_lst, List.length_map]
      exact k1 (by omega) S1 x1
    · simp only [gz7, hq1, olP_lst, List.length_map]
      exact k2 (by omega) S1 x1
theorem anyU_app {i : Nat} {z : Int} {ws : List UW} {v : UW} (h : (∀ w ∈ ws, ult w.1 w.2) ∧ (∀ w ∈ ws, WOk (z + 1) w) ∧ ws.length ≤ i) (hu : ult v.1 v.2) (hk : WOk (z + 1) v) : (∀ w ∈ ws ++ [v], ult w.1 w.2) ∧ (∀ w ∈ ws ++ [v], WOk (z + 1) w) ∧ (ws ++ [v]).length ≤ i + 1 := by
  refine ⟨fun w hw => ?_, fun w hw => ?_, by rw [List.length_append]; have := h.2.2; simp only [List.length_cons, List.length_nil]; omega⟩
  · rcases List.mem_append.mp hw with y | y
    · exact h.1 w y
    · rw [List.mem_singleton.mp y]; exact hu
  · rcases List.mem_append.mp hw with y | y
    · exact h.2.1 w y
    · rw [List.mem_singleton.mp y]; exact hk
theorem r_uany : ∀ ds S Q E, FL.sp_uany ds S Q E → b_uany (mends Q E) (mstart 4 ds) S := by
  rintro _ S Q E ⟨p, c, n, most, size, rfl, hp, hn, hm, s0, s1, k⟩
  unfold b_uany
  simp only [ML.q_mstart, ML.q_mends, List.map_cons, List.map_nil, List.replicate, List.cons_append, List.nil_append]
  simp only [gz7]
  intro q hq
  have qp : q ≠ p := fun z => by rw [z, hp] at hq; cases hq
  refine t_takeA (by rw [put_ne (Ne.symm qp)]; exact hp) (by omega) (by omega) (by omega) fun tr c1 S1 t0 t1 hp1 e1 => ?_
  have st : ∀ (S1 S2 : Sto) (ws : List UW), (∀ a, a ≠ p → S2 a = S1 a) → (S1 q = some (.lst (ws.map uwD)) ∧ ∀ x o, x ≠ p → S x = some o → S1 x = some o) → (S2 q = some (.lst (ws.map uwD)) ∧ ∀ x o, x ≠ p → S x = some o → S2 x = some o) :=
    fun S1 S2 ws h ⟨h1, h2⟩ => ⟨(h q qp).trans h1, fun x o hx e => (h x hx).trans (h2 x o hx e)⟩
  have k1 := st (put S q (.lst [])) S1 [] e1 ⟨put_same, fun x o hx e => by rw [put_ne (sne e hq)]; exact e⟩
  simp only [gz7]
  refine ⟨by omega, ?_⟩
  refine rng_inv (fun i σ S' => @KP ⟨∃ (ws : List UW) (c' : Int) (n' : Nat) (a b e : Option D), σ = [some (.ref p), some (.int most), some (.int size), some (.ref q), a, b, e] ∧ ((∀ w ∈ ws, ult w.1 w.2) ∧ (∀ w ∈ ws, WOk (size + 1) w) ∧ ws.length ≤ i) ∧ n' ≤ n + 1 + 8 * i ∧ S' p = some (rowO c' n') ∧ (S' q = some (.lst (ws.map uwD)) ∧ ∀ x o, x ≠ p → S x = some o → S' x = some o)⟩) ?_ ?_ ?_
  · exact KP.mk ⟨[], c1, n + 1, _, _, _, rfl, ⟨by simp, by simp, Nat.zero_le _⟩, by omega, hp1, k1⟩
  · rintro i σ S1 hi ⟨ws, c2, n2, a, b, e, rfl, dr, hn2, hp1, h1⟩
    have li : i ≤ 100 := by omega
    simp only [gz7]
    refine t_takeA hp1 s0 (by omega) (by omega) fun x1 c3 S2 x10 x11 hp2 e2 => ?_
    have h2 := st _ _ _ e2 h1
    simp only [gz7]
    refine t_takeA hp2 s0 (by omega) (by omega) fun y1 c4 S3 y10 y11 hp3 e3 => ?_
    have h3 := st _ _ _ e3 h2
    simp only [gz7]
    refine t_takeA hp3 s0 (by omega) (by omega) fun x2 c5 S4 x20 x21 hp4 e4 => ?_
    have h4 := st _ _ _ e4 h3
    simp only [gz7]
    refine t_takeA hp4 s0 (by omega) (by omega) fun y2 c6 S5 y20 y21 hp5 e5 => ?_
    have h5 := st _ _ _ e5 h4
    simp only [gz7]
    refine jp (fun (σ : MSt) (S' : Sto) => ∃ (u : U2) (c' : Int) (n' : Nat), σ = [some (.ref p), some (.int most), some (.int size), some (.ref q), some (.int (i : Nat)), some (uD u), some (uD (x2, y2))] ∧ UOk (size + 1) u ∧ n' ≤ n + 1 + 8 * i + 7 ∧ S' p = some (rowO c' n') ∧ (S' q = some (.lst (ws.map uwD)) ∧ ∀ x o, x ≠ p → S x = some o → S' x = some o)) ?_ ?_
    · have stay : ∀ (S6 : Sto) (c' : Int) (n' : Nat), n' ≤ n + 1 + 8 * i + 7 → S6 p = some (rowO c' n') → (S6 q = some (.lst (ws.map uwD)) ∧ ∀ x o, x ≠ p → S x = some o → S6 x = some o) → ∃ (u : U2) (c' : Int) (n' : Nat), [some (D.ref p), some (.int most), some (.int size), some (.ref q), some (.int (i : Nat)), some (uD (x1, y1)), some (uD (x2, y2))] = [some (.ref p), some (.int most), some (.int size), some (.ref q), some (.int (i : Nat)), some (uD u), some (uD (x2, y2))] ∧ UOk (size + 1) u ∧ n' ≤ n + 1 + 8 * i + 7 ∧ S6 p = some (rowO c' n') ∧ (S6 q = some (.lst (ws.map uwD)) ∧ ∀ x o, x ≠ p → S x = some o → S6 x = some o) :=
        fun S6 c' n' a1 a2 a3 => ⟨(x1, y1), c', n', rfl, ⟨by simp only; omega, by simp only; omega, by simp only; omega, by simp only; omega⟩, a1, a2, a3⟩
      simp only [gz7, look_ref h5.1, eqOk_luw0, deq_luw0]
      refine ⟨fun he => ?_, fun he => ?_⟩
      · have hlen : 0 < ws.length := List.length_pos_iff.mpr (by simpa using he)
        simp only [gz7]
        refine t_takeA hp5 (by decide) (by decide) (by omega) fun g c7 S6 g0 g1 hp6 e6 => ?_
        have h6 := st _ _ _ e6 h5
        simp only [gz7]
        refine ⟨fun hg => ?_, fun hg => ?_⟩
        · simp only [gz7, h6.1]
          have lw := dr.2.2
          refine t_takeA hp6 (by omega) (by omega) (by omega) fun r c8 S7 r0 r1 hp7 e7 => ?_
          have h7 := st _ _ _ e7 h6
          obtain ⟨w, hw, ew⟩ := ixL_map (f := uwD) r0 r1
          have ok := dr.2.1 w hw
          simp only [gz7, h7.1, ew]
          refine t_takeA hp7 (by decide) (by decide) (by omega) fun r2 c9 S8 r20 r21 hp8 e8 => ?_
          have h8 := st _ _ _ e8 h7
          obtain ⟨v, hv, ev⟩ : ∃ v : U2, UOk (size + 1) v ∧ ixL [uD w.1, uD w.2] r2 = some (uD v) := by
            rcases (by omega : r2 = 0 ∨ r2 = 1) with rfl | rfl
            · exact ⟨w.1, ok.f, rfl⟩
            · exact ⟨w.2, ok.s, rfl⟩
          simp only [gz7, ev]
          exact ⟨v, _, _, rfl, hv, by omega, hp8, h8⟩
        · simp only [gz7]
          exact stay _ _ _ (by omega) hp6 h6
      · simp only [gz7]
        exact stay _ _ _ (by omega) hp5 h5
    · rintro σ S6 ⟨u, c7, n7, rfl, hu, hn7, hp6, h6⟩
      simp only [gz7]
      obtain ⟨u1, u2, u3, u4⟩ := hu
      refine jf (fun (σ : MSt) (S' : Sto) => ∃ (v : U2) (c' : Int) (n' : Nat), σ = [some (.ref p), some (.int most), some (.int size), some (.ref q), some (.int (i : Nat)), some (uD u), some (uD v)] ∧ u ≠ v ∧ UOk (size + 1) v ∧ n' ≤ n + 1 + 8 * i + 8 ∧ S' p = some (rowO c' n') ∧ (S' q = some (.lst (ws.map uwD)) ∧ ∀ x o, x ≠ p → S x = some o → S' x = some o)) (fun h4 => ?_) (fun h4 => ?_) ?_
      · have hx : u.1 = x2 ∧ u.2 = y2 := by have := h4; simp only [Prod.ext_iff] at this; exact this
        simp only [gz7]
        refine t_takeA hp6 (by decide) (by decide) (by omega) fun g c8 S7 g0 g1 hp7 e7 => ?_
        have h7 := st _ _ _ e7 h6
        simp only [gz7]
        exact ⟨(u.1 + 1 + g, u.2), _, _, rfl, (fun e => by have := congrArg Prod.fst e; simp only at this; omega), ⟨by simp only; omega, by simp only; omega, by simp only; omega, by simp only; omega⟩, by omega, hp7, h7⟩
      · simp only [gz7]
        exact ⟨(x2, y2), _, _, rfl, h4, ⟨by simp only; omega, by simp only; omega, by simp only; omega, by simp only; omega⟩, by omega, hp6, h6⟩
      · rintro σ S8 ⟨v, c8, n8, rfl, ne, hv, hn8, hp8, h8⟩
        simp only [gz7, h8.1, olP_lst]
        have hu' : UOk (size + 1) u := ⟨u1, u2, u3, u4⟩
        have ll : (ws.map uwD).length < sizeLine := by rw [List.length_map, sizeLine_eq]; have := dr.2.2; omega
        simp only [gz7, h8.1, isLst_ref h8.1, olP_lst, List.length_map]
        refine ⟨by rw [sizeLine_eq]; have := dr.2.2; omega, ?_⟩
        have el : ws.map uwD ++ [D.tup [uD (if ult v u then v else u), uD (if ult u v then v else u)]] = (ws ++ [(if ult v u then v else u, if ult u v then v else u)]).map uwD := by rw [List.map_append]; rfl
        have up : ult (if ult v u then v else u) (if ult u v then v else u) := by
          rcases ult_tri ne with y | y
          · simp only [if_pos y, if_neg (ult_asymm y)]; exact y
          · simp only [if_pos y, if_neg (ult_asymm y)]; exact y
        have ok : WOk (size + 1) (if ult v u then v else u, if ult u v then v else u) := by
          rcases ult_tri ne with y | y
          · simp only [if_pos y, if_neg (ult_asymm y)]; exact ⟨hu', hv⟩
          · simp only [if_pos y, if_neg (ult_asymm y)]; exact ⟨hv, hu'⟩
        refine KP.mk ⟨ws ++ [(if ult v u then v else u, if ult u v then v else u)], c8, n8, _, _, _, rfl, anyU_app dr up ok, by omega, by rw [put_ne (Ne.symm qp)]; exact hp8, by rw [put_same, el], fun x o hx e => ?_⟩
        rw [put_ne (fun z => by rw [z, hq] at e; cases e)]; exact h8.2 x o hx e
  · rintro σ S1 ⟨ws, c2, n2, a, b, e, rfl, dr, hn2, hp1, h1⟩
    have ti : ((tr).toNat : Int) = tr := by omega
    have lw : ws.length ≤ most := by have := dr.2.2; omega
    have hn2' : n2 ≤ n + 900 := by omega
    simp only [gz7]
    refine jp (fun (σ : MSt) (S' : Sto) => ∃ (a b e : Option D) (vs : List UW) (c' : Int) (n' : Nat), σ = [some (.ref p), some (.int most), some (.int size), some (.ref q), a, b, e] ∧ AnyU most size vs ∧ n' ≤ n + 1000 ∧ S' p = some (rowO c' n') ∧ (S' q = some (.lst (vs.map uwD)) ∧ ∀ x o, x ≠ p → S x = some o → S' x = some o)) ?_ ?_
    · have stay : ∀ (S6 : Sto) (c' : Int) (n' : Nat), n' ≤ n + 1000 → S6 p = some (rowO c' n') → (S6 q = some (.lst (ws.map uwD)) ∧ ∀ x o, x ≠ p → S x = some o → S6 x = some o) → ∃ (a' b' e' : Option D) (vs : List UW) (c' : Int) (n' : Nat), [some (D.ref p), some (.int most), some (.int size), some (.ref q), a, b, e] = [some (.ref p), some (.int most), some (.int size), some (.ref q), a', b', e'] ∧ AnyU most size vs ∧ n' ≤ n + 1000 ∧ S6 p = some (rowO c' n') ∧ (S6 q = some (.lst (vs.map uwD)) ∧ ∀ x o, x ≠ p → S x = some o → S6 x = some o) :=
        fun S6 c' n' a1 a2 a3 => ⟨_, _, _, ws, c', n', rfl, ⟨dr.1, dr.2.1, by omega, ws, lw, fun _ => Iff.rfl⟩, a1, a2, a3⟩
      simp only [gz7, look_ref h1.1, eqOk_luw0, deq_luw0]
      refine ⟨fun he => ?_, fun he => ?_⟩
      · have hlen : 0 < ws.length := List.length_pos_iff.mpr (by simpa using he)
        simp only [gz7]
        refine t_takeA hp1 (by decide) (by decide) (by omega) fun g c7 S6 g0 g1 hp6 e6 => ?_
        have h6 := st _ _ _ e6 h1
        simp only [gz7]
        refine ⟨fun hg => ?_, fun hg => ?_⟩
        · simp only [gz7, h6.1, isLst_ref h6.1]
          refine t_takeA hp6 (by omega) (by omega) (by omega) fun r c8 S7 r0 r1 hp7 e7 => ?_
          have h7 := st _ _ _ e7 h6
          obtain ⟨w, hw, ew⟩ := ixL_map (f := uwD) r0 r1
          simp only [gz7, h7.1, ew, isLst_ref h7.1, olP_lst, List.length_map]
          refine ⟨by rw [sizeLine_eq]; omega, ?_⟩
          have el : ws.map uwD ++ [uwD w] = (ws ++ [w]).map uwD := by rw [List.map_append]; rfl
          have an := anyU_app ⟨dr.1, dr.2.1, Nat.le_refl _⟩ (dr.1 w hw) (dr.2.1 w hw)
          refine ⟨_, _, _, ws ++ [w], c8, n2 + 1 + 1, rfl, ⟨an.1, an.2.1, by have h := an.2.2; simp only [List.length_append, List.length_cons, List.length_nil] at h ⊢; omega, ws, lw, fun t => ?_⟩, by omega, by rw [put_ne (Ne.symm qp)]; exact hp7, by first | exact congrArg (fun z => some (MO.lst z)) el | (rw [put_same]; exact congrArg (fun z => some (MO.lst z)) el), fun x o hx e => ?_⟩
          · rw [List.mem_append, List.mem_singleton]
            exact ⟨fun z => z.elim id fun z => by rw [z]; exact hw, .inl⟩
          · rw [put_ne (fun z => by rw [z, hq] at e; cases e)]; exact h7.2 x o hx e
        · simp only [gz7]
          exact stay _ _ _ (by omega) hp6 h6
      · simp only [gz7]
        exact stay _ _ _ (by omega) hp1 h1
    · rintro σ S6 ⟨a, b, e, vs, c7, n7, rfl, an, hn7, hp6, h6⟩
      simp only [gz7]
      exact k vs q c7 n7 S6 an hn7 hq qp h6.2 hp6 h6.1
end FL
set_option maxRecDepth 100000
namespace Lk11
open PySem PySem.Spec L2 ML FL
structure UA (ws : List UW) : Prop where
  up : ∀ w ∈ ws, ult w.1 w.2
  ok : ∀ w ∈ ws, WOk 500 w
  len : ws.length ≤ 30
theorem UA.upA {ws : List UW} (h : UA ws) {s : Sc} (hs : ScOk s) : ∀ v ∈ pltW s ws, Up v := fun v hv => by
  obtain ⟨u, hu, rfl⟩ := List.mem_map.mp hv
  exact ⟨(ahead_af hs _ _).mpr ((ahead_ofU _ _).mpr (h.up u hu))⟩
theorem UA.bw {ws : List UW} (h : UA ws) {s : Sc} (hs : ScOk s) : ∀ v ∈ pltW s ws, BW v 400 := fun v hv => by
  obtain ⟨u, hu, rfl⟩ := List.mem_map.mp hv
  have ok := h.ok u hu
  exact (bw_afw hs ⟨ok.f.mono (by decide), ok.s.mono (by decide)⟩).mono (by decide)
theorem UA.sol {ws : List UW} (h : UA ws) {s : Sc} (hs : ScOk s) : ∀ w ∈ pltW s ws, ∀ v ∈ pltW s ws, solB w v := fun w hw v hv => by
  obtain ⟨a, ha, rfl⟩ := List.mem_map.mp hw
  obtain ⟨b, hb, rfl⟩ := List.mem_map.mp hv
  exact sol_bd hs (h.ok a ha) (h.ok b hb)
end Lk11
set_option maxRecDepth 100000
namespace Lk12
open PySem PySem.Spec L2 ML FL Lk11
def sp_law_spots : MSp := fun ds S Q _ => ∃ (p : Addr) (c : Int) (n : Nat) (s : Sc) (d : D) (ws : List UW), ds = [.ref p, scD s, d] ∧ S p = some (rowO c n) ∧ n < 2 ^ 50 ∧ ScOk s ∧ LstK S d (ws.map uwD) ∧ d ≠ .ref p ∧ ws.length ≤ 20 ∧ (∀ w ∈ ws, WOk 100 w) ∧
  ∀ (ts : List Pt) (c' : Int) (n' : Nat) (S' : Sto), (∀ t ∈ ts, BP t 250) → ts.length ≤ 40 → (∀ a o, a ≠ p → S a = some o → S' a = some o) → S' p = some (rowO c' n') → n' ≤ n + 200 → Q (.lst (ts.map spD)) S'
structure TSm (t : Told) : Prop where
  x1 : -10000 ≤ t.x
  x2 : t.x ≤ 10000
  y1 : -10000 ≤ t.y
  y2 : t.y ≤ 10000
  n1 : 1 ≤ t.n
  n2 : t.n ≤ 10
def tsP (s : Sc) (t : Told) : Pt := (Rat.divInt (t.x * s.t + s.x * t.n) (s.b * t.n), Rat.divInt (t.y * s.t + s.y * t.n) (s.b * t.n))
theorem ts_bd {s : Sc} (hs : ScOk s) {t : Told} (h : TSm t) : BP (tsP s t) 250 := by
  have t1 := hs.t1; have t2 := hs.t2; have b1 := hs.b1; have b2 := hs.b2; have x1 := hs.x1; have x2 := hs.x2; have y1 := hs.y1; have y2 := hs.y2
  have h1 := h.x1; have h2 := h.x2; have h3 := h.y1; have h4 := h.y2; have h5 := h.n1; have h6 := h.n2
  have nx : (t.x * s.t + s.x * t.n).natAbs < 2 ^ 200 := by
    have a : (t.x * s.t).natAbs < 2 ^ 150 := natAbs_mul_lt (a := 60) (b := 90) (by omega) (by omega)
    have b : (s.x * t.n).natAbs < 2 ^ 150 := natAbs_mul_lt (a := 110) (b := 40) (by omega) (by omega)
    omega
  have ny : (t.y * s.t + s.y * t.n).natAbs < 2 ^ 200 := by
    have a : (t.y * s.t).natAbs < 2 ^ 150 := natAbs_mul_lt (a := 60) (b := 90) (by omega) (by omega)
    have b : (s.y * t.n).natAbs < 2 ^ 150 := natAbs_mul_lt (a := 110) (b := 40) (by omega) (by omega)
    omega
  have nb : (s.b * t.n).natAbs < 2 ^ 200 := by
    have : (s.b * t.n).natAbs < 2 ^ 150 := natAbs_mul_lt (a := 110) (b := 40) (by omega) (by omega)
    omega
  exact ⟨Nat.le_trans (sz_divInt (n := 200) (by decide) nx nb) (by decide), Nat.le_trans (sz_divInt (n := 200) (by decide) ny nb) (by decide)⟩
def sp_law_covered : MSp := fun ds S Q _ => ∃ (d : D) (ws : List Wl) (t : Pt), ds = [d, spD t] ∧ (LstK S d (ws.map wlD) ∨ d = .tup (ws.map wlD)) ∧ ws.length ≤ 100 ∧ (∀ w ∈ ws, BW w 400) ∧ BP t 250 ∧ Q (.bl (decide (∃ w ∈ ws, liesOn w t))) S
end Lk12
set_option maxRecDepth 100000
set_option maxHeartbeats 0
namespace Lk12
open PySem PySem.Spec L2 ML
open PyProof.Rows hiding St
structure Txt (K : PySem.W.Frag) (mg : Str → Option Value) : Prop where
  f_abs : mg "abs" = none
  f_enumerate : mg "enumerate" = none
  f_int : mg "int" = none
  f_len : mg "len" = none
  f_list : mg "list" = none
  f_max : mg "max" = none
  f_min : mg "min" = none
  f_range : mg "range" = none
  f_tuple : mg "tuple" = none
  f_zip : mg "zip" = none
  c_MOST_WALLS : ∃ t, mg "MOST_WALLS" = some (.int 40 t)
  g_TooMany : mg "TooMany" = some (.ref (He.ga K "TooMany"))
section
variable {P : Program} {w : World} {K : PySem.W.Frag} {mg : Str → Option Value} {base : Heap}
theorem sc_TooMany_init : FnScope ["self", "count"] ["self", "count"] (defScope s_TooMany_init) := ⟨rfl, rfl, rfl, by decide +kernel, rfl, by decide +kernel, by decide +kernel⟩
theorem dx_TooMany {f : Addr} {cdv : Value} {A : Around} {outer : List Env} {s : Shared} {H : Hp} {E : XK} : PSs (cxM P w K mg base ["self", "count"] "TooMany.__init__" s_TooMany_init f cdv A outer s H E) (defBody s_TooMany_init) (tOst K "count" (tVar 0) (tVar 1)) :=
  pss_one (ps_ost (pe_var (i := 0) rfl (Or.inl rfl)) (pe_var (i := 1) rfl (Or.inl rfl)))
theorem sc_divisor : FnScope ["one", "other"] ["one", "other"] (defScope s_divisor) := ⟨rfl, rfl, rfl, by decide +kernel, rfl, by decide +kernel, by decide +kernel⟩
abbrev b_divisor : MS := FL.b_divisor
theorem l_divisor : ∀ ds S Q E, FL.sp_divisor ds S Q E → ds.length = ["one", "other"].length := FL.l_divisor
theorem r_divisor : ∀ ds S Q E, FL.sp_divisor ds S Q E → b_divisor (mends Q E) (mstart 0 ds) S := FL.r_divisor
theorem d_divisor {f : Addr} {cdv : Value} {A : Around} {outer : List Env} {s : Shared} {H : Hp} {E : XK} (T : Txt K mg)  (hr : Room 0 (cxM P w K mg base ["one", "other"] "divisor" s_divisor f cdv A outer s H E).A) :
    PSs (cxM P w K mg base ["one", "other"] "divisor" s_divisor f cdv A outer s H E) (defBody s_divisor) (upS K (wM E) b_divisor) :=
  (scons (swhile poM (tcmp (op_neA hr.units) ol_ne (ev 1) eint) (sone (spar (i := 0) (j := 1) rfl sc_divisor.nd (acons (ev 1) (acons (emod (ev 0) (ev 1)) anil)))))
    (sone (sret (ev 0))))
theorem sc_is_less : FnScope ["one", "other"] ["one", "other"] (defScope s_is_less) := ⟨rfl, rfl, rfl, by decide +kernel, rfl, by decide +kernel, by decide +kernel⟩
abbrev b_is_less : MS := FL.b_is_less
theorem l_is_less : ∀ ds S Q E, FL.sp_is_less ds S Q E → ds.length = ["one", "other"].length := FL.l_is_less
theorem r_is_less : ∀ ds S Q E, FL.sp_is_less ds S Q E → b_is_less (mends Q E) (mstart 0 ds) S := FL.r_is_less
theorem d_is_less {f : Addr} {cdv : Value} {A : Around} {outer : List Env} {s : Shared} {H : Hp} {E : XK} (T : Txt K mg)  (hr : Room 0 (cxM P w K mg base ["one", "other"] "is_less" s_is_less f cdv A outer s H E).A) :
    PSs (cxM P w K mg base ["one", "other"] "is_less" s_is_less f cdv A outer s H E) (defBody s_is_less) (upS K (wM E) b_is_less) :=
  (sone (sret (ecmp (oa_lt (u65 hr)) la_lt (emul (eix (ev 0) eint) (eix (ev 1) eint)) (emul (eix (ev 1) eint) (eix (ev 0) eint)))))
theorem sc_law_cell_at : FnScope ["_law_script", "_law_k"] ["_law_script", "_law_k"] (defScope s_law_cell_at) := ⟨rfl, rfl, rfl, by decide +kernel, rfl, by decide +kernel, by decide +kernel⟩
abbrev b_law_cell_at : MS := FL.b_cell_at
theorem l_law_cell_at : ∀ ds S Q E, FL.sp_cell_at ds S Q E → ds.length = ["_law_script", "_law_k"].length := FL.l_cell_at
theorem r_law_cell_at : ∀ ds S Q E, FL.sp_cell_at ds S Q E → b_law_cell_at (mends Q E) (mstart 0 ds) S := FL.r_cell_at
theorem d_law_cell_at {f : Addr} {cdv : Value} {A : Around} {outer : List Env} {s : Shared} {H : Hp} {E : XK} (T : Txt K mg)  (hr : Room 0 (cxM P w K mg base ["_law_script", "_law_k"] "_law_cell_at" s_law_cell_at f cdv A outer s H E).A) :
    PSs (cxM P w K mg base ["_law_script", "_law_k"] "_law_cell_at" s_law_cell_at f cdv A outer s H E) (defBody s_law_cell_at) (upS K (wM E) b_law_cell_at) :=
  (scons (sif (tcmp (oa_lt (u65 hr)) la_lt (ev 1) (eblt call_len cl_len T.f_len (acons (ev 0) anil) PySem.boot_len)) (sone (sret (eix (ev 0) (ev 1)))) snil)
    (sone (sret eint)))
theorem sc_law_take : FnScope ["_law_row", "_law_base", "_law_rest", "_law_number"] ["_law_row", "_law_base"] (defScope s_law_take) := ⟨rfl, rfl, rfl, by decide +kernel, rfl, by decide +kernel, by decide +kernel⟩
abbrev b_law_take : MS := FL.b_take
theorem l_law_take : ∀ ds S Q E, FL.sp_take ds S Q E → ds.length = ["_law_row", "_law_base"].length := FL.l_take
theorem r_law_take : ∀ ds S Q E, FL.sp_take ds S Q E → b_law_take (mends Q E) (mstart 2 ds) S := FL.r_take
theorem d_law_take {f : Addr} {cdv : Value} {A : Around} {outer : List Env} {s : Shared} {H : Hp} {E : XK} (T : Txt K mg)  (hr : Room 0 (cxM P w K mg base ["_law_row", "_law_base", "_law_rest", "_law_number"] "_law_take" s_law_take f cdv A outer s H E).A) :
    PSs (cxM P w K mg base ["_law_row", "_law_base", "_law_rest", "_law_number"] "_law_take" s_law_take f cdv A outer s H E) (defBody s_law_take) (upS K (wM E) b_law_take) :=
  (scons (sasg (eadd (eix (ev 0) eint) eint) (gsb (ev 0) eint))
    (scons (sif (tcmp (oa_ge (u65 hr)) la_ge (eix (ev 0) eint) (epow eint eint)) (scons (sset (i := 2) sc_law_take.nd (esub (eix (ev 0) eint) (epow eint eint)))
    (scons (sasg (eadd (epow eint eint) (ediv (ev 2) (ev 1))) (gsb (ev 0) eint))
    (sone (sret (emod (ev 2) (ev 1)))))) snil)
    (scons (sset (i := 3) sc_law_take.nd (emod (eadd (eadd (eadd (emul (eix (ev 0) eint) eint) (emul (emul eint (eix (ev 0) eint)) (eix (ev 0) eint))) (emul eint (eix (ev 0) eint))) eint) eint))
    (scons (sset (i := 3) sc_law_take.nd (emod (eadd (eadd (emul (ev 3) (ev 3)) (emul eint (ev 3))) (eix (ev 0) eint)) eint))
    (sone (sret (emod (ediv (ev 3) eint) (ev 1))))))))
theorem sc_law_low : FnScope ["_law_top", "_law_bottom", "_law_one", "_law_other"] ["_law_top", "_law_bottom"] (defScope s_law_low) := ⟨rfl, rfl, rfl, by decide +kernel, rfl, by decide +kernel, by decide +kernel⟩
abbrev b_law_low : MS := FL.b_low
theorem l_law_low : ∀ ds S Q E, FL.sp_low ds S Q E → ds.length = ["_law_top", "_law_bottom"].length := FL.l_low
theorem r_law_low : ∀ ds S Q E, FL.sp_low ds S Q E → b_law_low (mends Q E) (mstart 2 ds) S := FL.r_low
theorem d_law_low {f : Addr} {cdv : Value} {A : Around} {outer : List Env} {s : Shared} {H : Hp} {E : XK} (T : Txt K mg)  (hr : Room 0 (cxM P w K mg base ["_law_top", "_law_bottom", "_law_one", "_law_other"] "_law_low" s_law_low f cdv A outer s H E).A) :
    PSs (cxM P w K mg base ["_law_top", "_law_bottom", "_law_one", "_law_other"] "_law_low" s_law_low f cdv A outer s H E) (defBody s_law_low) (upS K (wM E) b_law_low) :=
  (scons (sset (i := 2) sc_law_low.nd (eblt call_abs cl_abs T.f_abs (acons (ev 0) anil)))
    (scons (sset (i := 3) sc_law_low.nd (eblt call_abs cl_abs T.f_abs (acons (ev 1) anil)))
    (scons (swhile poM (tcmp (op_neA hr.units) ol_ne (ev 3) eint) (sone (spar (i := 2) (j := 3) rfl sc_law_low.nd (acons (ev 3) (acons (emod (ev 2) (ev 3)) anil)))))
    (scons (sif (tcmp (oa_lt (u65 hr)) la_lt (ev 1) eint) (sone (sset (i := 2) sc_law_low.nd (eneg (ev 2)))) snil)
    (sone (sret (etup (acons (ediv (ev 0) (ev 2)) (acons (ediv (ev 1) (ev 2)) anil)))))))))
theorem sc_fraction : FnScope ["top", "bottom", "by"] ["top", "bottom"] (defScope s_fraction) := ⟨rfl, rfl, rfl, by decide +kernel, rfl, by decide +kernel, by decide +kernel⟩
abbrev b_fraction : MS := FL.b_fraction
theorem l_fraction : ∀ ds S Q E, FL.sp_low ds S Q E → ds.length = ["top", "bottom"].length := FL.l_fraction
theorem r_fraction : ∀ ds S Q E, FL.sp_low ds S Q E → b_fraction (mends Q E) (mstart 1 ds) S := FL.r_fraction
theorem d_fraction {f : Addr} {cdv : Value} {A : Around} {outer : List Env} {s : Shared} {H : Hp} {E : XK} (T : Txt K mg) (h_divisor : Has P w K mg base "divisor" ["one", "other"] 1 FL.sp_divisor) (hr : Room 1 (cxM P w K mg base ["top", "bottom", "by"] "fraction" s_fraction f cdv A outer s H E).A) :
    PSs (cxM P w K mg base ["top", "bottom", "by"] "fraction" s_fraction f cdv A outer s H E) (defBody s_fraction) (upS K (wM E) b_fraction) :=
  (scons (sif (tcmp (op_eqA hr.units) ol_eq (ev 1) eint) (sone snever) snil)
    (scons (sset (i := 2) sc_fraction.nd (ecall (h_divisor.mono (k := 1) (by decide)) hr tkM (acons (eblt call_abs cl_abs T.f_abs (acons (ev 0) anil)) (acons (eblt call_abs cl_abs T.f_abs (acons (ev 1) anil)) anil))))
    (scons (sif (tcmp (oa_lt (u65 hr)) la_lt (ev 1) eint) (sone (sset (i := 2) sc_fraction.nd (eneg (ev 2)))) snil)
    (sone (sret (etup (acons (ediv (ev 0) (ev 2)) (acons (ediv (ev 1) (ev 2)) anil))))))))
theorem sc_is_ahead : FnScope ["one", "other"] ["one", "other"] (defScope s_is_ahead) := ⟨rfl, rfl, rfl, by decide +kernel, rfl, by decide +kernel, by decide +kernel⟩
abbrev b_is_ahead : MS := FL.b_is_ahead
theorem l_is_ahead : ∀ ds S Q E, FL.sp_is_ahead ds S Q E → ds.length = ["one", "other"].length := FL.l_is_ahead
theorem r_is_ahead : ∀ ds S Q E, FL.sp_is_ahead ds S Q E → b_is_ahead (mends Q E) (mstart 0 ds) S := FL.r_is_ahead
theorem d_is_ahead {f : Addr} {cdv : Value} {A : Around} {outer : List Env} {s : Shared} {H : Hp} {E : XK} (T : Txt K mg) (h_is_less : Has P w K mg base "is_less" ["one", "other"] 1 FL.sp_is_less) (hr : Room 1 (cxM P w K mg base ["one", "other"] "is_ahead" s_is_ahead f cdv A outer s H E).A) :
    PSs (cxM P w K mg base ["one", "other"] "is_ahead" s_is_ahead f cdv A outer s H E) (defBody s_is_ahead) (upS K (wM E) b_is_ahead) :=
  (scons (sif (tcmp (op_neA hr.units) ol_ne (eix (ev 0) eint) (eix (ev 1) eint)) (sone (sret (ecall (h_is_less.mono (k := 1) (by decide)) hr tkM (acons (eix (ev 0) eint) (acons (eix (ev 1) eint) anil))))) snil)
    (sone (sret (ecall (h_is_less.mono (k := 1) (by decide)) hr tkM (acons (eix (ev 0) eint) (acons (eix (ev 1) eint) anil))))))
theorem sc_law_scale : FnScope ["_law_row", "_law_top", "_law_bottom", "_law_far"] ["_law_row"] (defScope s_law_scale) := ⟨rfl, rfl, rfl, by decide +kernel, rfl, by decide +kernel, by decide +kernel⟩
abbrev b_law_scale : MS := FL.b_scale
theorem l_law_scale : ∀ ds S Q E, FL.sp_scale ds S Q E → ds.length = ["_law_row"].length := FL.l_scale
theorem r_law_scale : ∀ ds S Q E, FL.sp_scale ds S Q E → b_law_scale (mends Q E) (mstart 3 ds) S := FL.r_scale
theorem d_law_scale {f : Addr} {cdv : Value} {A : Around} {outer : List Env} {s : Shared} {H : Hp} {E : XK} (T : Txt K mg) (h_law_take : Has P w K mg base "_law_take" ["_law_row", "_law_base"] 1 FL.sp_take) (hr : Room 1 (cxM P w K mg base ["_law_row", "_law_top", "_law_bottom", "_law_far"] "_law_scale" s_law_scale f cdv A outer s H E).A) :
    PSs (cxM P w K mg base ["_law_row", "_law_top", "_law_bottom", "_law_far"] "_law_scale" s_law_scale f cdv A outer s H E) (defBody s_law_scale) (upS K (wM E) b_law_scale) :=
  (scons (spar (i := 1) (j := 2) rfl sc_law_scale.nd (acons (eadd eint (ecall (h_law_take.mono (k := 1) (by decide)) hr tkM (acons (ev 0) (acons eint anil)))) (acons (eadd eint (ecall (h_law_take.mono (k := 1) (by decide)) hr tkM (acons (ev 0) (acons eint anil)))) anil)))
    (scons (sifJ (tcmp (op_eqA hr.units) ol_eq (ecall (h_law_take.mono (k := 1) (by decide)) hr tkM (acons (ev 0) (acons eint anil))) eint) (sone (spar (i := 1) (j := 2) rfl sc_law_scale.nd (acons (eadd eint (ecall (h_law_take.mono (k := 1) (by decide)) hr tkM (acons (ev 0) (acons (epow eint eint) anil)))) (acons (eadd eint (ecall (h_law_take.mono (k := 1) (by decide)) hr tkM (acons (ev 0) (acons (epow eint eint) anil)))) anil)))) snil)
    (scons (sset (i := 3) sc_law_scale.nd (eix (elstF (acons eint (acons (epow eint eint) anil))) (etyp call_int1 cl_int T.f_int (acons (ecmp (op_eqA hr.units) ol_eq (ecall (h_law_take.mono (k := 1) (by decide)) hr tkM (acons (ev 0) (acons eint anil))) eint) anil))))
    (sone (sret (etup (acons (ev 1) (acons (ev 2) (acons (emul (ev 3) (esub (ecall (h_law_take.mono (k := 1) (by decide)) hr tkM (acons (ev 0) (acons eint anil))) eint)) (acons (emul (ev 3) (esub (ecall (h_law_take.mono (k := 1) (by decide)) hr tkM (acons (ev 0) (acons eint anil))) eint)) anil))))))))))
theorem sc_law_spot : FnScope ["_law_scale_here", "_law_unit", "_law_top", "_law_bottom", "_law_x", "_law_y"] ["_law_scale_here", "_law_unit"] (defScope s_law_spot) := ⟨rfl, rfl, rfl, by decide +kernel, rfl, by decide +kernel, by decide +kernel⟩
abbrev b_law_spot : MS := FL.b_uspot
theorem l_law_spot : ∀ ds S Q E, FL.sp_uspot ds S Q E → ds.length = ["_law_scale_here", "_law_unit"].length := FL.l_uspot
theorem r_law_spot : ∀ ds S Q E, FL.sp_uspot ds S Q E → b_law_spot (mends Q E) (mstart 4 ds) S := FL.r_uspot
theorem d_law_spot {f : Addr} {cdv : Value} {A : Around} {outer : List Env} {s : Shared} {H : Hp} {E : XK} (T : Txt K mg) (h_law_low : Has P w K mg base "_law_low" ["_law_top", "_law_bottom"] 1 FL.sp_low) (hr : Room 1 (cxM P w K mg base ["_law_scale_here", "_law_unit", "_law_top", "_law_bottom", "_law_x", "_law_y"] "_law_spot" s_law_spot f cdv A outer s H E).A) :
    PSs (cxM P w K mg base ["_law_scale_here", "_law_unit", "_law_top", "_law_bottom", "_law_x", "_law_y"] "_law_spot" s_law_spot f cdv A outer s H E) (defBody s_law_spot) (upS K (wM E) b_law_spot) :=
  (scons (sasg (ev 0) (gtp rfl (gcn (gnm (i := 2) sc_law_spot.nd) (gcn (gnm (i := 3) sc_law_spot.nd) (gcn (gnm (i := 4) sc_law_spot.nd) (gcn (gnm (i := 5) sc_law_spot.nd) gnl))))))
    (sone (sret (etup (acons (ecall (h_law_low.mono (k := 1) (by decide)) hr tkM (acons (eadd (emul (eix (ev 1) eint) (ev 2)) (ev 4)) (acons (ev 3) anil))) (acons (ecall (h_law_low.mono (k := 1) (by decide)) hr tkM (acons (eadd (emul (eix (ev 1) eint) (ev 2)) (ev 5)) (acons (ev 3) anil))) anil))))))
theorem sc_law_any : FnScope ["_law_row", "_law_most", "_law_size", "_law_shuts", "_law_turn", "_law_one", "_law_other"] ["_law_row", "_law_most", "_law_size"] (defScope s_law_any) := ⟨rfl, rfl, rfl, by decide +kernel, rfl, by decide +kernel, by decide +kernel⟩
abbrev b_law_any : MS := FL.b_uany
theorem l_law_any : ∀ ds S Q E, FL.sp_uany ds S Q E → ds.length = ["_law_row", "_law_most", "_law_size"].length := FL.l_uany
theorem r_law_any : ∀ ds S Q E, FL.sp_uany ds S Q E → b_law_any (mends Q E) (mstart 4 ds) S := FL.r_uany
theorem d_law_any {f : Addr} {cdv : Value} {A : Around} {outer : List Env} {s : Shared} {H : Hp} {E : XK} (T : Txt K mg) (h_law_take : Has P w K mg base "_law_take" ["_law_row", "_law_base"] 1 FL.sp_take) (hr : Room 1 (cxM P w K mg base ["_law_row", "_law_most", "_law_size", "_law_shuts", "_law_turn", "_law_one", "_law_other"] "_law_any" s_law_any f cdv A outer s H E).A) :
    PSs (cxM P w K mg base ["_law_row", "_law_most", "_law_size", "_law_shuts", "_law_turn", "_law_one", "_law_other"] "_law_any" s_law_any f cdv A outer s H E) (defBody s_law_any) (upS K (wM E) b_law_any) :=
  (scons (sset (i := 3) sc_law_any.nd (elst anil))
    (scons (sfor poM rfl (ir1 T.f_range (acons (ecall (h_law_take.mono (k := 1) (by decide)) hr tkM (acons (ev 0) (acons (eadd (ev 1) eint) anil))) anil)) (gnm (i := 4) sc_law_any.nd) (scons (sset (i := 5) sc_law_any.nd (etup (acons (ecall (h_law_take.mono (k := 1) (by decide)) hr tkM (acons (ev 0) (acons (ev 2) anil))) (acons (ecall (h_law_take.mono (k := 1) (by decide)) hr tkM (acons (ev 0) (acons (ev 2) anil))) anil))))
    (scons (sset (i := 6) sc_law_any.nd (etup (acons (ecall (h_law_take.mono (k := 1) (by decide)) hr tkM (acons (ev 0) (acons (ev 2) anil))) (acons (ecall (h_law_take.mono (k := 1) (by decide)) hr tkM (acons (ev 0) (acons (ev 2) anil))) anil))))
    (scons (sJ (sif (L2.PW.pt (wand (tcmp (op_neA hr.units) ol_ne (ev 3) (elstF anil)) (wand1 (tcmp (op_eqA hr.units) ol_eq (ecall (h_law_take.mono (k := 1) (by decide)) hr tkM (acons (ev 0) (acons eint anil))) eint)))) (sone (sset (i := 5) sc_law_any.nd (eix (eix (ev 3) (ecall (h_law_take.mono (k := 1) (by decide)) hr tkM (acons (ev 0) (acons (eblt call_len cl_len T.f_len (acons (ev 3) anil) PySem.boot_len) anil)))) (ecall (h_law_take.mono (k := 1) (by decide)) hr tkM (acons (ev 0) (acons eint anil)))))) snil))
    (scons (sifJ (tcmp (op_eqA hr.units) ol_eq (ev 5) (ev 6)) (sone (sset (i := 6) sc_law_any.nd (etup (acons (eadd (eadd (eix (ev 5) eint) eint) (ecall (h_law_take.mono (k := 1) (by decide)) hr tkM (acons (ev 0) (acons eint anil)))) (acons (eix (ev 5) eint) anil))))) snil)
    (sone (sexpr (emt PySem.F.slot_list_append PySem.F.type_list_append mt_append ml_append (ev 3) (acons (etup (acons (eblt (ca_min rfl (u65 hr)) cl_minA T.f_min (acons (ev 5) (acons (ev 6) anil))) (acons (eblt (ca_max rfl (u65 hr)) cl_maxA T.f_max (acons (ev 5) (acons (ev 6) anil))) anil))) anil)))))))))
    (scons (sJ (sif (L2.PW.pt (wand (tcmp (op_neA hr.units) ol_ne (ev 3) (elstF anil)) (wand1 (tcmp (op_eqA hr.units) ol_eq (ecall (h_law_take.mono (k := 1) (by decide)) hr tkM (acons (ev 0) (acons eint anil))) eint)))) (sone (sexpr (emt PySem.F.slot_list_append PySem.F.type_list_append mt_append ml_append (ev 3) (acons (eix (ev 3) (ecall (h_law_take.mono (k := 1) (by decide)) hr tkM (acons (ev 0) (acons (eblt call_len cl_len T.f_len (acons (ev 3) anil) PySem.boot_len) anil)))) anil)))) snil))
    (sone (sret (ev 3))))))
theorem sc_law_spots : FnScope ["_law_row", "_law_scale_here", "_law_shuts", "_law_told", "_law_turn", "_law_first", "_law_second", "_law_below", "_law_part", "_law_x", "_law_y", "_law_top", "_law_bottom", "_law_far", "_law_up", "_law_n"] ["_law_row", "_law_scale_here", "_law_shuts"] (defScope s_law_spots) := ⟨rfl, rfl, rfl, by decide +kernel, rfl, by decide +kernel, by decide +kernel⟩
def b_law_spots : MS := (mSeq (mSet 3 (mComp (iR1 (mCons (mC (.int 4)) mNil)) (gNm 4) mYes (mTup (mCons (mCall FL.sp_take (mCons (mVar 0) (mCons (mC (.int 7)) mNil))) (mCons (mCall FL.sp_take (mCons (mVar 0) (mCons (mC (.int 7)) mNil))) (mCons (mC (.int 1)) mNil)))) [4]))
  (mSeq (mFor (iS (mVar 2)) (gTp 2 (gCn (gNm 5) (gCn (gNm 6) gNl))) (mSeq (mSet 7 (mOp rAdd (mC (.int 1)) (mCall FL.sp_take (mCons (mVar 0) (mCons (mC (.int 4)) mNil)))))
  (mSeq (mSet 8 (mCall FL.sp_take (mCons (mVar 0) (mCons (mOp rAdd (mVar 7) (mC (.int 2))) mNil))))
  (mSeq (mSet 9 (mOp rAdd (mOp rMul (mOp rIxM (mVar 5) (mC (.int 0))) (mOp rSub (mVar 7) (mVar 8))) (mOp rMul (mOp rIxM (mVar 6) (mC (.int 0))) (mVar 8))))
  (mSeq (mSet 10 (mOp rAdd (mOp rMul (mOp rIxM (mVar 5) (mC (.int 1))) (mOp rSub (mVar 7) (mVar 8))) (mOp rMul (mOp rIxM (mVar 6) (mC (.int 1))) (mVar 8))))
  (mExpr (mMt mtAppend (mVar 3) (mCons (mTup (mCons (mVar 9) (mCons (mOp rAdd (mVar 10) (mBlt bInt (mCons (mOp rEqM (mCall FL.sp_take (mCons (mVar 0) (mCons (mC (.int 5)) mNil))) (mC (.int 0))) mNil))) (mCons (mVar 7) mNil)))) mNil))))))))
  (mSeq (mAsg (mVar 1) (gTp 4 (gCn (gNm 11) (gCn (gNm 12) (gCn (gNm 13) (gCn (gNm 14) gNl))))))
  (mRet (mCompF (iS (mVar 3)) (gTp 3 (gCn (gNm 9) (gCn (gNm 10) (gCn (gNm 15) gNl)))) mYes (mTup (mCons (mCall FL.sp_low (mCons (mOp rAdd (mOp rMul (mVar 9) (mVar 11)) (mOp rMul (mVar 13) (mVar 15))) (mCons (mOp rMul (mVar 12) (mVar 15)) mNil))) (mCons (mCall FL.sp_low (mCons (mOp rAdd (mOp rMul (mVar 10) (mVar 11)) (mOp rMul (mVar 14) (mVar 15))) (mCons (mOp rMul (mVar 12) (mVar 15)) mNil))) mNil))) [9, 10, 15])))))
theorem d_law_spots {f : Addr} {cdv : Value} {A : Around} {outer : List Env} {s : Shared} {H : Hp} {E : XK} (T : Txt K mg) (h_law_low : Has P w K mg base "_law_low" ["_law_top", "_law_bottom"] 1 FL.sp_low) (h_law_take : Has P w K mg base "_law_take" ["_law_row", "_law_base"] 1 FL.sp_take) (hr : Room 1 (cxM P w K mg base ["_law_row", "_law_scale_here", "_law_shuts", "_law_told", "_law_turn", "_law_first", "_law_second", "_law_below", "_law_part", "_law_x", "_law_y", "_law_top", "_law_bottom", "_law_far", "_law_up", "_law_n"] "_law_spots" s_law_spots f cdv A outer s H E).A) :
    PSs (cxM P w K mg base ["_law_row", "_law_scale_here", "_law_shuts", "_law_told", "_law_turn", "_law_first", "_law_second", "_law_below", "_law_part", "_law_x", "_law_y", "_law_top", "_law_bottom", "_law_far", "_law_up", "_law_n"] "_law_spots" s_law_spots f cdv A outer s H E) (defBody s_law_spots) (upS K (wM E) b_law_spots) :=
  (scons (ssetLc (i := 3) (own := [("_law_turn", 4)]) rfl sc_law_spots.nd (ir1 T.f_range (acons eint anil)) (blkOk_by (by first | decide +kernel | kernel_rfl | rfl)) (fun _ _ _ _ _ => (gonm sc_law_spots.nd (i := 4) (by decide))) (fun _ _ _ _ _ => tsNil) (fun _ _ _ _ _ => (etup (acons (ecall (h_law_take.mono (k := 1) (by decide)) hr takes0 (acons (ev 0) (acons eint anil))) (acons (ecall (h_law_take.mono (k := 1) (by decide)) hr takes0 (acons (ev 0) (acons eint anil))) (acons eint anil))))))
    (scons (sfor poM rfl (is (ev 2)) (gtp rfl (gcn (gnm (i := 5) sc_law_spots.nd) (gcn (gnm (i := 6) sc_law_spots.nd) gnl))) (scons (sset (i := 7) sc_law_spots.nd (eadd eint (ecall (h_law_take.mono (k := 1) (by decide)) hr tkM (acons (ev 0) (acons eint anil)))))
    (scons (sset (i := 8) sc_law_spots.nd (ecall (h_law_take.mono (k := 1) (by decide)) hr tkM (acons (ev 0) (acons (eadd (ev 7) eint) anil))))
    (scons (sset (i := 9) sc_law_spots.nd (eadd (emul (eix (ev 5) eint) (esub (ev 7) (ev 8))) (emul (eix (ev 6) eint) (ev 8))))
    (scons (sset (i := 10) sc_law_spots.nd (eadd (emul (eix (ev 5) eint) (esub (ev 7) (ev 8))) (emul (eix (ev 6) eint) (ev 8))))
    (sone (sexpr (emt PySem.F.slot_list_append PySem.F.type_list_append mt_append ml_append (ev 3) (acons (etup (acons (ev 9) (acons (eadd (ev 10) (etyp call_int1 cl_int T.f_int (acons (ecmp (op_eqA hr.units) ol_eq (ecall (h_law_take.mono (k := 1) (by decide)) hr tkM (acons (ev 0) (acons eint anil))) eint) anil))) (acons (ev 7) anil)))) anil)))))))))
    (scons (sasg (ev 1) (gtp rfl (gcn (gnm (i := 11) sc_law_spots.nd) (gcn (gnm (i := 12) sc_law_spots.nd) (gcn (gnm (i := 13) sc_law_spots.nd) (gcn (gnm (i := 14) sc_law_spots.nd) gnl))))))
    (sone (sret (ecompF (own := [("_law_x", 9), ("_law_y", 10), ("_law_n", 15)]) rfl sc_law_spots.nd (is (ev 3)) (blkOk_by (by first | decide +kernel | kernel_rfl | rfl)) (fun _ _ _ _ _ => (gotp rfl (gocn (gonm sc_law_spots.nd (i := 9) (by decide)) (gocn (gonm sc_law_spots.nd (i := 10) (by decide)) (gocn (gonm sc_law_spots.nd (i := 15) (by decide)) gonl))))) (fun _ _ _ _ _ => tsNil) (fun _ _ _ _ _ => (etup (acons (ecall (h_law_low.mono (k := 1) (by decide)) hr takes0 (acons (eadd (emul (ev 9) (ev 11)) (emul (ev 13) (ev 15))) (acons (emul (ev 12) (ev 15)) anil))) (acons (ecall (h_law_low.mono (k := 1) (by decide)) hr takes0 (acons (eadd (emul (ev 10) (ev 11)) (emul (ev 14) (ev 15))) (acons (emul (ev 12) (ev 15)) anil))) anil))))))))))
theorem sc_plus : FnScope ["one", "other"] ["one", "other"] (defScope s_plus) := ⟨rfl, rfl, rfl, by decide +kernel, rfl, by decide +kernel, by decide +kernel⟩
abbrev b_plus : MS := FL.b_plus
theorem l_plus : ∀ ds S Q E, FL.sp_plus ds S Q E → ds.length = ["one", "other"].length := FL.l_plus
theorem r_plus : ∀ ds S Q E, FL.sp_plus ds S Q E → b_plus (mends Q E) (mstart 0 ds) S := FL.r_plus
theorem d_plus {f : Addr} {cdv : Value} {A : Around} {outer : List Env} {s : Shared} {H : Hp} {E : XK} (T : Txt K mg) (h_fraction : Has P w K mg base "fraction" ["top", "bottom"] 2 FL.sp_low) (hr : Room 2 (cxM P w K mg base ["one", "other"] "plus" s_plus f cdv A outer s H E).A) :
    PSs (cxM P w K mg base ["one", "other"] "plus" s_plus f cdv A outer s H E) (defBody s_plus) (upS K (wM E) b_plus) :=
  (sone (sret (ecall (h_fraction.mono (k := 2) (by decide)) hr tkM (acons (eadd (emul (eix (ev 0) eint) (eix (ev 1) eint)) (emul (eix (ev 1) eint) (eix (ev 0) eint))) (acons (emul (eix (ev 0) eint) (eix (ev 1) eint)) anil)))))
theorem sc_less : FnScope ["one", "other"] ["one", "other"] (defScope s_less) := ⟨rfl, rfl, rfl, by decide +kernel, rfl, by decide +kernel, by decide +kernel⟩
abbrev b_less : MS := FL.b_less
theorem l_less : ∀ ds S Q E, FL.sp_less ds S Q E → ds.length = ["one", "other"].length := FL.l_less
theorem r_less : ∀ ds S Q E, FL.sp_less ds S Q E → b_less (mends Q E) (mstart 0 ds) S := FL.r_less
theorem d_less {f : Addr} {cdv : Value} {A : Around} {outer : List Env} {s : Shared} {H : Hp} {E : XK} (T : Txt K mg) (h_fraction : Has P w K mg base "fraction" ["top", "bottom"] 2 FL.sp_low) (hr : Room 2 (cxM P w K mg base ["one", "other"] "less" s_less f cdv A outer s H E).A) :
    PSs (cxM P w K mg base ["one", "other"] "less" s_less f cdv A outer s H E) (defBody s_less) (upS K (wM E) b_less) :=
  (sone (sret (ecall (h_fraction.mono (k := 2) (by decide)) hr tkM (acons (esub (emul (eix (ev 0) eint) (eix (ev 1) eint)) (emul (eix (ev 1) eint) (eix (ev 0) eint))) (acons (emul (eix (ev 0) eint) (eix (ev 1) eint)) anil)))))
theorem sc_times : FnScope ["one", "other"] ["one", "other"] (defScope s_times) := ⟨rfl, rfl, rfl, by decide +kernel, rfl, by decide +kernel, by decide +kernel⟩
abbrev b_times : MS := FL.b_times
theorem l_times : ∀ ds S Q E, FL.sp_times ds S Q E → ds.length = ["one", "other"].length := FL.l_times
theorem r_times : ∀ ds S Q E, FL.sp_times ds S Q E → b_times (mends Q E) (mstart 0 ds) S := FL.r_times
theorem d_times {f : Addr} {cdv : Value} {A : Around} {outer : List Env} {s : Shared} {H : Hp} {E : XK} (T : Txt K mg) (h_fraction : Has P w K mg base "fraction" ["top", "bottom"] 2 FL.sp_low) (hr : Room 2 (cxM P w K mg base ["one", "other"] "times" s_times f cdv A outer s H E).A) :
    PSs (cxM P w K mg base ["one", "other"] "times" s_times f cdv A outer s H E) (defBody s_times) (upS K (wM E) b_times) :=
  (sone (sret (ecall (h_fraction.mono (k := 2) (by decide)) hr tkM (acons (emul (eix (ev 0) eint) (eix (ev 1) eint)) (acons (emul (eix (ev 0) eint) (eix (ev 1) eint)) anil)))))
theorem sc_over : FnScope ["one", "other"] ["one", "other"] (defScope s_over) := ⟨rfl, rfl, rfl, by decide +kernel, rfl, by decide +kernel, by decide +kernel⟩
abbrev b_over : MS := FL.b_over
theorem l_over : ∀ ds S Q E, FL.sp_over ds S Q E → ds.length = ["one", "other"].length := FL.l_over
theorem r_over : ∀ ds S Q E, FL.sp_over ds S Q E → b_over (mends Q E) (mstart 0 ds) S := FL.r_over
theorem d_over {f : Addr} {cdv : Value} {A : Around} {outer : List Env} {s : Shared} {H : Hp} {E : XK} (T : Txt K mg) (h_fraction : Has P w K mg base "fraction" ["top", "bottom"] 2 FL.sp_low) (hr : Room 2 (cxM P w K mg base ["one", "other"] "over" s_over f cdv A outer s H E).A) :
    PSs (cxM P w K mg base ["one", "other"] "over" s_over f cdv A outer s H E) (defBody s_over) (upS K (wM E) b_over) :=
  (sone (sret (ecall (h_fraction.mono (k := 2) (by decide)) hr tkM (acons (emul (eix (ev 0) eint) (eix (ev 1) eint)) (acons (emul (eix (ev 0) eint) (eix (ev 1) eint)) anil)))))
theorem sc_passed : FnScope ["spots", "spot", "low", "high", "middle"] ["spots", "spot"] (defScope s_passed) := ⟨rfl, rfl, rfl, by decide +kernel, rfl, by decide +kernel, by decide +kernel⟩
abbrev b_passed : MS := FL.b_passed
theorem l_passed : ∀ ds S Q E, FL.sp_passed ds S Q E → ds.length = ["spots", "spot"].length := FL.l_passed
theorem r_passed : ∀ ds S Q E, FL.sp_passed ds S Q E → b_passed (mends Q E) (mstart 3 ds) S := FL.r_passed
theorem d_passed {f : Addr} {cdv : Value} {A : Around} {outer : List Env} {s : Shared} {H : Hp} {E : XK} (T : Txt K mg) (h_is_ahead : Has P w K mg base "is_ahead" ["one", "other"] 2 FL.sp_is_ahead) (hr : Room 2 (cxM P w K mg base ["spots", "spot", "low", "high", "middle"] "passed" s_passed f cdv A outer s H E).A) :
    PSs (cxM P w K mg base ["spots", "spot", "low", "high", "middle"] "passed" s_passed f cdv A outer s H E) (defBody s_passed) (upS K (wM E) b_passed) :=
  (scons (sset (i := 2) sc_passed.nd eint)
    (scons (sset (i := 3) sc_passed.nd (eblt call_len cl_len T.f_len (acons (ev 0) anil) PySem.boot_len))
    (scons (swhile poM (tcmp (oa_lt (u65 hr)) la_lt (ev 2) (ev 3)) (scons (sset (i := 4) sc_passed.nd (ediv (eadd (ev 2) (ev 3)) eint))
    (sone (sif (ttru (ecall (h_is_ahead.mono (k := 2) (by decide)) hr tkM (acons (eix (ev 0) (ev 4)) (acons (ev 1) anil)))) (sone (sset (i := 2) sc_passed.nd (eadd (ev 4) eint))) (sone (sset (i := 3) sc_passed.nd (ev 4)))))))
    (sone (sret (ev 2))))))
theorem sc_is_sooner : FnScope ["one", "other"] ["one", "other"] (defScope s_is_sooner) := ⟨rfl, rfl, rfl, by decide +kernel, rfl, by decide +kernel, by decide +kernel⟩
abbrev b_is_sooner : MS := FL.b_is_sooner
theorem l_is_sooner : ∀ ds S Q E, FL.sp_is_sooner ds S Q E → ds.length = ["one", "other"].length := FL.l_is_sooner
theorem r_is_sooner : ∀ ds S Q E, FL.sp_is_sooner ds S Q E → b_is_sooner (mends Q E) (mstart 0 ds) S := FL.r_is_sooner
theorem d_is_sooner {f : Addr} {cdv : Value} {A : Around} {outer : List Env} {s : Shared} {H : Hp} {E : XK} (T : Txt K mg) (h_is_ahead : Has P w K mg base "is_ahead" ["one", "other"] 2 FL.sp_is_ahead) (hr : Room 2 (cxM P w K mg base ["one", "other"] "is_sooner" s_is_sooner f cdv A outer s H E).A) :
    PSs (cxM P w K mg base ["one", "other"] "is_sooner" s_is_sooner f cdv A outer s H E) (defBody s_is_sooner) (upS K (wM E) b_is_sooner) :=
  (scons (sif (tcmp (op_neA hr.units) ol_ne (eix (ev 0) eint) (eix (ev 1) eint)) (sone (sret (ecall (h_is_ahead.mono (k := 2) (by decide)) hr tkM (acons (eix (ev 0) eint) (acons (eix (ev 1) eint) anil))))) snil)
    (sone (sret (ecall (h_is_ahead.mono (k := 2) (by decide)) hr tkM (acons (eix (ev 0) eint) (acons (eix (ev 1) eint) anil))))))
theorem sc_law_made : FnScope ["_law_scale_here", "_law_shuts", "_law_first", "_law_second"] ["_law_scale_here", "_law_shuts"] (defScope s_law_made) := ⟨rfl, rfl, rfl, by decide +kernel, rfl, by decide +kernel, by decide +kernel⟩
abbrev b_law_made : MS := FL.b_made
theorem l_law_made : ∀ ds S Q E, FL.sp_made ds S Q E → ds.length = ["_law_scale_here", "_law_shuts"].length := FL.l_made
theorem r_law_made : ∀ ds S Q E, FL.sp_made ds S Q E → b_law_made (mends Q E) (mstart 2 ds) S := FL.r_made
theorem d_law_made {f : Addr} {cdv : Value} {A : Around} {outer : List Env} {s : Shared} {H : Hp} {E : XK} (T : Txt K mg) (h_law_spot : Has P w K mg base "_law_spot" ["_law_scale_here", "_law_unit"] 2 FL.sp_uspot) (hr : Room 2 (cxM P w K mg base ["_law_scale_here", "_law_shuts", "_law_first", "_law_second"] "_law_made" s_law_made f cdv A outer s H E).A) :
    PSs (cxM P w K mg base ["_law_scale_here", "_law_shuts", "_law_first", "_law_second"] "_law_made" s_law_made f cdv A outer s H E) (defBody s_law_made) (upS K (wM E) b_law_made) :=
  (sone (sret (etyp call_tuple_of cl_tuple T.f_tuple (acons (ecompF (own := [("_law_first", 2), ("_law_second", 3)]) rfl sc_law_made.nd (is (ev 1)) (blkOk_by (by first | decide +kernel | kernel_rfl | rfl)) (fun _ _ _ _ _ => (gotp rfl (gocn (gonm sc_law_made.nd (i := 2) (by decide)) (gocn (gonm sc_law_made.nd (i := 3) (by decide)) gonl)))) (fun _ _ _ _ _ => tsNil) (fun _ _ _ _ _ => (etup (acons (ecall (h_law_spot.mono (k := 2) (by decide)) hr takes0 (acons (ev 0) (acons (ev 2) anil))) (acons (ecall (h_law_spot.mono (k := 2) (by decide)) hr takes0 (acons (ev 0) (acons (ev 3) anil))) anil))))) anil))))
theorem sc_along : FnScope ["wall", "first", "second"] ["wall"] (defScope s_along) := ⟨rfl, rfl, rfl, by decide +kernel, rfl, by decide +kernel, by decide +kernel⟩
abbrev b_along : MS := FL.b_along
theorem l_along : ∀ ds S Q E, FL.sp_along ds S Q E → ds.length = ["wall"].length := FL.l_along
theorem r_along : ∀ ds S Q E, FL.sp_along ds S Q E → b_along (mends Q E) (mstart 2 ds) S := FL.r_along
theorem d_along {f : Addr} {cdv : Value} {A : Around} {outer : List Env} {s : Shared} {H : Hp} {E : XK} (T : Txt K mg) (h_less : Has P w K mg base "less" ["one", "other"] 3 FL.sp_less) (hr : Room 3 (cxM P w K mg base ["wall", "first", "second"] "along" s_along f cdv A outer s H E).A) :
    PSs (cxM P w K mg base ["wall", "first", "second"] "along" s_along f cdv A outer s H E) (defBody s_along) (upS K (wM E) b_along) :=
  (scons (sasg (ev 0) (gtp rfl (gcn (gnm (i := 1) sc_along.nd) (gcn (gnm (i := 2) sc_along.nd) gnl))))
    (sone (sret (etup (acons (ecall (h_less.mono (k := 3) (by decide)) hr tkM (acons (eix (ev 2) eint) (acons (eix (ev 1) eint) anil))) (acons (ecall (h_less.mono (k := 3) (by decide)) hr tkM (acons (eix (ev 2) eint) (acons (eix (ev 1) eint) anil))) anil))))))
theorem sc_crossed : FnScope ["one", "other"] ["one", "other"] (defScope s_crossed) := ⟨rfl, rfl, rfl, by decide +kernel, rfl, by decide +kernel, by decide +kernel⟩
abbrev b_crossed : MS := FL.b_crossed
theorem l_crossed : ∀ ds S Q E, FL.sp_crossed ds S Q E → ds.length = ["one", "other"].length := FL.l_crossed
theorem r_crossed : ∀ ds S Q E, FL.sp_crossed ds S Q E → b_crossed (mends Q E) (mstart 0 ds) S := FL.r_crossed
theorem d_crossed {f : Addr} {cdv : Value} {A : Around} {outer : List Env} {s : Shared} {H : Hp} {E : XK} (T : Txt K mg) (h_less : Has P w K mg base "less" ["one", "other"] 3 FL.sp_less) (h_times : Has P w K mg base "times" ["one", "other"] 3 FL.sp_times) (hr : Room 3 (cxM P w K mg base ["one", "other"] "crossed" s_crossed f cdv A outer s H E).A) :
    PSs (cxM P w K mg base ["one", "other"] "crossed" s_crossed f cdv A outer s H E) (defBody s_crossed) (upS K (wM E) b_crossed) :=
  (sone (sret (ecall (h_less.mono (k := 3) (by decide)) hr tkM (acons (ecall (h_times.mono (k := 3) (by decide)) hr tkM (acons (eix (ev 0) eint) (acons (eix (ev 1) eint) anil))) (acons (ecall (h_times.mono (k := 3) (by decide)) hr tkM (acons (eix (ev 0) eint) (acons (eix (ev 1) eint) anil))) anil)))))
theorem sc_put_in_row : FnScope ["spots", "spot", "at"] ["spots", "spot"] (defScope s_put_in_row) := ⟨rfl, rfl, rfl, by decide +kernel, rfl, by decide +kernel, by decide +kernel⟩
abbrev b_put_in_row : MS := FL.b_put_in_row
theorem l_put_in_row : ∀ ds S Q E, FL.sp_put_in_row ds S Q E → ds.length = ["spots", "spot"].length := FL.l_put_in_row
theorem r_put_in_row : ∀ ds S Q E, FL.sp_put_in_row ds S Q E → b_put_in_row (mends Q E) (mstart 1 ds) S := FL.r_put_in_row
theorem d_put_in_row {f : Addr} {cdv : Value} {A : Around} {outer : List Env} {s : Shared} {H : Hp} {E : XK} (T : Txt K mg) (h_passed : Has P w K mg base "passed" ["spots", "spot"] 3 FL.sp_passed) (hr : Room 3 (cxM P w K mg base ["spots", "spot", "at"] "put_in_row" s_put_in_row f cdv A outer s H E).A) :
    PSs (cxM P w K mg base ["spots", "spot", "at"] "put_in_row" s_put_in_row f cdv A outer s H E) (defBody s_put_in_row) (upS K (wM E) b_put_in_row) :=
  (scons (sset (i := 2) sc_put_in_row.nd (ecall (h_passed.mono (k := 3) (by decide)) hr tkM (acons (ev 0) (acons (ev 1) anil))))
    (sone (sif (tcmp (op_neA hr.units) ol_ne (ecut (ev 0) (oso (ev 2)) (oso (eadd (ev 2) eint))) (elstF (acons (ev 1) anil))) (sone (sexpr (emt PySem.F.slot_list_insert PySem.F.type_list_insert mt_insert ml_insert (ev 0) (acons (ev 2) (acons (ev 1) anil))))) snil)))
theorem sc_put_wall : FnScope ["walls", "wall", "at"] ["walls", "wall"] (defScope s_put_wall) := ⟨rfl, rfl, rfl, by decide +kernel, rfl, by decide +kernel, by decide +kernel⟩
abbrev b_put_wall : MS := FL.b_put_wall
theorem l_put_wall : ∀ ds S Q E, FL.sp_put_wall ds S Q E → ds.length = ["walls", "wall"].length := FL.l_put_wall
theorem r_put_wall : ∀ ds S Q E, FL.sp_put_wall ds S Q E → b_put_wall (mends Q E) (mstart 1 ds) S := FL.r_put_wall
theorem d_put_wall {f : Addr} {cdv : Value} {A : Around} {outer : List Env} {s : Shared} {H : Hp} {E : XK} (T : Txt K mg) (h_is_sooner : Has P w K mg base "is_sooner" ["one", "other"] 3 FL.sp_is_sooner) (hr : Room 3 (cxM P w K mg base ["walls", "wall", "at"] "put_wall" s_put_wall f cdv A outer s H E).A) :
    PSs (cxM P w K mg base ["walls", "wall", "at"] "put_wall" s_put_wall f cdv A outer s H E) (defBody s_put_wall) (upS K (wM E) b_put_wall) :=
  (scons (sset (i := 2) sc_put_wall.nd eint)
    (scons (swhile poM (L2.PW.pt (wand (tcmp (oa_lt (u65 hr)) la_lt (ev 2) (eblt call_len cl_len T.f_len (acons (ev 0) anil) PySem.boot_len)) (wand1 (ttru (ecall (h_is_sooner.mono (k := 3) (by decide)) hr tkM (acons (eix (ev 0) (ev 2)) (acons (ev 1) anil))))))) (sone (sset (i := 2) sc_put_wall.nd (eadd (ev 2) eint))))
    (sone (sif (tcmp (op_neA hr.units) ol_ne (ecut (ev 0) (oso (ev 2)) (oso (eadd (ev 2) eint))) (elstF (acons (ev 1) anil))) (sone (sexpr (emt PySem.F.slot_list_insert PySem.F.type_list_insert mt_insert ml_insert (ev 0) (acons (ev 2) (acons (ev 1) anil))))) snil))))
theorem sc_leaning : FnScope ["one", "other", "found"] ["one", "other"] (defScope s_leaning) := ⟨rfl, rfl, rfl, by decide +kernel, rfl, by decide +kernel, by decide +kernel⟩
abbrev b_leaning : MS := FL.b_leaning
theorem l_leaning : ∀ ds S Q E, FL.sp_leaning ds S Q E → ds.length = ["one", "other"].length := FL.l_leaning
theorem r_leaning : ∀ ds S Q E, FL.sp_leaning ds S Q E → b_leaning (mends Q E) (mstart 1 ds) S := FL.r_leaning
theorem d_leaning {f : Addr} {cdv : Value} {A : Around} {outer : List Env} {s : Shared} {H : Hp} {E : XK} (T : Txt K mg) (h_crossed : Has P w K mg base "crossed" ["one", "other"] 4 FL.sp_crossed) (hr : Room 4 (cxM P w K mg base ["one", "other", "found"] "leaning" s_leaning f cdv A outer s H E).A) :
    PSs (cxM P w K mg base ["one", "other", "found"] "leaning" s_leaning f cdv A outer s H E) (defBody s_leaning) (upS K (wM E) b_leaning) :=
  (scons (sset (i := 2) sc_leaning.nd (ecall (h_crossed.mono (k := 4) (by decide)) hr tkM (acons (ev 0) (acons (ev 1) anil))))
    (sone (sret (esub (etyp call_int1 cl_int T.f_int (acons (ecmp (oa_gt (u65 hr)) la_gt (eix (ev 2) eint) eint) anil)) (etyp call_int1 cl_int T.f_int (acons (ecmp (oa_lt (u65 hr)) la_lt (eix (ev 2) eint) eint) anil))))))
theorem sc_spot_of_lines : FnScope ["one", "other", "far", "part"] ["one", "other"] (defScope s_spot_of_lines) := ⟨rfl, rfl, rfl, by decide +kernel, rfl, by decide +kernel, by decide +kernel⟩
abbrev b_spot_of_lines : MS := FL.b_spot_of_lines
theorem l_spot_of_lines : ∀ ds S Q E, FL.sp_spot_of_lines ds S Q E → ds.length = ["one", "other"].length := FL.l_spot_of_lines
theorem r_spot_of_lines : ∀ ds S Q E, FL.sp_spot_of_lines ds S Q E → b_spot_of_lines (mends Q E) (mstart 2 ds) S := FL.r_spot_of_lines
theorem d_spot_of_lines {f : Addr} {cdv : Value} {A : Around} {outer : List Env} {s : Shared} {H : Hp} {E : XK} (T : Txt K mg) (h_plus : Has P w K mg base "plus" ["one", "other"] 3 FL.sp_plus) (h_times : Has P w K mg base "times" ["one", "other"] 3 FL.sp_times) (h_over : Has P w K mg base "over" ["one", "other"] 3 FL.sp_over) (h_crossed : Has P w K mg base "crossed" ["one", "other"] 4 FL.sp_crossed) (h_along : Has P w K mg base "along" ["wall"] 4 FL.sp_along) (hr : Room 4 (cxM P w K mg base ["one", "other", "far", "part"] "spot_of_lines" s_spot_of_lines f cdv A outer s H E).A) :
    PSs (cxM P w K mg base ["one", "other", "far", "part"] "spot_of_lines" s_spot_of_lines f cdv A outer s H E) (defBody s_spot_of_lines) (upS K (wM E) b_spot_of_lines) :=
  (scons (sset (i := 2) sc_spot_of_lines.nd (ecall (h_along.mono (k := 4) (by decide)) hr tkM (acons (ev 0) anil)))
    (scons (sset (i := 3) sc_spot_of_lines.nd (ecall (h_over.mono (k := 4) (by decide)) hr tkM (acons (ecall (h_crossed.mono (k := 4) (by decide)) hr tkM (acons (ecall (h_along.mono (k := 4) (by decide)) hr tkM (acons (etup (acons (eix (ev 0) eint) (acons (eix (ev 1) eint) anil))) anil)) (acons (ecall (h_along.mono (k := 4) (by decide)) hr tkM (acons (ev 1) anil)) anil))) (acons (ecall (h_crossed.mono (k := 4) (by decide)) hr tkM (acons (ev 2) (acons (ecall (h_along.mono (k := 4) (by decide)) hr tkM (acons (ev 1) anil)) anil))) anil))))
    (sone (sret (etup (acons (ecall (h_plus.mono (k := 4) (by decide)) hr tkM (acons (eix (eix (ev 0) eint) eint) (acons (ecall (h_times.mono (k := 4) (by decide)) hr tkM (acons (ev 3) (acons (eix (ev 2) eint) anil))) anil))) (acons (ecall (h_plus.mono (k := 4) (by decide)) hr tkM (acons (eix (eix (ev 0) eint) eint) (acons (ecall (h_times.mono (k := 4) (by decide)) hr tkM (acons (ev 3) (acons (eix (ev 2) eint) anil))) anil))) anil)))))))
theorem sc_side_of : FnScope ["wall", "spot"] ["wall", "spot"] (defScope s_side_of) := ⟨rfl, rfl, rfl, by decide +kernel, rfl, by decide +kernel, by decide +kernel⟩
abbrev b_side_of : MS := FL.b_side_of
theorem l_side_of : ∀ ds S Q E, FL.sp_side_of ds S Q E → ds.length = ["wall", "spot"].length := FL.l_side_of
theorem r_side_of : ∀ ds S Q E, FL.sp_side_of ds S Q E → b_side_of (mends Q E) (mstart 0 ds) S := FL.r_side_of
theorem d_side_of {f : Addr} {cdv : Value} {A : Around} {outer : List Env} {s : Shared} {H : Hp} {E : XK} (T : Txt K mg) (h_leaning : Has P w K mg base "leaning" ["one", "other"] 5 FL.sp_leaning) (h_along : Has P w K mg base "along" ["wall"] 4 FL.sp_along) (hr : Room 5 (cxM P w K mg base ["wall", "spot"] "side_of" s_side_of f cdv A outer s H E).A) :
    PSs (cxM P w K mg base ["wall", "spot"] "side_of" s_side_of f cdv A outer s H E) (defBody s_side_of) (upS K (wM E) b_side_of) :=
  (sone (sret (ecall (h_leaning.mono (k := 5) (by decide)) hr tkM (acons (ecall (h_along.mono (k := 5) (by decide)) hr tkM (acons (ev 0) anil)) (acons (ecall (h_along.mono (k := 5) (by decide)) hr tkM (acons (etup (acons (eix (ev 0) eint) (acons (ev 1) anil))) anil)) anil)))))
theorem sc_lies_on : FnScope ["wall", "spot", "first", "second"] ["wall", "spot"] (defScope s_lies_on) := ⟨rfl, rfl, rfl, by decide +kernel, rfl, by decide +kernel, by decide +kernel⟩
abbrev b_lies_on : MS := FL.b_lies_on
theorem l_lies_on : ∀ ds S Q E, FL.sp_lies_on ds S Q E → ds.length = ["wall", "spot"].length := FL.l_lies_on
theorem r_lies_on : ∀ ds S Q E, FL.sp_lies_on ds S Q E → b_lies_on (mends Q E) (mstart 2 ds) S := FL.r_lies_on
theorem d_lies_on {f : Addr} {cdv : Value} {A : Around} {outer : List Env} {s : Shared} {H : Hp} {E : XK} (T : Txt K mg) (h_side_of : Has P w K mg base "side_of" ["wall", "spot"] 6 FL.sp_side_of) (h_is_ahead : Has P w K mg base "is_ahead" ["one", "other"] 2 FL.sp_is_ahead) (hr : Room 6 (cxM P w K mg base ["wall", "spot", "first", "second"] "lies_on" s_lies_on f cdv A outer s H E).A) :
    PSs (cxM P w K mg base ["wall", "spot", "first", "second"] "lies_on" s_lies_on f cdv A outer s H E) (defBody s_lies_on) (upS K (wM E) b_lies_on) :=
  (scons (sasg (ev 0) (gtp rfl (gcn (gnm (i := 2) sc_lies_on.nd) (gcn (gnm (i := 3) sc_lies_on.nd) gnl))))
    (scons (sif (L2.PW.pt (wor (ttru (ecall (h_is_ahead.mono (k := 6) (by decide)) hr tkM (acons (ev 1) (acons (ev 2) anil)))) (wor1 (ttru (ecall (h_is_ahead.mono (k := 6) (by decide)) hr tkM (acons (ev 3) (acons (ev 1) anil))))))) (sone (sret ebl)) snil)
    (sone (sret (ecmp (op_eqA hr.units) ol_eq (ecall (h_side_of.mono (k := 6) (by decide)) hr tkM (acons (ev 0) (acons (ev 1) anil))) eint)))))
theorem sc_meeting_in_line : FnScope ["one", "other", "first", "second"] ["one", "other"] (defScope s_meeting_in_line) := ⟨rfl, rfl, rfl, by decide +kernel, rfl, by decide +kernel, by decide +kernel⟩
abbrev b_meeting_in_line : MS := FL.b_meeting_in_line
theorem l_meeting_in_line : ∀ ds S Q E, FL.sp_meeting_in_line ds S Q E → ds.length = ["one", "other"].length := FL.l_meeting_in_line
theorem r_meeting_in_line : ∀ ds S Q E, FL.sp_meeting_in_line ds S Q E → b_meeting_in_line (mends Q E) (mstart 2 ds) S := FL.r_meeting_in_line
theorem d_meeting_in_line {f : Addr} {cdv : Value} {A : Around} {outer : List Env} {s : Shared} {H : Hp} {E : XK} (T : Txt K mg) (h_is_ahead : Has P w K mg base "is_ahead" ["one", "other"] 2 FL.sp_is_ahead) (h_side_of : Has P w K mg base "side_of" ["wall", "spot"] 6 FL.sp_side_of) (hr : Room 6 (cxM P w K mg base ["one", "other", "first", "second"] "meeting_in_line" s_meeting_in_line f cdv A outer s H E).A) :
    PSs (cxM P w K mg base ["one", "other", "first", "second"] "meeting_in_line" s_meeting_in_line f cdv A outer s H E) (defBody s_meeting_in_line) (upS K (wM E) b_meeting_in_line) :=
  (scons (sif (tcmp (op_neA hr.units) ol_ne (ecall (h_side_of.mono (k := 6) (by decide)) hr tkM (acons (ev 0) (acons (eix (ev 1) eint) anil))) eint) (sone (sret enon)) snil)
    (scons (sset (i := 2) sc_meeting_in_line.nd (eix (ev 0) eint))
    (scons (sifJ (ttru (ecall (h_is_ahead.mono (k := 6) (by decide)) hr tkM (acons (ev 2) (acons (eix (ev 1) eint) anil)))) (sone (sset (i := 2) sc_meeting_in_line.nd (eix (ev 1) eint))) snil)
    (scons (sset (i := 3) sc_meeting_in_line.nd (eix (ev 0) eint))
    (scons (sifJ (ttru (ecall (h_is_ahead.mono (k := 6) (by decide)) hr tkM (acons (eix (ev 1) eint) (acons (ev 3) anil)))) (sone (sset (i := 3) sc_meeting_in_line.nd (eix (ev 1) eint))) snil)
    (scons (sif (tcmp (op_eqA hr.units) ol_eq (ev 2) (ev 3)) (sone (sret (etup (acons estr (acons (ev 2) anil))))) snil)
    (scons (sif (ttru (ecall (h_is_ahead.mono (k := 6) (by decide)) hr tkM (acons (ev 2) (acons (ev 3) anil)))) (sone (sret (etup (acons estr (acons (etup (acons (ev 2) (acons (ev 3) anil))) anil))))) snil)
    (sone (sret enon)))))))))
theorem sc_meeting : FnScope ["one", "other", "spot"] ["one", "other"] (defScope s_meeting) := ⟨rfl, rfl, rfl, by decide +kernel, rfl, by decide +kernel, by decide +kernel⟩
abbrev b_meeting : MS := FL.b_meeting
theorem l_meeting : ∀ ds S Q E, FL.sp_meeting ds S Q E → ds.length = ["one", "other"].length := FL.l_meeting
theorem r_meeting : ∀ ds S Q E, FL.sp_meeting ds S Q E → b_meeting (mends Q E) (mstart 1 ds) S := FL.r_meeting
theorem d_meeting {f : Addr} {cdv : Value} {A : Around} {outer : List Env} {s : Shared} {H : Hp} {E : XK} (T : Txt K mg) (h_lies_on : Has P w K mg base "lies_on" ["wall", "spot"] 7 FL.sp_lies_on) (h_spot_of_lines : Has P w K mg base "spot_of_lines" ["one", "other"] 5 FL.sp_spot_of_lines) (h_leaning : Has P w K mg base "leaning" ["one", "other"] 5 FL.sp_leaning) (h_along : Has P w K mg base "along" ["wall"] 4 FL.sp_along) (h_meeting_in_line : Has P w K mg base "meeting_in_line" ["one", "other"] 7 FL.sp_meeting_in_line) (hr : Room 7 (cxM P w K mg base ["one", "other", "spot"] "meeting" s_meeting f cdv A outer s H E).A) :
    PSs (cxM P w K mg base ["one", "other", "spot"] "meeting" s_meeting f cdv A outer s H E) (defBody s_meeting) (upS K (wM E) b_meeting) :=
  (scons (sif (tcmp (op_eqA hr.units) ol_eq (ecall (h_leaning.mono (k := 7) (by decide)) hr tkM (acons (ecall (h_along.mono (k := 7) (by decide)) hr tkM (acons (ev 0) anil)) (acons (ecall (h_along.mono (k := 7) (by decide)) hr tkM (acons (ev 1) anil)) anil))) eint) (sone (sret (ecall (h_meeting_in_line.mono (k := 7) (by decide)) hr tkM (acons (ev 0) (acons (ev 1) anil))))) snil)
    (scons (sset (i := 2) sc_meeting.nd (ecall (h_spot_of_lines.mono (k := 7) (by decide)) hr tkM (acons (ev 0) (acons (ev 1) anil))))
    (scons (sif (L2.PW.pt (wand (ttru (ecall (h_lies_on.mono (k := 7) (by decide)) hr tkM (acons (ev 0) (acons (ev 2) anil)))) (wand1 (ttru (ecall (h_lies_on.mono (k := 7) (by decide)) hr tkM (acons (ev 1) (acons (ev 2) anil))))))) (sone (sret (etup (acons estr (acons (ev 2) anil))))) snil)
    (sone (sret enon)))))
theorem sc_law_covered : FnScope ["_law_shuts", "_law_spot_here", "_law_shut"] ["_law_shuts", "_law_spot_here"] (defScope s_law_covered) := ⟨rfl, rfl, rfl, by decide +kernel, rfl, by decide +kernel, by decide +kernel⟩
def b_law_covered : MS := (mRet (mOp rInB (mC (.bl true)) (mCompF (iS (mVar 0)) (gNm 2) mYes (mCall FL.sp_lies_on (mCons (mVar 2) (mCons (mVar 1) mNil))) [2])))
theorem d_law_covered {f : Addr} {cdv : Value} {A : Around} {outer : List Env} {s : Shared} {H : Hp} {E : XK} (T : Txt K mg) (h_lies_on : Has P w K mg base "lies_on" ["wall", "spot"] 7 FL.sp_lies_on) (hr : Room 7 (cxM P w K mg base ["_law_shuts", "_law_spot_here", "_law_shut"] "_law_covered" s_law_covered f cdv A outer s H E).A) :
    PSs (cxM P w K mg base ["_law_shuts", "_law_spot_here", "_law_shut"] "_law_covered" s_law_covered f cdv A outer s H E) (defBody s_law_covered) (upS K (wM E) b_law_covered) :=
  (sone (sret (ecmp op_in_seq ol_inB ebl (ecompF (own := [("_law_shut", 2)]) rfl sc_law_covered.nd (is (ev 0)) (blkOk_by (by first | decide +kernel | kernel_rfl | rfl)) (fun _ _ _ _ _ => (gonm sc_law_covered.nd (i := 2) (by decide))) (fun _ _ _ _ _ => tsNil) (fun _ _ _ _ _ => (ecall (h_lies_on.mono (k := 7) (by decide)) hr takes0 (acons (ev 2) (acons (ev 1) anil))))))))
theorem sc_is_fair : FnScope ["one", "other", "found"] ["one", "other"] (defScope s_is_fair) := ⟨rfl, rfl, rfl, by decide +kernel, rfl, by decide +kernel, by decide +kernel⟩
abbrev b_is_fair : MS := FL.b_is_fair
theorem l_is_fair : ∀ ds S Q E, FL.sp_is_fair ds S Q E → ds.length = ["one", "other"].length := FL.l_is_fair
theorem r_is_fair : ∀ ds S Q E, FL.sp_is_fair ds S Q E → b_is_fair (mends Q E) (mstart 1 ds) S := FL.r_is_fair
theorem d_is_fair {f : Addr} {cdv : Value} {A : Around} {outer : List Env} {s : Shared} {H : Hp} {E : XK} (T : Txt K mg) (h_meeting : Has P w K mg base "meeting" ["one", "other"] 8 FL.sp_meeting) (hr : Room 8 (cxM P w K mg base ["one", "other", "found"] "is_fair" s_is_fair f cdv A outer s H E).A) :
    PSs (cxM P w K mg base ["one", "other", "found"] "is_fair" s_is_fair f cdv A outer s H E) (defBody s_is_fair) (upS K (wM E) b_is_fair) :=
  (scons (sset (i := 2) sc_is_fair.nd (ecall (h_meeting.mono (k := 8) (by decide)) hr tkM (acons (ev 0) (acons (ev 1) anil))))
    (scons (sif (tcmp op_isN ol_isN (ev 2) enon) (sone (sret ebl)) snil)
    (sone (sret (eand (ecmp (op_eqA hr.units) ol_eq (eix (ev 2) eint) estr) (eand (ecmp (op_inA (u65 hr)) ol_in (eix (ev 2) eint) (ev 0)) (eone (ecmp (op_inA (u65 hr)) ol_in (eix (ev 2) eint) (ev 1)))))))))
theorem sc_cuts_of : FnScope ["walls", "wall", "found", "other", "spot", "how"] ["walls", "wall"] (defScope s_cuts_of) := ⟨rfl, rfl, rfl, by decide +kernel, rfl, by decide +kernel, by decide +kernel⟩
abbrev b_cuts_of : MS := FL.b_cuts_of
theorem l_cuts_of : ∀ ds S Q E, FL.sp_cuts_of ds S Q E → ds.length = ["walls", "wall"].length := FL.l_cuts_of
theorem r_cuts_of : ∀ ds S Q E, FL.sp_cuts_of ds S Q E → b_cuts_of (mends Q E) (mstart 4 ds) S := FL.r_cuts_of
theorem d_cuts_of {f : Addr} {cdv : Value} {A : Around} {outer : List Env} {s : Shared} {H : Hp} {E : XK} (T : Txt K mg) (h_put_in_row : Has P w K mg base "put_in_row" ["spots", "spot"] 4 FL.sp_put_in_row) (h_meeting : Has P w K mg base "meeting" ["one", "other"] 8 FL.sp_meeting) (h_lies_on : Has P w K mg base "lies_on" ["wall", "spot"] 7 FL.sp_lies_on) (hr : Room 8 (cxM P w K mg base ["walls", "wall", "found", "other", "spot", "how"] "cuts_of" s_cuts_of f cdv A outer s H E).A) :
    PSs (cxM P w K mg base ["walls", "wall", "found", "other", "spot", "how"] "cuts_of" s_cuts_of f cdv A outer s H E) (defBody s_cuts_of) (upS K (wM E) b_cuts_of) :=
  (scons (sset (i := 2) sc_cuts_of.nd (elst anil))
    (scons (sfor poM rfl (is (ev 0)) (gnm (i := 3) sc_cuts_of.nd) (scons (sfor poM rfl (is (ev 3)) (gnm (i := 4) sc_cuts_of.nd) (sone (sif (ttru (ecall (h_lies_on.mono (k := 8) (by decide)) hr tkM (acons (ev 1) (acons (ev 4) anil)))) (sone (sexpr (ecall (h_put_in_row.mono (k := 8) (by decide)) hr tkM (acons (ev 2) (acons (ev 4) anil))))) snil)))
    (scons (sset (i := 5) sc_cuts_of.nd (ecall (h_meeting.mono (k := 8) (by decide)) hr tkM (acons (ev 1) (acons (ev 3) anil))))
    (sone (sif (L2.PW.pt (wand (tcmp op_notN ol_notN (ev 5) enon) (wand1 (tcmp (op_eqA hr.units) ol_eq (eix (ev 5) eint) estr)))) (sone (sexpr (ecall (h_put_in_row.mono (k := 8) (by decide)) hr tkM (acons (ev 2) (acons (eix (ev 5) eint) anil))))) snil)))))
    (sone (sret (ev 2)))))
theorem sc_unfair_with : FnScope ["walls", "wall", "number", "other"] ["walls", "wall"] (defScope s_unfair_with) := ⟨rfl, rfl, rfl, by decide +kernel, rfl, by decide +kernel, by decide +kernel⟩
abbrev b_unfair_with : MS := FL.b_unfair_with
theorem l_unfair_with : ∀ ds S Q E, FL.sp_unfair_with ds S Q E → ds.length = ["walls", "wall"].length := FL.l_unfair_with
theorem r_unfair_with : ∀ ds S Q E, FL.sp_unfair_with ds S Q E → b_unfair_with (mends Q E) (mstart 2 ds) S := FL.r_unfair_with
theorem d_unfair_with {f : Addr} {cdv : Value} {A : Around} {outer : List Env} {s : Shared} {H : Hp} {E : XK} (T : Txt K mg) (h_is_fair : Has P w K mg base "is_fair" ["one", "other"] 9 FL.sp_is_fair) (hr : Room 9 (cxM P w K mg base ["walls", "wall", "number", "other"] "unfair_with" s_unfair_with f cdv A outer s H E).A) :
    PSs (cxM P w K mg base ["walls", "wall", "number", "other"] "unfair_with" s_unfair_with f cdv A outer s H E) (defBody s_unfair_with) (upS K (wM E) b_unfair_with) :=
  (scons (sfor poM rfl (ien T.f_enumerate (acons (ev 0) anil)) (gtp rfl (gcn (gnm (i := 2) sc_unfair_with.nd) (gcn (gnm (i := 3) sc_unfair_with.nd) gnl))) (sone (sif (tnot (ttru (ecall (h_is_fair.mono (k := 9) (by decide)) hr tkM (acons (ev 1) (acons (ev 3) anil))))) (sone (sret (ev 2))) snil)))
    (sone (sret enon)))
theorem sc_parted : FnScope ["walls", "found", "wall", "cuts", "piece"] ["walls"] (defScope s_parted) := ⟨rfl, rfl, rfl, by decide +kernel, rfl, by decide +kernel, by decide +kernel⟩
abbrev b_parted : MS := FL.b_parted
theorem l_parted : ∀ ds S Q E, FL.sp_parted ds S Q E → ds.length = ["walls"].length := FL.l_parted
theorem r_parted : ∀ ds S Q E, FL.sp_parted ds S Q E → b_parted (mends Q E) (mstart 4 ds) S := FL.r_parted
theorem d_parted {f : Addr} {cdv : Value} {A : Around} {outer : List Env} {s : Shared} {H : Hp} {E : XK} (T : Txt K mg) (h_put_wall : Has P w K mg base "put_wall" ["walls", "wall"] 4 FL.sp_put_wall) (h_cuts_of : Has P w K mg base "cuts_of" ["walls", "wall"] 9 FL.sp_cuts_of) (hx_TooMany : HasX P w K mg base "TooMany" 1 ["count"]) (hr : Room 9 (cxM P w K mg base ["walls", "found", "wall", "cuts", "piece"] "parted" s_parted f cdv A outer s H E).A) :
    PSs (cxM P w K mg base ["walls", "found", "wall", "cuts", "piece"] "parted" s_parted f cdv A outer s H E) (defBody s_parted) (upS K (wM E) b_parted) :=
  (scons (sset (i := 1) sc_parted.nd (elst anil))
    (scons (sfor poM rfl (is (ev 0)) (gnm (i := 2) sc_parted.nd) (scons (sset (i := 3) sc_parted.nd (ecall (h_cuts_of.mono (k := 9) (by decide)) hr tkM (acons (ev 0) (acons (ev 2) anil))))
    (sone (sfor poM rfl (izpN T.f_zip (acons (ev 3) (acons (ecut (ev 3) (oso eint) ono) anil))) (gnm (i := 4) sc_parted.nd) (sone (sexpr (ecall (h_put_wall.mono (k := 9) (by decide)) hr tkM (acons (ev 1) (acons (ev 4) anil)))))))))
    (scons (sif (tcmp (oa_gt (u65 hr)) la_gt (eblt call_len cl_len T.f_len (acons (ev 1) anil) PySem.boot_len) (eglobI T.c_MOST_WALLS)) (sone (sraiseF (hx_TooMany.mono (k := 8) (by decide)) hr rfl tkM (acons (eblt call_len cl_len T.f_len (acons (ev 1) anil) PySem.boot_len) anil))) snil)
    (sone (sret (etyp call_tuple_of cl_tuple T.f_tuple (acons (ev 1) anil)))))))
theorem sc_plot_of : FnScope ["walls", "number", "wall", "other"] ["walls"] (defScope s_plot_of) := ⟨rfl, rfl, rfl, by decide +kernel, rfl, by decide +kernel, by decide +kernel⟩
abbrev b_plot_of : MS := FL.b_plot_of
theorem l_plot_of : ∀ ds S Q E, FL.sp_plot_of ds S Q E → ds.length = ["walls"].length := FL.l_plot_of
theorem r_plot_of : ∀ ds S Q E, FL.sp_plot_of ds S Q E → b_plot_of (mends Q E) (mstart 3 ds) S := FL.r_plot_of
theorem d_plot_of {f : Addr} {cdv : Value} {A : Around} {outer : List Env} {s : Shared} {H : Hp} {E : XK} (T : Txt K mg) (h_unfair_with : Has P w K mg base "unfair_with" ["walls", "wall"] 10 FL.sp_unfair_with) (hr : Room 10 (cxM P w K mg base ["walls", "number", "wall", "other"] "plot_of" s_plot_of f cdv A outer s H E).A) :
    PSs (cxM P w K mg base ["walls", "number", "wall", "other"] "plot_of" s_plot_of f cdv A outer s H E) (defBody s_plot_of) (upS K (wM E) b_plot_of) :=
  (scons (sif (tcmp (oa_gt (u65 hr)) la_gt (eblt call_len cl_len T.f_len (acons (ev 0) anil) PySem.boot_len) (eglobI T.c_MOST_WALLS)) (sone snever) snil)
    (scons (sfor poM rfl (ien T.f_enumerate (acons (ev 0) anil)) (gtp rfl (gcn (gnm (i := 1) sc_plot_of.nd) (gcn (gnm (i := 2) sc_plot_of.nd) gnl))) (scons (sset (i := 3) sc_plot_of.nd (ecall (h_unfair_with.mono (k := 10) (by decide)) hr tkM (acons (ecut (ev 0) ono (oso (ev 1))) (acons (ev 2) anil))))
    (sone (sif (tcmp op_notN ol_notN (ev 3) enon) (sone snever) snil))))
    (sone (sret (etyp call_tuple_of cl_tuple T.f_tuple (acons (ev 0) anil))))))
theorem sc_law : FnScope ["_law_script", "_law_k", "_law_row", "_law_scale_here", "_law_shuts", "_law_made_here", "_law_found", "_law_spot_here"] ["_law_script"] (defScope s_law) := ⟨rfl, rfl, rfl, by decide +kernel, rfl, by decide +kernel, by decide +kernel⟩
def b_law : MS := (mSeq (mFor (iR1 (mCons (mBlt bMaxA (mCons (mC (.int 1)) (mCons (mBlt bMinA (mCons (mC (.int 2)) (mCons (mBlt bLen (mCons (mVar 0) mNil)) mNil))) mNil))) mNil)) (gNm 1) (mSeq (mSet 2 (mLst (mCons (mCall FL.sp_cell_at (mCons (mVar 0) (mCons (mVar 1) mNil))) (mCons (mC (.int 0)) mNil))))
  (mSeq (mSet 3 (mCall FL.sp_scale (mCons (mVar 2) mNil)))
  (mSeq (mSet 4 (mCall FL.sp_uany (mCons (mVar 2) (mCons (mC (.int 5)) (mCons (mC (.int 5)) mNil)))))
  (mSeq (mSet 5 (mBlt bList (mCons (mCall FL.sp_made (mCons (mVar 3) (mCons (mVar 4) mNil))) mNil)))
  (mSeq (mSet 6 (mCall FL.sp_parted (mCons (mVar 5) mNil)))
  (mSeq (mJ (mIfS (mOr (mTst (mOp rNeM (mCall FL.sp_plot_of (mCons (mBlt bListF (mCons (mVar 6) mNil)) mNil)) (mVar 6))) (mAnd (mTst (mOp aLt (mBlt bLen (mCons (mVar 6) mNil)) (mC (.int 25)))) (mTst (mOp rNeM (mCall FL.sp_parted (mCons (mBlt bListF (mCons (mVar 6) mNil)) mNil)) (mVar 6))))) (mRet (mC (.bl false))) mNext))
  (mFor (iS (mCall sp_law_spots (mCons (mVar 2) (mCons (mVar 3) (mCons (mVar 4) mNil))))) (gNm 7) (mIfS (mTst (mOp rNeM (mCall sp_law_covered (mCons (mVar 5) (mCons (mVar 7) mNil))) (mCall sp_law_covered (mCons (mVar 6) (mCons (mVar 7) mNil))))) (mRet (mC (.bl false))) mNext)))))))))
  (mRet (mC (.bl true))))
theorem d_law {f : Addr} {cdv : Value} {A : Around} {outer : List Env} {s : Shared} {H : Hp} {E : XK} (T : Txt K mg) (h_law_spots : Has P w K mg base "_law_spots" ["_law_row", "_law_scale_here", "_law_shuts"] 2 sp_law_spots) (h_law_covered : Has P w K mg base "_law_covered" ["_law_shuts", "_law_spot_here"] 8 sp_law_covered) (h_parted : Has P w K mg base "parted" ["walls"] 10 FL.sp_parted) (h_plot_of : Has P w K mg base "plot_of" ["walls"] 11 FL.sp_plot_of) (h_law_made : Has P w K mg base "_law_made" ["_law_scale_here", "_law_shuts"] 3 FL.sp_made) (h_law_any : Has P w K mg base "_law_any" ["_law_row", "_law_most", "_law_size"] 2 FL.sp_uany) (h_law_scale : Has P w K mg base "_law_scale" ["_law_row"] 2 FL.sp_scale) (h_law_cell_at : Has P w K mg base "_law_cell_at" ["_law_script", "_law_k"] 1 FL.sp_cell_at) (hr : Room 11 (cxM P w K mg base ["_law_script", "_law_k", "_law_row", "_law_scale_here", "_law_shuts", "_law_made_here", "_law_found", "_law_spot_here"] "law" s_law f cdv A outer s H E).A) :
    PSs (cxM P w K mg base ["_law_script", "_law_k", "_law_row", "_law_scale_here", "_law_shuts", "_law_made_here", "_law_found", "_law_spot_here"] "law" s_law f cdv A outer s H E) (defBody s_law) (upS K (wM E) b_law) :=
  (scons (sfor poM rfl (ir1 T.f_range (acons (eblt (ca_max rfl (u65 hr)) cl_maxA T.f_max (acons eint (acons (eblt (ca_min rfl (u65 hr)) cl_minA T.f_min (acons eint (acons (eblt call_len cl_len T.f_len (acons (ev 0) anil) PySem.boot_len) anil))) anil))) anil)) (gnm (i := 1) sc_law.nd) (scons (sset (i := 2) sc_law.nd (elst (acons (ecall (h_law_cell_at.mono (k := 11) (by decide)) hr tkM (acons (ev 0) (acons (ev 1) anil))) (acons eint anil))))
    (scons (sset (i := 3) sc_law.nd (ecall (h_law_scale.mono (k := 11) (by decide)) hr tkM (acons (ev 2) anil)))
    (scons (sset (i := 4) sc_law.nd (ecall (h_law_any.mono (k := 11) (by decide)) hr tkM (acons (ev 2) (acons eint (acons eint anil)))))
    (scons (sset (i := 5) sc_law.nd (etyp call_list_of cl_list T.f_list (acons (ecall (h_law_made.mono (k := 11) (by decide)) hr tkM (acons (ev 3) (acons (ev 4) anil))) anil)))
    (scons (sset (i := 6) sc_law.nd (ecall (h_parted.mono (k := 11) (by decide)) hr tkM (acons (ev 5) anil)))
    (scons (sJ (sif (L2.PW.pt (wor (tcmp (op_neA hr.units) ol_ne (ecall (h_plot_of.mono (k := 11) (by decide)) hr tkM (acons (etyp call_list_of cl_listF T.f_list (acons (ev 6) anil)) anil)) (ev 6)) (wor1 (L2.PW.pt (wand (tcmp (oa_lt (u65 hr)) la_lt (eblt call_len cl_len T.f_len (acons (ev 6) anil) PySem.boot_len) eint) (wand1 (tcmp (op_neA hr.units) ol_ne (ecall (h_parted.mono (k := 11) (by decide)) hr tkM (acons (etyp call_list_of cl_listF T.f_list (acons (ev 6) anil)) anil)) (ev 6)))))))) (sone (sret ebl)) snil))
    (sone (sfor poM rfl (is (ecall (h_law_spots.mono (k := 11) (by decide)) hr tkM (acons (ev 2) (acons (ev 3) (acons (ev 4) anil))))) (gnm (i := 7) sc_law.nd) (sone (sif (tcmp (op_neA hr.units) ol_ne (ecall (h_law_covered.mono (k := 11) (by decide)) hr tkM (acons (ev 5) (acons (ev 7) anil))) (ecall (h_law_covered.mono (k := 11) (by decide)) hr tkM (acons (ev 6) (acons (ev 7) anil)))) (sone (sret ebl)) snil)))))))))))
    (sone (sret ebl)))
end
end Lk12
set_option maxRecDepth 100000
set_option maxHeartbeats 4000000
namespace Lk12
open PySem PySem.Spec L2 ML FL Lk11
theorem l_law_spots : ∀ ds S Q E, sp_law_spots ds S Q E → ds.length = 3 := by rintro _ _ _ _ ⟨_, _, _, _, _, _, rfl, _⟩; rfl
theorem l_law_covered : ∀ ds S Q E, sp_law_covered ds S Q E → ds.length = 2 := by rintro _ _ _ _ ⟨_, _, _, rfl, _⟩; rfl
theorem l_law : ∀ ds S Q E, spLaw ds S Q E → ds.length = ["n"].length := by
  rintro _ _ _ _ ⟨n, rfl, _⟩; rfl
theorem mok {a b : Int} (ha : a.natAbs ≤ 1000) (hb : b.natAbs ≤ 1000) : IntMulOk a b := mulok_l (by omega) (by omega)
theorem r_law_covered : ∀ ds S Q E, sp_law_covered ds S Q E → b_law_covered (mends Q E) (mstart 1 ds) S := by
  rintro _ S Q E ⟨d, ws, t, rfl, hd, hl, hw, ht, k⟩
  unfold b_law_covered
  simp only [ML.q_mstart, ML.q_mends, List.map_cons, List.map_nil, List.replicate, List.cons_append, List.nil_append]
  obtain ⟨G, eG, hG⟩ : ∃ G : Sto → Prop, sqI S d = some (ws.map wlD, G) ∧ ∀ S', Ext0 S S' → G S' := by
    rcases hd with hd | rfl
    · obtain ⟨G, e, h⟩ := hd.itx
      exact ⟨G, e, fun S' x => h S' (hd.ext x)⟩
    · exact ⟨_, rfl, fun _ _ => trivial⟩
  simp only [gz8, eG]
  intro u hu
  refine comp_map wlD (fun w => .bl (decide (liesOn w t))) ws rfl (by omega) (fun acc => hG _ (ext0_put hu)) ?_ ?_
  · intro w acc Q1 hw' t1
    have b := hw w hw'
    simp only [gz8]
    refine ⟨w, t, rfl, ⟨450, BP.S (h := b.f) (by decide), BP.S (h := b.s) (by decide), BP.S (h := ht) (by decide), by decide⟩, t1⟩
  rw [del_put hu]
  simp only [gz8]
  have em : (ws.map fun w => D.bl (decide (liesOn w t))) = (ws.map fun w => decide (liesOn w t)).map .bl := by rw [List.map_map]; rfl
  rw [em, l_rInB]
  have e : ((ws.map fun w => decide (liesOn w t)).any fun c => c == true) = decide (∃ w ∈ ws, liesOn w t) := by
    rw [Bool.eq_iff_iff, List.any_eq_true, decide_eq_true_eq]
    constructor
    · rintro ⟨x, hx, h⟩
      obtain ⟨w, hw, e⟩ := List.mem_map.mp hx
      refine ⟨w, hw, of_decide_eq_true (e.trans (by simpa using h))⟩
    · rintro ⟨w, hw, h⟩
      exact ⟨true, List.mem_map.mpr ⟨w, hw, decide_eq_true h⟩, rfl⟩
  rw [e]
  exact k
theorem r_law_spots : ∀ ds S Q E, sp_law_spots ds S Q E → b_law_spots (mends Q E) (mstart 13 ds) S := by
  rintro _ S Q E ⟨p, c, n, s, d, ws, rfl, hp, hn, hs, hd, dp, hl, hw, k⟩
  unfold b_law_spots
  simp only [ML.q_mstart, ML.q_mends, List.map_cons, List.map_nil, List.replicate, List.cons_append, List.nil_append]
  simp only [gz8]
  intro u hu
  have up : u ≠ p := fun z => by rw [z, hp] at hu; cases hu
  have nu : ∀ a o, S a = some o → a ≠ u := fun a o e z => by rw [z, hu] at e; cases e
  rw [show ([.int 0, .int 1, .int 2, .int 3] : List D) = rngD 0 4 from rfl]
  refine comp_inv (fun j acc S' => ∃ (ts : List Told) (c' : Int), ts.length = j ∧ acc = ts.map toD ∧ (∀ t ∈ ts, TSm t) ∧ (∀ a o, a ≠ p → a ≠ u → S a = some o → S' a = some o) ∧ S' p = some (rowO c' ((n + 2 * j : Nat) : Int))) put_same ⟨[], c, rfl, rfl, fun t h => (by cases h), fun a o n1 n2 e => by rw [put_ne n2]; exact e, by rw [put_ne (Ne.symm up)]; exact hp⟩ ?_ ?_
  · rintro j x acc S1 hx ⟨ts, c1, hl1, rfl, hts, x1, hp1⟩ ha1
    have hj : j < 4 := by have := (List.getElem?_eq_some_iff.mp hx).1; simpa [rngD] using this
    refine ⟨trivial, ?_⟩
    simp only [gz8]
    refine t_takeA hp1 (by decide) (by decide) (by omega) fun r1 c2 S2 r10 r11 hp2 e2 => ?_
    simp only [gz8]
    refine t_takeA hp2 (by decide) (by decide) (by omega) fun r2 c3 S3 r20 r21 hp3 e3 => ?_
    simp only [gz8]
    have k13 : ∀ a, a ≠ p → S3 a = S1 a := fun a n => (e3 a n).trans (e2 a n)
    refine CompNext.mk ((k13 u up).trans ha1) (by rw [List.length_map, sizeLine_eq]; omega) ⟨ts ++ [⟨r1, r2, 1⟩], c3, by rw [List.length_append, hl1]; rfl, by rw [List.map_append]; rfl, fun t ht => ?_, fun a o n1 n2 e => by rw [put_ne n2, k13 a n1]; exact x1 a o n1 n2 e, by rw [put_ne (Ne.symm up), hp3]; congr 2⟩
    rcases List.mem_append.mp ht with h | h
    · exact hts t h
    · rw [List.mem_singleton.mp h]; exact ⟨by simp only; omega, by simp only; omega, by simp only; omega, by simp only; omega, by simp only; omega, by simp only; omega⟩
  rintro acc S1 ⟨ts0, c1, hl1, rfl, hts, x1, hp1⟩ ha1
  refine ⟨trivial, ?_⟩
  have hl1 : ts0.length = 4 := hl1
  have hp1 : S1 p = some (rowO c1 ((n + 8 : Nat) : Int)) := hp1
  have keep : ∀ S' : Sto, (∀ a o, a ≠ p → a ≠ u → S a = some o → S' a = some o) → LstK S' d (ws.map uwD) := fun S' x => by
    cases hd with
    | lst => exact .lst
    | ref h => exact .ref (x _ _ (fun z => dp (by rw [z])) (nu _ _ h) h)
  obtain ⟨G, eG, hG⟩ := (keep S1 x1).itx
  simp only [gz8, eG]
  refine wfor_inv (fun i σ S' => @KP ⟨∃ (ts : List Told) (c' : Int) (n' : Nat), (∃ b1 b2 b3 b4 b5 b6 b7 b8 b9 d1 d2 d3, σ = [some (.ref p), some (scD s), some d, some (.ref u), b1, b2, b3, b4, b5, b6, b7, b8, b9, d1, d2, d3]) ∧ S' u = some (.lst (ts.map toD)) ∧ ts.length ≤ 4 + i ∧ (∀ t ∈ ts, TSm t) ∧ (∀ a o, a ≠ p → a ≠ u → S a = some o → S' a = some o) ∧ S' p = some (rowO c' (n' : Int)) ∧ n' ≤ n + 8 + 3 * i⟩) ⟨ts0, c1, n + 8, ⟨_, _, _, _, _, _, _, _, _, _, _, _, rfl⟩, ha1, by omega, hts, x1, hp1, by omega⟩ ?_ ?_
  · rintro i x σ S2 hx ⟨ts, c2, n2, ⟨b1, b2, b3, b4, b5, b6, b7, b8, b9, d1, d2, d3, rfl⟩, hu2, lt2, hts2, x2, hp2, hn2⟩
    rw [List.getElem?_map] at hx
    cases ew : ws[i]? with
    | none => rw [ew] at hx; cases hx
    | some w =>
      rw [ew] at hx; cases hx
      have wm := List.mem_of_getElem? ew
      have il := (List.getElem?_eq_some_iff.mp ew).1
      obtain ⟨wf, wsn⟩ := hw w wm
      obtain ⟨f1, f2, f3, f4⟩ := wf
      obtain ⟨g1, g2, g3, g4⟩ := wsn
      refine ⟨hG _ (keep S2 x2), ?_⟩
      simp only [gz8]
      refine t_takeA hp2 (by decide) (by decide) (by omega) fun r1 c3 S3 r10 r11 hp3 e3 => ?_
      simp only [gz8]
      refine t_takeA hp3 (by omega) (Int.lt_trans (show (1 : Int) + r1 + 2 < 100 by omega) (by decide)) (by omega) fun r2 c4 S4 r20 r21 hp4 e4 => ?_
      have k24 : ∀ a, a ≠ p → S4 a = S2 a := fun a n => (e4 a n).trans (e3 a n)
      have hu4 : S4 u = some (.lst (ts.map toD)) := (k24 u up).trans hu2
      simp only [gz8, isLst_ref hu4, true_and]
      refine ⟨mok (by omega) (by omega), mok (by omega) (by omega), mok (by omega) (by omega), mok (by omega) (by omega), ?_⟩
      refine t_takeA (z := 5) hp4 (by decide) (by decide) (by omega) fun r3 c5 S5 r30 r31 hp5 e5 => ?_
      have k25 : ∀ a, a ≠ p → S5 a = S2 a := fun a n => (e5 a n).trans (k24 a n)
      have hu5 : S5 u = some (.lst (ts.map toD)) := (k25 u up).trans hu2
      simp only [gz8, hu5, olP_lst, List.length_map]
      refine ⟨by rw [sizeLine_eq]; omega, KP.mk ⟨ts ++ [⟨_, _, 1 + r1⟩], c5, n2 + 3, ⟨_, _, _, _, _, _, _, _, _, _, _, _, rfl⟩, by rw [put_same, List.map_append]; rfl, by rw [List.length_append, List.length_singleton]; omega, fun t ht => ?_, fun a o na nb e => by rw [put_ne nb, k25 a na]; exact x2 a o na nb e, by rw [put_ne (Ne.symm up), hp5], by omega⟩⟩
      rcases List.mem_append.mp ht with h | h
      · exact hts2 t h
      · have m1 : (w.1.1 * (1 + r1 - r2)).natAbs < 2 ^ 10 := natAbs_mul_lt (a := 7) (b := 3) (by omega) (by omega)
        have m2 : (w.1.2 * (1 + r1 - r2)).natAbs < 2 ^ 10 := natAbs_mul_lt (a := 7) (b := 3) (by omega) (by omega)
        have m3 : (w.2.1 * r2).natAbs < 2 ^ 10 := natAbs_mul_lt (a := 7) (b := 3) (by omega) (by omega)
        have m4 : (w.2.2 * r2).natAbs < 2 ^ 10 := natAbs_mul_lt (a := 7) (b := 3) (by omega) (by omega)
        rw [List.mem_singleton.mp h]
        exact ⟨by simp only; omega, by simp only; omega, by simp only; split <;> omega, by simp only; split <;> omega, by simp only; omega, by simp only; omega⟩
  · rintro σ S2 ⟨ts, c2, n2, ⟨b1, b2, b3, b4, b5, b6, b7, b8, b9, d1, d2, d3, rfl⟩, hu2, lt2, hts2, x2, hp2, hn2⟩
    rw [List.length_map] at lt2 hn2
    refine ⟨hG _ (keep S2 x2), ?_⟩
    simp only [gz8, scD, sqI_at hu2]
    intro v hv
    have vu : u ≠ v := fun z => by rw [z, hv] at hu2; cases hu2
    refine comp_map toD (fun t => spD (tsP s t)) ts rfl (by omega) (fun acc => by show olP _ = _; rw [put_ne vu, hu2]; rfl) ?_ ?_
    · intro t acc Q1 ht t1
      have h := hts2 t ht
      have b1 := hs.b1; have b2 := hs.b2; have n1 := h.n1; have n2 := h.n2
      have nb : (s.b * t.n).natAbs < 2 ^ 200 := by
        have : (s.b * t.n).natAbs < 2 ^ 150 := natAbs_mul_lt (a := 110) (b := 40) (by omega) (by omega)
        omega
      have nz : s.b * t.n ≠ 0 := Int.ne_of_gt (Int.mul_pos (by omega) (by omega))
      have b3 := hs.t1; have b4 := hs.t2; have h1 := h.x1; have h2 := h.x2; have h3 := h.y1; have h4 := h.y2
      simp only [gz8, toD]
      refine ⟨mulok_l (by omega) (by omega), mulok_r (by omega) (by omega), mulok_r (by omega) (by omega), t_low nz nb ?_⟩
      simp only [gz8]
      refine ⟨mulok_l (by omega) (by omega), mulok_r (by omega) (by omega), mulok_r (by omega) (by omega), t_low nz nb ?_⟩
      simp only [gz8]
      exact t1
    rw [del_put hv]
    simp only [gz8]
    have e : (ts.map fun t => spD (tsP s t)) = (ts.map (tsP s)).map spD := by rw [List.map_map]; rfl
    rw [e]
    refine k (ts.map (tsP s)) c2 n2 S2 (fun t ht => ?_) (by rw [List.length_map]; omega) (fun a o na e => ?_) hp2 (by omega)
    · obtain ⟨t', h', rfl⟩ := List.mem_map.mp ht
      exact ts_bd hs (hts2 t' h')
    · exact x2 a o na (nu _ _ e) e
theorem r_law : ∀ ds S Q E, spLaw ds S Q E → b_law (mends Q E) (mstart 7 ds) S := by
  rintro _ S Q E ⟨ns, rfl, hl, q⟩
  unfold b_law
  simp only [ML.q_mstart, ML.q_mends, List.map_cons, List.map_nil, List.replicate, List.cons_append, List.nil_append]
  simp only [gz8]
  refine ⟨by split <;> omega, ?_⟩
  refine rng_inv (fun i σ S' => @KP ⟨∃ a b c d e f g, σ = [some (.scr (ns.map .int)), a, b, c, d, e, f, g]⟩) ⟨_, _, _, _, _, _, _, rfl⟩ ?_ ?_
  · rintro i σ S1 - ⟨a, b, c, d, e, f, g, rfl⟩
    simp only [gz8]
    refine t_cell fun c0 => ?_
    simp only [gz8]
    intro p hp
    refine t_scale (n := 0) put_same (by decide) fun s c1 n1 hs hn1 => ?_
    simp only [gz8]
    refine t_uany (most := 5) rfl put_same (by omega) (by decide) (by decide) (by decide) fun ws q c2 n2 S2 an hn2 hq0 qp ext hp2 hq2 => ?_
    have hd2 : LstK S2 (.ref q) (ws.map uwD) := .ref hq2
    have lw : ws.length ≤ 6 := an.len
    simp only [gz8]
    refine ⟨s, .ref q, ws, rfl, hd2.seqk, by omega, hs, fun w hw => (an.ok w hw).mono (by decide), ?_⟩
    simp only [gz8]
    intro r hr
    have hU0 : UA ws := ⟨an.up, fun w hw => (an.ok w hw).mono (by decide), by omega⟩
    have hU := hU0.upA hs
    have hB := hU0.bw hs
    have hS := hU0.sol hs
    have lp : (pltW s ws).length = ws.length := plt_len s ws
    have eP : (ws.map fun w => wlD (afw s (ofW w))) = (pltW s ws).map wlD := by unfold pltW; rw [List.map_map]; rfl
    rw [eP]
    have r3 : put S2 r (.lst ((pltW s ws).map wlD)) r = some (.lst ((pltW s ws).map wlD)) := put_same
    have rp : r ≠ p := fun z => by rw [z, hp2] at hr; cases hr
    have x3 : Ext0 S2 (put S2 r (.lst ((pltW s ws).map wlD))) := ext0_put hr
    generalize put S2 r (.lst ((pltW s ws).map wlD)) = S3 at *
    have cnt := parted_count hU
    have c36 : (partedW (pltW s ws)).length ≤ 36 := by
      have : (pltW s ws).length * (pltW s ws).length ≤ 6 * 6 := Nat.mul_le_mul (by omega) (by omega)
      omega
    refine ⟨.ref r, pltW s ws, rfl, .ref r3, by omega, hB, hS, fun h => absurd h (by omega), fun _ S4 x4 => ?_⟩
    have hPb : ∀ v ∈ partedW (pltW s ws), BW v 400 := fun v hv => piece_bw hU hB hS hv
    have hPs : ∀ w ∈ partedW (pltW s ws), ∀ v ∈ partedW (pltW s ws), solB w v := fun w hw v hv => piece_sol hU hS hw hv
    have hPf := parted_fairs hU
    have hPa := parted_again hU
    have hPw := (parted_srt (pltW s ws)).imp_of_mem fun {a b} ha hb _ => hPs b hb a ha
    have cov := fun t : Pt => parted_cover (t := t) hU
    have pq4 : S4 p = some (rowO c2 n2) := x4 _ _ (x3 _ _ hp2)
    have q4 : LstK S4 (.ref q) (ws.map uwD) := (LstK.ref hq2).ext fun a o e => x4 a o (x3 a o e)
    have r4 : S4 r = some (.lst ((pltW s ws).map wlD)) := x4 _ _ r3
    generalize partedW (pltW s ws) = P at *
    simp only [gz8]
    refine jp (fun (σ : MSt) (S' : Sto) => Ext0 S4 S' ∧ ∃ e, σ = [some (.scr (ns.map .int)), some (.int (i : Nat)), some (.ref p), some (scD s), some (.ref q), some (.ref r), some (.tup (P.map wlD)), e]) ?_ ?_
    · simp only [gz8]
      refine t_plot .lst (by omega) hPb hPw hPf ?_
      simp only [gz8, look_tup, eqOk_twl, deq_twl, List.length_map]
      refine ⟨fun h24 => ?_, fun h24 => ?_⟩
      · simp only [gz8]
        refine ⟨.lst (P.map wlD), P, rfl, .lst, by omega, hPb, hPs, fun h => absurd h (by rw [hPa]; omega), fun _ S5 x5 => ?_⟩
        rw [hPa]
        simp only [gz8, look_tup, eqOk_twl, deq_twl]
        exact ⟨x5, _, rfl⟩
      · simp only [gz8]
        exact ⟨fun _ _ e => e, _, rfl⟩
    rintro σ S5 ⟨x5, e0, rfl⟩
    have r5 := x5 _ _ r4
    simp only [gz8]
    refine ⟨p, c2, n2, s, .ref q, ws, rfl, x5 _ _ pq4, by omega, hs, q4.ext x5, fun z => qp (by cases z; rfl), by omega, fun w hw => (an.ok w hw).mono (by decide), fun ts c3 n3 S6 hts lts x6 hp6 hn6 => ?_⟩
    have r6 : S6 r = some (.lst ((pltW s ws).map wlD)) := x6 _ _ rp r5
    simp only [gz8]
    refine wfor_inv (fun _ σ S' => @KP ⟨(∃ e, σ = [some (.scr (ns.map .int)), some (.int (i : Nat)), some (.ref p), some (scD s), some (.ref q), some (.ref r), some (.tup (P.map wlD)), e]) ∧ S' = S6⟩) ⟨⟨_, rfl⟩, rfl⟩ ?_ ?_
    · rintro j x σ S7 hx ⟨⟨e, rfl⟩, rfl⟩
      rw [List.getElem?_map] at hx
      cases et : ts[j]? with
      | none => rw [et] at hx; cases hx
      | some t =>
        rw [et] at hx; cases hx
        have ht := hts t (List.mem_of_getElem? et)
        simp only [gz8]
        refine ⟨.ref r, pltW s ws, t, rfl, .inl (.ref r6), by omega, hB, ht, ?_⟩
        simp only [gz8]
        refine ⟨.tup (P.map wlD), P, t, rfl, .inr rfl, by omega, hPb, ht, ?_⟩
        simp only [gz8, decide_eq_decide.mpr (cov t)]
        exact KP.mk ⟨⟨_, rfl⟩, rfl⟩
    · rintro σ S7 ⟨⟨e, rfl⟩, rfl⟩
      simp only [gz8]
      exact KP.mk ⟨_, _, _, _, _, _, _, rfl⟩
  · rintro σ S1 ⟨a, b, c, d, e, f, g, rfl⟩
    simp only [gz8]
    exact q _
end Lk12
set_option maxRecDepth 100000
set_option maxHeartbeats 0
namespace Lk12
open PySem PySem.Spec L2 ML
open PyProof.Rows hiding St
section
variable {P : Program} {w : World} {K : PySem.W.Frag} {mg : Str → Option Value} {base : Heap}
abbrev FnP (K : PySem.W.Frag) (x : Str) (st : Stmt) (f : Addr) (fd : FuncData) : Prop := FunD K x x (defArgs st) (defBody st) (defScope st) [] [] f fd
abbrev FnM (K : PySem.W.Frag) (x q : Str) (st : Stmt) (f : Addr) (fd : FuncData) : Prop := FunD K x q (defArgs st) (defBody st) (defScope st) [] [] f fd
theorem fn_divisor {f : Addr} {fd : FuncData} (T : Txt K mg) (F : FnP K "divisor" s_divisor f fd)  : FnOk P w K mg base (L2.CX P w) 1 f fd ["one", "other"] (upSp K FL.sp_divisor) :=
  fn_mk (N := ["one", "other"]) F sc_divisor rfl l_divisor (fun _ _ _ _ _ _ hr => d_divisor T  hr) r_divisor
theorem h_divisor {f : Addr} {fd : FuncData} (T : Txt K mg) (F : FnP K "divisor" s_divisor f fd) (g : mg "divisor" = some (.ref f))  : Has P w K mg base "divisor" ["one", "other"] 1 FL.sp_divisor :=
  ⟨f, fd, g, F.kp, F.bindsN fun _ _ _ _ _ _ us hl => match us, hl with | [_, _], _ => rfl, fn_divisor T F ⟩
theorem fn_is_less {f : Addr} {fd : FuncData} (T : Txt K mg) (F : FnP K "is_less" s_is_less f fd)  : FnOk P w K mg base (L2.CX P w) 1 f fd ["one", "other"] (upSp K FL.sp_is_less) :=
  fn_mk (N := ["one", "other"]) F sc_is_less rfl l_is_less (fun _ _ _ _ _ _ hr => d_is_less T  hr) r_is_less
theorem h_is_less {f : Addr} {fd : FuncData} (T : Txt K mg) (F : FnP K "is_less" s_is_less f fd) (g : mg "is_less" = some (.ref f))  : Has P w K mg base "is_less" ["one", "other"] 1 FL.sp_is_less :=
  ⟨f, fd, g, F.kp, F.bindsN fun _ _ _ _ _ _ us hl => match us, hl with | [_, _], _ => rfl, fn_is_less T F ⟩
theorem fn_law_cell_at {f : Addr} {fd : FuncData} (T : Txt K mg) (F : FnP K "_law_cell_at" s_law_cell_at f fd)  : FnOk P w K mg base (L2.CX P w) 1 f fd ["_law_script", "_law_k"] (upSp K FL.sp_cell_at) :=
  fn_mk (N := ["_law_script", "_law_k"]) F sc_law_cell_at rfl l_law_cell_at (fun _ _ _ _ _ _ hr => d_law_cell_at T  hr) r_law_cell_at
theorem h_law_cell_at {f : Addr} {fd : FuncData} (T : Txt K mg) (F : FnP K "_law_cell_at" s_law_cell_at f fd) (g : mg "_law_cell_at" = some (.ref f))  : Has P w K mg base "_law_cell_at" ["_law_script", "_law_k"] 1 FL.sp_cell_at :=
  ⟨f, fd, g, F.kp, F.bindsN fun _ _ _ _ _ _ us hl => match us, hl with | [_, _], _ => rfl, fn_law_cell_at T F ⟩
theorem fn_law_take {f : Addr} {fd : FuncData} (T : Txt K mg) (F : FnP K "_law_take" s_law_take f fd)  : FnOk P w K mg base (L2.CX P w) 1 f fd ["_law_row", "_law_base"] (upSp K FL.sp_take) :=
  fn_mk (N := ["_law_row", "_law_base", "_law_rest", "_law_number"]) F sc_law_take rfl l_law_take (fun _ _ _ _ _ _ hr => d_law_take T  hr) r_law_take
theorem h_law_take {f : Addr} {fd : FuncData} (T : Txt K mg) (F : FnP K "_law_take" s_law_take f fd) (g : mg "_law_take" = some (.ref f))  : Has P w K mg base "_law_take" ["_law_row", "_law_base"] 1 FL.sp_take :=
  ⟨f, fd, g, F.kp, F.bindsN fun _ _ _ _ _ _ us hl => match us, hl with | [_, _], _ => rfl, fn_law_take T F ⟩
theorem fn_law_low {f : Addr} {fd : FuncData} (T : Txt K mg) (F : FnP K "_law_low" s_law_low f fd)  : FnOk P w K mg base (L2.CX P w) 1 f fd ["_law_top", "_law_bottom"] (upSp K FL.sp_low) :=
  fn_mk (N := ["_law_top", "_law_bottom", "_law_one", "_law_other"]) F sc_law_low rfl l_law_low (fun _ _ _ _ _ _ hr => d_law_low T  hr) r_law_low
theorem h_law_low {f : Addr} {fd : FuncData} (T : Txt K mg) (F : FnP K "_law_low" s_law_low f fd) (g : mg "_law_low" = some (.ref f))  : Has P w K mg base "_law_low" ["_law_top", "_law_bottom"] 1 FL.sp_low :=
  ⟨f, fd, g, F.kp, F.bindsN fun _ _ _ _ _ _ us hl => match us, hl with | [_, _], _ => rfl, fn_law_low T F ⟩
theorem fn_fraction {f : Addr} {fd : FuncData} (T : Txt K mg) (F : FnP K "fraction" s_fraction f fd) (h_divisor : Has P w K mg base "divisor" ["one", "other"] 1 FL.sp_divisor) : FnOk P w K mg base (L2.CX P w) 2 f fd ["top", "bottom"] (upSp K FL.sp_low) :=
  fn_mk (N := ["top", "bottom", "by"]) F sc_fraction rfl l_fraction (fun _ _ _ _ _ _ hr => d_fraction T h_divisor hr) r_fraction
theorem h_fraction {f : Addr} {fd : FuncData} (T : Txt K mg) (F : FnP K "fraction" s_fraction f fd) (g : mg "fraction" = some (.ref f)) (h_divisor : Has P w K mg base "divisor" ["one", "other"] 1 FL.sp_divisor) : Has P w K mg base "fraction" ["top", "bottom"] 2 FL.sp_low :=
  ⟨f, fd, g, F.kp, F.bindsN fun _ _ _ _ _ _ us hl => match us, hl with | [_, _], _ => rfl, fn_fraction T F h_divisor⟩
theorem fn_is_ahead {f : Addr} {fd : FuncData} (T : Txt K mg) (F : FnP K "is_ahead" s_is_ahead f fd) (h_is_less : Has P w K mg base "is_less" ["one", "other"] 1 FL.sp_is_less) : FnOk P w K mg base (L2.CX P w) 2 f fd ["one", "other"] (upSp K FL.sp_is_ahead) :=
  fn_mk (N := ["one", "other"]) F sc_is_ahead rfl l_is_ahead (fun _ _ _ _ _ _ hr => d_is_ahead T h_is_less hr) r_is_ahead
theorem h_is_ahead {f : Addr} {fd : FuncData} (T : Txt K mg) (F : FnP K "is_ahead" s_is_ahead f fd) (g : mg "is_ahead" = some (.ref f)) (h_is_less : Has P w K mg base "is_less" ["one", "other"] 1 FL.sp_is_less) : Has P w K mg base "is_ahead" ["one", "other"] 2 FL.sp_is_ahead :=
  ⟨f, fd, g, F.kp, F.bindsN fun _ _ _ _ _ _ us hl => match us, hl with | [_, _], _ => rfl, fn_is_ahead T F h_is_less⟩
theorem fn_law_scale {f : Addr} {fd : FuncData} (T : Txt K mg) (F : FnP K "_law_scale" s_law_scale f fd) (h_law_take : Has P w K mg base "_law_take" ["_law_row", "_law_base"] 1 FL.sp_take) : FnOk P w K mg base (L2.CX P w) 2 f fd ["_law_row"] (upSp K FL.sp_scale) :=
  fn_mk (N := ["_law_row", "_law_top", "_law_bottom", "_law_far"]) F sc_law_scale rfl l_law_scale (fun _ _ _ _ _ _ hr => d_law_scale T h_law_take hr) r_law_scale
theorem h_law_scale {f : Addr} {fd : FuncData} (T : Txt K mg) (F : FnP K "_law_scale" s_law_scale f fd) (g : mg "_law_scale" = some (.ref f)) (h_law_take : Has P w K mg base "_law_take" ["_law_row", "_law_base"] 1 FL.sp_take) : Has P w K mg base "_law_scale" ["_law_row"] 2 FL.sp_scale :=
  ⟨f, fd, g, F.kp, F.bindsN fun _ _ _ _ _ _ us hl => match us, hl with | [_], _ => rfl, fn_law_scale T F h_law_take⟩
theorem fn_law_spot {f : Addr} {fd : FuncData} (T : Txt K mg) (F : FnP K "_law_spot" s_law_spot f fd) (h_law_low : Has P w K mg base "_law_low" ["_law_top", "_law_bottom"] 1 FL.sp_low) : FnOk P w K mg base (L2.CX P w) 2 f fd ["_law_scale_here", "_law_unit"] (upSp K FL.sp_uspot) :=
  fn_mk (N := ["_law_scale_here", "_law_unit", "_law_top", "_law_bottom", "_law_x", "_law_y"]) F sc_law_spot rfl l_law_spot (fun _ _ _ _ _ _ hr => d_law_spot T h_law_low hr) r_law_spot
theorem h_law_spot {f : Addr} {fd : FuncData} (T : Txt K mg) (F : FnP K "_law_spot" s_law_spot f fd) (g : mg "_law_spot" = some (.ref f)) (h_law_low : Has P w K mg base "_law_low" ["_law_top", "_law_bottom"] 1 FL.sp_low) : Has P w K mg base "_law_spot" ["_law_scale_here", "_law_unit"] 2 FL.sp_uspot :=
  ⟨f, fd, g, F.kp, F.bindsN fun _ _ _ _ _ _ us hl => match us, hl with | [_, _], _ => rfl, fn_law_spot T F h_law_low⟩
theorem fn_law_any {f : Addr} {fd : FuncData} (T : Txt K mg) (F : FnP K "_law_any" s_law_any f fd) (h_law_take : Has P w K mg base "_law_take" ["_law_row", "_law_base"] 1 FL.sp_take) : FnOk P w K mg base (L2.CX P w) 2 f fd ["_law_row", "_law_most", "_law_size"] (upSp K FL.sp_uany) :=
  fn_mk (N := ["_law_row", "_law_most", "_law_size", "_law_shuts", "_law_turn", "_law_one", "_law_other"]) F sc_law_any rfl l_law_any (fun _ _ _ _ _ _ hr => d_law_any T h_law_take hr) r_law_any
theorem h_law_any {f : Addr} {fd : FuncData} (T : Txt K mg) (F : FnP K "_law_any" s_law_any f fd) (g : mg "_law_any" = some (.ref f)) (h_law_take : Has P w K mg base "_law_take" ["_law_row", "_law_base"] 1 FL.sp_take) : Has P w K mg base "_law_any" ["_law_row", "_law_most", "_law_size"] 2 FL.sp_uany :=
  ⟨f, fd, g, F.kp, F.bindsN fun _ _ _ _ _ _ us hl => match us, hl with | [_, _, _], _ => rfl, fn_law_any T F h_law_take⟩
theorem fn_law_spots {f : Addr} {fd : FuncData} (T : Txt K mg) (F : FnP K "_law_spots" s_law_spots f fd) (h_law_low : Has P w K mg base "_law_low" ["_law_top", "_law_bottom"] 1 FL.sp_low) (h_law_take : Has P w K mg base "_law_take" ["_law_row", "_law_base"] 1 FL.sp_take) : FnOk P w K mg base (L2.CX P w) 2 f fd ["_law_row", "_law_scale_here", "_law_shuts"] (upSp K sp_law_spots) :=
  fn_mk (N := ["_law_row", "_law_scale_here", "_law_shuts", "_law_told", "_law_turn", "_law_first", "_law_second", "_law_below", "_law_part", "_law_x", "_law_y", "_law_top", "_law_bottom", "_law_far", "_law_up", "_law_n"]) F sc_law_spots rfl l_law_spots (fun _ _ _ _ _ _ hr => d_law_spots T h_law_low h_law_take hr) r_law_spots
theorem h_law_spots {f : Addr} {fd : FuncData} (T : Txt K mg) (F : FnP K "_law_spots" s_law_spots f fd) (g : mg "_law_spots" = some (.ref f)) (h_law_low : Has P w K mg base "_law_low" ["_law_top", "_law_bottom"] 1 FL.sp_low) (h_law_take : Has P w K mg base "_law_take" ["_law_row", "_law_base"] 1 FL.sp_take) : Has P w K mg base "_law_spots" ["_law_row", "_law_scale_here", "_law_shuts"] 2 sp_law_spots :=
  ⟨f, fd, g, F.kp, F.bindsN fun _ _ _ _ _ _ us hl => match us, hl with | [_, _, _], _ => rfl, fn_law_spots T F h_law_low h_law_take⟩
theorem fn_plus {f : Addr} {fd : FuncData} (T : Txt K mg) (F : FnP K "plus" s_plus f fd) (h_fraction : Has P w K mg base "fraction" ["top", "bottom"] 2 FL.sp_low) : FnOk P w K mg base (L2.CX P w) 3 f fd ["one", "other"] (upSp K FL.sp_plus) :=
  fn_mk (N := ["one", "other"]) F sc_plus rfl l_plus (fun _ _ _ _ _ _ hr => d_plus T h_fraction hr) r_plus
theorem h_plus {f : Addr} {fd : FuncData} (T : Txt K mg) (F : FnP K "plus" s_plus f fd) (g : mg "plus" = some (.ref f)) (h_fraction : Has P w K mg base "fraction" ["top", "bottom"] 2 FL.sp_low) : Has P w K mg base "plus" ["one", "other"] 3 FL.sp_plus :=
  ⟨f, fd, g, F.kp, F.bindsN fun _ _ _ _ _ _ us hl => match us, hl with | [_, _], _ => rfl, fn_plus T F h_fraction⟩
theorem fn_less {f : Addr} {fd : FuncData} (T : Txt K mg) (F : FnP K "less" s_less f fd) (h_fraction : Has P w K mg base "fraction" ["top", "bottom"] 2 FL.sp_low) : FnOk P w K mg base (L2.CX P w) 3 f fd ["one", "other"] (upSp K FL.sp_less) :=
  fn_mk (N := ["one", "other"]) F sc_less rfl l_less (fun _ _ _ _ _ _ hr => d_less T h_fraction hr) r_less
theorem h_less {f : Addr} {fd : FuncData} (T : Txt K mg) (F : FnP K "less" s_less f fd) (g : mg "less" = some (.ref f)) (h_fraction : Has P w K mg base "fraction" ["top", "bottom"] 2 FL.sp_low) : Has P w K mg base "less" ["one", "other"] 3 FL.sp_less :=
  ⟨f, fd, g, F.kp, F.bindsN fun _ _ _ _ _ _ us hl => match us, hl with | [_, _], _ => rfl, fn_less T F h_fraction⟩
theorem fn_times {f : Addr} {fd : FuncData} (T : Txt K mg) (F : FnP K "times" s_times f fd) (h_fraction : Has P w K mg base "fraction" ["top", "bottom"] 2 FL.sp_low) : FnOk P w K mg base (L2.CX P w) 3 f fd ["one", "other"] (upSp K FL.sp_times) :=
  fn_mk (N := ["one", "other"]) F sc_times rfl l_times (fun _ _ _ _ _ _ hr => d_times T h_fraction hr) r_times
theorem h_times {f : Addr} {fd : FuncData} (T : Txt K mg) (F : FnP K "times" s_times f fd) (g : mg "times" = some (.ref f)) (h_fraction : Has P w K mg base "fraction" ["top", "bottom"] 2 FL.sp_low) : Has P w K mg base "times" ["one", "other"] 3 FL.sp_times :=
  ⟨f, fd, g, F.kp, F.bindsN fun _ _ _ _ _ _ us hl => match us, hl with | [_, _], _ => rfl, fn_times T F h_fraction⟩
theorem fn_over {f : Addr} {fd : FuncData} (T : Txt K mg) (F : FnP K "over" s_over f fd) (h_fraction : Has P w K mg base "fraction" ["top", "bottom"] 2 FL.sp_low) : FnOk P w K mg base (L2.CX P w) 3 f fd ["one", "other"] (upSp K FL.sp_over) :=
  fn_mk (N := ["one", "other"]) F sc_over rfl l_over (fun _ _ _ _ _ _ hr => d_over T h_fraction hr) r_over
theorem h_over {f : Addr} {fd : FuncData} (T : Txt K mg) (F : FnP K "over" s_over f fd) (g : mg "over" = some (.ref f)) (h_fraction : Has P w K mg base "fraction" ["top", "bottom"] 2 FL.sp_low) : Has P w K mg base "over" ["one", "other"] 3 FL.sp_over :=
  ⟨f, fd, g, F.kp, F.bindsN fun _ _ _ _ _ _ us hl => match us, hl with | [_, _], _ => rfl, fn_over T F h_fraction⟩
theorem fn_passed {f : Addr} {fd : FuncData} (T : Txt K mg) (F : FnP K "passed" s_passed f fd) (h_is_ahead : Has P w K mg base "is_ahead" ["one", "other"] 2 FL.sp_is_ahead) : FnOk P w K mg base (L2.CX P w) 3 f fd ["spots", "spot"] (upSp K FL.sp_passed) :=
  fn_mk (N := ["spots", "spot", "low", "high", "middle"]) F sc_passed rfl l_passed (fun _ _ _ _ _ _ hr => d_passed T h_is_ahead hr) r_passed
theorem h_passed {f : Addr} {fd : FuncData} (T : Txt K mg) (F : FnP K "passed" s_passed f fd) (g : mg "passed" = some (.ref f)) (h_is_ahead : Has P w K mg base "is_ahead" ["one", "other"] 2 FL.sp_is_ahead) : Has P w K mg base "passed" ["spots", "spot"] 3 FL.sp_passed :=
  ⟨f, fd, g, F.kp, F.bindsN fun _ _ _ _ _ _ us hl => match us, hl with | [_, _], _ => rfl, fn_passed T F h_is_ahead⟩
theorem fn_is_sooner {f : Addr} {fd : FuncData} (T : Txt K mg) (F : FnP K "is_sooner" s_is_sooner f fd) (h_is_ahead : Has P w K mg base "is_ahead" ["one", "other"] 2 FL.sp_is_ahead) : FnOk P w K mg base (L2.CX P w) 3 f fd ["one", "other"] (upSp K FL.sp_is_sooner) :=
  fn_mk (N := ["one", "other"]) F sc_is_sooner rfl l_is_sooner (fun _ _ _ _ _ _ hr => d_is_sooner T h_is_ahead hr) r_is_sooner
theorem h_is_sooner {f : Addr} {fd : FuncData} (T : Txt K mg) (F : FnP K "is_sooner" s_is_sooner f fd) (g : mg "is_sooner" = some (.ref f)) (h_is_ahead : Has P w K mg base "is_ahead" ["one", "other"] 2 FL.sp_is_ahead) : Has P w K mg base "is_sooner" ["one", "other"] 3 FL.sp_is_sooner :=
  ⟨f, fd, g, F.kp, F.bindsN fun _ _ _ _ _ _ us hl => match us, hl with | [_, _], _ => rfl, fn_is_sooner T F h_is_ahead⟩
theorem fn_law_made {f : Addr} {fd : FuncData} (T : Txt K mg) (F : FnP K "_law_made" s_law_made f fd) (h_law_spot : Has P w K mg base "_law_spot" ["_law_scale_here", "_law_unit"] 2 FL.sp_uspot) : FnOk P w K mg base (L2.CX P w) 3 f fd ["_law_scale_here", "_law_shuts"] (upSp K FL.sp_made) :=
  fn_mk (N := ["_law_scale_here", "_law_shuts", "_law_first", "_law_second"]) F sc_law_made rfl l_law_made (fun _ _ _ _ _ _ hr => d_law_made T h_law_spot hr) r_law_made
theorem h_law_made {f : Addr} {fd : FuncData} (T : Txt K mg) (F : FnP K "_law_made" s_law_made f fd) (g : mg "_law_made" = some (.ref f)) (h_law_spot : Has P w K mg base "_law_spot" ["_law_scale_here", "_law_unit"] 2 FL.sp_uspot) : Has P w K mg base "_law_made" ["_law_scale_here", "_law_shuts"] 3 FL.sp_made :=
  ⟨f, fd, g, F.kp, F.bindsN fun _ _ _ _ _ _ us hl => match us, hl with | [_, _], _ => rfl, fn_law_made T F h_law_spot⟩
theorem fn_along {f : Addr} {fd : FuncData} (T : Txt K mg) (F : FnP K "along" s_along f fd) (h_less : Has P w K mg base "less" ["one", "other"] 3 FL.sp_less) : FnOk P w K mg base (L2.CX P w) 4 f fd ["wall"] (upSp K FL.sp_along) :=
  fn_mk (N := ["wall", "first", "second"]) F sc_along rfl l_along (fun _ _ _ _ _ _ hr => d_along T h_less hr) r_along
theorem h_along {f : Addr} {fd : FuncData} (T : Txt K mg) (F : FnP K "along" s_along f fd) (g : mg "along" = some (.ref f)) (h_less : Has P w K mg base "less" ["one", "other"] 3 FL.sp_less) : Has P w K mg base "along" ["wall"] 4 FL.sp_along :=
  ⟨f, fd, g, F.kp, F.bindsN fun _ _ _ _ _ _ us hl => match us, hl with | [_], _ => rfl, fn_along T F h_less⟩
theorem fn_crossed {f : Addr} {fd : FuncData} (T : Txt K mg) (F : FnP K "crossed" s_crossed f fd) (h_less : Has P w K mg base "less" ["one", "other"] 3 FL.sp_less) (h_times : Has P w K mg base "times" ["one", "other"] 3 FL.sp_times) : FnOk P w K mg base (L2.CX P w) 4 f fd ["one", "other"] (upSp K FL.sp_crossed) :=
  fn_mk (N := ["one", "other"]) F sc_crossed rfl l_crossed (fun _ _ _ _ _ _ hr => d_crossed T h_less h_times hr) r_crossed
theorem h_crossed {f : Addr} {fd : FuncData} (T : Txt K mg) (F : FnP K "crossed" s_crossed f fd) (g : mg "crossed" = some (.ref f)) (h_less : Has P w K mg base "less" ["one", "other"] 3 FL.sp_less) (h_times : Has P w K mg base "times" ["one", "other"] 3 FL.sp_times) : Has P w K mg base "crossed" ["one", "other"] 4 FL.sp_crossed :=
  ⟨f, fd, g, F.kp, F.bindsN fun _ _ _ _ _ _ us hl => match us, hl with | [_, _], _ => rfl, fn_crossed T F h_less h_times⟩
theorem fn_put_in_row {f : Addr} {fd : FuncData} (T : Txt K mg) (F : FnP K "put_in_row" s_put_in_row f fd) (h_passed : Has P w K mg base "passed" ["spots", "spot"] 3 FL.sp_passed) : FnOk P w K mg base (L2.CX P w) 4 f fd ["spots", "spot"] (upSp K FL.sp_put_in_row) :=
  fn_mk (N := ["spots", "spot", "at"]) F sc_put_in_row rfl l_put_in_row (fun _ _ _ _ _ _ hr => d_put_in_row T h_passed hr) r_put_in_row
theorem h_put_in_row {f : Addr} {fd : FuncData} (T : Txt K mg) (F : FnP K "put_in_row" s_put_in_row f fd) (g : mg "put_in_row" = some (.ref f)) (h_passed : Has P w K mg base "passed" ["spots", "spot"] 3 FL.sp_passed) : Has P w K mg base "put_in_row" ["spots", "spot"] 4 FL.sp_put_in_row :=
  ⟨f, fd, g, F.kp, F.bindsN fun _ _ _ _ _ _ us hl => match us, hl with | [_, _], _ => rfl, fn_put_in_row T F h_passed⟩
theorem fn_put_wall {f : Addr} {fd : FuncData} (T : Txt K mg) (F : FnP K "put_wall" s_put_wall f fd) (h_is_sooner : Has P w K mg base "is_sooner" ["one", "other"] 3 FL.sp_is_sooner) : FnOk P w K mg base (L2.CX P w) 4 f fd ["walls", "wall"] (upSp K FL.sp_put_wall) :=
  fn_mk (N := ["walls", "wall", "at"]) F sc_put_wall rfl l_put_wall (fun _ _ _ _ _ _ hr => d_put_wall T h_is_sooner hr) r_put_wall
theorem h_put_wall {f : Addr} {fd : FuncData} (T : Txt K mg) (F : FnP K "put_wall" s_put_wall f fd) (g : mg "put_wall" = some (.ref f)) (h_is_sooner : Has P w K mg base "is_sooner" ["one", "other"] 3 FL.sp_is_sooner) : Has P w K mg base "put_wall" ["walls", "wall"] 4 FL.sp_put_wall :=
  ⟨f, fd, g, F.kp, F.bindsN fun _ _ _ _ _ _ us hl => match us, hl with | [_, _], _ => rfl, fn_put_wall T F h_is_sooner⟩
theorem fn_leaning {f : Addr} {fd : FuncData} (T : Txt K mg) (F : FnP K "leaning" s_leaning f fd) (h_crossed : Has P w K mg base "crossed" ["one", "other"] 4 FL.sp_crossed) : FnOk P w K mg base (L2.CX P w) 5 f fd ["one", "other"] (upSp K FL.sp_leaning) :=
  fn_mk (N := ["one", "other", "found"]) F sc_leaning rfl l_leaning (fun _ _ _ _ _ _ hr => d_leaning T h_crossed hr) r_leaning
theorem h_leaning {f : Addr} {fd : FuncData} (T : Txt K mg) (F : FnP K "leaning" s_leaning f fd) (g : mg "leaning" = some (.ref f)) (h_crossed : Has P w K mg base "crossed" ["one", "other"] 4 FL.sp_crossed) : Has P w K mg base "leaning" ["one", "other"] 5 FL.sp_leaning :=
  ⟨f, fd, g, F.kp, F.bindsN fun _ _ _ _ _ _ us hl => match us, hl with | [_, _], _ => rfl, fn_leaning T F h_crossed⟩
theorem fn_spot_of_lines {f : Addr} {fd : FuncData} (T : Txt K mg) (F : FnP K "spot_of_lines" s_spot_of_lines f fd) (h_plus : Has P w K mg base "plus" ["one", "other"] 3 FL.sp_plus) (h_times : Has P w K mg base "times" ["one", "other"] 3 FL.sp_times) (h_over : Has P w K mg base "over" ["one", "other"] 3 FL.sp_over) (h_crossed : Has P w K mg base "crossed" ["one", "other"] 4 FL.sp_crossed) (h_along : Has P w K mg base "along" ["wall"] 4 FL.sp_along) : FnOk P w K mg base (L2.CX P w) 5 f fd ["one", "other"] (upSp K FL.sp_spot_of_lines) :=
  fn_mk (N := ["one", "other", "far", "part"]) F sc_spot_of_lines rfl l_spot_of_lines (fun _ _ _ _ _ _ hr => d_spot_of_lines T h_plus h_times h_over h_crossed h_along hr) r_spot_of_lines
theorem h_spot_of_lines {f : Addr} {fd : FuncData} (T : Txt K mg) (F : FnP K "spot_of_lines" s_spot_of_lines f fd) (g : mg "spot_of_lines" = some (.ref f)) (h_plus : Has P w K mg base "plus" ["one", "other"] 3 FL.sp_plus) (h_times : Has P w K mg base "times" ["one", "other"] 3 FL.sp_times) (h_over : Has P w K mg base "over" ["one", "other"] 3 FL.sp_over) (h_crossed : Has P w K mg base "crossed" ["one", "other"] 4 FL.sp_crossed) (h_along : Has P w K mg base "along" ["wall"] 4 FL.sp_along) : Has P w K mg base "spot_of_lines" ["one", "other"] 5 FL.sp_spot_of_lines :=
  ⟨f, fd, g, F.kp, F.bindsN fun _ _ _ _ _ _ us hl => match us, hl with | [_, _], _ => rfl, fn_spot_of_lines T F h_plus h_times h_over h_crossed h_along⟩
theorem fn_side_of {f : Addr} {fd : FuncData} (T : Txt K mg) (F : FnP K "side_of" s_side_of f fd) (h_leaning : Has P w K mg base "leaning" ["one", "other"] 5 FL.sp_leaning) (h_along : Has P w K mg base "along" ["wall"] 4 FL.sp_along) : FnOk P w K mg base (L2.CX P w) 6 f fd ["wall", "spot"] (upSp K FL.sp_side_of) :=
  fn_mk (N := ["wall", "spot"]) F sc_side_of rfl l_side_of (fun _ _ _ _ _ _ hr => d_side_of T h_leaning h_along hr) r_side_of
theorem h_side_of {f : Addr} {fd : FuncData} (T : Txt K mg) (F : FnP K "side_of" s_side_of f fd) (g : mg "side_of" = some (.ref f)) (h_leaning : Has P w K mg base "leaning" ["one", "other"] 5 FL.sp_leaning) (h_along : Has P w K mg base "along" ["wall"] 4 FL.sp_along) : Has P w K mg base "side_of" ["wall", "spot"] 6 FL.sp_side_of :=
  ⟨f, fd, g, F.kp, F.bindsN fun _ _ _ _ _ _ us hl => match us, hl with | [_, _], _ => rfl, fn_side_of T F h_leaning h_along⟩
theorem fn_lies_on {f : Addr} {fd : FuncData} (T : Txt K mg) (F : FnP K "lies_on" s_lies_on f fd) (h_side_of : Has P w K mg base "side_of" ["wall", "spot"] 6 FL.sp_side_of) (h_is_ahead : Has P w K mg base "is_ahead" ["one", "other"] 2 FL.sp_is_ahead) : FnOk P w K mg base (L2.CX P w) 7 f fd ["wall", "spot"] (upSp K FL.sp_lies_on) :=
  fn_mk (N := ["wall", "spot", "first", "second"]) F sc_lies_on rfl l_lies_on (fun _ _ _ _ _ _ hr => d_lies_on T h_side_of h_is_ahead hr) r_lies_on
theorem h_lies_on {f : Addr} {fd : FuncData} (T : Txt K mg) (F : FnP K "lies_on" s_lies_on f fd) (g : mg "lies_on" = some (.ref f)) (h_side_of : Has P w K mg base "side_of" ["wall", "spot"] 6 FL.sp_side_of) (h_is_ahead : Has P w K mg base "is_ahead" ["one", "other"] 2 FL.sp_is_ahead) : Has P w K mg base "lies_on" ["wall", "spot"] 7 FL.sp_lies_on :=
  ⟨f, fd, g, F.kp, F.bindsN fun _ _ _ _ _ _ us hl => match us, hl with | [_, _], _ => rfl, fn_lies_on T F h_side_of h_is_ahead⟩
theorem fn_meeting_in_line {f : Addr} {fd : FuncData} (T : Txt K mg) (F : FnP K "meeting_in_line" s_meeting_in_line f fd) (h_is_ahead : Has P w K mg base "is_ahead" ["one", "other"] 2 FL.sp_is_ahead) (h_side_of : Has P w K mg base "side_of" ["wall", "spot"] 6 FL.sp_side_of) : FnOk P w K mg base (L2.CX P w) 7 f fd ["one", "other"] (upSp K FL.sp_meeting_in_line) :=
  fn_mk (N := ["one", "other", "first", "second"]) F sc_meeting_in_line rfl l_meeting_in_line (fun _ _ _ _ _ _ hr => d_meeting_in_line T h_is_ahead h_side_of hr) r_meeting_in_line
theorem h_meeting_in_line {f : Addr} {fd : FuncData} (T : Txt K mg) (F : FnP K "meeting_in_line" s_meeting_in_line f fd) (g : mg "meeting_in_line" = some (.ref f)) (h_is_ahead : Has P w K mg base "is_ahead" ["one", "other"] 2 FL.sp_is_ahead) (h_side_of : Has P w K mg base "side_of" ["wall", "spot"] 6 FL.sp_side_of) : Has P w K mg base "meeting_in_line" ["one", "other"] 7 FL.sp_meeting_in_line :=
  ⟨f, fd, g, F.kp, F.bindsN fun _ _ _ _ _ _ us hl => match us, hl with | [_, _], _ => rfl, fn_meeting_in_line T F h_is_ahead h_side_of⟩
theorem fn_meeting {f : Addr} {fd : FuncData} (T : Txt K mg) (F : FnP K "meeting" s_meeting f fd) (h_lies_on : Has P w K mg base "lies_on" ["wall", "spot"] 7 FL.sp_lies_on) (h_spot_of_lines : Has P w K mg base "spot_of_lines" ["one", "other"] 5 FL.sp_spot_of_lines) (h_leaning : Has P w K mg base "leaning" ["one", "other"] 5 FL.sp_leaning) (h_along : Has P w K mg base "along" ["wall"] 4 FL.sp_along) (h_meeting_in_line : Has P w K mg base "meeting_in_line" ["one", "other"] 7 FL.sp_meeting_in_line) : FnOk P w K mg base (L2.CX P w) 8 f fd ["one", "other"] (upSp K FL.sp_meeting) :=
  fn_mk (N := ["one", "other", "spot"]) F sc_meeting rfl l_meeting (fun _ _ _ _ _ _ hr => d_meeting T h_lies_on h_spot_of_lines h_leaning h_along h_meeting_in_line hr) r_meeting
theorem h_meeting {f : Addr} {fd : FuncData} (T : Txt K mg) (F : FnP K "meeting" s_meeting f fd) (g : mg "meeting" = some (.ref f)) (h_lies_on : Has P w K mg base "lies_on" ["wall", "spot"] 7 FL.sp_lies_on) (h_spot_of_lines : Has P w K mg base "spot_of_lines" ["one", "other"] 5 FL.sp_spot_of_lines) (h_leaning : Has P w K mg base "leaning" ["one", "other"] 5 FL.sp_leaning) (h_along : Has P w K mg base "along" ["wall"] 4 FL.sp_along) (h_meeting_in_line : Has P w K mg base "meeting_in_line" ["one", "other"] 7 FL.sp_meeting_in_line) : Has P w K mg base "meeting" ["one", "other"] 8 FL.sp_meeting :=
  ⟨f, fd, g, F.kp, F.bindsN fun _ _ _ _ _ _ us hl => match us, hl with | [_, _], _ => rfl, fn_meeting T F h_lies_on h_spot_of_lines h_leaning h_along h_meeting_in_line⟩
theorem fn_law_covered {f : Addr} {fd : FuncData} (T : Txt K mg) (F : FnP K "_law_covered" s_law_covered f fd) (h_lies_on : Has P w K mg base "lies_on" ["wall", "spot"] 7 FL.sp_lies_on) : FnOk P w K mg base (L2.CX P w) 8 f fd ["_law_shuts", "_law_spot_here"] (upSp K sp_law_covered) :=
  fn_mk (N := ["_law_shuts", "_law_spot_here", "_law_shut"]) F sc_law_covered rfl l_law_covered (fun _ _ _ _ _ _ hr => d_law_covered T h_lies_on hr) r_law_covered
theorem h_law_covered {f : Addr} {fd : FuncData} (T : Txt K mg) (F : FnP K "_law_covered" s_law_covered f fd) (g : mg "_law_covered" = some (.ref f)) (h_lies_on : Has P w K mg base "lies_on" ["wall", "spot"] 7 FL.sp_lies_on) : Has P w K mg base "_law_covered" ["_law_shuts", "_law_spot_here"] 8 sp_law_covered :=
  ⟨f, fd, g, F.kp, F.bindsN fun _ _ _ _ _ _ us hl => match us, hl with | [_, _], _ => rfl, fn_law_covered T F h_lies_on⟩
theorem fn_is_fair {f : Addr} {fd : FuncData} (T : Txt K mg) (F : FnP K "is_fair" s_is_fair f fd) (h_meeting : Has P w K mg base "meeting" ["one", "other"] 8 FL.sp_meeting) : FnOk P w K mg base (L2.CX P w) 9 f fd ["one", "other"] (upSp K FL.sp_is_fair) :=
  fn_mk (N := ["one", "other", "found"]) F sc_is_fair rfl l_is_fair (fun _ _ _ _ _ _ hr => d_is_fair T h_meeting hr) r_is_fair
theorem h_is_fair {f : Addr} {fd : FuncData} (T : Txt K mg) (F : FnP K "is_fair" s_is_fair f fd) (g : mg "is_fair" = some (.ref f)) (h_meeting : Has P w K mg base "meeting" ["one", "other"] 8 FL.sp_meeting) : Has P w K mg base "is_fair" ["one", "other"] 9 FL.sp_is_fair :=
  ⟨f, fd, g, F.kp, F.bindsN fun _ _ _ _ _ _ us hl => match us, hl with | [_, _], _ => rfl, fn_is_fair T F h_meeting⟩
theorem fn_cuts_of {f : Addr} {fd : FuncData} (T : Txt K mg) (F : FnP K "cuts_of" s_cuts_of f fd) (h_put_in_row : Has P w K mg base "put_in_row" ["spots", "spot"] 4 FL.sp_put_in_row) (h_meeting : Has P w K mg base "meeting" ["one", "other"] 8 FL.sp_meeting) (h_lies_on : Has P w K mg base "lies_on" ["wall", "spot"] 7 FL.sp_lies_on) : FnOk P w K mg base (L2.CX P w) 9 f fd ["walls", "wall"] (upSp K FL.sp_cuts_of) :=
  fn_mk (N := ["walls", "wall", "found", "other", "spot", "how"]) F sc_cuts_of rfl l_cuts_of (fun _ _ _ _ _ _ hr => d_cuts_of T h_put_in_row h_meeting h_lies_on hr) r_cuts_of
theorem h_cuts_of {f : Addr} {fd : FuncData} (T : Txt K mg) (F : FnP K "cuts_of" s_cuts_of f fd) (g : mg "cuts_of" = some (.ref f)) (h_put_in_row : Has P w K mg base "put_in_row" ["spots", "spot"] 4 FL.sp_put_in_row) (h_meeting : Has P w K mg base "meeting" ["one", "other"] 8 FL.sp_meeting) (h_lies_on : Has P w K mg base "lies_on" ["wall", "spot"] 7 FL.sp_lies_on) : Has P w K mg base "cuts_of" ["walls", "wall"] 9 FL.sp_cuts_of :=
  ⟨f, fd, g, F.kp, F.bindsN fun _ _ _ _ _ _ us hl => match us, hl with | [_, _], _ => rfl, fn_cuts_of T F h_put_in_row h_meeting h_lies_on⟩
theorem fn_unfair_with {f : Addr} {fd : FuncData} (T : Txt K mg) (F : FnP K "unfair_with" s_unfair_with f fd) (h_is_fair : Has P w K mg base "is_fair" ["one", "other"] 9 FL.sp_is_fair) : FnOk P w K mg base (L2.CX P w) 10 f fd ["walls", "wall"] (upSp K FL.sp_unfair_with) :=
  fn_mk (N := ["walls", "wall", "number", "other"]) F sc_unfair_with rfl l_unfair_with (fun _ _ _ _ _ _ hr => d_unfair_with T h_is_fair hr) r_unfair_with
theorem h_unfair_with {f : Addr} {fd : FuncData} (T : Txt K mg) (F : FnP K "unfair_with" s_unfair_with f fd) (g : mg "unfair_with" = some (.ref f)) (h_is_fair : Has P w K mg base "is_fair" ["one", "other"] 9 FL.sp_is_fair) : Has P w K mg base "unfair_with" ["walls", "wall"] 10 FL.sp_unfair_with :=
  ⟨f, fd, g, F.kp, F.bindsN fun _ _ _ _ _ _ us hl => match us, hl with | [_, _], _ => rfl, fn_unfair_with T F h_is_fair⟩
theorem fn_parted {f : Addr} {fd : FuncData} (T : Txt K mg) (F : FnP K "parted" s_parted f fd) (h_put_wall : Has P w K mg base "put_wall" ["walls", "wall"] 4 FL.sp_put_wall) (h_cuts_of : Has P w K mg base "cuts_of" ["walls", "wall"] 9 FL.sp_cuts_of) (hx_TooMany : HasX P w K mg base "TooMany" 1 ["count"]) : FnOk P w K mg base (L2.CX P w) 10 f fd ["walls"] (upSp K FL.sp_parted) :=
  fn_mk (N := ["walls", "found", "wall", "cuts", "piece"]) F sc_parted rfl l_parted (fun _ _ _ _ _ _ hr => d_parted T h_put_wall h_cuts_of hx_TooMany hr) r_parted
theorem h_parted {f : Addr} {fd : FuncData} (T : Txt K mg) (F : FnP K "parted" s_parted f fd) (g : mg "parted" = some (.ref f)) (h_put_wall : Has P w K mg base "put_wall" ["walls", "wall"] 4 FL.sp_put_wall) (h_cuts_of : Has P w K mg base "cuts_of" ["walls", "wall"] 9 FL.sp_cuts_of) (hx_TooMany : HasX P w K mg base "TooMany" 1 ["count"]) : Has P w K mg base "parted" ["walls"] 10 FL.sp_parted :=
  ⟨f, fd, g, F.kp, F.bindsN fun _ _ _ _ _ _ us hl => match us, hl with | [_], _ => rfl, fn_parted T F h_put_wall h_cuts_of hx_TooMany⟩
theorem fn_plot_of {f : Addr} {fd : FuncData} (T : Txt K mg) (F : FnP K "plot_of" s_plot_of f fd) (h_unfair_with : Has P w K mg base "unfair_with" ["walls", "wall"] 10 FL.sp_unfair_with) : FnOk P w K mg base (L2.CX P w) 11 f fd ["walls"] (upSp K FL.sp_plot_of) :=
  fn_mk (N := ["walls", "number", "wall", "other"]) F sc_plot_of rfl l_plot_of (fun _ _ _ _ _ _ hr => d_plot_of T h_unfair_with hr) r_plot_of
theorem h_plot_of {f : Addr} {fd : FuncData} (T : Txt K mg) (F : FnP K "plot_of" s_plot_of f fd) (g : mg "plot_of" = some (.ref f)) (h_unfair_with : Has P w K mg base "unfair_with" ["walls", "wall"] 10 FL.sp_unfair_with) : Has P w K mg base "plot_of" ["walls"] 11 FL.sp_plot_of :=
  ⟨f, fd, g, F.kp, F.bindsN fun _ _ _ _ _ _ us hl => match us, hl with | [_], _ => rfl, fn_plot_of T F h_unfair_with⟩
theorem fn_law {f : Addr} {fd : FuncData} (T : Txt K mg) (F : FnP K "law" s_law f fd) (h_law_spots : Has P w K mg base "_law_spots" ["_law_row", "_law_scale_here", "_law_shuts"] 2 sp_law_spots) (h_law_covered : Has P w K mg base "_law_covered" ["_law_shuts", "_law_spot_here"] 8 sp_law_covered) (h_parted : Has P w K mg base "parted" ["walls"] 10 FL.sp_parted) (h_plot_of : Has P w K mg base "plot_of" ["walls"] 11 FL.sp_plot_of) (h_law_made : Has P w K mg base "_law_made" ["_law_scale_here", "_law_shuts"] 3 FL.sp_made) (h_law_any : Has P w K mg base "_law_any" ["_law_row", "_law_most", "_law_size"] 2 FL.sp_uany) (h_law_scale : Has P w K mg base "_law_scale" ["_law_row"] 2 FL.sp_scale) (h_law_cell_at : Has P w K mg base "_law_cell_at" ["_law_script", "_law_k"] 1 FL.sp_cell_at) : FnOk P w K mg base (L2.CX P w) 12 f fd ["_law_script"] (upSp K spLaw) :=
  fn_mk (N := ["_law_script", "_law_k", "_law_row", "_law_scale_here", "_law_shuts", "_law_made_here", "_law_found", "_law_spot_here"]) F sc_law rfl l_law (fun _ _ _ _ _ _ hr => d_law T h_law_spots h_law_covered h_parted h_plot_of h_law_made h_law_any h_law_scale h_law_cell_at hr) r_law
theorem hx_TooMany' {f : Addr} {fd : FuncData} (F : FnM K "__init__" "TooMany.__init__" s_TooMany_init f fd) (g : mg "TooMany" = some (.ref (He.ga K "TooMany"))) (fx : XinC K (He.ga K "TooMany") f ["count"]) : HasX P w K mg base "TooMany" 1 ["count"] :=
  ⟨f, fd, ["self", "count"], g, fx.o, fx.i, fx.t, F.bindsN fun _ _ _ _ _ _ us hl => match us, hl with | [_, _], _ => rfl, fn_xi1 (k := 0) F sc_TooMany_init fx.o (fx.n _ (by decide)) (fun _ _ _ _ _ _ => dx_TooMany)⟩
end
theorem facts {P : Program} {w : World} {K : PySem.W.Frag} {h : Heap} {mg : Str → Option Value} {f : Addr} (X : K.In h) (G : h.Ns mainGlobals mg) (hfa : mg ("law" : Str) = some (.ref f)) (c0 : SaysK fa fn [] K) (ct0 : ((tupsB [] K && (excsB [] K && cfunsB [] K)) && xinB [("TooMany", ["count"])] K) = true) :
    ∃ fd : FuncData, (∀ (s : Shared) (v : Value), BindsTo s fd ⟨[v], []⟩ [("_law_script", v)]) ∧ ∀ base : Heap, K.In base → base.Ns mainGlobals mg → FnOk P w K mg base (L2.CX P w) 12 f fd ["_law_script"] (upSp K spLaw) := by
  have c := c0.says
  obtain ⟨ct, cx⟩ := Bool.and_eq_true_iff.mp ct0
  obtain ⟨fd_divisor, F_divisor⟩ := c.def_ 0 (d := mkD "divisor" s_divisor) rfl
  have g_divisor := He.glo_ok X G (c.fact 0 (f := .glo "divisor") rfl)
  obtain ⟨fd_is_less, F_is_less⟩ := c.def_ 1 (d := mkD "is_less" s_is_less) rfl
  have g_is_less := He.glo_ok X G (c.fact 1 (f := .glo "is_less") rfl)
  obtain ⟨fd_law_cell_at, F_law_cell_at⟩ := c.def_ 2 (d := mkD "_law_cell_at" s_law_cell_at) rfl
  have g_law_cell_at := He.glo_ok X G (c.fact 2 (f := .glo "_law_cell_at") rfl)
  obtain ⟨fd_law_take, F_law_take⟩ := c.def_ 3 (d := mkD "_law_take" s_law_take) rfl
  have g_law_take := He.glo_ok X G (c.fact 3 (f := .glo "_law_take") rfl)
  obtain ⟨fd_law_low, F_law_low⟩ := c.def_ 4 (d := mkD "_law_low" s_law_low) rfl
  have g_law_low := He.glo_ok X G (c.fact 4 (f := .glo "_law_low") rfl)
  obtain ⟨fd_fraction, F_fraction⟩ := c.def_ 5 (d := mkD "fraction" s_fraction) rfl
  have g_fraction := He.glo_ok X G (c.fact 5 (f := .glo "fraction") rfl)
  obtain ⟨fd_is_ahead, F_is_ahead⟩ := c.def_ 6 (d := mkD "is_ahead" s_is_ahead) rfl
  have g_is_ahead := He.glo_ok X G (c.fact 6 (f := .glo "is_ahead") rfl)
  obtain ⟨fd_law_scale, F_law_scale⟩ := c.def_ 7 (d := mkD "_law_scale" s_law_scale) rfl
  have g_law_scale := He.glo_ok X G (c.fact 7 (f := .glo "_law_scale") rfl)
  obtain ⟨fd_law_spot, F_law_spot⟩ := c.def_ 8 (d := mkD "_law_spot" s_law_spot) rfl
  have g_law_spot := He.glo_ok X G (c.fact 8 (f := .glo "_law_spot") rfl)
  obtain ⟨fd_law_any, F_law_any⟩ := c.def_ 9 (d := mkD "_law_any" s_law_any) rfl
  have g_law_any := He.glo_ok X G (c.fact 9 (f := .glo "_law_any") rfl)
  obtain ⟨fd_law_spots, F_law_spots⟩ := c.def_ 10 (d := mkD "_law_spots" s_law_spots) rfl
  have g_law_spots := He.glo_ok X G (c.fact 10 (f := .glo "_law_spots") rfl)
  obtain ⟨fd_plus, F_plus⟩ := c.def_ 11 (d := mkD "plus" s_plus) rfl
  have g_plus := He.glo_ok X G (c.fact 11 (f := .glo "plus") rfl)
  obtain ⟨fd_less, F_less⟩ := c.def_ 12 (d := mkD "less" s_less) rfl
  have g_less := He.glo_ok X G (c.fact 12 (f := .glo "less") rfl)
  obtain ⟨fd_times, F_times⟩ := c.def_ 13 (d := mkD "times" s_times) rfl
  have g_times := He.glo_ok X G (c.fact 13 (f := .glo "times") rfl)
  obtain ⟨fd_over, F_over⟩ := c.def_ 14 (d := mkD "over" s_over) rfl
  have g_over := He.glo_ok X G (c.fact 14 (f := .glo "over") rfl)
  obtain ⟨fd_passed, F_passed⟩ := c.def_ 15 (d := mkD "passed" s_passed) rfl
  have g_passed := He.glo_ok X G (c.fact 15 (f := .glo "passed") rfl)
  obtain ⟨fd_is_sooner, F_is_sooner⟩ := c.def_ 16 (d := mkD "is_sooner" s_is_sooner) rfl
  have g_is_sooner := He.glo_ok X G (c.fact 16 (f := .glo "is_sooner") rfl)
  obtain ⟨fd_law_made, F_law_made⟩ := c.def_ 17 (d := mkD "_law_made" s_law_made) rfl
  have g_law_made := He.glo_ok X G (c.fact 17 (f := .glo "_law_made") rfl)
  obtain ⟨fd_along, F_along⟩ := c.def_ 18 (d := mkD "along" s_along) rfl
  have g_along := He.glo_ok X G (c.fact 18 (f := .glo "along") rfl)
  obtain ⟨fd_crossed, F_crossed⟩ := c.def_ 19 (d := mkD "crossed" s_crossed) rfl
  have g_crossed := He.glo_ok X G (c.fact 19 (f := .glo "crossed") rfl)
  obtain ⟨fd_put_in_row, F_put_in_row⟩ := c.def_ 20 (d := mkD "put_in_row" s_put_in_row) rfl
  have g_put_in_row := He.glo_ok X G (c.fact 20 (f := .glo "put_in_row") rfl)
  obtain ⟨fd_put_wall, F_put_wall⟩ := c.def_ 21 (d := mkD "put_wall" s_put_wall) rfl
  have g_put_wall := He.glo_ok X G (c.fact 21 (f := .glo "put_wall") rfl)
  obtain ⟨fd_leaning, F_leaning⟩ := c.def_ 22 (d := mkD "leaning" s_leaning) rfl
  have g_leaning := He.glo_ok X G (c.fact 22 (f := .glo "leaning") rfl)
  obtain ⟨fd_spot_of_lines, F_spot_of_lines⟩ := c.def_ 23 (d := mkD "spot_of_lines" s_spot_of_lines) rfl
  have g_spot_of_lines := He.glo_ok X G (c.fact 23 (f := .glo "spot_of_lines") rfl)
  obtain ⟨fd_side_of, F_side_of⟩ := c.def_ 24 (d := mkD "side_of" s_side_of) rfl
  have g_side_of := He.glo_ok X G (c.fact 24 (f := .glo "side_of") rfl)
  obtain ⟨fd_lies_on, F_lies_on⟩ := c.def_ 25 (d := mkD "lies_on" s_lies_on) rfl
  have g_lies_on := He.glo_ok X G (c.fact 25 (f := .glo "lies_on") rfl)
  obtain ⟨fd_meeting_in_line, F_meeting_in_line⟩ := c.def_ 26 (d := mkD "meeting_in_line" s_meeting_in_line) rfl
  have g_meeting_in_line := He.glo_ok X G (c.fact 26 (f := .glo "meeting_in_line") rfl)
  obtain ⟨fd_meeting, F_meeting⟩ := c.def_ 27 (d := mkD "meeting" s_meeting) rfl
  have g_meeting := He.glo_ok X G (c.fact 27 (f := .glo "meeting") rfl)
  obtain ⟨fd_law_covered, F_law_covered⟩ := c.def_ 28 (d := mkD "_law_covered" s_law_covered) rfl
  have g_law_covered := He.glo_ok X G (c.fact 28 (f := .glo "_law_covered") rfl)
  obtain ⟨fd_is_fair, F_is_fair⟩ := c.def_ 29 (d := mkD "is_fair" s_is_fair) rfl
  have g_is_fair := He.glo_ok X G (c.fact 29 (f := .glo "is_fair") rfl)
  obtain ⟨fd_cuts_of, F_cuts_of⟩ := c.def_ 30 (d := mkD "cuts_of" s_cuts_of) rfl
  have g_cuts_of := He.glo_ok X G (c.fact 30 (f := .glo "cuts_of") rfl)
  obtain ⟨fd_unfair_with, F_unfair_with⟩ := c.def_ 31 (d := mkD "unfair_with" s_unfair_with) rfl
  have g_unfair_with := He.glo_ok X G (c.fact 31 (f := .glo "unfair_with") rfl)
  obtain ⟨fd_parted, F_parted⟩ := c.def_ 32 (d := mkD "parted" s_parted) rfl
  have g_parted := He.glo_ok X G (c.fact 32 (f := .glo "parted") rfl)
  obtain ⟨fd_plot_of, F_plot_of⟩ := c.def_ 33 (d := mkD "plot_of" s_plot_of) rfl
  have g_plot_of := He.glo_ok X G (c.fact 33 (f := .glo "plot_of") rfl)
  obtain ⟨fd_law, F_law⟩ := c.def_ 34 (d := mkD "law" s_law) rfl
  have g_law := He.glo_ok X G (c.fact 34 (f := .glo "law") rfl)
  have T : Txt K mg := { f_abs := He.free_ok X G (c.fact 35 (f := .free "abs") rfl), f_enumerate := He.free_ok X G (c.fact 36 (f := .free "enumerate") rfl), f_int := He.free_ok X G (c.fact 37 (f := .free "int") rfl), f_len := He.free_ok X G (c.fact 38 (f := .free "len") rfl), f_list := He.free_ok X G (c.fact 39 (f := .free "list") rfl), f_max := He.free_ok X G (c.fact 40 (f := .free "max") rfl), f_min := He.free_ok X G (c.fact 41 (f := .free "min") rfl), f_range := He.free_ok X G (c.fact 42 (f := .free "range") rfl), f_tuple := He.free_ok X G (c.fact 43 (f := .free "tuple") rfl), f_zip := He.free_ok X G (c.fact 44 (f := .free "zip") rfl), c_MOST_WALLS := He.int_ok X G (c.fact 45 (f := .int "MOST_WALLS" 40) rfl), g_TooMany := He.glo_ok X G (c.fact 46 (f := .glo "TooMany") rfl) }
  have e := hfa.symm.trans g_law
  cases e
  have b := FunD.bindsA (ps := ["_law_script"]) F_law fun _ _ _ _ _ _ us hl => match us, hl with | [_], _ => rfl
  refine ⟨fd_law, fun s v => b s [v] rfl, fun base _ _ => ?_⟩
  obtain ⟨fx_TooMany, Fx_TooMany⟩ := c.def_ 35 (d := mkM "TooMany" "__init__" "TooMany.__init__" s_TooMany_init) rfl
  have Hx_TooMany := hx_TooMany' (P := P) (w := w) (base := base) Fx_TooMany T.g_TooMany (xinB_ok cx ("TooMany", ["count"]) (by decide))
  have H_divisor := h_divisor (P := P) (w := w) (base := base) T F_divisor g_divisor 
  have H_is_less := h_is_less (P := P) (w := w) (base := base) T F_is_less g_is_less 
  have H_law_cell_at := h_law_cell_at (P := P) (w := w) (base := base) T F_law_cell_at g_law_cell_at 
  have H_law_take := h_law_take (P := P) (w := w) (base := base) T F_law_take g_law_take 
  have H_law_low := h_law_low (P := P) (w := w) (base := base) T F_law_low g_law_low 
  have H_fraction := h_fraction (P := P) (w := w) (base := base) T F_fraction g_fraction H_divisor
  have H_is_ahead := h_is_ahead (P := P) (w := w) (base := base) T F_is_ahead g_is_ahead H_is_less
  have H_law_scale := h_law_scale (P := P) (w := w) (base := base) T F_law_scale g_law_scale H_law_take
  have H_law_spot := h_law_spot (P := P) (w := w) (base := base) T F_law_spot g_law_spot H_law_low
  have H_law_any := h_law_any (P := P) (w := w) (base := base) T F_law_any g_law_any H_law_take
  have H_law_spots := h_law_spots (P := P) (w := w) (base := base) T F_law_spots g_law_spots H_law_low H_law_take
  have H_plus := h_plus (P := P) (w := w) (base := base) T F_plus g_plus H_fraction
  have H_less := h_less (P := P) (w := w) (base := base) T F_less g_less H_fraction
  have H_times := h_times (P := P) (w := w) (base := base) T F_times g_times H_fraction
  have H_over := h_over (P := P) (w := w) (base := base) T F_over g_over H_fraction
  have H_passed := h_passed (P := P) (w := w) (base := base) T F_passed g_passed H_is_ahead
  have H_is_sooner := h_is_sooner (P := P) (w := w) (base := base) T F_is_sooner g_is_sooner H_is_ahead
  have H_law_made := h_law_made (P := P) (w := w) (base := base) T F_law_made g_law_made H_law_spot
  have H_along := h_along (P := P) (w := w) (base := base) T F_along g_along H_less
  have H_crossed := h_crossed (P := P) (w := w) (base := base) T F_crossed g_crossed H_less H_times
  have H_put_in_row := h_put_in_row (P := P) (w := w) (base := base) T F_put_in_row g_put_in_row H_passed
  have H_put_wall := h_put_wall (P := P) (w := w) (base := base) T F_put_wall g_put_wall H_is_sooner
  have H_leaning := h_leaning (P := P) (w := w) (base := base) T F_leaning g_leaning H_crossed
  have H_spot_of_lines := h_spot_of_lines (P := P) (w := w) (base := base) T F_spot_of_lines g_spot_of_lines H_plus H_times H_over H_crossed H_along
  have H_side_of := h_side_of (P := P) (w := w) (base := base) T F_side_of g_side_of H_leaning H_along
  have H_lies_on := h_lies_on (P := P) (w := w) (base := base) T F_lies_on g_lies_on H_side_of H_is_ahead
  have H_meeting_in_line := h_meeting_in_line (P := P) (w := w) (base := base) T F_meeting_in_line g_meeting_in_line H_is_ahead H_side_of
  have H_meeting := h_meeting (P := P) (w := w) (base := base) T F_meeting g_meeting H_lies_on H_spot_of_lines H_leaning H_along H_meeting_in_line
  have H_law_covered := h_law_covered (P := P) (w := w) (base := base) T F_law_covered g_law_covered H_lies_on
  have H_is_fair := h_is_fair (P := P) (w := w) (base := base) T F_is_fair g_is_fair H_meeting
  have H_cuts_of := h_cuts_of (P := P) (w := w) (base := base) T F_cuts_of g_cuts_of H_put_in_row H_meeting H_lies_on
  have H_unfair_with := h_unfair_with (P := P) (w := w) (base := base) T F_unfair_with g_unfair_with H_is_fair
  have H_parted := h_parted (P := P) (w := w) (base := base) T F_parted g_parted H_put_wall H_cuts_of Hx_TooMany
  have H_plot_of := h_plot_of (P := P) (w := w) (base := base) T F_plot_of g_plot_of H_unfair_with
  exact fn_law T F_law H_law_spots H_law_covered H_parted H_plot_of H_law_made H_law_any H_law_scale H_law_cell_at
end Lk12
open PySem PySem.W PySem.Calls PyProof.Rows
theorem PySem.Challenge.cw_spotlook_k12_whole_parted_covers_the_sam_holds : PySem.Challenge.rw_spotlook_k12_whole_parted_covers_the_sam.Holds := by
  w_on; o_law
  refine HandSHeadRun.head_any (r := Lk12.R) (q := view Lk12.R.prog [45]) (H := Lk12.hk) (ob := Lk12.ob) (M := 4120) (loose := Lk12.names) (d := HandSHeadRun.topDef Lk12.R.prog 45) (kwd := []) Lk12.ob_eq
    (by kernel_rfl) (fun s => by kernel_rfl) Lk12.run (by kernel_rfl) (by kernel_rfl) (by kernel_rfl) (by rfl) (by first | assumption | decide +kernel) (by decide +kernel) ⟨rfl, rfl, rfl, rfl, rfl, by decide +kernel⟩ ?hw ?hc
  case hw => w_witness2
  case hc =>
    refine ML.law_end (k := 12) (x := "_law_script") rfl (by kernel_rfl) ⟨rfl, by decide, by decide⟩ ?_
    intro w mg fa h Y G hmg0
    obtain ⟨K, KX, c, ct, lm, nd⟩ := Y
    have hmg : mg ("law" : PySem.Str) = some (.ref fa) := by
      have e : (HandSHeadRun.topDef Lk12.R.prog 45).name = ("law" : PySem.Str) := by kernel_rfl
      rw [← e]
      exact hmg0
    obtain ⟨fd, hb, hF⟩ := Lk12.facts (P := PySem.Challenge.rw_spotlook_k12_whole_parted_covers_the_sam.prog) (w := w) KX G hmg c ct
    exact ⟨K, fd, KX, hb, hF⟩
