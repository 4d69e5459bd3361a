import PyProof.Rows.All
import PyProof.TableCode
import PyProof.Rows.CallKwBuiltin
import OpenK.KDescr
import Open.Head
import Open.Line
import Open.Boot
import Open.TreeImp
import Open.FastRun
import Open.FastT9
import KE.KSlice
import KE.KDictList
import KE.KDictSum
import KE.KDictOf
import KE.KEqDict
import KE.KIsAll
import KE.KSortKey
import KE.KRevSl
import Lean
import PySem.Challenge.RW_rg0282_01
set_option Elab.async false
set_option tactic.hygienic false
set_option maxRecDepth 10000
set_option linter.unusedVariables false
set_option genInjectivity false
set_option genSizeOf false
set_option genSizeOfSpec false
set_option bootstrap.genMatcherCode false
namespace Mine
open List renaming length_map->Za,length_append->Zb,mem_singleton->Zc,mem_append_left->Zd,mem_cons_self->Ze,mem_append->Zg,mem_cons_of_mem->Zh,mem_append_right->Zi,mem_flatMap->Zm,mem_map->Zn,append_assoc->Zo,mem_cons->Zp,map_append->Zq,map_map->Zt,append_nil->Zu,getElem?_eq_getElem->Zv,map_cons->Zw,flatMap_append->Zx,nodup_cons->ZC,flatMap_singleton->ZE,mem_map_of_mem->ZF,mem_filter->ZG,nodup_append->ZI,flatMap_cons->ZJ,getElem?_eq_some_iff->ZM,getElem?_map->ZP,lookup_cons->ZS,length_filter_le->ZT,all_eq_true->ZV,contains_iff_mem->ZZ,length_range->Z2,mem_of_getElem?->Z3,pairwise_singleton->Z4,flatMap_nil->Yb,length_singleton->Ye,length_nil->Yi,filter_append->Yk,nodup_nil->Yl,length_cons->Ym,map_congr_left->Yn,not_mem_nil->Ys,getElem?_append_left->Yt,filter_eq_self->Yu,getElem?_eq_none->Yw,getElem_mem->Yy,getElem?_append_right->Yz,getElem?_eq_none_iff->YD,pairwise_cons->YE,map_singleton->YH,mem_iff_getElem->YK,forall_mem_cons->YL,filter_cons_of_neg->YM,pairwise_map->YN,filter_sublist->YQ,length_reverse->YR,take_append_drop->YX,find?_cons->YZ,size_toArray->Xc,perm_middle->Xk,contains_cons->Xm,length_pos_of_mem->Xn,reverse_cons->Xs,mem_range->Xu,map_eq_cons_iff->Xw,take_length->Xz,pairwise_iff_getElem->XE,sublist_append_right->XF,map_eq_flatMap->XH,any_cons->XJ,length_erase_of_mem->XK,nil_append->XO,filter_cons_of_pos->XS,length_eq_zero_iff->XT,ext_getElem?->XZ,append_eq_nil_iff->Wa,filter_cons->Wm,map_reverse->Wn,isEmpty_iff->Wq,pairwise_append->Ww,mem_zipIdx_iff_getElem?->WC,mergeSort_perm->WG,zipIdx_map_fst->WH,filterMap_cons->WI,getElem?_concat_length->WM,take_zero->WO,getElem?_inj->WT,pairwise_mergeSort->WY,map_flatMap->WZ,mem_reverse->W0,any_eq_true->W4,take_of_length_le->Vc,map_nil->Vd,pairwise_lt_range->Ve,filter_nil->Vi,map_id->Vq,getElem?_zipIdx->Vr,mem_of_mem_take->Vs,length_take_le->VC,filter_flatMap->VD,length_pos_iff->VE,map_eq_nil_iff->VG,sum_cons->VJ,getElem_range->VM,find?_eq_none->VN,flatMap_assoc->VQ,length_zipIdx->VR,zip_cons_cons->V0,take_add_one->V3,foldl_append->V5,length_take->Uh,getElem_map->Ui,cons_append->Uk,map_fst_zip->Um,zipIdx_map->Up,range_succ->Uq,length_zip->Uu,drop_zero->UB,drop_drop->UC
open Nat renaming le_trans->Zf,lt_of_le_of_lt->Zk,le_refl->Zs,le_of_ble_eq_true->ZB,le_add_right->ZD,le_of_lt->ZH,lt_trans->ZK,add_le_add_left->ZN,add_le_add_right->ZO,add_le_add->ZQ,zero_le->ZR,mul_le_mul_right->ZY,le_succ->Yj,add_assoc->Yq,lt_sub_iff_add_lt'->YA,lt_succ_self->YF,succ_le_succ->YG,le_of_eq->YI,le_antisymm->YO,sub_add_cancel->YV,ne_of_lt->Xe,mul_le_mul_left->Xi,mul_lt_mul_of_pos_right->Xr,add_lt_add_right->Xv,zero_add->Xy,add_right_comm->XR,lt_succ_of_lt->XV,le_of_lt_succ->XY,lt_irrefl->Ws,le_add_of_sub_le->Wu,succ_ne_self->W7,add_comm->Vb,min_le_left->Vh,sub_le_sub_left->VB,sub_lt->VZ,lt_or_ge->V6,le_succ_of_le->V7,succ_mul->V8,ne_of_gt->Ud,le_of_not_lt->Uj,not_lt_zero->Uo,not_lt->Uz
open Bool renaming and_eq_true_iff->Zj,false_ne_true->Yd,or_eq_true_iff->YB,false_eq_true->Xo,and_eq_true->XB,and_false->XX,and_eq_false_iff->Wh,not_not->WK,eq_false_iff->V2,false_and->UA
open PySem renaming wpAny_bind->Zl,wpAny_mono->Zy,wpAny_pure->Zz,wpAny_holding->ZW,wpAny_standAt->Z7,mem_of_lookup->Yv,wpAny_Constant_int->YW,wpAny_newObj_type->Xb,getMethod_builtin->Xd,wpAny_evalPart_none->XI,wpAny_pyNext_list_item->Wc,wpAny_truthy_bool->We,wpAny_pyNext_list_end->Wj,builtinLookup_eq_fast->Wk,sizeLine_eq->Wx,wpAny_letTemporaryGo->Wy,codeAny_mono->WN,wpAny_pyIter_list->WU,wpAny_list_append_plain->W5,wpAny_unpackItems_tuple->W6,wpAny_call->Vg,codeAny_builtin->Vl,wpAny_execs_nil->Vm,typeLookup_type->Vn,wpAny_isTrue_Compare1->Vp,wpAny_loadPart->Vu,isSubtype_type->Vz,codeAny_call_builtin->VA,list_getitem_lookup->VH,wpAny_evalPart_some->VI,wpAny_UnaryOp->VL,call_meets->VW
open Array renaming length_toList->Zr,getElem?_eq_getElem->YY,toList_eraseIdxIfInBounds->Xh,getElem?_eq_none->Xp,getElem?_eq_none_iff->Xx,getElem?_toList->Wi,any_toList->Wo,mem_toList_iff->Vw,toList_append->VF,isEmpty_iff->Ue,size_push->Us
open Int renaming le_antisymm->ZA,self_le_toNat->ZX,natCast_nonneg->Z9,ne_of_lt->Yc,add_zero->Yx,toNat_of_nonneg->YC,ofNat_lt->YS,toNat_natCast->Xa,le_of_lt->XA,emod_nonneg->XQ,le_refl->Wt,le_of_lt_add_one->Wv,ofNat_le->WJ,ne_of_gt->WL,eq_ofNat_of_zero_le->W2,zero_mul->W8,toNat_le->W9,lt_trans->Va,add_assoc->VK,toNat_le_toNat->VO,lt_of_lt_of_le->VP,emod_lt_of_pos->VS,lt_or_eq_of_le->VT,lt_of_le_of_lt->VU,zero_add->V1,le_trans->V4,neg_one_mul->Un,not_le->Ux,not_lt->Uy
open PySem.Heap renaming get?_push_of_some->ZL,get?_push_size->ZU,lt_size->Yg,get?_update_self->Xq,get?_update_other->Wg,get?_none_of_le->Vt,size_push->Vy,get?_push_ne->Ub
open PySem.W renaming look_both->Z0,callWith_of->WA,kia_one->Uc
open Option.some renaming inj->Z1
open Option renaming map_eq_some_iff->Z5,isSome_iff_exists->YJ,isNone_iff_eq_none->XG,mem_toList->V9,map_some->Uv
open Ne renaming symm->Yo
open List.cons renaming inj->Yr,injEq->Vj
open PySem.W.Fast renaming te10110043849684766642->YT,te14364793385576792824->YU
open PySem.Calls renaming spliced_cons->Xf,spliced_nil->XU,Name_function_global->WS
open PySem.F renaming slot_dict_getattribute->Xg,slot_list_getattribute->XN,plainAttrs_list->Wb,slot_list_pop->WD,slot_dict_get->WE,type_dict_get->Vk,slot_list_extend->VX,slot_dict_update->VY,plainAttrs_dict->Ua
open PySem.Heap.SameBut renaming update->Xj,refl->WV
open Prod.mk renaming inj->Xl
open Nat.succ renaming inj->XC
open Classical renaming byContradiction->XD,em->UD
open List.Pairwise renaming imp_of_mem->XM
open PySem.Around renaming under_plainId->Wz
open PySem.Str renaming ofString_eq_toList->WB,ofString_eq_toList->Vf
open List.Perm renaming eq_of_pairwise->WW,append_left->Vo
open String renaming toList_injective->WX
open PySem.SeqAt.RcAt renaming lists->W3
open PySem.MeetsSeq.EqGives renaming int->Vv
open PyProof.Rows renaming neg_int->Vx
open PySem.SeqAt.RcNeAt renaming lists->VV
open UInt32 renaming toNat_inj->Ug
open PySem.AutoIntOps renaming pow_4->Ul
open PySem.Heap.DictOf renaming new->Ur
open Eq renaming trans->Uw
section
def rp(a b s:String):String:=b.intercalate (s.splitOn a)
def syn(T:List Lean.Syntax)(q:Lean.Name->Lean.Name)(s:String):Lean.Syntax:=(((rp "$" "#1/_.Lean.binderIdent #0/. #2/caseArg #1/. '=>"<|rp "&" "#2/_.group"<|rp "~" "#2/_.Lean.Parser.Term.syntheticHole"<|rp "^" "#1/. #1/tacticSeq1Indented #1/tacticSeq" s).splitOn " ").foldl (λst t=>match t.toList,t.splitOn "/" with
 |'\''::r,_=>.atom .none (.ofList r)::st
 |'`'::r,_=>T.getD r.length .missing::st
 |'#'::r,[_,k]=>
  let n:=(String.ofList (r.takeWhile Char.isDigit)).toNat!
  .node .none (if k== "." then `null else match k.toList with|'_'::_::r=>(String.ofList r).toName|_=>("Lean.Parser.Tactic."++k).toName) (st.take n).reverse.toArray::st.drop n
 |'!'::r,_=>.ident .none default (q (String.ofList r).toName) []::st
 |_,_=>.ident .none default t.toName []::st) []).headD .missing
def wtb(k:String):String:=(("l@'first '| 'rfl #1/tacticRfl ^ & '| 'assumption #1/assumption ^ & #2/. #2/first%m@'assumption #1/assumption%a@'first '| 'assumption #1/assumption ^ & '| 'rfl #1/tacticRfl ^ & '| 'decide #0/. #1/optConfig #2/decide ^ & #3/. #2/first%f@'first '| 'assumption #1/assumption ^ & '| 'exact Alloc.at '( [anonymous] #1/_.hygieneInfo #2/_.Lean.Parser.Term.hygienicLParen 'by 'assumption #1/assumption ^ #2/_.Lean.Parser.Term.byTactic ') #3/_.Lean.Parser.Term.paren #1/. #2/_.Lean.Parser.Term.app #2/exact ^ & '| 'exact Put.at '( [anonymous] #1/_.hygieneInfo #2/_.Lean.Parser.Term.hygienicLParen 'by 'assumption #1/assumption ^ #2/_.Lean.Parser.Term.byTactic ') #3/_.Lean.Parser.Term.paren #1/. #2/_.Lean.Parser.Term.app #2/exact ^ & '| '( 'refine' Ext.at '? !e ~ '? !f ~ #2/. #2/_.Lean.Parser.Term.app #2/refine' '; '( 'case !e $ 'assumption #1/assumption ^ #4/case ^ ') #3/paren '; '( 'case !f $ 'walk_at '\"f\" #1/_.str #2/_.PyProof.Rows.tacticWalk_at_ ^ #4/case ^ ') #3/paren #5/. #1/tacticSeq1Indented #1/tacticSeq ') #3/paren ^ & '| '( 'refine' Ext.at '( [anonymous] #1/_.hygieneInfo #2/_.Lean.Parser.Term.hygienicLParen Alloc.ext '? !e ~ #1/. #2/_.Lean.Parser.Term.app ') #3/_.Lean.Parser.Term.paren '? !f ~ #2/. #2/_.Lean.Parser.Term.app #2/refine' '; '( 'case !e $ 'assumption #1/assumption ^ #4/case ^ ') #3/paren '; '( 'case !f $ 'walk_at '\"f\" #1/_.str #2/_.PyProof.Rows.tacticWalk_at_ ^ #4/case ^ ') #3/paren #5/. #1/tacticSeq1Indented #1/tacticSeq ') #3/paren ^ & #5/. #2/first%x@'first '| 'assumption #1/assumption ^ & '| 'exact Ext.refl #2/exact ^ & '| 'exact Alloc.ext '( [anonymous] #1/_.hygieneInfo #2/_.Lean.Parser.Term.hygienicLParen 'by 'assumption #1/assumption ^ #2/_.Lean.Parser.Term.byTactic ') #3/_.Lean.Parser.Term.paren #1/. #2/_.Lean.Parser.Term.app #2/exact ^ & '| '( 'refine' Ext.trans '? !e ~ '? !f ~ #2/. #2/_.Lean.Parser.Term.app #2/refine' '; '( 'case !f $ 'assumption #1/assumption ^ #4/case ^ ') #3/paren '; '( 'case !e $ 'walk_at '\"x\" #1/_.str #2/_.PyProof.Rows.tacticWalk_at_ ^ #4/case ^ ') #3/paren #5/. #1/tacticSeq1Indented #1/tacticSeq ') #3/paren ^ & '| '( 'refine' Ext.trans '? !e ~ '( [anonymous] #1/_.hygieneInfo #2/_.Lean.Parser.Term.hygienicLParen Alloc.ext '? !f ~ #1/. #2/_.Lean.Parser.Term.app ') #3/_.Lean.Parser.Term.paren #2/. #2/_.Lean.Parser.Term.app #2/refine' '; '( 'case !f $ 'assumption #1/assumption ^ #4/case ^ ') #3/paren '; '( 'case !e $ 'walk_at '\"x\" #1/_.str #2/_.PyProof.Rows.tacticWalk_at_ ^ #4/case ^ ') #3/paren #5/. #1/tacticSeq1Indented #1/tacticSeq ') #3/paren ^ & #5/. #2/first%pr@'first '| 'assumption #1/assumption ^ & '| '( 'refine' PR.ext '? !a ~ '? !b ~ #2/. #2/_.Lean.Parser.Term.app #2/refine' '; '( 'case !a $ 'assumption #1/assumption ^ #4/case ^ ') #3/paren '; '( 'case !b $ 'walk_at '\"x\" #1/_.str #2/_.PyProof.Rows.tacticWalk_at_ ^ #4/case ^ ') #3/paren #5/. #1/tacticSeq1Indented #1/tacticSeq ') #3/paren ^ & #2/. #2/first%c@'first '| '( '( 'with_reducible 'refine' p_closure_var '? !w ~ '? '_ ~ #2/. #2/_.Lean.Parser.Term.app #2/refine' ^ #2/withReducible ^ ') #3/paren '; '( 'case !w $ 'assumption #1/assumption ^ #4/case ^ ') #3/paren #3/. #1/tacticSeq1Indented #1/tacticSeq ') #3/paren ^ & '| '( '( 'with_reducible 'refine' p_block '? !w ~ '? !n ~ '? !y ~ '? !m ~ '? '_ ~ #5/. #2/_.Lean.Parser.Term.app #2/refine' ^ #2/withReducible ^ ') #3/paren '; '( 'case !w $ 'assumption #1/assumption ^ #4/case ^ ') #3/paren '; '( 'case !n $ 'assumption #1/assumption ^ #4/case ^ ') #3/paren '; '( 'case !y $ 'walk_at '\"pr\" #1/_.str #2/_.PyProof.Rows.tacticWalk_at_ ^ #4/case ^ ') #3/paren '; '( 'case !m $ 'assumption #1/assumption ^ #4/case ^ ') #3/paren #9/. #1/tacticSeq1Indented #1/tacticSeq ') #3/paren ^ & #2/. #2/first%w@'repeat '( 'first '| 'walk_at '\"s\" #1/_.str #2/_.PyProof.Rows.tacticWalk_at_ ^ & '| 'walk_at '\"c\" #1/_.str #2/_.PyProof.Rows.tacticWalk_at_ ^ & #2/. #2/first ^ ') #3/paren ^ #2/tacticRepeat_%P@'( '( 'first '| 'with_reducible_and_instances 'refine Mine.rwp ` '? '_ ~ #2/. #2/_.Lean.Parser.Term.app #2/refine ^ #2/withReducibleAndInstances ^ & '| 'with_reducible_and_instances 'refine Mine.rwp '( [anonymous] #1/_.hygieneInfo #2/_.Lean.Parser.Term.hygienicLParen ` '_ #1/_.Lean.Parser.Term.hole #1/. #2/_.Lean.Parser.Term.app ') #3/_.Lean.Parser.Term.paren '? '_ ~ #2/. #2/_.Lean.Parser.Term.app #2/refine ^ #2/withReducibleAndInstances ^ & '| 'with_reducible_and_instances 'refine Mine.rwp '( [anonymous] #1/_.hygieneInfo #2/_.Lean.Parser.Term.hygienicLParen ` '_ #1/_.Lean.Parser.Term.hole '_ #1/_.Lean.Parser.Term.hole #2/. #2/_.Lean.Parser.Term.app ') #3/_.Lean.Parser.Term.paren '? '_ ~ #2/. #2/_.Lean.Parser.Term.app #2/refine ^ #2/withReducibleAndInstances ^ & '| 'with_reducible_and_instances 'refine Mine.rwi ` '? '_ ~ #2/. #2/_.Lean.Parser.Term.app #2/refine ^ #2/withReducibleAndInstances ^ & '| 'rewrite #0/. #1/optConfig '[ #0/. ` #2/rwRule #1/. '] #3/rwRuleSeq #0/. #4/rewriteSeq ^ & #5/. #2/first ^ ') #3/paren '; `` #3/. #1/tacticSeq1Indented #1/tacticSeq ') #3/paren%N@'( '( 'first '| 'with_reducible_and_instances 'refine Mine.rwn ` '? '_ ~ #2/. #2/_.Lean.Parser.Term.app #2/refine ^ #2/withReducibleAndInstances ^ & '| 'with_reducible_and_instances 'refine Mine.rwn '( [anonymous] #1/_.hygieneInfo #2/_.Lean.Parser.Term.hygienicLParen ` '_ #1/_.Lean.Parser.Term.hole #1/. #2/_.Lean.Parser.Term.app ') #3/_.Lean.Parser.Term.paren '? '_ ~ #2/. #2/_.Lean.Parser.Term.app #2/refine ^ #2/withReducibleAndInstances ^ & '| 'with_reducible_and_instances 'refine Mine.rwn '( [anonymous] #1/_.hygieneInfo #2/_.Lean.Parser.Term.hygienicLParen ` '_ #1/_.Lean.Parser.Term.hole '_ #1/_.Lean.Parser.Term.hole #2/. #2/_.Lean.Parser.Term.app ') #3/_.Lean.Parser.Term.paren '? '_ ~ #2/. #2/_.Lean.Parser.Term.app #2/refine ^ #2/withReducibleAndInstances ^ & '| 'with_reducible_and_instances 'refine Mine.rwm ` '? '_ ~ #2/. #2/_.Lean.Parser.Term.app #2/refine ^ #2/withReducibleAndInstances ^ & '| 'rewrite #0/. #1/optConfig '[ '← #1/. ` #2/rwRule #1/. '] #3/rwRuleSeq #0/. #4/rewriteSeq ^ & #5/. #2/first ^ ') #3/paren '; `` #3/. #1/tacticSeq1Indented #1/tacticSeq ') #3/paren%R@'try 'with_reducible 'rfl #1/tacticRfl ^ #2/withReducible ^ #2/tacticTry_%O@'first '| '( '( 'refine Or.elim ` '? !l ~ '? r ~ #3/. #2/_.Lean.Parser.Term.app #2/refine ^ ') #3/paren '; '( 'case' r $ '( '( 'try 'clear ` #1/. #2/clear ^ #2/tacticTry_ ^ ') #3/paren '; 'rintro ``` #1/rintroPat.one #1/. #0/. #3/rintro #3/. #1/tacticSeq1Indented #1/tacticSeq ') #3/paren ^ #4/case' ^ ') #3/paren '; '( 'case' !l $ '( '( 'try 'clear ` #1/. #2/clear ^ #2/tacticTry_ ^ ') #3/paren '; 'rintro `` #1/rintroPat.one #1/. #0/. #3/rintro #3/. #1/tacticSeq1Indented #1/tacticSeq ') #3/paren ^ #4/case' ^ ') #3/paren #5/. #1/tacticSeq1Indented #1/tacticSeq ') #3/paren ^ & '| 'obtain '( `` '| ``` #3/. #1/rcasesPatMed #0/. #2/rcasesPatLo ') #3/rcasesPat.paren #1/. #1/rcasesPatMed #1/. #0/. ':= ` #1/. #2/. #4/obtain ^ & #2/. #2/first%C@'first '| 'exact Mine.nsn ` #1/. #2/_.Lean.Parser.Term.app #2/exact ^ & '| 'exact Mine.nns ` #1/. #2/_.Lean.Parser.Term.app #2/exact ^ & '| 'exact Mine.nft ` #1/. #2/_.Lean.Parser.Term.app #2/exact ^ & '| 'exact Mine.ntf ` #1/. #2/_.Lean.Parser.Term.app #2/exact ^ & '| '( 'refine Mine.sinj ` 'fun z #1/. #0/. '=> '? '_ ~ #4/_.Lean.Parser.Term.basicFun #2/_.Lean.Parser.Term.fun #2/. #2/_.Lean.Parser.Term.app #2/refine '; 'clear ` #1/. #2/clear '; 'subst z #1/. #2/subst #5/. #1/tacticSeq1Indented #1/tacticSeq ') #3/paren ^ & '| 'cases #0/. '( [anonymous] #1/_.hygieneInfo #2/_.Lean.Parser.Term.hygienicLParen ` ') #3/_.Lean.Parser.Term.paren #2/elimTarget #1/. #0/. #0/. #4/cases ^ & #6/. #2/first%1@'with_reducible 'refine Z '? '_ ~ #1/. #2/_.Lean.Parser.Term.app #2/refine ^ #2/withReducible ^ &%2@'( '( 'with_reducible 'refine' Z '_ #1/_.Lean.Parser.Term.hole '? !f ~ '? '_ ~ #3/. #2/_.Lean.Parser.Term.app #2/refine' ^ #2/withReducible ^ ') #3/paren '; '( 'case !f $ 'walk_at '\"l\" #1/_.str #2/_.PyProof.Rows.tacticWalk_at_ ^ #4/case ^ ') #3/paren #3/. #1/tacticSeq1Indented #1/tacticSeq ') #3/paren ^ &%3@'( '( 'with_reducible 'refine' Z '? !f ~ '? !g ~ '? !i ~ '? !j ~ '? '_ ~ #5/. #2/_.Lean.Parser.Term.app #2/refine' ^ #2/withReducible ^ ') #3/paren '; '( 'case !f $ 'walk_at '\"f\" #1/_.str #2/_.PyProof.Rows.tacticWalk_at_ ^ #4/case ^ ') #3/paren '; '( 'case !g $ 'rfl #1/tacticRfl ^ #4/case ^ ') #3/paren '; '( 'case !i $ 'rfl #1/tacticRfl ^ #4/case ^ ') #3/paren '; '( 'case !j $ 'walk_at '\"l\" #1/_.str #2/_.PyProof.Rows.tacticWalk_at_ ^ #4/case ^ ') #3/paren #9/. #1/tacticSeq1Indented #1/tacticSeq ') #3/paren ^ &%4@'( '( 'with_reducible 'refine' Z '? !f ~ '? !g ~ '? '_ ~ #3/. #2/_.Lean.Parser.Term.app #2/refine' ^ #2/withReducible ^ ') #3/paren '; '( 'case !f $ 'walk_at '\"A\" #1/_.str #2/_.PyProof.Rows.tacticWalk_at_ ^ #4/case ^ ') #3/paren '; '( 'case !g $ 'walk_at '\"B\" #1/_.str #2/_.PyProof.Rows.tacticWalk_at_ ^ #4/case ^ ') #3/paren #5/. #1/tacticSeq1Indented #1/tacticSeq ') #3/paren ^ &%5@'( '( 'with_reducible 'refine' Z '? !f ~ '? '_ ~ #2/. #2/_.Lean.Parser.Term.app #2/refine' ^ #2/withReducible ^ ') #3/paren '; '( 'case !f $ 'walk_at '\"A\" #1/_.str #2/_.PyProof.Rows.tacticWalk_at_ ^ #4/case ^ ') #3/paren #3/. #1/tacticSeq1Indented #1/tacticSeq ') #3/paren ^ &%6@'( '( 'with_reducible 'refine Z '? '_ ~ #1/. #2/_.Lean.Parser.Term.app #2/refine ^ #2/withReducible ^ ') #3/paren '; 'intro !l #1/. #2/intro #3/. #1/tacticSeq1Indented #1/tacticSeq ') #3/paren ^ &%7@'( '( 'with_reducible 'refine' Z '? !f ~ '? !g ~ '? !i ~ '? '_ ~ #4/. #2/_.Lean.Parser.Term.app #2/refine' ^ #2/withReducible ^ ') #3/paren '; '( 'case !f $ 'walk_at '\"l\" #1/_.str #2/_.PyProof.Rows.tacticWalk_at_ ^ #4/case ^ ') #3/paren '; '( 'case !g $ 'walk_at '\"f\" #1/_.str #2/_.PyProof.Rows.tacticWalk_at_ ^ #4/case ^ ') #3/paren '; '( 'case !i $ 'walk_at '\"l\" #1/_.str #2/_.PyProof.Rows.tacticWalk_at_ ^ #4/case ^ ') #3/paren #7/. #1/tacticSeq1Indented #1/tacticSeq ') #3/paren ^ &%s@va lfl,vv ll,var l,done_sq,done_val,ret_sq,ret,lit,asg v,asgs2 v,asgs3 v,pop,popi,not,add,sub,eq,ne,lt,gt,ge,eqs,call1,call2,glob m,attr fl,chk f,chkl f,chkd f,len f,lend f,nilq f,ins f,nins f,ink f,nink f,inl f,ninl f,idxd fm,idxl fa,idxt fa,isBi,isBb,isIi,isIb,isBr f,isBo f,isIr f,isIo f,attro fl,idxz fm,mod a,mul a,div a,isnt,mk0,mk1,mk2,dict0,copyl f,copyd f,rev f,sortd fm,sortl fm,appi fm,app fm,setId fm,setA flll,call l,tup _l,mk _l,no a,yes a".splitOn "%").findSome? λp=>match p.splitOn "@" with|[a,b]=>if a==k then some b else none|_=>none).getD ""
def rwl:List Lean.Syntax->Lean.Syntax
 |[]=>syn [] id (wtb "R")
 |r::rs=>if r.isAtom then rwl rs else syn [r.getArg 1,rwl rs] id (wtb (if (r.getArg 0).isNone then "P" else "N"))
def wal(s:String):String:=match s.splitOn " " with
 |[r]=>rp "Z" ("r_"++r) (wtb "1")
 |r::k::_=>rp "Z" ("r_"++r)<|rp "A\"" ((k.take 1).toString++ "\"")<|rp "B\"" ((k.drop 1).toString++ "\"")<|wtb (if k== "_l" then "2" else if k== "flll" then "3" else if k== "v" then "6" else if k.length==2 then "4" else if k== "lfl" then "7" else "5")
 |_=>""
end
section
universe u
@[elab_as_elim] theorem rwp {α:Sort u} {P:α->Prop} {a b:α} (h:a=b) (p:P b):P a:=h▸p
@[elab_as_elim] theorem rwn {α:Sort u} {P:α->Prop} {a b:α} (h:b=a) (p:P b):P a:=h▸p
@[elab_as_elim] theorem rwi {P:Prop->Prop} {a b:Prop} (h:a↔b) (p:P b):P a:=propext h▸p
@[elab_as_elim] theorem rwm {P:Prop->Prop} {a b:Prop} (h:b↔a) (p:P b):P a:=propext h▸p
theorem nsn{α:Type u}{x:α}{G:Prop}(h:some x=none):G:=by cases h
theorem nns{α:Type u}{x:α}{G:Prop}(h:none=some x):G:=by cases h
theorem nft{G:Prop}(h:false=true):G:=by cases h
theorem ntf{G:Prop}(h:true=false):G:=by cases h
theorem sinj{α:Type u}{a b:α}{G:Prop}(h:some a=some b)(k:a=b->G):G:=k (Option.some.inj h)
section
variable {α β δ ε ζ η:Type}{G:Prop}
variable {A B C D E F H I J K L:Prop}{A1 B1 C1 D1 E1 F1:α->Prop}{A2 B2 C2 D2 E2 F2 H2:α->β->Prop}{A3 B3 C3 D3 E3 F3 H3:α->β->δ->Prop}{A4 B4 C4 D4 E4 F4 H4:α->β->δ->ε->Prop}{A6 B6 C6 D6 E6 F6 H6 I6 J6:α->β->δ->ε->ζ->η->Prop}
theorem o(h:A)(k:A->G):G:=k h
theorem oa(h:A/\B)(k:A->B->G):G:=k h.1 h.2
theorem oaa(h:A/\B/\C)(k:A->B->C->G):G:=k h.1 h.2.1 h.2.2
theorem oaaa(h:A/\B/\C/\D)(k:A->B->C->D->G):G:=k h.1 h.2.1 h.2.2.1 h.2.2.2
theorem oaaaa(h:A/\B/\C/\D/\E)(k:A->B->C->D->E->G):G:=k h.1 h.2.1 h.2.2.1 h.2.2.2.1 h.2.2.2.2
theorem oaaaaa(h:A/\B/\C/\D/\E/\F)(k:A->B->C->D->E->F->G):G:=k h.1 h.2.1 h.2.2.1 h.2.2.2.1 h.2.2.2.2.1 h.2.2.2.2.2
theorem oaaaaaaaaaa(h:A/\B/\C/\D/\E/\F/\H/\I/\J/\K/\L)(k:A->B->C->D->E->F->H->I->J->K->L->G):G:=k h.1 h.2.1 h.2.2.1 h.2.2.2.1 h.2.2.2.2.1 h.2.2.2.2.2.1 h.2.2.2.2.2.2.1 h.2.2.2.2.2.2.2.1 h.2.2.2.2.2.2.2.2.1 h.2.2.2.2.2.2.2.2.2.1 h.2.2.2.2.2.2.2.2.2.2
theorem oaaeaaa(h:A/\B/\∃x0,C1 x0/\D1 x0/\E1 x0/\F1 x0)(k:A->B->∀x0,C1 x0->D1 x0->E1 x0->F1 x0->G):G:=h.2.2.elim λx0 q0=>k h.1 h.2.1 x0 q0.1 q0.2.1 q0.2.2.1 q0.2.2.2
theorem oaea(h:A/\∃x0,B1 x0/\C1 x0)(k:A->∀x0,B1 x0->C1 x0->G):G:=h.2.elim λx0 q0=>k h.1 x0 q0.1 q0.2
theorem oaeaa(h:A/\∃x0,B1 x0/\C1 x0/\D1 x0)(k:A->∀x0,B1 x0->C1 x0->D1 x0->G):G:=h.2.elim λx0 q0=>k h.1 x0 q0.1 q0.2.1 q0.2.2
theorem oaeaaa(h:A/\∃x0,B1 x0/\C1 x0/\D1 x0/\E1 x0)(k:A->∀x0,B1 x0->C1 x0->D1 x0->E1 x0->G):G:=h.2.elim λx0 q0=>k h.1 x0 q0.1 q0.2.1 q0.2.2.1 q0.2.2.2
theorem oaeaeaa(h:A/\∃x0,B1 x0/\∃x1,C2 x0 x1/\D2 x0 x1/\E2 x0 x1)(k:A->∀x0,B1 x0->∀x1,C2 x0 x1->D2 x0 x1->E2 x0 x1->G):G:=h.2.elim λx0 q0=>q0.2.elim λx1 q1=>k h.1 x0 q0.1 x1 q1.1 q1.2.1 q1.2.2
theorem oaee(h:A/\∃x0,∃x1,B2 x0 x1)(k:A->∀x0 x1,B2 x0 x1->G):G:=h.2.elim λx0 q0=>q0.elim λx1 q1=>k h.1 x0 x1 q1
theorem oaeea(h:A/\∃x0,∃x1,B2 x0 x1/\C2 x0 x1)(k:A->∀x0 x1,B2 x0 x1->C2 x0 x1->G):G:=h.2.elim λx0 q0=>q0.elim λx1 q1=>k h.1 x0 x1 q1.1 q1.2
theorem oaeeaa(h:A/\∃x0,∃x1,B2 x0 x1/\C2 x0 x1/\D2 x0 x1)(k:A->∀x0 x1,B2 x0 x1->C2 x0 x1->D2 x0 x1->G):G:=h.2.elim λx0 q0=>q0.elim λx1 q1=>k h.1 x0 x1 q1.1 q1.2.1 q1.2.2
theorem oe(h:∃x0,A1 x0)(k:∀x0,A1 x0->G):G:=h.elim λx0 q0=>k x0 q0
theorem oea(h:∃x0,A1 x0/\B1 x0)(k:∀x0,A1 x0->B1 x0->G):G:=h.elim λx0 q0=>k x0 q0.1 q0.2
theorem oeaa(h:∃x0,A1 x0/\B1 x0/\C1 x0)(k:∀x0,A1 x0->B1 x0->C1 x0->G):G:=h.elim λx0 q0=>k x0 q0.1 q0.2.1 q0.2.2
theorem oeaaa(h:∃x0,A1 x0/\B1 x0/\C1 x0/\D1 x0)(k:∀x0,A1 x0->B1 x0->C1 x0->D1 x0->G):G:=h.elim λx0 q0=>k x0 q0.1 q0.2.1 q0.2.2.1 q0.2.2.2
theorem oeaaaa(h:∃x0,A1 x0/\B1 x0/\C1 x0/\D1 x0/\E1 x0)(k:∀x0,A1 x0->B1 x0->C1 x0->D1 x0->E1 x0->G):G:=h.elim λx0 q0=>k x0 q0.1 q0.2.1 q0.2.2.1 q0.2.2.2.1 q0.2.2.2.2
theorem oeaaaaeaa(h:∃x0,A1 x0/\B1 x0/\C1 x0/\D1 x0/\∃x1,E2 x0 x1/\F2 x0 x1/\H2 x0 x1)(k:∀x0,A1 x0->B1 x0->C1 x0->D1 x0->∀x1,E2 x0 x1->F2 x0 x1->H2 x0 x1->G):G:=h.elim λx0 q0=>q0.2.2.2.2.elim λx1 q1=>k x0 q0.1 q0.2.1 q0.2.2.1 q0.2.2.2.1 x1 q1.1 q1.2.1 q1.2.2
theorem oeaae(h:∃x0,A1 x0/\B1 x0/\∃x1,C2 x0 x1)(k:∀x0,A1 x0->B1 x0->∀x1,C2 x0 x1->G):G:=h.elim λx0 q0=>q0.2.2.elim λx1 q1=>k x0 q0.1 q0.2.1 x1 q1
theorem oeae(h:∃x0,A1 x0/\∃x1,B2 x0 x1)(k:∀x0,A1 x0->∀x1,B2 x0 x1->G):G:=h.elim λx0 q0=>q0.2.elim λx1 q1=>k x0 q0.1 x1 q1
theorem oeaea(h:∃x0,A1 x0/\∃x1,B2 x0 x1/\C2 x0 x1)(k:∀x0,A1 x0->∀x1,B2 x0 x1->C2 x0 x1->G):G:=h.elim λx0 q0=>q0.2.elim λx1 q1=>k x0 q0.1 x1 q1.1 q1.2
theorem oeaeaa(h:∃x0,A1 x0/\∃x1,B2 x0 x1/\C2 x0 x1/\D2 x0 x1)(k:∀x0,A1 x0->∀x1,B2 x0 x1->C2 x0 x1->D2 x0 x1->G):G:=h.elim λx0 q0=>q0.2.elim λx1 q1=>k x0 q0.1 x1 q1.1 q1.2.1 q1.2.2
theorem oee(h:∃x0,∃x1,A2 x0 x1)(k:∀x0 x1,A2 x0 x1->G):G:=h.elim λx0 q0=>q0.elim λx1 q1=>k x0 x1 q1
theorem oeea(h:∃x0,∃x1,A2 x0 x1/\B2 x0 x1)(k:∀x0 x1,A2 x0 x1->B2 x0 x1->G):G:=h.elim λx0 q0=>q0.elim λx1 q1=>k x0 x1 q1.1 q1.2
theorem oeeaa(h:∃x0,∃x1,A2 x0 x1/\B2 x0 x1/\C2 x0 x1)(k:∀x0 x1,A2 x0 x1->B2 x0 x1->C2 x0 x1->G):G:=h.elim λx0 q0=>q0.elim λx1 q1=>k x0 x1 q1.1 q1.2.1 q1.2.2
theorem oeeaaa(h:∃x0,∃x1,A2 x0 x1/\B2 x0 x1/\C2 x0 x1/\D2 x0 x1)(k:∀x0 x1,A2 x0 x1->B2 x0 x1->C2 x0 x1->D2 x0 x1->G):G:=h.elim λx0 q0=>q0.elim λx1 q1=>k x0 x1 q1.1 q1.2.1 q1.2.2.1 q1.2.2.2
theorem oeeaaaa(h:∃x0,∃x1,A2 x0 x1/\B2 x0 x1/\C2 x0 x1/\D2 x0 x1/\E2 x0 x1)(k:∀x0 x1,A2 x0 x1->B2 x0 x1->C2 x0 x1->D2 x0 x1->E2 x0 x1->G):G:=h.elim λx0 q0=>q0.elim λx1 q1=>k x0 x1 q1.1 q1.2.1 q1.2.2.1 q1.2.2.2.1 q1.2.2.2.2
theorem oeeaaaaa(h:∃x0,∃x1,A2 x0 x1/\B2 x0 x1/\C2 x0 x1/\D2 x0 x1/\E2 x0 x1/\F2 x0 x1)(k:∀x0 x1,A2 x0 x1->B2 x0 x1->C2 x0 x1->D2 x0 x1->E2 x0 x1->F2 x0 x1->G):G:=h.elim λx0 q0=>q0.elim λx1 q1=>k x0 x1 q1.1 q1.2.1 q1.2.2.1 q1.2.2.2.1 q1.2.2.2.2.1 q1.2.2.2.2.2
theorem oeeaaeaa(h:∃x0,∃x1,A2 x0 x1/\B2 x0 x1/\∃x2,C3 x0 x1 x2/\D3 x0 x1 x2/\E3 x0 x1 x2)(k:∀x0 x1,A2 x0 x1->B2 x0 x1->∀x2,C3 x0 x1 x2->D3 x0 x1 x2->E3 x0 x1 x2->G):G:=h.elim λx0 q0=>q0.elim λx1 q1=>q1.2.2.elim λx2 q2=>k x0 x1 q1.1 q1.2.1 x2 q2.1 q2.2.1 q2.2.2
theorem oeeaeaa(h:∃x0,∃x1,A2 x0 x1/\∃x2,B3 x0 x1 x2/\C3 x0 x1 x2/\D3 x0 x1 x2)(k:∀x0 x1,A2 x0 x1->∀x2,B3 x0 x1 x2->C3 x0 x1 x2->D3 x0 x1 x2->G):G:=h.elim λx0 q0=>q0.elim λx1 q1=>q1.2.elim λx2 q2=>k x0 x1 q1.1 x2 q2.1 q2.2.1 q2.2.2
theorem oeee(h:∃x0,∃x1,∃x2,A3 x0 x1 x2)(k:∀x0 x1 x2,A3 x0 x1 x2->G):G:=h.elim λx0 q0=>q0.elim λx1 q1=>q1.elim λx2 q2=>k x0 x1 x2 q2
theorem oeeea(h:∃x0,∃x1,∃x2,A3 x0 x1 x2/\B3 x0 x1 x2)(k:∀x0 x1 x2,A3 x0 x1 x2->B3 x0 x1 x2->G):G:=h.elim λx0 q0=>q0.elim λx1 q1=>q1.elim λx2 q2=>k x0 x1 x2 q2.1 q2.2
theorem oeeeaa(h:∃x0,∃x1,∃x2,A3 x0 x1 x2/\B3 x0 x1 x2/\C3 x0 x1 x2)(k:∀x0 x1 x2,A3 x0 x1 x2->B3 x0 x1 x2->C3 x0 x1 x2->G):G:=h.elim λx0 q0=>q0.elim λx1 q1=>q1.elim λx2 q2=>k x0 x1 x2 q2.1 q2.2.1 q2.2.2
theorem oeeeaaa(h:∃x0,∃x1,∃x2,A3 x0 x1 x2/\B3 x0 x1 x2/\C3 x0 x1 x2/\D3 x0 x1 x2)(k:∀x0 x1 x2,A3 x0 x1 x2->B3 x0 x1 x2->C3 x0 x1 x2->D3 x0 x1 x2->G):G:=h.elim λx0 q0=>q0.elim λx1 q1=>q1.elim λx2 q2=>k x0 x1 x2 q2.1 q2.2.1 q2.2.2.1 q2.2.2.2
theorem oeeeaaaa(h:∃x0,∃x1,∃x2,A3 x0 x1 x2/\B3 x0 x1 x2/\C3 x0 x1 x2/\D3 x0 x1 x2/\E3 x0 x1 x2)(k:∀x0 x1 x2,A3 x0 x1 x2->B3 x0 x1 x2->C3 x0 x1 x2->D3 x0 x1 x2->E3 x0 x1 x2->G):G:=h.elim λx0 q0=>q0.elim λx1 q1=>q1.elim λx2 q2=>k x0 x1 x2 q2.1 q2.2.1 q2.2.2.1 q2.2.2.2.1 q2.2.2.2.2
theorem oeeeaaaaa(h:∃x0,∃x1,∃x2,A3 x0 x1 x2/\B3 x0 x1 x2/\C3 x0 x1 x2/\D3 x0 x1 x2/\E3 x0 x1 x2/\F3 x0 x1 x2)(k:∀x0 x1 x2,A3 x0 x1 x2->B3 x0 x1 x2->C3 x0 x1 x2->D3 x0 x1 x2->E3 x0 x1 x2->F3 x0 x1 x2->G):G:=h.elim λx0 q0=>q0.elim λx1 q1=>q1.elim λx2 q2=>k x0 x1 x2 q2.1 q2.2.1 q2.2.2.1 q2.2.2.2.1 q2.2.2.2.2.1 q2.2.2.2.2.2
theorem oeeeaaaaaa(h:∃x0,∃x1,∃x2,A3 x0 x1 x2/\B3 x0 x1 x2/\C3 x0 x1 x2/\D3 x0 x1 x2/\E3 x0 x1 x2/\F3 x0 x1 x2/\H3 x0 x1 x2)(k:∀x0 x1 x2,A3 x0 x1 x2->B3 x0 x1 x2->C3 x0 x1 x2->D3 x0 x1 x2->E3 x0 x1 x2->F3 x0 x1 x2->H3 x0 x1 x2->G):G:=h.elim λx0 q0=>q0.elim λx1 q1=>q1.elim λx2 q2=>k x0 x1 x2 q2.1 q2.2.1 q2.2.2.1 q2.2.2.2.1 q2.2.2.2.2.1 q2.2.2.2.2.2.1 q2.2.2.2.2.2.2
theorem oeeeea(h:∃x0,∃x1,∃x2,∃x3,A4 x0 x1 x2 x3/\B4 x0 x1 x2 x3)(k:∀x0 x1 x2 x3,A4 x0 x1 x2 x3->B4 x0 x1 x2 x3->G):G:=h.elim λx0 q0=>q0.elim λx1 q1=>q1.elim λx2 q2=>q2.elim λx3 q3=>k x0 x1 x2 x3 q3.1 q3.2
theorem oeeeeaa(h:∃x0,∃x1,∃x2,∃x3,A4 x0 x1 x2 x3/\B4 x0 x1 x2 x3/\C4 x0 x1 x2 x3)(k:∀x0 x1 x2 x3,A4 x0 x1 x2 x3->B4 x0 x1 x2 x3->C4 x0 x1 x2 x3->G):G:=h.elim λx0 q0=>q0.elim λx1 q1=>q1.elim λx2 q2=>q2.elim λx3 q3=>k x0 x1 x2 x3 q3.1 q3.2.1 q3.2.2
theorem oeeeeaaa(h:∃x0,∃x1,∃x2,∃x3,A4 x0 x1 x2 x3/\B4 x0 x1 x2 x3/\C4 x0 x1 x2 x3/\D4 x0 x1 x2 x3)(k:∀x0 x1 x2 x3,A4 x0 x1 x2 x3->B4 x0 x1 x2 x3->C4 x0 x1 x2 x3->D4 x0 x1 x2 x3->G):G:=h.elim λx0 q0=>q0.elim λx1 q1=>q1.elim λx2 q2=>q2.elim λx3 q3=>k x0 x1 x2 x3 q3.1 q3.2.1 q3.2.2.1 q3.2.2.2
theorem oeeeeaaaa(h:∃x0,∃x1,∃x2,∃x3,A4 x0 x1 x2 x3/\B4 x0 x1 x2 x3/\C4 x0 x1 x2 x3/\D4 x0 x1 x2 x3/\E4 x0 x1 x2 x3)(k:∀x0 x1 x2 x3,A4 x0 x1 x2 x3->B4 x0 x1 x2 x3->C4 x0 x1 x2 x3->D4 x0 x1 x2 x3->E4 x0 x1 x2 x3->G):G:=h.elim λx0 q0=>q0.elim λx1 q1=>q1.elim λx2 q2=>q2.elim λx3 q3=>k x0 x1 x2 x3 q3.1 q3.2.1 q3.2.2.1 q3.2.2.2.1 q3.2.2.2.2
theorem oeeeeaaaaa(h:∃x0,∃x1,∃x2,∃x3,A4 x0 x1 x2 x3/\B4 x0 x1 x2 x3/\C4 x0 x1 x2 x3/\D4 x0 x1 x2 x3/\E4 x0 x1 x2 x3/\F4 x0 x1 x2 x3)(k:∀x0 x1 x2 x3,A4 x0 x1 x2 x3->B4 x0 x1 x2 x3->C4 x0 x1 x2 x3->D4 x0 x1 x2 x3->E4 x0 x1 x2 x3->F4 x0 x1 x2 x3->G):G:=h.elim λx0 q0=>q0.elim λx1 q1=>q1.elim λx2 q2=>q2.elim λx3 q3=>k x0 x1 x2 x3 q3.1 q3.2.1 q3.2.2.1 q3.2.2.2.1 q3.2.2.2.2.1 q3.2.2.2.2.2
theorem oeeeeaaaaaa(h:∃x0,∃x1,∃x2,∃x3,A4 x0 x1 x2 x3/\B4 x0 x1 x2 x3/\C4 x0 x1 x2 x3/\D4 x0 x1 x2 x3/\E4 x0 x1 x2 x3/\F4 x0 x1 x2 x3/\H4 x0 x1 x2 x3)(k:∀x0 x1 x2 x3,A4 x0 x1 x2 x3->B4 x0 x1 x2 x3->C4 x0 x1 x2 x3->D4 x0 x1 x2 x3->E4 x0 x1 x2 x3->F4 x0 x1 x2 x3->H4 x0 x1 x2 x3->G):G:=h.elim λx0 q0=>q0.elim λx1 q1=>q1.elim λx2 q2=>q2.elim λx3 q3=>k x0 x1 x2 x3 q3.1 q3.2.1 q3.2.2.1 q3.2.2.2.1 q3.2.2.2.2.1 q3.2.2.2.2.2.1 q3.2.2.2.2.2.2
theorem oeeeeeeaaaaaaaa(h:∃x0,∃x1,∃x2,∃x3,∃x4,∃x5,A6 x0 x1 x2 x3 x4 x5/\B6 x0 x1 x2 x3 x4 x5/\C6 x0 x1 x2 x3 x4 x5/\D6 x0 x1 x2 x3 x4 x5/\E6 x0 x1 x2 x3 x4 x5/\F6 x0 x1 x2 x3 x4 x5/\H6 x0 x1 x2 x3 x4 x5/\I6 x0 x1 x2 x3 x4 x5/\J6 x0 x1 x2 x3 x4 x5)(k:∀x0 x1 x2 x3 x4 x5,A6 x0 x1 x2 x3 x4 x5->B6 x0 x1 x2 x3 x4 x5->C6 x0 x1 x2 x3 x4 x5->D6 x0 x1 x2 x3 x4 x5->E6 x0 x1 x2 x3 x4 x5->F6 x0 x1 x2 x3 x4 x5->H6 x0 x1 x2 x3 x4 x5->I6 x0 x1 x2 x3 x4 x5->J6 x0 x1 x2 x3 x4 x5->G):G:=h.elim λx0 q0=>q0.elim λx1 q1=>q1.elim λx2 q2=>q2.elim λx3 q3=>q3.elim λx4 q4=>q4.elim λx5 q5=>k x0 x1 x2 x3 x4 x5 q5.1 q5.2.1 q5.2.2.1 q5.2.2.2.1 q5.2.2.2.2.1 q5.2.2.2.2.2.1 q5.2.2.2.2.2.2.1 q5.2.2.2.2.2.2.2.1 q5.2.2.2.2.2.2.2.2
theorem oaaea(h:A/\B/\∃x0,C1 x0/\D1 x0)(k:A->B->∀x0,C1 x0->D1 x0->G):G:=h.2.2.elim λx0 q0=>k h.1 h.2.1 x0 q0.1 q0.2
theorem oaaee(h:A/\B/\∃x0,∃x1,C2 x0 x1)(k:A->B->∀x0 x1,C2 x0 x1->G):G:=h.2.2.elim λx0 q0=>q0.elim λx1 q1=>k h.1 h.2.1 x0 x1 q1
theorem oaeaaaeaa(h:A/\∃x0,B1 x0/\C1 x0/\D1 x0/\∃x1,E2 x0 x1/\F2 x0 x1/\H2 x0 x1)(k:A->∀x0,B1 x0->C1 x0->D1 x0->∀x1,E2 x0 x1->F2 x0 x1->H2 x0 x1->G):G:=h.2.elim λx0 q0=>q0.2.2.2.elim λx1 q1=>k h.1 x0 q0.1 q0.2.1 q0.2.2.1 x1 q1.1 q1.2.1 q1.2.2
end
end
local macro_rules
 | `(tactic| rw $s:rwRuleSeq) => return rwl (s.raw.getArg 1).getArgs.toList
local macro_rules
 | `(tactic| rcases $h:elimTarget with $p:rcasesPatLo) => do
  let m:=(p.raw.getArg 0).getArg 0
  if m.getNumArgs==3 then return syn [h.raw.getArg 1,m.getArg 0,m.getArg 2] id (wtb "O") else Lean.Macro.throwUnsupported
local macro_rules
 | `(tactic| cases $t:elimTarget) => if (t.raw.getArg 1).isIdent then return syn [t.raw.getArg 1] id (wtb "C") else Lean.Macro.throwUnsupported
section
namespace LA
set_option genCtorIdx false in
inductive Ax where
 |i (k:Nat)|c (k:Nat)|a (x y:Ax)|s (x y:Ax)|m (k:Nat) (x:Ax)|r (x:Ax) (k:Nat)|n (x:Ax)|g (k:Nat)
set_option genCtorIdx false in
inductive Hx where
 |le (b:Bool) (x y:Ax)|lt (b:Bool) (x y:Ax)|eq (b:Bool) (x y:Ax)|Fw (b:Bool) (x y:Ax)|Fv (b:Bool) (x y:Ax)|an (h g:Hx)
noncomputable def jY{α:Type}(d:α):List α->Nat->α
 |[],_=>d
 |x::l,n=>Nat.rec (motive:=λ_=>α) x (λn _=>jY d l n) n
noncomputable def dot:List Int->List Int->Int
 |[],_=>0
 |a::l,X=>a*jY 0 X 0+dot l X.tail
noncomputable def lK:List Int->List Int->List Int
 |[],r=>r
 |a::l,r=>(a+jY 0 r 0)::lK l r.tail
noncomputable def unit:Nat->List Int
 |0=>[1]
 |n+1=>0::unit n
section
variable (I:List Int)(N:List Nat)
noncomputable def Ax.t:Ax->Nat
 | .i k=>jY 0 N k
 | .c k=>k
 | .a x y=>x.t+y.t
 | .s _ _=>0
 | .m k x=>k*x.t
 | .r x k=>x.t*k
 | .n _=>0
 | .g _=>0
noncomputable def Ax.z:Ax->Int
 | .i k=>jY 0 I k
 | .c k=>(k:Nat)
 | .a x y=>x.z+y.z
 | .s x y=>x.z - y.z
 | .m k x=>(k:Nat)*x.z
 | .r x k=>x.z*(k:Nat)
 | .n x=>(x.t N:Nat)
 | .g k=>-(k:Nat)
noncomputable def cmp(b:Bool)(p:Nat->Nat->Prop)(q:Int->Int->Prop)(x y:Ax):Prop:=b.rec (q (x.z I N) (y.z I N)) (p (x.t N) (y.t N))
noncomputable def Hx.d:Hx->Prop
 | .le b x y=>cmp I N b (· <= ·) (· <= ·) x y
 | .lt b x y=>cmp I N b (· < ·) (· < ·) x y
 | .eq b x y=>cmp I N b (· = ·) (· = ·) x y
 | .Fw b x y=>cmp I N b (¬ · <= ·) (¬ · <= ·) x y
 | .Fv b x y=>cmp I N b (¬ · < ·) (¬ · < ·) x y
 | .an h g=>h.d/\g.d
end
noncomputable def mul(k:Int)(l:List Int):List Int:=l.map (k* ·)
noncomputable def Ax.l(n:Nat):Bool->Ax->List Int
 |b,.i k=>b.rec ((k.blt n).rec [] (unit (k+1))) (unit (n+1+k))
 |_,.c k=>[(k:Nat)]
 |b,.a x y=>lK (x.l n b) (y.l n b)
 |b,.s x y=>b.rec (lK (x.l n false) (mul (-1) (y.l n false))) []
 |b,.m k x=>mul (k:Nat) (x.l n b)
 |b,.r x k=>mul (k:Nat) (x.l n b)
 |b,.n x=>b.rec (x.l n true) []
 |b,.g k=>b.rec [-(k:Nat)] []
noncomputable def FZ(n:Nat)(b:Bool)(e:Int)(x y:Ax):List Int:=lK (lK (y.l n b) (mul (-1) (x.l n b))) [e]
noncomputable def Hx.cs(n:Nat):Hx->List (List Int)
 | .le b x y=>[FZ n b 0 x y]
 | .lt b x y=>[FZ n b (-1) x y]
 | .eq b x y=>[FZ n b 0 x y,FZ n b 0 y x]
 | .Fw b x y=>[FZ n b (-1) y x]
 | .Fv b x y=>[FZ n b 0 y x]
 | .an h g=>h.cs n++g.cs n
noncomputable def comb:List Nat->List (List Int)->List Int
 |[],_=>[]
 |m::ms,ls=>lK (mul (m:Nat) (jY [] ls 0)) (comb ms ls.tail)
noncomputable def Dm:Nat->List Int->Bool
 |0,l=>l.all (· <=0)
 |n+1,l=>jY 0 l 0==0&&Dm n l.tail
noncomputable def bM(ms:List Nat)(n:Nat)(hs:List Hx):Bool:=decide (jY 0 (comb ms (hs.flatMap (Hx.cs n))) 0<0)&&Dm n (comb ms (hs.flatMap (Hx.cs n))).tail
section
variable {I:List Int}{N:List Nat}
theorem Nk{α:Type}{d:α}:∀{n:Nat},jY d [] n=d:=rfl
theorem Mn{a:Int}{l X:List Int}:dot (a::l) X=a*jY 0 X 0+dot l X.tail:=rfl
theorem jt:∀{p q X:List Int},dot (lK p q) X=dot p X+dot q X
 |[],_,_=>(V1 _).symm
 |a::p,q,X=>by
  have e:dot q X=jY 0 q 0*jY 0 X 0+dot q.tail X.tail:=by
   cases q with
   |nil=>exact((Yx _).trans (W8 _)).symm
   |cons=>rfl
  show (a+jY 0 q 0)*jY 0 X 0+dot (lK p q.tail) X.tail=a*jY 0 X 0+dot p X.tail+dot q X;rw[jt,Int.add_mul,e];ac_rfl
theorem jr{k:Int}:∀{p X:List Int},dot (mul k p) X=k*dot p X
 |[],_=>(Int.mul_zero k).symm
 |a::p,X=>by
  show k*a*jY 0 X 0+dot (mul k p) X.tail=k*(a*jY 0 X 0+dot p X.tail);rw[jr,Int.mul_add,Int.mul_assoc]
theorem Cc{l:List Int}{n:Nat}:jY 0 l (n+1)=jY 0 l.tail n:=by cases l<;>rfl
theorem iT:∀{n:Nat} {X:List Int},dot (unit n) X=jY 0 X n
 |0,X=>(Yx _).trans (Int.one_mul _)
 |n+1,X=>by
  rw[Cc,<-iT (n:=n)];exact(congrArg (· +_) (W8 _)).trans (V1 _)
theorem ES:∀{A B:List Int} {n:Nat},jY 0 (A++B) (A.length+n)=jY 0 B n
 |[],_,n=>congrArg _ (Xy n)
 |_::A,B,n=>by rw[Ym,Nat.succ_add];exact ES (A:=A)
theorem oP:∀{N:List Nat} {n:Nat},jY 0 (N.map Int.ofNat) n=(jY 0 N n:Nat)
 |[],_=>rfl
 |_::_,0=>rfl
 |_::N,n+1=>oP (N:=N)
noncomputable abbrev yG(I:List Int)(N:List Nat):List Int:=1::(I++N.map Int.ofNat)
theorem AO{e:Int}:dot [e] (yG I N)=e:=(Yx _).trans (Int.mul_one e)
theorem Fh:∀{A B:List Int} {k:Nat},dot ((k.blt A.length).rec [] (unit (k+1))) (1::(A++B))=jY 0 A k
 |[],_,_=>rfl
 |x::A,B,0=>iT (n:=1) (X:=1::x::(A++B))
 |x::A,B,k+1=>by
  refine Uw ?_ (Fh (A:=A) (B:=B) (k:=k));show dot ((k.blt A.length).rec [] (unit (k+2))) _=_
  cases k.blt A.length
  . rfl
  . exact(iT (n:=k+2) (X:=1::x::(A++B))).trans (iT (n:=k+1) (X:=1::(A++B))).symm
noncomputable def Ax.v(I:List Int)(N:List Nat)(b:Bool)(x:Ax):Int:=b.rec (x.z I N) (x.t N:Nat)
theorem Ax.rk:∀{x:Ax} {b:Bool},dot (x.l I.length b) (yG I N)=x.v I N b
 | .i k,false=>Fh
 | .i k,true=>by
  show dot (unit (I.length+1+k)) _=_;rw[iT,XR];exact ES.trans oP
 | .c k,b=>AO.trans (by cases b<;>rfl)
 | .a x y,b=>by
  show dot (lK _ _) _=_;rw[jt,rk,rk];cases b<;>rfl
 | .s x y,false=>by
  show dot (lK _ (mul _ _)) _=_;rw[jt,jr,rk,rk,Un];rfl
 | .s x y,true=>rfl
 | .m k x,b=>by
  show dot (mul _ _) _=_;rw[jr,rk];cases b<;>rfl
 | .r x k,b=>by
  show dot (mul _ _) _=_;rw[jr,rk,Int.mul_comm];cases b<;>rfl
 | .n x,false=>rk (b:=true)
 | .n x,true=>rfl
 | .g _,false=>AO
 | .g _,true=>rfl
theorem lS{b:Bool}{e:Int}{x y:Ax}(h:0<=y.v I N b - x.v I N b+e):0<=dot (FZ I.length b e x y) (yG I N):=by
 show 0<=dot (lK (lK _ (mul _ _)) _) _;rw[jt,jt,jr,Ax.rk,Ax.rk,AO,Un];exact h
theorem MJ{a b:Int}(h:a<=b):0<=b - a+0:=by rw[Yx];exact Int.sub_nonneg_of_le h
theorem QU{a b:Int}(h:a<b):0<=b - a+ -1:=Int.le_sub_one_of_lt (Int.sub_pos_of_lt h)
noncomputable abbrev Pos(I:List Int)(N:List Nat)(ls:List (List Int)):Prop:=∀l∈ls,0<=dot l (yG I N)
theorem jk{v:List Int}(k:0<=dot v (yG I N)):Pos I N [v]:=λ_ m=>Zc.mp m▸k
theorem xF{v w:List (List Int)}(k:Pos I N v)(k2:Pos I N w):Pos I N (v++w):=λl m=>(Zg.mp m).elim (k l) (k2 l)
theorem OV{b:Bool}{x y:Ax}(h:cmp I N b (· <= ·) (· <= ·) x y):x.v I N b<=y.v I N b:=by
 cases b
 . exact h
 . exact WJ.mpr h
theorem v_lt{b:Bool}{x y:Ax}(h:cmp I N b (· < ·) (· < ·) x y):x.v I N b<y.v I N b:=by
 cases b
 . exact h
 . exact YS.mpr h
theorem v_eq{b:Bool}{x y:Ax}(h:cmp I N b (· = ·) (· = ·) x y):x.v I N b=y.v I N b:=by
 cases b
 . exact h
 . exact congrArg Int.ofNat h
theorem KC{b:Bool}{x y:Ax}(h:cmp I N b (¬ · <= ·) (¬ · <= ·) x y):y.v I N b<x.v I N b:=by
 cases b
 . exact Ux.mp h
 . exact YS.mpr (Nat.not_le.mp h)
theorem KB{b:Bool}{x y:Ax}(h:cmp I N b (¬ · < ·) (¬ · < ·) x y):y.v I N b<=x.v I N b:=by
 cases b
 . exact Uy.mp h
 . exact WJ.mpr (Uz.mp h)
theorem Hx.ok:∀{h:Hx},h.d I N->Pos I N (h.cs I.length)
 | .le b x y,d=>jk (lS (MJ (OV d)))
 | .lt b x y,d=>jk (lS (QU (v_lt d)))
 | .eq b x y,d=>xF (jk (lS (MJ (Int.le_of_eq (v_eq d))))) (jk (lS (MJ (Int.le_of_eq (v_eq d).symm))))
 | .Fw b x y,d=>jk (lS (QU (KC d)))
 | .Fv b x y,d=>jk (lS (MJ (KB d)))
 | .an g k,d=>xF (ok d.1) (ok d.2)
theorem rV:∀{ms:List Nat} {ls:List (List Int)},Pos I N ls->0<=dot (comb ms ls) (yG I N)
 |[],_,_=>Wt 0
 |m::ms,ls,h=>by
  show 0<=dot (lK (mul _ _) _) _;rw[jt,jr]
  cases ls with
  |nil=>exact Int.add_nonneg (Int.mul_nonneg (Z9 m) (Wt 0)) (rV (ls:=[]) h)
  |cons l ls=>exact Int.add_nonneg (Int.mul_nonneg (Z9 m) (h l (.head _))) (rV λl m=>h l (.tail _ m))
theorem J_:∀{l:List Int} {N:List Nat},Dm 0 l=true->dot l (N.map Int.ofNat)<=0
 |[],_,_=>Wt 0
 |a::l,N,h=>by
  have h:=Zj.mp h;have n0:0<=jY 0 (N.map Int.ofNat) 0:=oP▸Z9 _;show _+dot l (N.map Int.ofNat).tail<=0;rw[<-List.map_tail];exact Int.add_nonpos (Int.mul_nonpos_of_nonpos_of_nonneg (of_decide_eq_true h.1) n0) (J_ h.2)
theorem Bq{l X:List Int}:dot l X=jY 0 l 0*jY 0 X 0+dot l.tail X.tail:=by
 cases l with
 |nil=>exact((Yx _).trans (W8 _)).symm
 |cons=>rfl
theorem Ka:∀{I l:List Int},Dm I.length l=true->dot l (I++N.map Int.ofNat)<=0
 |[],_,h=>J_ h
 |x::I,l,h=>by
  have h:=Zj.mp h;rw[Bq,beq_iff_eq.mp h.1,W8,V1];exact Ka h.2
theorem Br{ms:List Nat}{hs:List Hx}(h:bM ms I.length hs=true)(d:∀h∈hs,h.d I N):False:=by
 have p:=rV (ms:=ms) (I:=I) (N:=N) (ls:=hs.flatMap (Hx.cs I.length)) λl m=>by
  obtain ⟨g,hg,hl⟩:=Zm.mp m;exact Hx.ok (d g hg) l hl
 have h:=Zj.mp h;rw[Bq] at p;refine Ux.mpr ?_ p;exact Int.add_neg_of_neg_of_nonpos ((Int.mul_one _).symm▸of_decide_eq_true h.1) (Ka h.2)
end
noncomputable def dA{α:Type}(e:α):Nat->Nat->(Ax->Nat->α)->α
 |0,_,_=>e
 |f+1,c,k=>jY e [k (.c (c / 16 % 16)) (c / 256),k (.i (c / 16 % 16)) (c / 256),
  dA e f (c / 16) λx c=>dA e f c λy c=>k (.a x y) c,dA e f (c / 16) λx c=>dA e f c λy c=>k (.s x y) c,
  dA e f (c / 4096) λx d=>k (.m (c / 16 % 256) x) d,dA e f (c / 16) λx c=>k (.n x) c,
  k (.c (c / 16 % 65536)) (c / 1048576),dA e f (c / 4096) λx d=>k (.r x (c / 16 % 256)) d,k (.c (c / 16 % 4294967296)) (c / 68719476736),k (.g (c / 16 % 16)) (c / 256)] (c % 16)
noncomputable def dH{α:Type}(e:α):Nat->Nat->(Hx->Nat->α)->α
 |0,_,_=>e
 |f+1,c,k=>jY (dH e f (c / 16) λx c=>dH e f c λy c=>k (.an x y) c) ([Hx.le false,Hx.lt false,Hx.eq false,Hx.le true,Hx.lt true,Hx.eq true,Hx.Fw false,Hx.Fv false,Hx.Fw true,Hx.Fv true].map λt=>dA e 30 (c / 16) λx c=>dA e 30 c λy c=>k (t x y) c) (c % 16)
noncomputable def dM:Nat->Nat->List Nat
 |0,_=>[]
 |f+1,c=>c % 16::dM f (c / 16)
noncomputable def RW{α:Type}(e:α):Nat->Nat->(List Hx->Nat->α)->α
 |0,c,k=>k [] c
 |n+1,c,k=>dH e 30 c λh c=>RW e n c λhs c=>k (h::hs) c
noncomputable def imp(I:List Int)(N:List Nat)(g:Prop):List Hx->Prop
 |[]=>g
 |h::hs=>h.d I N->imp I N g hs
noncomputable def Hx.ng:Hx->Hx
 | .le b x y=>.Fw b x y
 | .lt b x y=>.Fv b x y
 |_=>.eq true (.c 0) (.c 0)
noncomputable abbrev Pk:=List Hx×Option Hx×List Nat
noncomputable def dec(c:Nat):Pk:=RW ([],none,[]) (c % 16) (c / 16) λhs c=>jY (hs,none,dM 24 (c / 16)) [dH ([],none,[]) 30 c λg c=>(hs,some g,dM 24 c)] (c % 16 - 10)
noncomputable def all{α:Type}:Nat->(List α->Prop)->Prop
 |0,P=>P []
 |n+1,P=>∀x,all n λl=>P (x::l)
noncomputable def So(n m:Nat)(p:Pk):Prop:=all n λI=>all m λN=>imp I N (p.2.1.rec False (·.d I N)) p.1
noncomputable def ok(n:Nat)(p:Pk):Bool:=bM p.2.2 n (p.2.1.rec p.1 λg=>g.ng::p.1)
theorem oH{α:Type}:∀{n:Nat} {P:List α->Prop},(∀l,l.length=n->P l)->all n P
 |0,_,h=>h [] rfl
 |n+1,_,h=>λx=>oH λl e=>h (x::l) (congrArg Nat.succ e)
section
variable {I:List Int}{N:List Nat}
theorem Fj{α:Type}{P:α->Prop}{x:α}{l:List α}(a:P x)(b:∀y∈l,P y):∀y∈x::l,P y:=λy m=>(Zp.mp m).elim (λz=>z▸a) (b y)
theorem wi{g:Prop}:∀{hs:List Hx},((∀h∈hs,h.d I N)->g)->imp I N g hs
 |[],k=>k λ_ m=>nomatch m
 |_::_,k=>λd=>wi λe=>k (Fj d e)
theorem Ly:∀{g:Hx},¬ g.d I N->g.ng.d I N
 | .le b x y,h=>by cases b<;>exact h
 | .lt b x y,h=>by cases b<;>exact h
 | .eq ..,_=>rfl
 | .Fw ..,_=>rfl
 | .Fv ..,_=>rfl
 | .an ..,_=>rfl
end
theorem UF(n m:Nat):∀p:Pk,ok n p=true->So n m p
 |(_,none,_),h=>oH λ_ e=>oH λ_ _=>wi λd=>Br (e▸h) d
 |(_,some _,_),h=>oH λ_ e=>oH λ_ _=>wi λd=>XD λk=>Br (e▸h) (Fj (Ly k) d)
end LA
theorem aj(c:Nat)(h:LA.ok (c % 16) (LA.dec (c / 256))=true:=by kernel_rfl):LA.So (c % 16) (c / 16 % 16) (LA.dec (c / 256)):=LA.UF _ _ _ h
end
section
noncomputable section
open PySem
inductive V where
 |none
 |bool (b:Bool)
 |int (i:Int)
 |str (s:Str)
 |ref (a:Nat)
 |other
noncomputable abbrev sv(s:String):V:=.str (Str.ofString s)
inductive O where
 |list (xs:List V)
 |tup (xs:List V)
 |dict (es:List (Int×V))
 |inst (C:String) (fs:List (String×V))
 |eA (es:List (Int×V))
 |eC (xs:List V)
 |c9 (C:String) (fs:List (String×V))
noncomputable abbrev Hp:=Nat->Option O
noncomputable abbrev Lo:=String->Option V
noncomputable def bf{α β:Type}[DecidableEq α](f:α->Option β)(a:α)(b:β):α->Option β:=λx=>if x=a then some b else f x
inductive F_ where|add|sub|mul|mod|fdiv
inductive F9 where|eq|ne|lt|gt|le|ge|isin|dz|isNone|isNotNone
inductive Pm where|append|extend|pop|yA|update|get
inductive Mk where|list|tup|dict
inductive SK where|seq|range|enum|zip
set_option genCtorIdx false in
inductive U where
 |attr (n:String)|len|abs|sorted|cO|copyDict|dictOf|isBool|cL (C:String)|yx (k:Nat)|rev|not|nilq (ne:Bool)
set_option genCtorIdx false in
inductive B where
 |idx|bin (o:F_)|cmp (o:F9)|sortedBy
set_option genCtorIdx false in
inductive C where
 |done
 |az (v:V) (k:C)
 |ae (x:String) (k:C)
 |glob (x:String) (k:C)
 |mk (o:Mk) (n:Nat) (k:C)
 |u (o:U) (k:C)
 |b (o:B) (k:C)
 |call (f:String) (n:Nat) (k:C)
 |new (c f:String) (n:Nat) (k:C)
 |bM (c:String) (k:C)
 |prim (m:Pm) (n:Nat) (k:C)
 |ite (a b k:C)
 |comp (t:List String) (s:SK) (c e k:C)
 |aY (x:String) (k:C)
 |iw (xs:List String) (k:C)
 |setA (n:String) (k:C)
 |dq (k:C)
 |zV (xs:List String) (k:C)
 |pop (k:C)
 |loop (c b k:C)
 |for (t:List String) (s:SK) (b k:C)
 |ret
 |brk
 |raise
inductive Fl where
 |next
 |brk
 |ret (v:V)
noncomputable abbrev Po:=Fl->Lo->List V->Hp->Prop
noncomputable def big:Nat:=1000000
noncomputable def Kx(h:Hp)(v:V)(n:String)(w:V):Prop:=∃a c fs,v= .ref a/\(h a=some (.inst c fs)\/h a=some (.c9 c fs))/\fs.lookup n=some w
noncomputable def du(xs:List V)(i:Int):Option V:=if 0<=i then xs[i.toNat]? else if 0<=i+xs.length then xs[(i+xs.length).toNat]? else Option.none
noncomputable def G_(h:Hp)(v k w:V):Prop:=∃a i,v= .ref a/\k= .int i/\
 ((∃xs,(h a=some (.list xs)\/h a=some (.tup xs))/\du xs i=some w)\/∃es,(h a=some (.dict es)\/h a=some (.eA es))/\es.lookup i=some w)
noncomputable def nE(fs:List (String×V))(n:String)(v:V):List (String×V):=match fs with
 |[]=>[(n,v)]
 |(m,w)::r=>if m=n then(n,v)::r else(m,w)::nE r n v
noncomputable def putD(es:List (Int×V))(k:Int)(v:V):List (Int×V):=match es with
 |[]=>[(k,v)]
 |(m,w)::r=>if m=k then(k,v)::r else(m,w)::putD r k v
noncomputable def GL:List (String×List String):=[
 ("Special",["title"]),("Pair",["car","cdr","mark"]),
 ("KOp",["result","word","number","args","datum","results","labels"]),
 ("KLast",["word","fun","args","to","other","var"]),
 ("KBlock",["label","sort","params","rest","var","home","parent","title","ops","last"]),
 ("KProgram",["table","entry"]),
 ("COp",["slot","op","data","args"]),("CLast",["sort","head","args","k","blocks"]),("CBlock",["number","params","ops","last"]),
 ("CUnit",["number","sort","params","rest","takes_any","captured","slots","blocks","name"]),("CProgram",["units","start"]),
 ("Layout",["program","roots","atoms","numbers","free"]),("UnitMaker",["layout","root","unit","slots","places","captured","spots","extra"])]
noncomputable def iA(c n:String):Bool:=(GL.lookup c).any (·.contains n)
noncomputable def cI:V->Bool
 | .other=>true
 |_=>false
noncomputable def Kw(h:Hp)(v:V)(n:String)(w:V)(a:Nat)(o:O):Prop:=∃c fs,v= .ref a/\h a=some (.inst c fs)/\fs.length<100/\iA c n=true/\cI w=false/\o= .inst c (nE fs n w)
noncomputable def Kv(h:Hp)(v k w:V)(a:Nat)(o:O):Prop:=∃i,v= .ref a/\k= .int i/\
 ((∃xs,h a=some (.list xs)/\0<=i/\i.toNat<xs.length/\o= .list (xs.set i.toNat w))\/∃es,h a=some (.dict es)/\es.length<big/\o= .dict (putD es i w))
noncomputable def tO(h:Hp):Nat->V->V->Prop
 |0,x,y=>∃i,x= .int i/\y= .int i
 |n+1,x,y=>(∃i,x= .int i/\y= .int i)\/∃a b xs ys,x= .ref a/\y= .ref b/\h a=some (.list xs)/\h b=some (.list ys)/\xs.length=ys.length/\∀(i:Nat) (x y:V),xs[i]?=some x->ys[i]?=some y->tO h n x y
noncomputable def rY(h:Hp)(a b:Nat):Prop:=tO h 6 (.ref a) (.ref b)\/
 ∃es ds,h a=some (.dict es)/\h b=some (.dict ds)/\es.map (·.1)=ds.map (·.1)/\∀(i:Nat) (x y:Int×V),es[i]?=some x->ds[i]?=some y->tO h 6 x.2 y.2
noncomputable def IP:V->Bool
 | .none=>true
 |_=>false
noncomputable def G9(h:Hp)(x y:V)(r:Bool):Prop:=
 (∃i a,x= .int i/\y= .ref a/\((∃es,(h a=some (.dict es)\/h a=some (.eA es))/\r=es.any (·.1==i))\/∃l:List Int,h a=some (.list (l.map .int))/\r=l.contains i))\/
 ∃s a,∃l:List Str,x= .str s/\y= .ref a/\h a=some (.tup (l.map .str))/\r=l.contains s
noncomputable def OL(h:Hp)(x y:V)(r:Bool):Prop:=(∃a b:Int,x= .int a/\y= .int b/\r=(a==b))\/(∃a b:Str,x= .str a/\y= .str b/\r=decide (a=b))\/∃a b,x= .ref a/\y= .ref b/\rY h a b/\r=true
noncomputable def Gz:F9->Int->Int->Bool
 | .lt,a,b=>decide (a<b)
 | .gt,a,b=>decide (b<a)
 | .le,a,b=>decide (a<=b)
 |_,a,b=>decide (b<=a)
noncomputable def IE(op:F_)(a b r:Int):Prop:=match op with
 | .add=>r=a+b
 | .sub=>r=a - b
 | .mul=>0<=b/\b<1073741824/\r=a*b
 | .mod=>0<b/\r=a % b
 | .fdiv=>0<b/\b<1073741824/\r=a / b
noncomputable def bE(l:List Int):List Int:=l.mergeSort (λa b=>decide (a<=b))
set_option genCtorIdx false in
inductive Src where
 |list (a:Nat) (xs:List V)
 |tup (a:Nat) (xs:List V)
 |keys (a:Nat) (es:List (Int×V))
 |range (n:Nat)
 |enum (a:Nat) (xs:List V)
 |zip (a b:Nat) (xs ys:List V)
noncomputable def Src.items:Src->List (List V)
 | .list _ xs=>xs.map ([·])
 | .tup _ xs=>xs.map ([·])
 | .keys _ es=>es.map λe=>[.int e.1]
 | .range n=>(List.range n).map λ(i:Nat)=>[.int i]
 | .enum _ xs=>xs.zipIdx.map λp=>[.int p.2,p.1]
 | .zip _ _ xs ys=>(xs.zip ys).map λp=>[p.1,p.2]
noncomputable def Src.stays(h:Hp):Src->Prop
 | .list a xs=>h a=some (.list xs)
 | .tup a xs=>h a=some (.tup xs)
 | .keys a es=>h a=some (.eA es)
 | .range _=>True
 | .enum a xs=>h a=some (.list xs)
 | .zip a b xs ys=>h a=some (.list xs)/\h b=some (.list ys)
noncomputable def Src.fz:Src->Hp->Hp
 | .keys a es,h=>bf h a (.eA es)
 |_,h=>h
noncomputable def Src.th:Src->Hp->Hp
 | .keys a es,h=>bf h a (.dict es)
 |_,h=>h
noncomputable def Src.plain:Src->Bool
 | .keys _ _=>false
 |_=>true
noncomputable def binds(ρ:Lo):List String->List V->Lo
 |x::xs,v::vs=>binds (bf ρ x v) xs vs
 |_,_=>ρ
noncomputable def dm(h:Hp)(ρ:Lo)(t:List String)(item:List V)(ρ':Lo):Prop:=(t.length=item.length/\ρ'=binds ρ t item)\/
 ∃a vs,item=[.ref a]/\2<=t.length/\t.length=vs.length/\(h a=some (.tup vs)\/h a=some (.list vs))/\ρ'=binds ρ t vs
noncomputable abbrev Calls:=String->List V->Hp->(V->Hp->Prop)->Prop
noncomputable def tH:Nat->List V->List V->Option (List V×List V)
 |0,acc,st=>some (acc,st)
 |n+1,acc,v::st=>tH n (v::acc) st
 |_+1,_,[]=>none
inductive Rs where
 |val (w:V)
 |new (o:O)
noncomputable def Rs.post(r:Rs)(h:Hp)(Q:V->Hp->Prop):Prop:=match r with
 | .val w=>Q w h
 | .new o=>∀c,h c=none->Q (.ref c) (bf h c o)
noncomputable def InstAt(h:Hp)(v:V)(c:String):Prop:=∃a fs,v= .ref a/\(h a=some (.inst c fs)\/h a=some (.c9 c fs))
noncomputable def UR(o:U)(v:V)(h:Hp)(r:Rs):Prop:=match o with
 | .attr n=>∃w,Kx h v n w/\r= .val w
 | .len=>∃a n,v= .ref a/\((∃xs,(h a=some (.list xs)\/h a=some (.eC xs))/\n=xs.length)\/∃es,(h a=some (.dict es)\/h a=some (.eA es))/\n=es.length)/\r= .val (.int (n:Nat))
 | .abs=>∃i,v= .int i/\r= .val (.int i.natAbs)
 | .sorted=>∃a l,v= .ref a/\(h a=some (.list (l.map .int))\/∃es,h a=some (.dict es)/\l=es.map (·.1))/\l.length<64/\r= .new (.list ((bE l).map .int))
 | .cO=>∃a xs,v= .ref a/\h a=some (.list xs)/\r= .new (.list xs)
 | .copyDict=>∃a es,v= .ref a/\h a=some (.dict es)/\r= .new (.dict es)
 | .dictOf=>∃(a:Nat) (xs:List V) (ps:List (Int×V)),v= .ref a/\h a=some (.list xs)/\xs.length=ps.length/\(ps.map (·.1)).Nodup/\
  (∀(i:Nat) (p:Int×V) (x:V),ps[i]?=some p->xs[i]?=some x->∃t,x= .ref t/\h t=some (.tup [.int p.1,p.2]))/\r= .new (.dict ps)
 | .isBool=>∃b,r= .val (.bool b)/\((∃i,v= .int i/\b=false)\/(∃b',v= .bool b'/\b=true)\/∃c,InstAt h v c/\b=false)
 | .cL d=>∃b,r= .val (.bool b)/\((∃i,v= .int i/\b=false)\/(∃b',v= .bool b'/\b=false)\/∃c,InstAt h v c/\b=(c==d))
 | .yx k=>∃a xs,v= .ref a/\(h a=some (.list xs)\/h a=some (.eC xs))/\r= .new (.list (xs.take k))
 | .rev=>∃a xs,v= .ref a/\h a=some (.list xs)/\r= .new (.list xs.reverse)
 | .not=>∃b,v= .bool b/\r= .val (.bool (!b))
 | .nilq ne=>∃a xs,v= .ref a/\h a=some (.list xs)/\r= .val (.bool (xs.isEmpty != ne))
noncomputable def BR(o:B)(x y:V)(h:Hp)(r:Rs):Prop:=match o with
 | .idx=>∃w,G_ h x y w/\r= .val w
 | .bin op=>(∃a b c,x= .int a/\y= .int b/\IE op a b c/\r= .val (.int c))\/
  ∃a b xs ys,op= .add/\x= .ref a/\y= .ref b/\h a=some (.list xs)/\h b=some (.list ys)/\xs.length+ys.length<=big/\r= .new (.list (xs++ys))
 | .cmp op=>∃b,r= .val (.bool b)/\(match op with
  | .eq=>OL h x y b
  | .ne=>OL h x y (!b)
  | .isin=>G9 h x y b
  | .dz=>G9 h x y (!b)
  | .isNone=>y= .none/\b=IP x
  | .isNotNone=>y= .none/\b= !IP x
  |op=>∃i j,x= .int i/\y= .int j/\b=Gz op i j)
 | .sortedBy=>∃a es ns,x= .ref a/\y=x/\h a=some (.dict es)/\es.map (·.2)=ns.map V.int/\(List.Pairwise (· < ·) ns)/\ns.length<64/\r= .new (.list (es.map λp=>.int p.1))
noncomputable def Sn(m:Pm)(a:Nat)(vs:List V)(h:Hp)(w:V)(o:Option O):Prop:=match m with
 | .append=>∃xs v,h a=some (.list xs)/\vs=[v]/\xs.length<big/\w= .none/\o=some (.list (xs++[v]))
 | .extend=>∃xs b ys,h a=some (.list xs)/\vs=[.ref b]/\a≠b/\h b=some (.list ys)/\xs.length+ys.length<=big/\w= .none/\o=some (.list (xs++ys))
 | .pop=>∃xs,h a=some (.list (xs++[w]))/\vs=[]/\o=some (.list xs)
 | .yA=>∃xs,h a=some (.list (w::xs))/\vs=[.int 0]/\o=some (.list xs)
 | .update=>∃es b ds,h a=some (.dict es)/\vs=[.ref b]/\a≠b/\h b=some (.dict ds)/\es.length+ds.length<=big/\w= .none/\o=some (.dict (ds.foldl (λes p=>putD es p.1 p.2) es))
 | .get=>∃es k d,h a=some (.dict es)/\vs=[.int k,d]/\w=(es.lookup k).getD d/\o=none
noncomputable def J0(h:Hp)(a:Nat):Option O->Hp
 |some o=>bf h a o
 |none=>h
noncomputable def Kind(h:Hp)(v:V)(c:String):Prop:=∃a,v= .ref a/\((∃fs,h a=some (.inst c fs))\/(c="list"/\∃xs,h a=some (.list xs))\/(c="dict"/\∃es,h a=some (.dict es)))
noncomputable def tN(s:SK)(st:List V)(h:Hp)(aK:Src)(bH:List V):Prop:=match s with
 | .seq=>∃a,st= .ref a::bH/\((∃xs,h a=some (.list xs)/\aK= .list a xs)\/(∃xs,h a=some (.tup xs)/\aK= .tup a xs)\/∃es,h a=some (.dict es)/\aK= .keys a es)
 | .range=>∃n:Nat,st= .int n::bH/\n<=big/\aK= .range n
 | .enum=>∃a xs,st= .ref a::bH/\h a=some (.list xs)/\aK= .enum a xs
 | .zip=>∃a b xs ys,st= .ref b:: .ref a::bH/\h a=some (.list xs)/\h b=some (.list ys)/\xs.length=ys.length/\aK= .zip a b xs ys
noncomputable def sq(W:Lo->List V->Hp->Prop)(Q:Po):Po:=λfl ρ st h=>match fl with
 | .next=>W ρ st h
 | .brk=>Q .brk ρ st h
 | .ret v=>Q (.ret v) ρ st h
noncomputable def IN(I B:Lo->Hp->Prop)(R:V->Lo->Hp->Prop):Po:=λfl ρ _ h=>match fl with
 | .next=>I ρ h
 | .brk=>B ρ h
 | .ret v=>R v ρ h
noncomputable def gH(R:V->Hp->Prop):Po:=λfl _ st h=>fl= .next/\∃v,st=[v]/\R v h
noncomputable def ty(R:V->Hp->Prop):Po:=λfl _ _ h=>match fl with
 | .next=>R .none h
 | .brk=>False
 | .ret v=>R v h
noncomputable def top(W:V->List V->Prop):List V->Prop
 |v::st=>W v st
 |[]=>False
noncomputable def top2(W:V->V->List V->Prop):List V->Prop
 |y::x::st=>W x y st
 |_=>False
noncomputable def fH(n:Nat)(st:List V)(W:List V->List V->Prop):Prop:=match tH n [] st with
 |some (vs,bH)=>W vs bH
 |none=>False
noncomputable def T9:Mk->List V->O
 | .list,vs=>.list vs
 | .tup,vs=>.tup vs
 | .dict,_=>.dict []
section
variable (Φ:Calls)(γ:String->Option V)
noncomputable def wp:C->Lo->List V->Hp->Po->Prop
 | .done,ρ,st,h,Q=>Q .next ρ st h
 | .az v k,ρ,st,h,Q=>wp k ρ (v::st) h Q
 | .ae x k,ρ,st,h,Q=>∃v,ρ x=some v/\wp k ρ (v::st) h Q
 | .glob x k,ρ,st,h,Q=>∃v,γ x=some v/\wp k ρ (v::st) h Q
 | .mk o n k,ρ,st,h,Q=>fH n st λvs bH=>∀a,h a=none->wp k ρ (.ref a::bH) (bf h a (T9 o vs)) Q
 | .u o k,ρ,st,h,Q=>top (λv bH=>∃r,UR o v h r/\r.post h λw h'=>wp k ρ (w::bH) h' Q) st
 | .b o k,ρ,st,h,Q=>top2 (λx y bH=>∃r,BR o x y h r/\r.post h λw h'=>wp k ρ (w::bH) h' Q) st
 | .call f n k,ρ,st,h,Q=>fH n st λvs bH=>Φ f vs h λv h'=>wp k ρ (v::bH) h' Q
 | .new c f n k,ρ,st,h,Q=>fH n st λvs bH=>∀a,h a=none->Φ f (.ref a::vs) (bf h a (.inst c [])) λr h'=>r= .none/\wp k ρ (.ref a::bH) h' Q
 | .bM c k,ρ,st,h,Q=>top (λv _=>Kind h v c) st/\wp k ρ st h Q
 | .prim m n k,ρ,st,h,Q=>fH n st λvs bH=>top (λv bH=>∃a w o,v= .ref a/\Sn m a vs h w o/\wp k ρ (w::bH) (J0 h a o) Q) bH
 | .ite a b k,ρ,st,h,Q=>top (λv bH=>∃t,v= .bool t/\(t=true->wp a ρ bH h (sq (λρ st h=>wp k ρ st h Q) Q))/\(t=false->wp b ρ bH h (sq (λρ st h=>wp k ρ st h Q) Q))) st
 | .comp t s c e k,ρ,st,h,Q=>∃aK bH,tN s st h aK bH/\aK.plain=true/\∃bB:Nat->List V->Hp->Prop,bB 0 [] h/\
  (∀i vs h' item,bB i vs h'->aK.items[i]?=some item->aK.stays h'/\∃ρ',dm h' ρ t item ρ'/\
   wp c ρ' [] h' (gH λv cT=>∃b,v= .bool b/\(b=true->wp e ρ' [] cT (gH λv h3=>bB (i+1) (vs++[v]) h3))/\(b=false->bB (i+1) vs cT)))/\
  ∀vs h',bB aK.items.length vs h'->aK.stays h'/\∀a,h' a=none->wp k ρ (.ref a::bH) (bf h' a (.list vs)) Q
 | .aY x k,ρ,st,h,Q=>top (λv bH=>wp k (bf ρ x v) bH h Q) st
 | .iw xs k,ρ,st,h,Q=>fH xs.length st λvs bH=>wp k (binds ρ xs vs) bH h Q
 | .setA n k,ρ,st,h,Q=>top2 (λv o bH=>∃a ob,Kw h o n v a ob/\wp k ρ bH (bf h a ob) Q) st
 | .dq k,ρ,st,h,Q=>top2 (λo i bH=>top (λv bH=>∃a ob,Kv h o i v a ob/\wp k ρ bH (bf h a ob) Q) bH) st
 | .zV xs k,ρ,st,h,Q=>top (λv bH=>∃ρ',2<=xs.length/\dm h ρ xs [v] ρ'/\wp k ρ' bH h Q) st
 | .pop k,ρ,st,h,Q=>top (λv bH=>(∀a,v≠ .ref a)/\wp k ρ bH h Q) st
 | .loop c b k,ρ,st,h,Q=>∃bB:Nat->Lo->Hp->Prop,(∃n,bB n ρ h)/\∀n ρ' h',bB n ρ' h'->wp c ρ' [] h' (gH λv cT=>∃t,v= .bool t/\
  (t=true->wp b ρ' [] cT (IN (λρ3 h3=>∃m,m<n/\bB m ρ3 h3) (λρ3 h3=>wp k ρ3 st h3 Q) (λv ρ3 h3=>Q (.ret v) ρ3 st h3)))/\(t=false->wp k ρ' st cT Q))
 | .for t s b k,ρ,st,h,Q=>∃aK bH,tN s st h aK bH/\∃bB:Nat->Lo->Hp->Prop,bB 0 ρ (aK.fz h)/\
  (∀i ρ' h' item,bB i ρ' h'->aK.items[i]?=some item->aK.stays h'/\∃fG,dm h' ρ' t item fG/\
   wp b fG [] h' (IN (bB (i+1)) (λρ3 h3=>wp k ρ3 bH (aK.th h3) Q) (λv ρ3 h3=>Q (.ret v) ρ3 bH (aK.th h3))))/\
  ∀ρ' h',bB aK.items.length ρ' h'->aK.stays h'/\wp k ρ' bH (aK.th h') Q
 | .ret,ρ,st,h,Q=>top (λv _=>Q (.ret v) ρ [] h) st
 | .brk,ρ,st,h,Q=>Q .brk ρ st h
 | .raise,_,_,_,_=>False
end
structure Fn where
 ps:List String
 body:C
noncomputable def iI:List String->List V->Lo
 |x::xs,v::vs=>bf (iI xs vs) x v
 |_,_=>λ_=>none
noncomputable def JU(Φ:Calls)(γ:String->Option V)(f:Fn)(vs:List V)(h:Hp)(Q:V->Hp->Prop):Prop:=
 f.ps.length=vs.length/\wp Φ γ f.body (iI f.ps vs) [] h (ty Q)
end
end
section
open PySem PySem.W PyProof.Rows PySem.Calls
noncomputable def aq:Value->V
 | .none=>.none
 | .bool b=>.bool b
 | .int i _=>.int i
 | .str x _=>.str x
 | .ref a=>.ref a
 |_=>.other
noncomputable def nX(K:Frag)(a:Nat):Bool:=makesIn K a&&hasDictIn K a&&plainOver K a&&findIn K (.ref a) "__getattribute__"==some (some (.builtin "object.__getattribute__"))&&
 findIn K (.ref a) "__setattr__"==some (some (.builtin "object.__setattr__"))&&findIn K (.ref a) "__getattr__"==some none
noncomputable def rE(K:Frag)(D:Nat):Bool:=plainGet K D "__class__"&&hasDictIn K D&&findIn K (.ref D) "__class__"==some (some (.builtin "object.__class__"))&&mroIn K D (.type "object")==some true
structure Lv where
 lv:List (String×Nat)
 fH:List String
 meths:List (String×String×String)
 qH:List (String×String)
 cls:List String
noncomputable def JN:List (String×Value):=[("len",.builtin "len"),("abs",.builtin "abs"),("sorted",.builtin "sorted"),("isinstance",.builtin "isinstance"),("list",.type "list"),("dict",.type "dict"),("range",.type "range"),
 ("enumerate",.type "enumerate"),("zip",.type "zip"),("bool",.type "bool")]
end
section
set_option maxRecDepth 100000
set_option maxHeartbeats 0
open PySem PySem.W PySem.W.Fast
theorem HF:(["vars","dir","locals"]:List Str).filter (readsOut PySem.Challenge.rw_rg0282_01.row.prog PySem.Challenge.rw_rg0282_01.row.prog.main.body)=[]:=by
 rewrite [te13343964577679436407]
 kernel_rfl
theorem BK:(!(importedModules PySem.Challenge.rw_rg0282_01.row.prog.main.body).all cThrough.contains)=false:=by kernel_rfl
theorem Hw:noRoadLSs {strict:=false,foot:=none,bare:=[]} PySem.Challenge.rw_rg0282_01.row.prog.main.body=true:=by
 rewrite [te8326940854005059898]
 kernel_rfl
theorem Hz:(namesMeet PySem.Challenge.rw_rg0282_01.row.prog PySem.Challenge.rw_rg0282_01.row.prog.main.body λ_ n=>attrL n)=true:=by
 rewrite [te17119622794617984870]
 kernel_rfl
theorem Lb:namesResolve PySem.Challenge.rw_rg0282_01.row.prog=true:=by
 rewrite [te8377067652309620493]
 kernel_rfl
theorem HD:looksOpen PySem.Challenge.rw_rg0282_01.row.prog=true:=by
 unfold looksOpen;refine Z0 (Z0 (Z0 (Z0 (Z0 ?_ ?_) Lb) ?_) ?_) Hz
 . as_aux_lemma=>kernel_rfl
 . as_aux_lemma=>kernel_rfl
 . as_aux_lemma=>kernel_rfl
 . rewrite [BK,HF]
   exact Hw
theorem La:PySem.Challenge.rw_rg0282_01.row.wellSaid=true:=by
 unfold OpenRow.wellSaid;refine Z0 (Z0 ?_ (by as_aux_lemma=>kernel_rfl)) (by as_aux_lemma=>kernel_rfl);unfold OpenRow.partSaid;refine Z0 (Z0 (Z0 (Z0 (Z0 (Z0 (Z0 (Z0 (Z0 (Z0 (Z0 (Z0 (Z0 HD ?_) ?_) ?_) ?_) ?_) ?_) ?_) ?_) ?_) ?_) ?_) ?_) ?_<;>as_aux_lemma=>kernel_rfl
theorem law_said:PySem.Challenge.rw_rg0282_01.wellSaid=true:=by
 unfold OpenLaw.wellSaid;refine Z0 (Z0 (Z0 (Z0 (Z0 (Z0 (Z0 (Z0 (Z0 (Z0 (Z0 (Z0 (Z0 (Z0 (Z0 (Z0 (Z0 (Z0 La ?_) ?_) ?_) ?_) ?_) ?_) ?_) ?_) ?_) ?_) ?_) ?_) ?_) ?_) ?_) ?_) ?_) ?_
 . as_aux_lemma=>kernel_rfl
 . as_aux_lemma=>rewrite [te10501279942588096481];kernel_rfl
 . as_aux_lemma=>rewrite [te8179353310426384613];kernel_rfl
 . as_aux_lemma=>kernel_rfl
 . as_aux_lemma=>kernel_rfl
 . as_aux_lemma=>rewrite [te8326940854005059898];kernel_rfl
 . as_aux_lemma=>rewrite [te9558739934217749035];kernel_rfl
 . as_aux_lemma=>rewrite [te16286561074155671207];kernel_rfl
 . as_aux_lemma=>kernel_rfl
 . as_aux_lemma=>rewrite [named_eq];kernel_rfl
 . as_aux_lemma=>kernel_rfl
 . as_aux_lemma=>kernel_rfl
 . as_aux_lemma=>rewrite [te17119622794617984870];kernel_rfl
 . as_aux_lemma=>kernel_rfl
 . as_aux_lemma=>kernel_rfl
 . as_aux_lemma=>rewrite [named_eq];kernel_rfl
 . as_aux_lemma=>rewrite [te17119622794617984870];kernel_rfl
 . as_aux_lemma=>rewrite [te17119622794617984870];kernel_rfl
end
section
set_option maxRecDepth 100000
set_option maxHeartbeats 0
open PySem PySem.W PyProof.Rows PySem.Calls
noncomputable def QT:List (String×Nat):=[("Pair.__init__",1),("kind_word",1),("is_atom",2),("KOp.__init__",1),("KOp.given",1),("fun_op",3),("fix_op",3),("KLast.__init__",1),("KLast.reads",1),("KLast.targets",1),("call_last",3),("jump_last",3),("give_last",3),("branch_last",3),("KBlock.__init__",1),("KBlock.binders",1),("KBlock.given",2),("KBlock.takes_any",1),("KProgram.__init__",1),("KProgram.labels",1),("KProgram.block",1),("KProgram.put",1),("makers",2),("COp.__init__",1),("CLast.__init__",1),("CBlock.__init__",1),("CUnit.__init__",1),("CProgram.__init__",1),("closure_var",1),("Layout.__init__",1),("Layout.is_root",1),("Layout.unit_of",2),("Layout.members",3),("Layout.made_at",2),("find_roots",3),("find_atoms",3),("last_reads",2),("own_reads",4),("own_given",4),("inner_units",4),("find_free",5),("UnitMaker.__init__",1),("UnitMaker.slot",1),("UnitMaker.arg",1),("UnitMaker.args",2),("UnitMaker.captured_args",3),("begin_unit",2),("give_slots",4),("made_op",5),("fix_rows",4),("made_conts",5),("way_block",3),("made_last",4),("made_block",6),("made_unit",7),("laid_out",6),("closed",8),("_law_deck",1),("_law_draw",1),("_law_one",2),("_law_new",1),("_law_block",3),("_law_const",3),("_law_procedures",4),("_law_op",5),("_law_choice",4),("_law_end",5),("_law_program",6),("_law_leads",1),("_law_unit",2),("_law_units",3),("_law_facts",3),("_law_is_needed",1),("_law_simple",2),("_law_wanted",3),("_law_handed",1),("_law_are_units_right",9),("law",10)]
noncomputable def AE:List (String×String×String):=[("KOp.given","KOp","given"),("KLast.reads","KLast","reads"),("KLast.targets","KLast","targets"),("KBlock.binders","KBlock","binders"),("KBlock.given","KBlock","given"),("KBlock.takes_any","KBlock","takes_any"),("KProgram.labels","KProgram","labels"),("KProgram.block","KProgram","block"),("KProgram.put","KProgram","put"),("Layout.is_root","Layout","is_root"),("Layout.unit_of","Layout","unit_of"),("Layout.members","Layout","members"),("Layout.made_at","Layout","made_at"),("UnitMaker.slot","UnitMaker","slot"),("UnitMaker.arg","UnitMaker","arg"),("UnitMaker.args","UnitMaker","args"),("UnitMaker.captured_args","UnitMaker","captured_args")]
noncomputable def AH:List (String×String):=[("Pair","Pair.__init__"),("KOp","KOp.__init__"),("KLast","KLast.__init__"),("KBlock","KBlock.__init__"),("KProgram","KProgram.__init__"),("COp","COp.__init__"),("CLast","CLast.__init__"),("CBlock","CBlock.__init__"),("CUnit","CUnit.__init__"),("CProgram","CProgram.__init__"),("Layout","Layout.__init__"),("UnitMaker","UnitMaker.__init__")]
noncomputable def kH:List (String×Nat×Nat×Option Nat):=[("Pair.__init__",80,5,some 0),("kind_word",241,13,none),("is_atom",249,16,none),("KOp.__init__",263,24,some 0),("KOp.given",270,24,some 1),("fun_op",291,25,none),("fix_op",298,26,none),("KLast.__init__",312,27,some 0),("KLast.reads",319,27,some 1),("KLast.targets",326,27,some 2),("call_last",347,28,none),("jump_last",354,29,none),("give_last",361,30,none),("branch_last",368,31,none),("KBlock.__init__",382,32,some 0),("KBlock.binders",389,32,some 1),("KBlock.given",396,32,some 2),("KBlock.takes_any",410,32,some 4),("KProgram.__init__",431,33,some 0),("KProgram.labels",438,33,some 1),("KProgram.block",445,33,some 2),("KProgram.put",452,33,some 3),("makers",473,34,none),("COp.__init__",507,42,some 0),("CLast.__init__",528,43,some 0),("CBlock.__init__",549,44,some 0),("CUnit.__init__",570,45,some 0),("CProgram.__init__",591,46,some 0),("closure_var",605,47,none),("Layout.__init__",619,48,some 0),("Layout.is_root",626,48,some 1),("Layout.unit_of",633,48,some 2),("Layout.members",638,48,some 3),("Layout.made_at",645,48,some 4),("find_roots",659,49,none),("find_atoms",666,50,none),("last_reads",673,51,none),("own_reads",680,52,none),("own_given",687,53,none),("inner_units",694,54,none),("find_free",701,55,none),("UnitMaker.__init__",713,56,some 0),("UnitMaker.slot",720,56,some 1),("UnitMaker.arg",727,56,some 2),("UnitMaker.args",732,56,some 3),("UnitMaker.captured_args",739,56,some 4),("begin_unit",753,57,none),("give_slots",760,58,none),("made_op",767,59,none),("fix_rows",774,60,none),("made_conts",779,61,none),("way_block",786,62,none),("made_last",793,63,none),("made_block",798,64,none),("made_unit",805,65,none),("laid_out",810,66,none),("closed",817,67,none),("_law_deck",822,69,none),("_law_draw",829,70,none),("_law_one",836,71,none),("_law_new",843,72,none),("_law_block",848,73,none),("_law_const",855,74,none),("_law_procedures",860,75,none),("_law_op",867,76,none),("_law_choice",872,77,none),("_law_end",879,78,none),("_law_program",886,79,none),("_law_leads",891,80,none),("_law_unit",898,81,none),("_law_units",903,82,none),("_law_facts",908,83,none),("_law_is_needed",913,84,none),("_law_simple",920,85,none),("_law_wanted",927,86,none),("_law_handed",932,87,none),("_law_are_units_right",937,88,none),("law",942,89,none)]
noncomputable def jL:List (String×Nat):=[("Special",38),("Symbol",62),("Pair",83),("Char",104),("Text",125),("Vector",146),("Box",167),("Promise",188),("PortRef",209),("Procedure",230),("KOp",280),("KLast",336),("KBlock",413),("KProgram",462),("COp",510),("CLast",531),("CBlock",552),("CUnit",573),("CProgram",594),("Layout",648),("UnitMaker",742)]
noncomputable def JX:List String:=(kH.filter (·.2.2.2.isNone)).map (·.1)
noncomputable def Kp:List String:=jL.map (·.1)
noncomputable def yy:Lv:=⟨QT,JX,AE,AH,Kp⟩
noncomputable def Ku:List Nat:=[3,0,1,242,44,43]++(jL.flatMap (λp=>[p.2,p.2 - 1])++(kH.map (·.2.1)++kH.map (·.2.1 - 1)))
noncomputable def Dq:List (String×V):=[("FUN",sv "fun"),("CONT",sv "cont"),("CALL",sv "call"),("JUMP",sv "jump"),("GIVE",sv "give"),("BRANCH",sv "if"),("PROC",sv "proc"),("SLOT",sv "slot"),("FREE",sv "free"),("CONSTANT",sv "const"),("ATOMS",.ref 242),("EMPTY",.ref 44)]
noncomputable def wk:List String:=["boolean","number","symbol","char","empty","unspecified"]
noncomputable def yj(f:String):Option Nat:=(kH.lookup f).map (·.1)
noncomputable def Kk:Stmt->Option (Arguments×FuncBody×Scope)
 | .FunctionDef _ a b _ _ _ sc _ _ _=>some (a,.stmts b,sc)
 |_=>none
noncomputable def P9:Stmt->List Stmt
 | .ClassDef _ _ _ cb _ _ _ _ _ _ _=>cb
 |_=>[]
noncomputable def Af(i:Nat)(j:Option Nat):Option (Arguments×FuncBody×Scope):=
 (PySem.Challenge.pw_rg0282_01.main.body[i]?).bind λs=>match j with
 |none=>Kk s
 |some j=>((P9 s)[j]?).bind Kk
noncomputable def xp:Data->Option (Array DictEntry)
 | .dict es _=>some es
 |_=>none
noncomputable def GJ:Data->Option FuncData
 | .func fd=>some fd
 |_=>none
noncomputable def JZ:Data->Option (Array Value)
 | .seq vs _=>some vs
 |_=>none
noncomputable def isPlain:Data->Bool
 | .plain=>true
 |_=>false
noncomputable def rH(K:Frag)(a:Nat):Option (Arguments×FuncBody×Scope):=(K.lookup a).bind λo=>(GJ o.data).map λfd=>(fd.params,fd.body,fd.scope)
noncomputable def yi(K:Frag)(a:Nat)(x:Str):Option Value:=(K.lookup a).bind λo=>(xp o.data).bind λes=>nsFind es x
noncomputable def Bg(t:Str):V->Bool
 | .str s=>s==t
 |_=>false
noncomputable def Bh(b:Nat):V->Bool
 | .ref a=>a==b
 |_=>false
noncomputable def mI(v:Value):V->Bool
 | .str t=>Bg t (aq v)
 | .ref b=>Bh b (aq v)
 |_=>false
noncomputable def xn(K:Frag)(a:Nat):Bool:=keepIn K (.ref a)&&(K.lookup a).any λo=>o.cls== .type "function"&&(GJ o.data).any λfd=>
 fd.closure.isEmpty&&fd.globals==mainGlobals&&fd.builtins==builtinsNs&&fd.defaults== .none&&codeIn K fd.code fd.qualname
noncomputable def lT(K:Frag)(C:String)(a:Nat):Bool:=nX K a&&rE K a&&((GL.lookup C).getD []).all (λn=>findIn K (.ref a) (Str.ofString n)==some none)&&
 kitOne K (.type "int") (.ref a)==some false&&kitOne K (.type "bool") (.ref a)==some false&&kitOne K (.ref a) (.type "bool")==some false&&
 jL.all (λp=>kitOne K (.ref a) (.ref p.2)==some (C==p.1))&&(yi K mainGlobals (Str.ofString C)).any (mI · (.ref a))
noncomputable def xN(K:Frag)(C f:String):Bool:=(jL.lookup C).any λc=>(yj f).any λa=>keepIn K (.ref c)&&findIn K (.ref c) "__init__"==some (some (.ref a))
noncomputable def xK(K:Frag)(f C m:String):Bool:=(jL.lookup C).any λc=>(yj f).any λa=>findIn K (.ref c) (Str.ofString m)==some (some (.ref a))
noncomputable def Az:List String->List Value->Bool
 |[],vs=>vs.isEmpty
 |s::ss,vs=>vs.head?.any (mI · (sv s))&&Az ss vs.tail
noncomputable def uN(K:Frag):Bool:=(K.lookup 242).any λo=>o.cls== .type "tuple"&&(JZ o.data).any λvs=>Az wk vs.toList
noncomputable def uJ(K:Frag):Bool:=((K.lookup 44).any λo=>o.cls== .ref 38&&o.dict==some 43&&isPlain o.data&&o.slots.isEmpty)&&
 (K.lookup 43).any λo=>o.cls== .type "dict"&&o.dict.isNone&&o.slots.isEmpty&&(xp o.data).any λes=>
  es.toList.head?.any (λe=>mI e.key (sv "title")&&mI e.val (sv "empty"))&&es.toList.tail.isEmpty
noncomputable def nW(K:Frag):Bool:=JX.all (λf=>(yj f).any λa=>(yi K mainGlobals (Str.ofString f)).any λv=>mI v (.ref a))&&
 Dq.all (λp=>(yi K mainGlobals (Str.ofString p.1)).any (mI · p.2))&&JN.all (λp=>(yi K mainGlobals (Str.ofString p.1)).isNone&&yi K builtinsNs (Str.ofString p.1)==some p.2)
noncomputable def Ff(K:Frag):Bool:=(K.lookup sysModules).isSome&&uN K&&uJ K&&kH.all (λr=>xn K r.2.1)&&jL.all (λp=>lT K p.1 p.2)
noncomputable def Fe(K:Frag):Bool:=nW K&&AH.all (λp=>xN K p.1 p.2)&&AE.all (λp=>xK K p.1 p.2.1 p.2.2)&&
 specialIn K (.builtin "object.__class__") "__get__"==some (some (.builtin "getset_descriptor.__get__"))&&takesIn K (.builtin "object.__class__")==some true&&kitOne K (.type "int") (.type "bool")==some false
noncomputable def Bn(K:Frag):Bool:=Ff K&&Fe K
noncomputable def oB(K:Frag):List (Option (Arguments×FuncBody×Scope)):=kH.map λr=>rH K r.2.1
noncomputable def oz:List (Option (Arguments×FuncBody×Scope)):=kH.map λr=>Af r.2.2.1 r.2.2.2
end
section
set_option maxRecDepth 100000
set_option maxHeartbeats 0
open PySem PySem.W PyProof.Rows PySem.Calls
noncomputable section
noncomputable abbrev pw:=PySem.Challenge.pw_rg0282_01
noncomputable abbrev TB(P:Params):Obj:=boot_o_0 P
noncomputable abbrev TA(P:Params):Obj:=boot_o_1 P
noncomputable abbrev Tz(P:Params):Obj:=boot_o_2 P
noncomputable abbrev Ty(P:Params):Obj:=boot_o_3 P
noncomputable abbrev Tx(P:Params):Obj:=boot_o_4 P
noncomputable abbrev Tw(P:Params):Obj:=boot_o_5 P
noncomputable abbrev Tv(P:Params):Obj:=boot_o_6 P
noncomputable abbrev Tu(P:Params):Obj:=boot_o_7 P
noncomputable abbrev Tt(P:Params):Obj:=boot_o_8 P
noncomputable abbrev Ts(P:Params):Obj:=boot_o_9 P
noncomputable abbrev Px(P:Params):Obj:=boot_o_10 P
noncomputable abbrev Pw(_:Params):Obj:={cls:=.type "tuple",data:=.seq #[]}
noncomputable abbrev Pv(_:Params):Obj:={cls:=.none,data:=.fields #[]}
noncomputable abbrev Pu(_:Params):Obj:={cls:=.type "code",data:=.fields #[.str (Str.ofString "<module>") 182,.str (Str.ofString "<module>") 183,.str (Str.ofString "/claim/cut.py") 184,.int 1 0,.int 0 0,.int 0 0,.int 0 0,.int 0 0,.ref 11,.bool false,.int 181 0,.ref 12,.none,.none,.none,.none,.int 185 0,.int 1 0,.str (Str.ofString "/claim/cut.py") 186]}
noncomputable abbrev Pt(_:Params):Obj:={cls:=.type "frame",slots:= #[some (.ref 13),some (.ref 3),some (.ref 3),none,some (.str (Str.ofString "__main__") 164),none,some (.ref 0)]}
noncomputable def O3(P:Params):BT:=(BT.node (TB P) (BT.node (TA P) (BT.node (Ty P) (BT.node (Tu P) BT.nil BT.nil) (BT.node (Pw P) BT.nil BT.nil)) (BT.node (Tw P) (BT.node (Ts P) BT.nil BT.nil) (BT.node (Pu P) BT.nil BT.nil))) (BT.node (Tz P) (BT.node (Tx P) (BT.node (Tt P) BT.nil BT.nil) (BT.node (Pv P) BT.nil BT.nil)) (BT.node (Tv P) (BT.node (Px P) BT.nil BT.nil) (BT.node (Pt P) BT.nil BT.nil))))
noncomputable def iF:List Str:=(["_wall","Special","EMPTY","Symbol","Pair","Char","Text","Vector","Box","Promise","PortRef","Procedure","kind_word","ATOMS","is_atom","FUN","CONT","CALL","JUMP","GIVE","BRANCH","KOp","fun_op","fix_op","KLast","call_last","jump_last","give_last","branch_last","KBlock","KProgram","makers","CoreError","PROC","SLOT","FREE","CONSTANT","COp","CLast","CBlock","CUnit","CProgram","closure_var","Layout","find_roots","find_atoms","last_reads","own_reads","own_given","inner_units","find_free","UnitMaker","begin_unit","give_slots","made_op","fix_rows","made_conts","way_block","made_last","made_block","made_unit","laid_out","closed","_law_deck","_law_draw","_law_one","_law_new","_law_block","_law_const","_law_procedures","_law_op","_law_choice","_law_end","_law_program","_law_leads","_law_unit","_law_units","_law_facts","_law_is_needed","_law_simple","_law_wanted","_law_handed","_law_are_units_right"]).map Str.ofString
noncomputable abbrev tU:List Str:=importedModules pw.main.body
noncomputable def eN:Program:=view pw [89]
noncomputable abbrev wZ(w:World)(os:OsState):SharedT:={tree:=O3 w.params,n:=15,life:={},gens:= #[],drawn:={},toks:=187,os:=os}
noncomputable abbrev benv:Env:={scope:=pw.main.scope,locals:=mainNs,globals:=mainNs,cells:=[],code:=.ref 13,frame:=some 14}
noncomputable abbrev mL:Code:=.body pw.main.body benv
noncomputable abbrev tQ:Thread:=piecesOf pw.main.body benv mL default [topFrame default]
noncomputable def JI(t:BT):Frag:=Ku.map λa=>(a,(t.get a).getD default)
noncomputable def EW(t:BT)(n:Nat):Bool:=Ku.all λa=>Nat.blt a n&&match t.get a with
 |some o=>(alive o).isSome
 |none=>false
noncomputable abbrev SC(s:Shared):=openSeen eN iF tU (λ_=>true) true s
theorem zj(w:World)(os:OsState):(segRunT treeTable pw w 11 (some (.ref 6)) 1 7425 (wZ w os) tQ).map (λr=>(r.1,r.2.2.1,(staticsOk tU (boot_heap w.params) r.2.1.abs.heap&&namesBound pw r.2.1.abs.heap&&gensDone r.2.1.abs&&laidKept (boot_heap w.params) r.2.1.abs.heap),openSeen eN iF tU (λ_=>true) true r.2.1.abs))=some (Flow.next,mL,true,openGood eN iF):=by
 revert w os
 rw[PySem.W.Fast.te4187177175401517315];rw[YT,YU];intro w os
 kernel_rfl
theorem zi(w:World)(os:OsState):(segRunT treeTable pw w 11 (some (.ref 6)) 1 7425 (wZ w os) tQ).map (λr=>(Ff (JI r.2.1.tree),oB (JI r.2.1.tree)))=some (true,oz):=by
 revert w os
 rw[YT,YU];intro w os
 kernel_rfl
theorem zh(w:World)(os:OsState):(segRunT treeTable pw w 11 (some (.ref 6)) 1 7425 (wZ w os) tQ).map (λr=>(Fe (JI r.2.1.tree),EW r.2.1.tree r.2.1.n))=some (true,true):=by
 revert w os
 rw[YT,YU];intro w os
 kernel_rfl
end
end
section
noncomputable def dU(Φ:Calls):Prop:=∀f vs h (Q Q':V->Hp->Prop),Φ f vs h Q->(∀v h',Q v h'->Q' v h')->Φ f vs h Q'
section
variable {Φ:Calls}{γ:String->Option V}{h:Hp}
theorem kQ{n:Nat}{st:List V}{W W':List V->List V->Prop}(w:fH n st W)(q:∀vs bH,W vs bH->W' vs bH):fH n st W':=by
 unfold fH at*
 revert w
 cases tH n [] st with
 |none=>exact id
 |some p=>exact q _ _
theorem iC{st:List V}{W W':V->List V->Prop}(w:top W st)(q:∀v bH,W v bH->W' v bH):top W' st:=by
 cases st with
 |nil=>exact w
 |cons=>exact q _ _ w
theorem rP{st:List V}{W W':V->V->List V->Prop}(w:top2 W st)(q:∀x y bH,W x y bH->W' x y bH):top2 W' st:=by
 cases st with
 |nil=>exact w
 |cons _ st=>cases st with
  |nil=>exact w
  |cons=>exact q _ _ _ w
theorem Rs.mn{r:Rs}{Q Q':V->Hp->Prop}(w:r.post h Q)(q:∀v h',Q v h'->Q' v h'):r.post h Q':=by
 cases r with
 |val=>exact q _ _ w
 |new=>exact λc n=>q _ _ (w c n)
noncomputable def aY:C->List String
 | .az _ k=>aY k| .ae _ k=>aY k| .glob _ k=>aY k| .mk _ _ k=>aY k| .u _ k=>aY k| .b _ k=>aY k
 | .call _ _ k=>aY k| .new _ _ _ k=>aY k| .bM _ k=>aY k| .prim _ _ k=>aY k
 | .ite a b k=>aY a++(aY b++aY k)
 | .comp _ _ _ _ k=>aY k
 | .aY x k=>x::aY k
 | .iw xs k=>xs++aY k
 | .setA _ k=>aY k| .dq k=>aY k
 | .zV xs k=>xs++aY k
 | .pop k=>aY k
 | .loop _ b k=>aY b++aY k
 | .for t _ b k=>t++(aY b++aY k)
 |_=>[]
noncomputable abbrev cR(A:List String)(ρ ρ':Lo):Prop:=∀x,x∉A->ρ' x=ρ x
theorem cR.l{A B:List String}{ρ ρ1 ρ2:Lo}(x:cR A ρ ρ1)(y:cR B ρ1 ρ2):cR (A++B) ρ ρ2:=λz n=>(y z λm=>n (Zi _ m)).trans (x z λm=>n (Zd _ m))
theorem cR.r{A B:List String}{ρ ρ1:Lo}(x:cR A ρ ρ1):cR (B++A) ρ ρ1:=λz n=>x z λm=>n (Zi _ m)
theorem cR.ll{A B:List String}{ρ ρ1:Lo}(x:cR A ρ ρ1):cR (A++B) ρ ρ1:=λz n=>x z λm=>n (Zd _ m)
theorem kB:∀{xs:List String} {vs:List V} {ρ:Lo},cR xs ρ (binds ρ xs vs)
 |[],[],_,_,_=>rfl
 |[],_::_,_,_,_=>rfl
 |_::_,[],_,_,_=>rfl
 |x::xs,v::vs,ρ,y,n=>(kB (xs:=xs) y λm=>n (Zh _ m)).trans (if_neg λ(e:y=x)=>n (e▸Ze))
theorem dm.same{t:List String}{it:List V}{ρ ρ':Lo}(b:dm h ρ t it ρ'):cR t ρ ρ':=by
 rcases b with ⟨_,e⟩|⟨_,_,_,_,_,_,e⟩<;>exact e▸kB
theorem tP(M:dU Φ):∀(c:C) (ρ:Lo) (st:List V) (h:Hp) (Q Q':Po),wp Φ γ c ρ st h Q->(∀fl ρ' bH h',cR (aY c) ρ ρ'->Q fl ρ' bH h'->Q' fl ρ' bH h')->wp Φ γ c ρ st h Q':=by
 intro c
 induction c with
 |done=>exact λρ st h Q Q' w q=>q _ _ _ _ (λ_ _=>rfl) w
 |az v k ih=>exact λρ st h Q Q' w q=>ih _ _ _ _ _ w q
 |ae x k ih=>exact λρ st h Q Q' lI q=>oea lI λv e w=>⟨v,e,ih _ _ _ _ _ w q⟩
 |glob x k ih=>exact λρ st h Q Q' lH q=>oea lH λv e w=>⟨v,e,ih _ _ _ _ _ w q⟩
 |mk o n k ih=>exact λρ st h Q Q' w q=>kQ w λvs bH w a n=>ih _ _ _ _ _ (w a n) q
 |u o k ih=>exact λρ st h Q Q' w q=>iC w λv bH w=>w.imp λr w=>⟨w.1,Rs.mn w.2 λ_ _ w=>ih _ _ _ _ _ w q⟩
 |b o k ih=>exact λρ st h Q Q' w q=>rP w λx y bH w=>w.imp λr w=>⟨w.1,Rs.mn w.2 λ_ _ w=>ih _ _ _ _ _ w q⟩
 |call f n k ih=>exact λρ st h Q Q' w q=>kQ w λvs bH w=>M _ _ _ _ _ w λ_ _ w=>ih _ _ _ _ _ w q
 |new c f n k ih=>exact λρ st h Q Q' w q=>kQ w λvs bH w a n=>M _ _ _ _ _ (w a n) λ_ _ w=>⟨w.1,ih _ _ _ _ _ w.2 q⟩
 |bM c k ih=>exact λρ st h Q Q' w q=>⟨w.1,ih _ _ _ _ _ w.2 q⟩
 |prim m n k ih=>exact λρ st h Q Q' w q=>kQ w λvs bH w=>iC w λv bH rc=>oeeeaa rc λa w' o e r w=>⟨a,w',o,e,r,ih _ _ _ _ _ w q⟩
 |ite a b k UP Jm ih=>
  intro ρ st h Q Q' w q;refine iC w λv bH xY=>oeaa xY λt e w1 w2=>⟨t,e,λz=>UP _ _ _ _ _ (w1 z) λfl ρ1 wZ h1 s p=>?_,λz=>Jm _ _ _ _ _ (w2 z) λfl ρ1 wZ h1 s p=>?_⟩
  . cases fl with
    |next=>exact ih _ _ _ _ _ p λfl ρ' bH h' s' p=>q _ _ _ _ (cR.l s s'.r) p
    |brk=>exact q _ _ _ _ s.ll p
    |ret=>exact q _ _ _ _ s.ll p
  . cases fl with
    |next=>exact ih _ _ _ _ _ p λfl ρ' bH h' s' p=>q _ _ _ _ (cR.l s s').r p
    |brk=>exact q _ _ _ _ s.ll.r p
    |ret=>exact q _ _ _ _ s.ll.r p
 |comp t s c e k Q4 ihe ih=>
  intro ρ st h Q Q' w q;refine oeeaaeaa w λaK bH x0 x bB i0 step fin=>?_;try clear w
  refine⟨aK,bH,x0,x,bB,i0,step,λvs h' i=>⟨(fin vs h' i).1,λa n=>ih _ _ _ _ _ ((fin vs h' i).2 a n) q⟩⟩
 |aY x k ih=>exact λρ st h Q Q' w q=>iC w λv bH w=>ih _ _ _ _ _ w λfl ρ' bH h' s p=>q _ _ _ _ (λy n=>(s y λm=>n (Zh _ m)).trans (if_neg λ(e:y=x)=>n (e▸Ze))) p
 |iw xs k ih=>exact λρ st h Q Q' w q=>kQ w λvs bH w=>ih _ _ _ _ _ w λfl ρ' bH h' s p=>q _ _ _ _ (kB.l s) p
 |setA n k ih=>exact λρ st h Q Q' w q=>rP w λx y bH xX=>oeea xX λa o r w=>⟨a,o,r,ih _ _ _ _ _ w q⟩
 |dq k ih=>exact λρ st h Q Q' w q=>rP w λx y bH w=>iC w λv bH Je=>oeea Je λa o r w=>⟨a,o,r,ih _ _ _ _ _ w q⟩
 |zV xs k ih=>exact λρ st h Q Q' w q=>iC w λv bH Nm=>oeaa Nm λρ' l b w=>⟨ρ',l,b,ih _ _ _ _ _ w λfl ρ' bH h' s p=>q _ _ _ _ (b.same.l s) p⟩
 |pop k ih=>exact λρ st h Q Q' w q=>iC w λv bH w=>⟨w.1,ih _ _ _ _ _ w.2 q⟩
 |loop c b k Q4 Jm ih=>
  intro ρ st h Q Q' ⟨bB,⟨n,i0⟩,step⟩ q;refine⟨λn ρ' h'=>bB n ρ' h'/\cR (aY b) ρ ρ',⟨n,i0,λ_ _=>rfl⟩,λn ρ' h' i=>Q4 _ _ _ _ _ (step n ρ' h' i.1) λfl ρ1 wZ h1 _ Jd=>oaeaeaa Jd λe v e2 t e3 w1 w2=>⟨e,v,e2,t,e3,λz=>Jm _ _ _ _ _ (w1 z) λfl ρ3 zY h3 s p=>?_,λz=>ih _ _ _ _ _ (w2 z) λfl ρ3 zY h3 s p=>q _ _ _ _ (i.2.l s) p⟩⟩;have s2:cR (aY b) ρ ρ3:=λx m=>(s x m).trans (i.2 x m)
  cases fl with
  |next=>refine oea p λm l p=>?_;exact⟨m,l,p,s2⟩
  |brk=>exact ih _ _ _ _ _ p λfl ρ' bH h' s' p=>q _ _ _ _ (s2.l s') p
  |ret=>exact q _ _ _ _ s2.ll p
 |«for» t s b k Jm ih=>
  intro ρ st h Q Q' w q;refine oeeaeaa w λaK bH x0 bB i0 step fin=>?_;try clear w
  refine⟨aK,bH,x0,λn ρ' h'=>bB n ρ' h'/\cR (t++aY b) ρ ρ',⟨i0,λ_ _=>rfl⟩,λi ρ' h' item iv e=>?_,λρ' h' iv=>⟨(fin ρ' h' iv.1).1,ih _ _ _ _ _ (fin ρ' h' iv.1).2 λfl ρ3 zY h3 s p=>q _ _ _ _ (λx n=>(iv.2.l s) x (by rwa [Zo])) p⟩⟩;refine oaea (step i ρ' h' item iv.1 e) λsy fG bt w=>?_;refine⟨sy,fG,bt,Jm _ _ _ _ _ w λfl ρ3 zY h3 s p=>?_⟩;have s2:cR (t++aY b) ρ ρ3:=λx m=>((bt.same.l s) x m).trans (iv.2 x m)
  cases fl with
  |next=>exact⟨p,s2⟩
  |brk=>exact ih _ _ _ _ _ p λfl ρ' bH h' s' p=>q _ _ _ _ (λx n=>(s2.l s') x (by rwa [Zo])) p
  |ret=>exact q _ _ _ _ (λx n=>s2.ll x (by rwa [Zo])) p
 |ret=>exact λρ st h Q Q' w q=>iC w λv _ w=>q _ _ _ _ (λ_ _=>rfl) w
 |brk=>exact λρ st h Q Q' w q=>q _ _ _ _ (λ_ _=>rfl) w
 |raise=>exact λρ st h Q Q' w q=>w
theorem Kz(M:dU Φ){c:C}{ρ:Lo}{st:List V}{Q Q':Po}(w:wp Φ γ c ρ st h Q)(q:∀fl ρ' bH h',Q fl ρ' bH h'->Q' fl ρ' bH h'):wp Φ γ c ρ st h Q':=tP M c ρ st h Q Q' w λ_ _ _ _ _ p=>q _ _ _ _ p
end
end
section
noncomputable def vq:Fn:=⟨["self","car","cdr"],
 .ae "car"<|.ae "self"<|.setA "car"<|.ae "cdr"<|.ae "self"<|.setA "cdr"<|.az .none<|.ae "self"<|.setA "mark"<|.done⟩
noncomputable def vm:Fn:=⟨["datum"],
 .ae "datum"<|.u .isBool<|.ite (.az (sv "boolean")<|.ret) .done<|.ae "datum"<|.u (.cL "Pair")<|.ite (.az (sv "pair")<|.ret) .done<|.ae "datum"<|.u (.cL "Symbol")<|.ite (.az (sv "symbol")<|.ret) .done<|.ae "datum"<|.u (.cL "Special")<|.ite (.ae "datum"<|.u (.attr "title")<|.ret) .done<|.ae "datum"<|.u (.cL "Char")<|.ite (.az (sv "char")<|.ret) .done<|.ae "datum"<|.u (.cL "Text")<|.ite (.az (sv "string")<|.ret) .done<|.ae "datum"<|.u (.cL "Vector")<|.ite (.az (sv "vector")<|.ret) .done<|.ae "datum"<|.u (.cL "Procedure")<|.ite (.az (sv "procedure")<|.ret) .done<|.ae "datum"<|.u (.cL "Promise")<|.ite (.az (sv "promise")<|.ret) .done<|.ae "datum"<|.u (.cL "Box")<|.ite (.az (sv "box")<|.ret) .done<|.ae "datum"<|.u (.cL "PortRef")<|.ite (.az (sv "port")<|.done) (.az (sv "number")<|.done)<|.ret⟩
noncomputable def zD:Fn:=⟨["datum"],
 .ae "datum"<|.call "kind_word" 1<|.glob "ATOMS"<|.b (.cmp .isin)<|.ret⟩
noncomputable def wR:Fn:=⟨["self","result","word","number","args"],
 .ae "result"<|.ae "self"<|.setA "result"<|.ae "word"<|.ae "self"<|.setA "word"<|.ae "number"<|.ae "self"<|.setA "number"<|.ae "args"<|.ae "self"<|.setA "args"<|.az .none<|.ae "self"<|.setA "datum"<|.mk .list 0<|.ae "self"<|.setA "results"<|.mk .list 0<|.ae "self"<|.setA "labels"<|.done⟩
noncomputable def vr:Fn:=⟨["self"],
 .ae "self"<|.u (.attr "word")<|.az (sv "fix")<|.b (.cmp .eq)<|.ite (.ae "self"<|.u (.attr "results")<|.u .cO<|.ret) .done<|.ae "self"<|.u (.attr "result")<|.az (.int 0)<|.b (.cmp .ge)<|.ite (.ae "self"<|.u (.attr "result")<|.mk .list 1<|.done) (.mk .list 0<|.done)<|.ret⟩
noncomputable def Cw:Fn:=⟨["result","label"],
 .ae "result"<|.az (sv "fun")<|.az (.int (-1))<|.mk .list 0<|.new "KOp" "KOp.__init__" 4<|.aY "found"<|.ae "label"<|.mk .list 1<|.ae "found"<|.setA "labels"<|.ae "found"<|.ret⟩
noncomputable def Cx:Fn:=⟨["results","labels"],
 .az (.int (-1))<|.az (sv "fix")<|.az (.int (-1))<|.mk .list 0<|.new "KOp" "KOp.__init__" 4<|.aY "found"<|.ae "results"<|.u .cO<|.ae "found"<|.setA "results"<|.ae "labels"<|.u .cO<|.ae "found"<|.setA "labels"<|.ae "found"<|.ret⟩
noncomputable def sV:Fn:=⟨["self","word"],
 .ae "word"<|.ae "self"<|.setA "word"<|.az (.int (-1))<|.ae "self"<|.setA "fun"<|.mk .list 0<|.ae "self"<|.setA "args"<|.az (.int (-1))<|.ae "self"<|.setA "to"<|.az (.int (-1))<|.ae "self"<|.setA "other"<|.az (.int (-1))<|.ae "self"<|.setA "var"<|.done⟩
noncomputable def qy:Fn:=⟨["self"],
 .ae "self"<|.u (.attr "args")<|.u .cO<|.aY "found"<|.ae "self"<|.u (.attr "fun")<|.az (.int 0)<|.b (.cmp .ge)<|.ite (.ae "found"<|.bM "list"<|.ae "self"<|.u (.attr "fun")<|.prim .append 1<|.pop<|.done) .done<|.ae "self"<|.u (.attr "var")<|.az (.int 0)<|.b (.cmp .ge)<|.ite (.ae "found"<|.bM "list"<|.ae "self"<|.u (.attr "var")<|.prim .append 1<|.pop<|.done) .done<|.ae "found"<|.ret⟩
noncomputable def nM:Fn:=⟨["self"],
 .mk .list 0<|.aY "found"<|.ae "self"<|.u (.attr "to")<|.az (.int 0)<|.b (.cmp .ge)<|.ite (.ae "found"<|.bM "list"<|.ae "self"<|.u (.attr "to")<|.prim .append 1<|.pop<|.done) .done<|.ae "self"<|.u (.attr "other")<|.az (.int 0)<|.b (.cmp .ge)<|.ite (.ae "found"<|.bM "list"<|.ae "self"<|.u (.attr "other")<|.prim .append 1<|.pop<|.done) .done<|.ae "found"<|.ret⟩
noncomputable def vp:Fn:=⟨["fun","args","to","var"],
 .glob "CALL"<|.new "KLast" "KLast.__init__" 1<|.aY "found"<|.ae "fun"<|.ae "found"<|.setA "fun"<|.ae "args"<|.u .cO<|.ae "found"<|.setA "args"<|.ae "to"<|.ae "found"<|.setA "to"<|.ae "var"<|.ae "found"<|.setA "var"<|.ae "found"<|.ret⟩
noncomputable def vn:Fn:=⟨["to","args"],
 .glob "JUMP"<|.new "KLast" "KLast.__init__" 1<|.aY "found"<|.ae "to"<|.ae "found"<|.setA "to"<|.ae "args"<|.u .cO<|.ae "found"<|.setA "args"<|.ae "found"<|.ret⟩
noncomputable def vo:Fn:=⟨["var","args"],
 .glob "GIVE"<|.new "KLast" "KLast.__init__" 1<|.aY "found"<|.ae "var"<|.ae "found"<|.setA "var"<|.ae "args"<|.u .cO<|.ae "found"<|.setA "args"<|.ae "found"<|.ret⟩
noncomputable def qw:Fn:=⟨["test","yes","no"],
 .glob "BRANCH"<|.new "KLast" "KLast.__init__" 1<|.aY "found"<|.ae "test"<|.ae "found"<|.setA "fun"<|.ae "yes"<|.ae "found"<|.setA "to"<|.ae "no"<|.ae "found"<|.setA "other"<|.ae "found"<|.ret⟩
noncomputable def qz:Fn:=⟨["self","label","sort","params","rest"],
 .ae "label"<|.ae "self"<|.setA "label"<|.ae "sort"<|.ae "self"<|.setA "sort"<|.ae "params"<|.ae "self"<|.setA "params"<|.ae "rest"<|.ae "self"<|.setA "rest"<|.az (.int (-1))<|.ae "self"<|.setA "var"<|.ae "label"<|.ae "self"<|.setA "home"<|.az (.int (-1))<|.ae "self"<|.setA "parent"<|.az (sv "")<|.ae "self"<|.setA "title"<|.mk .list 0<|.ae "self"<|.setA "ops"<|.az .none<|.ae "self"<|.setA "last"<|.done⟩
noncomputable def mH:Fn:=⟨["self"],
 .ae "self"<|.u (.attr "params")<|.u .cO<|.aY "found"<|.ae "self"<|.u (.attr "rest")<|.az (.int 0)<|.b (.cmp .ge)<|.ite (.ae "found"<|.bM "list"<|.ae "self"<|.u (.attr "rest")<|.prim .append 1<|.pop<|.done) .done<|.ae "self"<|.u (.attr "var")<|.az (.int 0)<|.b (.cmp .ge)<|.ite (.ae "found"<|.bM "list"<|.ae "self"<|.u (.attr "var")<|.prim .append 1<|.pop<|.done) .done<|.ae "found"<|.ret⟩
noncomputable def pT:Fn:=⟨["self"],
 .ae "self"<|.bM "KBlock"<|.call "KBlock.binders" 1<|.aY "found"<|.ae "self"<|.u (.attr "ops")<|.for ["op"] .seq (.ae "found"<|.bM "list"<|.ae "op"<|.bM "KOp"<|.call "KOp.given" 1<|.prim .extend 1<|.pop<|.done)<|.ae "found"<|.ret⟩
noncomputable def kD:Fn:=⟨["self"],
 .ae "self"<|.u (.attr "params")<|.u .len<|.az (.int 0)<|.b (.cmp .eq)<|.ite (.ae "self"<|.u (.attr "rest")<|.az (.int 0)<|.b (.cmp .ge)<|.done) (.az (.bool false) .done)<|.ret⟩
noncomputable def nL:Fn:=⟨["self","entry"],
 .mk .dict 0<|.ae "self"<|.setA "table"<|.ae "entry"<|.ae "self"<|.setA "entry"<|.done⟩
noncomputable def lC:Fn:=⟨["self"],
 .ae "self"<|.u (.attr "table")<|.u .sorted<|.ret⟩
noncomputable def mG:Fn:=⟨["self","label"],
 .ae "self"<|.u (.attr "table")<|.ae "label"<|.b .idx<|.ret⟩
noncomputable def pS:Fn:=⟨["self","block"],
 .ae "block"<|.ae "self"<|.u (.attr "table")<|.ae "block"<|.u (.attr "label")<|.dq<|.done⟩
noncomputable def Cu:Fn:=⟨["program"],
 .mk .dict 0<|.aY "found"<|.ae "program"<|.bM "KProgram"<|.call "KProgram.labels" 1<|.for ["label"] .seq (.ae "program"<|.bM "KProgram"<|.ae "label"<|.call "KProgram.block" 2<|.u (.attr "ops")<|.for ["op"] .seq (.ae "op"<|.bM "KOp"<|.call "KOp.given" 1<|.for ["var"] .seq (.ae "op"<|.ae "found"<|.ae "var"<|.dq<|.done)<|.done)<|.done)<|.ae "found"<|.ret⟩
noncomputable def wS:Fn:=⟨["self","slot","op","data","args"],
 .ae "slot"<|.ae "self"<|.setA "slot"<|.ae "op"<|.ae "self"<|.setA "op"<|.ae "data"<|.ae "self"<|.setA "data"<|.ae "args"<|.ae "self"<|.setA "args"<|.done⟩
noncomputable def sX:Fn:=⟨["self","sort","head","args","k","blocks"],
 .ae "sort"<|.ae "self"<|.setA "sort"<|.ae "head"<|.ae "self"<|.setA "head"<|.ae "args"<|.ae "self"<|.setA "args"<|.ae "k"<|.ae "self"<|.setA "k"<|.ae "blocks"<|.ae "self"<|.setA "blocks"<|.done⟩
noncomputable def qA:Fn:=⟨["self","number","params"],
 .ae "number"<|.ae "self"<|.setA "number"<|.ae "params"<|.ae "self"<|.setA "params"<|.mk .list 0<|.ae "self"<|.setA "ops"<|.az .none<|.ae "self"<|.setA "last"<|.done⟩
noncomputable def sW:Fn:=⟨["self","number","sort"],
 .ae "number"<|.ae "self"<|.setA "number"<|.ae "sort"<|.ae "self"<|.setA "sort"<|.mk .list 0<|.ae "self"<|.setA "params"<|.az (.int (-1))<|.ae "self"<|.setA "rest"<|.az (.bool false)<|.ae "self"<|.setA "takes_any"<|.az (.int 0)<|.ae "self"<|.setA "captured"<|.az (.int 0)<|.ae "self"<|.setA "slots"<|.mk .list 0<|.ae "self"<|.setA "blocks"<|.az (sv "")<|.ae "self"<|.setA "name"<|.done⟩
noncomputable def nN:Fn:=⟨["self"],
 .mk .list 0<|.ae "self"<|.setA "units"<|.az (.int 0)<|.ae "self"<|.setA "start"<|.done⟩
noncomputable def qv:Fn:=⟨["label"],
 .az (.int 0)<|.ae "label"<|.b (.bin .sub)<|.az (.int 2)<|.b (.bin .sub)<|.ret⟩
noncomputable def qx:Fn:=⟨["self","program"],
 .ae "program"<|.ae "self"<|.setA "program"<|.mk .dict 0<|.ae "self"<|.setA "roots"<|.mk .dict 0<|.ae "self"<|.setA "atoms"<|.mk .dict 0<|.ae "self"<|.setA "numbers"<|.mk .dict 0<|.ae "self"<|.setA "free"<|.done⟩
noncomputable def mF:Fn:=⟨["self","label"],
 .ae "label"<|.ae "self"<|.u (.attr "roots")<|.b (.cmp .isin)<|.ret⟩
noncomputable def mC:Fn:=⟨["self","label"],
 .loop (.ae "label"<|.ae "self"<|.u (.attr "roots")<|.b (.cmp .dz)<|.done) (.ae "self"<|.u (.attr "program")<|.bM "KProgram"<|.ae "label"<|.call "KProgram.block" 2<|.u (.attr "parent")<|.aY "label"<|.done)<|.ae "label"<|.ret⟩
noncomputable def mD:Fn:=⟨["self","root"],
 .ae "self"<|.u (.attr "program")<|.bM "KProgram"<|.call "KProgram.labels" 1<|.comp ["label"] .seq (.ae "label"<|.ae "root"<|.b (.cmp .ne)<|.ite (.ae "self"<|.bM "Layout"<|.ae "label"<|.call "Layout.unit_of" 2<|.ae "root"<|.b (.cmp .eq)<|.done) (.az (.bool false) .done)<|.done) (.ae "label"<|.done)<|.aY "others"<|.ae "root"<|.mk .list 1<|.ae "others"<|.b (.bin .add)<|.ret⟩
noncomputable def mE:Fn:=⟨["self","label"],
 .mk .list 0<|.aY "found"<|.ae "self"<|.u (.attr "program")<|.bM "KProgram"<|.call "KProgram.labels" 1<|.for ["own"] .seq (.ae "own"<|.ae "self"<|.u (.attr "roots")<|.b (.cmp .isin)<|.ite (.ae "self"<|.u (.attr "program")<|.bM "KProgram"<|.ae "own"<|.call "KProgram.block" 2<|.u (.attr "sort")<|.glob "CONT"<|.b (.cmp .eq)<|.ite (.ae "self"<|.u (.attr "program")<|.bM "KProgram"<|.ae "own"<|.call "KProgram.block" 2<|.u (.attr "parent")<|.ae "label"<|.b (.cmp .eq)<|.done) (.az (.bool false) .done) .done) (.az (.bool false) .done)<|.ite (.ae "found"<|.bM "list"<|.ae "own"<|.prim .append 1<|.pop<|.done) .done<|.done)<|.ae "found"<|.ret⟩
noncomputable def sS:Fn:=⟨["layout"],
 .ae "layout"<|.u (.attr "program")<|.aY "program"<|.ae "program"<|.bM "KProgram"<|.call "KProgram.labels" 1<|.for ["label"] .seq (.ae "program"<|.bM "KProgram"<|.ae "label"<|.call "KProgram.block" 2<|.aY "block"<|.ae "block"<|.u (.attr "sort")<|.glob "FUN"<|.b (.cmp .eq)<|.ite (.az (.bool true)<|.ae "layout"<|.u (.attr "roots")<|.ae "label"<|.dq<|.done) .done<|.ae "block"<|.u (.attr "last")<|.u (.attr "word")<|.glob "CALL"<|.b (.cmp .eq)<|.ite (.ae "block"<|.u (.attr "last")<|.u (.attr "to")<|.az (.int 0)<|.b (.cmp .ge)<|.done) (.az (.bool false) .done)<|.ite (.az (.bool true)<|.ae "layout"<|.u (.attr "roots")<|.ae "block"<|.u (.attr "last")<|.u (.attr "to")<|.dq<|.done) .done<|.done)<|.az (.bool true)<|.aY "grows"<|.loop (.ae "grows"<|.done) (.az (.bool false)<|.aY "grows"<|.ae "program"<|.bM "KProgram"<|.call "KProgram.labels" 1<|.for ["label"] .seq (.ae "program"<|.bM "KProgram"<|.ae "label"<|.call "KProgram.block" 2<|.u (.attr "last")<|.bM "KLast"<|.call "KLast.targets" 1<|.for ["target"] .seq (.ae "target"<|.ae "layout"<|.u (.attr "roots")<|.b (.cmp .dz)<|.ite (.ae "layout"<|.bM "Layout"<|.ae "target"<|.call "Layout.unit_of" 2<|.ae "layout"<|.bM "Layout"<|.ae "label"<|.call "Layout.unit_of" 2<|.b (.cmp .ne)<|.done) (.az (.bool false) .done)<|.ite (.az (.bool true)<|.ae "layout"<|.u (.attr "roots")<|.ae "target"<|.dq<|.az (.bool true)<|.aY "grows"<|.done) .done<|.done)<|.done)<|.done)<|.done⟩
noncomputable def sT:Fn:=⟨["layout"],
 .ae "layout"<|.u (.attr "program")<|.call "makers" 1<|.aY "made"<|.ae "made"<|.for ["var"] .seq (.ae "made"<|.ae "var"<|.b .idx<|.u (.attr "word")<|.az (sv "const")<|.b (.cmp .eq)<|.ite (.ae "made"<|.ae "var"<|.b .idx<|.u (.attr "datum")<|.call "is_atom" 1<|.done) (.az (.bool false) .done)<|.ite (.ae "made"<|.ae "var"<|.b .idx<|.u (.attr "datum")<|.ae "layout"<|.u (.attr "atoms")<|.ae "var"<|.dq<|.done) .done<|.done)<|.done⟩
noncomputable def sQ:Fn:=⟨["layout","block"],
 .ae "block"<|.u (.attr "last")<|.bM "KLast"<|.call "KLast.reads" 1<|.aY "found"<|.ae "block"<|.u (.attr "last")<|.bM "KLast"<|.call "KLast.targets" 1<|.for ["target"] .seq (.ae "layout"<|.bM "Layout"<|.ae "target"<|.call "Layout.is_root" 2<|.ite (.ae "found"<|.bM "list"<|.ae "target"<|.call "closure_var" 1<|.prim .append 1<|.pop<|.done) .done<|.done)<|.ae "found"<|.ret⟩
noncomputable def vb:Fn:=⟨["layout","root"],
 .mk .dict 0<|.aY "found"<|.ae "layout"<|.bM "Layout"<|.ae "root"<|.call "Layout.members" 2<|.for ["label"] .seq (.ae "layout"<|.u (.attr "program")<|.bM "KProgram"<|.ae "label"<|.call "KProgram.block" 2<|.aY "block"<|.ae "block"<|.u (.attr "ops")<|.for ["op"] .seq (.ae "op"<|.u (.attr "args")<|.for ["var"] .seq (.az (.bool true)<|.ae "found"<|.ae "var"<|.dq<|.done)<|.done)<|.ae "layout"<|.ae "block"<|.call "last_reads" 2<|.for ["var"] .seq (.az (.bool true)<|.ae "found"<|.ae "var"<|.dq<|.done)<|.done)<|.ae "found"<|.ret⟩
noncomputable def vc:Fn:=⟨["layout","root"],
 .mk .dict 0<|.aY "found"<|.ae "layout"<|.bM "Layout"<|.ae "root"<|.call "Layout.members" 2<|.for ["label"] .seq (.ae "layout"<|.u (.attr "program")<|.bM "KProgram"<|.ae "label"<|.call "KProgram.block" 2<|.bM "KBlock"<|.call "KBlock.given" 1<|.for ["var"] .seq (.az (.bool true)<|.ae "found"<|.ae "var"<|.dq<|.done)<|.ae "layout"<|.bM "Layout"<|.ae "label"<|.call "Layout.made_at" 2<|.for ["own"] .seq (.az (.bool true)<|.ae "found"<|.ae "own"<|.call "closure_var" 1<|.dq<|.done)<|.done)<|.ae "found"<|.ret⟩
noncomputable def qu:Fn:=⟨["layout","root"],
 .mk .list 0<|.aY "found"<|.ae "layout"<|.bM "Layout"<|.ae "root"<|.call "Layout.members" 2<|.for ["label"] .seq (.ae "layout"<|.u (.attr "program")<|.bM "KProgram"<|.ae "label"<|.call "KProgram.block" 2<|.u (.attr "ops")<|.for ["op"] .seq (.ae "found"<|.bM "list"<|.ae "op"<|.u (.attr "labels")<|.prim .extend 1<|.pop<|.done)<|.ae "found"<|.bM "list"<|.ae "layout"<|.bM "Layout"<|.ae "label"<|.call "Layout.made_at" 2<|.prim .extend 1<|.pop<|.done)<|.ae "found"<|.ret⟩
noncomputable def i6:Fn:=⟨["layout"],
 .ae "layout"<|.u (.attr "roots")<|.u .sorted<|.aY "roots"<|.mk .dict 0<|.aY "reads"<|.mk .dict 0<|.aY "given"<|.mk .dict 0<|.aY "inner"<|.ae "roots"<|.for ["root"] .seq (.ae "layout"<|.ae "root"<|.call "own_reads" 2<|.ae "reads"<|.ae "root"<|.dq<|.ae "layout"<|.ae "root"<|.call "own_given" 2<|.ae "given"<|.ae "root"<|.dq<|.ae "layout"<|.ae "root"<|.call "inner_units" 2<|.ae "inner"<|.ae "root"<|.dq<|.mk .dict 0<|.ae "layout"<|.u (.attr "free")<|.ae "root"<|.dq<|.done)<|.az (.bool true)<|.aY "grows"<|.loop (.ae "grows"<|.done) (.az (.bool false)<|.aY "grows"<|.ae "roots"<|.u .rev<|.for ["root"] .seq (.ae "reads"<|.ae "root"<|.b .idx<|.u .copyDict<|.aY "wanted"<|.ae "inner"<|.ae "root"<|.b .idx<|.for ["own"] .seq (.ae "wanted"<|.bM "dict"<|.ae "layout"<|.u (.attr "free")<|.ae "own"<|.b .idx<|.prim .update 1<|.pop<|.done)<|.ae "wanted"<|.for ["var"] .seq (.ae "var"<|.ae "given"<|.ae "root"<|.b .idx<|.b (.cmp .dz)<|.ite (.ae "var"<|.ae "layout"<|.u (.attr "atoms")<|.b (.cmp .dz)<|.ite (.ae "var"<|.ae "layout"<|.u (.attr "free")<|.ae "root"<|.b .idx<|.b (.cmp .dz)<|.done) (.az (.bool false) .done) .done) (.az (.bool false) .done)<|.ite (.az (.bool true)<|.ae "layout"<|.u (.attr "free")<|.ae "root"<|.b .idx<|.ae "var"<|.dq<|.az (.bool true)<|.aY "grows"<|.done) .done<|.done)<|.done)<|.done)<|.done⟩
noncomputable def mA:Fn:=⟨["self","layout","root","unit"],
 .ae "layout"<|.ae "self"<|.setA "layout"<|.ae "root"<|.ae "self"<|.setA "root"<|.ae "unit"<|.ae "self"<|.setA "unit"<|.mk .dict 0<|.ae "self"<|.setA "slots"<|.mk .dict 0<|.ae "self"<|.setA "places"<|.ae "layout"<|.u (.attr "free")<|.ae "root"<|.b .idx<|.u .sorted<|.ae "self"<|.setA "captured"<|.ae "self"<|.u (.attr "captured")<|.comp ["at","var"] .enum (.az (.bool true) .done) (.ae "var"<|.ae "at"<|.mk .tup 2<|.done)<|.u .dictOf<|.ae "self"<|.setA "spots"<|.mk .list 0<|.ae "self"<|.setA "extra"<|.done⟩
noncomputable def mz:Fn:=⟨["self","var"],
 .ae "self"<|.u (.attr "unit")<|.u (.attr "slots")<|.ae "self"<|.u (.attr "slots")<|.ae "var"<|.dq<|.ae "self"<|.u (.attr "unit")<|.u (.attr "slots")<|.az (.int 1)<|.b (.bin .add)<|.ae "self"<|.u (.attr "unit")<|.setA "slots"<|.ae "self"<|.u (.attr "slots")<|.ae "var"<|.b .idx<|.ret⟩
noncomputable def nK:Fn:=⟨["self","var"],
 .ae "var"<|.ae "self"<|.u (.attr "layout")<|.u (.attr "atoms")<|.b (.cmp .isin)<|.ite (.glob "CONSTANT"<|.ae "self"<|.u (.attr "layout")<|.u (.attr "atoms")<|.ae "var"<|.b .idx<|.mk .tup 2<|.ret) .done<|.ae "var"<|.ae "self"<|.u (.attr "slots")<|.b (.cmp .isin)<|.ite (.glob "SLOT"<|.ae "self"<|.u (.attr "slots")<|.ae "var"<|.b .idx<|.mk .tup 2<|.ret) .done<|.ae "var"<|.ae "self"<|.u (.attr "spots")<|.b (.cmp .dz)<|.ite (.raise) .done<|.glob "FREE"<|.ae "self"<|.u (.attr "spots")<|.ae "var"<|.b .idx<|.mk .tup 2<|.ret⟩
noncomputable def mB:Fn:=⟨["self","numbers"],
 .ae "numbers"<|.comp ["var"] .seq (.az (.bool true) .done) (.ae "self"<|.bM "UnitMaker"<|.ae "var"<|.call "UnitMaker.arg" 2<|.done)<|.ret⟩
noncomputable def gb:Fn:=⟨["self","label"],
 .ae "self"<|.bM "UnitMaker"<|.ae "self"<|.u (.attr "layout")<|.u (.attr "free")<|.ae "label"<|.b .idx<|.u .sorted<|.call "UnitMaker.args" 2<|.ret⟩
noncomputable def sU:Fn:=⟨["maker"],
 .ae "maker"<|.u (.attr "layout")<|.u (.attr "program")<|.bM "KProgram"<|.ae "maker"<|.u (.attr "root")<|.call "KProgram.block" 2<|.aY "block"<|.ae "maker"<|.u (.attr "unit")<|.aY "unit"<|.ae "block"<|.u (.attr "sort")<|.glob "FUN"<|.b (.cmp .eq)<|.ite (.ae "unit"<|.u (.attr "params")<|.bM "list"<|.ae "maker"<|.bM "UnitMaker"<|.ae "block"<|.u (.attr "var")<|.call "UnitMaker.slot" 2<|.prim .append 1<|.pop<|.done) .done<|.ae "block"<|.u (.attr "params")<|.for ["var"] .seq (.ae "unit"<|.u (.attr "params")<|.bM "list"<|.ae "maker"<|.bM "UnitMaker"<|.ae "var"<|.call "UnitMaker.slot" 2<|.prim .append 1<|.pop<|.done)<|.ae "block"<|.u (.attr "sort")<|.glob "CONT"<|.b (.cmp .eq)<|.ite (.ae "block"<|.bM "KBlock"<|.call "KBlock.takes_any" 1<|.done) (.az (.bool false) .done)<|.ite (.az (.bool true)<|.ae "unit"<|.setA "takes_any"<|.done) (.ae "block"<|.u (.attr "rest")<|.az (.int 0)<|.b (.cmp .ge)<|.ite (.ae "maker"<|.bM "UnitMaker"<|.ae "block"<|.u (.attr "rest")<|.call "UnitMaker.slot" 2<|.ae "unit"<|.setA "rest"<|.done) .done<|.done)<|.done⟩
noncomputable def sR:Fn:=⟨["maker"],
 .ae "maker"<|.u (.attr "layout")<|.u (.attr "program")<|.aY "program"<|.ae "maker"<|.u (.attr "layout")<|.bM "Layout"<|.ae "maker"<|.u (.attr "root")<|.call "Layout.members" 2<|.aY "members"<|.ae "members"<|.u .len<|.for ["at"] .range (.ae "program"<|.bM "KProgram"<|.ae "members"<|.ae "at"<|.b .idx<|.call "KProgram.block" 2<|.aY "block"<|.ae "at"<|.ae "maker"<|.u (.attr "places")<|.ae "members"<|.ae "at"<|.b .idx<|.dq<|.ae "members"<|.ae "at"<|.b .idx<|.ae "maker"<|.u (.attr "root")<|.b (.cmp .ne)<|.ite (.ae "block"<|.u (.attr "params")<|.for ["var"] .seq (.ae "maker"<|.bM "UnitMaker"<|.ae "var"<|.call "UnitMaker.slot" 2<|.pop<|.done)<|.done) .done<|.ae "block"<|.u (.attr "ops")<|.for ["op"] .seq (.ae "op"<|.bM "KOp"<|.call "KOp.given" 1<|.for ["var"] .seq (.ae "var"<|.ae "maker"<|.u (.attr "layout")<|.u (.attr "atoms")<|.b (.cmp .dz)<|.ite (.ae "maker"<|.bM "UnitMaker"<|.ae "var"<|.call "UnitMaker.slot" 2<|.pop<|.done) .done<|.done)<|.done)<|.ae "maker"<|.u (.attr "layout")<|.bM "Layout"<|.ae "members"<|.ae "at"<|.b .idx<|.call "Layout.made_at" 2<|.for ["own"] .seq (.ae "maker"<|.bM "UnitMaker"<|.ae "own"<|.call "closure_var" 1<|.call "UnitMaker.slot" 2<|.pop<|.done)<|.done)<|.ae "members"<|.ret⟩
noncomputable def zy:Fn:=⟨["maker","op"],
 .ae "maker"<|.u (.attr "slots")<|.bM "dict"<|.ae "op"<|.u (.attr "result")<|.az (.int (-1))<|.prim .get 2<|.aY "slot"<|.ae "op"<|.u (.attr "word")<|.az (sv "const")<|.b (.cmp .eq)<|.ite (.ae "op"<|.u (.attr "result")<|.ae "maker"<|.u (.attr "layout")<|.u (.attr "atoms")<|.b (.cmp .isin)<|.ite (.az .none<|.ret) .done<|.ae "slot"<|.az (sv "const")<|.ae "op"<|.u (.attr "datum")<|.mk .list 0<|.new "COp" "COp.__init__" 4<|.ret) .done<|.ae "op"<|.u (.attr "word")<|.az (sv "fun")<|.b (.cmp .eq)<|.ite (.ae "op"<|.u (.attr "labels")<|.az (.int 0)<|.b .idx<|.aY "label"<|.ae "slot"<|.az (sv "close")<|.ae "maker"<|.u (.attr "layout")<|.u (.attr "numbers")<|.ae "label"<|.b .idx<|.ae "maker"<|.bM "UnitMaker"<|.ae "label"<|.call "UnitMaker.captured_args" 2<|.new "COp" "COp.__init__" 4<|.ret) .done<|.ae "op"<|.u (.attr "word")<|.az (sv "fix")<|.b (.cmp .eq)<|.ite (.az (.int (-1))<|.az (sv "closefix")<|.ae "maker"<|.ae "op"<|.u (.attr "results")<|.ae "op"<|.u (.attr "labels")<|.call "fix_rows" 3<|.mk .list 0<|.new "COp" "COp.__init__" 4<|.ret) .done<|.ae "slot"<|.ae "op"<|.u (.attr "word")<|.ae "op"<|.u (.attr "number")<|.ae "maker"<|.bM "UnitMaker"<|.ae "op"<|.u (.attr "args")<|.call "UnitMaker.args" 2<|.new "COp" "COp.__init__" 4<|.ret⟩
noncomputable def wQ:Fn:=⟨["maker","variables","labels"],
 .mk .list 0<|.aY "found"<|.ae "variables"<|.ae "labels"<|.for ["var","label"] .zip (.ae "found"<|.bM "list"<|.ae "maker"<|.u (.attr "slots")<|.ae "var"<|.b .idx<|.ae "maker"<|.u (.attr "layout")<|.u (.attr "numbers")<|.ae "label"<|.b .idx<|.ae "maker"<|.bM "UnitMaker"<|.ae "label"<|.call "UnitMaker.captured_args" 2<|.mk .tup 3<|.prim .append 1<|.pop<|.done)<|.ae "found"<|.ret⟩
noncomputable def sK:Fn:=⟨["maker","label"],
 .ae "maker"<|.u (.attr "layout")<|.bM "Layout"<|.ae "label"<|.call "Layout.made_at" 2<|.aY "labels"<|.ae "labels"<|.comp ["own"] .seq (.az (.bool true) .done) (.ae "own"<|.call "closure_var" 1<|.done)<|.aY "variables"<|.ae "labels"<|.u .len<|.az (.int 0)<|.b (.cmp .eq)<|.ite (.mk .list 0<|.ret) .done<|.ae "labels"<|.u .len<|.az (.int 1)<|.b (.cmp .eq)<|.ite (.ae "variables"<|.az (.int 0)<|.b .idx<|.ae "maker"<|.u (.attr "layout")<|.u (.attr "free")<|.ae "labels"<|.az (.int 0)<|.b .idx<|.b .idx<|.b (.cmp .dz)<|.done) (.az (.bool false) .done)<|.ite (.ae "labels"<|.az (.int 0)<|.b .idx<|.aY "own"<|.ae "maker"<|.u (.attr "slots")<|.ae "variables"<|.az (.int 0)<|.b .idx<|.b .idx<|.az (sv "close")<|.ae "maker"<|.u (.attr "layout")<|.u (.attr "numbers")<|.ae "own"<|.b .idx<|.ae "maker"<|.bM "UnitMaker"<|.ae "own"<|.call "UnitMaker.captured_args" 2<|.new "COp" "COp.__init__" 4<|.mk .list 1<|.ret) .done<|.az (.int (-1))<|.az (sv "closefix")<|.ae "maker"<|.ae "variables"<|.ae "labels"<|.call "fix_rows" 3<|.mk .list 0<|.new "COp" "COp.__init__" 4<|.mk .list 1<|.ret⟩
noncomputable def u_:Fn:=⟨["maker","target"],
 .ae "maker"<|.u (.attr "layout")<|.bM "Layout"<|.ae "target"<|.call "Layout.is_root" 2<|.u .not<|.ite (.ae "maker"<|.u (.attr "places")<|.ae "target"<|.b .idx<|.ret) .done<|.ae "maker"<|.u (.attr "places")<|.u .len<|.ae "maker"<|.u (.attr "extra")<|.u .len<|.b (.bin .add)<|.mk .list 0<|.new "CBlock" "CBlock.__init__" 2<|.aY "found"<|.az (sv "give")<|.az .none<|.mk .list 0<|.ae "maker"<|.bM "UnitMaker"<|.ae "target"<|.call "closure_var" 1<|.call "UnitMaker.arg" 2<|.mk .list 0<|.new "CLast" "CLast.__init__" 5<|.ae "found"<|.setA "last"<|.ae "maker"<|.u (.attr "extra")<|.bM "list"<|.ae "found"<|.prim .append 1<|.pop<|.ae "found"<|.u (.attr "number")<|.ret⟩
noncomputable def ve:Fn:=⟨["maker","last"],
 .ae "last"<|.u (.attr "word")<|.glob "BRANCH"<|.b (.cmp .eq)<|.ite (.ae "maker"<|.ae "last"<|.u (.attr "to")<|.call "way_block" 2<|.ae "maker"<|.ae "last"<|.u (.attr "other")<|.call "way_block" 2<|.mk .list 2<|.aY "ways"<|.az (sv "if")<|.ae "maker"<|.bM "UnitMaker"<|.ae "last"<|.u (.attr "fun")<|.call "UnitMaker.arg" 2<|.mk .list 0<|.az .none<|.ae "ways"<|.new "CLast" "CLast.__init__" 5<|.ret) .done<|.ae "last"<|.u (.attr "word")<|.glob "JUMP"<|.b (.cmp .eq)<|.ite (.ae "maker"<|.u (.attr "layout")<|.bM "Layout"<|.ae "last"<|.u (.attr "to")<|.call "Layout.is_root" 2<|.ite (.az (sv "give")<|.az .none<|.ae "maker"<|.bM "UnitMaker"<|.ae "last"<|.u (.attr "args")<|.call "UnitMaker.args" 2<|.ae "maker"<|.bM "UnitMaker"<|.ae "last"<|.u (.attr "to")<|.call "closure_var" 1<|.call "UnitMaker.arg" 2<|.mk .list 0<|.new "CLast" "CLast.__init__" 5<|.ret) .done<|.az (sv "goto")<|.az .none<|.ae "maker"<|.bM "UnitMaker"<|.ae "last"<|.u (.attr "args")<|.call "UnitMaker.args" 2<|.az .none<|.ae "maker"<|.u (.attr "places")<|.ae "last"<|.u (.attr "to")<|.b .idx<|.mk .list 1<|.new "CLast" "CLast.__init__" 5<|.ret) .done<|.ae "last"<|.u (.attr "word")<|.glob "GIVE"<|.b (.cmp .eq)<|.ite (.az (sv "give")<|.az .none<|.ae "maker"<|.bM "UnitMaker"<|.ae "last"<|.u (.attr "args")<|.call "UnitMaker.args" 2<|.ae "maker"<|.bM "UnitMaker"<|.ae "last"<|.u (.attr "var")<|.call "UnitMaker.arg" 2<|.mk .list 0<|.new "CLast" "CLast.__init__" 5<|.ret) .done<|.ae "last"<|.u (.attr "to")<|.az (.int 0)<|.b (.cmp .ge)<|.ite (.ae "last"<|.u (.attr "to")<|.call "closure_var" 1<|.done) (.ae "last"<|.u (.attr "var")<|.done)<|.aY "var"<|.az (sv "call")<|.ae "maker"<|.bM "UnitMaker"<|.ae "last"<|.u (.attr "fun")<|.call "UnitMaker.arg" 2<|.ae "maker"<|.bM "UnitMaker"<|.ae "last"<|.u (.attr "args")<|.call "UnitMaker.args" 2<|.ae "maker"<|.bM "UnitMaker"<|.ae "var"<|.call "UnitMaker.arg" 2<|.mk .list 0<|.new "CLast" "CLast.__init__" 5<|.ret⟩
noncomputable def sL:Fn:=⟨["maker","label","number"],
 .ae "maker"<|.u (.attr "layout")<|.u (.attr "program")<|.bM "KProgram"<|.ae "label"<|.call "KProgram.block" 2<|.aY "block"<|.ae "label"<|.ae "maker"<|.u (.attr "root")<|.b (.cmp .ne)<|.ite (.ae "block"<|.u (.attr "params")<|.comp ["var"] .seq (.az (.bool true) .done) (.ae "maker"<|.u (.attr "slots")<|.ae "var"<|.b .idx<|.done)<|.done) (.mk .list 0<|.done)<|.aY "params"<|.ae "number"<|.ae "params"<|.new "CBlock" "CBlock.__init__" 2<|.aY "found"<|.ae "block"<|.u (.attr "ops")<|.for ["op"] .seq (.ae "maker"<|.ae "op"<|.call "made_op" 2<|.aY "own"<|.ae "own"<|.az .none<|.b (.cmp .isNotNone)<|.ite (.ae "found"<|.u (.attr "ops")<|.bM "list"<|.ae "own"<|.prim .append 1<|.pop<|.done) .done<|.done)<|.ae "found"<|.u (.attr "ops")<|.bM "list"<|.ae "maker"<|.ae "label"<|.call "made_conts" 2<|.prim .extend 1<|.pop<|.ae "maker"<|.ae "block"<|.u (.attr "last")<|.call "made_last" 2<|.ae "found"<|.setA "last"<|.ae "found"<|.ret⟩
noncomputable def vd:Fn:=⟨["layout","root"],
 .ae "layout"<|.u (.attr "program")<|.bM "KProgram"<|.ae "root"<|.call "KProgram.block" 2<|.aY "block"<|.ae "layout"<|.u (.attr "numbers")<|.ae "root"<|.b .idx<|.ae "block"<|.u (.attr "sort")<|.glob "FUN"<|.b (.cmp .eq)<|.ite (.glob "PROC"<|.done) (.glob "CONT"<|.done)<|.new "CUnit" "CUnit.__init__" 2<|.aY "unit"<|.ae "block"<|.u (.attr "title")<|.ae "unit"<|.setA "name"<|.ae "layout"<|.ae "root"<|.ae "unit"<|.new "UnitMaker" "UnitMaker.__init__" 3<|.aY "maker"<|.ae "maker"<|.u (.attr "captured")<|.u .len<|.ae "unit"<|.setA "captured"<|.ae "maker"<|.call "begin_unit" 1<|.pop<|.ae "maker"<|.call "give_slots" 1<|.aY "members"<|.ae "members"<|.u .len<|.for ["at"] .range (.ae "unit"<|.u (.attr "blocks")<|.bM "list"<|.ae "maker"<|.ae "members"<|.ae "at"<|.b .idx<|.ae "at"<|.call "made_block" 3<|.prim .append 1<|.pop<|.done)<|.ae "unit"<|.u (.attr "blocks")<|.bM "list"<|.ae "maker"<|.u (.attr "extra")<|.prim .extend 1<|.pop<|.ae "unit"<|.ret⟩
noncomputable def wP:Fn:=⟨["program"],
 .ae "program"<|.new "Layout" "Layout.__init__" 1<|.aY "layout"<|.ae "layout"<|.call "find_roots" 1<|.pop<|.ae "layout"<|.call "find_atoms" 1<|.pop<|.ae "layout"<|.call "find_free" 1<|.pop<|.ae "program"<|.u (.attr "entry")<|.mk .list 1<|.ae "layout"<|.u (.attr "roots")<|.u .sorted<|.comp ["label"] .seq (.ae "label"<|.ae "program"<|.u (.attr "entry")<|.b (.cmp .ne)<|.done) (.ae "label"<|.done)<|.b (.bin .add)<|.aY "roots"<|.ae "roots"<|.u .len<|.for ["at"] .range (.ae "at"<|.ae "layout"<|.u (.attr "numbers")<|.ae "roots"<|.ae "at"<|.b .idx<|.dq<|.done)<|.ae "layout"<|.ret⟩
noncomputable def Cy:Fn:=⟨["program"],
 .ae "program"<|.call "laid_out" 1<|.aY "layout"<|.new "CProgram" "CProgram.__init__" 0<|.aY "found"<|.ae "layout"<|.u (.attr "numbers")<|.ae "layout"<|.u (.attr "numbers")<|.b .sortedBy<|.for ["root"] .seq (.ae "found"<|.u (.attr "units")<|.bM "list"<|.ae "layout"<|.ae "root"<|.call "made_unit" 2<|.prim .append 1<|.pop<|.done)<|.ae "found"<|.ret⟩
noncomputable def wO:Fn:=⟨["script"],
 .ae "script"<|.u (.yx 24)<|.comp ["cell"] .seq (.az (.bool true) .done) (.ae "cell"<|.u .abs<|.az (.int (10 ^ 60))<|.b (.bin .mod)<|.done)<|.az (.int 7)<|.iw ["cells","mixed"]<|.ae "cells"<|.for ["cell"] .seq (.ae "mixed"<|.az (.int 31)<|.b (.bin .mul)<|.ae "cell"<|.b (.bin .add)<|.az (.int 3)<|.b (.bin .add)<|.az (.int 2147483647)<|.b (.bin .mod)<|.aY "mixed"<|.done)<|.ae "cells"<|.comp ["cell"] .seq (.ae "cell"<|.az (.int (10 ^ 9))<|.b (.cmp .ge)<|.done) (.ae "cell"<|.done)<|.ae "mixed"<|.mk .list 2<|.ret⟩
noncomputable def wN:Fn:=⟨["deck","many"],
 .loop (.ae "deck"<|.az (.int 0)<|.b .idx<|.u (.nilq true)<|.ite (.ae "deck"<|.az (.int 0)<|.b .idx<|.az (.int 0)<|.b .idx<|.az (.int 0)<|.b (.cmp .eq)<|.done) (.az (.bool false) .done)<|.done) (.ae "deck"<|.az (.int 0)<|.b .idx<|.bM "list"<|.az (.int 0)<|.prim .yA 1<|.pop<|.done)<|.ae "deck"<|.az (.int 0)<|.b .idx<|.u (.nilq true)<|.ite (.ae "deck"<|.az (.int 0)<|.b .idx<|.az (.int 0)<|.b .idx<|.ae "many"<|.b (.bin .mod)<|.aY "digit"<|.ae "deck"<|.az (.int 0)<|.b .idx<|.az (.int 0)<|.b .idx<|.ae "many"<|.b (.bin .fdiv)<|.ae "deck"<|.az (.int 0)<|.b .idx<|.az (.int 0)<|.dq<|.ae "digit"<|.ret) .done<|.ae "deck"<|.az (.int 1)<|.b .idx<|.az (.int 48271)<|.b (.bin .mul)<|.az (.int 11)<|.b (.bin .add)<|.az (.int 2147483647)<|.b (.bin .mod)<|.ae "deck"<|.az (.int 1)<|.dq<|.ae "deck"<|.az (.int 1)<|.b .idx<|.az (.int 64)<|.b (.bin .fdiv)<|.ae "many"<|.b (.bin .mod)<|.ret⟩
noncomputable def zA:Fn:=⟨["deck","items"],
 .ae "items"<|.ae "deck"<|.ae "items"<|.u .len<|.call "_law_draw" 2<|.b .idx<|.ret⟩
noncomputable def zB:Fn:=⟨["grown"],
 .ae "grown"<|.az (.int 1)<|.b .idx<|.az (.int 1)<|.b (.bin .add)<|.ae "grown"<|.az (.int 1)<|.dq<|.ae "grown"<|.az (.int 1)<|.b .idx<|.ret⟩
noncomputable def vj:Fn:=⟨["grown","sort","many","home","parent"],
 .ae "grown"<|.call "_law_new" 1<|.aY "label"<|.ae "label"<|.ae "sort"<|.ae "many"<|.comp ["turn"] .range (.az (.bool true) .done) (.ae "grown"<|.call "_law_new" 1<|.done)<|.az (.int (-1))<|.new "KBlock" "KBlock.__init__" 4<|.aY "own"<|.ae "parent"<|.ae "own"<|.setA "parent"<|.ae "sort"<|.az (sv "fun")<|.b (.cmp .eq)<|.ite (.ae "label"<|.done) (.ae "home"<|.done)<|.ae "own"<|.setA "home"<|.ae "sort"<|.az (sv "fun")<|.b (.cmp .eq)<|.ite (.ae "grown"<|.call "_law_new" 1<|.ae "own"<|.setA "var"<|.done) .done<|.ae "grown"<|.az (.int 0)<|.b .idx<|.bM "KProgram"<|.ae "own"<|.call "KProgram.put" 2<|.pop<|.ae "own"<|.ret⟩
noncomputable def vi:Fn:=⟨["grown","own","datum"],
 .ae "grown"<|.call "_law_new" 1<|.az (sv "const")<|.az (.int (-1))<|.mk .list 0<|.new "KOp" "KOp.__init__" 4<|.aY "op"<|.ae "datum"<|.ae "op"<|.setA "datum"<|.ae "own"<|.u (.attr "ops")<|.bM "list"<|.ae "op"<|.prim .append 1<|.pop<|.ae "op"<|.u (.attr "result")<|.mk .list 1<|.ret⟩
noncomputable def my:Fn:=⟨["deck","grown","own","seen","todo","deep"],
 .ae "deck"<|.az (.int 2)<|.call "_law_draw" 2<|.az (.int 0)<|.b (.cmp .eq)<|.ite (.ae "grown"<|.az (sv "fun")<|.ae "deck"<|.az (.int 2)<|.call "_law_draw" 2<|.az (.int (-1))<|.ae "own"<|.u (.attr "label")<|.call "_law_block" 5<|.ae "grown"<|.call "_law_new" 1<|.iw ["child","result"]<|.ae "own"<|.u (.attr "ops")<|.bM "list"<|.ae "result"<|.ae "child"<|.u (.attr "label")<|.call "fun_op" 2<|.prim .append 1<|.pop<|.ae "todo"<|.bM "list"<|.ae "child"<|.ae "seen"<|.ae "child"<|.u (.attr "params")<|.b (.bin .add)<|.mk .list 0<|.ae "deep"<|.az (.int 1)<|.b (.bin .add)<|.mk .list 4<|.prim .append 1<|.pop<|.ae "result"<|.mk .list 1<|.ret) .done<|.az (.int 2)<|.comp ["turn"] .range (.az (.bool true) .done) (.ae "grown"<|.az (sv "fun")<|.az (.int 1)<|.az (.int (-1))<|.ae "own"<|.u (.attr "label")<|.call "_law_block" 5<|.done)<|.aY "pair"<|.ae "grown"<|.call "_law_new" 1<|.ae "grown"<|.call "_law_new" 1<|.mk .list 2<|.aY "results"<|.ae "own"<|.u (.attr "ops")<|.bM "list"<|.ae "results"<|.ae "pair"<|.comp ["child"] .seq (.az (.bool true) .done) (.ae "child"<|.u (.attr "label")<|.done)<|.call "fix_op" 2<|.prim .append 1<|.pop<|.ae "pair"<|.for ["child"] .seq (.ae "todo"<|.bM "list"<|.ae "child"<|.ae "seen"<|.ae "results"<|.b (.bin .add)<|.ae "child"<|.u (.attr "params")<|.b (.bin .add)<|.mk .list 0<|.ae "deep"<|.az (.int 1)<|.b (.bin .add)<|.mk .list 4<|.prim .append 1<|.pop<|.done)<|.ae "results"<|.ret⟩
noncomputable def Cv:Fn:=⟨["deck","grown","own","seen","todo","deep"],
 .ae "deck"<|.az (.int 8)<|.call "_law_draw" 2<|.aY "way"<|.ae "way"<|.az (.int 3)<|.b (.cmp .lt)<|.ite (.ae "grown"<|.ae "own"<|.az (.bool true)<|.az (.int 5)<|.glob "EMPTY"<|.mk .list 3<|.ae "way"<|.b .idx<|.call "_law_const" 3<|.ret) .done<|.ae "way"<|.az (.int 3)<|.b (.cmp .eq)<|.ite (.ae "grown"<|.ae "own"<|.az (.int 1)<|.glob "EMPTY"<|.new "Pair" "Pair.__init__" 2<|.call "_law_const" 3<|.ret) .done<|.ae "way"<|.az (.int 5)<|.b (.cmp .gt)<|.ite (.ae "grown"<|.az (.int 1)<|.b .idx<|.az (.int 60)<|.b (.cmp .lt)<|.done) (.az (.bool false) .done)<|.ite (.ae "deck"<|.ae "grown"<|.ae "own"<|.ae "seen"<|.ae "todo"<|.ae "deep"<|.call "_law_procedures" 6<|.ret) .done<|.ae "way"<|.az (.int 4)<|.b (.cmp .eq)<|.ite (.ae "own"<|.u (.attr "ops")<|.bM "list"<|.az (.int (-1))<|.az (sv "setglobal")<|.az (.int 3)<|.ae "deck"<|.ae "seen"<|.call "_law_one" 2<|.mk .list 1<|.new "KOp" "KOp.__init__" 4<|.prim .append 1<|.pop<|.mk .list 0<|.ret) .done<|.ae "grown"<|.call "_law_new" 1<|.az (sv "prim")<|.az (.int 9)<|.ae "deck"<|.ae "seen"<|.call "_law_one" 2<|.ae "deck"<|.ae "seen"<|.call "_law_one" 2<|.mk .list 2<|.new "KOp" "KOp.__init__" 4<|.aY "op"<|.ae "own"<|.u (.attr "ops")<|.bM "list"<|.ae "op"<|.prim .append 1<|.pop<|.ae "op"<|.u (.attr "result")<|.mk .list 1<|.ret⟩
noncomputable def sP:Fn:=⟨["deck","grown","own","seen","joins","todo","deep","is_joined"],
 .ae "joins"<|.u .cO<|.aY "known"<|.ae "is_joined"<|.ite (.ae "grown"<|.az (sv "cont")<|.az (.int 1)<|.ae "own"<|.u (.attr "home")<|.ae "own"<|.u (.attr "label")<|.call "_law_block" 5<|.aY "join"<|.ae "todo"<|.bM "list"<|.ae "join"<|.ae "seen"<|.ae "join"<|.u (.attr "params")<|.b (.bin .add)<|.ae "deck"<|.az (.int 3)<|.call "_law_draw" 2<|.az (.int 2)<|.b (.cmp .eq)<|.ite (.ae "joins"<|.ae "join"<|.mk .list 1<|.b (.bin .add)<|.done) (.ae "joins"<|.done)<|.ae "deep"<|.az (.int 1)<|.b (.bin .add)<|.mk .list 4<|.prim .append 1<|.pop<|.ae "known"<|.bM "list"<|.ae "join"<|.prim .append 1<|.pop<|.done) .done<|.az (.int 2)<|.comp ["turn"] .range (.az (.bool true) .done) (.ae "grown"<|.az (sv "cont")<|.az (.int 0)<|.ae "own"<|.u (.attr "home")<|.ae "own"<|.u (.attr "label")<|.call "_law_block" 5<|.done)<|.aY "ways"<|.ae "ways"<|.for ["child"] .seq (.ae "todo"<|.bM "list"<|.ae "child"<|.ae "seen"<|.ae "known"<|.ae "deep"<|.az (.int 1)<|.b (.bin .add)<|.mk .list 4<|.prim .append 1<|.pop<|.done)<|.ae "deck"<|.ae "seen"<|.call "_law_one" 2<|.ae "ways"<|.az (.int 0)<|.b .idx<|.u (.attr "label")<|.ae "ways"<|.az (.int 1)<|.b .idx<|.u (.attr "label")<|.call "branch_last" 3<|.ae "own"<|.setA "last"<|.done⟩
noncomputable def zC:Fn:=⟨["deck","grown","own","seen","joins","todo","deep"],
 .ae "deck"<|.ae "grown"<|.az (.int 1)<|.b .idx<|.az (.int 60)<|.b (.cmp .lt)<|.ite (.ae "deep"<|.az (.int 6)<|.b (.cmp .lt)<|.done) (.az (.bool false) .done)<|.ite (.az (.int 6)<|.done) (.az (.int 3)<|.done)<|.call "_law_draw" 2<|.aY "way"<|.ae "grown"<|.az (.int 0)<|.b .idx<|.bM "KProgram"<|.ae "own"<|.u (.attr "home")<|.call "KProgram.block" 2<|.u (.attr "var")<|.aY "k"<|.ae "way"<|.az (.int 1)<|.b (.cmp .eq)<|.ite (.ae "deck"<|.ae "seen"<|.call "_law_one" 2<|.ae "deck"<|.ae "seen"<|.call "_law_one" 2<|.mk .list 1<|.az (.int (-1))<|.ae "k"<|.call "call_last" 4<|.ae "own"<|.setA "last"<|.done) (.ae "way"<|.az (.int 2)<|.b (.cmp .eq)<|.ite (.ae "joins"<|.u (.nilq true)<|.done) (.az (.bool false) .done)<|.ite (.ae "joins"<|.az (.int (-1))<|.ae "deck"<|.ae "joins"<|.u .len<|.call "_law_draw" 2<|.b (.bin .sub)<|.b .idx<|.u (.attr "label")<|.ae "deck"<|.ae "seen"<|.call "_law_one" 2<|.mk .list 1<|.call "jump_last" 2<|.ae "own"<|.setA "last"<|.done) (.ae "way"<|.az (.int 3)<|.b (.cmp .eq)<|.ite (.ae "grown"<|.az (sv "cont")<|.az (.int 1)<|.ae "own"<|.u (.attr "home")<|.ae "own"<|.u (.attr "label")<|.call "_law_block" 5<|.aY "child"<|.ae "todo"<|.bM "list"<|.ae "child"<|.ae "seen"<|.ae "child"<|.u (.attr "params")<|.b (.bin .add)<|.ae "joins"<|.ae "deep"<|.az (.int 1)<|.b (.bin .add)<|.mk .list 4<|.prim .append 1<|.pop<|.ae "deck"<|.ae "seen"<|.call "_law_one" 2<|.ae "deck"<|.ae "seen"<|.call "_law_one" 2<|.mk .list 1<|.ae "child"<|.u (.attr "label")<|.az (.int (-1))<|.call "call_last" 4<|.ae "own"<|.setA "last"<|.done) (.ae "way"<|.az (.int 3)<|.b (.cmp .gt)<|.ite (.ae "deck"<|.ae "grown"<|.ae "own"<|.ae "seen"<|.ae "joins"<|.ae "todo"<|.ae "deep"<|.ae "way"<|.az (.int 5)<|.b (.cmp .eq)<|.call "_law_choice" 8<|.pop<|.done) (.ae "k"<|.ae "deck"<|.ae "seen"<|.call "_law_one" 2<|.mk .list 1<|.call "give_last" 2<|.ae "own"<|.setA "last"<|.done)<|.done)<|.done)<|.done)<|.done⟩
noncomputable def qt:Fn:=⟨["deck"],
 .az (.int 1)<|.new "KProgram" "KProgram.__init__" 1<|.az (.int 0)<|.mk .list 2<|.aY "grown"<|.ae "grown"<|.az (sv "fun")<|.az (.int 0)<|.az (.int (-1))<|.az (.int (-1))<|.call "_law_block" 5<|.mk .list 0<|.iw ["entry","todo"]<|.ae "todo"<|.bM "list"<|.ae "entry"<|.ae "grown"<|.ae "entry"<|.az (.int 5)<|.call "_law_const" 3<|.mk .list 0<|.az (.int 0)<|.mk .list 4<|.prim .append 1<|.pop<|.az (.int 120)<|.for ["turn"] .range (.ae "todo"<|.u (.nilq false)<|.ite (.brk) .done<|.ae "todo"<|.bM "list"<|.prim .pop 0<|.zV ["own","seen","joins","deep"]<|.ae "deck"<|.az (.int 3)<|.call "_law_draw" 2<|.for ["step"] .range (.ae "seen"<|.ae "deck"<|.ae "grown"<|.ae "own"<|.ae "seen"<|.ae "todo"<|.ae "deep"<|.call "_law_op" 6<|.b (.bin .add)<|.aY "seen"<|.done)<|.ae "deck"<|.ae "grown"<|.ae "own"<|.ae "seen"<|.ae "joins"<|.ae "todo"<|.ae "deep"<|.call "_law_end" 7<|.pop<|.done)<|.ae "grown"<|.az (.int 0)<|.b .idx<|.ret⟩
noncomputable def vg:Fn:=⟨["own"],
 .ae "own"<|.u (.attr "last")<|.u (.attr "to")<|.ae "own"<|.u (.attr "last")<|.u (.attr "other")<|.mk .tup 2<|.comp ["label"] .seq (.ae "label"<|.az (.int 0)<|.b (.cmp .ge)<|.done) (.ae "label"<|.done)<|.ret⟩
noncomputable def wM:Fn:=⟨["program","units","label"],
 .ae "label"<|.aY "here"<|.ae "program"<|.u (.attr "table")<|.u .len<|.for ["turn"] .range (.ae "here"<|.ae "units"<|.b (.cmp .isin)<|.ite (.ae "here"<|.ret) .done<|.ae "program"<|.bM "KProgram"<|.ae "here"<|.call "KProgram.block" 2<|.u (.attr "parent")<|.aY "here"<|.done)<|.ae "here"<|.ret⟩
noncomputable def vf:Fn:=⟨["program"],
 .ae "program"<|.bM "KProgram"<|.call "KProgram.labels" 1<|.comp ["label"] .seq (.az (.bool true) .done) (.ae "program"<|.bM "KProgram"<|.ae "label"<|.call "KProgram.block" 2<|.done)<|.aY "rows"<|.ae "rows"<|.comp ["own"] .seq (.ae "own"<|.u (.attr "sort")<|.az (sv "fun")<|.b (.cmp .eq)<|.done) (.ae "own"<|.u (.attr "label")<|.done)<|.aY "units"<|.ae "units"<|.ae "rows"<|.comp ["own"] .seq (.ae "own"<|.u (.attr "last")<|.u (.attr "word")<|.az (sv "call")<|.b (.cmp .eq)<|.ite (.ae "own"<|.u (.attr "last")<|.u (.attr "to")<|.az (.int 0)<|.b (.cmp .ge)<|.done) (.az (.bool false) .done)<|.done) (.ae "own"<|.u (.attr "last")<|.u (.attr "to")<|.done)<|.b (.bin .add)<|.aY "units"<|.ae "rows"<|.u .len<|.for ["turn"] .range (.mk .list 0<|.aY "more"<|.ae "rows"<|.for ["own"] .seq (.ae "own"<|.call "_law_leads" 1<|.for ["label"] .seq (.ae "label"<|.ae "units"<|.b (.cmp .dz)<|.ite (.ae "program"<|.ae "units"<|.ae "label"<|.call "_law_unit" 3<|.ae "program"<|.ae "units"<|.ae "own"<|.u (.attr "label")<|.call "_law_unit" 3<|.b (.cmp .ne)<|.done) (.az (.bool false) .done)<|.ite (.ae "more"<|.bM "list"<|.ae "label"<|.prim .append 1<|.pop<|.done) .done<|.done)<|.done)<|.ae "more"<|.u (.nilq false)<|.ite (.ae "units"<|.u .sorted<|.ret) .done<|.ae "units"<|.bM "list"<|.ae "more"<|.ae "turn"<|.ae "more"<|.u .len<|.b (.bin .mod)<|.b .idx<|.prim .append 1<|.pop<|.done)<|.ae "units"<|.u .sorted<|.ret⟩
noncomputable def vh:Fn:=⟨["program","units"],
 .ae "program"<|.bM "KProgram"<|.call "KProgram.labels" 1<|.comp ["label"] .seq (.az (.bool true) .done) (.ae "program"<|.bM "KProgram"<|.ae "label"<|.call "KProgram.block" 2<|.done)<|.mk .dict 0<|.iw ["rows","found"]<|.ae "units"<|.for ["root"] .seq (.mk .list 0<|.mk .list 0<|.mk .list 0<|.iw ["reads","gives","makes"]<|.ae "rows"<|.comp ["one"] .seq (.ae "program"<|.ae "units"<|.ae "one"<|.u (.attr "label")<|.call "_law_unit" 3<|.ae "root"<|.b (.cmp .eq)<|.done) (.ae "one"<|.done)<|.for ["own"] .seq (.ae "rows"<|.comp ["one"] .seq (.ae "one"<|.u (.attr "label")<|.ae "units"<|.b (.cmp .isin)<|.ite (.ae "one"<|.u (.attr "sort")<|.az (sv "cont")<|.b (.cmp .eq)<|.ite (.ae "one"<|.u (.attr "parent")<|.ae "own"<|.u (.attr "label")<|.b (.cmp .eq)<|.done) (.az (.bool false) .done) .done) (.az (.bool false) .done)<|.done) (.ae "one"<|.u (.attr "label")<|.done)<|.aY "conts"<|.ae "gives"<|.ae "own"<|.u (.attr "params")<|.b (.bin .add)<|.ae "own"<|.u (.attr "var")<|.mk .list 1<|.b (.bin .add)<|.ae "conts"<|.comp ["label"] .seq (.az (.bool true) .done) (.ae "label"<|.call "closure_var" 1<|.done)<|.b (.bin .add)<|.aY "gives"<|.ae "makes"<|.ae "conts"<|.b (.bin .add)<|.aY "makes"<|.ae "own"<|.u (.attr "ops")<|.for ["op"] .seq (.ae "reads"<|.ae "op"<|.u (.attr "args")<|.b (.bin .add)<|.ae "makes"<|.ae "op"<|.u (.attr "labels")<|.b (.bin .add)<|.ae "gives"<|.ae "op"<|.u (.attr "result")<|.mk .list 1<|.b (.bin .add)<|.ae "op"<|.u (.attr "results")<|.b (.bin .add)<|.iw ["reads","makes","gives"]<|.done)<|.ae "reads"<|.ae "own"<|.u (.attr "last")<|.u (.attr "args")<|.b (.bin .add)<|.ae "own"<|.u (.attr "last")<|.u (.attr "fun")<|.ae "own"<|.u (.attr "last")<|.u (.attr "var")<|.mk .list 2<|.b (.bin .add)<|.aY "reads"<|.ae "reads"<|.ae "own"<|.call "_law_leads" 1<|.comp ["label"] .seq (.ae "label"<|.ae "units"<|.b (.cmp .isin)<|.done) (.ae "label"<|.call "closure_var" 1<|.done)<|.b (.bin .add)<|.aY "reads"<|.done)<|.ae "reads"<|.comp ["var"] .seq (.ae "var"<|.az (.int (-1))<|.b (.cmp .ne)<|.done) (.ae "var"<|.done)<|.ae "gives"<|.ae "makes"<|.mk .list 3<|.ae "found"<|.ae "root"<|.dq<|.done)<|.ae "found"<|.ret⟩
noncomputable def nJ:Fn:=⟨["facts","root","var"],
 .ae "root"<|.mk .list 1<|.aY "met"<|.ae "facts"<|.u .len<|.for ["turn"] .range (.ae "turn"<|.ae "met"<|.u .len<|.b (.cmp .lt)<|.ite (.ae "facts"<|.ae "met"<|.ae "turn"<|.b .idx<|.b .idx<|.zV ["reads","gives","makes"]<|.ae "var"<|.ae "gives"<|.b (.cmp .dz)<|.ite (.ae "var"<|.ae "reads"<|.b (.cmp .isin)<|.ite (.az (.bool true)<|.ret) .done<|.ae "met"<|.ae "makes"<|.comp ["label"] .seq (.ae "label"<|.ae "met"<|.b (.cmp .dz)<|.done) (.ae "label"<|.done)<|.b (.bin .add)<|.aY "met"<|.done) .done<|.done) .done<|.done)<|.az (.bool false)<|.ret⟩
noncomputable def sN:Fn:=⟨["program"],
 .mk .list 0<|.aY "found"<|.ae "program"<|.bM "KProgram"<|.call "KProgram.labels" 1<|.for ["label"] .seq (.ae "program"<|.bM "KProgram"<|.ae "label"<|.call "KProgram.block" 2<|.u (.attr "ops")<|.for ["op"] .seq (.ae "op"<|.u (.attr "word")<|.az (sv "const")<|.b (.cmp .eq)<|.ite (.ae "op"<|.u (.attr "datum")<|.u (.cL "Pair")<|.u .not<|.done) (.az (.bool false) .done)<|.ite (.ae "found"<|.bM "list"<|.ae "op"<|.u (.attr "result")<|.prim .append 1<|.pop<|.done) .done<|.done)<|.done)<|.ae "found"<|.u .sorted<|.ret⟩
noncomputable def sM:Fn:=⟨["program","facts","root"],
 .ae "program"<|.call "_law_simple" 1<|.mk .list 0<|.iw ["simple","wanted"]<|.ae "facts"<|.for ["own"] .seq (.ae "facts"<|.ae "own"<|.b .idx<|.az (.int 0)<|.b .idx<|.for ["var"] .seq (.ae "var"<|.ae "simple"<|.b (.cmp .dz)<|.ite (.ae "var"<|.ae "wanted"<|.b (.cmp .dz)<|.ite (.ae "facts"<|.ae "root"<|.ae "var"<|.call "_law_is_needed" 3<|.done) (.az (.bool false) .done) .done) (.az (.bool false) .done)<|.ite (.ae "wanted"<|.bM "list"<|.ae "var"<|.prim .append 1<|.pop<|.done) .done<|.done)<|.done)<|.ae "wanted"<|.u .sorted<|.ret⟩
noncomputable def sO:Fn:=⟨["unit"],
 .mk .list 0<|.mk .list 0<|.iw ["reads","making"]<|.ae "unit"<|.u (.attr "blocks")<|.for ["own"] .seq (.ae "own"<|.u (.attr "ops")<|.for ["op"] .seq (.ae "op"<|.u (.attr "op")<|.az (sv "closefix")<|.b (.cmp .eq)<|.ite (.ae "op"<|.u (.attr "data")<|.done) (.ae "op"<|.u (.attr "slot")<|.ae "op"<|.u (.attr "data")<|.ae "op"<|.u (.attr "args")<|.mk .tup 3<|.mk .list 1<|.done)<|.aY "lines"<|.ae "lines"<|.for ["slot","number","args"] .seq (.ae "reads"<|.ae "args"<|.b (.bin .add)<|.aY "reads"<|.ae "op"<|.u (.attr "op")<|.az (sv "close")<|.az (sv "closefix")<|.mk .tup 2<|.b (.cmp .isin)<|.ite (.ae "making"<|.bM "list"<|.ae "number"<|.ae "args"<|.u .len<|.mk .list 2<|.prim .append 1<|.pop<|.done) .done<|.done)<|.done)<|.ae "reads"<|.ae "own"<|.u (.attr "last")<|.u (.attr "args")<|.b (.bin .add)<|.ae "own"<|.u (.attr "last")<|.u (.attr "head")<|.ae "own"<|.u (.attr "last")<|.u (.attr "k")<|.mk .tup 2<|.comp ["arg"] .seq (.ae "arg"<|.az .none<|.b (.cmp .isNotNone)<|.done) (.ae "arg"<|.done)<|.b (.bin .add)<|.aY "reads"<|.done)<|.ae "reads"<|.ae "making"<|.mk .tup 2<|.ret⟩
noncomputable def io:Fn:=⟨["program","order","wanted"],
 .ae "program"<|.call "closed" 1<|.aY "answer"<|.ae "answer"<|.u (.attr "start")<|.az (.int 0)<|.b (.cmp .ne)<|.ite (.az (.bool true) .done) (.ae "answer"<|.u (.attr "units")<|.comp ["unit"] .seq (.az (.bool true) .done) (.ae "unit"<|.u (.attr "captured")<|.done)<|.ae "order"<|.comp ["root"] .seq (.az (.bool true) .done) (.ae "wanted"<|.ae "root"<|.b .idx<|.u .len<|.done)<|.b (.cmp .ne)<|.done)<|.ite (.az (.bool false)<|.ret) .done<|.ae "answer"<|.u (.attr "units")<|.az (.int 0)<|.b .idx<|.u (.attr "captured")<|.az (.int 0)<|.b (.cmp .ne)<|.ite (.az (.bool false)<|.ret) .done<|.ae "answer"<|.u (.attr "units")<|.for ["unit"] .seq (.ae "unit"<|.call "_law_handed" 1<|.zV ["reads","making"]<|.ae "reads"<|.comp ["arg"] .seq (.ae "arg"<|.az (.int 0)<|.b .idx<|.az (sv "free")<|.b (.cmp .eq)<|.done) (.ae "arg"<|.az (.int 1)<|.b .idx<|.done)<|.aY "spots"<|.ae "unit"<|.u (.attr "captured")<|.comp ["at"] .range (.ae "at"<|.ae "spots"<|.b (.cmp .dz)<|.done) (.ae "at"<|.done)<|.u (.nilq true)<|.ite (.az (.bool false)<|.ret) .done<|.ae "spots"<|.comp ["at"] .seq (.ae "at"<|.ae "unit"<|.u (.attr "captured")<|.b (.cmp .ge)<|.done) (.ae "at"<|.done)<|.u (.nilq true)<|.ite (.az (.bool false)<|.ret) .done<|.ae "making"<|.comp ["number","many"] .seq (.ae "answer"<|.u (.attr "units")<|.ae "number"<|.b .idx<|.u (.attr "captured")<|.ae "many"<|.b (.cmp .ne)<|.done) (.az (.int 1)<|.done)<|.u (.nilq true)<|.ite (.az (.bool false)<|.ret) .done<|.done)<|.az (.bool true)<|.ret⟩
noncomputable def LS:Fn:=⟨["script"],
 .ae "script"<|.call "_law_deck" 1<|.aY "deck"<|.az (.int 2)<|.for ["turn"] .range (.ae "deck"<|.call "_law_program" 1<|.aY "program"<|.ae "program"<|.call "_law_units" 1<|.aY "units"<|.ae "program"<|.ae "units"<|.call "_law_facts" 2<|.ae "program"<|.call "laid_out" 1<|.iw ["facts","plan"]<|.ae "units"<|.comp ["root"] .seq (.az (.bool true) .done) (.ae "root"<|.ae "program"<|.ae "facts"<|.ae "root"<|.call "_law_wanted" 3<|.mk .tup 2<|.done)<|.u .dictOf<|.aY "wanted"<|.ae "plan"<|.u (.attr "roots")<|.u .sorted<|.ae "units"<|.b (.cmp .ne)<|.ite (.az (.bool true) .done) (.ae "plan"<|.u (.attr "atoms")<|.u .sorted<|.ae "program"<|.call "_law_simple" 1<|.b (.cmp .ne)<|.done)<|.ite (.az (.bool false)<|.ret) .done<|.ae "units"<|.comp ["root"] .seq (.az (.bool true) .done) (.ae "plan"<|.u (.attr "free")<|.ae "root"<|.b .idx<|.u .sorted<|.done)<|.ae "units"<|.comp ["root"] .seq (.az (.bool true) .done) (.ae "wanted"<|.ae "root"<|.b .idx<|.done)<|.b (.cmp .ne)<|.ite (.az (.bool false)<|.ret) .done<|.az (.int 1)<|.mk .list 1<|.ae "units"<|.comp ["root"] .seq (.ae "root"<|.az (.int 1)<|.b (.cmp .ne)<|.done) (.ae "root"<|.done)<|.b (.bin .add)<|.aY "order"<|.ae "plan"<|.u (.attr "numbers")<|.ae "order"<|.comp ["at","root"] .enum (.az (.bool true) .done) (.ae "root"<|.ae "at"<|.mk .tup 2<|.done)<|.u .dictOf<|.b (.cmp .ne)<|.ite (.az (.bool false)<|.ret) .done<|.ae "program"<|.ae "order"<|.ae "wanted"<|.call "_law_are_units_right" 3<|.u .not<|.ite (.az (.bool true) .done) (.ae "program"<|.ae "units"<|.call "_law_facts" 2<|.ae "facts"<|.b (.cmp .ne)<|.done)<|.ite (.az (.bool false)<|.ret) .done<|.done)<|.az (.bool true)<|.ret⟩
noncomputable def fns:List (String×Fn):=[("Pair.__init__",vq),
 ("kind_word",vm),
 ("is_atom",zD),
 ("KOp.__init__",wR),
 ("KOp.given",vr),
 ("fun_op",Cw),
 ("fix_op",Cx),
 ("KLast.__init__",sV),
 ("KLast.reads",qy),
 ("KLast.targets",nM),
 ("call_last",vp),
 ("jump_last",vn),
 ("give_last",vo),
 ("branch_last",qw),
 ("KBlock.__init__",qz),
 ("KBlock.binders",mH),
 ("KBlock.given",pT),
 ("KBlock.takes_any",kD),
 ("KProgram.__init__",nL),
 ("KProgram.labels",lC),
 ("KProgram.block",mG),
 ("KProgram.put",pS),
 ("makers",Cu),
 ("COp.__init__",wS),
 ("CLast.__init__",sX),
 ("CBlock.__init__",qA),
 ("CUnit.__init__",sW),
 ("CProgram.__init__",nN),
 ("closure_var",qv),
 ("Layout.__init__",qx),
 ("Layout.is_root",mF),
 ("Layout.unit_of",mC),
 ("Layout.members",mD),
 ("Layout.made_at",mE),
 ("find_roots",sS),
 ("find_atoms",sT),
 ("last_reads",sQ),
 ("own_reads",vb),
 ("own_given",vc),
 ("inner_units",qu),
 ("find_free",i6),
 ("UnitMaker.__init__",mA),
 ("UnitMaker.slot",mz),
 ("UnitMaker.arg",nK),
 ("UnitMaker.args",mB),
 ("UnitMaker.captured_args",gb),
 ("begin_unit",sU),
 ("give_slots",sR),
 ("made_op",zy),
 ("fix_rows",wQ),
 ("made_conts",sK),
 ("way_block",u_),
 ("made_last",ve),
 ("made_block",sL),
 ("made_unit",vd),
 ("laid_out",wP),
 ("closed",Cy),
 ("_law_deck",wO),
 ("_law_draw",wN),
 ("_law_one",zA),
 ("_law_new",zB),
 ("_law_block",vj),
 ("_law_const",vi),
 ("_law_procedures",my),
 ("_law_op",Cv),
 ("_law_choice",sP),
 ("_law_end",zC),
 ("_law_program",qt),
 ("_law_leads",vg),
 ("_law_unit",wM),
 ("_law_units",vf),
 ("_law_facts",vh),
 ("_law_is_needed",nJ),
 ("_law_simple",sN),
 ("_law_wanted",sM),
 ("_law_handed",sO),
 ("_law_are_units_right",io),
 ("law",LS)]
end
section
noncomputable abbrev Ext(h h':Hp):Prop:=∀a,h a≠none->h' a=h a
structure Alloc(h:Hp)(a:Nat)(o:O)(h':Hp):Prop where
 new:h a=none
 eq:h'=bf h a o
structure Put(h:Hp)(a:Nat)(o:O)(h':Hp):Prop where
 eq:h'=bf h a o
theorem iK{α β:Type}[DecidableEq α]{f:α->Option β}{a:α}{b:β}:bf f a b a=some b:=if_pos rfl
theorem fJ{α β:Type}[DecidableEq α]{f:α->Option β}{a x:α}{b:β}(h:x≠a):bf f a b x=f x:=if_neg h
theorem aG{α:Type}{o:Option α}{x:α}(e:o=some x):o≠none:=λn=>nomatch e.symm.trans n
theorem Ext.refl{h:Hp}:Ext h h:=λ_ _=>rfl
theorem Ext.at{h h':Hp}(x:Ext h h'){a:Nat}{o:O}(e:h a=some o):h' a=some o:=(x a (aG e)).trans e
theorem Ext.trans{h h' cT:Hp}(x:Ext h h')(y:Ext h' cT):Ext h cT:=λa n=>(y a (x a n▸n)).trans (x a n)
theorem Ext.none{h h':Hp}(x:Ext h h'){a:Nat}(e:h' a=Option.none):h a=Option.none:=XD λn=>n ((x a n).symm.trans e)
theorem aB{h:Hp}{a x:Nat}{o:O}(n:h a=none)(f:h x=some o):x≠a:=λe=>aG f (e▸n)
theorem Alloc.at{h h':Hp}{a:Nat}{o:O}(x:Alloc h a o h'):h' a=some o:=x.eq▸iK
theorem Alloc.ext{h h':Hp}{a:Nat}{o:O}(x:Alloc h a o h'):Ext h h':=λb n=>x.eq▸fJ λe=>n (e▸x.new)
theorem Alloc.im{j h h':Hp}{a:Nat}{o:O}(x:Alloc h a o h')(e:Ext j h):Ext j h':=e.trans x.ext
theorem Alloc.ne{h h':Hp}{a x:Nat}{o o':O}(A:Alloc h a o h')(f:h x=some o'):x≠a:=aB A.new f
theorem Put.at{h h':Hp}{a:Nat}{o:O}(x:Put h a o h'):h' a=some o:=x.eq▸iK
theorem Put.ne{h h':Hp}{a:Nat}{o:O}(x:Put h a o h'){b:Nat}(n:b≠a):h' b=h b:=x.eq▸fJ n
theorem Put.to{h h':Hp}{a b:Nat}{o o':O}(x:Put h a o h')(n:b≠a)(e:h b=some o'):h' b=some o':=(x.ne n).trans e
theorem Put.im{j h h':Hp}{a:Nat}{o:O}(x:Put h a o h')(e:Ext j h)(n:j a=none):Ext j h':=λb m=>(x.ne λ(z:b=a)=>m (z▸n)).trans (e b m)
noncomputable def aH(a:Nat)(h:Hp):Hp:=λx=>if x=a then none else h x
section
variable {h:Hp}
theorem ao{a:Nat}:aH a h a=none:=if_pos rfl
theorem hide_ne{a x:Nat}(n:x≠a):aH a h x=h x:=if_neg n
theorem aF{a x:Nat}{o:O}(n:x≠a)(e:h x=some o):aH a h x=some o:=(hide_ne n).trans e
theorem aV{a:Nat}:Ext (aH a h) h:=λx hx=>(hide_ne λ(z:x=a)=>hx (z▸ao)).symm
theorem bj{j:Hp}{a:Nat}(e:Ext j h)(n:j a=none):Ext j (aH a h):=λx hx=>(hide_ne λ(z:x=a)=>hx (z▸n)).trans (e x hx)
end
section
variable {Φ:Calls}{γ:String->Option V}{k b c:C}{ρ:Lo}{st:List V}{h:Hp}{Q:Po}{a:Nat}{v w:V}{i:Int}{xs:List V}{es:List (Int×V)}
noncomputable def tx(Φ:Calls)(γ:String->Option V)(k:C)(Q:Po):Po:=sq (λρ st h=>wp Φ γ k ρ st h Q) Q
theorem r_done_sq(q:wp Φ γ k ρ st h Q):wp Φ γ .done ρ st h (tx Φ γ k Q):=q
theorem r_done_val{R:V->Hp->Prop}(q:R v h):wp Φ γ .done ρ [v] h (gH R):=⟨rfl,v,rfl,q⟩
theorem r_done_ret{R:V->Hp->Prop}(q:R .none h):wp Φ γ .done ρ st h (ty R):=q
theorem r_ret_sq(q:wp Φ γ .ret ρ (v::st) h Q):wp Φ γ .ret ρ (v::st) h (tx Φ γ k Q):=q
theorem r_ret{R:V->Hp->Prop}(q:R v h):wp Φ γ .ret ρ (v::st) h (ty R):=q
theorem r_lit(q:wp Φ γ k ρ (v::st) h Q):wp Φ γ (.az v k) ρ st h Q:=q
theorem r_var{x:String}(e:ρ x=some v)(q:wp Φ γ k ρ (v::st) h Q):wp Φ γ (.ae x k) ρ st h Q:=⟨v,e,q⟩
theorem r_glob{x:String}(e:γ x=some v)(q:wp Φ γ k ρ (v::st) h Q):wp Φ γ (.glob x k) ρ st h Q:=⟨v,e,q⟩
theorem r_asg{x:String}(q:let ρ:=bf ρ x v;wp Φ γ k ρ st h Q):wp Φ γ (.aY x k) ρ (v::st) h Q:=q
theorem r_asgs2{x y:String}(q:let ρ:=bf (bf ρ x v) y w;wp Φ γ k ρ st h Q):wp Φ γ (.iw [x,y] k) ρ (w::v::st) h Q:=q
theorem r_asgs3{x y z:String}{u:V}(q:let ρ:=bf (bf (bf ρ x v) y w) z u;wp Φ γ k ρ st h Q):wp Φ γ (.iw [x,y,z] k) ρ (u::w::v::st) h Q:=q
theorem r_al{o:O}(q:∀a h',Alloc h a o h'->wp Φ γ k ρ (.ref a::st) h' Q):∀a,h a=none->wp Φ γ k ρ (.ref a::st) (bf h a o) Q:=λa n=>q a _ ⟨n,rfl⟩
theorem r_mk0(q:∀a h',Alloc h a (.list []) h'->wp Φ γ k ρ (.ref a::st) h' Q):wp Φ γ (.mk .list 0 k) ρ st h Q:=r_al q
theorem r_mk1(q:∀a h',Alloc h a (.list [v]) h'->wp Φ γ k ρ (.ref a::st) h' Q):wp Φ γ (.mk .list 1 k) ρ (v::st) h Q:=r_al q
theorem r_mk2(q:∀a h',Alloc h a (.list [v,w]) h'->wp Φ γ k ρ (.ref a::st) h' Q):wp Φ γ (.mk .list 2 k) ρ (w::v::st) h Q:=r_al q
theorem r_mk(n:Nat){vs bH:List V}(e:tH n [] st=some (vs,bH))(q:∀a h',Alloc h a (.list vs) h'->wp Φ γ k ρ (.ref a::bH) h' Q):wp Φ γ (.mk .list n k) ρ st h Q:=by
 show fH _ _ _;unfold fH;rw[e];exact r_al q
theorem r_tup(n:Nat){vs bH:List V}(e:tH n [] st=some (vs,bH))(q:∀a h',Alloc h a (.tup vs) h'->wp Φ γ k ρ (.ref a::bH) h' Q):wp Φ γ (.mk .tup n k) ρ st h Q:=by
 show fH _ _ _;unfold fH;rw[e];exact r_al q
theorem r_dict0(q:∀a h',Alloc h a (.dict []) h'->wp Φ γ k ρ (.ref a::st) h' Q):wp Φ γ (.mk .dict 0 k) ρ st h Q:=r_al q
theorem r_attr{n c:String}{fs:List (String×V)}(e:h a=some (.inst c fs))(g:fs.lookup n=some w)(q:wp Φ γ k ρ (w::st) h Q):wp Φ γ (.u (.attr n) k) ρ (.ref a::st) h Q:=⟨_,⟨w,⟨a,c,fs,rfl,.inl e,g⟩,rfl⟩,q⟩
theorem r_va{n c x:String}{fs:List (String×V)}(f:ρ x=some (.ref a))(e:h a=some (.inst c fs))(g:fs.lookup n=some w)(q:wp Φ γ k ρ (w::st) h Q):wp Φ γ (.ae x (.u (.attr n) k)) ρ st h Q:=r_var f (r_attr e g q)
theorem r_vv{x y:String}(e:ρ x=some v)(f:ρ y=some w)(q:wp Φ γ k ρ (w::v::st) h Q):wp Φ γ (.ae x (.ae y k)) ρ st h Q:=r_var e (r_var f q)
theorem r_attro{n c:String}{fs:List (String×V)}(e:h a=some (.c9 c fs))(g:fs.lookup n=some w)(q:wp Φ γ k ρ (w::st) h Q):wp Φ γ (.u (.attr n) k) ρ (.ref a::st) h Q:=⟨_,⟨w,⟨a,c,fs,rfl,.inr e,g⟩,rfl⟩,q⟩
theorem r_len(e:h a=some (.list xs))(q:wp Φ γ k ρ (.int xs.length::st) h Q):wp Φ γ (.u .len k) ρ (.ref a::st) h Q:=⟨_,⟨a,_,rfl,.inl ⟨xs,.inl e,rfl⟩,rfl⟩,q⟩
theorem r_lend(e:h a=some (.dict es))(q:wp Φ γ k ρ (.int es.length::st) h Q):wp Φ γ (.u .len k) ρ (.ref a::st) h Q:=⟨_,⟨a,_,rfl,.inr ⟨es,.inl e,rfl⟩,rfl⟩,q⟩
theorem r_not{t:Bool}(q:wp Φ γ k ρ (.bool (!t)::st) h Q):wp Φ γ (.u .not k) ρ (.bool t::st) h Q:=⟨_,⟨t,rfl,rfl⟩,q⟩
theorem r_sortd(e:h a=some (.dict es))(l:es.length<64)(q:∀c h',Alloc h c (.list ((bE (es.map (·.1))).map .int)) h'->wp Φ γ k ρ (.ref c::st) h' Q):wp Φ γ (.u .sorted k) ρ (.ref a::st) h Q:=
 ⟨_,⟨a,_,rfl,.inr ⟨es,e,rfl⟩,by rwa [Za],rfl⟩,r_al q⟩
theorem r_sortl{l:List Int}(e:h a=some (.list (l.map .int)))(z:l.length<64)(q:∀c h',Alloc h c (.list ((bE l).map .int)) h'->wp Φ γ k ρ (.ref c::st) h' Q):wp Φ γ (.u .sorted k) ρ (.ref a::st) h Q:=
 ⟨_,⟨a,l,rfl,.inl e,z,rfl⟩,r_al q⟩
theorem r_copyl(e:h a=some (.list xs))(q:∀c h',Alloc h c (.list xs) h'->wp Φ γ k ρ (.ref c::st) h' Q):wp Φ γ (.u .cO k) ρ (.ref a::st) h Q:=⟨_,⟨a,xs,rfl,e,rfl⟩,r_al q⟩
theorem r_copyd(e:h a=some (.dict es))(q:∀c h',Alloc h c (.dict es) h'->wp Φ γ k ρ (.ref c::st) h' Q):wp Φ γ (.u .copyDict k) ρ (.ref a::st) h Q:=⟨_,⟨a,es,rfl,e,rfl⟩,r_al q⟩
theorem r_rev(e:h a=some (.list xs))(q:∀c h',Alloc h c (.list xs.reverse) h'->wp Φ γ k ρ (.ref c::st) h' Q):wp Φ γ (.u .rev k) ρ (.ref a::st) h Q:=⟨_,⟨a,xs,rfl,e,rfl⟩,r_al q⟩
theorem r_nilq{ne:Bool}(e:h a=some (.list xs))(q:wp Φ γ k ρ (.bool (xs.isEmpty != ne)::st) h Q):wp Φ γ (.u (.nilq ne) k) ρ (.ref a::st) h Q:=⟨_,⟨a,xs,rfl,e,rfl⟩,q⟩
theorem r_isBi(q:wp Φ γ k ρ (.bool false::st) h Q):wp Φ γ (.u .isBool k) ρ (.int i::st) h Q:=⟨_,⟨_,rfl,.inl ⟨i,rfl,rfl⟩⟩,q⟩
theorem r_isBb{t:Bool}(q:wp Φ γ k ρ (.bool true::st) h Q):wp Φ γ (.u .isBool k) ρ (.bool t::st) h Q:=⟨_,⟨_,rfl,.inr (.inl ⟨t,rfl,rfl⟩)⟩,q⟩
theorem r_isBr{c:String}{fs:List (String×V)}(e:h a=some (.inst c fs))(q:wp Φ γ k ρ (.bool false::st) h Q):wp Φ γ (.u .isBool k) ρ (.ref a::st) h Q:=⟨_,⟨_,rfl,.inr (.inr ⟨c,⟨a,fs,rfl,.inl e⟩,rfl⟩)⟩,q⟩
theorem r_isBo{c:String}{fs:List (String×V)}(e:h a=some (.c9 c fs))(q:wp Φ γ k ρ (.bool false::st) h Q):wp Φ γ (.u .isBool k) ρ (.ref a::st) h Q:=⟨_,⟨_,rfl,.inr (.inr ⟨c,⟨a,fs,rfl,.inr e⟩,rfl⟩)⟩,q⟩
theorem r_isIi{d:String}(q:wp Φ γ k ρ (.bool false::st) h Q):wp Φ γ (.u (.cL d) k) ρ (.int i::st) h Q:=⟨_,⟨_,rfl,.inl ⟨i,rfl,rfl⟩⟩,q⟩
theorem r_isIb{d:String}{t:Bool}(q:wp Φ γ k ρ (.bool false::st) h Q):wp Φ γ (.u (.cL d) k) ρ (.bool t::st) h Q:=⟨_,⟨_,rfl,.inr (.inl ⟨t,rfl,rfl⟩)⟩,q⟩
theorem r_isIr{c d:String}{fs:List (String×V)}(e:h a=some (.inst c fs))(q:wp Φ γ k ρ (.bool (c==d)::st) h Q):wp Φ γ (.u (.cL d) k) ρ (.ref a::st) h Q:=⟨_,⟨_,rfl,.inr (.inr ⟨c,⟨a,fs,rfl,.inl e⟩,rfl⟩)⟩,q⟩
theorem r_isIo{c d:String}{fs:List (String×V)}(e:h a=some (.c9 c fs))(q:wp Φ γ k ρ (.bool (c==d)::st) h Q):wp Φ γ (.u (.cL d) k) ρ (.ref a::st) h Q:=⟨_,⟨_,rfl,.inr (.inr ⟨c,⟨a,fs,rfl,.inr e⟩,rfl⟩)⟩,q⟩
theorem r_idxl(e:h a=some (.list xs))(g:du xs i=some w)(q:wp Φ γ k ρ (w::st) h Q):wp Φ γ (.b .idx k) ρ (.int i:: .ref a::st) h Q:=⟨_,⟨w,⟨a,i,rfl,rfl,.inl ⟨xs,.inl e,g⟩⟩,rfl⟩,q⟩
theorem r_idxt(e:h a=some (.tup xs))(g:du xs i=some w)(q:wp Φ γ k ρ (w::st) h Q):wp Φ γ (.b .idx k) ρ (.int i:: .ref a::st) h Q:=⟨_,⟨w,⟨a,i,rfl,rfl,.inl ⟨xs,.inr e,g⟩⟩,rfl⟩,q⟩
theorem r_idxd(e:h a=some (.dict es))(g:es.lookup i=some w)(q:wp Φ γ k ρ (w::st) h Q):wp Φ γ (.b .idx k) ρ (.int i:: .ref a::st) h Q:=⟨_,⟨w,⟨a,i,rfl,rfl,.inr ⟨es,.inl e,g⟩⟩,rfl⟩,q⟩
theorem r_idxz(e:h a=some (.eA es))(g:es.lookup i=some w)(q:wp Φ γ k ρ (w::st) h Q):wp Φ γ (.b .idx k) ρ (.int i:: .ref a::st) h Q:=⟨_,⟨w,⟨a,i,rfl,rfl,.inr ⟨es,.inr e,g⟩⟩,rfl⟩,q⟩
theorem r_idxD(e:h a=some (.dict es)\/h a=some (.eA es))(g:es.lookup i=some w)(q:wp Φ γ k ρ (w::st) h Q):wp Φ γ (.b .idx k) ρ (.int i:: .ref a::st) h Q:=⟨_,⟨w,⟨a,i,rfl,rfl,.inr ⟨es,e,g⟩⟩,rfl⟩,q⟩
theorem r_lenD(e:h a=some (.dict es)\/h a=some (.eA es))(q:wp Φ γ k ρ (.int es.length::st) h Q):wp Φ γ (.u .len k) ρ (.ref a::st) h Q:=⟨_,⟨a,_,rfl,.inr ⟨es,e,rfl⟩,rfl⟩,q⟩
theorem r_add{x y:Int}(q:wp Φ γ k ρ (.int (x+y)::st) h Q):wp Φ γ (.b (.bin .add) k) ρ (.int y:: .int x::st) h Q:=⟨_,.inl ⟨x,y,_,rfl,rfl,rfl,rfl⟩,q⟩
theorem r_sub{x y:Int}(q:wp Φ γ k ρ (.int (x - y)::st) h Q):wp Φ γ (.b (.bin .sub) k) ρ (.int y:: .int x::st) h Q:=⟨_,.inl ⟨x,y,_,rfl,rfl,rfl,rfl⟩,q⟩
theorem r_mul{x y:Int}(l:0<=y/\y<1073741824)(q:wp Φ γ k ρ (.int (x*y)::st) h Q):wp Φ γ (.b (.bin .mul) k) ρ (.int y:: .int x::st) h Q:=⟨_,.inl ⟨x,y,_,rfl,rfl,⟨l.1,l.2,rfl⟩,rfl⟩,q⟩
theorem r_mod{x y:Int}(l:0<y)(q:wp Φ γ k ρ (.int (x % y)::st) h Q):wp Φ γ (.b (.bin .mod) k) ρ (.int y:: .int x::st) h Q:=⟨_,.inl ⟨x,y,_,rfl,rfl,⟨l,rfl⟩,rfl⟩,q⟩
theorem r_div{x y:Int}(l:0<y/\y<1073741824)(q:wp Φ γ k ρ (.int (x / y)::st) h Q):wp Φ γ (.b (.bin .fdiv) k) ρ (.int y:: .int x::st) h Q:=⟨_,.inl ⟨x,y,_,rfl,rfl,⟨l.1,l.2,rfl⟩,rfl⟩,q⟩
theorem r_cat{a':Nat}{ys:List V}(e:h a=some (.list xs))(f:h a'=some (.list ys))(l:xs.length+ys.length<=big)(q:∀c h',Alloc h c (.list (xs++ys)) h'->wp Φ γ k ρ (.ref c::st) h' Q):wp Φ γ (.b (.bin .add) k) ρ (.ref a':: .ref a::st) h Q:=
 ⟨_,.inr ⟨a,a',xs,ys,rfl,rfl,rfl,e,f,l,rfl⟩,r_al q⟩
theorem r_cati{a':Nat}{l m:List Int}(e:h a=some (.list (l.map .int)))(f:h a'=some (.list (m.map .int)))(z:l.length+m.length<=big)(q:∀c h',Alloc h c (.list ((l++m).map .int)) h'->wp Φ γ k ρ (.ref c::st) h' Q):wp Φ γ (.b (.bin .add) k) ρ (.ref a':: .ref a::st) h Q:=
 r_cat e f (by rwa [Za,Za]) λc h' A=>q c h' (by rw[Zq];exact A)
theorem r_eq{x y:Int}(q:wp Φ γ k ρ (.bool (x==y)::st) h Q):wp Φ γ (.b (.cmp .eq) k) ρ (.int y:: .int x::st) h Q:=⟨_,⟨_,rfl,.inl ⟨x,y,rfl,rfl,rfl⟩⟩,q⟩
theorem r_ne{x y:Int}(q:wp Φ γ k ρ (.bool (x != y)::st) h Q):wp Φ γ (.b (.cmp .ne) k) ρ (.int y:: .int x::st) h Q:=⟨_,⟨_,rfl,.inl ⟨x,y,rfl,rfl,WK _⟩⟩,q⟩
theorem r_lt{x y:Int}(q:wp Φ γ k ρ (.bool (decide (x<y))::st) h Q):wp Φ γ (.b (.cmp .lt) k) ρ (.int y:: .int x::st) h Q:=⟨_,⟨_,rfl,x,y,rfl,rfl,rfl⟩,q⟩
theorem r_gt{x y:Int}(q:wp Φ γ k ρ (.bool (decide (y<x))::st) h Q):wp Φ γ (.b (.cmp .gt) k) ρ (.int y:: .int x::st) h Q:=⟨_,⟨_,rfl,x,y,rfl,rfl,rfl⟩,q⟩
theorem r_ge{x y:Int}(q:wp Φ γ k ρ (.bool (decide (y<=x))::st) h Q):wp Φ γ (.b (.cmp .ge) k) ρ (.int y:: .int x::st) h Q:=⟨_,⟨_,rfl,x,y,rfl,rfl,rfl⟩,q⟩
theorem rT{x y:String}(e:PySem.Str.ofString x=PySem.Str.ofString y):x=y:=by
 rw[WB,WB] at e;have e1:x.toList.map Char.toNat=y.toList.map Char.toNat:=by simpa using e
 exact WX ((List.map_inj_right λa b h=>Char.ext (Ug.mp h)).mp e1)
theorem A_{x y:String}:decide (PySem.Str.ofString x=PySem.Str.ofString y)=(x==y):=by
 by_cases e:x=y
 . subst e;simp
 . rw[decide_eq_false λz=>e (rT z),beq_eq_false_iff_ne.mpr e]
theorem r_eqs{x y:String}(q:wp Φ γ k ρ (.bool (x==y)::st) h Q):wp Φ γ (.b (.cmp .eq) k) ρ (sv y::sv x::st) h Q:=⟨_,⟨_,rfl,.inr (.inl ⟨_,_,rfl,rfl,A_.symm⟩)⟩,q⟩
theorem r_ind(e:h a=some (.dict es))(q:wp Φ γ k ρ (.bool (es.any (·.1==i))::st) h Q):wp Φ γ (.b (.cmp .isin) k) ρ (.ref a:: .int i::st) h Q:=⟨_,⟨_,rfl,.inl ⟨i,a,rfl,rfl,.inl ⟨es,.inl e,rfl⟩⟩⟩,q⟩
theorem r_nind(e:h a=some (.dict es))(q:wp Φ γ k ρ (.bool (!es.any (·.1==i))::st) h Q):wp Φ γ (.b (.cmp .dz) k) ρ (.ref a:: .int i::st) h Q:=⟨_,⟨_,rfl,.inl ⟨i,a,rfl,rfl,.inl ⟨es,.inl e,WK _⟩⟩⟩,q⟩
theorem r_inl{l:List Int}(e:h a=some (.list (l.map .int)))(q:wp Φ γ k ρ (.bool (l.contains i)::st) h Q):wp Φ γ (.b (.cmp .isin) k) ρ (.ref a:: .int i::st) h Q:=⟨_,⟨_,rfl,.inl ⟨i,a,rfl,rfl,.inr ⟨l,e,rfl⟩⟩⟩,q⟩
theorem r_ninl{l:List Int}(e:h a=some (.list (l.map .int)))(q:wp Φ γ k ρ (.bool (!l.contains i)::st) h Q):wp Φ γ (.b (.cmp .dz) k) ρ (.ref a:: .int i::st) h Q:=⟨_,⟨_,rfl,.inl ⟨i,a,rfl,rfl,.inr ⟨l,e,WK _⟩⟩⟩,q⟩
theorem any_keys{es:List (Int×V)}:es.any (λp=>p.1==i)=(es.map (·.1)).contains i:=by
 induction es with
 |nil=>rfl
 |cons x es ih=>rw[XJ,Zw,Xm,ih,Bool.beq_comm]
theorem r_ink(e:h a=some (.dict es))(q:wp Φ γ k ρ (.bool ((es.map (·.1)).contains i)::st) h Q):wp Φ γ (.b (.cmp .isin) k) ρ (.ref a:: .int i::st) h Q:=r_ind e (any_keys▸q)
theorem r_nink(e:h a=some (.dict es))(q:wp Φ γ k ρ (.bool (!(es.map (·.1)).contains i)::st) h Q):wp Φ γ (.b (.cmp .dz) k) ρ (.ref a:: .int i::st) h Q:=r_nind e (any_keys▸q)
noncomputable def cz(R:List Int):List (Int×V):=R.map λl=>(l,.bool true)
theorem oZ{i:Int}:∀{R:List Int},(cz R).any (λp=>p.1==i)=R.contains i
 |[]=>rfl
 |x::R=>by
  show (x==i||(cz R).any _)=_;rw[oZ,Xm,Bool.beq_comm]
theorem r_ins{R:List Int}(e:h a=some (.dict (cz R)))(q:wp Φ γ k ρ (.bool (R.contains i)::st) h Q):wp Φ γ (.b (.cmp .isin) k) ρ (.ref a:: .int i::st) h Q:=r_ind e (oZ▸q)
theorem r_nins{R:List Int}(e:h a=some (.dict (cz R)))(q:wp Φ γ k ρ (.bool (!R.contains i)::st) h Q):wp Φ γ (.b (.cmp .dz) k) ρ (.ref a:: .int i::st) h Q:=r_nind e (oZ▸q)
theorem lf{x:String}:∀{l:List String},l.contains x=(l.map PySem.Str.ofString).contains (PySem.Str.ofString x)
 |[]=>rfl
 |y::l=>by rw[Zw,Xm,Xm,lf];congr 1;exact A_.symm
theorem r_ints{l:List String}{x:String}(e:h a=some (.tup (l.map sv)))(q:wp Φ γ k ρ (.bool (l.contains x)::st) h Q):wp Φ γ (.b (.cmp .isin) k) ρ (.ref a::sv x::st) h Q:=
 ⟨_,⟨_,rfl,.inr ⟨_,a,l.map PySem.Str.ofString,rfl,rfl,by rw[Zt];exact e,lf⟩⟩,q⟩
theorem r_isnt{v:V}(q:wp Φ γ k ρ (.bool (!IP v)::st) h Q):wp Φ γ (.b (.cmp .isNotNone) k) ρ (.none::v::st) h Q:=⟨_,⟨_,rfl,rfl,rfl⟩,q⟩
theorem r_call1{f:String}(q:Φ f [v] h λr h'=>wp Φ γ k ρ (r::st) h' Q):wp Φ γ (.call f 1 k) ρ (v::st) h Q:=q
theorem r_call2{f:String}(q:Φ f [v,w] h λr h'=>wp Φ γ k ρ (r::st) h' Q):wp Φ γ (.call f 2 k) ρ (w::v::st) h Q:=q
theorem r_call{f:String}{n:Nat}{vs bH:List V}(e:tH n [] st=some (vs,bH))(q:Φ f vs h λr h'=>wp Φ γ k ρ (r::bH) h' Q):wp Φ γ (.call f n k) ρ st h Q:=by
 show fH _ _ _;unfold fH;rw[e];exact q
theorem r_new{c f:String}{n:Nat}{vs bH:List V}(e:tH n [] st=some (vs,bH))(q:∀a h',Alloc h a (.inst c []) h'->Φ f (.ref a::vs) h' λr h'=>r= .none/\wp Φ γ k ρ (.ref a::bH) h' Q):wp Φ γ (.new c f n k) ρ st h Q:=by
 show fH _ _ _;unfold fH;rw[e];exact λa n=>q a _ ⟨n,rfl⟩
theorem r_chk{c:String}{fs:List (String×V)}(e:h a=some (.inst c fs))(q:wp Φ γ k ρ (.ref a::st) h Q):wp Φ γ (.bM c k) ρ (.ref a::st) h Q:=⟨⟨a,rfl,.inl ⟨fs,e⟩⟩,q⟩
theorem r_chkl(e:h a=some (.list xs))(q:wp Φ γ k ρ (.ref a::st) h Q):wp Φ γ (.bM "list" k) ρ (.ref a::st) h Q:=⟨⟨a,rfl,.inr (.inl ⟨rfl,xs,e⟩)⟩,q⟩
theorem r_chkd(e:h a=some (.dict es))(q:wp Φ γ k ρ (.ref a::st) h Q):wp Φ γ (.bM "dict" k) ρ (.ref a::st) h Q:=⟨⟨a,rfl,.inr (.inr ⟨rfl,es,e⟩)⟩,q⟩
theorem r_pu{P:Hp->Prop}{o:O}(q:∀h',Put h a o h'->P h'):P (bf h a o):=q _ ⟨rfl⟩
theorem r_update{a':Nat}{ds:List (Int×V)}(e:h a=some (.dict es))(f:h a'=some (.dict ds))(n:a≠a')(l:es.length+ds.length<=big)(q:∀h',Put h a (.dict (ds.foldl (λes p=>putD es p.1 p.2) es)) h'->wp Φ γ k ρ st h' Q):wp Φ γ (.prim .update 1 (.pop k)) ρ (.ref a':: .ref a::st) h Q:=
 ⟨a,_,_,rfl,⟨es,a',ds,e,rfl,n,f,l,rfl,rfl⟩,λ_=>V.noConfusion,r_pu (P:=λh'=>wp Φ γ k ρ st h' Q) q⟩
theorem r_app(e:h a=some (.list xs))(l:xs.length<big)(q:∀h',Put h a (.list (xs++[v])) h'->wp Φ γ k ρ st h' Q):wp Φ γ (.prim .append 1 (.pop k)) ρ (v:: .ref a::st) h Q:=
 ⟨a,_,_,rfl,⟨xs,v,e,rfl,l,rfl,rfl⟩,λ_=>V.noConfusion,r_pu (P:=λh'=>wp Φ γ k ρ st h' Q) q⟩
theorem r_appi{l:List Int}(e:h a=some (.list (l.map .int)))(z:l.length<big)(q:∀h',Put h a (.list ((l++[i]).map .int)) h'->wp Φ γ k ρ st h' Q):wp Φ γ (.prim .append 1 (.pop k)) ρ (.int i:: .ref a::st) h Q:=
 r_app e (by rwa [Za]) λh' p=>q h' (by rw[Zq];exact p)
theorem r_get{d:V}(e:h a=some (.dict es))(q:wp Φ γ k ρ ((es.lookup i).getD d::st) h Q):wp Φ γ (.prim .get 2 k) ρ (d:: .int i:: .ref a::st) h Q:=⟨a,_,_,rfl,⟨es,i,d,e,rfl,rfl,rfl⟩,q⟩
theorem r_extend{a':Nat}{ys:List V}(e:h a=some (.list xs))(f:h a'=some (.list ys))(n:a≠a')(l:xs.length+ys.length<=big)(q:∀h',Put h a (.list (xs++ys)) h'->wp Φ γ k ρ st h' Q):wp Φ γ (.prim .extend 1 (.pop k)) ρ (.ref a':: .ref a::st) h Q:=
 ⟨a,_,_,rfl,⟨xs,a',ys,e,rfl,n,f,l,rfl,rfl⟩,λ_=>V.noConfusion,r_pu (P:=λh'=>wp Φ γ k ρ st h' Q) q⟩
theorem r_extendi{a':Nat}{l m:List Int}(e:h a=some (.list (l.map .int)))(f:h a'=some (.list (m.map .int)))(n:a≠a')(z:l.length+m.length<=big)(q:∀h',Put h a (.list ((l++m).map .int)) h'->wp Φ γ k ρ st h' Q):wp Φ γ (.prim .extend 1 (.pop k)) ρ (.ref a':: .ref a::st) h Q:=
 r_extend e f n (by rwa [Za,Za]) λh' p=>q h' (by rw[Zq];exact p)
theorem r_setA{n c:String}{fs:List (String×V)}(e:h a=some (.inst c fs))(l:Nat.blt fs.length 100=true)(f:iA c n=true)(o:cI v=false)(q:∀h',Put h a (.inst c (nE fs n v)) h'->wp Φ γ k ρ st h' Q):wp Φ γ (.setA n k) ρ (.ref a::v::st) h Q:=
 ⟨a,_,⟨c,fs,rfl,e,Nat.blt_eq.mp l,f,o,rfl⟩,r_pu (P:=λh'=>wp Φ γ k ρ st h' Q) q⟩
theorem r_setId(e:h a=some (.dict es))(l:es.length<big)(q:∀h',Put h a (.dict (putD es i v)) h'->wp Φ γ k ρ st h' Q):wp Φ γ (.dq k) ρ (.int i:: .ref a::v::st) h Q:=
 ⟨a,_,⟨i,rfl,rfl,.inr ⟨es,e,l,rfl⟩⟩,r_pu (P:=λh'=>wp Φ γ k ρ st h' Q) q⟩
theorem r_unpl{ns:List String}(g:Nat.ble 2 ns.length=true)(l:ns.length=xs.length)(e:h a=some (.list xs))(q:wp Φ γ k (binds ρ ns xs) st h Q):wp Φ γ (.zV ns k) ρ (.ref a::st) h Q:=⟨_,ZB g,.inr ⟨a,xs,rfl,ZB g,l,.inr e,rfl⟩,q⟩
theorem r_unpt{ns:List String}(g:Nat.ble 2 ns.length=true)(l:ns.length=xs.length)(e:h a=some (.tup xs))(q:wp Φ γ k (binds ρ ns xs) st h Q):wp Φ γ (.zV ns k) ρ (.ref a::st) h Q:=⟨_,ZB g,.inr ⟨a,xs,rfl,ZB g,l,.inl e,rfl⟩,q⟩
theorem r_pop(q:wp Φ γ k ρ st h Q):wp Φ γ (.pop k) ρ (.none::st) h Q:=⟨λ_=>V.noConfusion,q⟩
theorem r_popi(q:wp Φ γ k ρ st h Q):wp Φ γ (.pop k) ρ (.int i::st) h Q:=⟨λ_=>V.noConfusion,q⟩
theorem r_ite{t:Bool}(qa:t=true->wp Φ γ b ρ st h (tx Φ γ k Q))(qb:t=false->wp Φ γ c ρ st h (tx Φ γ k Q)):wp Φ γ (.ite b c k) ρ (.bool t::st) h Q:=⟨t,rfl,qa,qb⟩
theorem r_yes{t:Bool}(e:t=true)(q:wp Φ γ b ρ st h (tx Φ γ k Q)):wp Φ γ (.ite b c k) ρ (.bool t::st) h Q:=⟨t,rfl,λ_=>q,λz=>Bool.noConfusion (e.symm.trans z)⟩
theorem r_no{t:Bool}(e:t=false)(q:wp Φ γ c ρ st h (tx Φ γ k Q)):wp Φ γ (.ite b c k) ρ (.bool t::st) h Q:=⟨t,rfl,λz=>Bool.noConfusion (z.symm.trans e),λ_=>q⟩
theorem r_dec{p:Prop}[Decidable p](qa:p->wp Φ γ b ρ st h (tx Φ γ k Q))(qb:¬ p->wp Φ γ c ρ st h (tx Φ γ k Q)):wp Φ γ (.ite b c k) ρ (.bool (decide p)::st) h Q:=⟨_,rfl,λz=>qa (of_decide_eq_true z),λz=>qb (of_decide_eq_false z)⟩
theorem r_pushM{α:Type}(y:α){f:α->V}{e:C}{x:String}{t:Bool}{j:Hp}{l:List α}(hx:ρ x=some (.ref a))(g:h a=some (.list (l.map f)))(n:j a=none)(E:Ext j h)(hl:l.length<big)
 (he:∀K:Po,wp Φ γ (.prim .append 1 (.pop .done)) ρ (f y:: .ref a::st) h K->wp Φ γ e ρ (.ref a::st) h K)
 (q:∀h',Ext j h'->h' a=some (.list ((l++if t then [y] else []).map f))->wp Φ γ k ρ st h' Q):wp Φ γ (.ite (.ae x (.bM "list" e)) .done k) ρ (.bool t::st) h Q:=
 r_ite (λc=>r_var hx (r_chkl g (he _ (r_app g (by rwa [Za]) λh' p=>q h' (p.im E n) (by rw[if_pos c,Zq];exact p.at))))) λc=>q h E (by rw[c,if_neg Yd,Zu];exact g)
theorem r_push(i:Int){e:C}{x:String}{p:Prop}[Decidable p]{j:Hp}{l:List Int}(hx:ρ x=some (.ref a))(f:h a=some (.list (l.map .int)))(n:j a=none)(E:Ext j h)(hl:l.length<big)
 (he:∀K:Po,wp Φ γ (.prim .append 1 (.pop .done)) ρ (.int i:: .ref a::st) h K->wp Φ γ e ρ (.ref a::st) h K)
 (q:∀h',Ext j h'->h' a=some (.list ((l++if p then [i] else []).map .int))->wp Φ γ k ρ st h' Q):wp Φ γ (.ite (.ae x (.bM "list" e)) .done k) ρ (.bool (decide p)::st) h Q:=
 r_pushM i hx f n E hl he λh' E' f'=>q h' E' (by simpa only[decide_eq_true_eq] using f')
theorem r_and{x:Bool}(y:Bool)(hb:x=true->∀K:Po,K .next ρ (.bool y::st) h->wp Φ γ b ρ st h K)(q:wp Φ γ k ρ (.bool (x&&y)::st) h Q):wp Φ γ (.ite b (.az (.bool false) .done) k) ρ (.bool x::st) h Q:=by
 cases x with
 |true=>exact r_yes rfl (hb rfl _ q)
 |false=>exact r_no rfl q
theorem r_retK{K:Po}(q:K (.ret v) ρ [] h):wp Φ γ .ret ρ (v::st) h K:=q
theorem r_done{K:Po}(q:K .next ρ st h):wp Φ γ .done ρ st h K:=q
end
end
section
noncomputable def mix(A:List String)(σ ρ:Lo):Lo:=λx=>bif A.contains x then σ x else ρ x
theorem oD{A:List String}{σ ρ:Lo}(e:cR A ρ σ):mix A σ ρ=σ:=funext λx=>by
 unfold mix
 cases z:A.contains x with
 |true=>rfl
 |false=>exact(e x λm=>by rw[ZZ.mpr m] at z;cases z).symm
theorem Cf{A:List String}{σ ρ:Lo}:cR A ρ (mix A σ ρ):=λx n=>by
 unfold mix;rw[show A.contains x=false from V2.mpr λz=>n (ZZ.mp z)]
 rfl
structure Wd(Φ:Calls)(γ:String->Option V):Prop where
 aW:dU Φ
 call:∀f F,fns.lookup f=some F->∀vs h Q,JU Φ γ F vs h Q->Φ f vs h Q
 AN:γ "FUN"=some (sv "fun")
 wj:γ "CONT"=some (sv "cont")
 Bm:γ "CALL"=some (sv "call")
 Bk:γ "JUMP"=some (sv "jump")
 Bl:γ "GIVE"=some (sv "give")
 uz:γ "BRANCH"=some (sv "if")
 HU:γ "PROC"=some (sv "proc")
 HT:γ "SLOT"=some (sv "slot")
 HV:γ "FREE"=some (sv "free")
 wJ:γ "CONSTANT"=some (sv "const")
section
variable {Φ:Calls}{γ:String->Option V}{k b:C}{ρ:Lo}{st:List V}{h:Hp}{Q:Po}{a:Nat}{v w:V}{α:Type}
theorem Wd.cl(W:Wd Φ γ){f:String}{ps:List String}{vs:List V}{Q:V->Hp->Prop}(e:fns.lookup f=some ⟨ps,b⟩)(l:ps.length=vs.length)(q:wp Φ γ b (iI ps vs) [] h (ty Q)):Φ f vs h Q:=W.call _ _ e _ _ _ ⟨l,q⟩
theorem qW{xs:List α}{i:Nat}{x:α}(e:xs[i]?=some x):xs.take i++x::xs.drop (i+1)=xs:=by
 obtain ⟨hi,rfl⟩:=ZM.mp e;rw[List.getElem_cons_drop,YX]
theorem fV{xs:List α}{i:Nat}{x:α}(e:xs[i]?=some x):xs.take (i+1)=xs.take i++[x]:=by rw[V3,e];rfl
theorem dI{β:Type}{f:α->β}{xs:List α}{i:Nat}{y:β}(e:(xs.map f)[i]?=some y):∃x,xs[i]?=some x/\f x=y:=by
 rw[ZP] at e;exact Z5.mp e
variable (M:dU Φ)
include M
theorem iR{t:List String}{aK:Src}(xs:List α)(f:α->List V)(it:aK.items=xs.map f)(bB:List α->Lo->Hp->Prop)(i0:bB [] ρ (aK.fz h))(tf:∀d ρ' h',bB d ρ' h'->aK.stays h')
 (step:∀d x r σ h',d++x::r=xs->x∈xs->bB d (mix (t++aY b) σ ρ) h'->∀K:Po,(∀ρ h,bB (d++[x]) ρ h->K .next ρ [] h)->(∀v ρ h,Q (.ret v) ρ st (aK.th h)->K (.ret v) ρ [] h)->(∀σ h',wp Φ γ k (mix (t++aY b) σ ρ) st (aK.th h') Q->K .brk (mix (t++aY b) σ ρ) [] h')->∃fG,dm h' (mix (t++aY b) σ ρ) t (f x) fG/\wp Φ γ b fG [] h' K)
 (fin:∀σ h',bB xs (mix (t++aY b) σ ρ) h'->wp Φ γ k (mix (t++aY b) σ ρ) st (aK.th h') Q):∃bB:Nat->Lo->Hp->Prop,bB 0 ρ (aK.fz h)/\(∀i ρ' h' item,bB i ρ' h'->aK.items[i]?=some item->aK.stays h'/\∃fG,dm h' ρ' t item fG/\
  wp Φ γ b fG [] h' (IN (bB (i+1)) (λρ3 h3=>wp Φ γ k ρ3 st (aK.th h3) Q) (λv ρ3 h3=>Q (.ret v) ρ3 st (aK.th h3))))/\
  ∀ρ' h',bB aK.items.length ρ' h'->aK.stays h'/\wp Φ γ k ρ' st (aK.th h') Q:=by
 refine⟨λi ρ' h'=>bB (xs.take i) ρ' h'/\cR (t++aY b) ρ ρ',⟨i0,λ_ _=>rfl⟩,λi ρ' h' item I e=>⟨tf _ _ _ I.1,?_⟩,λρ' h' I=>?_⟩
 . rw[it] at e;refine oea (dI e) λx e' bV=>?_;subst bV;have S:=step _ x _ ρ' h' (qW e') (Z3 e');rw[oD I.2,<-fV e'] at S;have ⟨fG,bt,w⟩:=S I.1 (λfl ρ3 _ h3=>cR (t++aY b) ρ ρ3->IN (bB (xs.take (i+1))) (λρ3 h3=>wp Φ γ k ρ3 st (aK.th h3) Q) (λv ρ3 h3=>Q (.ret v) ρ3 st (aK.th h3)) fl ρ3 [] h3) (λρ3 h3 j _=>j) (λv ρ3 h3 j _=>j) λσ h3 j _=>j;refine⟨fG,bt,tP M _ _ _ _ _ _ w λfl ρ3 zY h3 s p=>?_⟩;have s3:cR (t++aY b) ρ ρ3:=λy n=>((bt.same.l s) y n).trans (I.2 y n)
   cases fl with
   |next=>exact⟨p s3,s3⟩
   |brk=>exact p s3
   |ret=>exact p s3
 . have e:xs.take aK.items.length=xs:=by rw[it,Za,Xz]
   have F:=fin ρ' h';rw[oD I.2] at F;have I:=I.1;rw[e] at I;exact⟨tf _ _ _ I,F I⟩
omit M in
theorem rL{h:Hp}{ρ:Lo}{x:String}:dm h ρ [x] [v] (bf ρ x v):=.inl ⟨rfl,rfl⟩
theorem bO{t:String}(f:α->V)(xs:List α)(bB:List α->Lo->Hp->Prop)(ha:h a=some (.list (xs.map f)))(i0:bB [] ρ h)(tf:∀d ρ' h',bB d ρ' h'->h' a=some (.list (xs.map f)))
 (step:∀d x r σ h',d++x::r=xs->x∈xs->bB d (mix (t::aY b) σ ρ) h'->∀K:Po,(∀ρ h,bB (d++[x]) ρ h->K .next ρ [] h)->(∀v ρ h,Q (.ret v) ρ st h->K (.ret v) ρ [] h)->wp Φ γ b (bf (mix (t::aY b) σ ρ) t (f x)) [] h' K)
 (fin:∀σ h',bB xs (mix (t::aY b) σ ρ) h'->wp Φ γ k (mix (t::aY b) σ ρ) st h' Q):wp Φ γ (.for [t] .seq b k) ρ (.ref a::st) h Q:=
 ⟨.list a (xs.map f),st,⟨a,rfl,.inl ⟨_,ha,rfl⟩⟩,iR M xs (λx=>[f x]) (Zt ..) bB i0 tf (λd x r σ h' e m I K hK hr _=>⟨_,rL,step d x r σ h' e m I K hK hr⟩) fin⟩
theorem oW{t:String}{es:List (Int×V)}(he:h a=some (.dict es))(bB:List (Int×V)->Lo->Hp->Prop)(i0:∀h',Put h a (.eA es) h'->bB [] ρ h')(tf:∀d ρ' h',bB d ρ' h'->h' a=some (.eA es))
 (step:∀d x r σ h',d++x::r=es->x∈es->bB d (mix (t::aY b) σ ρ) h'->∀K:Po,(∀ρ h,bB (d++[x]) ρ h->K .next ρ [] h)->wp Φ γ b (bf (mix (t::aY b) σ ρ) t (.int x.1)) [] h' K)
 (fin:∀σ h' cT,bB es (mix (t::aY b) σ ρ) h'->Put h' a (.dict es) cT->wp Φ γ k (mix (t::aY b) σ ρ) st cT Q):wp Φ γ (.for [t] .seq b k) ρ (.ref a::st) h Q:=
 ⟨.keys a es,st,⟨a,rfl,.inr (.inr ⟨_,he,rfl⟩)⟩,iR M es (λx=>[.int x.1]) rfl bB (i0 _ ⟨rfl⟩) tf (λd x r σ h' e m I K hK hr _=>⟨_,rL,step d x r σ h' e m I K hK⟩) λσ h' I=>fin σ h' _ I ⟨rfl⟩⟩
omit M in
theorem iX{n x:Nat}{d r:List Nat}(e:d++x::r=List.range n):x=d.length/\x<n:=by
 have h1:(List.range n)[d.length]?=some x:=by rw[<-e,Yz (Zs _),Nat.sub_self];rfl
 have h2:=ZM.mp h1;obtain ⟨h3,h4⟩:=h2;rw[VM] at h4;rw[Z2] at h3;exact⟨h4.symm,h4▸h3⟩
theorem fq{t:String}{n:Nat}(hn:n<=big)(bB:Nat->Lo->Hp->Prop)(i0:bB 0 ρ h)
 (step:∀i σ h',i<n->bB i (mix (t::aY b) σ ρ) h'->∀K:Po,(∀ρ h,bB (i+1) ρ h->K .next ρ [] h)->(∀v ρ h,Q (.ret v) ρ st h->K (.ret v) ρ [] h)->(∀σ h',wp Φ γ k (mix (t::aY b) σ ρ) st h' Q->K .brk (mix (t::aY b) σ ρ) [] h')->wp Φ γ b (bf (mix (t::aY b) σ ρ) t (.int i)) [] h' K)
 (fin:∀σ h',bB n (mix (t::aY b) σ ρ) h'->wp Φ γ k (mix (t::aY b) σ ρ) st h' Q):wp Φ γ (.for [t] .range b k) ρ (.int n::st) h Q:=
 ⟨.range n,st,⟨n,rfl,hn,rfl⟩,iR M (List.range n) (λ(i:Nat)=>[.int i]) rfl (λd=>bB d.length) i0 (λ_ _ _ _=>trivial)
  (λd x r σ h' e m I K hK hr hb=>by
   refine oa (iX e) λcw l=>?_;subst cw;exact⟨_,rL,step _ σ h' l I K (λρ h i=>hK ρ h (by rw[Zb];exact i)) hr hb⟩)
  λσ h' I=>fin σ h' (by rw[Z2] at I;exact I)⟩
theorem DY{t u:String}{c:Nat}(f g:α->V)(xs:List α)(bB:List α->Lo->Hp->Prop)(ha:h a=some (.list (xs.map f)))(hc:h c=some (.list (xs.map g)))(i0:bB [] ρ h)(tf:∀d ρ' h',bB d ρ' h'->h' a=some (.list (xs.map f))/\h' c=some (.list (xs.map g)))
 (step:∀d x r σ h',d++x::r=xs->x∈xs->bB d (mix (t::u::aY b) σ ρ) h'->∀K:Po,(∀ρ h,bB (d++[x]) ρ h->K .next ρ [] h)->wp Φ γ b (bf (bf (mix (t::u::aY b) σ ρ) t (f x)) u (g x)) [] h' K)
 (fin:∀σ h',bB xs (mix (t::u::aY b) σ ρ) h'->wp Φ γ k (mix (t::u::aY b) σ ρ) st h' Q):wp Φ γ (.for [t,u] .zip b k) ρ (.ref c:: .ref a::st) h Q:=
 ⟨.zip a c (xs.map f) (xs.map g),st,⟨a,c,_,_,rfl,ha,hc,by rw[Za,Za],rfl⟩,iR M xs (λx=>[f x,g x]) (by
  show ((xs.map f).zip (xs.map g)).map _=_;rw[List.zip_map',Zt];rfl) bB i0 tf (λd x r σ h' e m I K hK _ _=>⟨_,.inl ⟨rfl,rfl⟩,step d x r σ h' e m I K hK⟩) fin⟩
theorem uC{β:Type}{t:String}{a':Nat}{j:Hp}(mk:List β->O){ys:List β}(f:α->V)(xs:List α)(g:α->List β)(E:Ext j h)(n:j a'=none)(ha:h a=some (.list (xs.map f)))(hc:h a'=some (mk ys))(ne:a≠a')
 (step:∀d x r σ h' zs,d++x::r=xs->x∈xs->zs=ys++d.flatMap g->Ext (aH a' h) h'->Ext j h'->h' a'=some (mk zs)->∀K:Po,(∀ρ cT,Ext (aH a' h) cT->cT a'=some (mk (zs++g x))->K .next ρ [] cT)->(∀v ρ h,Q (.ret v) ρ st h->K (.ret v) ρ [] h)->wp Φ γ b (bf (mix (t::aY b) σ ρ) t (f x)) [] h' K)
 (fin:∀σ h',Ext (aH a' h) h'->Ext j h'->h' a'=some (mk (ys++xs.flatMap g))->wp Φ γ k (mix (t::aY b) σ ρ) st h' Q):wp Φ γ (.for [t] .seq b k) ρ (.ref a::st) h Q:=by
 have X:=bj E n;refine bO M f xs (λd _ h'=>Ext (aH a' h) h'/\h' a'=some (mk (ys++d.flatMap g))) ha ⟨aV,by rw[Yb,Zu];exact hc⟩ (λd ρ' h' I=>I.1.at (aF ne ha)) (λd x r σ h' e m I K hK hr=>?_) λσ h' I=>fin σ h' I.1 (X.trans I.1) I.2;exact step d x r σ h' _ e m rfl I.1 (X.trans I.1) I.2 K (λρ cT e1 e2=>hK ρ cT ⟨e1,by rw[e2,Zx,ZJ,Yb,Zu,Zo]⟩) hr
theorem cx{β:Type}{t:String}{a':Nat}{j:Hp}(mk:List β->O){ys:List β}(f:α->V)(xs:List α)(g:α->List β)(E:Ext j h)(n:j a'=none)(ha:h a=some (.list (xs.map f)))(hc:h a'=some (mk ys))(ne:a≠a')(lim:(ys++xs.flatMap g).length<big)
 (step:∀x σ h' zs,x∈xs->Ext (aH a' h) h'->Ext j h'->h' a'=some (mk zs)->zs.length+(g x).length<big->∀K:Po,(∀ρ cT,Ext (aH a' h) cT->cT a'=some (mk (zs++g x))->K .next ρ [] cT)->(∀v ρ h,Q (.ret v) ρ st h->K (.ret v) ρ [] h)->wp Φ γ b (bf (mix (t::aY b) σ ρ) t (f x)) [] h' K)
 (fin:∀σ h',Ext (aH a' h) h'->Ext j h'->h' a'=some (mk (ys++xs.flatMap g))->wp Φ γ k (mix (t::aY b) σ ρ) st h' Q):wp Φ γ (.for [t] .seq b k) ρ (.ref a::st) h Q:=
 uC M mk f xs g E n ha hc ne (λd x r σ h' zs e m z E1 E2 G K hK hr=>step x σ h' zs m E1 E2 G (by
  rw[<-e,Zx,ZJ,<-Zo,<-Zo,Zb,<-z,Zb] at lim;exact Zk (ZD _ _) lim) K hK hr) fin
theorem fF{t:List String}{s:SK}{c e:C}{bH:List V}{aK:Src}(hs:tN s st h aK bH)(pl:aK.plain=true)(xs:List α)(f:α->List V)(it:aK.items=xs.map f)(bB:List α->List V->Hp->Prop)(i0:bB [] [] h)(tf:∀d vs h',bB d vs h'->aK.stays h')
 (step:∀d x r vs h',d++x::r=xs->x∈xs->bB d vs h'->∃ρ',dm h' ρ t (f x) ρ'/\∃p:Bool,wp Φ γ c ρ' [] h' (gH λv h2=>v= .bool p/\if p then wp Φ γ e ρ' [] h2 (gH λv h3=>bB (d++[x]) (vs++[v]) h3) else bB (d++[x]) vs h2))
 (fin:∀vs h' a cT,bB xs vs h'->Alloc h' a (.list vs) cT->wp Φ γ k ρ (.ref a::bH) cT Q):wp Φ γ (.comp t s c e k) ρ st h Q:=by
 refine⟨aK,bH,hs,pl,λi vs h'=>bB (xs.take i) vs h',i0,λi vs h' item I e=>⟨tf _ _ _ I,?_⟩,λvs h' I=>?_⟩
 . rw[it] at e;refine oea (dI e) λx e' c8=>?_;subst c8;have S:=step _ x _ vs h' (qW e') (Z3 e') I;rw[<-fV e'] at S;refine oeae S λρ' bt p w=>?_;try clear S
   refine⟨ρ',bt,Kz M w λfl _ Fq h2 q=>?_⟩;refine oaeaa q λe1 v e2 e3 q=>?_;refine⟨e1,v,e2,p,e3,λz=>?_,λz=>?_⟩
   . rw[if_pos z] at q;exact q
   . rw[z] at q;exact q
 . have e:xs.take aK.items.length=xs:=by rw[it,Za,Xz]
   have I:bB (xs.take aK.items.length) vs h':=I;rw[e] at I;exact⟨tf _ _ _ I,λa n=>fin _ _ a _ I ⟨n,rfl⟩⟩
theorem mt{t:List String}{s:SK}{c e:C}{bH:List V}{aK:Src}(hs:tN s st h aK bH)(pl:aK.plain=true)(xs:List α)(f:α->List V)(it:aK.items=xs.map f)(hl:∀x,t.length=(f x).length)(tf:∀h',Ext h h'->aK.stays h')(g:α->V)(p:α->Bool)
 (cond:∀x h',x∈xs->Ext h h'->∀K:V->Hp->Prop,(∀cT,Ext h cT->K (.bool (p x)) cT)->wp Φ γ c (binds ρ t (f x)) [] h' (gH K))
 (elt:∀x h',x∈xs->p x=true->Ext h h'->∀K:V->Hp->Prop,(∀cT,Ext h cT->K (g x) cT)->wp Φ γ e (binds ρ t (f x)) [] h' (gH K))
 (fin:∀a h',Ext h h'->h a=none->h' a=some (.list ((xs.filter p).map g))->wp Φ γ k ρ (.ref a::bH) h' Q):wp Φ γ (.comp t s c e k) ρ st h Q:=by
 refine fF M hs pl xs f it (λd vs h'=>Ext h h'/\vs=(d.filter p).map g) ⟨.refl,rfl⟩ (λd vs h' I=>tf _ I.1) (λd x r vs h' e m I=>⟨_,.inl ⟨hl x,rfl⟩,p x,cond x h' m I.1 _ λh2 E2=>⟨rfl,?_⟩⟩) λvs h' a cT I A=>fin a cT (A.im I.1) (I.1.none A.new) (I.2▸A.at)
 cases z:p x with
 |true=>exact elt x h2 m z E2 _ λh3 E3=>⟨E3,by rw[I.2,Yk,Wm,if_pos z,Zq];rfl⟩
 |false=>exact⟨E2,by rw[I.2,Yk,Wm,if_neg (by rw[z];exact Yd),Zq];exact(Zu _).symm⟩
theorem cP{t:String}{c e:C}(f g:α->V)(p:α->Bool)(xs:List α)(ha:h a=some (.list (xs.map f)))
 (cond:∀x h',x∈xs->Ext h h'->∀K:V->Hp->Prop,(∀cT,Ext h cT->K (.bool (p x)) cT)->wp Φ γ c (bf ρ t (f x)) [] h' (gH K))
 (elt:∀x h',x∈xs->p x=true->Ext h h'->∀K:V->Hp->Prop,(∀cT,Ext h cT->K (g x) cT)->wp Φ γ e (bf ρ t (f x)) [] h' (gH K))
 (fin:∀a h',Ext h h'->h a=none->h' a=some (.list ((xs.filter p).map g))->wp Φ γ k ρ (.ref a::st) h' Q):wp Φ γ (.comp [t] .seq c e k) ρ (.ref a::st) h Q:=
 mt M (aK:=.list a (xs.map f)) ⟨a,rfl,.inl ⟨_,ha,rfl⟩⟩ rfl xs (λx=>[f x]) (Zt ..) (λ_=>rfl) (λh' E=>E.at ha) g p cond elt fin
theorem comp_map{t:String}{e:C}(f g:α->V)(xs:List α)(ha:h a=some (.list (xs.map f)))
 (elt:∀x h',x∈xs->Ext h h'->∀K:V->Hp->Prop,(∀cT,Ext h cT->K (g x) cT)->wp Φ γ e (bf ρ t (f x)) [] h' (gH K))
 (fin:∀a h',Ext h h'->h a=none->h' a=some (.list (xs.map g))->wp Φ γ k ρ (.ref a::st) h' Q):wp Φ γ (.comp [t] .seq (.az (.bool true) .done) e k) ρ (.ref a::st) h Q:=
 cP M f g (λ_=>true) xs ha (λx h' m E K hK=>⟨rfl,_,rfl,hK h' E⟩) (λx h' m _=>elt x h' m) λa h' E n z=>fin a h' E n (by rwa [Yu.mpr λ_ _=>rfl] at z)
theorem kT{c:C}(bB:Nat->Lo->Hp->Prop)(n:Nat)(i0:bB n ρ h)
 (step:∀n σ h',bB n (mix (aY b) σ ρ) h'->∃t:Bool,(∀K:V->Hp->Prop,K (.bool t) h'->wp Φ γ c (mix (aY b) σ ρ) [] h' (gH K))/\
  (t=true->∀K:Po,(∀m ρ h,m<n->bB m ρ h->K .next ρ [] h)->wp Φ γ b (mix (aY b) σ ρ) [] h' K)/\(t=false->wp Φ γ k (mix (aY b) σ ρ) st h' Q)):wp Φ γ (.loop c b k) ρ st h Q:=by
 refine⟨λn ρ' h'=>bB n ρ' h'/\cR (aY b) ρ ρ',⟨n,i0,λ_ _=>rfl⟩,λn ρ' h' I=>?_⟩;have S:=step n ρ' h';rw[oD I.2] at S;refine oeaa (S I.1) λt w1 w2 w3=>?_;refine w1 _ ⟨t,rfl,λz=>?_,w3⟩;refine tP M _ _ _ _ _ _ (w2 z (λfl ρ3 _ h3=>fl= .next/\∃m,m<n/\bB m ρ3 h3) λm ρ h l j=>⟨rfl,m,l,j⟩) λfl ρ3 zY h3 s p=>?_;refine oaea p λdW m l j=>?_;try clear p;subst dW
 exact⟨m,l,j,λy n=>(s y n).trans (I.2 y n)⟩
omit M in
theorem nf{b:Bool}(z:(!b)=false):b=true:=by cases b;exact z.symm;rfl
omit M in
theorem nt{b:Bool}(z:(!b)=true):b=false:=by cases b;rfl;exact z.symm
omit M in
theorem ik{l:List Int}{x:Int}(z:l.contains x=true):x∈l:=ZZ.mp z
omit M in
theorem j_{l:List Int}{x:Int}(z:l.contains x=false):x∉l:=λm=>Bool.noConfusion ((ZZ.mpr m).symm.trans z)
omit M in
theorem fE{p:α->Bool}:∀{l:List α},(l.flatMap λx=>if p x then [x] else [])=l.filter p
 |[]=>rfl
 |x::l=>by rw[ZJ,Wm,fE];split<;>rfl
omit M in
theorem qr{p:α->Bool}{l:List α}{n:Nat}(h:l.length<n):(l.flatMap λx=>if p x then [x] else []).length<n:=by
 rw[fE];exact Zk (ZT _ _) h
omit M in
theorem iG{β:Type}{f:α->β}:∀{l:List α},(l.map f).Nodup->∀{x y:α},x∈l->y∈l->f x=f y->x=y
 |z::l,nd,x,y,hx,hy,e=>by
  rw[Zw,ZC] at nd;rcases Zp.mp hx with rfl|kx<;>rcases Zp.mp hy with rfl|ky
  . rfl
  . exact absurd (e▸ZF ky) nd.1
  . exact absurd (e▸ZF kx) nd.1
  . exact iG nd.2 kx ky e
omit M in
theorem xJ{l:List α}{x:α}(h:l.Nodup)(n:x∉l):(l++[x]).Nodup:=ZI.mpr ⟨h,Z4 _ _,λa ha b hb e=>n (Zc.mp hb▸e▸ha)⟩
noncomputable abbrev iL(l:List Int):O:=.list (l.map .int)
end
end
section
structure ke(γ:String->Option V)(h:Hp):Prop where
 atoms:∃t,γ "ATOMS"=some (.ref t)/\h t=some (.tup [sv "boolean",sv "number",sv "symbol",sv "char",sv "empty",sv "unspecified"])
 empty:∃t,γ "EMPTY"=some (.ref t)/\h t=some (.c9 "Special" [("title",sv "empty")])
theorem ke.ext{γ:String->Option V}{h h':Hp}(x:ke γ h)(e:Ext h h'):ke γ h':=by
 obtain ⟨⟨t,a,b⟩,u,c,d⟩:=x;exact⟨⟨t,a,e.at b⟩,u,c,e.at d⟩
structure Op where
 (ad:Nat) (result:Int) (bD:String) (number:Int) (args:List Int) (aA:Nat) (tY:V) (bP:List Int) (rA:Nat) (aU:List Int) (lA:Nat) (tI:Bool)
structure Last where
 (ad:Nat) (bD:String) (fn:Int) (args:List Int) (aA:Nat) (to other ae:Int)
structure ax where
 (ad:Nat) (aa:Int) (aI:String) (params:List Int) (pA:Nat) (ae bL aw:Int) (aN:List Op) (oA:Nat) (ag:Last)
structure aJ where
 (ad tA:Nat) (ap:List ax)
noncomputable def J8(o:Op):List (String×V):=[("result",.int o.result),("word",sv o.bD),("number",.int o.number),("args",.ref o.aA),("datum",o.tY),("results",.ref o.rA),("labels",.ref o.lA)]
noncomputable def we(l:Last):List (String×V):=[("word",sv l.bD),("fun",.int l.fn),("args",.ref l.aA),("to",.int l.to),("other",.int l.other),("var",.int l.ae)]
noncomputable def mN(b:ax)(l:V):List (String×V):=[("label",.int b.aa),("sort",sv b.aI),("params",.ref b.pA),("rest",.int (-1)),("var",.int b.ae),("home",.int b.bL),("parent",.int b.aw),("title",sv ""),("ops",.ref b.oA),("last",l)]
noncomputable def EH(h:Hp)(v:V):Bool->Prop
 |true=>∃a fs,v= .ref a/\h a=some (.inst "Pair" fs)
 |false=>v= .bool true\/v= .int 5\/∃a,v= .ref a/\h a=some (.c9 "Special" [("title",sv "empty")])
theorem EH.ext{h h':Hp}{v:V}{p:Bool}(x:EH h v p)(e:Ext h h'):EH h' v p:=by
 cases p with
 |true=>obtain ⟨a,fs,rfl,x⟩:=x;exact⟨a,fs,rfl,e.at x⟩
 |false=>
  rcases x with x|x|⟨a,rfl,x⟩
  . exact .inl x
  . exact .inr (.inl x)
  . exact .inr (.inr ⟨a,rfl,e.at x⟩)
structure yt(im:Hp)(o:Op):Prop where
 self:im o.ad=some (.inst "KOp" (J8 o))
 args:im o.aA=some (.list (o.args.map .int))
 bP:im o.rA=some (.list (o.bP.map .int))
 aU:im o.lA=some (.list (o.aU.map .int))
 dat:o.bD="const"->EH im o.tY o.tI
structure gf(im:Hp)(l:Last):Prop where
 self:im l.ad=some (.inst "KLast" (we l))
 args:im l.aA=some (.list (l.args.map .int))
structure v4(im:Hp)(b:ax):Prop where
 self:im b.ad=some (.inst "KBlock" (mN b (.ref b.ag.ad)))
 params:im b.pA=some (.list (b.params.map .int))
 aN:im b.oA=some (.list (b.aN.map λo=>.ref o.ad))
 op:∀o∈b.aN,yt im o
 ag:gf im b.ag
structure PR(im:Hp)(P:aJ):Prop where
 self:im P.ad=some (.inst "KProgram" [("table",.ref P.tA),("entry",.int 1)])
 table:im P.tA=some (.dict (P.ap.map λb=>(b.aa,.ref b.ad)))
 aT:∀b∈P.ap,v4 im b
theorem yt.ext{im h:Hp}{o:Op}(R:yt im o)(e:Ext im h):yt h o:=⟨e.at R.self,e.at R.args,e.at R.bP,e.at R.aU,λc=>(R.dat c).ext e⟩
theorem gf.ext{im h:Hp}{o:Last}(R:gf im o)(e:Ext im h):gf h o:=⟨e.at R.self,e.at R.args⟩
theorem v4.ext{im h:Hp}{b:ax}(R:v4 im b)(e:Ext im h):v4 h b:=⟨e.at R.self,e.at R.params,e.at R.aN,λo m=>(R.op o m).ext e,R.ag.ext e⟩
theorem PR.ext{im h:Hp}{P:aJ}(R:PR im P)(e:Ext im h):PR h P:=⟨e.at R.self,e.at R.table,λb m=>(R.aT b m).ext e⟩
end
local macro_rules
 | `(tactic| walk_at $s) => do
  let g<-Lean.MonadQuotation.addMacroScope `x
  let t:=wtb s.getString
  let l:=t.splitOn ","
  return (syn [] (λn=>{Lean.extractMacroScopes g with name:=n}.review) (if s.getString== "s" then "'first '| "++ " '| ".intercalate (l.map λr=>wal r)++ " #73/. #2/first" else t))
local macro_rules
 | `(tactic| nofun) => `(tactic| walk_at "w")
section
section
variable {Φ:Calls}{γ:String->Option V}{h:Hp}{Q:V->Hp->Prop}{P:aJ}
theorem Fc:100<big:=by decide
theorem fR{p:Prop}[Decidable p](i:Int):(if p then [i] else []).length<=1:=by split;exact Zs 1;exact ZR 1
noncomputable def Op.aE(o:Op):List Int:=if o.bD="fix" then o.bP else if 0<=o.result then [o.result] else []
noncomputable def Last.aR(l:Last):List Int:=l.args++((if 0<=l.fn then [l.fn] else [])++(if 0<=l.ae then [l.ae] else []))
noncomputable def Last.bg(l:Last):List Int:=(if 0<=l.to then [l.to] else [])++(if 0<=l.other then [l.other] else [])
noncomputable def ax.binders(b:ax):List Int:=b.params++(if 0<=b.ae then [b.ae] else [])
noncomputable def ax.aE(b:ax):List Int:=b.binders++b.aN.flatMap Op.aE
theorem iZ(W:Wd Φ γ){o:Op}(R:yt h o)(q:∀a h',Ext h h'->h a=none->h' a=some (.list (o.aE.map .int))->Q (.ref a) h'):Φ "KOp.given" [.ref o.ad] h Q:=by
 refine W.cl rfl rfl ?_;have s:=R.self;have r:=R.bP;unfold Op.aE at q;nofun;refine r_ite (λc=>?_) λc=>?_
 . nofun;intro a h' A;nofun;exact q _ _ A.ext A.new (by rw[if_pos (beq_iff_eq.mp c)];exact A.at)
 . rw[if_neg (beq_eq_false_iff_ne.mp c)] at q;nofun;refine r_dec (λc=>?_) λc=>?_
   . nofun;intro a h' A;nofun;exact q _ _ A.ext A.new (by rw[if_pos c];exact A.at)
   . nofun;intro a h' A;nofun;exact q _ _ A.ext A.new (by rw[if_neg c];exact A.at)
theorem qo(W:Wd Φ γ){l:Last}(R:gf h l)(hl:l.args.length<100)(q:∀a h',Ext h h'->h a=none->h' a=some (.list (l.aR.map .int))->Q (.ref a) h'):Φ "KLast.reads" [.ref l.ad] h Q:=by
 refine W.cl rfl rfl ?_;have s:=R.self;have r:=R.args;nofun;intro a h1 A;nofun;refine r_push l.fn rfl A.at A.new A.ext (ZK hl Fc) (λK hK=>?_) λh2 E2 f2=>?_
 . nofun;exact hK
 nofun;refine r_push l.ae rfl f2 A.new E2 ?_ (λK hK=>?_) λh3 E3 f3=>?_
 . rw[Zb];exact Zk (ZQ (ZH hl) (fR _)) (by decide)
 . nofun;exact hK
 nofun;exact q _ _ E3 A.new (by unfold Last.aR;rw[<-Zo];exact f3)
theorem ig(W:Wd Φ γ){l:Last}(R:gf h l)(q:∀a h',Ext h h'->h a=none->h' a=some (.list (l.bg.map .int))->Q (.ref a) h'):Φ "KLast.targets" [.ref l.ad] h Q:=by
 refine W.cl rfl rfl ?_;have s:=R.self;nofun;intro a h1 A;nofun;refine r_push (l:=[]) l.to rfl A.at A.new A.ext (by decide) (λK hK=>?_) λh2 E2 f2=>?_
 . nofun;exact hK
 nofun;refine r_push l.other rfl f2 A.new E2 (Zk (fR _) (by decide)) (λK hK=>?_) λh3 E3 f3=>?_
 . nofun;exact hK
 nofun;exact q _ _ E3 A.new f3
theorem mx(W:Wd Φ γ){b:ax}(R:v4 h b)(hl:b.params.length<100)(q:∀a h',Ext h h'->h a=none->h' a=some (.list (b.binders.map .int))->Q (.ref a) h'):Φ "KBlock.binders" [.ref b.ad] h Q:=by
 refine W.cl rfl rfl ?_;have s:=R.self;have r:=R.params;nofun;intro a h1 A;nofun;refine r_push b.ae rfl A.at A.new A.ext (ZK hl Fc) (λK hK=>?_) λh2 E2 f2=>?_
 . nofun;exact hK
 nofun;exact q _ _ E2 A.new f2
theorem pN(W:Wd Φ γ){b:ax}(R:v4 h b)(hl:b.params.length<100)(hg:b.aE.length<1000)(q:∀a h',Ext h h'->h a=none->h' a=some (.list (b.aE.map .int))->Q (.ref a) h'):Φ "KBlock.given" [.ref b.ad] h Q:=by
 refine W.cl rfl rfl ?_;have s:=R.self;have r:=R.aN;nofun;refine mx W R hl λa h1 e1 n1 f1=>?_;nofun;refine cx W.aW iL (λo:Op=>.ref o.ad) b.aN Op.aE e1 n1 (e1.at r) f1 (λz=>aB n1 r z) (ZK hg (by decide)) (λo σ h2 zs hx E2 B g2 hz K hK hr=>?_) λσ h2 E2 B g2=>?_
 . have s2:=(R.op o hx).self;nofun;refine iZ W ((R.op o hx).ext B) λc h3 e3 n3 f3=>?_;have g3:=e3.at g2;refine r_extendi g3 f3 (aB n3 g2) (ZH hz) λh4 p=>?_;nofun;exact hK _ _ (p.im (E2.trans e3) ao) p.at
 . nofun;exact q _ _ B n1 g2
end
end
section
noncomputable def aJ.aN(P:aJ):List Op:=P.ap.flatMap (·.aN)
noncomputable def aL(o:Op):Bool:=o.bD== "const"&& !o.tI
noncomputable def simple(P:aJ):List Int:=(P.aN.filter aL).map (·.result)
structure aM(P:aJ):Prop where
 asc:(P.ap.map (·.aa)).Pairwise (· < ·)
 cH:P.ap.length<64
 pos:∀b∈P.ap,1<=b.aa
 aI:∀b∈P.ap,b.aI="fun"\/b.aI="cont"
 ent:∃b∈P.ap,b.aa=1/\b.aI="fun"/\b.aw= -1
 par:∀b∈P.ap,b.aa≠1->∃p∈P.ap,p.aa=b.aw/\p.aa<b.aa
 vA:∀b∈P.ap,∀t∈b.ag.bg,∃c∈P.ap,c.aa=t/\c.aI="cont"
 dv:∀b∈P.ap,b.aN.length<=3
 gi:∀b∈P.ap,b.params.length<=1
 mJ:∀b∈P.ap,b.ag.args.length<=1
 C8:∀b∈P.ap,∀o∈b.aN,o.args.length<=2/\o.bP.length<=2/\o.aU.length<=2
 RF:∀b∈P.ap,∀o∈b.aN,∀c∈P.ap,∀o'∈c.aN,∀v,v∈o.aE->v∈o'.aE->o=o'
 yE:(simple P).length<64
 Ko:∀b∈P.ap,b.ag.bD="call"->0<=b.ag.to->∃c∈P.ap,c.aa=b.ag.to/\c.aw=b.aa
 Dn:∀b∈P.ap,(b.ag.fn= -1\/0<=b.ag.fn)/\(b.ag.ae= -1\/0<=b.ag.ae)/\(b.ae= -1\/0<=b.ae)
 J9:∀b∈P.ap,∀o∈b.aN,(o.bD="fix"->o.result= -1)/\(o.bD≠ "fix"->o.bP=[])/\(o.result= -1\/0<=o.result)
 Kt:∀b∈P.ap,(∀o∈b.aN,∀x∈o.args,0<=x)/\∀x∈b.ag.args,0<=x
 cvar:∀b∈P.ap,b.aI="cont"->b.ae= -1
 QG:∀b∈P.ap,∀o∈b.aN,(o.bD="const"/\o.args=[]/\o.aU=[])\/(o.bD="fun"/\o.args=[]/\∃l,o.aU=[l])\/(o.bD="fix"/\o.args=[]/\o.bP.length=o.aU.length)\/((o.bD="prim"\/o.bD="setglobal")/\o.aU=[])
 lw:∀b∈P.ap,(b.ag.bD="if"/\0<=b.ag.fn/\0<=b.ag.to/\0<=b.ag.other/\b.ag.args=[]/\b.ag.ae= -1)\/(b.ag.bD="jump"/\0<=b.ag.to/\b.ag.other= -1/\b.ag.fn= -1/\b.ag.ae= -1)\/
  (b.ag.bD="give"/\0<=b.ag.ae/\b.ag.fn= -1/\b.ag.to= -1/\b.ag.other= -1)\/(b.ag.bD="call"/\0<=b.ag.fn/\b.ag.other= -1/\((0<=b.ag.to/\b.ag.ae= -1)\/(b.ag.to= -1/\0<=b.ag.ae)))
 lpar:∀b∈P.ap,∀o∈b.aN,∀t∈o.aU,∃c∈P.ap,c.aa=t/\c.aw=b.aa
 CN:∀b∈P.ap,(b.aN.flatMap (·.aU)).Nodup
 Dh:∀b∈P.ap,∀o∈b.aN,o.bD="const"->0<=o.result
 rest:∀b∈P.ap,∀o∈b.aN,∀t∈o.aU,∃c∈P.ap,c.aa=t/\c.aI="fun"
variable {P:aJ}{R:List Int}
noncomputable def aJ.par(P:aJ)(l:Int):Int:=((P.ap.find? (λb=>b.aa==l)).map (·.aw)).getD 0
theorem aM.uniq(N:aM P){b c:ax}(hb:b∈P.ap)(hc:c∈P.ap)(e:b.aa=c.aa):b=c:=by
 have:∀{l:List ax},(l.map (·.aa)).Pairwise (· < ·)->b∈l->c∈l->b=c:=by
  intro l
  induction l with
  |nil=>intro _ h;cases h
  |cons x l ih=>
   intro p hb hc;simp only[Zw,YE,Zn,forall_exists_index,and_imp,forall_apply_eq_imp_iff₂] at p;rcases Zp.mp hb with rfl|kb<;>rcases Zp.mp hc with rfl|kc
   . rfl
   . exact absurd e (Yc (p.1 _ kc))
   . exact absurd e (WL (p.1 _ kb))
   . exact ih p.2 kb kc
 exact this N.asc hb hc
theorem aM.find(N:aM P){b:ax}(hb:b∈P.ap):P.ap.find? (λc=>c.aa==b.aa)=some b:=by
 cases e:P.ap.find? (λc=>c.aa==b.aa) with
 |none=>have:=VN.mp e b hb;simp at this
 |some c=>
  have h1:=List.mem_of_find?_eq_some e;have h2:=List.find?_some e;rw[N.uniq h1 hb (by simpa using h2)]
theorem aM.AY(N:aM P){b:ax}(hb:b∈P.ap):P.par b.aa=b.aw:=by unfold aJ.par;rw[N.find hb];rfl
noncomputable def jR(P:aJ)(R:List Int):Nat->Int->Int
 |0,l=>l
 |n+1,l=>if l∈R then l else jR P R n (P.par l)
theorem nT{P:aJ}{R:List Int}{n:Nat}{l:Int}:jR P R (n+1) l=if l∈R then l else jR P R n (P.par l):=rfl
noncomputable def bC(P:aJ)(R:List Int)(l:Int):Int:=jR P R l.toNat l
theorem k8(N:aM P)(r1:1∈R):∀(n m:Nat) (b:ax),b∈P.ap->b.aa.toNat<=n->b.aa.toNat<=m->jR P R n b.aa=jR P R m b.aa
 |0,m,b,hb,h1,h2=>by have:=N.pos b hb;exact ZA ((aj 0x1110211100150100110000013313) _ _ _ _ h1 this (ZX _)) ((aj 0x1110211100150100110000013313) _ _ _ _ h1 this (ZX _))
 |n,0,b,hb,h1,h2=>by have:=N.pos b hb;exact ZA ((aj 0x1110211100150100110000013313) _ _ _ _ h2 this (ZX _)) ((aj 0x1110211100150100110000013313) _ _ _ _ h2 this (ZX _))
 |n+1,m+1,b,hb,h1,h2=>by
  rw[nT,nT];split
  . rfl
  . rename_i hn;have:b.aa≠1:=by intro e;rw[e] at hn;exact hn r1
    refine oeaa (N.par b hb this) λp hp e lt=>?_;rw[N.AY hb,<-e];exact k8 N r1 n m p hp (by exact W9.mpr ((aj 0x11111150100151101101110112013322) _ _ _ _ h1 lt (ZX _))) (by exact W9.mpr ((aj 0x11111150100151101101110112013322) _ _ _ _ h2 lt (ZX _)))
theorem jf{l:Int}(hl:1<=l)(h:l∈R):bC P R l=l:=by
 unfold bC;obtain ⟨n,e⟩:∃n,l.toNat=n+1:=⟨l.toNat - 1,(YV (VO hl)).symm⟩;rw[e,jR,if_pos h]
theorem iM(N:aM P)(r1:1∈R){b:ax}(hb:b∈P.ap)(h:b.aa∉R):∃p∈P.ap,p.aa=b.aw/\p.aa<b.aa/\bC P R b.aa=bC P R p.aa:=by
 have ne:b.aa≠1:=by intro e;rw[e] at h;exact h r1
 refine oeaa (N.par b hb ne) λp hp e lt=>?_;refine⟨p,hp,e,lt,?_⟩;unfold bC;obtain ⟨n,e'⟩:∃n,b.aa.toNat=n+1:=⟨b.aa.toNat - 1,(YV (VO (N.pos b hb))).symm⟩;rw[e',jR,if_neg h,N.AY hb,<-e];exact k8 N r1 _ _ p hp (by exact W9.mpr ((aj 0x101111150100151101011201511011322) _ _ _ _ lt e' (ZX _))) (by exact(aj 0x101013010) _)
noncomputable def bN(P:aJ)(R:List Int)(rb:ax):List ax:=rb::P.ap.filter λb=>b.aa != rb.aa&&bC P R b.aa==rb.aa
noncomputable def bq(P:aJ)(R:List Int)(l:Int):List ax:=P.ap.filter λb=>R.contains b.aa&&(b.aI== "cont"&&b.aw==l)
theorem ct{rb b:ax}(hr:rb∈P.ap)(h:b∈bN P R rb):b∈P.ap:=by
 rcases Zp.mp h with rfl|h
 . exact hr
 . exact(ZG.mp h).1
theorem gM(N:aM P)(r1:1∈R){rb b:ax}(hr:rb∈P.ap)(hR:rb.aa∈R):b∈bN P R rb↔b∈P.ap/\bC P R b.aa=rb.aa:=by
 unfold bN;rw[Zp,ZG];constructor
 . rintro (rfl|⟨h,x⟩)
   . exact⟨hr,jf (N.pos _ hr) hR⟩
   . simp at x;exact⟨h,x.2⟩
 . intro z_;refine oa z_ λh x=>?_
   by_cases e:b.aa=rb.aa
   . exact .inl (N.uniq h hr e)
   . exact .inr ⟨h,by simp[e,x]⟩
theorem oQ(N:aM P){rb:ax}:(bN P R rb).length<=64:=Zk (ZT _ _) N.cH
theorem eJ(N:aM P){l:Int}:(bq P R l).length<=64:=ZH (Zk (ZT _ _) N.cH)
end
section
section
variable {Φ:Calls}{γ:String->Option V}{h:Hp}{Q:V->Hp->Prop}{P:aJ}{R:List Int}
noncomputable abbrev cj(b:ax):V:=.int b.aa
theorem h_{l:List Int}(h:l.Pairwise (· < ·)):bE l=l:=
 List.mergeSort_of_pairwise (h.imp λh=>decide_eq_true (XA h))
theorem fN(W:Wd Φ γ)(N:aM P)(R:PR h P)(q:∀a h',Ext h h'->h a=none->h' a=some (.list (P.ap.map cj))->Q (.ref a) h'):Φ "KProgram.labels" [.ref P.ad] h Q:=by
 refine W.cl rfl rfl ?_;have s:=R.self;have l:(P.ap.map λb=>(b.aa,V.ref b.ad)).length<64:=by rw[Za];exact N.cH
 have r:=R.table;nofun;intro a h1 A;nofun;refine q a h1 A.ext A.new ?_;rw[A.at,Zt,show ((λx:Int×V=>x.1)∘λb:ax=>(b.aa,V.ref b.ad))=(·.aa) from rfl,h_ N.asc,Zt]
 rfl
theorem wF(N:aM P){b:ax}(hb:b∈P.ap):(P.ap.map λb=>(b.aa,V.ref b.ad)).lookup b.aa=some (.ref b.ad):=by
 have:∀{l:List ax},(l.map (·.aa)).Pairwise (· < ·)->b∈l->(l.map λb=>(b.aa,V.ref b.ad)).lookup b.aa=some (.ref b.ad):=by
  intro l
  induction l with
  |nil=>intro _ h;cases h
  |cons x l ih=>
   intro p m;rw[Zw,ZS];rcases Zp.mp m with rfl|m
   . rw[beq_self_eq_true]
   . rw[Zw,YE] at p;rw[beq_eq_false_iff_ne.mpr (WL (p.1 _ (ZF m)))];exact ih p.2 m
 exact this N.asc hb
theorem p_block(W:Wd Φ γ)(N:aM P)(R:PR h P){b:ax}(hb:b∈P.ap)(q:Q (.ref b.ad) h):Φ "KProgram.block" [.ref P.ad,.int b.aa] h Q:=by
 refine W.cl rfl rfl ?_;have s:=R.self;have r:=R.table;have l:=wF N hb;nofun;exact q
structure Lay where
 (ad rA aA nA fA:Nat)
noncomputable def tV(P:aJ)(y:Lay):List (String×V):=[("program",.ref P.ad),("roots",.ref y.rA),("atoms",.ref y.aA),("numbers",.ref y.nA),("free",.ref y.fA)]
structure jO(h:Hp)(P:aJ)(y:Lay)(R:List Int):Prop where
 prog:PR h P
 self:h y.ad=some (.inst "Layout" (tV P y))
 roots:h y.rA=some (.dict (cz R))
theorem jO.ext{h h':Hp}{y:Lay}(x:jO h P y R)(e:Ext h h'):jO h' P y R:=⟨x.prog.ext e,e.at x.self,e.at x.roots⟩
variable {y:Lay}
theorem l_(W:Wd Φ γ)(Y:jO h P y R){l:Int}(q:Q (.bool (R.contains l)) h):Φ "Layout.is_root" [.ref y.ad,.int l] h Q:=by
 refine W.cl rfl rfl ?_;have s:=Y.self;have r:=Y.roots;nofun;exact q
theorem p_closure_var(W:Wd Φ γ){l:Int}(q:Q (.int (0 - l - 2)) h):Φ "closure_var" [.int l] h Q:=by
 refine W.cl rfl rfl ?_;nofun;exact q
theorem lZ(W:Wd Φ γ)(N:aM P)(Y:jO h P y R)(r1:1∈R){b:ax}(hb:b∈P.ap)(q:Q (.int (bC P R b.aa)) h):Φ "Layout.unit_of" [.ref y.ad,.int b.aa] h Q:=by
 refine W.cl rfl rfl ?_;have s:=Y.self;have r:=Y.roots;have P1:=Y.prog.self;refine kT W.aW (λn ρ h'=>h'=h/\∃c∈P.ap,ρ "label"=some (.int c.aa)/\bC P R c.aa=bC P R b.aa/\n=c.aa.toNat) b.aa.toNat ⟨rfl,b,hb,rfl,rfl,rfl⟩ ?_;intro n σ h1 z_;refine oaeaaa z_ λnP c hc l2 u wY=>?_;subst nP;subst wY;refine⟨!R.contains c.aa,λK hK=>?_,λz K hK=>?_,λz=>?_⟩
 . nofun;exact hK
 . have z:c.aa∉R:=j_ (nt z);have P2:=(Y.prog.aT c hc).self;refine oeaaa (iM N r1 hc z) λp hp e lt u'=>?_;have qi:=N.pos p hp;nofun;refine p_block W N Y.prog hc ?_;nofun;exact hK _ _ _ ((Int.toNat_lt_toNat (Va (VP Int.zero_lt_one qi) lt)).mpr lt) ⟨rfl,p,hp,congrArg (λx=>some (V.int x)) e.symm,u'.symm.trans u,rfl⟩
 . nofun;rw[jf (N.pos c hc) (ik (nf z))] at u;rw[u];exact q
theorem Ci(N:aM P){rb:ax}:(P.ap.filter λb=>b.aa != rb.aa&&bC P R b.aa==rb.aa).length<64:=Zk (ZT _ _) N.cH
theorem jC(W:Wd Φ γ)(N:aM P)(Y:jO h P y R)(r1:1∈R){b:ax}(hb:b∈P.ap)(q:∀a h',Ext h h'->h a=none->h' a=some (.list ((bN P R b).map cj))->Q (.ref a) h'):Φ "Layout.members" [.ref y.ad,.int b.aa] h Q:=by
 refine W.cl rfl rfl ?_;have s:=Y.self;have s2:=Y.prog.self;nofun;refine fN W N Y.prog λa h1 e1 n1 f1=>?_;refine cP W.aW cj cj (λc=>c.aa != b.aa&&bC P R c.aa==b.aa) P.ap f1 (λc h2 hc e2 K hK=>?_) (λc h2 hc _ e2 K hK=>?_) λa2 h2 e2 n2 f2=>?_
 . nofun;refine r_and (bC P R c.aa==b.aa) (λ_ K hK=>?_) ?_
   . have s3:=(e1.trans e2).at s;nofun;refine lZ W N (Y.ext (e1.trans e2)) r1 hc ?_;nofun;exact hK
   . nofun;exact hK h2 e2
 . nofun;exact hK h2 e2
 . nofun;intro a3 h3 A;have f3:=A.ext.at f2;nofun;refine r_cat A.at f3 ?_ λa4 h4 B=>?_
   . rw[Za];exact Zf (ZN (ZH (Ci N)) _) (show 1+64<=big by decide)
   . have e4:=B.im (A.im (e1.trans e2));nofun;exact q a4 h4 e4 ((A.im (e1.trans e2)).none B.new) B.at
theorem jD(W:Wd Φ γ)(N:aM P)(Y:jO h P y R){l:Int}(q:∀a h',Ext h h'->h a=none->h' a=some (.list ((bq P R l).map cj))->Q (.ref a) h'):Φ "Layout.made_at" [.ref y.ad,.int l] h Q:=by
 refine W.cl rfl rfl ?_;have s:=Y.self;have s2:=Y.prog.self;have s3:=Y.roots;have gc:=W.wj;nofun;intro a h1 A;have E1:=A.ext;nofun;refine fN W N (Y.prog.ext A.ext) λb h2 e2 n2 f2=>?_;refine cx W.aW (λl:List ax=>.list (l.map cj)) cj P.ap (λb=>if R.contains b.aa&&(b.aI== "cont"&&b.aw==l) then [b] else []) (A.ext.trans e2) A.new f2 (ys:=[]) (e2.at A.at) (λz=>aB n2 A.at z.symm) (qr (ZK N.cH (by decide))) (λx σ h3 zs hx E3 X g3 hz K hK hr=>?_) λσ h3 E3 X g3=>?_
 . have P2:=(Y.prog.aT x hx).self;nofun;refine r_and (x.aI== "cont"&&x.aw==l) (λ_ K hK=>?_) ?_
   . nofun;refine p_block W N (Y.prog.ext X) hx ?_;nofun;refine r_and (x.aw==l) (λ_ K hK=>?_) ?_
     . nofun;refine p_block W N (Y.prog.ext X) hx ?_;nofun;exact hK
     . nofun;exact hK
   . refine r_pushM x rfl g3 ao E3 (Zk (ZD _ _) hz) (λK hK=>?_) λh4 E4 g4=>?_
     . nofun;exact hK
     . nofun;exact hK _ _ E4 g4
 . rw[fE] at g3;nofun;exact q _ _ X A.new g3
end
end
section
variable {P:aJ}{R S:List Int}
theorem dB{α:Type}[DecidableEq α]:∀{l m:List α},l.Nodup->(∀x∈l,x∈m)->l.length<=m.length
 |[],m,_,_=>ZR _
 |x::l,m,nd,s=>by
  have hx:=s x Ze;rw[ZC] at nd;have:=dB (m:=m.erase x) nd.2 (λy hy=>(List.mem_erase_of_ne (by rintro rfl;exact nd.1 hy)).mpr (s y (Zh _ hy)));rw[XK hx] at this;exact Nat.add_le_of_le_sub (Xn hx) this
noncomputable def ins(R:List Int)(l:Int):List Int:=if l∈R then R else R++[l]
theorem gj{l x:Int}:x∈ins R l↔x∈R\/x=l:=by
 unfold ins;split
 . constructor
   . exact .inl
   . rintro (h|rfl)<;>assumption
 . simp
theorem jE{l:Int}(h:R.Nodup):(ins R l).Nodup:=by
 unfold ins;split
 . exact h
 . rw[ZI];exact⟨h,by simp,λa ha b hb e=>by simp at hb;subst hb;subst e;contradiction⟩
theorem xM{l:Int}(h:l∉R):(ins R l).length=R.length+1:=by unfold ins;rw[if_neg h];simp
noncomputable def Sub(P:aJ)(R:List Int):Prop:=R.Nodup/\∀l∈R,∃b∈P.ap,b.aa=l
theorem Sub.len(N:aM P)(h:Sub P R):R.length<=P.ap.length:=by
 have:=dB (m:=P.ap.map (·.aa)) h.1 (λx hx=>by refine oea (h.2 x hx) λb hb e=>?_;exact Zn.mpr ⟨b,hb,e⟩)
 simpa using this
theorem Sub.ins(h:Sub P R){b:ax}(hb:b∈P.ap):Sub P (ins R b.aa):=
 ⟨jE h.1,λl hl=>by rcases gj.mp hl with hl|rfl;exact h.2 l hl;exact⟨b,hb,rfl⟩⟩
noncomputable def Dt(b:ax)(l:Int):Prop:=(b.aI="fun"/\l=b.aa)\/(b.ag.bD="call"/\0<=b.ag.to/\l=b.ag.to)
noncomputable def eR(P:aJ)(R:List Int):Prop:=∀b∈P.ap,∀l,Dt b l->l∈R
noncomputable def oI(P:aJ)(R:List Int):Prop:=∀b∈P.ap,∀t∈b.ag.bg,t∉R->bC P R t=bC P R b.aa
noncomputable def Below(P:aJ)(R:List Int):Prop:=∀S,eR P S->oI P S->∀l∈R,l∈S
structure dN(P:aJ)(R:List Int):Prop where
 sub:Sub P R
 ch:eR P R
 closed:oI P R
 below:Below P R
theorem eR.one(N:aM P)(h:eR P R):1∈R:=by
 refine oeaaa N.ent λb hb e s _=>?_;exact h b hb 1 (.inl ⟨s,e.symm⟩)
theorem eR.fun(h:eR P R){b:ax}(hb:b∈P.ap)(s:b.aI="fun"):b.aa∈R:=h b hb _ (.inl ⟨s,rfl⟩)
theorem lV(N:aM P)(r1:1∈R)(s1:1∈S)(sub:∀l∈R,l∈S):∀(n:Nat) (b:ax),b∈P.ap->b.aa.toNat<=n->bC P R b.aa=bC P R (bC P S b.aa)
 |0,b,hb,h=>by have:=N.pos b hb;exact ZA ((aj 0x1110211100150100110000013313) _ _ _ _ h this (ZX _)) ((aj 0x1110211100150100110000013313) _ _ _ _ h this (ZX _))
 |n+1,b,hb,h=>by
  by_cases m:b.aa∈S
  . rw[jf (R:=S) (N.pos b hb) m]
  . refine oeaaa (iM N s1 hb m) λp hp e lt u=>?_;refine oeaaa (iM N r1 hb (λh=>m (sub _ h))) λp' kF e' lt' u'=>?_;have:p=p':=N.uniq hp kF (by rw[e,e']);subst this;rw[u,u'];have:=N.pos b hb;exact lV N r1 s1 sub n p hp (by exact W9.mpr ((aj 0x11111150100151101101110112013322) _ _ _ _ h lt (ZX _)))
theorem Below.step(N:aM P)(h:Below P R)(s:eR P R){b c:ax}(hb:b∈P.ap)(hc:c∈P.ap)(ht:c.aa∈b.ag.bg)(hn:c.aa∉R)(ne:bC P R c.aa≠bC P R b.aa):Below P (ins R c.aa):=by
 intro S hS hC l hl;rcases gj.mp hl with hl|rfl
 . exact h S hS hC l hl
 . by_cases m:c.aa∈S
   . exact m
   . exfalso;apply ne;have k:=hC b hb _ ht m;have r1:=s.one N;have s1:=hS.one N;rw[lV N r1 s1 (h S hS hC) _ c hc (Zs _),lV N r1 s1 (h S hS hC) _ b hb (Zs _),k]
theorem eR.ins(h:eR P R){l:Int}:eR P (ins R l):=λb hb x hx=>gj.mpr (.inl (h b hb x hx))
theorem dN.same(x:dN P R)(y:dN P S):∀l,l∈R↔l∈S:=λl=>⟨x.below S y.ch y.closed l,y.below R x.ch x.closed l⟩
theorem eM(l:List Int):(bE l).Perm l:=WG l _
theorem hZ(l:List Int):(bE l).Pairwise (· <= ·):=
 (WY (le:=λa b:Int=>decide (a<=b)) (λ_ _ _ g h=>decide_eq_true (V4 (of_decide_eq_true g) (of_decide_eq_true h))) (λa b=>YB.mpr ((Int.le_total a b).imp decide_eq_true decide_eq_true)) l).imp of_decide_eq_true
theorem qN:∀{l m:List Int},l.Pairwise (· <= ·)->m.Pairwise (· <= ·)->l.Perm m->l=m:=λh1 h2 p=>p.eq_of_pairwise (λa b _ _ h1 h2=>by exact ZA ((aj 0x111101011010102) _ _ h1) ((aj 0x111101011010102) _ _ h2)) h1 h2
theorem hW:∀{l m:List Int},l.Nodup->m.Nodup->(∀x,x∈l↔x∈m)->l.Perm m:=λh1 h2 h=>(List.perm_ext_iff_of_nodup h1 h2).mpr h
theorem pH{l m:List Int}(h1:l.Nodup)(h2:m.Nodup)(h:∀x,x∈l↔x∈m):bE l=bE m:=
 qN (hZ _) (hZ _) ((eM l).trans ((hW h1 h2 h).trans (eM m).symm))
theorem cW{l:List Int}{x:Int}:x∈bE l↔x∈l:=(eM l).mem_iff
theorem m9{l:List Int}(h:l.Nodup):(bE l).Nodup:=(eM l).nodup_iff.mpr h
theorem jF{l:List Int}:(bE l).length=l.length:=(eM l).length_eq
end
section
variable {P:aJ}{R:List Int}
theorem dR{k:Int}{v:V}:∀{es:List (Int×V)},(putD es k v).map (·.1)=ins (es.map (·.1)) k
 |[]=>by simp[putD,ins]
 |(m,w)::r=>by
  have ih:=dR (k:=k) (v:=v) (es:=r);rw[putD]
  by_cases e:m=k
  . subst e;simp[ins]
  . rw[if_neg e,Zw,ih];unfold ins
    by_cases z:k∈r.map (·.1)
    . rw[if_pos z,if_pos (by simp[z])];rfl
    . rw[if_neg z,if_neg (by simp only[Zw,Zp,not_or];exact⟨Yo e,z⟩)];rfl
theorem eX{k j:Int}{v:V}:∀{es:List (Int×V)},(putD es k v).lookup j=if j=k then some v else es.lookup j
 |[]=>by
  simp only[putD,ZS,List.lookup_nil]
  by_cases e:j=k
  . simp[e]
  . rw[beq_false_of_ne e,if_neg e]
 |(m,w)::r=>by
  have ih:=eX (k:=k) (j:=j) (v:=v) (es:=r);rw[putD]
  by_cases e:m=k
  . subst e;simp only[if_true,ZS]
    by_cases z:j=m
    . simp[z]
    . rw[beq_false_of_ne z,if_neg z]
  . rw[if_neg e];simp only[ZS,ih]
    by_cases z:j=m
    . subst z;simp[e]
    . rw[beq_false_of_ne z]
theorem bw{α β:Type}{f:α->List β}{k:Nat}:∀{l:List α},(∀x∈l,(f x).length<=k)->(l.flatMap f).length<=l.length*k
 |[],_=>by simp
 |x::l,h=>by
  rw[ZJ,Zb,Ym,Nat.add_mul,Nat.one_mul,Vb];exact ZQ (bw λy hy=>h y (Zh _ hy)) (h x Ze)
theorem cY{es:List (Int×V)}(nd:(es.map (·.1)).Nodup){p:Int×V}(h:p∈es):es.lookup p.1=some p.2:=by
 induction es with
 |nil=>cases h
 |cons x es ih=>
  simp only[Zw,ZC] at nd;rw[ZS];rcases Zp.mp h with rfl|h
  . simp
  . have:p.1≠x.1:=by intro e;exact nd.1 (by rw[<-e];exact Zn.mpr ⟨p,h,rfl⟩)
    rw[beq_false_of_ne this];exact ih nd.2 h
theorem pP{es:List (Int×V)}{k:Int}{v:V}(h:es.lookup k=some v):(k,v)∈es:=by
 induction es with
 |nil=>cases h
 |cons x es ih=>
  rw[ZS] at h
  by_cases e:k=x.1
  . rw[e] at h;simp at h;subst e;subst h;exact Ze
  . rw[beq_false_of_ne e] at h;exact Zh _ (ih h)
noncomputable def bW(R l:List Int):List Int:=l.foldl ins R
theorem eU{l:List Int}:∀{R:List Int} {x:Int},x∈bW R l↔x∈R\/x∈l:=by
 induction l with
 |nil=>intro R x;simp[bW]
 |cons y l ih=>
  intro R x;show x∈bW (ins R y) l↔_;rw[ih,gj,Zp,or_assoc]
theorem kq{l:List Int}:∀{R:List Int},R.Nodup->(bW R l).Nodup:=by
 induction l with
 |nil=>intro R h;exact h
 |cons y l ih=>intro R h;exact ih (jE h)
theorem Bi{l:Int}:(ins R l).length<=R.length+1:=by unfold ins;split<;>simp
theorem uw{l:List Int}:∀{R:List Int},(bW R l).length<=R.length+l.length:=by
 induction l with
 |nil=>intro R;simp[bW]
 |cons y l ih=>
  intro R;show (bW (ins R y) l).length<=_;exact Zf (ih (R:=ins R y)) (Zf (ZO Bi _) (YI (XR ..)))
theorem nj{l m:List Int}:bW R (l++m)=bW (bW R l) m:=by simp[bW]
theorem gQ{l:List Int}{v:Int}:ins (bW R l) v=bW R (l++[v]):=by rw[nj];rfl
noncomputable def cv(l:Int):Int:=0 - l - 2
noncomputable def bT(R:List Int)(b:ax):List Int:=b.ag.aR++(b.ag.bg.filter λt=>R.contains t).map cv
noncomputable def b0(R:List Int)(b:ax):List Int:=b.aN.flatMap (·.args)++bT R b
noncomputable def bG(P:aJ)(R:List Int)(rb:ax):List Int:=(bN P R rb).flatMap (b0 R)
noncomputable def b7(P:aJ)(R:List Int)(b:ax):List Int:=b.aE++(bq P R b.aa).map λc=>cv c.aa
noncomputable def bu(P:aJ)(R:List Int)(rb:ax):List Int:=(bN P R rb).flatMap (b7 P R)
noncomputable def cu(P:aJ)(R:List Int)(b:ax):List Int:=b.aN.flatMap (·.aU)++(bq P R b.aa).map (·.aa)
noncomputable def inner(P:aJ)(R:List Int)(rb:ax):List Int:=(bN P R rb).flatMap (cu P R)
theorem gk{l:Last}:l.bg.length<=2:=by unfold Last.bg;split<;>split<;>simp
theorem qR(N:aM P){b:ax}(hb:b∈P.ap):b.ag.aR.length<=3:=by
 have:=N.mJ b hb;unfold Last.aR;split<;>split<;>simp<;>exact Zf this (by decide)
theorem qq(N:aM P){b:ax}(hb:b∈P.ap):(bT R b).length<=5:=by
 unfold bT;rw[Zb,Za];exact ZQ (qR N hb) (Zf (ZT _ _) gk)
theorem jG(N:aM P){b:ax}(hb:b∈P.ap){o:Op}(ho:o∈b.aN):o.aE.length<=2:=by
 have:=(N.C8 b hb o ho).2.1;unfold Op.aE;split
 . exact(aj 0x112001320013110) _ this
 . split<;>simp
theorem pM(N:aM P){b:ax}(hb:b∈P.ap):b.aE.length<=8:=by
 have h1:=N.gi b hb;have h2:=N.dv b hb;have h3:=bw (f:=Op.aE) (k:=2) (l:=b.aN) (λo ho=>jG N hb ho);have h4:=ZY 2 h2;unfold ax.aE ax.binders;split<;>simp only[Zb,Ym,Yi]<;>first|exact(aj 0x121180211000201223110272133011310013330) b.params.length b.aN.length ((List.flatMap Op.aE b.aN).length) h1 h2 h3|exact(aj 0x121180210001223110272133011310013330) b.params.length b.aN.length ((List.flatMap Op.aE b.aN).length) h1 h2 h3
theorem lj(N:aM P){b:ax}(hb:b∈P.ap):(b0 R b).length<=11:=by
 have h1:=qq (R:=R) N hb;have h2:=N.dv b hb;have h3:=bw (f:=λo:Op=>o.args) (k:=2) (l:=b.aN) (λo ho=>(N.C8 b hb o ho).1);have h4:=ZY 2 h2;unfold b0;simp only[Zb];exact(aj 0x1211b0012123110272133011350013330) _ _ _ h1 h2 h3
theorem s_(N:aM P){b:ax}(hb:b∈P.ap):(b7 P R b).length<=72:=by
 have h1:=pM N hb;have h2:=eJ (R:=R) (l:=b.aa) N;unfold b7;simp only[Zb,Za];exact(aj 0x111004861101230040611380013220) _ _ h1 h2
theorem sZ(N:aM P){b:ax}(hb:b∈P.ap):(cu P R b).length<=70:=by
 have h2:=N.dv b hb;have h3:=bw (f:=λo:Op=>o.aU) (k:=2) (l:=b.aN) (λo ho=>(N.C8 b hb o ho).2.2);have h4:=ZY 2 h2;have h5:=eJ (R:=R) (l:=b.aa) N;unfold cu;simp only[Zb,Za];exact(aj 0x112100466211123004062130102711330013330) _ _ _ h2 h3 h5
theorem xH{f:ax->List Int}(N:aM P){rb:ax}(hr:rb∈P.ap){k:Nat}(h:∀b∈P.ap,(f b).length<=k):((bN P R rb).flatMap f).length<=64*k:=by
 have h1:=bw (f:=f) (k:=k) (l:=bN P R rb) (λb hb=>h b (ct hr hb));have h2:=oQ (R:=R) (rb:=rb) N;have h3:=ZY k h2;exact(aj 0x111214040132140411311013230) _ _ _ h1 h3
end
section
section
variable {Φ:Calls}{γ:String->Option V}{h:Hp}{Q:V->Hp->Prop}{P:aJ}{R:List Int}{y:Lay}
theorem gP{l:Int}:∀{R:List Int},putD (cz R) l (.bool true)=cz (ins R l)
 |[]=>by simp[cz,ins,putD]
 |x::R=>by
  have ih:=gP (l:=l) (R:=R);simp only[cz,Zw,putD] at ih ⊢
  by_cases e:x=l
  . subst e;simp[ins]
  . rw[if_neg e,ih];unfold ins
    by_cases m:l∈R
    . simp[m]
    . simp[m,Yo e]
theorem c_:(cz R).length=R.length:=Za ..
theorem sC(W:Wd Φ γ)(N:aM P)(Y:jO h P y R){b:ax}(hb:b∈P.ap)(q:∀a h',Ext h h'->h a=none->h' a=some (.list ((bT R b).map .int))->Q (.ref a) h'):Φ "last_reads" [.ref y.ad,.ref b.ad] h Q:=by
 refine W.cl rfl rfl ?_;have B:=Y.prog.aT b hb;have bs:=B.self;have ls:=B.ag.self;have ys:=Y.self;have len:(b.ag.aR++b.ag.bg.flatMap λt=>(if R.contains t then [t] else []).map cv).length<big:=by
  rw[<-WZ,fE,Zb,Za];exact Zk (ZQ (qR N hb) (Zf (ZT _ _) (gk (l:=b.ag)))) (by decide)
 nofun;refine qo W B.ag (Zk (N.mJ b hb) (by decide)) λa h1 e1 n1 f1=>?_;nofun;refine ig W (B.ag.ext e1) λc h2 e2 n2 f2=>?_;refine cx W.aW iL V.int b.ag.bg (λt=>(if R.contains t then [t] else []).map cv) (e1.trans e2) n1 f2 (e2.at f1) (λz=>aB n2 f1 z.symm) len (λt σ h3 zs ht E3 X g3 hz K hK hr=>?_) λσ h3 E3 X g3=>?_
 . nofun;refine l_ W (Y.ext X) ?_;refine r_pushM (cv t) rfl g3 ao E3 (Zk (ZD _ _) hz) (λK hK=>?_) λh4 E4 g4=>?_
   . nofun;exact hK
   . nofun;exact hK _ _ E4 (by rw[g4];split<;>rfl)
 . rw[<-WZ,fE] at g3;nofun;exact q _ _ X n1 g3
noncomputable abbrev mark(l:List Int):O:=.dict (cz (bW [] l))
theorem oR{l:List Int}{i:Int}:O.dict (putD (cz (bW [] l)) i (.bool true))=mark (l++[i]):=by rw[gP,gQ]
theorem oS{l:List Int}{n:Nat}(h:l.length<n):(cz (bW [] l)).length<n:=by
 rw[c_];exact Zk uw (by rwa [Yi,Xy])
theorem r_mark{k:C}{ρ:Lo}{st:List V}{Q:Po}{a a':Nat}{j:Hp}{l:List Int}(W:Wd Φ γ)(xs:List Int)(hx:ρ "found"=some (.ref a'))(E:Ext j h)(n:j a'=none)(ha:h a=some (iL xs))(hc:h a'=some (mark l))(ne:a≠a')(lim:(l++xs).length<big)
 (q:∀σ h',Ext (aH a' h) h'->Ext j h'->h' a'=some (mark (l++xs))->wp Φ γ k (mix ["var"] σ ρ) st h' Q):wp Φ γ (.for ["var"] .seq (.az (.bool true)<|.ae "found"<|.ae "var"<|.dq .done) k) ρ (.ref a::st) h Q:=by
 have e:(xs.flatMap λx=>[x])=xs:=(List.flatMap_singleton' xs);refine cx W.aW mark V.int xs (λx=>[x]) E n ha hc ne (by rwa [e]) (λx σ h' zs CP E1 X g hz K hK hr=>?_) λσ h' E1 X g=>q σ h' E1 X (by rw[e] at g;exact g);refine r_lit (r_var hx (r_var rfl (r_setId g (oS (Zk (ZD _ _) hz)) λh2 p=>?_)));exact hK _ _ (p.im E1 ao) (p.at.trans (congrArg some oR))
theorem rS{f:ax->List Int}{k:Nat}(N:aM P){rb:ax}(hr:rb∈P.ap)(hf:∀b∈P.ap,(f b).length<=k)(hk:64*k<big):([]++(bN P R rb).flatMap f).length<big:=Zk (xH N hr hf) hk
theorem jJ{α:Type}{l m:List α}{z n:Nat}(h:z+(l++m).length<n):z+l.length<n:=Zk (ZN (by rw[Zb];exact ZD _ _) _) h
theorem gY{α:Type}{l m:List α}{n:Nat}(h:l.length+m.length<n):(l++m).length<n:=by rwa [Zb]
theorem rX{α:Type}{l m o:List α}{n:Nat}(h:l.length+(m++o).length<n):(l++m++o).length<n:=by rwa [Zo,Zb]
theorem uS(W:Wd Φ γ)(N:aM P)(Y:jO h P y R)(r1:1∈R){rb:ax}(hr:rb∈P.ap)(q:∀a h',Ext h h'->h a=none->h' a=some (.dict (cz (bW [] (bG P R rb))))->Q (.ref a) h'):Φ "own_reads" [.ref y.ad,.int rb.aa] h Q:=by
 refine W.cl rfl rfl ?_;have ys:=Y.self;have Yp:=Y.prog;have ps:=Yp.self;nofun;intro a h1 A;have E1:=A.ext;nofun;refine jC W N (Y.ext E1) r1 hr λc h2 e2 n2 f2=>?_;have Z:=bj (E1.trans e2) A.new;refine cx W.aW mark cj (bN P R rb) (b0 R) (ys:=[]) (E1.trans e2) A.new f2 (e2.at A.at) (λz=>aB n2 A.at z.symm) (rS N hr (λb hb=>lj N hb) (by decide)) (λb σ h3 zs hb E3 X g3 hz K hK MR=>?_) λσ h3 E3 X g3=>?_
 . have cF:=ct hr hb;have B:=Yp.aT b cF;have bs:=B.self;rw[show b0 R b=b.aN.flatMap (·.args)++bT R b from rfl] at hz hK;nofun;refine cx W.aW mark (λo:Op=>.ref o.ad) b.aN (·.args) E3 ao (X.at B.aN) g3 (λz=>aB A.new B.aN z) (gY (jJ hz)) (λo σ h4 Jb ho E4 X4 g4 Fz K4 CV Jr=>?_) λσ h4 E4 X4 g4=>?_
   . have os:=(B.op o ho).self;have oa:=(B.op o ho).args;nofun;refine r_mark W o.args rfl E4 ao ((Z.trans X4).at oa) g4 (λz=>aB A.new oa z) (gY Fz) λσ h5 E5 X5 g5=>?_;exact r_done (CV _ _ X5 g5)
   . nofun;refine sC W N (Y.ext (Z.trans X4)) cF λu h5 e5 n5 f5=>?_;refine r_mark W (bT R b) rfl (X4.trans e5) ao f5 (e5.at g4) (λz=>aB n5 g4 z.symm) (rX hz) λσ h6 E6 X6 g6=>?_;exact r_done (hK _ _ X6 (by rwa [Zo] at g6))
 . nofun;exact q _ _ X A.new g3
theorem uT(W:Wd Φ γ)(N:aM P)(Y:jO h P y R)(r1:1∈R){rb:ax}(hr:rb∈P.ap)(q:∀a h',Ext h h'->h a=none->h' a=some (.dict (cz (bW [] (bu P R rb))))->Q (.ref a) h'):Φ "own_given" [.ref y.ad,.int rb.aa] h Q:=by
 refine W.cl rfl rfl ?_;have ys:=Y.self;have Yp:=Y.prog;have ps:=Yp.self;nofun;intro a h1 A;have E1:=A.ext;nofun;refine jC W N (Y.ext E1) r1 hr λc h2 e2 n2 f2=>?_;have Z:=bj (E1.trans e2) A.new;refine cx W.aW mark cj (bN P R rb) (b7 P R) (ys:=[]) (E1.trans e2) A.new f2 (e2.at A.at) (λz=>aB n2 A.at z.symm) (rS N hr (λb hb=>s_ N hb) (by decide)) (λb σ h3 zs hb E3 X g3 hz K hK MR=>?_) λσ h3 E3 X g3=>?_
 . have cF:=ct hr hb;have B:=Yp.aT b cF;have bs:=B.self;rw[show b7 P R b=b.aE++(bq P R b.aa).map (λc=>cv c.aa) from rfl] at hz hK;nofun;refine pN W (B.ext X) (Zk (N.gi b cF) (by decide)) (Zk (pM N cF) (by decide)) λu h5 e5 n5 f5=>?_;refine r_mark W b.aE rfl (E3.trans e5) ao f5 (e5.at g3) (λz=>aB n5 g3 z.symm) (gY (jJ hz)) λσ h6 E6 X6 g6=>?_;nofun;refine jD W N (Y.ext (Z.trans X6)) λw h7 e7 n7 f7=>?_;refine cx W.aW mark cj (bq P R b.aa) (λc=>[cv c.aa]) (X6.trans e7) ao f7 (e7.at g6) (λz=>aB n7 g6 z.symm) (by rw[<-XH];exact rX hz) (λo σ h8 Jb ho E8 X8 g8 UW K8 hK8 hr8=>?_) λσ h8 E8 X8 g8=>?_
   . nofun;refine r_setId g8 (oS (Zk (ZD _ _) UW)) λh9 p=>?_;exact r_done (hK8 _ _ (p.im E8 ao) (p.at.trans (congrArg some oR)))
   . exact r_done (hK _ _ X8 (by rwa [<-XH,Zo] at g8))
 . nofun;exact q _ _ X A.new g3
theorem ql(W:Wd Φ γ)(N:aM P)(Y:jO h P y R)(r1:1∈R){rb:ax}(hr:rb∈P.ap)(q:∀a h',Ext h h'->h a=none->h' a=some (.list ((inner P R rb).map .int))->Q (.ref a) h'):Φ "inner_units" [.ref y.ad,.int rb.aa] h Q:=by
 refine W.cl rfl rfl ?_;have ys:=Y.self;have Yp:=Y.prog;have ps:=Yp.self;nofun;intro a h1 A;have E1:=A.ext;nofun;refine jC W N (Y.ext E1) r1 hr λc h2 e2 n2 f2=>?_;have Z:=bj (E1.trans e2) A.new;refine cx W.aW iL cj (bN P R rb) (cu P R) (ys:=[]) (E1.trans e2) A.new f2 (e2.at A.at) (λz=>aB n2 A.at z.symm) (rS N hr (λb hb=>sZ N hb) (by decide)) (λb σ h3 zs hb E3 X g3 hz K hK MR=>?_) λσ h3 E3 X g3=>?_
 . have cF:=ct hr hb;have B:=Yp.aT b cF;have bs:=B.self;rw[show cu P R b=b.aN.flatMap (·.aU)++(bq P R b.aa).map (·.aa) from rfl] at hz hK;nofun;refine cx W.aW iL (λo:Op=>.ref o.ad) b.aN (·.aU) E3 ao (X.at B.aN) g3 (λz=>aB A.new B.aN z) (gY (jJ hz)) (λo σ h4 Jb ho E4 X4 g4 Fz K4 CV Jr=>?_) λσ h4 E4 X4 g4=>?_
   . have os:=(B.op o ho).self;have oa:=(B.op o ho).aU;nofun;refine r_extendi g4 ((Z.trans X4).at oa) (λz=>aB A.new oa z.symm) (ZH Fz) λh5 p=>?_;exact r_done (CV _ _ (p.im E4 ao) p.at)
   . nofun;refine jD W N (Y.ext (Z.trans X4)) λu h5 e5 n5 f5=>?_;have g5:=e5.at g4;have f5:h5 u=some (iL ((bq P R b.aa).map (·.aa))):=by rw[f5,iL,Zt];rfl
     refine r_extendi g5 f5 (aB n5 g4) (by rw[<-Zb];exact ZH (rX hz)) λh6 p=>?_;exact r_done (hK _ _ (p.im (X4.trans e5) ao) (by rw[<-Zo];exact p.at))
 . nofun;exact q _ _ X A.new g3
end
end
section
section
variable {Φ:Calls}{γ:String->Option V}{h:Hp}{Q:V->Hp->Prop}{P:aJ}{R:List Int}{y:Lay}
theorem r_setIf(i:Int){k e:C}{ρ:Lo}{st:List V}{Q:Po}{t:Bool}{a:Nat}{j:Hp}{l:List Int}(g:h a=some (mark l))(n:j a=none)(E:Ext j h)(hl:l.length<big)
 (he:∀K:Po,wp Φ γ (.dq .done) ρ (.int i:: .ref a:: .bool true::st) h K->wp Φ γ e ρ (.bool true::st) h K)
 (q:∀h',Ext j h'->h' a=some (mark (l++if t then [i] else []))->wp Φ γ k ρ st h' Q):wp Φ γ (.ite (.az (.bool true) e) .done k) ρ (.bool t::st) h Q:=
 r_ite (λc=>r_lit (he _ (r_setId g (oS hl) λh' p=>q h' (p.im E n) (by rw[if_pos c];exact p.at.trans (congrArg some oR))))) λc=>q h E (by rw[c,if_neg Yd,Zu];exact g)
noncomputable def fj(b:ax):List Int:=(if b.aI== "fun" then [b.aa] else [])++if b.ag.bD== "call"&&decide (0<=b.ag.to) then [b.ag.to] else []
theorem u7{b:ax}{l:Int}:l∈fj b↔Dt b l:=by
 unfold fj Dt;rw[Zg]
 by_cases c:b.aI="fun"<;>by_cases c2:b.ag.bD="call"<;>by_cases c3:0<=b.ag.to<;>simp[c,c2,c3]
theorem uQ{b:ax}:(fj b).length<=2:=by
 unfold fj;rw[Zb];exact ZQ (fR _) (fR _)
structure mO(P:aJ)(R:List Int):Prop where
 sub:Sub P R
 ch:eR P R
 below:Below P R
theorem mO.start(N:aM P):mO P (bW [] (P.ap.flatMap fj)):=by
 have mm:∀l,l∈bW [] (P.ap.flatMap fj)↔∃b∈P.ap,Dt b l:=λl=>by rw[eU,Zm];simp only[u7,Ys,false_or]
 refine⟨⟨kq Yl,λl hl=>?_⟩,λb hb l s=>(mm l).mpr ⟨b,hb,s⟩,λS hS _ l hl=>?_⟩
 . obtain ⟨b,hb,⟨_,e⟩|⟨_,z,e⟩⟩:=(mm l).mp hl
   . exact⟨b,hb,e.symm⟩
   . obtain ⟨c,hc,ec,-⟩:=N.vA b hb b.ag.to (by unfold Last.bg;rw[if_pos z];exact Ze);exact⟨c,hc,ec.trans e.symm⟩
 . refine oea ((mm l).mp hl) λb hb s=>?_;exact hS b hb l s
noncomputable def OR(P:aJ)(R:List Int)(b:ax)(t:Int):Prop:=t∉R->bC P R t=bC P R b.aa
structure FG(P:aJ)(y:Lay)(H:Hp)(R:List Int)(D:Prop)(ρ:Lo)(h':Hp)(R':List Int)(g':Bool):Prop where
 ext:Ext H h'
 roots:h' y.rA=some (.dict (cz R'))
 ok:mO P R'
 gr:ρ "grows"=some (.bool g')
 more:g'=true->R.length<R'.length
 same:g'=false->R'=R/\D
theorem sE(W:Wd Φ γ)(N:aM P)(Y:PR (aH y.rA h) P)(sl:aH y.rA h y.ad=some (.inst "Layout" (tV P y)))(r:h y.rA=some (.dict []))
 (q:∀h' R,Ext (aH y.rA h) h'->h' y.rA=some (.dict (cz R))->dN P R->Q .none h'):Φ "find_roots" [.ref y.ad] h Q:=by
 refine W.cl rfl rfl ?_;have g1:=W.AN;have g2:=W.Bm;have ps:=Y.self;have X0:Ext (aH y.rA h) h:=aV;nofun;refine fN W N (Y.ext X0) λa h2 e2 n2 f2=>?_;have Z:=bj (X0.trans e2) ao;have fl:([]++P.ap.flatMap fj).length<big:=Zk (bw λb _=>uQ) (ZK (Xr N.cH (by decide)) (show 64*2<big by decide));refine cx W.aW mark cj P.ap fj (ys:=[]) (X0.trans e2) ao f2 (e2.at r) (λz=>aB n2 r z.symm) fl (λb σ h3 zs hb E3 X g3 hz K hK hr=>?_) λσ h3 E3 X g3=>?_
 . have bs:=(Y.aT b hb).self;have ls:=(Y.aT b hb).ag.self;have ys:=X.at sl;unfold fj at hz hK;nofun;refine r_setIf b.aa g3 ao E3 (Zk (ZD _ _) hz) (λK hK=>?_) λh4 E4 g4=>?_
   . nofun;exact hK
   have X4:=Z.trans E4;nofun;refine r_and (decide (0<=b.ag.to)) (λ_ K hK=>?_) ?_
   . nofun;exact hK
   refine r_setIf b.ag.to g4 ao E4 (gY (jJ hz)) (λK hK=>?_) λh5 E5 g5=>?_
   . nofun;exact hK
   . nofun;exact hK _ _ E5 (by rw[<-Zo];exact g5)
 nofun;obtain ⟨R0,g3,S0⟩:∃R0,h3 y.rA=some (.dict (cz R0))/\mO P R0:=⟨_,g3,mO.start N⟩;refine kT W.aW (λn ρ h'=>∃R g,Ext (aH y.rA h) h'/\h' y.rA=some (.dict (cz R))/\mO P R/\ρ "grows"=some (.bool g)/\(g=false->oI P R)/\n=2*(64 - R.length)+(if g=true then 1 else 0)) (2*(64 - R0.length)+1) ⟨R0,true,X,g3,S0,rfl,λz=>Bool.noConfusion z,rfl⟩ ?_;intro n σ4 h4 z_;refine oeeaaaaa z_ λR g X4 r4 S lg cl nP=>?_;subst nP;refine⟨g,λK hK=>?_,?_,λz=>?_⟩
 . nofun;exact hK
 . rintro rfl K hK;have r1:=S.ch.one N;nofun;refine fN W N (Y.ext X4) λa h6 e6 n6 f6=>?_;have Fx:a≠y.rA:=λz=>aB n6 r4 z.symm;have Z6:=bj (X4.trans e6) ao;refine bO W.aW cj P.ap (λd ρ h'=>∃R' g',FG P y (aH y.rA h6) R (∀b∈d,∀t∈b.ag.bg,OR P R b t) ρ h' R' g') f6 ⟨R,false,aV,e6.at r4,S,rfl,λz=>Bool.noConfusion z,λ_=>⟨rfl,λ_ z=>nomatch z⟩⟩ (λd ρ h' lI=>oee lI λR' g' I=>I.ext.at (aF Fx f6)) ?_ ?_
   . intro d b rr σ h7 hd hb z_ K2 rf _;refine oee z_ λR' g' I=>?_;have X7:=Z6.trans I.ext;have bs:=(Y.aT b hb).self;have ls:=(Y.aT b hb).ag.self;nofun;refine ig W ((Y.aT b hb).ag.ext X7) λa2 h8 e8 n8 f8=>?_;have Pz:a2≠y.rA:=λz=>aB n8 I.roots z.symm;have Z8:=bj (I.ext.trans e8) ao;refine bO W.aW V.int b.ag.bg (λd2 ρ h'=>∃R' g',FG P y (aH y.rA h8) R ((∀b∈d,∀t∈b.ag.bg,OR P R b t)/\∀t∈d2,OR P R b t) ρ h' R' g') f8 ⟨R',g',aV,e8.at I.roots,I.ok,I.gr,I.more,λz=>⟨(I.same z).1,(I.same z).2,λ_ z=>nomatch z⟩⟩ (λd ρ h' lH=>oee lH λR' g' I=>I.ext.at (aF Pz f8)) ?_ ?_
     . intro d2 t Ji σ h9 vH ht z_ K3 EA _;refine oee z_ λR9 g9 J=>?_;have X9:=Z6.trans (Z8.trans J.ext);have r9:=J.roots;have l9:=J.gr;have QE:=J.ok.ch.one N;have ys:=X9.at sl;have Y9:jO h9 P y R9:=⟨Y.ext X9,ys,r9⟩;refine oeaa (N.vA b hb t ht) λc hc bV IV=>?_;subst bV;nofun;refine r_and (bC P R9 c.aa != bC P R9 b.aa) (λ_ K hK=>?_) ?_
       . nofun;refine lZ W N Y9 QE hc ?_;nofun;refine lZ W N Y9 QE hb ?_;nofun;exact hK
       refine r_ite (λz=>?_) λz=>?_
       . refine oa (Zj.mp z) λMv ne=>?_;have Mv:=j_ (nt Mv);nofun;refine r_setId r9 ?_ λiq p=>?_
         . rw[c_];exact Zk (J.ok.sub.len N) (ZK N.cH (by decide))
         nofun;refine EA _ _ ⟨ins R9 c.aa,true,p.im J.ext ao,p.at.trans (congrArg (λz=>some (O.dict z)) gP),⟨J.ok.sub.ins hc,J.ok.ch.ins,J.ok.below.step N J.ok.ch hb hc ht Mv (bne_iff_ne.mp ne)⟩,rfl,λ_=>?_,λz=>Bool.noConfusion z⟩;rw[xM Mv]
         cases g9 with
         |true=>exact XV (J.more rfl)
         |false=>rw[(J.same rfl).1];exact YF _
       . nofun;refine EA _ _ ⟨R9,g9,J.ext,r9,J.ok,l9,J.more,λzg=>⟨(J.same zg).1,(J.same zg).2.1,λu hu=>?_⟩⟩;rcases Zg.mp hu with hu|hu
         . exact(J.same zg).2.2 u hu
         . rw[Zc.mp hu];intro nu;rw[<-(J.same zg).1] at nu ⊢;rcases Wh.mp z with z|z
           . exact absurd (ik (nf z)) nu
           . exact bne_eq_false_iff_eq.mp z
     . intro σ h9 z_;refine oee z_ λR9 g9 J=>?_;refine r_done (rf _ _ ⟨R9,g9,Z8.trans J.ext,J.roots,J.ok,J.gr,J.more,λzg=>⟨(J.same zg).1,λc hc=>?_⟩⟩);rcases Zg.mp hc with hc|hc
       . exact(J.same zg).2.1 c hc
       . rw[Zc.mp hc];exact(J.same zg).2.2
   . intro σ h7 z_;refine oee z_ λR' g' I=>?_;refine r_done (hK _ _ _ ?_ ⟨R',g',Z6.trans I.ext,I.roots,I.ok,I.gr,λzg=>?_,rfl⟩)
     . have h1:=I.ok.sub.len N;have h2:=N.cH
       cases g' with
       |true=>have:=I.more rfl;simp only[if_true];exact(aj 0x2022110310242102102424013120040630040611212511014340) _ _ _ _ this (YV ((aj 0x111004060130040611411013220) _ _ h1 h2)) (Wu (Zs _))
       |false=>rw[(I.same rfl).1];exact YF _
     . refine oa (I.same zg) λcw k=>?_;subst cw;exact k
 . subst z;exact r_done (q _ _ X4 r4 ⟨S.sub,S.ch,cl rfl,S.below⟩)
end
end
section
variable {P:aJ}{R:List Int}
theorem jp{o:Op}:o∈P.aN↔∃b∈P.ap,o∈b.aN:=Zm
structure Made(os:List Op)(es:List (Int×V)):Prop where
 nd:(es.map (·.1)).Nodup
 val:∀p∈es,∃o∈os,p.1∈o.aE/\p.2= .ref o.ad
 has:∀o∈os,∀v∈o.aE,v∈es.map (·.1)
theorem Made.nil:Made [] []:=⟨by simp,by simp,by simp⟩
theorem mem_putD{k:Int}{v:V}{p:Int×V}:∀{es:List (Int×V)},p∈putD es k v->p=(k,v)\/p∈es
 |[],h=>by simp[putD] at h;exact .inl h
 |(m,w)::r,h=>by
  rw[putD] at h;split at h
  . rename_i e;rcases Zp.mp h with h|h
    . exact .inl h
    . exact .inr (Zh _ h)
  . rcases Zp.mp h with h|h
    . exact .inr (by rw[h];exact Ze)
    . rcases mem_putD h with h|h
      . exact .inl h
      . exact .inr (Zh _ h)
structure ki(os:List Op)(o:Op)(vs:List Int)(es:List (Int×V)):Prop where
 nd:(es.map (·.1)).Nodup
 val:∀p∈es,∃o'∈os++[o],p.1∈o'.aE/\p.2= .ref o'.ad
 has:∀o∈os,∀v∈o.aE,v∈es.map (·.1)
 now:∀v∈vs,v∈es.map (·.1)
theorem Made.start{os:List Op}{es:List (Int×V)}{o:Op}(m:Made os es):ki os o [] es:=
 ⟨m.nd,λp h=>by refine oea (m.val p h) λo' h1 h2=>?_;exact⟨o',Zd _ h1,h2⟩,m.has,by simp⟩
theorem ki.put{os:List Op}{es:List (Int×V)}{o:Op}{vs:List Int}{v:Int}(m:ki os o vs es)(hv:v∈o.aE):ki os o (vs++[v]) (putD es v (.ref o.ad)):=by
 refine⟨by rw[dR];exact jE m.nd,λp h=>?_,λo' ho u hu=>by rw[dR];exact gj.mpr (.inl (m.has o' ho u hu)),λu hu=>?_⟩
 . rcases mem_putD h with rfl|h
   . exact⟨o,by simp,hv,rfl⟩
   . exact m.val p h
 . rw[dR];rcases Zg.mp hu with hu|hu
   . exact gj.mpr (.inl (m.now u hu))
   . simp at hu;exact gj.mpr (.inr hu)
theorem ki.fin{os:List Op}{es:List (Int×V)}{o:Op}(m:ki os o o.aE es):Made (os++[o]) es:=
 ⟨m.nd,m.val,λo' ho v hv=>by
  rcases Zg.mp ho with ho|ho
  . exact m.has o' ho v hv
  . simp at ho;subst ho;exact m.now v hv⟩
theorem DK(N:aM P):P.aN.length<=64*3:=by
 have h1:=bw (f:=λb:ax=>b.aN) (k:=3) (l:=P.ap) (λb hb=>N.dv b hb);have h2:=N.cH;unfold aJ.aN;exact(aj 0x311304040130040611411037013220) _ _ h1 h2
theorem Ck(N:aM P){es:List (Int×V)}(nd:(es.map (·.1)).Nodup)(val:∀p∈es,∃o∈P.aN,p.1∈o.aE):es.length<=64*3*2:=by
 have h1:=dB (m:=P.aN.flatMap Op.aE) nd (λx hx=>by
  refine oea (Zn.mp hx) λp hp bV=>?_;subst bV;refine oea (val p hp) λo ho h=>?_;exact Zm.mpr ⟨o,ho,h⟩)
 have h2:=bw (f:=Op.aE) (k:=2) (l:=P.aN) (λo ho=>by refine oea (jp.mp ho) λb hb ho=>?_;exact jG N hb ho);have h3:=DK N;rw[Za] at h1;have:=ZY 2 h3;exact(aj 0x211130404027013304042132102711311013330) _ _ _ h1 h2 h3
theorem aM.Ki(N:aM P){o o':Op}(ho:o∈P.aN)(je:o'∈P.aN){v:Int}(h:v∈o.aE)(h':v∈o'.aE):o=o':=by
 refine oea (jp.mp ho) λb hb ho=>?_;refine oea (jp.mp je) λc hc je=>?_;exact N.RF b hb o ho c hc o' je v h h'
theorem i5(N:aM P){o:Op}(ho:o∈P.aN)(w:o.bD="const"):o.aE=[o.result]:=by
 refine oea (jp.mp ho) λb hb ho=>?_;unfold Op.aE;rw[w,if_neg (by decide),if_pos (N.Dh b hb o ho w)]
structure kO(P:aJ)(ks:List Int)(es:List (Int×V)):Prop where
 nd:(es.map (·.1)).Nodup
 iff:∀v,v∈es.map (·.1)↔v∈ks/\∃o∈P.aN,v∈o.aE/\aL o=true
theorem kO.put{ks:List Int}{es:List (Int×V)}{o:Op}{v:Int}{u:V}(a:kO P ks es)(ho:o∈P.aN)(hv:v∈o.aE)(s:aL o=true):kO P (ks++[v]) (putD es v u):=by
 refine⟨by rw[dR];exact jE a.nd,λw=>?_⟩;rw[dR,gj,a.iff];constructor
 . rintro (⟨h1,h2⟩|rfl)
   . exact⟨Zd _ h1,h2⟩
   . exact⟨by simp,o,ho,hv,s⟩
 . intro z_;refine oa z_ λh1 h2=>?_;rcases Zg.mp h1 with h1|h1
   . exact .inl ⟨h1,h2⟩
   . simp at h1;exact .inr h1
theorem kO.skip(N:aM P){ks:List Int}{es:List (Int×V)}{o:Op}{v:Int}(a:kO P ks es)(ho:o∈P.aN)(hv:v∈o.aE)(s:aL o≠true):kO P (ks++[v]) es:=by
 refine⟨a.nd,λw=>?_⟩;rw[a.iff];constructor
 . intro z_;refine oa z_ λh1 h2=>?_;exact⟨Zd _ h1,h2⟩
 . intro z_;refine oaeaa z_ λh1 o' h2 h3 h4=>?_;rcases Zg.mp h1 with h1|h1
   . exact⟨h1,o',h2,h3,h4⟩
   . simp at h1;subst h1;rw[N.Ki ho h2 hv h3] at s;exact absurd h4 s
noncomputable def t0(P:aJ)(es:List (Int×V)):Prop:=(es.map (·.1)).Nodup/\∀v,v∈es.map (·.1)↔v∈simple P
theorem pq(N:aM P){v:Int}:v∈simple P↔∃o∈P.aN,v∈o.aE/\aL o=true:=by
 unfold simple;simp only[Zn,ZG];constructor
 . intro z_;refine oea z_ λo nP wY=>?_;refine oa nP λh1 h2=>?_;try clear nP;subst wY
   have w:o.bD="const":=by unfold aL at h2;simp at h2;exact h2.1
   exact⟨o,h1,by rw[i5 N h1 w];simp,h2⟩
 . intro z_;refine oeaa z_ λo h1 h2 h3=>?_;have w:o.bD="const":=by unfold aL at h3;simp at h3;exact h3.1
   rw[i5 N h1 w] at h2;simp at h2;exact⟨o,⟨h1,h3⟩,h2.symm⟩
theorem kO.fin(N:aM P){ms es:List (Int×V)}(m:Made P.aN ms)(a:kO P (ms.map (·.1)) es):t0 P es:=
 ⟨a.nd,λv=>by
  rw[a.iff,pq N];constructor
  . intro z_;refine oa z_ λ_ h=>?_;exact h
  . intro z_;refine oeaa z_ λo h1 h2 h3=>?_;exact⟨m.has o h1 v h2,o,h1,h2,h3⟩⟩
end
section
section
variable {Φ:Calls}{γ:String->Option V}{h:Hp}{Q:V->Hp->Prop}{P:aJ}{R:List Int}{y:Lay}
theorem qU{a x:Nat}(n:h x=none):aH a h x=none:=by unfold aH;split;rfl;exact n
theorem y5(W:Wd Φ γ)(B:ke γ h){v:V}{p:Bool}(d:EH h v p)(q:Q (.bool (!p)) h):Φ "is_atom" [v] h Q:=by
 refine W.cl rfl rfl ?_;refine oea B.atoms λt gt ht=>?_;have ht:h t=some (.tup (["boolean","number","symbol","char","empty","unspecified"].map sv)):=ht;nofun;refine W.cl rfl rfl ?_
 cases p with
 |true=>
  refine oeea d λa fs bV f=>?_;try clear d;subst bV
  nofun;exact r_ints ht (r_ret q)
 |false=>
  rcases d with rfl|rfl|⟨a,rfl,f⟩
  . nofun;exact r_ints ht (r_ret q)
  . nofun;exact r_ints ht (r_ret q)
  . nofun;exact r_ints ht (r_ret q)
noncomputable def tR(ps:List (Int×V)):List (Int×V):=ps.foldl (λes p=>putD es p.1 p.2) []
noncomputable abbrev tX(ps:List (Int×V)):O:=.dict (tR ps)
theorem wC{ps:List (Int×V)}{k:Int}{v:V}:O.dict (putD (tR ps) k v)=tX (ps++[(k,v)]):=by rw[tX,tR,tR,V5];rfl
theorem BW{es:List (Int×V)}{k:Int}{v:V}:(putD es k v).length<=es.length+1:=by
 induction es with
 |nil=>exact Zs _
 |cons p r ih=>obtain ⟨a,u⟩:=p;rw[putD];split;exact Yj _;exact YG ih
theorem yW{ps es:List (Int×V)}:(ps.foldl (λes p=>putD es p.1 p.2) es).length<=es.length+ps.length:=by
 induction ps generalizing es with
 |nil=>exact Zs _
 |cons p ps ih=>exact Zf ih (by rw[Ym,Vb ps.length,<-Yq];exact ZO BW _)
theorem BV{ps:List (Int×V)}{n:Nat}(h:ps.length<n):(tR ps).length<n:=Zk yW (by rwa [Yi,Xy])
noncomputable def jo(o:Op):List (Int×V):=o.aE.map λv=>(v,V.ref o.ad)
theorem xL{o:Op}{os:List Op}:∀(vs done:List Int) (es:List (Int×V)),done++vs=o.aE->ki os o done es->Made (os++[o]) ((vs.map λv=>(v,V.ref o.ad)).foldl (λes p=>putD es p.1 p.2) es)
 |[],done,es,e,m=>by rw[Zu] at e;subst e;exact m.fin
 |v::vs,done,es,e,m=>xL vs (done++[v]) _ (by rw[Zo];exact e) (m.put (e▸Zi _ Ze))
theorem uk:∀(os done:List Op) (es:List (Int×V)),Made done es->Made (done++os) ((os.flatMap jo).foldl (λes p=>putD es p.1 p.2) es)
 |[],done,es,m=>by rw[Zu];exact m
 |o::os,done,es,m=>by
  rw[ZJ,V5,show done++o::os=(done++[o])++os from(List.append_cons ..)];exact uk os _ _ (xL o.aE [] es rfl m.start)
theorem BY(W:Wd Φ γ)(N:aM P)(Y:PR h P)(q:∀a h' es,Ext h h'->h a=none->h' a=some (.dict es)->Made P.aN es->Q (.ref a) h'):Φ "makers" [.ref P.ad] h Q:=by
 refine W.cl rfl rfl ?_;have ps:=Y.self;have pl:∀b∈P.ap,(b.aN.flatMap jo).length<=6:=λb hb=>Zf (bw (k:=2) λo ho=>by rw[jo,Za];exact jG N hb ho) (ZY 2 (N.dv b hb));have lim:([]++P.ap.flatMap λb:ax=>b.aN.flatMap jo).length<big:=Zk (bw pl) (ZK (Xr N.cH (by decide)) (show 64*6<big by decide));nofun;intro a h1 A;have E1:=A.ext;nofun;refine fN W N (Y.ext E1) λc h2 e2 n2 f2=>?_;have Z:=bj (E1.trans e2) A.new;refine cx W.aW tX cj P.ap (λb=>b.aN.flatMap jo) (ys:=[]) (E1.trans e2) A.new f2 (e2.at A.at) (λz=>aB n2 A.at z.symm) lim (λb σ h3 zs hb E3 X g3 hz K hK hr=>?_) λσ h3 E3 X g3=>?_
 . have B:=Y.aT b hb;have bs:=B.self;nofun;refine cx W.aW tX (λo:Op=>.ref o.ad) b.aN jo E3 ao (X.at B.aN) g3 (λz=>aB A.new B.aN z) (gY hz) (λo σ h4 Jb ho E4 X4 g4 Fz K4 CV Jr=>?_) λσ h4 E4 X4 g4=>?_
   . have O:=B.op o ho;have os:=O.self;nofun;refine iZ W (O.ext (Z.trans X4)) λu h5 e5 n5 f5=>?_;refine cx W.aW tX V.int o.aE (λv=>[(v,V.ref o.ad)]) (E4.trans e5) ao f5 (e5.at g4) (λz=>aB n5 g4 z.symm) (by rw[<-XH];exact gY Fz) (λv σ h6 zs3 hv E6 X6 g6 UX K6 hK6 hr6=>?_) λσ h6 E6 X6 g6=>?_
     . nofun;refine r_setId g6 (BV (Zk (ZD _ _) UX)) λh7 p=>?_;exact r_done (hK6 _ _ (p.im E6 ao) (p.at.trans (congrArg some wC)))
     . exact r_done (CV _ _ X6 (by rwa [<-XH] at g6))
   . exact r_done (hK _ _ X4 g4)
 . nofun;refine q _ _ _ X A.new g3 ?_;have:=uk P.aN [] [] Made.nil;rw[XO,aJ.aN,VQ] at this;exact this
theorem sF(W:Wd Φ γ)(N:aM P)(Y:PR (aH y.aA h) P)(sl:aH y.aA h y.ad=some (.inst "Layout" (tV P y)))(B:ke γ (aH y.aA h))(r:h y.aA=some (.dict []))
 (q:∀h' es,Ext (aH y.aA h) h'->h' y.aA=some (.dict es)->t0 P es->Q .none h'):Φ "find_atoms" [.ref y.ad] h Q:=by
 refine W.cl rfl rfl ?_;have X0:Ext (aH y.aA h) h:=aV;nofun;refine BY W N (Y.ext X0) λa h1 ms e1 n1 f1 M=>?_;have Fx:a≠y.aA:=λz=>aB n1 r z.symm;have Z:Ext (aH y.aA h) (aH a (aH y.aA h1)):=bj (bj (X0.trans e1) ao) ((hide_ne Fx).trans n1);have na:aH a (aH y.aA h1) y.aA=none:=(hide_ne Fx.symm).trans ao;nofun;refine oW W.aW f1 (λd ρ h'=>Ext (aH a (aH y.aA h1)) h'/\h' a=some (.eA ms)/\∃es,h' y.aA=some (.dict es)/\kO P (d.map (·.1)) es) (λh2 p=>⟨p.im (aV.trans aV) ao,p.at,[],p.to Fx.symm (e1.at r),⟨Yl,λv=>by simp⟩⟩) (λd ρ h' I=>I.2.1) ?_ ?_
 . intro d x rr σ h3 hd hx z_ K hK;refine oaaea z_ λE3 f3 es g3 a3=>?_;have X:=Z.trans E3;refine oeaa (M.val x hx) λo ho hv eo=>?_;refine oea (jp.mp ho) λb hb W_=>?_;have O:=(Y.aT b hb).op o W_;have os:=O.self;have lk:=cY M.nd hx;rw[eo] at lk;have hlen:es.length<big:=Zk (Ck N a3.nd λp hp=>by
    refine oaeaa ((a3.iff p.1).mp (Zn.mpr ⟨p,hp,rfl⟩)) λ_ o h1 h2 _=>?_;exact⟨o,h1,h2⟩) (by decide)
   have ys:=X.at sl;rw[Zq] at hK;nofun;refine r_ite (λw=>?_) λw=>?_
   . have w:=beq_iff_eq.mp w;nofun;refine y5 W (B.ext X) ((O.dat w).ext X) ?_;nofun
     cases hp:o.tI with
     |true=>
      nofun;refine r_done (hK _ _ ⟨E3,f3,es,g3,a3.skip N ho hv ?_⟩);rw[aL,hp,Bool.not_true,XX];exact Yd
     |false=>
      nofun;intro h4 p;nofun;refine r_done (hK _ _ ⟨p.im E3 na,p.to Fx f3,_,p.at,a3.put ho hv ?_⟩);rw[aL,hp,w];rfl
   . nofun;refine r_done (hK _ _ ⟨E3,f3,es,g3,a3.skip N ho hv ?_⟩);rw[aL,w,UA];exact Yd
 . intro σ h3 h4 z_ p;refine oaaea z_ λE3 f3 es g3 a3=>?_;exact r_done (q h4 es (p.im (Z.trans E3) (qU n1)) (p.to Fx.symm g3) (a3.fin N M))
end
end
section
variable {P:aJ}{R A:List Int}
noncomputable def af(P:aJ)(R:List Int):List ax:=P.ap.filter λb=>R.contains b.aa
theorem ay{b:ax}:b∈af P R↔b∈P.ap/\b.aa∈R:=by unfold af;rw[ZG];simp
theorem de(N:aM P):((af P R).map (·.aa)).Pairwise (· < ·):=N.asc.sublist (YQ.map _)
theorem gn(N:aM P)(S:Sub P R):bE R=(af P R).map (·.aa):=by
 refine qN (hZ _) ((de N).imp λh=>by exact(aj 0x111101011011102) _ _ h) ((eM R).trans (hW S.1 ((de N).imp λh=>by exact λcy=>(aj 0x101b1101211011202) _ _ h cy) λx=>?_));rw[Zn];constructor
 . intro h;refine oea (S.2 x h) λb hb bV=>?_;subst bV;exact⟨b,ay.mpr ⟨hb,h⟩,rfl⟩
 . intro z_;refine oea z_ λb hb nP=>?_;subst nP;exact(ay.mp hb).2
theorem dK(N:aM P):(af P R).length<64:=Zk (ZT _ _) N.cH
theorem fY(N:aM P)(S:eR P R){rb:ax}(hr:rb∈P.ap){o:Int}(h:o∈inner P R rb):∃c∈af P R,c.aa=o:=by
 refine oea (Zm.mp h) λb hb h=>?_;have cF:=ct hr hb;rcases Zg.mp h with h|h
 . refine oea (Zm.mp h) λp hp h=>?_;refine oeaa (N.rest b cF p hp o h) λc hc e s=>?_;exact⟨c,ay.mpr ⟨hc,S.fun hc s⟩,e⟩
 . refine oea (Zn.mp h) λc hc cw=>?_;subst cw;refine oa (ZG.mp hc) λh1 h2=>?_;simp at h2;exact⟨c,ay.mpr ⟨h1,h2.1⟩,rfl⟩
inductive bI (P:aJ) (R:List Int):ax->Int->Prop
 |here {b:ax} {x:Int}:x∈bG P R b->x∉bu P R b->bI P R b x
 |there {b c:ax} {x:Int}:c.aa∈inner P R b->c∈af P R->bI P R c x->x∉bu P R b->bI P R b x
noncomputable def kZ(P:aJ)(R:List Int):List Int:=P.ap.flatMap (bG P R)
noncomputable def K:Nat:=64*(64*11)
theorem lq(N:aM P):(kZ P R).length<=K:=by
 have h1:=bw (f:=bG P R) (k:=64*11) (l:=P.ap) (λb hb=>xH N hb λc hc=>lj N hc);exact Zf h1 (ZY _ (ZH N.cH))
theorem bI.read{b:ax}{x:Int}(hb:b∈P.ap)(n:bI P R b x):x∈kZ P R:=by
 induction n with
 |here h _=>exact Zm.mpr ⟨_,hb,h⟩
 |there _ hc _ _ ih=>exact ih (ay.mp hc).1
noncomputable def Good(P:aJ)(R A:List Int)(F:Int->List Int):Prop:=∀b∈af P R,(F b.aa).Nodup/\∀x∈F b.aa,bI P R b x/\x∉A
noncomputable def o0(P:aJ)(R A:List Int)(F:Int->List Int)(b:ax):Prop:=∀x,(x∈bG P R b\/∃o∈inner P R b,x∈F o)->x∉bu P R b->x∉A->x∈F b.aa
structure gZ(P:aJ)(R A:List Int)(F:Int->List Int):Prop where
 good:Good P R A F
 closed:∀b∈af P R,o0 P R A F b
theorem gZ.iff{F:Int->List Int}(f:gZ P R A F){b:ax}(hb:b∈af P R){x:Int}:x∈F b.aa↔bI P R b x/\x∉A:=by
 constructor
 . exact(f.good b hb).2 x
 . rintro ⟨n,a⟩
   induction n with
   |here h g=>exact f.closed _ hb _ (.inl h) g a
   |there h hc _ g ih=>exact f.closed _ hb _ (.inr ⟨_,h,ih hc a⟩) g a
theorem Good.len(N:aM P){F:Int->List Int}(g:Good P R A F){b:ax}(hb:b∈af P R):(F b.aa).length<=K:=by
 have:=dB (m:=kZ P R) (g b hb).1 (λx hx=>((g b hb).2 x hx).1.read (ay.mp hb).1);exact Zf this (lq N)
noncomputable def vO(F:Int->List Int)(l:Int)(xs:List Int):Int->List Int:=λk=>if k=l then xs else F k
theorem fy{F:Int->List Int}{l:Int}{xs:List Int}:vO F l xs l=xs:=by simp[vO]
theorem rR{F:Int->List Int}{l k:Int}{xs:List Int}(h:k≠l):vO F l xs k=F k:=by simp[vO,h]
noncomputable def room(x_:List ax)(F:Int->List Int):Nat:=(x_.map λb=>K - (F b.aa).length).sum
theorem xD{F G:Int->List Int}:∀{x_:List ax},(∀b∈x_,(F b.aa).length<=(G b.aa).length)->room x_ G<=room x_ F
 |[],_=>by simp[room]
 |x::r,h=>by
  have h1:=h x Ze;have h2:=xD (x_:=r) (λb hb=>h b (Zh _ hb));unfold room at h2 ⊢;rw[Zw,VJ,Zw,VJ];exact ZQ (VB h1 K) h2
theorem xC{F G:Int->List Int}:∀{x_:List ax},(∀b∈x_,(F b.aa).length<=(G b.aa).length)->(∃b∈x_,(F b.aa).length<(G b.aa).length/\(G b.aa).length<=K)->room x_ G<room x_ F
 |[],_,h=>by refine oea h λb hb _=>?_;try clear h;cases hb
 |x::r,h,hx=>by
  have h1:=h x Ze;refine oeaa hx λb hb h3 h4=>?_;try clear hx
  unfold room;simp only[Zw,VJ];rcases Zp.mp hb with rfl|hb
  . have h2:=xD (x_:=r) (λb hb=>h b (Zh _ hb));unfold room at h2;exact(aj 0x1011113161221412401612513511141253121311014470) _ _ _ _ _ _ _ h3 h2 (YV ((aj 0x111101311013120) _ _ h4)) (Wu (Zs _))
  . have h2:=xC (x_:=r) (λb hb=>h b (Zh _ hb)) ⟨b,hb,h3,h4⟩;unfold room at h2;exact Nat.add_lt_add_of_le_of_lt (VB h1 K) h2
theorem Good.add{F:Int->List Int}(g:Good P R A F)(N:aM P){b:ax}(hb:b∈af P R){x:Int}(n:bI P R b x)(a:x∉A)(m:x∉F b.aa):Good P R A (vO F b.aa (F b.aa++[x])):=by
 intro c hc
 by_cases e:c.aa=b.aa
 . have:=N.uniq (ay.mp hc).1 (ay.mp hb).1 e;subst this;rw[fy];refine⟨?_,λy hy=>?_⟩
   . rw[ZI];exact⟨(g c hb).1,by simp,λa ha b hb e=>by simp at hb;subst hb;subst e;contradiction⟩
   . rcases Zg.mp hy with hy|hy
     . exact(g c hb).2 y hy
     . simp at hy;subst hy;exact⟨n,a⟩
 . rw[rR e];exact g c hc
theorem Good.room{F:Int->List Int}(g:Good P R A F)(N:aM P){b:ax}(hb:b∈af P R){x:Int}(n:bI P R b x)(a:x∉A)(m:x∉F b.aa):Mine.room (af P R) (vO F b.aa (F b.aa++[x]))<Mine.room (af P R) F:=by
 have g':=(g.add N hb n a m).len N hb;rw[fy] at g';refine xC (λc hc=>?_) ⟨b,hb,by rw[fy];simp,by rw[fy];exact g'⟩
 by_cases e:c.aa=b.aa
 . rw[e,fy];simp
 . rw[rR e];exact Zs _
end
section
section
variable {Φ:Calls}{γ:String->Option V}{h:Hp}{Q:V->Hp->Prop}{P:aJ}{R A:List Int}{y:Lay}
noncomputable def aZ(S:List Nat)(h:Hp):Hp:=λx=>if x∈S then none else h x
theorem cC{S:List Nat}{x:Nat}(m:x∈S):aZ S h x=none:=if_pos m
theorem aX{S:List Nat}{x:Nat}(m:x∉S):aZ S h x=h x:=if_neg m
theorem bm{S:List Nat}:Ext (aZ S h) h:=λx n=>(aX λm=>n (cC m)).symm
theorem bv{S S':List Nat}{h1:Hp}(sub:∀x∈S',x∈S\/h x=none)(e:Ext h h1):Ext (aZ S h) (aZ S' h1):=λx n=>by
 have nS:x∉S:=λm=>n (cC m);rw[aX nS] at n ⊢;rw[aX λm=>(sub x m).elim nS n,e x n]
theorem fk{S:List Nat}{a:Nat}{o:O}{h1:Hp}(m:a∈S)(p:Put h a o h1):aZ S h1=aZ S h:=funext λx=>by
 by_cases z:x∈S
 . rw[cC z,cC z]
 . rw[aX z,aX z,p.ne λ(e:x=a)=>z (e▸m)]
theorem oV{S:List Nat}{a:Nat}{o:O}{h1 h2:Hp}(m:a∈S)(e:Ext h h1)(p:Put h1 a o h2):Ext (aZ S h) (aZ S h2):=fk m p▸bv (λ_=>.inl) e
noncomputable def jN(S:List Nat)(h:Hp):Prop:=∀x∈S,h x≠none
theorem jN.ext{S:List Nat}{h1:Hp}(l:jN S h)(e:Ext h h1):jN S h1:=λx m=>by rw[e x (l x m)];exact l x m
theorem jN.put{S:List Nat}{a:Nat}{o:O}{h1:Hp}(l:jN S h)(p:Put h a o h1):jN S h1:=λx m=>by
 by_cases z:x=a
 . rw[z,p.at];exact λe=>nomatch e
 . rw[p.ne z];exact l x m
theorem jN.out{S:List Nat}{x:Nat}(l:jN S h)(n:h x=none):x∉S:=λm=>l x m n
structure Row where
 (aT:ax) (r g i f:Nat)
structure Au(P:aJ)(R:List Int)(im:Hp)(w:Row):Prop where
 r:im w.r=some (.dict (cz (bW [] (bG P R w.aT))))
 g:im w.g=some (.dict (cz (bW [] (bu P R w.aT))))
 i:im w.i=some (.list ((inner P R w.aT).map .int))
theorem Au.ext{im h:Hp}{w:Row}(x:Au P R im w)(e:Ext im h):Au P R h w:=⟨e.at x.r,e.at x.g,e.at x.i⟩
noncomputable def gw(f:Row->Nat)(ds:List Row):List (Int×V):=ds.map λw=>(w.aT.aa,.ref (f w))
theorem qQ{f:Row->Nat}{ds:List Row}:(gw f ds).map (·.1)=(ds.map (·.aT)).map (·.aa):=by rw[gw,Zt,Zt];rfl
theorem iO{k:Int}{v:V}:∀{es:List (Int×V)},k∉es.map (·.1)->putD es k v=es++[(k,v)]
 |[],_=>rfl
 |(m,w)::r,h=>by
  rw[Zw,Zp,not_or] at h;rw[putD];rw[if_neg (Yo h.1),iO h.2];rfl
theorem BS{f:Row->Nat}{ds:List Row}{w:Row}(n:w.aT.aa∉(ds.map (·.aT)).map (·.aa)):putD (gw f ds) w.aT.aa (.ref (f w))=gw f (ds++[w]):=by
 rw[iO (by rw[qQ];exact n),gw,gw,Zq];rfl
theorem gK(N:aM P):((af P R).map (·.aa)).Nodup:=(de N).imp Yc
theorem d6{f:Row->Nat}{ds:List Row}(N:aM P)(e:ds.map (·.aT)=af P R){w:Row}(hw:w∈ds):(gw f ds).lookup w.aT.aa=some (.ref (f w)):=
 cY (p:=(w.aT.aa,V.ref (f w))) (by rw[qQ,e];exact gK N) (Zn.mpr ⟨w,hw,rfl⟩)
theorem DG{ds:List Row}(N:aM P)(e:ds.map (·.aT)=af P R):(ds.map λw=>w.aT.aa).Nodup:=by have:=gK (R:=R) N;rw[<-e,Zt] at this;exact this
theorem oy{ds:List Row}(e:ds.map (·.aT)=af P R){b:ax}(hb:b∈af P R):∃w∈ds,w.aT=b:=Zn.mp (e▸hb)
structure FI(P:aJ)(R:List Int)(J:Hp)(S:List Nat)(rd gv lE fA:Nat)(ds:List Row)(h':Hp):Prop where
 sub:S=rd::gv::lE::fA::ds.map (·.f)
 ext:Ext J (aZ S h')
 d1:h' rd=some (.dict (gw (·.r) ds))
 d2:h' gv=some (.dict (gw (·.g) ds))
 d3:h' lE=some (.dict (gw (·.i) ds))
 d4:h' fA=some (.dict (gw (·.f) ds))
 st:∀w∈ds,Au P R (aZ S h') w
 fr:∀w∈ds,h' w.f=some (.dict [])
 nd:S.Nodup
theorem FI.live{J h':Hp}{S:List Nat}{rd gv lE fA:Nat}{ds:List Row}(x:FI P R J S rd gv lE fA ds h'):jN S h':=λz m=>by
 rw[x.sub] at m;simp only[Zp,Zn] at m;rcases m with rfl|rfl|rfl|rfl|⟨w,hw,rfl⟩
 . exact aG x.d1
 . exact aG x.d2
 . exact aG x.d3
 . exact aG x.d4
 . exact aG (x.fr w hw)
structure FS(im:Hp)(ds:List Row)(F:Int->List Int)(h':Hp):Prop where
 ext:Ext im h'
 at_:∀w∈ds,h' w.f=some (.dict (cz (F w.aT.aa)))
theorem FS.more{im h' cT:Hp}{ds:List Row}{F:Int->List Int}(x:FS im ds F h')(e:Ext h' cT):FS im ds F cT:=⟨x.ext.trans e,λw hw=>e.at (x.at_ w hw)⟩
theorem FS.put{im h' cT:Hp}{ds:List Row}{F:Int->List Int}(N:aM P)(eq:ds.map (·.aT)=af P R)(nd:(ds.map (·.f)).Nodup)(x:FS im ds F h'){w:Row}(hw:w∈ds)(n:im w.f=none){v:Int}(hv:v∉F w.aT.aa)
 (p:Put h' w.f (.dict (putD (cz (F w.aT.aa)) v (.bool true))) cT):FS im ds (vO F w.aT.aa (F w.aT.aa++[v])) cT:=by
 refine⟨p.im x.ext n,λu hu=>?_⟩
 by_cases z:u.f=w.f
 . have:=iG nd hu hw z;subst this;rw[p.at,gP,fy,ins,if_neg hv]
 . have zz:u.aT.aa≠w.aT.aa:=λe=>z (by rw[iG (DG N eq) hu hw e]);rw[p.ne z,x.at_ u hu,rR zz]
theorem FS.other{im h' cT:Hp}{ds:List Row}{F:Int->List Int}(x:FS im ds F h'){a:Nat}{o:O}(n:im a=none)(ne:∀w∈ds,a≠w.f)(p:Put h' a o cT):FS im ds F cT:=
 ⟨p.im x.ext n,λw hw=>p.to (ne w hw).symm (x.at_ w hw)⟩
theorem wK{l:List Int}:∀{R:List Int},(cz l).foldl (λes p=>putD es p.1 p.2) (cz R)=cz (bW R l):=by
 induction l with
 |nil=>intro R;rfl
 |cons x l ih=>
  intro R;show (cz l).foldl _ (putD (cz R) x (.bool true))=_;rw[gP];exact ih
structure FP(P:aJ)(R A:List Int)(im:Hp)(ds:List Row)(F:Int->List Int)(D:Prop)(ρ:Lo)(h':Hp)(F2:Int->List Int)(g:Bool):Prop where
 fs:FS im ds F2 h'
 good:Good P R A F2
 gr:ρ "grows"=some (.bool g)
 more:g=true->room (af P R) F2<room (af P R) F
 same:g=false->F2=F/\D
noncomputable def C.nx:C->C
 | .az _ k=>k| .ae _ k=>k| .mk _ _ k=>k| .u _ k=>k| .aY _ k=>k| .for _ _ _ k=>k|k=>k
noncomputable def Fg:C:=i6.body.nx.nx.nx.nx.nx.nx.nx.nx.nx.nx.nx.nx
theorem zx(W:Wd Φ γ)(N:aM P)(LR:dN P R){im:Hp}{ds:List Row}{rd gv lE ra:Nat}{ad:List (Int×V)}{ρ:Lo}{Qc:Po}(ys:im y.ad=some (.inst "Layout" (tV P y)))(hA:im y.aA=some (.dict ad))
 (eq:ds.map Row.aT=af P R) (nd:(ds.map (·.f)).Nodup) (st:∀w∈ds,Au P R im w) (nf:∀w∈ds,im w.f=none)
 (u1:im rd=some (.dict (gw (·.r) ds))) (u2:im gv=some (.dict (gw (·.g) ds))) (u3:im lE=some (.dict (gw (·.i) ds))) (u4:im y.fA=some (.dict (gw (·.f) ds))) (ra2:im ra=some (.list ((af P R).map cj)))
 (start:FS im ds (λ_=>[]) h) (l1:ρ "layout"=some (.ref y.ad)) (l2:ρ "roots"=some (.ref ra)) (l3:ρ "reads"=some (.ref rd)) (l4:ρ "given"=some (.ref gv)) (l5:ρ "inner"=some (.ref lE))
 (q:∀h' F,Ext im h'->(∀w∈ds,h' w.f=some (.dict (cz (F w.aT.aa))))->gZ P R (ad.map (·.1)) F->∀ρ',Qc .next ρ' [] h'):wp Φ γ Fg ρ [] h Qc:=by
 have hKK:K+K<big:=by decide
 dsimp only[Fg,i6,C.nx]
 nofun;refine kT W.aW (λn ρ h'=>∃F g,FS im ds F h'/\Good P R (ad.map (·.1)) F/\ρ "grows"=some (.bool g)/\(g=false->∀b∈af P R,o0 P R (ad.map (·.1)) F b)/\n=2*room (af P R) F+(if g=true then 1 else 0))
  (2*room (af P R) (λ_=>[])+1) ⟨λ_=>[],true,start,λb hb=>⟨Yl,λ_ z=>nomatch z⟩,rfl,λz=>Bool.noConfusion z,rfl⟩ ?_
 intro n σ h6 z_;refine oeeaaaa z_ λF g S G lg cl nP=>?_;subst nP;have X6:=S.ext;refine⟨g,λK hK=>?_,?_,λz=>?_⟩
 . nofun;exact hK
 . rintro rfl K hK;nofun;intro rr h8 A8;rw[<-Wn] at A8;have f8:=A8.at;refine bO W.aW cj (af P R).reverse (λd ρ h'=>h' rr=some (.list ((af P R).reverse.map cj))/\∃F' g',FP P R (ad.map (·.1)) im ds F (∀b∈d,o0 P R (ad.map (·.1)) F b) ρ h' F' g')
    f8 ⟨f8,F,false,S.more A8.ext,G,rfl,λz=>Bool.noConfusion z,λ_=>⟨rfl,λ_ z=>nomatch z⟩⟩ (λd ρ h' I=>I.1) ?_ ?_
   . intro d b rl σ h9 hd hb z_ K2 rf _;refine oaee z_ λf9 F' g' I=>?_;have X9:=I.fs.ext;have hb:b∈af P R:=W0.mp hb;have cF:=(ay.mp hb).1;refine oea (oy eq hb) λw hw bV=>?_;subst bV;have lk1:=d6 (f:=(·.r)) N eq hw;have lk2:=d6 (f:=(·.g)) N eq hw;have lk3:=d6 (f:=(·.i)) N eq hw;have lk4:=d6 (f:=(·.f)) N eq hw;have s1:=(st w hw).r;have s2:=(st w hw).g;have s3:=(st w hw).i;have UE:=I.gr;nofun;intro wa iq tw;have xc:=tw.im X9;have Ms:im wa=none:=X9.none tw.new;have z5:∀u∈ds,wa≠u.f:=λu hu=>(tw.ne (I.fs.at_ u hu)).symm;have NC:rr≠wa:=tw.ne f9;nofun;refine uC W.aW (λl=>O.dict (cz (bW (bW [] (bG P R w.aT)) l))) (ys:=[]) V.int (inner P R w.aT) F' xc Ms (xc.at s3) tw.at (λz=>aB Ms s3 z) (λd2 o rl2 σ rg zs vH ho UT JS Sk FQ K3 EA _=>?_) λσ rg JS Sk FQ=>?_
     . refine oea (fY N LR.ch cF ho) λc hc cw=>?_;subst cw;refine oea (oy eq hc) λu hu c8=>?_;subst c8;have lk5:=d6 (f:=(·.f)) N eq hu;have s5:=JS.at (aF (z5 u hu).symm (tw.ext.at (I.fs.at_ u hu)));have lW:=dB (m:=kZ P R) (kq (l:=zs) (kq (l:=bG P R w.aT) Yl)) λx hx=>by
        rcases eU.mp hx with hx|hx
        . exact Zm.mpr ⟨_,cF,(eU.mp hx).resolve_left λz=>nomatch z⟩
        . rw[UT,XO] at hx;refine oea (Zm.mp hx) λo ho hx=>?_;refine oea (fY N LR.ch cF (show o∈inner P R w.aT by rw[<-vH];exact Zd _ ho)) λc' ir dW=>?_;subst dW;exact((I.good c' ir).2 x hx).1.read (ay.mp ir).1
       nofun;refine r_update FQ s5 (z5 u hu) ?_ λED p=>?_
       . rw[c_,c_];exact ZH (Zk (ZQ (Zf lW (lq N)) (I.good.len N hc)) hKK)
       . exact r_done (EA _ _ (p.im JS ao) (by rw[p.at,wK,nj]))
     have mem:∀x,x∈bW (bW [] (bG P R w.aT)) ([]++(inner P R w.aT).flatMap F')↔(x∈bG P R w.aT\/∃o∈inner P R w.aT,x∈F' o):=λx=>by
      rw[eU,eU,XO,Zm];simp only[Ys,false_or]
     revert FQ mem
     generalize bW (bW [] (bG P R w.aT)) ([]++(inner P R w.aT).flatMap F')=Wl;intro FQ mem;have need:∀x∈Wl,x∉bu P R w.aT->bI P R w.aT x:=λx hx hg=>by
      rcases (mem x).mp hx with hx|⟨o,ho,hx⟩
      . exact .here hx hg
      . refine oea (fY N LR.ch cF ho) λc hc gW=>?_;subst gW;exact .there ho hc ((I.good c hc).2 x hx).1 hg
     have S12:FS im ds F' rg:=⟨Sk,λu hu=>JS.at (aF (z5 u hu).symm (tw.ext.at (I.fs.at_ u hu)))⟩;have yo:rg rr=some _:=JS.at (aF NC (tw.ext.at f9));nofun;refine oW W.aW FQ (λd3 ρ h'=>h' wa=some (.eA (cz Wl))/\h' rr=some (.list ((af P R).reverse.map cj))/\∃F2 g2,FP P R (ad.map (·.1)) im ds F (g'=false/\∀p∈d3,p.1∉bu P R w.aT->p.1∉ad.map (·.1)->p.1∈F w.aT.aa) ρ h' F2 g2)
      (λED p=>⟨p.at,p.to NC yo,F',g',S12.other Ms z5 p,I.good,UE,I.more,λz=>⟨(I.same z).1,z,λ_ z=>nomatch z⟩⟩) (λd ρ h' J=>J.1) ?_ ?_
     . intro d3 v Nu σ ED FL hv z_ K4 CV;refine oaaee z_ λOl Dr F2 g2 J=>?_;have X13:=J.fs.ext;have s4:=J.fs.at_ w hw;have Uf:=J.gr;have Rc:v.1∈Wl:=by
        refine oea (Zn.mp hv) λx hx gE=>?_;subst gE;exact hx
       nofun;refine r_and (!(ad.map (·.1)).contains v.1&& !(F2 w.aT.aa).contains v.1) (λ_ K hK=>?_) ?_
       . nofun;refine r_and (!(F2 w.aT.aa).contains v.1) (λ_ K hK=>?_) ?_
         . nofun;exact hK
         . nofun;exact hK
       refine r_ite (λz=>?_) λz=>?_
       . refine oa (Zj.mp z) λm1 m2=>?_;refine oa (Zj.mp m2) λm2 m3=>?_;have m1:v.1∉bu P R w.aT:=λm=>j_ (nt m1) (eU.mpr (.inr m));have m2:=j_ (nt m2);have m3:=j_ (nt m3);nofun;refine r_setId s4 ?_ λzQ p=>?_
         . rw[c_];exact Zk (J.good.len N hb) (by decide)
         nofun;have r1:=J.good.room N hb (need _ Rc m1) m2 m3;refine r_done (CV _ _ ⟨p.to (z5 w hw) Ol,p.to (A8.ne (S.at_ w hw)).symm Dr,_,true,J.fs.put N eq nd hw (nf w hw) m3 p,J.good.add N hb (need _ Rc m1) m2 m3,rfl,λ_=>?_,λz=>Bool.noConfusion z⟩)
         cases g2 with
         |true=>exact ZK r1 (J.more rfl)
         |false=>rw[(J.same rfl).1] at r1 ⊢;exact r1
       . nofun;refine r_done (CV _ _ ⟨Ol,Dr,F2,g2,J.fs,J.good,Uf,J.more,λzg=>?_⟩);refine oaa (J.same zg) λz1 z2 z3=>?_;refine⟨z1,z2,λp hp hg ha=>?_⟩;rcases Zg.mp hp with hp|hp
         . exact z3 p hp hg ha
         . rw[Zc.mp hp] at hg ha ⊢;rcases Wh.mp z with z|z
           . exact absurd ((eU.mp (ik (Mine.nf z))).resolve_left λz=>nomatch z) hg
           . rcases Wh.mp z with z|z
             . exact absurd (ik (Mine.nf z)) ha
             . rw[<-z1];exact ik (Mine.nf z)
     . intro σ ED zQ z_ p;refine oaaee z_ λOl Dr F2 g2 J=>?_;refine r_done (rf _ _ ⟨p.to NC Dr,F2,g2,J.fs.other Ms z5 p,J.good,J.gr,J.more,λzg=>?_⟩);refine oaa (J.same zg) λz1 z2 z3=>?_;refine oa (I.same z2) λy1 y2=>?_;refine⟨z1,λb hb=>?_⟩;rcases Zg.mp hb with hb|hb
       . exact y2 b hb
       . rw[Zc.mp hb];intro x hx hg ha;rw[y1] at mem;exact z3 (x,.bool true) (Zn.mpr ⟨x,(mem x).mpr hx,rfl⟩) hg ha
   . intro σ h9 z_;refine oaee z_ λf9 F' g' I=>?_;refine r_done (hK _ _ _ ?_ ⟨F',g',I.fs,I.good,I.gr,λz b hb=>?_,rfl⟩)
     . cases g' with
       |true=>have:=I.more rfl;simp only[if_true];exact(aj 0x211011024210010242411014120) _ _ this
       |false=>rw[(I.same rfl).1];exact YF _
     . rw[(I.same z).1];exact(I.same z).2 b (W0.mpr hb)
 . exact r_done (q _ F S.ext S.at_ ⟨G,cl z⟩ _)
theorem u5(W:Wd Φ γ)(N:aM P)(Y:jO (aH y.fA h) P y R)(LR:dN P R){ad:List (Int×V)}(hA:aH y.fA h y.aA=some (.dict ad))(r:h y.fA=some (.dict []))
 (q:∀h' ds F,Ext (aH y.fA h) h'->ds.map Row.aT=af P R->h' y.fA=some (.dict (gw (·.f) ds))->(∀w∈ds,h w.f=none/\h' w.f=some (.dict (cz (F w.aT.aa))))->gZ P R (ad.map (·.1)) F->Q .none h'):Φ "find_free" [.ref y.ad] h Q:=by
 refine W.cl rfl rfl ?_;have r1:=LR.ch.one N;have ys:=Y.self;have hR:=Y.roots;have X0:Ext (aH y.fA h) h:=aV;have PE:(cz R).length<64:=by rw[c_];exact Zk (LR.sub.len N) N.cH
 nofun;intro ra h1 A1;have X1:=A1.im X0;rw[show (cz R).map (·.1)=R by rw[cz,Zt];exact Vq R,gn N LR.sub,Zt] at A1;nofun;intro rd h2 A2;have X2:=A2.im X1;nofun;intro gv h3 A3;have X3:=A3.im X2;nofun;intro lE h4 A4;have X4:=A4.im X3;have b1:=(A2.ext.trans (A3.ext.trans A4.ext)).at A1.at;have b2:=(A3.ext.trans A4.ext).at A2.at;have b3:=A4.ext.at A3.at;have b4:=(A1.ext.trans (A2.ext.trans (A3.ext.trans A4.ext))).at r;have MA:rd≠gv:=A3.ne A2.at;have NK:rd≠lE:=A4.ne (A3.ext.at A2.at);have NJ:gv≠lE:=A4.ne A3.at;have Mz:rd≠y.fA:=(A2.ne (A1.ext.at r)).symm;have NI:gv≠y.fA:=(A3.ne ((A1.ext.trans A2.ext).at r)).symm;have NG:lE≠y.fA:=(A4.ne ((A1.ext.trans (A2.ext.trans A3.ext)).at r)).symm;have TW:(rd::gv::lE::y.fA::([]:List Row).map (·.f)).Nodup:=by simp[MA,NK,NJ,Mz,NI,NG]
 have c1:ra∉[rd,gv,lE,y.fA]:=by
  have k1:ra≠rd:=A2.ne A1.at;have k2:ra≠gv:=A3.ne (A2.ext.at A1.at);have k3:ra≠lE:=A4.ne ((A2.ext.trans A3.ext).at A1.at);have k4:ra≠y.fA:=(A1.ne r).symm;simp[k1,k2,k3,k4]
 have Z:Ext (aH y.fA h) (aZ [rd,gv,lE,y.fA] h4):=λx n=>by
  have e:=X4 x n;have e0:x≠y.fA:=λz=>n (z▸ao);have e1:h x≠none:=by rw[hide_ne e0] at n;exact n
  have k1:x≠rd:=λz=>by rw[z] at e1;exact e1 (A1.ext.none A2.new)
  have k2:x≠gv:=λz=>by rw[z] at e1;exact e1 ((A1.ext.trans A2.ext).none A3.new)
  have k3:x≠lE:=λz=>by rw[z] at e1;exact e1 ((A1.ext.trans (A2.ext.trans A3.ext)).none A4.new)
  rw[aX (by simp[k1,k2,k3,e0]),e]
 have QC:aZ [rd,gv,lE,y.fA] h4 ra=some (.list ((af P R).map cj)):=(aX c1).trans b1;have jn:∀x∈[rd,gv,lE,y.fA],aZ [rd,gv,lE,y.fA] h4 x=none:=λx m=>cC m;have j1:=jn rd (by simp);have j2:=jn gv (by simp);have j3:=jn lE (by simp);have j4:=jn y.fA (by simp);nofun;refine bO W.aW cj (af P R) (λd ρ h'=>∃ds S,ds.map Row.aT=d/\FI P R (aZ [rd,gv,lE,y.fA] h4) S rd gv lE y.fA ds h'/\∀w∈ds,h w.f=none) b1
  ⟨[],_,rfl,⟨rfl,λ_ _=>rfl,b2,b3,A4.at,b4,(λ_ z=>nomatch z),(λ_ z=>nomatch z),TW⟩,λ_ z=>nomatch z⟩ (λd ρ h' I=>?_) ?_ ?_
 . refine oeeaa I λds S _ I _=>?_;exact(I.ext.trans bm).at QC
 . intro d b rr σ h' hd hb z_ K hK _;refine oeeaa z_ λds S eq I fr=>?_;have X':=I.ext.trans bm;have cF:=(ay.mp hb).1;have L:=I.live;have m1:rd∈S:=by rw[I.sub];exact Ze
   have m2:gv∈S:=by rw[I.sub];exact Zh _ Ze
   have m3:lE∈S:=by rw[I.sub];exact Zh _ (Zh _ Ze)
   have m4:y.fA∈S:=by rw[I.sub];exact Zh _ (Zh _ (Zh _ Ze))
   have len:∀f:Row->Nat,(gw f ds).length<big:=λf=>by
    have h1:=congrArg List.length hd;rw[<-eq,Zb,Za] at h1;rw[gw,Za];exact Zk (h1▸ZD _ _) (ZK (dK N) (by decide))
   have l1:=len (·.r);have l2:=len (·.g);have l3:=len (·.i);have l4:=len (·.f);have nb:b.aa∉(ds.map (·.aT)).map (·.aa):=by
    have:=gK (R:=R) N;rw[<-hd,Zq,Zw] at this;rw[eq];exact λm=>(ZI.mp this).2.2 _ m _ Ze rfl
   nofun;refine uS W N (Y.ext (Z.trans X')) r1 cF λr h5 e5 n5 f5=>?_;have X5:=X'.trans e5;have nr:=L.out n5;have d5:=e5.at I.d1;nofun;intro h6 p6;have X6:=p6.im X5 j1;have L6:=(L.ext e5).put p6;nofun;refine uT W N (Y.ext (Z.trans X6)) r1 cF λg h7 e7 n7 f7=>?_;have X7:=X6.trans e7;have ng:=L6.out n7;have d7:=e7.at (p6.to MA.symm (e5.at I.d2));nofun;intro h8 p8;have X8:=p8.im X7 j2;have L8:=(L6.ext e7).put p8;nofun;refine ql W N (Y.ext (Z.trans X8)) r1 cF λi h9 e9 n9 f9=>?_;have X9:=X8.trans e9;have ni:=L8.out n9;have d9:=e9.at (p8.to NJ.symm (e7.at (p6.to NK.symm (e5.at I.d3))));nofun;intro iq nQ;have xc:=nQ.im X9 j3;have L10:=(L8.ext e9).put nQ;nofun;intro f ti ia;have X11:=ia.im xc;have nf:=L10.out ia.new;have d11:=ia.ext.at (nQ.to NG.symm (e9.at (p8.to NI.symm (e7.at (p6.to Mz.symm (e5.at I.d4))))));nofun;intro rg C5
   -- the base of each step
   have c1:=oV m1 e5 p6;have c2:=oV m2 e7 p8;have c3:=oV m3 e9 nQ;have c4:Ext (aZ S iq) (aZ (S++[f]) rg):=fk (Zd _ m4) C5▸bv (λx m=>(Zg.mp m).imp id λm=>by rw[Zc.mp m];exact ia.new) ia.ext;have o1:∀x,x∉S->x≠rd/\x≠gv/\x≠lE/\x≠y.fA:=λx n=>⟨λe=>n (e▸m1),λe=>n (e▸m2),λe=>n (e▸m3),λe=>n (e▸m4)⟩;have Jk:=o1 f nf;have bk:=(((e5.at (I.d1)):h5 rd=_));have row:∀{w:Row} (z:w.aT=b) {f:Row->Nat} {ds:List Row},b.aa∉(ds.map (·.aT)).map (·.aa)->putD (gw f ds) b.aa (.ref (f w))=gw f (ds++[w]):=λ{w} z {f ds} n=>by subst z;exact BS n
   refine r_done (hK _ _ ⟨ds++[⟨b,r,g,i,f⟩],S++[f],by rw[Zq,eq];rfl,⟨by rw[I.sub,Zq];rfl,I.ext.trans (c1.trans (c2.trans (c3.trans c4))),?_,?_,?_,?_,λw hw=>?_,λw hw=>?_,xJ I.nd nf⟩,λw hw=>?_⟩)
   . rw[C5.to Mz (ia.ext.at (nQ.to NK (e9.at (p8.to MA (e7.at p6.at)))))];exact congrArg (λz=>some (O.dict z)) (row (w:=⟨b,r,g,i,f⟩) rfl nb)
   . rw[C5.to NI (ia.ext.at (nQ.to NJ (e9.at p8.at)))];exact congrArg (λz=>some (O.dict z)) (row (w:=⟨b,r,g,i,f⟩) rfl nb)
   . rw[C5.to NG (ia.ext.at nQ.at)];exact congrArg (λz=>some (O.dict z)) (row (w:=⟨b,r,g,i,f⟩) rfl nb)
   . rw[C5.at];exact congrArg (λz=>some (O.dict z)) (row (w:=⟨b,r,g,i,f⟩) rfl nb)
   . rcases Zg.mp hw with hw|hw
     . exact(I.st w hw).ext (c1.trans (c2.trans (c3.trans c4)))
     . rw[Zc.mp hw];exact⟨(c2.trans (c3.trans c4)).at ((aX nr).trans (p6.to (o1 r nr).1 f5)),(c3.trans c4).at ((aX ng).trans (p8.to (o1 g ng).2.1 f7)),c4.at ((aX ni).trans (nQ.to (o1 i ni).2.2.1 f9))⟩
   . rcases Zg.mp hw with hw|hw
     . have nw:w.f∉[rd,gv,lE,y.fA]:=by
        have:=I.nd;rw[I.sub] at this;have k:=ZI.mp (show ([rd,gv,lE,y.fA]++ds.map (·.f)).Nodup from this);exact λm=>k.2.2 _ m _ (ZF hw) rfl
       simp only[Zp,Ys,or_false,not_or] at nw;exact C5.to nw.2.2.2 (ia.ext.at (nQ.to nw.2.2.1 (e9.at (p8.to nw.2.1 (e7.at (p6.to nw.1 (e5.at (I.fr w hw))))))))
     . rw[Zc.mp hw];exact C5.to Jk.2.2.2 ia.at
   . rcases Zg.mp hw with hw|hw
     . exact fr w hw
     . rw[Zc.mp hw];have z:=xc.none ia.new;rw[aX λm=>(by simp only[Zp,Ys,or_false] at m;rcases m with m|m|m|m;exact Jk.1 m;exact Jk.2.1 m;exact Jk.2.2.1 m;exact Jk.2.2.2 m)] at z;exact(A1.ext.trans (A2.ext.trans (A3.ext.trans A4.ext))).none z
 . intro σ h' z_;refine oeeaa z_ λds S eq I fr=>?_;have e0:∀x,x∈S\/aZ (ds.map (·.f)) h' x=h' x:=λx=>by
    by_cases m:x∈S
    . exact .inl m
    . exact .inr (aX λk=>m (by rw[I.sub];exact Zh _ (Zh _ (Zh _ (Zh _ k)))))
   have nd:=I.nd;rw[I.sub] at nd;have k:=ZI.mp (show ([rd,gv,lE,y.fA]++ds.map (·.f)).Nodup from nd);have o:∀x∈[rd,gv,lE,y.fA],aZ (ds.map (·.f)) h' x=h' x:=λx m=>aX λn=>k.2.2 _ m _ n rfl;have T:Ext (aZ S h') (aZ (ds.map (·.f)) h'):=bv (λx m=>.inl (by rw[I.sub];exact Zh _ (Zh _ (Zh _ (Zh _ m))))) .refl;have U:=Z.trans (I.ext.trans T);exact zx W N LR (U.at ys) (U.at hA) eq k.2.1 (λw hw=>(I.st w hw).ext T) (λw hw=>cC (ZF hw)) ((o _ (by simp)).trans I.d1) ((o _ (by simp)).trans I.d2) ((o _ (by simp)).trans I.d3) ((o _ (by simp)).trans I.d4) ((I.ext.trans T).at QC)
    ⟨bm,λw hw=>I.fr w hw⟩ rfl rfl rfl rfl rfl λcT F e a c _=>q cT ds F (U.trans e) eq (e.at ((o _ (by simp)).trans I.d4)) (λw hw=>⟨fr w hw,a w hw⟩) c
end
end
section
section
variable {Φ:Calls}{γ:String->Option V}{h:Hp}{Q:V->Hp->Prop}{P:aJ}{R:List Int}
theorem qn(W:Wd Φ γ){a:Nat}{h0:Hp}(A:Alloc h0 a (.inst "Layout" []) h)
 (q:∀(y:Lay) h',y.ad=a->Ext h0 h'->h' y.ad=some (.inst "Layout" (tV P y))->h' y.rA=some (.dict [])->h' y.aA=some (.dict [])->h' y.nA=some (.dict [])->h' y.fA=some (.dict [])->
  h0 y.ad=none->h0 y.rA=none->h0 y.aA=none->h0 y.nA=none->h0 y.fA=none->[y.ad,y.rA,y.aA,y.nA,y.fA].Nodup->Q .none h'):Φ "Layout.__init__" [.ref a,.ref P.ad] h Q:=by
 refine W.cl rfl rfl ?_;have E:=A.ext;have n:=A.new;nofun;intro h1 p1;have E1:=p1.im E n;nofun;intro r h2 A2;have ra:r≠a:=(A2.ne p1.at).symm;have E2:=A2.im E1;have nr:=E1.none A2.new;nofun;intro h3 p3;have r3:=p3.to ra A2.at;have E3:=p3.im E2 n;nofun;intro s h4 A4;have sa:s≠a:=(A4.ne p3.at).symm;have rs:=A4.ne r3;have E4:=A4.im E3;have ns:=E3.none A4.new;nofun;intro h5 p5;have r5:=p5.to ra (A4.ext.at r3);have s5:=p5.to sa A4.at;have E5:=p5.im E4 n;nofun;intro t h6 A6;have ta:t≠a:=(A6.ne p5.at).symm;have rt:=A6.ne r5;have st:=A6.ne s5;have E6:=A6.im E5;have nt:=E5.none A6.new;nofun;intro h7 p7;have r7:=p7.to ra (A6.ext.at r5);have s7:=p7.to sa (A6.ext.at s5);have t7:=p7.to ta A6.at;have E7:=p7.im E6 n;nofun;intro u h8 A8;have ua:u≠a:=(A8.ne p7.at).symm;have ru:=A8.ne r7;have su:=A8.ne s7;have tu:=A8.ne t7;have nu:=E7.none A8.new;nofun;intro h9 p9;nofun;refine r_done (q ⟨a,r,s,t,u⟩ h9 rfl (p9.im (A8.im E7) n) p9.at (p9.to ra (A8.ext.at r7)) (p9.to sa (A8.ext.at s7)) (p9.to ta (A8.ext.at t7)) (p9.to ua A8.at) n nr ns nt nu ?_);simp[rs,rt,ru,st,su,tu,ra.symm,sa.symm,ta.symm,ua.symm]
structure gB(P:aJ)(h:Hp)(y:Lay)(R:List Int)(ad:List (Int×V))(ds:List Row)(F:Int->List Int):Prop where
 lay:jO h P y R
 least:dN P R
 aD:h y.aA=some (.dict ad)
 atoms:t0 P ad
 eq:ds.map Row.aT=af P R
 fD:h y.fA=some (.dict (gw (·.f) ds))
 at_:∀w∈ds,h w.f=some (.dict (cz (F w.aT.aa)))
 free:gZ P R (ad.map (·.1)) F
noncomputable def nF(P:aJ)(R:List Int):List (Int×V):=(af P R).zipIdx.map λp=>(p.1.aa,.int p.2)
theorem gB.ext{h h':Hp}{y:Lay}{ad:List (Int×V)}{ds:List Row}{F:Int->List Int}(x:gB P h y R ad ds F)(e:Ext h h'):gB P h' y R ad ds F:=
 ⟨x.lay.ext e,x.least,e.at x.aD,x.atoms,x.eq,e.at x.fD,λw hw=>e.at (x.at_ w hw),x.free⟩
theorem iW(N:aM P)(S:eR P R):∃eb∈P.ap,eb.aa=1/\af P R=eb::(af P R).filter (λb=>b.aa != 1):=by
 refine oeaaa N.ent λeb FJ e1 s1 _=>?_;have hm:eb∈af P R:=ay.mpr ⟨FJ,by rw[e1];exact S.one N⟩;have asc:=de (R:=R) N
 cases z:af P R with
 |nil=>rw[z] at hm;cases hm
 |cons x r=>
  rw[z] at hm asc;rw[Zw,YE] at asc;have hx:x∈P.ap:=(ay.mp (by rw[z];exact Ze)).1;have lt:∀b∈r,x.aa<b.aa:=λb hb=>asc.1 _ (ZF hb);have:eb=x:=by
   rcases Zp.mp hm with h|h
   . exact h
   . have:=lt _ h;have:=N.pos x hx
     (rename_i jH;exact False.elim ((aj 0x1101b011111110010012302) eb.aa x.aa e1 this jH))
  subst this;refine⟨eb,FJ,e1,?_⟩;rw[YM (by simp[e1])]
  congr 1
  symm;rw[Yu];intro b hb;exact bne_iff_ne.mpr (WL (e1▸lt b hb))
theorem pe(W:Wd Φ γ)(N:aM P)(Y:PR h P)(B:ke γ h)
 (q:∀y h' R ad ds F,Ext h h'->gB P h' y R ad ds F->h' y.nA=some (.dict (nF P R))->h y.ad=none->Q (.ref y.ad) h'):Φ "laid_out" [.ref P.ad] h Q:=by
 refine W.cl rfl rfl ?_;have ER:=Y.self;nofun;refine r_new rfl λa h1 A1=>?_;refine qn W A1 λy h2 ya e2 ys hr ha hn hf m0 m1 m2 m3 m4 nd=>?_;subst ya;simp only[ZC,Zp,Ys,or_false,not_or,Yl,and_true,not_false_eq_true] at nd;refine oaaa nd λbV cw c8 RX=>?_;try clear nd;refine oaaa bV λOA R7 RZ RY=>?_;try clear bV;refine oaa cw λOz Oy Ox=>?_;try clear cw;refine oa c8 λOw Ov=>?_;try clear c8
 refine⟨rfl,?_⟩;nofun;refine sE W N (Y.ext (bj e2 m1)) (aF OA ys) hr λh3 R e3 r3 LR=>?_;have X3:=(bj e2 m1).trans e3;have k3:∀{x o},x≠y.rA->h2 x=some o->h3 x=some o:=λn e=>e3.at (aF n e);nofun;refine sF W N (Y.ext (bj X3 m2)) (aF R7 (k3 OA ys)) (B.ext (bj X3 m2)) (k3 (Yo Oz) ha) λh4 ad e4 r4 AD=>?_;have X4:=(bj X3 m2).trans e4;have k4:∀{x o},x≠y.aA->h3 x=some o->h4 x=some o:=λn e=>e4.at (aF n e);have Qp:=k4 R7 (k3 OA ys);nofun;refine u5 W N ⟨Y.ext (bj X4 m4),aF RY Qp,aF Ox (k4 Oz r3)⟩ LR (aF Ov r4) (k4 (Yo Ov) (k3 (Yo Ox) hf)) λh5 ds F e5 eq fD RM FO=>?_;have X5:=(bj X4 m4).trans e5;have k5:∀{x o},x≠y.fA->h4 x=some o->h5 x=some o:=λn e=>e5.at (aF n e);have Qo:=k5 RY Qp;have U_:=k5 Ox (k4 Oz r3);have Jv:=k5 RX (k4 (Yo Ow) (k3 (Yo Oy) hn));have PE:(cz R).length<64:=by rw[c_];exact Zk (LR.sub.len N) N.cH
 nofun;intro a6 h6 A6;have X6:=A6.im X5;nofun;intro a7 h7 A7;rw[show (cz R).map (·.1)=R by rw[cz,Zt];exact Vq R,gn N LR.sub,Zt] at A7;have X7:=A7.im X6;refine cP W.aW cj cj (λb=>b.aa != 1) (af P R) A7.at (λx h8 hx E8 K hK=>?_) (λx h8 hx _ E8 K hK=>?_) λa8 h8 E8 n8 f8=>?_
 . have X8:=X7.trans E8;nofun;exact hK h8 E8
 . nofun;exact hK h8 E8
 refine oeaa (iW N LR.ch) λeb FJ el hh=>?_;have rl:=dK (R:=R) N;have Jz:[V.int 1]++((af P R).filter (λb=>b.aa != 1)).map cj=(af P R).map cj:=by
  conv=>rhs;rw[hh]
  rw[Zw,cj,el];rfl
 refine r_cat ((A7.ext.trans E8).at A6.at) f8 ?_ λa9 h9 A9=>?_
 . rw[<-Zb,Jz,Za];exact ZH (ZK rl (by decide))
 rw[Jz] at A9;have f9:=A9.at;have X9:=A9.im (X7.trans E8);have Fo:Ext h5 h9:=A6.ext.trans (A7.ext.trans (E8.trans A9.ext));have Z:=bj X9 m3;have TT:a9≠y.nA:=(A9.ne ((A6.ext.trans (A7.ext.trans E8)).at Jv)).symm;nofun;refine fq W.aW (by rw[Za];exact ZH (ZK rl (by decide))) (λi ρ h'=>Ext (aH y.nA h9) h'/\h' y.nA=some (.dict (((af P R).zipIdx.take i).map λp=>(p.1.aa,.int p.2)))) ⟨aV,by rw[Fo.at Jv];rfl⟩ ?_ ?_
 . intro i σ iq hi z_ K hK _ _;refine oa z_ λjI FT=>?_;rw[Za] at hi;have ys10:=jI.at (aF RZ (Fo.at Qo));have f9':=jI.at (aF TT f9);have ln:du ((af P R).map cj) (i:Int)=some (cj (af P R)[i]):=by
    unfold du;rw[if_pos (Z9 _),Xa,ZP,Zv hi];rfl
   have hlen:(((af P R).zipIdx.take i).map λp=>(p.1.aa,V.int p.2)).length<big:=by rw[Za];exact Zk (VC _ _) (ZK hi (ZK rl (by decide)))
   nofun;intro ti p;nofun;refine r_done (hK _ _ ⟨p.im jI ao,p.at.trans ?_⟩);have hg:(af P R).zipIdx[i]?=some ((af P R)[i],i):=by rw[Vr,Zv hi];simp
   rw[fV hg,Zq];refine congrArg (λz=>some (O.dict z)) (iO λhm=>?_);rw[Zt] at hm;refine oea (Zn.mp hm) λdW hk e=>?_;obtain ⟨b,k⟩:=dW;obtain ⟨m,hm,e2⟩:=YK.mp hk;rw[Uh] at hm;rw[List.getElem_take,List.getElem_zipIdx] at e2;have asc:=de (R:=R) N;rw[XE] at asc;have lt:=asc m i (by rw[Za];exact(aj 0x111111214013133121411014340) _ _ _ _ hi hm (Vh _ _)) (by rw[Za];exact hi) (by exact(aj 0x111210142111311014230) _ _ _ hm (Vh _ _));rw[Ui,Ui] at lt;rw[<-(Xl e2).1] at e;exact Yc lt e
 . intro σ iq z_;refine oa z_ λjI FT=>?_;nofun;refine q y iq R ad ds F (Z.trans jI) ?_ ?_ m0
   . refine gB.ext (h:=aH y.nA h9) ⟨⟨Y.ext Z,aF RZ (Fo.at Qo),aF Oy (Fo.at U_)⟩,LR,aF Ow (Fo.at (k5 Ov r4)),AD,eq,aF (Yo RX) (Fo.at fD),λw hw=>aF ?_ (Fo.at (RM w hw).2),FO⟩ jI;exact(aB (RM w hw).1 (k4 (Yo Ow) (k3 (Yo Oy) hn))).symm
   . rw[FT,Vc (by rw[VR,Za];exact Zs _)];rfl
end
end
section
section
variable {Φ:Calls}{γ:String->Option V}{h:Hp}{Q:V->Hp->Prop}{P:aJ}{R:List Int}
theorem xG(W:Wd Φ γ){b:ax}(B:v4 h b)(q:∀a h',Ext h h'->h a=none->h' a=some (.list (b.ag.bg.map .int))->Q (.ref a) h'):Φ "_law_leads" [.ref b.ad] h Q:=by
 refine W.cl rfl rfl ?_;have bs:=B.self;have ls:=B.ag.self;nofun;intro a h1 A;refine mt W.aW (aK:=.tup a _) ⟨a,rfl,.inr (.inl ⟨_,A.at,rfl⟩)⟩ rfl [b.ag.to,b.ag.other] (λt=>[V.int t]) rfl (λ_=>rfl) (λh' E=>E.at A.at) V.int (λt=>decide (0<=t)) (λx h2 hx e2 K hK=>?_) (λx h2 hx _ e2 K hK=>?_) λa2 h2 e2 n2 f2=>?_
 . nofun;exact hK h2 e2
 . nofun;exact hK h2 e2
 nofun;refine q _ _ (A.ext.trans e2) (A.ext.none n2) ?_;rw[f2];unfold Last.bg
 by_cases h1:0<=b.ag.to<;>by_cases h2:0<=b.ag.other<;>simp[h1,h2]
theorem kl(W:Wd Φ γ)(N:aM P)(Y:PR h P)(r1:1∈R){u:Nat}(hu:h u=some (.list (R.map .int))){b:ax}(hb:b∈P.ap)(q:Q (.int (bC P R b.aa)) h):Φ "_law_unit" [.ref P.ad,.ref u,.int b.aa] h Q:=by
 refine W.cl rfl rfl ?_;have ER:=Y.self;have ptab:=Y.table;have cH:=N.cH;nofun;rw[Za];refine fq W.aW (ZH (ZK cH (by decide))) (λi ρ h'=>h'=h/\∃c∈P.ap,ρ "here"=some (.int c.aa)/\bC P R c.aa=bC P R b.aa/\∃vs:List Int,vs.length=i/\vs.Nodup/\∀x∈vs,c.aa<x/\x∈P.ap.map (·.aa))
  ⟨rfl,b,hb,rfl,rfl,[],rfl,Yl,λ_ z=>nomatch z⟩ ?_ ?_
 . intro i σ h1 hi z_ K hK hr _;refine oaeaaaeaa z_ λnP c hc l3 un vs v1 v2 v3=>?_;subst nP;nofun;refine r_ite (λm=>?_) λm=>?_
   . nofun;rw[jf (N.pos c hc) (ik m)] at un;exact r_retK (hr _ _ _ (un▸q))
   . have m':=j_ m;have cs:=(Y.aT c hc).self;refine oeaaa (iM N r1 hc m') λp hp e lt u'=>?_;nofun;refine r_done (hK _ _ ⟨rfl,p,hp,congrArg (λz=>some (V.int z)) e.symm,u'.symm.trans un,c.aa::vs,congrArg (· +1) v1,?_,?_⟩)
     . exact ZC.mpr ⟨λhm=>Int.lt_irrefl _ (v3 _ hm).1,v2⟩
     . intro x hx;rcases Zp.mp hx with rfl|hx
       . exact⟨lt,ZF hc⟩
       . exact⟨Va lt (v3 x hx).1,(v3 x hx).2⟩
 . intro σ h1 z_;refine oaeaaaeaa z_ λwY c hc l3 un vs v1 v2 v3=>?_;subst wY;have:=dB (l:=c.aa::vs) (m:=P.ap.map (·.aa)) (ZC.mpr ⟨λhm=>Int.lt_irrefl _ (v3 _ hm).1,v2⟩) (λx hx=>by
    rcases Zp.mp hx with rfl|hx
    . exact ZF hc
    . exact(v3 x hx).2)
   rw[Ym,v1,Za] at this;exact absurd this (Nat.not_succ_le_self _)
noncomputable abbrev fM(b:ax):V:=.ref b.ad
theorem AZ{k:C}{ρ:Lo}{st:List V}{Q:Po}(W:Wd Φ γ)(N:aM P)(Y:PR h P)(lp:ρ "program"=some (.ref P.ad))(q:∀a h',Ext h h'->h a=none->h' a=some (.list (P.ap.map fM))->wp Φ γ k ρ (.ref a::st) h' Q):
 wp Φ γ (.ae "program"<|.bM "KProgram"<|.call "KProgram.labels" 1<|.comp ["label"] .seq (.az (.bool true) .done) (.ae "program"<|.bM "KProgram"<|.ae "label"<|.call "KProgram.block" 2<|.done) k) ρ st h Q:=by
 have ER:=Y.self;nofun;refine fN W N Y λa h1 e1 n1 f1=>?_;refine comp_map W.aW cj fM P.ap f1 (λb h2 hb e2 K hK=>?_) λa2 h2 e2 n2 f2=>q a2 h2 (e1.trans e2) (e1.none n2) f2;have lp:bf ρ "label" (cj b) "program"=some (.ref P.ad):=lp;nofun;exact hK h2 e2
noncomputable def iH(b:ax):Bool:=b.ag.bD== "call"&&decide (0<=b.ag.to)
noncomputable def fU(P:aJ):List Int:=(P.ap.filter λb=>b.aI== "fun").map (·.aa)++(P.ap.filter iH).map (·.ag.to)
theorem kt{b:ax}:iH b=true↔b.ag.bD="call"/\0<=b.ag.to:=by unfold iH;rw[XB,beq_iff_eq,decide_eq_true_eq]
theorem uO(N:aM P):mO P (fU P):=by
 have rK:∀b∈P.ap,iH b=true->∃c∈P.ap,c.aa=b.ag.to/\c.aw=b.aa/\c.aI="cont":=λb hb w=>by
  refine oa (kt.mp w) λw t=>?_;refine oeaa (N.Ko b hb w t) λc hc e p=>?_;refine oeaa (N.vA b hb b.ag.to (by unfold Last.bg;rw[if_pos t];exact Ze)) λc' ir e' s=>?_;have:=N.uniq hc ir (e.trans e'.symm);subst this;exact⟨c,hc,e,p,s⟩
 have fm:∀{b:ax},b∈P.ap.filter iH↔b∈P.ap/\iH b=true:=ZG;have fs:∀{b:ax},b∈P.ap.filter (λb=>b.aI== "fun")↔b∈P.ap/\b.aI="fun":=by intro b;rw[ZG,beq_iff_eq]
 refine⟨⟨?_,λl hl=>?_⟩,λb hb l hl=>?_,λS hS _ l hl=>?_⟩
 . refine ZI.mpr ⟨(N.asc.imp Yc).sublist (YQ.map _),?_,?_⟩
   . rw[List.Nodup,YN];refine XM (λ{b c} hb hc h e=>?_) ((YN.mp N.asc).sublist YQ);refine oeaaa (rK b (fm.mp hb).1 (fm.mp hb).2) λx hx x1 x2 _=>?_;refine oeaaa (rK c (fm.mp hc).1 (fm.mp hc).2) λz hz z1 z2 _=>?_;have:=N.uniq hx hz (x1.trans (e.trans z1.symm));subst this;exact Yc h (x2.symm.trans z2)
   . intro a ha b hb e;refine oea (Zn.mp ha) λx hx bV=>?_;subst bV;refine oea (Zn.mp hb) λz hz cw=>?_;subst cw;refine oeaaa (rK z (fm.mp hz).1 (fm.mp hz).2) λc hc c1 c2 c3=>?_;have:=N.uniq hc (fs.mp hx).1 (c1.trans e.symm);subst this;rw[(fs.mp hx).2] at c3;exact absurd c3 (by decide)
 . rcases Zg.mp hl with hl|hl<;>obtain ⟨x,hx,rfl⟩:=Zn.mp hl
   . exact⟨x,(fs.mp hx).1,rfl⟩
   . obtain ⟨c,hc,c1,_⟩:=rK x (fm.mp hx).1 (fm.mp hx).2;exact⟨c,hc,c1⟩
 . rcases hl with ⟨h1,rfl⟩|⟨h1,h2,rfl⟩
   . exact Zd _ (Zn.mpr ⟨b,fs.mpr ⟨hb,h1⟩,rfl⟩)
   . exact Zi _ (Zn.mpr ⟨b,fm.mpr ⟨hb,kt.mpr ⟨h1,h2⟩⟩,rfl⟩)
 . rcases Zg.mp hl with hl|hl<;>obtain ⟨x,hx,rfl⟩:=Zn.mp hl
   . exact hS x (fs.mp hx).1 _ (.inl ⟨(fs.mp hx).2,rfl⟩)
   . have c:=kt.mp (fm.mp hx).2;exact hS x (fm.mp hx).1 _ (.inr ⟨c.1,c.2,rfl⟩)
noncomputable def xg(P:aJ)(R:List Int)(b:ax)(t:Int):Bool:= !R.contains t&&bC P R t != bC P R b.aa
noncomputable def more(P:aJ)(R:List Int):List Int:=P.ap.flatMap λb=>b.ag.bg.filter (xg P R b)
theorem ui{t:Int}:t∈more P R↔∃b∈P.ap,t∈b.ag.bg/\t∉R/\bC P R t≠bC P R b.aa:=by
 unfold more xg;rw[Zm];simp only[ZG,XB,Bool.not_eq_true',bne_iff_ne,List.contains_eq_mem,decide_eq_false_iff_not]
theorem Ce(N:aM P):([]++more P R).length<big:=Zk (bw λb _=>Zf (ZT _ _) (gk (l:=b.ag))) (ZK (Xr N.cH (by decide)) (show 64*2<big by decide))
theorem uW(W:Wd Φ γ)(N:aM P)(Y:PR h P)(q:∀a h' R,Ext h h'->h a=none->h' a=some (.list ((af P R).map cj))->dN P R->Q (.ref a) h'):Φ "_law_units" [.ref P.ad] h Q:=by
 refine W.cl rfl rfl ?_;have cH:=N.cH;refine AZ W N Y rfl λar h1 e1 n1 f1=>?_;nofun;refine cP W.aW fM cj (λb=>b.aI== "fun") P.ap f1 (λb h2 hb e2 K hK=>?_) (λb h2 hb _ e2 K hK=>?_) λau h2 e2 n2 f2=>?_
 . have bs:=((Y.aT b hb).ext (e1.trans e2)).self;nofun;exact hK h2 e2
 . have bs:=((Y.aT b hb).ext (e1.trans e2)).self;nofun;exact hK h2 e2
 have yo:=e2.at f1;have tj:=e1.trans e2;nofun;refine cP W.aW fM (λb=>V.int b.ag.to) iH P.ap yo (λb h3 hb e3 K hK=>?_) (λb h3 hb _ e3 K hK=>?_) λac h3 e3 n3 f3=>?_
 . have bs:=((Y.aT b hb).ext (tj.trans e3)).self;have ls:=((Y.aT b hb).ext (tj.trans e3)).ag.self;nofun;refine r_and (decide (0<=b.ag.to)) (λ_ K hK=>?_) ?_
   . nofun;exact hK
   . nofun;exact hK h3 e3
 . have bs:=((Y.aT b hb).ext (tj.trans e3)).self;have ls:=((Y.aT b hb).ext (tj.trans e3)).ag.self;nofun;exact hK h3 e3
 have lJ:=tj.trans e3;refine r_cat (e3.at f2) f3 ?_ λa4 h4 A4=>?_
 . rw[Za,Za];exact ZH (Zk (ZQ (Zf (ZT _ _) (ZH cH)) (Zf (ZT _ _) (ZH cH))) (show 64+64<big by decide))
 have hR0:List.map cj (P.ap.filter (λb=>b.aI== "fun"))++List.map (λb=>V.int b.ag.to) (P.ap.filter iH)=(fU P).map .int:=by rw[fU,Zq,Zt,Zt];rfl
 rw[hR0] at A4;have S0:=uO N;have far:h4 ar=some (.list (P.ap.map fM)):=A4.ext.at (e3.at yo);have na:ar≠a4:=A4.ne (e3.at yo);have n4:=lJ.none A4.new;have Z:=bj (A4.im lJ) n4;have Q6:=aF na far;nofun;rw[Za];refine fq W.aW (ZH (ZK cH (by decide))) (λi ρ h'=>Ext (aH a4 h4) h'/\∃R,h' a4=some (.list (R.map .int))/\mO P R/\(fU P).length+i<=R.length) ⟨aV,_,A4.at,S0,Zs _⟩ ?_ ?_
 . intro i σ h5 hi z_ K hK hr _;refine oaeaa z_ λe5 R f5 S GG=>?_;have r1:=S.ch.one N;have sl:=S.sub.len N;nofun;intro am h6 A6;have TZ:=A6.ne f5;have NE:=e5.none A6.new;have e6:=A6.im e5;have f6:=aF TZ (A6.ext.at f5);nofun;refine cx W.aW iL fM P.ap (λb=>b.ag.bg.filter (xg P R b)) e6 NE (e6.at Q6) (ys:=[]) A6.at (λz=>aB NE Q6 z) (Ce N) (λb σ h7 zs hb E7 X7 g7 hz K7 Ry _=>?_) λσ h7 E7 X7 g7=>?_
   . nofun;refine xG W ((Y.aT b hb).ext (Z.trans X7)) λal h8 e8 n8 f8=>?_;rw[<-fE] at hz Ry;refine cx W.aW iL V.int b.ag.bg (λt=>if xg P R b t then [t] else []) (E7.trans e8) ao f8 (e8.at g7) (λz=>aB n8 g7 z.symm) (gY hz) (λt σ h9 Jb ht E9 X9 g9 UV K9 hK9 _=>?_) λσ h9 E9 X9 g9=>r_done (Ry _ _ X9 g9);refine oeaa (N.vA b hb t ht) λc hc c8 IV=>?_;subst c8;have f9:=X9.at f6;have e9:Ext (aH a4 h4) h9:=(bj e6 NE).trans X9;have bs:=((Y.aT b hb).ext (Z.trans e9)).self;nofun;refine r_and (bC P R c.aa != bC P R b.aa) (λ_ K hK=>?_) ?_
     . nofun;refine kl W N (Y.ext (Z.trans e9)) r1 f9 hc ?_;nofun;refine kl W N (Y.ext (Z.trans e9)) r1 f9 hb ?_;nofun;exact hK
     refine r_pushM c.aa rfl g9 ao E9 (Zk (ZD _ _) UV) (λK hK=>?_) λiq Ng I0=>?_
     . nofun;exact hK
     . nofun;exact hK9 _ _ Ng I0
   have f7:=E7.at f6;have g7:h7 am=some (.list ((more P R).map .int)):=g7;nofun;refine r_ite (λz=>?_) λz=>?_
   . nofun;refine r_sortl f7 (Zk sl cH) λa8 h8 A8=>?_;refine r_ret_sq (r_retK (hr _ _ _ (q a8 h8 R (Z.trans (A8.im X7)) ((Z.trans X7).none A8.new) ?_ ⟨S.sub,S.ch,λb hb t ht hn=>XD λne=>?_,S.below⟩)))
     . rw[A8.at,gn N S.sub,Zt];rfl
     . have:=ui.mpr ⟨b,hb,ht,hn,ne⟩
       cases e:more P R with
       |nil=>rw[e] at this;cases this
       |cons=>rw[e] at z;cases z
   . have hlen:0<(more P R).length:=by
      cases e:more P R with
      |nil=>rw[e] at z;cases z
      |cons=>exact Nat.succ_pos _
     have lG:i % (more P R).length<(more P R).length:=Nat.mod_lt _ hlen;have hs:du ((more P R).map V.int) ((i:Int) % ((more P R).length:Int))=some (.int (more P R)[i % (more P R).length]):=by
      rw[show ((i:Int) % ((more P R).length:Int))=((i % (more P R).length:Nat):Int) from rfl];unfold du;rw[if_pos (Z9 _),Xa,ZP,Zv lG];rfl
     refine oeaaa (ui.mp (Yy lG)) λb hb ht hn ne=>?_
     revert hs ht hn ne
     generalize (more P R)[i % (more P R).length]=t;intro hs ht hn ne;refine oeaa (N.vA b hb t ht) λc hc dW IV=>?_;subst dW;nofun;rw[Za];refine r_mod (Int.natCast_pos.mpr hlen) ?_;refine r_idxl g7 hs ?_;refine r_appi f7 (Zk sl (ZK cH (by decide))) λh8 p=>?_;exact r_done (hK _ _ ⟨p.im X7 ao,ins R c.aa,by rw[p.at,ins,if_neg hn],⟨S.sub.ins hc,S.ch.ins,S.below.step N S.ch hb hc ht hn ne⟩,by rw[xM hn];exact YG GG⟩)
 . intro σ h5 z_;refine oaeaa z_ λe5 R f5 S GG=>?_;have h1:=S.sub.len N;have h2:=Xn (S0.ch.one N);exact False.elim ((aj 0x111b010041121321110123330) ((fU P).length) P.ap.length R.length GG h1 h2)
end
end
section
variable {P:aJ}{R S:List Int}
theorem wq(h:∀l,l∈R↔l∈S):jR P R=jR P S:=by
 funext n
 induction n with
 |zero=>rfl
 |succ n ih=>
  funext l;rw[nT,nT,ih]
  by_cases m:l∈R
  . rw[if_pos m,if_pos ((h l).mp m)]
  . rw[if_neg m,if_neg (λz=>m ((h l).mpr z))]
theorem mQ(h:∀l,l∈R↔l∈S):bC P R=bC P S:=by funext l;unfold bC;rw[wq h]
theorem jV(h:∀l,l∈R↔l∈S):(λl=>R.contains l)=λl=>S.contains l:=by
 funext l;rw[Bool.eq_iff_iff];simp[h l]
theorem i_(h:∀l,l∈R↔l∈S)(l:Int):R.contains l=S.contains l:=congrFun (jV h) l
theorem mc(h:∀l,l∈R↔l∈S):bN P R=bN P S:=by funext b;unfold bN;rw[mQ h]
theorem m_(h:∀l,l∈R↔l∈S):bq P R=bq P S:=by funext b;unfold bq;simp only[i_ h]
theorem pR(h:∀l,l∈R↔l∈S):bT R=bT S:=by funext b;unfold bT;rw[jV h]
theorem jS(h:∀l,l∈R↔l∈S):bG P R=bG P S:=by funext b;unfold bG;rw[mc h,show b0 R=b0 S by funext b;unfold b0;rw[pR h]]
theorem gC(h:∀l,l∈R↔l∈S):bu P R=bu P S:=by funext b;unfold bu;rw[mc h,show b7 P R=b7 P S by funext b;unfold b7;rw[m_ h]]
theorem pI(h:∀l,l∈R↔l∈S):inner P R=inner P S:=by funext b;unfold inner;rw[mc h,show cu P R=cu P S by funext b;unfold cu;rw[m_ h]]
theorem cE(h:∀l,l∈R↔l∈S):af P R=af P S:=by unfold af;simp only[i_ h]
theorem u6(h:∀l,l∈R↔l∈S){b:ax}{x:Int}(n:bI P R b x):bI P S b x:=by
 induction n with
 |here a c=>exact .here (by rw[<-jS h];exact a) (by rw[<-gC h];exact c)
 |there a b c d ih=>exact .there (by rw[<-pI h];exact a) (by rw[<-cE h];exact b) ih (by rw[<-gC h];exact d)
theorem vz(h:∀l,l∈R↔l∈S)(c:oI P R):oI P S:=λb hb t ht hn=>by rw[<-mQ h];exact c b hb t ht (λz=>hn ((h t).mp z))
theorem pt{l:Int}(s:Sub P R):l∈(af P R).map (·.aa)↔l∈R:=by
 rw[Zn];constructor
 . intro z_;refine oea z_ λb hb nP=>?_;subst nP;exact(ay.mp hb).2
 . intro h;refine oea (s.2 l h) λb hb bV=>?_;subst bV;exact⟨b,ay.mpr ⟨hb,h⟩,rfl⟩
theorem dN.sorted(N:aM P)(x:dN P R):dN P ((af P R).map (·.aa)):=by
 have h:∀l,l∈R↔l∈(af P R).map (·.aa):=λl=>(pt x.sub).symm;refine⟨⟨(de N).imp λh=>by exact λcy=>(aj 0x101b1101211011202) _ _ h cy,λl hl=>x.sub.2 l ((h l).mpr hl)⟩,λb hb l hl=>(h l).mp (x.ch b hb l hl),vz h x.closed,λS hS hC l hl=>x.below S hS hC l ((h l).mpr hl)⟩
theorem qX{A B:List Int}(h:∀l,l∈R↔l∈S)(a:∀v,v∈A↔v∈B){F:Int->List Int}(f:gZ P R A F):gZ P S B F:=by
 refine⟨λb hb=>?_,λb hb x hx hg ha=>?_⟩
 . rw[<-cE h] at hb;exact⟨(f.good b hb).1,λx hx=>⟨u6 h ((f.good b hb).2 x hx).1,λz=>((f.good b hb).2 x hx).2 ((a x).mpr z)⟩⟩
 . rw[<-cE h] at hb;refine f.closed b hb x ?_ (by rw[gC h];exact hg) (λz=>ha ((a x).mp z));rw[jS h,pI h];exact hx
noncomputable def nG(P:aJ)(R:List Int)(rb:ax):List ax:=P.ap.filter λb=>bC P R b.aa==rb.aa
theorem gL(N:aM P)(r1:1∈R){rb b:ax}(hr:rb∈P.ap)(hR:rb.aa∈R):b∈nG P R rb↔b∈bN P R rb:=by
 rw[gM N r1 hr hR];unfold nG;rw[ZG];simp
noncomputable def fK(R:List Int)(b:ax):List Int:=b.aN.flatMap (·.args)++((b.ag.args++[b.ag.fn,b.ag.ae])++(b.ag.bg.filter λt=>R.contains t).map cv)
noncomputable def gA(P:aJ)(R:List Int)(b:ax):List Int:=b.params++[b.ae]++(bq P R b.aa).map (λc=>cv c.aa)++b.aN.flatMap λo=>[o.result]++o.bP
noncomputable def fL(P:aJ)(R:List Int)(b:ax):List Int:=(bq P R b.aa).map (·.aa)++b.aN.flatMap (·.aU)
noncomputable def eG(P:aJ)(R:List Int)(rb:ax):List Int:=((nG P R rb).flatMap (fK R)).filter λx=>x != -1
noncomputable def mj(P:aJ)(R:List Int)(rb:ax):List Int:=(nG P R rb).flatMap (gA P R)
noncomputable def eH(P:aJ)(R:List Int)(rb:ax):List Int:=(nG P R rb).flatMap (fL P R)
theorem Ch(N:aM P){rb:ax}:(nG P R rb).length<=64:=ZH (Zk (ZT _ _) N.cH)
theorem d8{rb b:ax}(h:b∈nG P R rb):b∈P.ap:=(ZG.mp h).1
theorem wT(N:aM P){b:ax}(hb:b∈P.ap):(fK R b).length<=11:=by
 have h0:=N.mJ b hb;have h1:=ZT (λt=>R.contains t) b.ag.bg;have h2:=N.dv b hb;have h3:=bw (f:=λo:Op=>o.args) (k:=2) (l:=b.aN) (λo ho=>(N.C8 b hb o ho).1);have h4:=ZY 2 h2;have h5:=gk (l:=b.ag);unfold fK;simp only[Zb,Za,Ym,Yi];exact(aj 0x112111b01110100022012241232021331027413303132111310013550) _ _ _ _ _ h0 h1 h2 h3 h5
theorem wU(N:aM P){b:ax}(hb:b∈P.ap):(gA P R b).length<=75:=by
 have h0:=N.gi b hb;have h2:=N.dv b hb;have h3:=bw (f:=λo:Op=>[o.result]++o.bP) (k:=3) (l:=b.aN) (λo ho=>by have:=(N.C8 b hb o ho).2.1;simp;exact(aj 0x112001320013110) _ this);have h4:=ZY 3 h2;have h5:=eJ (R:=R) (l:=b.aa) N;unfold gA;simp only[Zb,Za,Ym,Yi] at*;exact(aj 0x11311004b621311000201222300406313110372133011310013440) _ _ _ _ h0 h2 h3 h5
theorem pK(N:aM P){b:ax}(hb:b∈P.ap):(fL P R b).length<=70:=by
 have h2:=N.dv b hb;have h3:=bw (f:=λo:Op=>o.aU) (k:=2) (l:=b.aN) (λo ho=>(N.C8 b hb o ho).2.2);have h4:=ZY 2 h2;have h5:=eJ (R:=R) (l:=b.aa) N;unfold fL;simp only[Zb,Za];exact(aj 0x112100466112123004062130102711330013330) _ _ _ h2 h3 h5
theorem kY{f:ax->List Int}(N:aM P){rb:ax}{k:Nat}(h:∀b∈P.ap,(f b).length<=k):((nG P R rb).flatMap f).length<=64*k:=by
 have h1:=bw (f:=f) (k:=k) (l:=nG P R rb) (λb hb=>h b (d8 hb));have h2:=Ch (R:=R) (rb:=rb) N;have h3:=ZY k h2;exact(aj 0x111214040132140411311013230) _ _ _ h1 h3
theorem rU{x v:Int}(hx:x≠ -1)(h:v= -1\/0<=v):x=v↔x∈(if 0<=v then [v] else []):=by
 by_cases k:0<=v
 . rw[if_pos k,Zc]
 . rw[if_neg k];exact⟨λe=>absurd (e.trans (h.resolve_right k)) hx,λe=>nomatch e⟩
theorem py(N:aM P){b:ax}(hb:b∈P.ap){x:Int}(hx:x≠ -1):x∈fK R b↔x∈b0 R b:=by
 refine oaa (N.Dn b hb) λh1 h2 _=>?_;unfold fK b0 bT Last.aR;simp only[Zg,Zp,Ys,or_false];have e1:=rU hx h1;have e2:=rU hx h2;rw[<-e1,<-e2]
theorem pz(N:aM P){b:ax}(hb:b∈P.ap){x:Int}(hx:x≠ -1):x∈gA P R b↔x∈b7 P R b:=by
 refine oaa (N.Dn b hb) λ_ _ h3=>?_;unfold gA b7 ax.aE ax.binders;simp only[Zg,Zp,Ys,or_false,Zm];have e1:=rU hx h3;have e2:(∃o∈b.aN,x=o.result\/x∈o.bP)↔∃o∈b.aN,x∈o.aE:=by
  constructor
  . intro z_;refine oea z_ λo ho h=>?_;refine⟨o,ho,?_⟩;refine oaa (N.J9 b hb o ho) λk1 k2 k3=>?_;unfold Op.aE
    by_cases w:o.bD="fix"
    . rw[if_pos w];rcases h with h|h
      . rw[k1 w] at h;exact absurd h hx
      . exact h
    . rw[if_neg w];rcases h with h|h
      . rw[if_pos (k3.resolve_left λk=>hx (h.trans k)),h];exact .head _
      . rw[k2 w] at h;simp at h
  . intro z_;refine oea z_ λo ho h=>?_;refine⟨o,ho,?_⟩;unfold Op.aE at h;split at h
    . exact .inr h
    . split at h
      . simp at h;exact .inl h
      . simp at h
 rw[e2,<-e1];constructor
 . rintro (((h|h)|h)|h)
   . exact .inl (.inl (.inl h))
   . exact .inl (.inl (.inr h))
   . exact .inr h
   . exact .inl (.inr h)
 . rintro (((h|h)|h)|h)
   . exact .inl (.inl (.inl h))
   . exact .inl (.inl (.inr h))
   . exact .inr h
   . exact .inl (.inr h)
theorem hJ{b:ax}{x:Int}:x∈fL P R b↔x∈cu P R b:=by
 unfold fL cu;simp only[Zg];exact Or.comm
theorem jU(N:aM P)(r1:1∈R){rb:ax}(hr:rb∈P.ap)(hR:rb.aa∈R){x:Int}(hx:x≠ -1):x∈eG P R rb↔x∈bG P R rb:=by
 unfold eG bG;simp only[ZG,Zm,bne_iff_ne,ne_eq];constructor
 . intro z_;refine oa z_ λwY _=>?_;refine oea wY λb hb h=>?_;try clear wY
   exact⟨b,(gL N r1 hr hR).mp hb,(py N (d8 hb) hx).mp h⟩
 . intro z_;refine oea z_ λb hb h=>?_;have cF:=(gL N r1 hr hR).mpr hb;exact⟨⟨b,cF,(py N (d8 cF) hx).mpr h⟩,hx⟩
theorem qp(N:aM P)(r1:1∈R){rb:ax}(hr:rb∈P.ap)(hR:rb.aa∈R){x:Int}(hx:x≠ -1):x∈mj P R rb↔x∈bu P R rb:=by
 unfold mj bu;simp only[Zm];constructor
 . intro z_;refine oea z_ λb hb h=>?_;exact⟨b,(gL N r1 hr hR).mp hb,(pz N (d8 hb) hx).mp h⟩
 . intro z_;refine oea z_ λb hb h=>?_;have cF:=(gL N r1 hr hR).mpr hb;exact⟨b,cF,(pz N (d8 cF) hx).mpr h⟩
theorem gD(N:aM P)(r1:1∈R){rb:ax}(hr:rb∈P.ap)(hR:rb.aa∈R){x:Int}:x∈eH P R rb↔x∈inner P R rb:=by
 unfold eH inner;simp only[Zm];constructor
 . intro z_;refine oea z_ λb hb h=>?_;exact⟨b,(gL N r1 hr hR).mp hb,hJ.mp h⟩
 . intro z_;refine oea z_ λb hb h=>?_;exact⟨b,(gL N r1 hr hR).mpr hb,hJ.mpr h⟩
theorem mh(N:aM P){b:ax}(hb:b∈P.ap){t:Int}(h:t∈cu P R b):∃c∈P.ap,c.aa=t/\c.aw=b.aa:=by
 rcases Zg.mp h with h|h
 . refine oea (Zm.mp h) λo ho h=>?_;exact N.lpar b hb o ho t h
 . refine oea (Zn.mp h) λc hc cw=>?_;subst cw;refine oa (ZG.mp hc) λh1 h2=>?_;simp at h2;exact⟨c,h1,rfl,h2.2.2⟩
theorem i8{α β:Type}{f:α->List β}:∀{l:List α},(∀x∈l,(f x).Nodup)->l.Pairwise (λx y=>∀a∈f x,a∉f y)->(l.flatMap f).Nodup
 |[],_,_=>by simp
 |x::l,h,p=>by
  rw[YE] at p;rw[ZJ,ZI];refine⟨h x Ze,i8 (λy hy=>h y (Zh _ hy)) p.2,λa ha b hb e=>?_⟩;subst e;refine oea (Zm.mp hb) λy hy hb=>?_;exact p.1 y hy a ha hb
theorem nI(N:aM P){rb:ax}:(eH P R rb).Nodup:=by
 refine i8 (λb hb=>?_) ?_
 . have cF:=d8 hb;unfold fL;rw[ZI];refine⟨?_,N.CN b cF,λa ha c hc e=>?_⟩
   . exact((N.asc.imp λh=>by exact λcy=>(aj 0x101b1101211011202) _ _ h cy:(P.ap.map (·.aa)).Nodup)).sublist (YQ.map _)
   . subst e;refine oea (Zn.mp ha) λx hx c8=>?_;subst c8;refine oa (ZG.mp hx) λh1 h2=>?_;simp at h2;refine oea (Zm.mp hc) λo ho h=>?_;refine oeaa (N.rest b cF o ho _ h) λz hz e s=>?_;have:=N.uniq h1 hz e.symm;subst this;rw[h2.2.1] at s;exact absurd s (by decide)
 . have:(nG P R rb).Pairwise (λb c=>b.aa<c.aa):=(YN.mp N.asc).sublist YQ;refine XM (λ{b c} hb hc h a ha ir=>?_) this;refine oeaa (mh N (d8 hb) (hJ.mp ha)) λx hx e1 e2=>?_;refine oeaa (mh N (d8 hc) (hJ.mp ir)) λz hz e3 e4=>?_;have:=N.uniq hx hz (by rw[e1,e3]);subst this;exact(aj 0x10011b112120121211011303) _ _ _ h e2 e4
theorem ue(N:aM P){rb:ax}(hr:rb∈P.ap){x:Int}(h:x∈bG P R rb):x≠ -1:=by
 refine oea (Zm.mp h) λb hb h=>?_;have cF:=ct hr hb;refine oa (N.Kt b cF) λa1 a2=>?_;unfold b0 bT Last.aR at h;simp only[Zg,Zm,Zn,ZG] at h;rcases h with ⟨o,ho,h⟩|((h|(h|h))|⟨t,⟨ht,_⟩,rfl⟩)
 . have:=a1 o ho x h;exact λcy=>(aj 0x11b1901201000201) _ this cy
 . have:=a2 x h;exact λcy=>(aj 0x11b1901201000201) _ this cy
 . split at h
   . simp at h;(rename_i jH;exact λcy=>(aj 0x10110b110001901211012302) x b.ag.fn h cy jH)
   . simp at h
 . split at h
   . simp at h;(rename_i jH;exact λcy=>(aj 0x10110b110001901211012302) x b.ag.ae h cy jH)
   . simp at h
 . refine oeaa (N.vA b cF t ht) λc hc dW _=>?_;subst dW;have:=N.pos c hc;unfold cv;exact λcy=>(aj 0x101b1920010033201100201) _ this cy
end
section
section
variable {Φ:Calls}{γ:String->Option V}{h:Hp}{Q:V->Hp->Prop}{P:aJ}{R:List Int}
theorem mS:(P.ap.flatMap λb=>b.aN.flatMap λo=>if aL o then [o.result] else [])=simple P:=by
 rw[simple,aJ.aN,VD,WZ]
 congr 1
 funext b
 induction b.aN with
 |nil=>rfl
 |cons o l ih=>rw[ZJ,ih,Wm];split<;>rfl
theorem k_(W:Wd Φ γ)(N:aM P)(Y:PR h P)(q:∀a h',Ext h h'->h a=none->h' a=some (.list ((bE (simple P)).map .int))->Q (.ref a) h'):Φ "_law_simple" [.ref P.ad] h Q:=by
 refine W.cl rfl rfl ?_;have ps:=Y.self;nofun;intro a h1 A;have E1:=A.ext;nofun;refine fN W N (Y.ext E1) λc h2 e2 n2 f2=>?_;have Z:=bj (E1.trans e2) A.new;refine cx W.aW iL cj P.ap (λb=>b.aN.flatMap λo=>if aL o then [o.result] else []) (ys:=[]) (E1.trans e2) A.new f2 (e2.at A.at) (λz=>aB n2 A.at z.symm) (by rw[mS];exact ZK N.yE (by decide)) (λb σ h3 zs hb E3 X g3 hz K hK hr=>?_) λσ h3 E3 X g3=>?_
 . have B:=Y.aT b hb;have bs:=B.self;nofun;refine cx W.aW iL (λo:Op=>.ref o.ad) b.aN (λo=>if aL o then [o.result] else []) E3 ao (X.at B.aN) g3 (λz=>aB A.new B.aN z) (gY hz) (λo σ h4 Jb ho E4 X4 g4 Fz K4 CV Jr=>?_) λσ h4 E4 X4 g4=>r_done (hK _ _ X4 g4);have O:=(B.op o ho).ext (Z.trans X4);have os:=O.self;nofun;refine r_and (!o.tI) (λw K hK=>?_) ?_
   . have dat:=O.dat (beq_iff_eq.mp w)
     cases hp:o.tI with
     |true=>
      rw[hp] at dat hK;refine oeea dat λz fs ez fz=>?_;try clear dat
      nofun;rw[ez];nofun;exact hK
     |false=>
      rw[hp] at dat hK;nofun;rcases dat with ez|ez|⟨z,ez,fz⟩<;>rw[ez]<;>nofun<;>exact hK
   refine r_pushM o.result (t:=aL o) rfl g4 ao E4 (Zk (ZD _ _) Fz) (λK hK=>?_) λh5 E5 g5=>?_
   . nofun;exact hK
   . nofun;exact CV _ _ E5 g5
 . rw[XO,mS] at g3;nofun;refine r_sortl g3 N.yE λa4 h4 A4=>?_;nofun;exact q _ _ (X.trans A4.ext) (X.none A4.new) A4.at
structure gI where
 (aT:ax) (a r g m:Nat)
structure mP(P:aJ)(R:List Int)(h:Hp)(w:gI):Prop where
 a:h w.a=some (.list [.ref w.r,.ref w.g,.ref w.m])
 r:h w.r=some (.list ((eG P R w.aT).map .int))
 g:h w.g=some (.list ((mj P R w.aT).map .int))
 m:h w.m=some (.list ((eH P R w.aT).map .int))
theorem mP.ext{h':Hp}{w:gI}(x:mP P R h w)(e:Ext h h'):mP P R h' w:=⟨e.at x.a,e.at x.r,e.at x.g,e.at x.m⟩
noncomputable def fh(ws:List gI):List (Int×V):=ws.map λw=>(w.aT.aa,.ref w.a)
theorem hO{ws:List gI}:(fh ws).map (·.1)=(ws.map (·.aT)).map (·.aa):=by rw[fh,Zt,Zt];rfl
theorem qY{ws:List gI}(N:aM P)(e:ws.map (·.aT)=af P R){w:gI}(hw:w∈ws):(fh ws).lookup w.aT.aa=some (.ref w.a):=
 cY (p:=(w.aT.aa,V.ref w.a)) (by rw[hO,e];exact gK N) (Zn.mpr ⟨w,hw,rfl⟩)
theorem xO{ds:List gI}(e:ds.map (·.aT)=af P R){b:ax}(hb:b∈af P R):∃w∈ds,w.aT=b:=Zn.mp (e▸hb)
theorem uA{ds:List gI}(e:ds.map (·.aT)=af P R){w:gI}(hw:w∈ds):w.aT∈af P R:=e▸ZF hw
structure Dk(h:Hp)(ρ:Lo)(n:String)(l:List Int):Prop where
 ex:∃a,ρ n=some (.ref a)/\h a=some (iL l)
theorem ji{α:Type}{f:α->List Int}{d r xs:List α}{x:α}{n:Nat}(e:d++x::r=xs)(h:(xs.flatMap f).length<n):(d.flatMap f).length+(f x).length<n:=by
 rw[<-e,Zx,ZJ,Zb,Zb] at h;exact Zk (ZN (ZD _ _) _) h
theorem iz{α:Type}{z l m:List α}{n:Nat}(h:z.length+(l++m).length<n):(z++l).length+m.length<n:=by
 rwa [Zb,Yq,<-Zb]
structure FB(P:aJ)(R:List Int)(j:Hp)(d:List ax)(ρ:Lo)(h':Hp):Prop where
 ext:Ext j h'
 r:Dk h' ρ "reads" (d.flatMap (fK R))
 g:Dk h' ρ "gives" (d.flatMap (gA P R))
 m:Dk h' ρ "makes" (d.flatMap (fL P R))
structure FF(P:aJ)(R:List Int)(a:Nat)(j:Hp)(ws:List gI)(h':Hp):Prop where
 ext:Ext j (aH a h')
 fd:h' a=some (.dict (fh ws))
 row:∀w∈ws,mP P R (aH a h') w
theorem fC{a:Nat}{h1:Hp}(e:Ext h h1):Ext (aH a h) (aH a h1):=bj (aV.trans e) ao
theorem iQ{a:Nat}{o:O}{h1:Hp}(p:Put h a o h1):aH a h1=aH a h:=funext λx=>by
 by_cases z:x=a
 . rw[z,ao,ao]
 . rw[hide_ne z,hide_ne z,p.ne z]
theorem mY(W:Wd Φ γ)(N:aM P)(Y:PR h P)(LR:dN P R)(hR:R=(af P R).map (·.aa)){u:Nat}(hu:h u=some (.list (R.map .int)))
 (q:∀a h' ws,Ext h h'->h a=none->ws.map gI.aT=af P R->h' a=some (.dict (fh ws))->(∀w∈ws,mP P R h' w)->Q (.ref a) h'):Φ "_law_facts" [.ref P.ad,.ref u] h Q:=by
 refine W.cl rfl rfl ?_;have cH:=N.cH;have r1:=LR.ch.one N;have Rx:h u=some (.list ((af P R).map cj)):=by rw[hu,hR];rw[Zt,<-hR];rfl
 refine AZ W N Y rfl λar h1 e1 n1 f1=>?_;nofun;intro fd h2 A2;have E2:=A2.im e1;have n2:=e1.none A2.new;have Z:=bj E2 n2;have Q3:aH fd h2 ar=some (.list (P.ap.map fM)):=aF (A2.ne f1) (A2.ext.at f1);have CR:=Z.at hu;nofun;refine bO W.aW cj (af P R) (λd ρ h'=>∃ws,ws.map gI.aT=d/\FF P R fd (aH fd h2) ws h') (E2.at Rx) ⟨[],rfl,.refl,A2.at,λ_ z=>nomatch z⟩ (λd ρ h' lH=>oea lH λws _ I=>(I.ext.trans aV).at (Z.at Rx)) ?_ ?_
 . intro d rb rr σ h4 hd lF z_ K hK _;refine oea z_ λws eq I=>?_;have X4:=I.ext.trans aV;have f4:=I.fd;have Ro:=Zk (kY (f:=fK R) (rb:=rb) (R:=R) N (λb hb=>wT (R:=R) N hb)) (show 64*11<big by decide);have Rn:=Zk (kY (f:=gA P R) (rb:=rb) (R:=R) N (λb hb=>wU (R:=R) N hb)) (show 64*75<big by decide);have Rm:=Zk (kY (f:=fL P R) (rb:=rb) (R:=R) N (λb hb=>pK (R:=R) N hb)) (show 64*70<big by decide);have nb:rb.aa∉(ws.map (·.aT)).map (·.aa):=by
    have:=gK (R:=R) N;rw[<-hd,Zq,Zw] at this;rw[eq];exact λm=>(ZI.mp this).2.2 _ m _ Ze rfl
   nofun;intro a5 h5 A5;nofun;intro a6 h6 A6;nofun;intro a7 h7 A7;have EE:=A5.ext.trans (A6.ext.trans A7.ext);have X7:=X4.trans EE;nofun;refine cP W.aW fM fM (λb=>bC P R b.aa==rb.aa) P.ap (X7.at Q3) (λb h8 hb e8 K hK=>?_) (λb h8 hb _ e8 K hK=>?_) λam h8 e8 n8 f8=>?_
   . have X8:=X7.trans e8;have bs:=((Y.aT b hb).ext (Z.trans X8)).self;nofun;refine kl W N (Y.ext (Z.trans X8)) r1 (X8.at CR) hb ?_;nofun;exact hK h8 e8
   . nofun;exact hK h8 e8
   have FW:=EE.trans e8;refine bO W.aW fM (nG P R rb) (FB P R h8) f8 ⟨.refl,⟨a5,rfl,(A6.ext.trans (A7.ext.trans e8)).at A5.at⟩,⟨a6,rfl,(A7.ext.trans e8).at A6.at⟩,⟨a7,rfl,e8.at A7.at⟩⟩ (λd ρ h' I=>I.ext.at f8) ?_ ?_
   . rintro d2 b Ji σ h9 vH hb J K2 rf -;have cF:=d8 hb;have X9:=X7.trans (e8.trans J.ext);have B:=Y.aT b cF;have bs:=B.self;have ls:=B.ag.self;have bp:=B.params;have bo:=B.aN;have la:=B.ag.args;have z1:(d2.flatMap (fK R)).length+(b.aN.flatMap (·.args)++((b.ag.args++[b.ag.fn,b.ag.ae])++(b.ag.bg.filter λt=>R.contains t).map cv)).length<big:=ji vH Ro;have z2:(d2.flatMap (gA P R)).length+(b.params++[b.ae]++(bq P R b.aa).map (λc=>cv c.aa)++b.aN.flatMap (λo=>[o.result]++o.bP)).length<big:=ji vH Rn;have z3:(d2.flatMap (fL P R)).length+((bq P R b.aa).map (·.aa)++b.aN.flatMap (·.aU)).length<big:=ji vH Rm;have fin:∀ρ h',Ext h9 h'->Dk h' ρ "reads" (d2.flatMap (fK R)++(b.aN.flatMap (·.args)++((b.ag.args++[b.ag.fn,b.ag.ae])++(b.ag.bg.filter λt=>R.contains t).map cv)))->Dk h' ρ "gives" (d2.flatMap (gA P R)++(b.params++[b.ae]++(bq P R b.aa).map (λc=>cv c.aa)++b.aN.flatMap (λo=>[o.result]++o.bP)))->Dk h' ρ "makes" (d2.flatMap (fL P R)++((bq P R b.aa).map (·.aa)++b.aN.flatMap (·.aU)))->K2 .next ρ [] h':=λρ h' e x y z=>rf _ _ ⟨J.ext.trans e,by rw[Zx,ZJ,Yb,Zu];exact x,by rw[Zx,ZJ,Yb,Zu];exact y,by rw[Zx,ZJ,Yb,Zu];exact z⟩
     refine o J.r λbV=>?_;obtain ⟨ya,lr,gr⟩:=bV;refine o J.g λcw=>?_;obtain ⟨yb,lg,gg⟩:=cw;refine o J.m λc8=>?_;obtain ⟨yc,lm,gm⟩:=c8;clear Ro Rn Rm rf
     revert z1 z2 z3 fin gr gg gm
     generalize d2.flatMap (fK R)=D1;generalize d2.flatMap (gA P R)=D2;generalize d2.flatMap (fL P R)=D3;intro z1 z2 z3 fin gr gg gm;have PG:=X9.at Q3;nofun;refine cP W.aW fM cj (λc=>R.contains c.aa&&(c.aI== "cont"&&c.aw==b.aa)) P.ap PG (λc iq hc jI K hK=>?_) (λc iq hc _ jI K hK=>?_) λyd iq jI MC I0=>?_
     . have xc:=X9.trans jI;have cs:=((Y.aT c hc).ext (Z.trans xc)).self;have bs:=(B.ext (Z.trans xc)).self;have vE:=xc.at CR;nofun;refine r_and (c.aI== "cont"&&c.aw==b.aa) (λ_ K hK=>?_) ?_
       . nofun;refine r_and (c.aw==b.aa) (λ_ K hK=>?_) ?_
         . nofun;exact hK
         . nofun;exact hK
       . nofun;exact hK iq jI
     . have cs:=((Y.aT c hc).ext (Z.trans (X9.trans jI))).self;nofun;exact hK iq jI
     have xc:=X9.trans jI;have Qi:=(B.ext (Z.trans xc)).self;nofun;refine r_cati (jI.at gg) ((Z.trans xc).at bp) (ZH (jJ (jJ (jJ z2)))) λa11 ti ia=>?_;have bs11:=ia.ext.at Qi;nofun;intro a12 rg C0;refine r_cati (l:=D2++b.params) (m:=[b.ae]) (C0.ext.at ia.at) C0.at (ZH (iz (jJ (jJ z2)))) λa13 ED Ae=>?_;have lJ:=ia.ext.trans (C0.ext.trans Ae.ext);nofun;refine comp_map W.aW cj (λc=>V.int (cv c.aa)) (bq P R b.aa) (lJ.at I0) (λc zQ hc yp K hK=>?_) λa14 zQ yp Mz Oc=>?_
     . nofun;exact hK zQ yp
     have Oc:zQ a14=some (iL ((bq P R b.aa).map λc=>cv c.aa)):=by rw[Oc,iL,Zt];rfl
     refine r_cati (yp.at Ae.at) Oc (ZH (by rw[Zo];exact iz (jJ z2))) λa15 Ob Sz=>?_;have qD:=lJ.trans (yp.trans Sz.ext);have PY:iq yd=some (iL ((bq P R b.aa).map (·.aa))):=by rw[I0,iL,Zt];rfl
     nofun;refine r_cati ((jI.trans qD).at gm) (qD.at PY) (ZH (jJ z3)) λa16 RE OT=>?_;have JM:=jI.trans (qD.trans OT.ext);have JO:=X9.trans JM;have bs16:=(B.ext (Z.trans JO)).self;nofun;refine bO W.aW (λo:Op=>.ref o.ad) b.aN (λd3 ρ h'=>Ext RE h'/\Dk h' ρ "reads" (D1++d3.flatMap (·.args))/\Dk h' ρ "gives" (D2++(b.params++[b.ae]++(bq P R b.aa).map (λc=>cv c.aa))++d3.flatMap (λo=>[o.result]++o.bP))/\Dk h' ρ "makes" (D3++(bq P R b.aa).map (·.aa)++d3.flatMap (·.aU))) ((Z.trans JO).at bo)
      ⟨.refl,⟨ya,lr,by rw[Yb,Zu];exact JM.at gr⟩,⟨a15,rfl,by rw[Yb,Zu,<-Zo,<-Zo];exact OT.ext.at Sz.at⟩,⟨a16,rfl,by rw[Yb,Zu];exact OT.at⟩⟩ (λd ρ h' I=>I.1.at ((Z.trans JO).at bo)) ?_ ?_
     . intro d3 o QA σ h17 FL ho z_ K3 EA _;refine oaaa z_ λJL nP wY SP=>?_;obtain ⟨⟨yr,lr,gr⟩⟩:=nP;obtain ⟨⟨yg,lg,gg⟩⟩:=wY;obtain ⟨⟨ym,lm,gm⟩⟩:=SP;have OO:=(B.op o ho).ext (Z.trans (JO.trans JL));have os:=OO.self;have y1:=ji (n:=big - D1.length) FL (f:=λo:Op=>o.args) (YA.mpr (jJ z1));have y2:=ji (n:=big - (D2++(b.params++[b.ae]++(bq P R b.aa).map (λc=>cv c.aa))).length) FL (f:=λo:Op=>[o.result]++o.bP) (YA.mpr (iz z2));have y3:=ji (n:=big - (D3++(bq P R b.aa).map (·.aa)).length) FL (f:=λo:Op=>o.aU) (YA.mpr (iz z3));have y1:=iz (by rw[<-Zb] at y1;exact YA.mp y1);have y2:=iz (by rw[<-Zb] at y2;exact YA.mp y2);have y3:=iz (by rw[<-Zb] at y3;exact YA.mp y3);nofun;refine r_cati gr OO.args (ZH y1) λb1 j1 B1=>?_;have os:=B1.ext.at os;nofun;refine r_cati (B1.ext.at gm) (B1.ext.at OO.aU) (ZH y3) λb2 j2 B2=>?_;have os:=B2.ext.at os;nofun;intro b3 j3 B3;have os:=B3.ext.at os;have k3:=B1.ext.trans (B2.ext.trans B3.ext);refine r_cati (m:=[o.result]) (k3.at gg) B3.at (ZH (jJ y2)) λb4 j4 B4=>?_;have os:=B4.ext.at os;nofun;refine r_cati B4.at ((k3.trans B4.ext).at OO.bP) (ZH (iz y2)) λb5 j5 B5=>?_;have k5:=k3.trans (B4.ext.trans B5.ext);nofun;have fl:∀(f:Op->List Int),(d3++[o]).flatMap f=d3.flatMap f++f o:=λf=>by rw[Zx,ZJ,Yb,Zu]
       refine r_done (EA _ _ ⟨JL.trans k5,⟨b1,rfl,?_⟩,⟨b5,rfl,?_⟩,⟨b2,rfl,?_⟩⟩)
       . rw[fl,<-Zo];exact(B2.ext.trans (B3.ext.trans (B4.ext.trans B5.ext))).at B1.at
       . rw[fl,<-Zo,<-Zo];exact B5.at
       . rw[fl,<-Zo];exact(B3.ext.trans (B4.ext.trans B5.ext)).at B2.at
     . intro σ h17 z_;refine oaaa z_ λJL SO SN SM=>?_;obtain ⟨⟨yr,lr,gr⟩⟩:=SO;obtain ⟨⟨yg,lg,gg⟩⟩:=SN;obtain ⟨⟨ym,lm,gm⟩⟩:=SM;have Sj:=JO.trans JL;have BB:=B.ext (Z.trans Sj);have bs:=BB.self;have ls:=BB.ag.self;have x1:=iz z1;nofun;refine r_cati gr BB.ag.args (ZH (jJ (jJ x1))) λb1 j1 B1=>?_;have bs:=B1.ext.at bs;have ls:=B1.ext.at ls;nofun;intro b2 j2 B2;refine r_cati (m:=[b.ag.fn,b.ag.ae]) (B2.ext.at B1.at) B2.at (ZH (iz (jJ x1))) λb3 j3 B3=>?_;have k3:=B1.ext.trans (B2.ext.trans B3.ext);nofun;refine xG W (BB.ext k3) λal j4 e4 n4 g4=>?_;refine cP W.aW V.int (λt=>V.int (cv t)) (λt=>R.contains t) b.ag.bg g4 (λt j5 ht e5 K hK=>?_) (λt j5 ht _ e5 K hK=>?_) λb5 j5 e5 n5 g5=>?_
       . have vE:=(Sj.trans (k3.trans (e4.trans e5))).at CR;nofun;exact hK j5 e5
       . nofun;exact hK j5 e5
       have g5:j5 b5=some (iL ((b.ag.bg.filter λt=>R.contains t).map cv)):=by rw[g5,iL,Zt];rfl
       refine r_cati ((e4.trans e5).at B3.at) g5 (ZH (by rw[Zo];exact iz x1)) λb6 j6 B6=>?_;have k6:=k3.trans (e4.trans (e5.trans B6.ext));nofun;refine r_done (fin _ _ (JM.trans (JL.trans k6)) ⟨b6,rfl,?_⟩ ⟨yg,lg,?_⟩ ⟨ym,lm,?_⟩)
       . rw[<-Zo,<-Zo,<-Zo];exact B6.at
       . rw[<-Zo];exact k6.at gg
       . rw[<-Zo];exact k6.at gm
   . rintro σ h9 ⟨E9,⟨⟨ya,lr,gr⟩⟩,⟨⟨yb,lg,gg⟩⟩,⟨⟨yc,lm,gm⟩⟩⟩;have M6:=FW.trans E9;nofun;refine cP W.aW V.int V.int (λx=>x != -1) ((nG P R rb).flatMap (fK R)) gr (λx iq hx jI K hK=>?_) (λx iq hx _ jI K hK=>?_) λyd iq jI MC I0=>?_
     . nofun;exact hK iq jI
     . nofun;exact hK iq jI
     nofun;intro ye ti ia;have GS:=M6.trans (jI.trans ia.ext);have f11:=GS.at f4;nofun;refine r_setId f11 ?_ λrg p=>?_
     . have h1:=congrArg List.length hd;rw[<-eq,Zb,Za] at h1;rw[fh,Za];exact Zk (h1▸ZD _ _) (ZK (dK N) (by decide))
     have out:∀x o,h4 x=none\/x≠fd->ti x=some o->aH fd rg x=some o:=λx o n e=>by
      have ne:x≠fd:=n.elim (λn z=>by rw[z,f4] at n;cases n) id;rw[iQ p,aF ne e]
     have n9:∀x o,h9 x=some o->x≠fd->aH fd rg x=some o:=λx o e n=>out x o (.inr n) ((jI.trans ia.ext).at e);have f9:=M6.at f4;have Mw:∀{x l},h9 x=some (iL l)->x≠fd:=λe z=>by rw[z,f9] at e;cases e
     refine r_done (hK _ _ ⟨ws++[⟨rb,ye,yd,yb,yc⟩],by rw[Zq,eq];rfl,?_,?_,λw hw=>?_⟩)
     . rw[iQ p];exact I.ext.trans (fC GS)
     . rw[p.at,iO (by rw[hO];exact nb),fh,fh,Zq];rfl
     . rcases Zg.mp hw with hw|hw
       . rw[iQ p];exact(I.row w hw).ext (fC GS)
       . rw[Zc.mp hw];exact⟨out _ _ (.inl ((M6.trans jI).none ia.new)) ia.at,out _ _ (.inl (M6.none MC)) (ia.ext.at I0),n9 _ _ gg (Mw gg),n9 _ _ gm (Mw gm)⟩
 . intro σ h4 z_;refine oea z_ λws eq I=>?_;nofun;exact q fd h4 ws (Z.trans (I.ext.trans aV)) n2 eq I.fd λw hw=>(I.row w hw).ext aV
end
end
section
section
variable {Φ:Calls}{γ:String->Option V}{h:Hp}{Q:V->Hp->Prop}{P:aJ}{R:List Int}
structure rO(P:aJ)(R:List Int)(h:Hp)(fd:Nat)(ws:List gI):Prop where
 eq:ws.map gI.aT=af P R
 d:h fd=some (.dict (fh ws))\/h fd=some (.eA (fh ws))
 rows:∀w∈ws,mP P R h w
theorem rO.ext{h':Hp}{fd:Nat}{ws:List gI}(x:rO P R h fd ws)(e:Ext h h'):rO P R h' fd ws:=
 ⟨x.eq,x.d.imp e.at e.at,λw hw=>(x.rows w hw).ext e⟩
theorem pj{rb:ax}{x:Int}(n:bI P R rb x):x∉bu P R rb/\(x∈bG P R rb\/∃c∈af P R,c.aa∈inner P R rb/\bI P R c x):=by
 cases n with
 |here a b=>exact⟨b,.inl a⟩
 |there a b c d=>exact⟨d,.inr ⟨_,b,a,c⟩⟩
theorem xU{p:ax->Prop}:∀{l:List Int},(∀t∈l,∃c,p c/\c.aa=t)->∃cs:List ax,(∀c∈cs,p c)/\cs.map (·.aa)=l
 |[],_=>⟨[],λ_ z=>(nomatch z),rfl⟩
 |t::l,hl=>by
  refine oea (xU (l:=l) λt ht=>hl t (Zh _ ht)) λcs h1 h2=>?_;refine oea (hl t Ze) λc hc e=>?_;exact⟨c::cs,λd hd=>(Zp.mp hd).elim (λz=>z▸hc) (h1 d),by rw[Zw,e,h2]⟩
structure Met(P:aJ)(R:List Int)(rb:ax)(x:Int)(i:Nat)(ms:List ax):Prop where
 has:rb∈ms
 nd:(ms.map (·.aa)).Nodup
 ok:∀m∈ms,m∈af P R/\(bI P R m x->bI P R rb x)
 done:∀(k:Nat) m,k<i->ms[k]?=some m->x∈bu P R m\/(x∉bG P R m/\∀c∈af P R,c.aa∈inner P R m->c∈ms)
theorem Met.len{rb:ax}{x:Int}{i:Nat}{ms:List ax}(M:Met P R rb x i ms):ms.length<=(af P R).length:=by
 have:=dB (m:=(af P R).map (·.aa)) M.nd λy hy=>by refine oea (Zn.mp hy) λb hb bV=>?_;subst bV;exact ZF (M.ok b hb).1
 rwa [Za,Za] at this
theorem Met.step{rb:ax}{x:Int}{i:Nat}{ms cs:List ax}(M:Met P R rb x i ms)(nd:((ms++cs).map (·.aa)).Nodup)(ok:∀m∈cs,m∈af P R/\(bI P R m x->bI P R rb x))
 (now:∀m,ms[i]?=some m->x∈bu P R m\/(x∉bG P R m/\∀c∈af P R,c.aa∈inner P R m->c∈ms++cs)) (hc:i<ms.length\/cs=[]):Met P R rb x (i+1) (ms++cs):=by
 refine⟨Zd _ M.has,nd,λm hm=>(Zg.mp hm).elim (M.ok m) (ok m),λk m hk hm=>?_⟩;have e:ms[k]?=some m:=by
  rcases hc with hc|rfl
  . rwa [Yt (Zk (XY hk) hc)] at hm
  . rwa [Zu] at hm
 rcases Nat.lt_or_eq_of_le (XY hk) with z|z
 . exact(M.done k m z e).imp id λw=>⟨w.1,λc h1 h2=>Zd _ (w.2 c h1 h2)⟩
 . exact now m (z▸e)
theorem Met.end{rb:ax}{x:Int}{i:Nat}{ms:List ax}(M:Met P R rb x i ms)(hi:ms.length<=i):¬ bI P R rb x:=by
 have all:∀m∈ms,x∈bu P R m\/(x∉bG P R m/\∀c∈af P R,c.aa∈inner P R m->c∈ms):=λm hm=>by
  obtain ⟨k,hk,e⟩:=YK.mp hm;exact M.done k m (Nat.lt_of_lt_of_le hk hi) (by rw[Zv hk,e])
 have none:∀{m y},bI P R m y->y=x->m∉ms:=λ{m y} n=>by
  induction n with
  |here a b=>rintro rfl hm;rcases all _ hm with z|⟨z,_⟩;exact b z;exact z a
  |there a b c d ih=>rintro rfl hm;rcases all _ hm with z|⟨_,z⟩;exact d z;exact ih rfl (z _ b a)
 exact λn=>none n rfl M.has
theorem uY(W:Wd Φ γ)(N:aM P)(LR:dN P R){fd:Nat}{ws:List gI}(FR:rO P R h fd ws){rb:ax}(lF:rb∈af P R){x:Int}(hx:x≠ -1)
 (q:∀h' b,Ext h h'->(b=true↔bI P R rb x)->Q (.bool b) h'):Φ "_law_is_needed" [.ref fd,.int rb.aa,.int x] h Q:=by
 refine W.cl rfl rfl ?_;have r1:=LR.ch.one N;have rl:=dK (R:=R) N;have wl:(fh ws).length=(af P R).length:=by rw[<-FR.eq,fh,Za,Za]
 nofun;intro m0 h1 A1;have Ss:=FR.ext A1.ext;nofun;refine r_lenD Ss.d ?_;rw[wl];refine fq W.aW (ZH (ZK rl (by decide))) (λi ρ h'=>Ext h1 h'/\∃am,∃ms:List ax,ρ "met"=some (.ref am)/\h' am=some (.list (ms.map cj))/\Met P R rb x i ms)
  ⟨.refl,m0,[rb],rfl,A1.at,Ze,Z4 _ _,λm hm=>by rw[Zc.mp hm];exact⟨lF,id⟩,λk m hk=>absurd hk (Uo _)⟩ ?_ ?_
 . intro i σ h2 hi z_ K hK hr _;refine oaeeaa z_ λe2 am ms l3 f2 M=>?_;have Sr:=Ss.ext e2;have ml:=M.len;nofun;rw[Za];refine r_dec (λlG=>?_) λlG=>?_
   . have lG:=YS.mp lG;have e0:ms[i]?=some ms[i]:=Zv lG;have hm:=M.ok ms[i] (Yy _);refine oea (xO FR.eq hm.1) λw hw ew=>?_;have Re:du (ms.map cj) (i:Int)=some (.int ms[i].aa):=by
      unfold du;rw[if_pos (Z9 _),Xa,ZP,e0];rfl
     have lk:=qY N FR.eq hw;have F:=Sr.rows w hw
     revert hm e0 ew Re
     generalize ms[i]=m;rintro e0 hm rfl Re;have Da:=(ay.mp hm.1).1;have Jy:=(ay.mp hm.1).2;have wr:=F.r;have wg:=F.g;have g1:=jU N r1 Da Jy hx;have g2:=qp N r1 Da Jy hx;nofun;refine r_idxD Sr.d lk (r_unpl rfl rfl F.a ?_);nofun;refine r_ite (λc1=>?_) λc1=>?_
     . have c1:x∉bu P R w.aT:=λz=>j_ (nt c1) (g2.mpr z);nofun;refine r_ite (λc2=>?_) λc2=>?_
       . nofun;exact r_retK (hr _ _ _ (q _ _ (A1.ext.trans e2) ⟨λ_=>hm.2 (.here (g1.mp (ik c2)) c1),λ_=>rfl⟩))
       . have c2:x∉bG P R w.aT:=λz=>j_ c2 (g1.mpr z);have wm:=F.m;nofun;refine cP W.aW V.int V.int (λt=> !(ms.map (·.aa)).contains t) (eH P R w.aT) wm (λt h3 ht e3 K hK=>?_) (λt h3 ht _ e3 K hK=>?_) λa3 h3 e3 n3 f3=>?_
         . have f3:h3 am=some (iL (ms.map (·.aa))):=by rw[iL,Zt];exact e3.at f2
           nofun;exact hK h3 e3
         . nofun;exact hK h3 e3
         have RO:h3 am=some (iL (ms.map (·.aa))):=by rw[iL,Zt];exact e3.at f2
         refine r_cati RO (m:=(eH P R w.aT).filter λt=> !(ms.map (·.aa)).contains t) f3 ?_ λa4 h4 A4=>?_
         . rw[Za];exact ZH (Zk (ZQ (Zf ml (ZH rl)) (Zf (ZT _ _) (kY N λb hb=>pK N hb))) (show 64+64*70<big by decide))
         refine oea (xU (p:=(· ∈af P R)) (l:=(eH P R w.aT).filter λt=> !(ms.map (·.aa)).contains t) λt ht=>fY N LR.ch Da ((gD N r1 Da Jy).mp (ZG.mp ht).1)) λcs IV hcl=>?_;nofun;refine r_done (hK _ _ ⟨(e2.trans e3).trans A4.ext,a4,ms++cs,rfl,?_,M.step ?_ (λm CT=>⟨IV m CT,λn=>hm.2 (.there ?_ (IV m CT) n c1)⟩) (λm CT=>?_) (.inl lG)⟩)
         . rw[A4.at,<-hcl,<-Zq,Zt];rfl
         . rw[Zq,hcl];refine ZI.mpr ⟨M.nd,(nI N).sublist YQ,λy hy z hz e=>?_⟩;exact j_ (nt (ZG.mp hz).2) (e▸hy)
         . have:m.aa∈cs.map (·.aa):=ZF CT;rw[hcl] at this;exact(gD N r1 Da Jy).mp (ZG.mp this).1
         . cases e0.symm.trans CT
           refine .inr ⟨c2,λc hc N6=>?_⟩
           by_cases JC:c∈ms
           . exact Zd _ JC
           . refine Zi _ ?_;have:c.aa∈cs.map (·.aa):=by
              rw[hcl,ZG];refine⟨(gD N r1 Da Jy).mpr N6,?_⟩
              cases z:(ms.map (·.aa)).contains c.aa with
              |false=>rfl
              |true=>
               refine oea (Zn.mp (ik z)) λb hb e=>?_;exact absurd (N.uniq (ay.mp hc).1 (ay.mp (M.ok b hb).1).1 e.symm▸hb) JC
             refine oea (Zn.mp this) λd hd e=>?_;exact N.uniq (ay.mp hc).1 (ay.mp (IV d hd)).1 e.symm▸hd
     . nofun;have c1:x∈bu P R w.aT:=g2.mp (ik (Mine.nf c1));refine r_done (hK _ _ ⟨e2,am,ms,l3,f2,?_⟩);have:=M.step (cs:=[]) (by rw[Zu];exact M.nd) (λ_ z=>nomatch z) (λm CT=>by cases e0.symm.trans CT;exact .inl c1) (.inr rfl)
       rwa [Zu] at this
   . have lG:ms.length<=i:=Uj λz=>lG (YS.mpr z);nofun;refine r_done (hK _ _ ⟨e2,am,ms,l3,f2,?_⟩);have:=M.step (cs:=[]) (by rw[Zu];exact M.nd) (λ_ z=>nomatch z) (λm CT=>by rw[Yw lG] at CT;cases CT) (.inr rfl)
     rwa [Zu] at this
 . intro σ h2 z_;refine oaeeaa z_ λe2 am ms l3 f2 M=>?_;nofun;exact q _ _ (A1.ext.trans e2) ⟨λz=>Bool.noConfusion z,λn=>absurd n (M.end M.len)⟩
end
end
section
section
variable {Φ:Calls}{γ:String->Option V}{h:Hp}{Q:V->Hp->Prop}{P:aJ}{R:List Int}
structure OI(P:aJ)(R:List Int)(rb:ax)(D:Int->Prop)(l:List Int):Prop where
 nd:l.Nodup
 ok:∀x∈l,bI P R rb x/\x∉simple P
 all:∀x,D x->bI P R rb x->x∉simple P->x∈l
theorem si(W:Wd Φ γ)(N:aM P)(Y:PR h P)(LR:dN P R){fd:Nat}{ws:List gI}(eq:ws.map gI.aT=af P R)(JE:h fd=some (.dict (fh ws)))(rows:∀w∈ws,mP P R h w){rb:ax}(lF:rb∈af P R)
 (ff:∀l:List Int,l.Nodup->(∀x∈l,bI P R rb x/\x∉simple P)->l.length<64)
 (q:∀a h' l,Ext h h'->h a=none->l.Nodup->(∀x,x∈l↔bI P R rb x/\x∉simple P)->h' a=some (.list ((bE l).map .int))->Q (.ref a) h'):Φ "_law_wanted" [.ref P.ad,.ref fd,.int rb.aa] h Q:=by
 refine W.cl rfl rfl ?_;have r1:=LR.ch.one N;nofun;refine k_ W N Y λsa h1 e1 n1 f1=>?_;nofun;intro wa h2 A2;have e2:=A2.im e1;have TK:sa≠fd:=(aB n1 JE).symm;have z5:wa≠fd:=(A2.ne (e1.at JE)).symm;have TE:sa≠wa:=A2.ne f1;have wn:=e1.none A2.new;have js:aH fd (aH wa h2) sa=some (iL (bE (simple P))):=aF TK (aF TE (A2.ext.at f1));have jw:aH fd (aH wa h2) wa=none:=(hide_ne z5).trans ao;have Z:Ext (aH fd h) (aH fd (aH wa h2)):=bj (bj (aV.trans e2) (qU wn)) ao;have AA:∀w∈ws,mP P R (aH fd (aH wa h2)) w:=λw hw=>by
  obtain ⟨a1,a2,a3,a4⟩:=rows w hw;have ne:∀{x l},h x=some (.list l)->x≠fd:=λe z=>by rw[z,JE] at e;cases e
  exact⟨Z.at (aF (ne a1) a1),Z.at (aF (ne a2) a2),Z.at (aF (ne a3) a3),Z.at (aF (ne a4) a4)⟩
 have back:∀{h'},Ext (aH fd (aH wa h2)) h'->h' fd=some (.dict (fh ws))->Ext h h':=λ{h'} e z x hx=>by
  by_cases k:x=fd
  . rw[k,z,JE]
  . exact(Z.trans e) x (by rw[hide_ne k];exact hx) |>.trans (hide_ne k)
 nofun;refine oW W.aW (e2.at JE) (λd ρ h'=>Ext (aH fd (aH wa h2)) h'/\h' fd=some (.eA (fh ws))/\∃l,h' wa=some (iL l)/\OI P R rb (λx=>∃w∈ws,(w.aT.aa,V.ref w.a)∈d/\x∈eG P R w.aT) l)
  (λh3 p=>⟨p.im (aV.trans aV) ao,p.at,[],p.to z5 A2.at,Yl,λ_ z=>(nomatch z),λx lI=>oeaa lI λw _ z _=>nomatch z⟩) (λd ρ h' I=>I.2.1) ?_ ?_
 . intro d p rr σ h4 hd hp z_ K hK;refine oaaea z_ λe4 f4 l g4 I=>?_;refine oea (Zn.mp hp) λw hw bV=>?_;subst bV;have lk:=qY N eq hw;have F:=(AA w hw).ext e4;have Fa:=F.a;have s0:du [V.ref w.r,.ref w.g,.ref w.m] 0=some (.ref w.r):=rfl;nofun;refine bO W.aW V.int (eG P R w.aT) (λd2 ρ h'=>Ext (aH fd (aH wa h2)) h'/\h' fd=some (.eA (fh ws))/\∃l,h' wa=some (iL l)/\OI P R rb (λx=>(∃w∈ws,(w.aT.aa,V.ref w.a)∈d/\x∈eG P R w.aT)\/x∈d2) l)
    F.r ⟨e4,f4,l,g4,I.nd,I.ok,λx hx=>I.all x (hx.resolve_right λz=>nomatch z)⟩ (λd ρ h' J=>J.1.at (AA w hw).r) ?_ ?_
   . intro d2 x Ji σ h5 vH hx z_ K2 rf _;refine oaaea z_ λe5 f5 l g5 J=>?_;have s5:=e5.at js;have C_:x≠ -1:=bne_iff_ne.mp (ZG.mp hx).2;have cJ:(bI P R rb x->x∉simple P->x∈l)->OI P R rb (λy=>(∃w∈ws,(w.aT.aa,V.ref w.a)∈d/\y∈eG P R w.aT)\/y∈d2++[x]) l:=λhs=>⟨J.nd,J.ok,λy hy=>by
      rcases hy with hy|hy
      . exact J.all y (.inl hy)
      . rcases Zg.mp hy with hy|hy
        . exact J.all y (.inr hy)
        . rw[Zc.mp hy];exact hs⟩
     nofun;refine r_ite (λc1=>?_) λc1=>?_
     . have c1:x∉simple P:=λz=>j_ (nt c1) (cW.mpr z);nofun;refine r_ite (λc2=>?_) λc2=>?_
       . have c2:=j_ (nt c2);nofun;refine uY W N LR ⟨eq,.inr f5,λw hw=>(AA w hw).ext e5⟩ lF C_ λh6 b e6 hb=>?_;have g6:=e6.at g5;have f6:=e6.at f5;have e6:=e5.trans e6;nofun;refine r_ite (λc3=>?_) λc3=>?_
         . have nx:=hb.mp c3;nofun;refine r_appi g6 (ZK (ff l J.nd J.ok) (by decide)) λh7 p=>?_;refine r_done_sq (r_done (rf _ _ ⟨p.im e6 jw,p.to z5.symm f6,l++[x],p.at,xJ J.nd c2,λy hy=>?_,λy hy h1 h2=>?_⟩))
           . rcases Zg.mp hy with hy|hy
             . exact J.ok y hy
             . rw[Zc.mp hy];exact⟨nx,c1⟩
           . rcases hy with hy|hy
             . exact Zd _ (J.all y (.inl hy) h1 h2)
             . rcases Zg.mp hy with hy|hy
               . exact Zd _ (J.all y (.inr hy) h1 h2)
               . exact Zi _ hy
         . nofun;exact r_done (rf _ _ ⟨e6,f6,l,g6,cJ λz=>absurd (hb.mpr z) (by rw[c3];exact Yd)⟩)
       . nofun;exact r_done (rf _ _ ⟨e5,f5,l,g5,cJ λ_ _=>ik (Mine.nf c2)⟩)
     . nofun;exact r_done (rf _ _ ⟨e5,f5,l,g5,cJ λ_ z=>absurd (cW.mp (ik (Mine.nf c1))) z⟩)
   . intro σ h5 z_;refine oaaea z_ λe5 f5 l g5 J=>?_;refine r_done (hK _ _ ⟨e5,f5,l,g5,J.nd,J.ok,λx lH=>oeaa lH λw' Rb hm hx=>J.all x ?_⟩);rcases Zg.mp hm with hm|hm
     . exact .inl ⟨w',Rb,hm,hx⟩
     . have e:w'.aT.aa=w.aT.aa:=congrArg Prod.fst (Zc.mp hm);rw[N.uniq (ay.mp (uA eq Rb)).1 (ay.mp (uA eq hw)).1 e] at hx;exact .inr hx
 . intro σ h4 h5 z_ p;refine oaaea z_ λe4 f4 l g4 I=>?_;have e5:=p.im e4 ao;have eh:=back e5 p.at;nofun;refine r_sortl (p.to z5 g4) (ff l I.nd I.ok) λa6 h6 A6=>?_;nofun;refine q _ _ l (eh.trans A6.ext) (eh.none A6.new) I.nd (λx=>⟨I.ok x,λrc=>oa rc λn s=>?_⟩) A6.at;have:∀{b:ax} {y:Int},bI P R b y->b∈af P R->∃c∈af P R,y∈bG P R c:=λ{b y} n=>by
    induction n with
    |here a _=>intro hb;exact⟨_,hb,a⟩
    |there _ b' _ _ ih=>intro _;exact ih b'
   refine oea (this n lF) λc hc hr=>?_;refine oea (xO eq hc) λw hw cw=>?_;subst cw;exact I.all x ⟨w,hw,Zn.mpr ⟨w,hw,rfl⟩,(jU N r1 (ay.mp hc).1 (ay.mp hc).2 (ue N (ay.mp hc).1 hr)).mpr hr⟩ n s
end
end
section
variable {P:aJ}{R:List Int}
structure Arg where
 (kind:String) (val:V)
structure Z where
 (ae:Int) (ad:Nat) (arg:Arg)
noncomputable abbrev qf(z:Z):V:=.ref z.ad
noncomputable def Ml(br:List Int)(v:Int)(a:Arg):Prop:=(v∈br/\a.kind="free"/\∃i:Nat,br[i]?=some v/\a.val= .int i)\/(v∉br/\(a.kind="const"\/a.kind="slot"))
structure w_(h:Hp)(br:List Int)(z:Z):Prop where
 at_:h z.ad=some (.tup [sv z.arg.kind,z.arg.val])
 ok:Ml br z.ae z.arg
theorem w_.ext{h h':Hp}{br:List Int}{z:Z}(x:w_ h br z)(e:Ext h h'):w_ h' br z:=⟨e.at x.at_,x.ok⟩
structure Di(h:Hp)(br:List Int)(a:Nat)(zs:List Z):Prop where
 l:h a=some (.list (zs.map qf))
 ok:∀z∈zs,w_ h br z
theorem Di.ext{h h':Hp}{br:List Int}{a:Nat}{zs:List Z}(x:Di h br a zs)(e:Ext h h'):Di h' br a zs:=⟨e.at x.l,λz hz=>(x.ok z hz).ext e⟩
structure Line where
 (ta:Nat) (slot num:V) (la:Nat) (zs:List Z)
structure CO where
 (ad:Nat) (bD:String) (slot data:V) (ga da:Nat) (lines:List Line)
noncomputable def kh(P:aJ)(R:List Int)(F:Int->List Int)(l:Line):Prop:=∃(i:Nat) (c:ax),(af P R)[i]?=some c/\l.num= .int i/\l.zs.length=(F c.aa).length
structure zT(P:aJ)(R:List Int)(F:Int->List Int)(br:List Int)(h:Hp)(c:CO):Prop where
 self:h c.ad=some (.inst "COp" [("slot",c.slot),("op",sv c.bD),("data",c.data),("args",.ref c.ga)])
 fix:c.bD="closefix"->c.data= .ref c.da/\h c.da=some (.list (c.lines.map λl=>.ref l.ta))/\∀l∈c.lines,h l.ta=some (.tup [l.slot,l.num,.ref l.la])
 ET:c.bD≠ "closefix"->∃zs,c.lines=[⟨0,c.slot,c.data,c.ga,zs⟩]
 lines:∀l∈c.lines,Di h br l.la l.zs
 made:(c.bD="close"\/c.bD="closefix")->∀l∈c.lines,kh P R F l
theorem zT.ext{F:Int->List Int}{br:List Int}{h h':Hp}{c:CO}(x:zT P R F br h c)(e:Ext h h'):zT P R F br h' c:=
 ⟨e.at x.self,λw=>⟨(x.fix w).1,e.at (x.fix w).2.1,λl hl=>e.at ((x.fix w).2.2 l hl)⟩,x.ET,λl hl=>(x.lines l hl).ext e,x.made⟩
noncomputable def CO.aR(c:CO):List Z:=c.lines.flatMap (·.zs)
structure CL where
 (ad:Nat) (aI:String) (aA bA:Nat) (args:List Z) (head k:Option Z)
noncomputable def tL(z:Option Z):V:=match z with|some z=>qf z|none=>.none
structure JT(br:List Int)(h:Hp)(c:CL):Prop where
 self:h c.ad=some (.inst "CLast" [("sort",sv c.aI),("head",tL c.head),("args",.ref c.aA),("k",tL c.k),("blocks",.ref c.bA)])
 args:Di h br c.aA c.args
 head:∀z,c.head=some z->w_ h br z
 k:∀z,c.k=some z->w_ h br z
theorem JT.ext{br:List Int}{h h':Hp}{c:CL}(x:JT br h c)(e:Ext h h'):JT br h' c:=⟨e.at x.self,x.args.ext e,λz hz=>(x.head z hz).ext e,λz hz=>(x.k z hz).ext e⟩
noncomputable def CL.aR(c:CL):List Z:=c.args++(c.head.toList++c.k.toList)
structure CB where
 (ad:Nat) (num Pl:V) (oA:Nat) (aN:List CO) (ag:CL)
structure EJ(P:aJ)(R:List Int)(F:Int->List Int)(br:List Int)(h:Hp)(b:CB):Prop where
 self:h b.ad=some (.inst "CBlock" [("number",b.num),("params",b.Pl),("ops",.ref b.oA),("last",.ref b.ag.ad)])
 aN:h b.oA=some (.list (b.aN.map λc=>.ref c.ad))
 op:∀c∈b.aN,zT P R F br h c
 ag:JT br h b.ag
 cH:(b.aN.flatMap CO.aR++b.ag.aR).length<=5000
 lines:(b.aN.flatMap (·.lines)).length<=100
theorem EJ.ext{F:Int->List Int}{br:List Int}{h h':Hp}{c:CB}(x:EJ P R F br h c)(e:Ext h h'):EJ P R F br h' c:=
 ⟨e.at x.self,e.at x.aN,λo ho=>(x.op o ho).ext e,x.ag.ext e,x.cH,x.lines⟩
noncomputable def CB.aR(b:CB):List Z:=b.aN.flatMap CO.aR++b.ag.aR
noncomputable abbrev on(b:CB):V:=.ref b.ad
end
section
section
variable {Φ:Calls}{γ:String->Option V}{h:Hp}{Q:V->Hp->Prop}{P:aJ}{R:List Int}
noncomputable def news(h h':Hp):Hp:=λa=>if h a=none then h' a else none
theorem aC{h h':Hp}{a:Nat}{o:O}(n:h a=none)(e:h' a=some o):news h h' a=some o:=(if_pos n).trans e
theorem cV{h h':Hp}{a:Nat}{o:O}(e:news h h' a=some o):h a=none/\h' a=some o:=by
 unfold news at e;split at e
 . exact⟨by assumption,e⟩
 . cases e
theorem Ext.mk{h h':Hp}(x:∀{a o},h a=some o->h' a=some o):Ext h h':=λa n=>by
 cases z:h a with
 |none=>exact absurd z n
 |some o=>exact x z
theorem bR{h h1 h2:Hp}(e:Ext h1 h2):Ext (news h h1) (news h h2):=.mk λz=>oa (cV z) λa1 a2=>aC a1 (e.at a2)
theorem dQ{h h1 h2:Hp}(e:Ext h h1):Ext (news h1 h2) (news h h2):=.mk λz=>oa (cV z) λa1 a2=>aC (e.none a1) a2
structure tt where
 (ad u pA bA sl pl cA sp ex:Nat)
noncomputable def vT(y:Lay)(m:tt)(root:Int):List (String×V):=[("layout",.ref y.ad),("root",.int root),("unit",.ref m.u),("slots",.ref m.sl),("places",.ref m.pl),("captured",.ref m.cA),("spots",.ref m.sp),("extra",.ref m.ex)]
noncomputable def oq(num:Int)(aI:String)(m:tt)(br n:Int):List (String×V):=[("number",.int num),("sort",sv aI),("params",.ref m.pA),("rest",.int (-1)),("takes_any",.bool false),("captured",.int br),("slots",.int n),("blocks",.ref m.bA),("name",sv "")]
noncomputable def zZ(br:List Int):List (Int×V):=br.zipIdx.map λp=>(p.1,.int p.2)
structure yu(h:Hp)(P:aJ)(y:Lay)(R:List Int)(ad:List (Int×V))(ds:List Row)(F:Int->List Int)(m:tt)(rb:ax)(br:List Int):Prop where
 all:gB P h y R ad ds F
 num:h y.nA=some (.dict (nF P R))
 self:h m.ad=some (.inst "UnitMaker" (vT y m rb.aa))
 GT:h m.cA=some (.list (br.map .int))
 sp:h m.sp=some (.dict (zZ br))
 root:rb∈af P R
 Qa:br=bE (F rb.aa)
 cH:∀c∈af P R,(F c.aa).length<64
theorem yu.ext{h':Hp}{y:Lay}{ad:List (Int×V)}{ds:List Row}{F:Int->List Int}{m:tt}{rb:ax}{br:List Int}(x:yu h P y R ad ds F m rb br)(e:Ext h h'):yu h' P y R ad ds F m rb br:=
 ⟨x.all.ext e,e.at x.num,e.at x.self,e.at x.GT,e.at x.sp,x.root,x.Qa,x.cH⟩
noncomputable def dw(h:Hp)(sl:Nat)(ks:List Int):Prop:=∃es,h sl=some (.dict es)/\es.map (·.1)=ks/\∀p∈es,∃n:Int,p.2= .int n
theorem dw.ext{h':Hp}{sl:Nat}{ks:List Int}(x:dw h sl ks)(e:Ext h h'):dw h' sl ks:=oea x λes a b=>⟨es,e.at a,b⟩
theorem eL{v:Int}{es:List (Int×V)}(m:v∈es.map (·.1)):∃u,es.lookup v=some u/\(v,u)∈es:=by
 induction es with
 |nil=>cases m
 |cons x es ih=>
  rw[ZS]
  by_cases e:v=x.1
  . subst e;exact⟨_,by rw[beq_self_eq_true],Ze⟩
  . rw[beq_false_of_ne e];refine oea (ih ((Zp.mp m).resolve_left e)) λu h1 h2=>?_;exact⟨u,h1,Zh _ h2⟩
variable {y:Lay}{ad:List (Int×V)}{ds:List Row}{F:Int->List Int}{m:tt}{rb:ax}{br ks:List Int}
theorem HI(W:Wd Φ γ){num c n:Int}{aI:String}(self:h m.ad=some (.inst "UnitMaker" (vT y m rb.aa)))(hu:h m.u=some (.inst "CUnit" (oq num aI m c n)))(hs:dw h m.sl ks)(hk:ks.length<big)(ne:m.u≠m.sl)(n1:m.ad≠m.u)(n2:m.ad≠m.sl){v:Int}
 (q:∀h' k,(∀x,x≠m.u->x≠m.sl->h' x=h x)->h' m.u=some (.inst "CUnit" (oq num aI m c (n+1)))->dw h' m.sl (ins ks v)->Q (.int k) h'):Φ "UnitMaker.slot" [.ref m.ad,.int v] h Q:=by
 refine W.cl rfl rfl ?_;refine oeaa hs λes h1 h2 h3=>?_;try clear hs
 have hl:es.length<big:=by rwa [<-h2,Za] at hk
 nofun;intro h4 p4;have KZ:=p4.to n2 self;have u4:=p4.to ne hu;nofun;intro h5 p5;have SB:=p5.to n1 KZ;have s5:=p5.to (Yo ne) p4.at;have lk:(putD es v (.int n)).lookup v=some (.int n):=by rw[eX,if_pos rfl]
 nofun;refine q _ _ (λx a b=>(p5.ne a).trans (p4.ne b)) p5.at ⟨_,s5,by rw[dR,h2],λp hp=>?_⟩;rcases mem_putD hp with rfl|hp
 . exact⟨n,rfl⟩
 . exact h3 p hp
theorem oM:(zZ br).map (·.1)=br:=by rw[zZ,Zt];exact WH _ _
structure Named(ad:List (Int×V))(ks br:List Int)(v:Int):Prop where
 some:v∈ad.map (·.1)\/v∈ks\/v∈br
 apart:v∈br->v∉ad.map (·.1)/\v∉ks
theorem oj(W:Wd Φ γ)(M:yu h P y R ad ds F m rb br)(hs:dw h m.sl ks){v:Int}(nm:Named ad ks br v)
 (q:∀h' z,Ext h h'->h z.ad=none->z.ae=v->w_ (news h h') br z->Q (qf z) h'):Φ "UnitMaker.arg" [.ref m.ad,.int v] h Q:=by
 refine W.cl rfl rfl ?_;refine oeaa hs λes h1 bV h3=>?_;try clear hs;subst bV
 have self:=M.self;have ys:=M.all.lay.self;have ya:=M.all.aD;have sp:=M.sp;have g1:=W.wJ;have g2:=W.HT;have g3:=W.HV;nofun;refine r_ite (λc1=>?_) λc1=>?_
 . refine oea (eL (ik c1)) λu lk _=>?_;nofun;intro a h4 A4;nofun;exact q h4 ⟨v,a,"const",u⟩ A4.ext A4.new rfl ⟨aC A4.new A4.at,.inr ⟨λz=>(nm.apart z).1 (ik c1),.inl rfl⟩⟩
 . have c1:=j_ c1;nofun;refine r_ite (λc2=>?_) λc2=>?_
   . refine oea (eL (ik c2)) λu lk _=>?_;nofun;intro a h4 A4;nofun;exact q h4 ⟨v,a,"slot",u⟩ A4.ext A4.new rfl ⟨aC A4.new A4.at,.inr ⟨λz=>(nm.apart z).2 (ik c2),.inr rfl⟩⟩
   . have c2:=j_ c2;have c3:v∈br:=(nm.some.resolve_left c1).resolve_left c2;refine oea (eL (es:=zZ br) (by rw[oM];exact c3)) λu lk hm=>?_;nofun;refine r_no (by rw[oM,ZZ.mpr c3];rfl) ?_;nofun;intro a h4 A4;nofun;refine oea (Zn.mp hm) λcw hw e=>?_;obtain ⟨w,i⟩:=cw;refine oa (Xl e) λc8 dW=>?_;subst c8;subst dW;exact q h4 ⟨w,a,"free",.int i⟩ A4.ext A4.new rfl ⟨aC A4.new A4.at,.inl ⟨c3,rfl,i,WC.mp hw,rfl⟩⟩
theorem gR{α β:Type}{k e:C}{ρ:Lo}{st:List V}{Q:Po}{t:String}{a:Nat}(W:Wd Φ γ)(f:α->V)(g:β->V)(Ok:Hp->α->β->Prop)(aW:∀{h1 h2 x z},Ext h h1->Ext h1 h2->Ok h1 x z->Ok h2 x z)(xs:List α)(ha:h a=some (.list (xs.map f)))
 (elt:∀x h1,x∈xs->Ext h h1->∀K:V->Hp->Prop,(∀h2 z,Ext h1 h2->Ok h2 x z->K (g z) h2)->wp Φ γ e (bf ρ t (f x)) [] h1 (gH K))
 (fin:∀b h' (zs:List β),Ext h h'->h b=none->h' b=some (.list (zs.map g))->zs.length=xs.length->(∀(i:Nat) (x:α) (z:β),xs[i]?=some x->zs[i]?=some z->Ok h' x z)->wp Φ γ k ρ (.ref b::st) h' Q):wp Φ γ (.comp [t] .seq (.az (.bool true) .done) e k) ρ (.ref a::st) h Q:=by
 refine fF W.aW (aK:=.list a (xs.map f)) ⟨a,rfl,.inl ⟨_,ha,rfl⟩⟩ rfl xs (λx=>[f x]) (Zt ..) (λd vs h'=>Ext h h'/\∃zs:List β,vs=zs.map g/\zs.length=d.length/\∀(i:Nat) (x:α) (z:β),d[i]?=some x->zs[i]?=some z->Ok h' x z) ⟨.refl,[],rfl,rfl,λi x z e=>by cases e⟩ (λd vs h' I=>I.1.at ha) (λd x r vs h' eq m xY=>oaeaa xY λE zs k1 k2 k3=>⟨_,rL,true,rfl,_,rfl,rfl,?_⟩) λvs h' b cT xX A=>oaeaa xX λE zs k1 k2 k3=>fin b cT zs (A.im E) (E.none A.new) (k1▸A.at) k2 λi x z h1 h2=>aW E A.ext (k3 i x z h1 h2);refine elt x h' m E _ λh2 z E2 ok=>⟨E.trans E2,zs++[z],by rw[k1,Zq];rfl,by rw[Zb,Zb,k2];rfl,λi x' z' h1 h2=>?_⟩;rcases V6 i d.length with l|l
 . rw[Yt l] at h1;rw[Yt (k2▸l)] at h2;exact aW E E2 (k3 i x' z' h1 h2)
 . rw[Yz l] at h1;rw[Yz (k2▸l),k2] at h2
   cases n:i - d.length with
   |zero=>rw[n] at h1 h2;cases h1;cases h2;exact ok
   |succ n=>rw[n] at h1;cases h1
theorem lP(W:Wd Φ γ)(M:yu h P y R ad ds F m rb br)(hs:dw h m.sl ks){xs:List Int}{a:Nat}(ha:h a=some (.list (xs.map .int)))(nm:∀v∈xs,Named ad ks br v)
 (q:∀h' b zs,Ext h h'->h b=none->zs.map Z.ae=xs->Di (news h h') br b zs->Q (.ref b) h'):Φ "UnitMaker.args" [.ref m.ad,.ref a] h Q:=by
 refine W.cl rfl rfl ?_;nofun;refine gR W V.int qf (λh' v z=>z.ae=v/\w_ (news h h') br z) (λ_ e x=>⟨x.1,x.2.ext (bR e)⟩) xs ha (λx h1 hx e1 K hK=>?_) λb h' zs e n f l ok=>?_
 . have self:=e1.at M.self;nofun;refine oj W (M.ext e1) (hs.ext e1) (nm x hx) λh2 z e2 n2 zv zo=>?_;nofun;exact hK h2 z e2 ⟨zv,zo.ext (dQ e1)⟩
 . nofun;refine q h' b zs e n (XZ λi=>?_) ⟨aC n f,λz hz=>?_⟩
   . rw[ZP];rcases V6 i xs.length with l1|l1
     . rw[Zv l1,Zv (l▸l1)];exact congrArg some (ok i _ _ (Zv l1) (Zv (l▸l1))).1
     . rw[Yw l1,Yw (l▸l1)];rfl
   . obtain ⟨i,hi,e⟩:=YK.mp hz;exact e▸(ok i _ _ (Zv (l▸hi)) (Zv hi)).2
theorem jv{l:List Int}:(cz l).map (·.1)=l:=by rw[cz,Zt];exact Vq l
theorem fc(W:Wd Φ γ)(N:aM P)(M:yu h P y R ad ds F m rb br)(hs:dw h m.sl ks){c:ax}(hc:c∈af P R)(nm:∀v∈F c.aa,Named ad ks br v)
 (q:∀h' b zs,Ext h h'->h b=none->zs.map Z.ae=bE (F c.aa)->Di (news h h') br b zs->Q (.ref b) h'):Φ "UnitMaker.captured_args" [.ref m.ad,.int c.aa] h Q:=by
 refine W.cl rfl rfl ?_;have self:=M.self;have ys:=M.all.lay.self;have yf:=M.all.fD;refine oea (oy M.all.eq hc) λw hw gW=>?_;subst gW;have lk:=d6 (f:=(·.f)) N M.all.eq hw;have fw:=M.all.at_ w hw;have cH:(cz (F w.aT.aa)).length<64:=by rw[c_];exact M.cH _ hc
 nofun;intro a h1 A;rw[jv] at A;nofun;refine lP W (M.ext A.ext) (hs.ext A.ext) A.at (λv hv=>nm v (cW.mp hv)) λh2 b zs e2 n2 k1 k2=>?_;nofun;exact q h2 b zs (A.ext.trans e2) (A.ext.none n2) k1 (k2.ext (dQ A.ext))
end
end
section
section
variable {Φ:Calls}{γ:String->Option V}{h:Hp}{Q:V->Hp->Prop}{P:aJ}{R:List Int}
variable {y:Lay}{ad:List (Int×V)}{ds:List Row}{F:Int->List Int}{m:tt}{rb:ax}{br ks:List Int}
theorem y7:(nF P R).map (·.1)=(af P R).map (·.aa):=by
 rw[nF,Zt,show ((λp:Int×V=>p.1)∘λp:ax×Nat=>(p.1.aa,V.int p.2))=(λb:ax=>b.aa)∘Prod.fst from rfl,<-Zt,WH]
theorem kW(N:aM P){c:ax}(hc:c∈af P R):∃i:Nat,(af P R)[i]?=some c/\(nF P R).lookup c.aa=some (.int i):=by
 obtain ⟨i,hi,e⟩:=YK.mp hc;have e:(af P R)[i]?=some c:=by rw[Zv hi,e]
 exact⟨i,e,cY (by rw[y7];exact gK N) (p:=(c.aa,.int i)) (Zn.mpr ⟨(c,i),WC.mpr e,rfl⟩)⟩
theorem r_newCOp{k:C}{ρ:Lo}{st:List V}{Q:Po}(W:Wd Φ γ){s o d g:V}(ns:cI s=false)(no:cI o=false)(nd:cI d=false)(ng:cI g=false)
 (q:∀a h',Ext h h'->h a=none->h' a=some (.inst "COp" [("slot",s),("op",o),("data",d),("args",g)])->wp Φ γ k ρ (.ref a::st) h' Q):wp Φ γ (.new "COp" "COp.__init__" 4 k) ρ (g::d::o::s::st) h Q:=by
 refine r_new rfl λa h0 A=>W.cl rfl rfl ?_;have n:=A.new;nofun;intro h1 p1;nofun;intro h2 p2;nofun;intro h3 p3;nofun;intro h4 p4;exact r_done ⟨rfl,q a h4 (p4.im (p3.im (p2.im (p1.im A.ext n) n) n) n) n p4.at⟩
theorem y8{b:Nat}{h2 h3 h4:Hp}(l:h2 b≠none)(e:Ext h h2)(e':Ext h3 h4):Ext (news h2 h3) (news h (aH b h4)):=
 .mk λz=>oa (cV z) λa1 a2=>aC (e.none a1) (aF (λk=>l (k▸a1)) (e'.at a2))
structure qK(P:aJ)(R:List Int)(F:Int->List Int)(br:List Int)(h:Hp)(l:Line):Prop where
 ta:h l.ta=some (.tup [l.slot,l.num,.ref l.la])
 zs:Di h br l.la l.zs
 made:kh P R F l
 cH:l.zs.length<=63
theorem qK.ext{h':Hp}{l:Line}(x:qK P R F br h l)(e:Ext h h'):qK P R F br h' l:=⟨e.at x.ta,x.zs.ext e,x.made,x.cH⟩
theorem rW{zs:List Z}{l:List Int}(e:zs.map Z.ae=bE l):zs.length=l.length:=by
 have:=congrArg List.length e
 rwa [Za,jF] at this
theorem pf(W:Wd Φ γ)(N:aM P)(M:yu h P y R ad ds F m rb br)(hs:dw h m.sl ks){rows:List (Int×ax)}{va la:Nat}(hv:h va=some (.list (rows.map λp=>.int p.1)))(hl:h la=some (.list (rows.map λp=>cj p.2)))
 (cH:rows.length<=64) (k:∀p∈rows,p.1∈ks/\p.2∈af P R/\∀v∈F p.2.aa,Named ad ks br v)
 (q:∀h' b (ls:List Line),Ext h h'->h b=none->news h h' b=some (.list (ls.map λl=>.ref l.ta))->(∀l∈ls,qK P R F br (news h h') l)->ls.length=rows.length->
  (∀p∈rows,∃l∈ls,l.zs.map Z.ae=bE (F p.2.aa))->Q (.ref b) h'):Φ "fix_rows" [.ref m.ad,.ref va,.ref la] h Q:=by
 refine W.cl rfl rfl ?_;nofun;intro b h1 A1;have e1:=A1.ext;have n1:=A1.new;nofun;refine DY W.aW (λp:Int×ax=>V.int p.1) (λp=>cj p.2) rows (λd ρ h'=>Ext h h'/\∃ls:List Line,h' b=some (.list (ls.map λl=>.ref l.ta))/\(∀l∈ls,qK P R F br (news h (aH b h')) l)/\ls.length=d.length/\∀p∈d,∃l∈ls,l.zs.map Z.ae=bE (F p.2.aa))
  (e1.at hv) (e1.at hl) ⟨e1,[],A1.at,λ_ z=>(nomatch z),rfl,λ_ z=>nomatch z⟩ (λd ρ h' I=>⟨I.1.at hv,I.1.at hl⟩) ?_ ?_
 . intro d p rr σ h2 hd hp z_ K hK;refine oaeaaa z_ λe2 ls g2 k1 k2 k3=>?_;refine oaa (k p hp) λx1 x2 x3=>?_;have self:=e2.at M.self;have ys:=e2.at M.all.lay.self;have yn:=e2.at M.num;refine oeaa (hs.ext e2) λes s1 s2 s3=>?_;refine oea (eL (es:=es) (by rw[s2];exact x1)) λu lk hm=>?_;refine oea (kW (R:=R) N x2) λi hi ln=>?_;nofun;refine fc W N (M.ext e2) (hs.ext e2) x2 x3 λh3 c zs e3 n3 z1 z2=>?_;nofun;intro t h4 A4;have FY:=e3.trans A4.ext;have g4:=FY.at g2;have b2:=aG g2;refine r_app g4 ?_ λh5 p5=>?_
   . rw[Za,k2];have:=congrArg List.length hd;rw[Zb] at this;exact Zk (Zf (this▸ZD _ _) cH) (by decide)
   have tb:t≠b:=λz=>b2 (e3.none (z▸A4.new));have NT:=iQ p5;have up:Ext (news h (aH b h2)) (news h (aH b h5)):=NT▸bR (fC FY);have zl:=rW z1;refine r_done (hK _ _ ⟨p5.im (e2.trans FY) n1,ls++[(⟨t,u,.int i,c,zs⟩:Line)],by rw[p5.at,Zq];rfl,λl hl=>?_,by rw[Zb,Zb,k2];rfl,λp' kF=>?_⟩)
   . rcases Zg.mp hl with hl|hl
     . exact(k1 l hl).ext up
     . rw[Zc.mp hl];exact⟨NT▸aC ((e2.trans e3).none A4.new) (aF tb A4.at),(z2.ext (y8 b2 e2 A4.ext)).ext (NT▸.refl),⟨i,p.2,hi,rfl,zl⟩,by rw[zl];exact XY (M.cH _ x2)⟩
   . rcases Zg.mp kF with kF|kF
     . refine oea (k3 p' kF) λl h1 h2=>?_;exact⟨l,Zd _ h1,h2⟩
     . rw[Zc.mp kF];exact⟨(⟨t,u,.int i,c,zs⟩:Line),Zi _ Ze,z1⟩
 . intro σ h2 z_;refine oaeaaa z_ λe2 ls g2 k1 k2 k3=>?_;nofun;exact q _ _ ls e2 n1 (aC n1 g2) (λl hl=>(k1 l hl).ext (bR aV)) k2 k3
noncomputable def EI(F:Int->List Int)(o:Op)(zs:List Z):Prop:=(∀v∈o.args,∃z∈zs,z.ae=v)/\∀l∈o.aU,∀v∈F l,∃z∈zs,z.ae=v
theorem dZ{zs:List Z}{l:List Int}(e:zs.map Z.ae=l){v:Int}(h:v∈l):∃z∈zs,z.ae=v:=Zn.mp (e▸h)
theorem gN{α β:Type}{f:α->List β}{k n:Nat}{l:List α}(h:∀x∈l,(f x).length<=k)(hl:l.length<=n):(l.flatMap f).length<=n*k:=
 Zf (bw h) (ZY k hl)
theorem zT.one{h:Hp}{a g:Nat}{w:String}{s d:V}{zs:List Z}(f:h a=some (.inst "COp" [("slot",s),("op",sv w),("data",d),("args",.ref g)]))(nf:w≠ "closefix")(z:Di h br g zs)(mk:w="close"->kh P R F ⟨0,s,d,g,zs⟩):zT P R F br h ⟨a,w,s,d,g,0,[⟨0,s,d,g,zs⟩]⟩:=
 ⟨f,λe=>absurd e nf,λ_=>⟨zs,rfl⟩,λl hl=>Zc.mp hl▸z,λe l hl=>Zc.mp hl▸mk (e.resolve_right nf)⟩
theorem zT.many{h:Hp}{a g d:Nat}{s:V}{ls:List Line}(f:h a=some (.inst "COp" [("slot",s),("op",sv "closefix"),("data",.ref d),("args",.ref g)]))(fd:h d=some (.list (ls.map λl=>.ref l.ta)))(z:∀l∈ls,qK P R F br h l):zT P R F br h ⟨a,"closefix",s,.ref d,g,d,ls⟩:=
 ⟨f,λ_=>⟨rfl,fd,λl hl=>(z l hl).ta⟩,λe=>absurd rfl e,λl hl=>(z l hl).zs,λ_ l hl=>(z l hl).made⟩
theorem fB{a g:Nat}{w:String}{s d:V}{zs:List Z}:CO.aR ⟨a,w,s,d,g,0,[⟨0,s,d,g,zs⟩]⟩=zs:=Zu _
theorem xB:∀{rs ls:List Int},rs.length=ls.length->(∀l∈ls,∃c∈af P R,c.aa=l)->∃rows:List (Int×ax),rows.map (·.1)=rs/\rows.map (λp=>p.2.aa)=ls/\∀p∈rows,p.2∈af P R
 |[],[],_,_=>⟨[],rfl,rfl,λ_ z=>nomatch z⟩
 |r::rs,l::ls,hl,hc=>by
  refine oeaa (xB (XC hl) λl hl=>hc l (Zh _ hl)) λrows h1 h2 h3=>?_;refine oea (hc l Ze) λc hc e=>?_;exact⟨(r,c)::rows,by rw[Zw,h1],by rw[Zw,h2,e],λp hp=>(Zp.mp hp).elim (λz=>z▸hc) (h3 p)⟩
theorem yY(W:Wd Φ γ)(N:aM P)(M:yu h P y R ad ds F m rb br)(hs:dw h m.sl ks){b:ax}(hb:b∈P.ap){o:Op}(ho:o∈b.aN)(na:∀v∈o.args,Named ad ks br v)(nl:∀l∈o.aU,∃c∈af P R,c.aa=l/\∀v∈F l,Named ad ks br v)(nr:o.bD="fix"->∀v∈o.bP,v∈ks)
 (q0:∀h',Ext h h'->EI F o []->Q .none h') (q1:∀h' c,Ext h h'->zT P R F br (news h h') c->EI F o c.aR->c.aR.length<=126->c.lines.length<=2->Q (.ref c.ad) h'):Φ "made_op" [.ref m.ad,.ref o.ad] h Q:=by
 refine W.cl rfl rfl ?_;have self:=M.self;have ys:=M.all.lay.self;have ya:=M.all.aD;have yn:=M.num;have O:=(M.all.lay.prog.aT b hb).op o ho;have os:=O.self;refine oeaa (id hs) λes s1 s2 s3=>?_;obtain ⟨n0,Jx⟩:∃n:Int,(es.lookup o.result).getD (.int (-1))= .int n:=by
  cases z:es.lookup o.result with
  |none=>exact⟨-1,rfl⟩
  |some u=>exact s3 _ (pP z)
 nofun;refine r_get s1 ?_;rw[Jx];unfold J8 at os;rcases N.QG b hb o ho with ⟨w,a1,a2⟩|⟨w,a1,l,a2⟩|⟨w,a1,a2⟩|⟨w,a1⟩
 . -- const
   rw[w] at os;have vL:EI F o []:=⟨by rw[a1];exact λ_ z=>(nomatch z),by rw[a2];exact λ_ z=>nomatch z⟩;nofun;refine r_ite (λc1=>?_) λc1=>?_
   . nofun;exact q0 h .refl vL
   . have dat:cI o.tY=false:=by
      have:=O.dat w
      cases hp:o.tI with
      |true=>rw[hp] at this;refine oeea this λa fs e _=>?_;try clear this;rw[e];rfl
      |false=>rw[hp] at this;rcases this with e|e|⟨a,e,_⟩<;>rw[e]<;>rfl
     nofun;intro g h1 A1;have os:=A1.ext.at os;nofun;refine r_newCOp W rfl rfl dat rfl λa h2 e2 n2 f2=>?_;nofun;exact q1 h2 ⟨a,"const",.int n0,o.tY,g,0,[⟨0,.int n0,o.tY,g,[]⟩]⟩ (A1.ext.trans e2) (.one (aC (A1.ext.none n2) f2) (by decide) ⟨aC A1.new (e2.at A1.at),λ_ z=>nomatch z⟩ λe=>absurd e (by decide)) vL (ZR _) (ZB rfl)
 . -- fun
   rw[w] at os;refine oeaa (nl l (by rw[a2];exact Ze)) λc hc e nm=>?_;subst e;refine oea (kW (R:=R) N hc) λi hi ln=>?_;have ol:=O.aU;rw[a2] at ol;have sq:du (List.map V.int [c.aa]) 0=some (.int c.aa):=rfl;nofun;refine fc W N M hs hc nm λh1 g zs e1 n1 z1 z2=>?_;nofun;refine r_newCOp W rfl rfl rfl rfl λa h2 e2 n2 f2=>?_;nofun;have zl:=rW z1;refine q1 h2 ⟨a,"close",.int n0,.int i,g,0,[⟨0,.int n0,.int i,g,zs⟩]⟩ (e1.trans e2) (.one (aC (e1.none n2) f2) (by decide) (z2.ext (bR e2)) λ_=>⟨i,c,hi,rfl,zl⟩) ?_ (by rw[fB,zl];exact Zf (ZH (M.cH _ hc)) (by decide)) (ZB rfl);rw[fB];refine⟨by rw[a1];exact λ_ z=>(nomatch z),λl hl v hv=>?_⟩;rw[a2] at hl;rw[Zc.mp hl] at hv;exact dZ z1 (cW.mpr hv)
 . -- fix
   rw[w] at os;have oa:=O.bP;have ol:=O.aU;refine oeaa (xB a2 λl hl=>oeaa (nl l hl) λc hc e _=>⟨c,hc,e⟩) λrows k1 k2 k3=>?_;have rl:rows.length<=2:=by have:=congrArg List.length k1;rw[Za] at this;exact this▸(N.C8 b hb o ho).2.1
   have TC:h o.rA=some (.list (rows.map λp=>.int p.1)):=by rw[oa,<-k1,Zt];rfl
   have Tp:h o.lA=some (.list (rows.map λp=>cj p.2)):=by rw[ol,<-k2,Zt];rfl
   nofun;refine pf W N M hs TC Tp (Zf rl (by decide)) (λp hp=>⟨nr w _ (by rw[<-k1];exact ZF hp),k3 p hp,?_⟩) λh1 d ls e1 n1 z1 z2 z3 z4=>?_
   . refine oeaa (nl p.2.aa (by rw[<-k2];exact Zn.mpr ⟨p,hp,rfl⟩)) λc hc e nm=>?_;exact nm
   nofun;intro g h2 A2;refine r_newCOp W rfl rfl rfl rfl λa h3 e3 n3 f3=>?_;nofun;have lJ:=A2.ext.trans e3;refine q1 h3 ⟨a,"closefix",.int (-1),.ref d,g,d,ls⟩ (e1.trans lJ) (.many (aC (e1.none (A2.ext.none n3)) f3) ((bR lJ).at z1) λl hl=>(z2 l hl).ext (bR lJ)) ⟨by rw[a1];exact λ_ z=>(nomatch z),λl hl v hv=>?_⟩ (gN (n:=2) (λl hl=>(z2 l hl).cH) (z3▸rl)) (z3▸rl);rw[<-k2] at hl;refine oea (Zn.mp hl) λp hp bV=>?_;subst bV;refine oea (z4 p hp) λl hl zv=>?_;refine oea (dZ zv (cW.mpr hv)) λz hz e=>?_;exact⟨z,Zm.mpr ⟨l,hl,hz⟩,e⟩
 . -- the rest
   have wn:∀s,s≠ "prim"->s≠ "setglobal"->o.bD≠s:=λs h1 h2 e=>w.elim (λz=>h1 (e.symm.trans z)) λz=>h2 (e.symm.trans z);have w1:=beq_eq_false_iff_ne.mpr (wn "const" (by decide) (by decide));have w2:=beq_eq_false_iff_ne.mpr (wn "fun" (by decide) (by decide));have w3:=beq_eq_false_iff_ne.mpr (wn "fix" (by decide) (by decide));have oa:=O.args;nofun;refine lP W M hs oa na λh1 g zs e1 n1 z1 z2=>?_;nofun;refine r_newCOp W rfl rfl rfl rfl λa h2 e2 n2 f2=>?_;nofun;have zl:zs.length=o.args.length:=by rw[<-z1,Za]
   refine q1 h2 ⟨a,o.bD,.int n0,.int o.number,g,0,[⟨0,.int n0,.int o.number,g,zs⟩]⟩ (e1.trans e2) (.one (aC (e1.none n2) f2) (wn _ (by decide) (by decide)) (z2.ext (bR e2)) λe=>absurd e (wn _ (by decide) (by decide))) ?_ (by rw[fB,zl];exact Zf (N.C8 b hb o ho).1 (by decide)) (ZB rfl);rw[fB];exact⟨λv hv=>dZ z1 hv,by rw[a1];exact λ_ z=>nomatch z⟩
theorem u8{l:Int}{c:ax}(hc:c∈bq P R l):c∈af P R:=
 oa (ZG.mp hc) λh1 h2=>ay.mpr ⟨h1,ik (Zj.mp h2).1⟩
theorem sg(W:Wd Φ γ)(N:aM P)(M:yu h P y R ad ds F m rb br)(hs:dw h m.sl ks){l:Int}(k:∀c∈bq P R l,cv c.aa∈ks/\∀v∈F c.aa,Named ad ks br v)
 (q:∀h' a (cs:List CO),Ext h h'->h a=none->h' a=some (.list (cs.map λc=>.ref c.ad))->(∀c∈cs,zT P R F br (news h h') c)->(∀c∈bq P R l,∀v∈F c.aa,∃z∈cs.flatMap CO.aR,z.ae=v)->(cs.flatMap CO.aR).length<=64*63->(cs.flatMap (·.lines)).length<=64->cs.length<=1->Q (.ref a) h'):
 Φ "made_conts" [.ref m.ad,.int l] h Q:=by
 refine W.cl rfl rfl ?_;have self:=M.self;have ys:=M.all.lay.self;have ml:=eJ (R:=R) (l:=l) N;nofun;refine jD W N M.all.lay λal h1 e1 n1 f1=>?_;nofun;refine comp_map W.aW cj (λc=>V.int (cv c.aa)) (bq P R l) f1 (λc h2 hc e2 K hK=>?_) λav h2 e2 n2 f2=>?_
 . nofun;exact hK h2 e2
 have yo:=e2.at f1;have kG:=e1.trans e2;have M2:=M.ext kG;have Jp:=hs.ext kG;have K5:=M2.self;have ys2:=M2.all.lay.self;have yf2:=M2.all.fD;have yn2:=M2.num;have EP:∀c∈bq P R l,c∈af P R:=λc=>u8
 cases z:bq P R l with
 |nil=>
  rw[z] at yo;nofun;intro a3 h3 A3;nofun;refine q h3 a3 [] (kG.trans A3.ext) (kG.none A3.new) A3.at (λ_ z=>nomatch z) (by rw[z];exact λ_ z=>nomatch z) (ZR _) (ZR _) (ZR _)
 |cons c r=>
  have hc:c∈bq P R l:=by rw[z];exact Ze
  have IW:=EP c hc;refine oea (oy M.all.eq IW) λw hw ew=>?_;have lk:=d6 (f:=(·.f)) N M.all.eq hw;have fw:=M2.all.at_ w hw;rw[ew] at lk fw;refine oea (kW (R:=R) N IW) λi hi ln=>?_;refine oeaa (id Jp) λes s1 s2 s3=>?_;refine oea (eL (es:=es) (by rw[s2];exact(k c hc).1)) λu lu hm=>?_;refine oe (s3 _ hm) λn0 Jx=>?_;have Jx:u= .int n0:=Jx;subst Jx;have Jg:du (List.map (λc:ax=>V.int (cv c.aa)) (c::r)) 0=some (.int (cv c.aa)):=rfl;have Tb:du (List.map cj (c::r)) 0=some (.int c.aa):=rfl;rw[z] at f2 yo;have fixed:wp Φ γ (.az (.int (-1))<|.az (sv "closefix")<|.ae "maker"<|.ae "variables"<|.ae "labels"<|.call "fix_rows" 3<|.mk .list 0<|.new "COp" "COp.__init__" 4<|.mk .list 1<|.ret) (bf (bf (iI ["maker","label"] [V.ref m.ad,V.int l]) "labels" (.ref al)) "variables" (.ref av)) [] h2 (ty Q):=by
   nofun;refine pf W N M2 Jp (rows:=(c::r).map λc=>(cv c.aa,c)) (by rw[f2,Zt];rfl) (by rw[yo,Zt];rfl) (by rw[<-z,Za];exact ml) (λp hp=>?_) λh4 d ls e4 n4 z1 z2 z3 z4=>?_
   . rw[<-z] at hp;refine oea (Zn.mp hp) λc hc cw=>?_;subst cw;exact⟨(k c hc).1,EP c hc,(k c hc).2⟩
   nofun;intro g h5 A5;refine r_newCOp W rfl rfl rfl rfl λa h6 e6 n6 f6=>?_;nofun;intro a7 h7 A7;nofun;have EE:=A5.ext.trans (e6.trans A7.ext);rw[<-z] at z3 z4;rw[Za] at z3;have e':Ext (news h2 h4) (news h h7):=(dQ kG).trans (bR EE);refine q h7 a7 [⟨a,"closefix",.int (-1),.ref d,g,d,ls⟩] (kG.trans (e4.trans EE)) (kG.none (e4.none (A5.ext.none (e6.none A7.new)))) A7.at (λc hc=>?_) (λc hc v hv=>?_) ?_ (by rw[ZE];exact z3▸ml) (Zs _)
   . rw[Zc.mp hc];exact .many (aC (kG.none (e4.none (A5.ext.none n6))) (A7.ext.at f6)) (e'.at z1) λl hl=>(z2 l hl).ext e'
   . refine oea (z4 (cv c.aa,c) (Zn.mpr ⟨c,hc,rfl⟩)) λl hl zv=>?_;refine oea (dZ zv (cW.mpr hv)) λz hz e=>?_;rw[ZE];exact⟨z,Zm.mpr ⟨l,hl,hz⟩,e⟩
   . rw[ZE];exact gN (λl hl=>(z2 l hl).cH) (z3▸ml)
  nofun;refine r_and (!(F c.aa).contains (cv c.aa)) (λ_ K hK=>?_) ?_
  . nofun;exact hK
  refine r_ite (λR8=>?_) λR8=>?_
  . have c1:=beq_iff_eq.mp (Zj.mp R8).1;rw[Za] at c1;have hr:r=[]:=by
     cases r with
     |nil=>rfl
     |cons _ _=>simp only[Ym] at c1;exact False.elim ((aj 0x1b101010012252110) _ c1)
    subst hr;nofun;refine fc W N M2 Jp IW (k c hc).2 λh3 g zs e3 n3 z1 z2=>?_;nofun;refine r_newCOp W rfl rfl rfl rfl λa h5 e5 n5 f5=>?_;nofun;intro a6 h6 A6;nofun;have zl:=rW z1;refine q h6 a6 [⟨a,"close",.int n0,.int i,g,0,[⟨0,.int n0,.int i,g,zs⟩]⟩] (kG.trans (e3.trans (e5.trans A6.ext))) (kG.none (e3.none (e5.none A6.new))) A6.at (λc' ir=>?_) (λc' ir v hv=>?_) (by rw[ZE,fB,zl];exact Zf (ZH (M.cH _ IW)) (by decide)) (ZB rfl) (Zs _)
    . rw[Zc.mp ir];exact .one (aC (kG.none (e3.none n5)) (A6.ext.at f5)) (by decide) (z2.ext ((dQ kG).trans (bR (e5.trans A6.ext)))) λ_=>⟨i,c,hi,rfl,zl⟩
    . rw[z] at ir;rw[Zc.mp ir] at hv;rw[ZE,fB];exact dZ z1 (cW.mpr hv)
  . exact r_done_sq fixed
end
end
section
section
variable {Φ:Calls}{γ:String->Option V}{im h:Hp}{Q:V->Hp->Prop}{P:aJ}{R:List Int}
variable {y:Lay}{ad:List (Int×V)}{ds:List Row}{F:Int->List Int}{m:tt}{rb:ax}{br ks:List Int}{av:List Nat}
theorem r_newCL{k':C}{ρ:Lo}{st:List V}{Q:Po}(W:Wd Φ γ){s hd g k b:V}(n1:cI s=false)(n2:cI hd=false)(n3:cI g=false)(n4:cI k=false)(n5:cI b=false)
 (q:∀a h',Ext h h'->h a=none->h' a=some (.inst "CLast" [("sort",s),("head",hd),("args",g),("k",k),("blocks",b)])->wp Φ γ k' ρ (.ref a::st) h' Q):wp Φ γ (.new "CLast" "CLast.__init__" 5 k') ρ (b::k::g::hd::s::st) h Q:=by
 refine r_new rfl λa h0 A=>W.cl rfl rfl ?_;have n:=A.new;nofun;intro h1 p1;nofun;intro h2 p2;nofun;intro h3 p3;nofun;intro h4 p4;nofun;intro h5 p5;exact r_done ⟨rfl,q a h5 (p5.im (p4.im (p3.im (p2.im (p1.im A.ext n) n) n) n) n) n p5.at⟩
theorem r_newCB{k':C}{ρ:Lo}{st:List V}{Q:Po}(W:Wd Φ γ){s g:V}(n1:cI s=false)(n2:cI g=false)
 (q:∀a h' o,Ext h h'->h a=none->h o=none->o≠a->h' a=some (.inst "CBlock" [("number",s),("params",g),("ops",.ref o),("last",.none)])->h' o=some (.list [])->wp Φ γ k' ρ (.ref a::st) h' Q):wp Φ γ (.new "CBlock" "CBlock.__init__" 2 k') ρ (g::s::st) h Q:=by
 refine r_new rfl λa h0 A=>W.cl rfl rfl ?_;have n:=A.new;nofun;intro h1 p1;nofun;intro h2 p2;have e2:=p2.im (p1.im A.ext n) n;nofun;intro o h3 A3;have oa:o≠a:=(A3.ne p2.at).symm;have f3:=A3.ext.at p2.at;nofun;intro h4 p4;nofun;intro h5 p5;exact r_done ⟨rfl,q a h5 o (p5.im (p4.im (A3.im e2) n) n) n (e2.none A3.new) oa p5.at (p5.to oa (p4.to oa A3.at))⟩
theorem hM{a:Nat}{h1 h2:Hp}(e:Ext (aH a h) h1)(e':Ext (aH a h1) h2):Ext (aH a h) h2:=(bj e ao).trans e'
theorem hE{a:Nat}{h':Hp}(e:Ext h h'):Ext (aH a h) h':=aV.trans e
theorem oO{a:Nat}{o:O}{h':Hp}(p:Put h a o h'):Ext (aH a h) h':=p.im aV ao
structure iu(P:aJ)(R:List Int)(F:Int->List Int)(br:List Int)(im:Hp)(ex:Nat)(av:List Nat)(h:Hp)(xs:List CB):Prop where
 ext:Ext im (aZ (ex::av) h)
 live:jN (ex::av) h
 at_:h ex=some (.list (xs.map on))
 ok:∀b∈xs,EJ P R F br (news im (aZ (ex::av) h)) b
theorem iu.to{ex:Nat}{xs:List CB}{OF:List Nat}{h':Hp}(x:iu P R F br im ex av h xs)(e:Ext (aZ (ex::av) h) (aZ (ex::OF) h'))(l:jN (ex::OF) h')(f:h' ex=some (.list (xs.map on))):iu P R F br im ex OF h' xs:=
 ⟨x.ext.trans e,l,f,λb hb=>(x.ok b hb).ext (bR e)⟩
theorem iu.old{ex:Nat}{xs:List CB}(x:iu P R F br im ex av h xs):Ext im h:=x.ext.trans bm
theorem iu.none{ex:Nat}{xs:List CB}(x:iu P R F br im ex av h xs):im ex=Option.none:=x.ext.none (cC Ze)
theorem iu.more{ex:Nat}{xs:List CB}{h':Hp}(x:iu P R F br im ex av h xs)(e:Ext h h'):iu P R F br im ex av h' xs:=x.to (bv (λ_=>.inl) e) (x.live.ext e) (e.at x.at_)
theorem iu.Mh{ex:Nat}{xs:List CB}{h':Hp}(x:iu P R F br im ex av h xs)(e:Ext h h'){a:Nat}(n:h a=Option.none)(n':h' a≠Option.none):iu P R F br im ex (a::av) h' xs:=
 x.to (bv (λz m=>by
  rcases Zp.mp m with rfl|m
  . exact .inl Ze
  . rcases Zp.mp m with rfl|m
    . exact .inr n
    . exact .inl (Zh _ m)) e) (λz m=>by
  rcases Zp.mp m with rfl|m
  . exact x.live.ext e z Ze
  . rcases Zp.mp m with rfl|m
    . exact n'
    . exact x.live.ext e z (Zh _ m)) (e.at x.at_)
theorem iu.put{ex:Nat}{xs:List CB}{h':Hp}{a:Nat}{o:O}(x:iu P R F br im ex (a::av) h xs)(ne:a≠ex)(p:Put h a o h'):iu P R F br im ex av h' xs:=by
 have e:aZ (ex::a::av) h'=aZ (ex::a::av) h:=fk (Zh _ Ze) p;refine x.to (e▸bv (λz m=>.inl ?_) .refl) (λz m=>x.live.put p z ?_) (p.to (Yo ne) x.at_)<;>
 . rcases Zp.mp m with rfl|m
   . exact Ze
   . exact Zh _ (Zh _ m)
theorem iu.frame{ex e:Nat}{xs:List CB}{h':Hp}(x:iu P R F br im ex av h xs)(he:e∈av)(ne:e≠ex)(fr:Ext (aH e h) h')(n:h' e≠Option.none):iu P R F br im ex av h' xs:=by
 have st:∀z,z≠e->h z≠Option.none->h' z=h z:=λz hz ho=>(fr z (by rwa [hide_ne hz])).trans (hide_ne hz);refine x.to (λz hz=>?_) (λz m=>?_) ((st ex (Yo ne) (aG x.at_)).trans x.at_)
 . have nS:z∉ex::av:=λm=>hz (cC m);rw[aX nS] at hz ⊢;rw[aX nS,st z (λk=>nS (k▸Zh _ he)) hz]
 . by_cases ze:z=e
   . exact ze▸n
   . rw[st z ze (x.live z m)];exact x.live z m
theorem iu.push{ex:Nat}{xs:List CB}{b:CB}{h' cT:Hp}(x:iu P R F br im ex av h' xs)(l:jN (ex::av) h)(e:Ext im h)(B:EJ P R F br (news h h') b)(p:Put h' ex (.list (xs.map on++[on b])) cT):iu P R F br im ex av cT (xs++[b]):=by
 have eq:aZ (ex::av) cT=aZ (ex::av) h':=fk Ze p;refine⟨eq▸x.ext,x.live.put p,by rw[p.at,Zq];rfl,λc hc=>?_⟩;rw[eq];rcases Zg.mp hc with hc|hc
 . exact x.ok c hc
 . rw[Zc.mp hc];exact B.ext (.mk λz=>oa (cV z) λa1 a2=>aC (e.none a1) ((aX λm=>l _ m a1).trans a2))
theorem iu.Lu{ex a:Nat}{xs:List CB}{h':Hp}{o:O}(x:iu P R F br im ex av h xs)(ha:a∈av)(ne:a≠ex)(p:Put h a o h'):iu P R F br im ex av h' xs:=
 x.frame ha ne (oO p) (aG p.at)
structure Ready(P:aJ)(R:List Int)(F:Int->List Int)(ad:List (Int×V))(ks br:List Int)(rb:ax):Prop where
 aR:∀b∈bN P R rb,∀v∈b0 R b,Named ad ks br v
 inner:∀b∈bN P R rb,∀l∈cu P R b,∀v∈F l,Named ad ks br v
 LQ:∀b∈bN P R rb,∀o∈b.aN,o.bD="fix"->∀v∈o.bP,v∈ks
 LX:∀b∈bN P R rb,∀c∈bq P R b.aa,cv c.aa∈ks
 params:∀b∈bN P R rb,b.aa≠rb.aa->∀v∈b.params,v∈ks
noncomputable def nY(P:aJ)(R:List Int)(rb:ax)(h:Hp)(pl:Nat):Prop:=∃jd,h pl=some (.dict jd)/\∀b∈bN P R rb,∃i:Int,jd.lookup b.aa=some (.int i)
noncomputable def JR(zs:List Z)(v:Int):Prop:=∃z∈zs,z.ae=v
noncomputable def kJ(xs:List CB)(v:Int):Prop:=∃b∈xs,JR b.aR v
theorem kJ.more{xs ys:List CB}{v:Int}(x:kJ xs v)(e:∀b∈xs,b∈ys):kJ ys v:=oea x λb hb z=>⟨b,e b hb,z⟩
theorem lN{br:List Int}{H:Hp}{z:Z}(x:w_ H br z):∀z',some z=some z'->w_ H br z':=λ_ e=>Z1 e▸x
theorem lQ{br:List Int}{H:Hp}:∀z',(none:Option Z)=some z'->w_ H br z':=λ_ e=>nomatch e
theorem mX(W:Wd Φ γ)(M:yu im P y R ad ds F m rb br)(hs:dw im m.sl ks)(hp:nY P R rb im m.pl){xs:List CB}(X:iu P R F br im m.ex av h xs){t:ax}(nm:t.aa∈R->Named ad ks br (cv t.aa))(hm:t.aa∉R->t∈bN P R rb)(hx:xs.length<1000)
 (q:∀h' k pY,Ext (aH m.ex h) h'->h' m.ex≠none->iu P R F br im m.ex av h' pY->(t.aa∈R->kJ pY (cv t.aa))->(∀b∈xs,b∈pY)->pY.length<=xs.length+1->Q (.int k) h'):Φ "way_block" [.ref m.ad,.int t.aa] h Q:=by
 refine W.cl rfl rfl ?_;have e:=X.old;have self:=M.self;have ys:=M.all.lay.self;refine oea hp λjd p1 p2=>?_;try clear hp
 have Oi:=X.at_;nofun;refine l_ W (M.all.lay.ext e) ?_;nofun;refine r_ite (λc=>?_) λc=>?_
 . have c:=j_ (nt c);refine oe (p2 t (hm c)) λi hi=>?_;nofun;exact q h i xs aV (aG Oi) X (λz=>absurd z c) (λ_ h=>h) (Yj _)
 . have c:=ik (nf c);nofun;intro g h1 A1;refine r_newCB W rfl rfl λf h3 o e3 TR TQ of f3 o3=>?_;have lJ:=A1.ext.trans e3;have Dg:=e.trans lJ;nofun;intro g2 h4 A4;have CX:=A4.im Dg;nofun;refine oj W (M.ext CX) (hs.ext CX) (nm c) λh5 z e5 n5 zv zo=>?_;nofun;intro g3 h6 A6;refine r_newCL W rfl rfl rfl rfl rfl λcl h8 e8 n8 f8=>?_;have Os:=A4.ext.trans (e5.trans (A6.ext.trans e8));have f38:=Os.at f3;nofun;intro h9 p9;have fr:h f=none:=A1.ext.none TR;have Ak:f≠m.ex:=(aB fr Oi).symm;have MZ:Ext h h9:=p9.im (lJ.trans Os) fr;have x9:=MZ.at Oi;have im9:=e.trans MZ;nofun;refine r_app x9 (by rw[Za];exact ZK hx (by decide)) λiq nQ=>?_;have FT:=nQ.to Ak p9.at
   let b:CB:=⟨f,.int (jd.length+xs.length),.ref g,o,[],⟨cl,"give",g2,g3,[],none,some z⟩⟩
   have v9:∀{x ob},x≠f->h8 x=some ob->h9 x=some ob:=λn e=>p9.to n e;have B:EJ P R F br (news h h9) b:=by
    refine⟨aC fr ?_,aC (A1.ext.none TQ) (v9 of (Os.at o3)),(λ_ z=>nomatch z),⟨aC (lJ.none (A4.ext.none (e5.none (A6.ext.none n8)))) (v9 ?_ f8),⟨aC (lJ.none A4.new) (v9 (A4.ne f3).symm ((e5.trans (A6.ext.trans e8)).at A4.at)),λ_ z=>nomatch z⟩,lQ,lN ?_⟩,ZB rfl,ZR _⟩
    . have:=p9.at;rw[Za] at this;exact this
    . exact(aB n8 ((A4.ext.trans (e5.trans A6.ext)).at f3)).symm
    . have:=cV zo.at_;exact⟨aC ((lJ.trans A4.ext).none this.1) (v9 (aB this.1 (A4.ext.at f3)).symm ((A6.ext.trans e8).at this.2)),zo.ok⟩
   nofun;exact q iq _ (xs++[b]) (hM (hE MZ) (oO nQ)) (aG nQ.at) ((X.more MZ).push X.live e B nQ) (λ_=>⟨b,Zi _ Ze,z,Ze,zv⟩) (λc hc=>Zd _ hc) (by rw[Zb];exact Zs _)
end
end
section
section
variable {Φ:Calls}{γ:String->Option V}{im h:Hp}{Q:V->Hp->Prop}{P:aJ}{R:List Int}
variable {y:Lay}{ad:List (Int×V)}{ds:List Row}{F:Int->List Int}{m:tt}{rb:ax}{br ks:List Int}{av:List Nat}
theorem Cg{b:ax}{v:Int}(h:v∈b.ag.aR):v∈b0 R b:=Zi _ (Zd _ h)
theorem wE{b:ax}{t:Int}(h:t∈b.ag.bg)(r:t∈R):cv t∈b0 R b:=Zi _ (Zi _ (Zn.mpr ⟨t,ZG.mpr ⟨h,ZZ.mpr r⟩,rfl⟩))
theorem oE{p:Prop}[Decidable p]{i v:Int}:v∈(if p then [i] else [])↔p/\v=i:=by split<;>simp[*]
theorem cX{b:ax}{v:Int}:v∈bT R b↔v∈b.ag.args\/(0<=b.ag.fn/\v=b.ag.fn)\/(0<=b.ag.ae/\v=b.ag.ae)\/(0<=b.ag.to/\b.ag.to∈R/\v=cv b.ag.to)\/(0<=b.ag.other/\b.ag.other∈R/\v=cv b.ag.other):=by
 unfold bT Last.aR Last.bg;simp only[Zg,Zn,ZG,oE,ZZ];constructor
 . rintro ((h|h|h)|⟨t,⟨⟨a,rfl⟩|⟨a,rfl⟩,r⟩,rfl⟩)
   . exact .inl h
   . exact .inr (.inl h)
   . exact .inr (.inr (.inl h))
   . exact .inr (.inr (.inr (.inl ⟨a,r,rfl⟩)))
   . exact .inr (.inr (.inr (.inr ⟨a,r,rfl⟩)))
 . rintro (h|h|h|⟨a,r,h⟩|⟨a,r,h⟩)
   . exact .inl (.inl h)
   . exact .inl (.inr (.inl h))
   . exact .inl (.inr (.inr h))
   . exact .inr ⟨_,⟨.inl ⟨a,rfl⟩,r⟩,h.symm⟩
   . exact .inr ⟨_,⟨.inr ⟨a,rfl⟩,r⟩,h.symm⟩
theorem dY{x:Int}(e:x= -1):¬ 0<=x:=by rw[e];decide
theorem uV(W:Wd Φ γ)(N:aM P)(M:yu im P y R ad ds F m rb br)(hs:dw im m.sl ks)(hp:nY P R rb im m.pl)(RD:Ready P R F ad ks br rb){xs:List CB}(X:iu P R F br im m.ex av h xs){b:ax}(hb:b∈bN P R rb)(hx:xs.length<900)
 (q:∀h' c pY,Ext (aH m.ex h) h'->h' m.ex≠none->iu P R F br im m.ex av h' pY->JT br (news h h') c->(∀b∈xs,b∈pY)->pY.length<=xs.length+2->(∀v∈bT R b,JR c.aR v\/kJ pY v)->c.aR.length<=4->Q (.ref c.ad) h'):
 Φ "made_last" [.ref m.ad,.ref b.ag.ad] h Q:=by
 refine W.cl rfl rfl ?_;have e:=X.old;have g1:=W.uz;have g2:=W.Bk;have g3:=W.Bl;have LR:=M.all.least;have r1:=LR.ch.one N;have lF:=ay.mp M.root;have cF:=ct lF.1 hb;have self:=M.self;have ys:=M.all.lay.self;have ls:=(M.all.lay.prog.aT b cF).ag.self;have la:=(M.all.lay.prog.aT b cF).ag.args;have mJ:=N.mJ b cF;have ND:∀v∈b.ag.aR,Named ad ks br v:=λv hv=>RD.aR b hb v (Cg hv);have Mt:∀v∈b.ag.args,Named ad ks br v:=λv hv=>ND v (Zd _ hv);have QM:0<=b.ag.fn->Named ad ks br b.ag.fn:=λz=>ND _ (Zi _ (Zd _ (oE.mpr ⟨z,rfl⟩)));have QL:0<=b.ag.ae->Named ad ks br b.ag.ae:=λz=>ND _ (Zi _ (Zi _ (oE.mpr ⟨z,rfl⟩)));have Nq:0<=b.ag.to->b.ag.to∈b.ag.bg:=λz=>Zd _ (oE.mpr ⟨z,rfl⟩);have tg:∀t∈b.ag.bg,∃c∈P.ap,c.aa=t/\(c.aa∈R->Named ad ks br (cv c.aa))/\(c.aa∉R->c∈bN P R rb):=λt ht=>by
  refine oeaa (N.vA b cF t ht) λc hc bV _=>?_;subst bV;refine⟨c,hc,rfl,λr=>RD.aR b hb _ (wE ht r),λr=>(gM N r1 lF.1 lF.2).mpr ⟨hc,?_⟩⟩;rw[LR.closed b cF _ ht r];exact((gM N r1 lF.1 lF.2).mp hb).2
 have zl:∀{zs:List Z},zs.map Z.ae=b.ag.args->zs.length<=1:=λz=>by rw[<-z,Za] at mJ;exact mJ
 unfold we at ls;rcases N.lw b cF with ⟨w,k1,k2,k3,k4,k5⟩|⟨w,k1,k2,k3,k4⟩|⟨w,k1,k2,k3,k4⟩|⟨w,k1,k2,k3⟩<;>rw[w] at ls
 . -- if
   refine oeaaa (tg b.ag.to (Nq k2)) λt1 Rd CW IK MD=>?_;refine oeaaa (tg b.ag.other (Zi _ (oE.mpr ⟨k3,rfl⟩))) λt2 ht2 On TG T7=>?_;rw[<-CW,<-On] at ls;nofun;refine mX W M hs hp X IK MD (ZK hx (by decide)) λh1 i1 xs1 e1 o1 X1 c1 s1 l1=>?_;have tn:=X1.old;nofun;refine mX W M hs hp X1 TG T7 (Zk l1 (ZK (Nat.succ_lt_succ hx) (by decide))) λh2 i2 SQ e2 o2 X2 c2 s2 l2=>?_;have kG:=X2.old;nofun;intro a3 h3 A3;have Dg:=A3.im kG;nofun;refine oj W (M.ext Dg) (hs.ext Dg) (QM k1) λh4 z e4 n4 zv zo=>?_;nofun;intro a5 h5 A5;nofun;refine r_newCL W rfl rfl rfl rfl rfl λa6 h7 e7 n6 f7=>?_;nofun;have Ot:=A3.ext.trans (e4.trans (A5.ext.trans e7));have RS:=hM e1 e2;have fresh:∀x,h2 x=none->h x=none:=λx hx=>by
    have:=RS.none hx
    rwa [hide_ne λ(zz:x=m.ex)=>o2 (zz▸hx)] at this
   refine q h7 ⟨a6,"if",a5,a3,[],some z,none⟩ SQ (hM RS (hE Ot)) (by rw[Ot _ o2];exact o2) (X2.more Ot) ⟨aC (fresh _ (A3.ext.none (e4.none (A5.ext.none n6)))) f7,⟨aC (fresh _ (A3.ext.none (e4.none A5.new))) (e7.at A5.at),λ_ z=>nomatch z⟩,lN ?_,lQ⟩ (λb hb=>s2 b (s1 b hb)) (Zf l2 (YG l1)) (λv hv=>?_) (ZB rfl)
   . have:=cV zo.at_;exact⟨aC (fresh _ (A3.ext.none this.1)) ((A5.ext.trans e7).at this.2),zo.ok⟩
   . rcases cX.mp hv with h|⟨_,h⟩|⟨z,_⟩|⟨_,r,h⟩|⟨_,r,h⟩
     . rw[k4] at h;cases h
     . exact .inl ⟨z,Ze,by rw[zv,h]⟩
     . exact absurd z (dY k5)
     . rw[h,<-CW];exact .inr ((c1 (by rw[CW];exact r)).more s2)
     . rw[h,<-On];exact .inr (c2 (by rw[On];exact r))
 . -- jump
   refine oeaaa (tg b.ag.to (Nq k1)) λt1 Rd CW IK MD=>?_;rw[CW] at IK;nofun;refine l_ W (M.all.lay.ext e) ?_;refine r_ite (λc=>?_) λc=>?_
   . have c:=ik c;nofun;refine lP W (M.ext e) (hs.ext e) (e.at la) Mt λh1 g zs e1 n1 z1 z2=>?_;have tn:=e.trans e1;nofun;refine oj W (M.ext tn) (hs.ext tn) (IK c) λh2 z e2 n2 zv zo=>?_;nofun;intro a3 h3 A3;refine r_newCL W rfl rfl rfl rfl rfl λa4 h5 e5 n4 f5=>?_;nofun;have qD:=e2.trans (A3.ext.trans e5);have tl:=e1.trans qD;refine q h5 ⟨a4,"give",g,a3,zs,none,some z⟩ xs (hE tl) (aG (tl.at X.at_)) (X.more tl) ⟨aC (e1.none (e2.none (A3.ext.none n4))) f5,z2.ext (bR qD),lQ,lN (zo.ext ((dQ e1).trans (bR (A3.ext.trans e5))))⟩ (λb hb=>hb) (ZD _ _) (λv hv=>?_) (by rw[CL.aR,Zb];exact Zf (ZO (zl z1) _) (ZB rfl));rcases cX.mp hv with h|⟨z,_⟩|⟨z,_⟩|⟨_,r,h⟩|⟨z,_⟩
     . refine oea (dZ z1 h) λx hx ev=>?_;exact .inl ⟨x,Zd _ hx,ev⟩
     . exact absurd z (dY k3)
     . exact absurd z (dY k4)
     . exact .inl ⟨z,Zi _ Ze,by rw[zv,h];rfl⟩
     . exact absurd z (dY k2)
   . have c:=j_ c;refine oea hp λjd p1 p2=>?_;try clear hp
     refine oe (p2 t1 (MD (by rw[CW];exact c))) λi hi=>?_;rw[CW] at hi;nofun;refine lP W (M.ext e) (hs.ext e) (e.at la) Mt λh1 g zs e1 n1 z1 z2=>?_;have tn:=e.trans e1;have QV:=tn.at ls;nofun;intro a3 h3 A3;refine r_newCL W rfl rfl rfl rfl rfl λa4 h5 e5 n4 f5=>?_;nofun;have qD:=A3.ext.trans e5;have tl:=e1.trans qD;refine q h5 ⟨a4,"goto",g,a3,zs,none,none⟩ xs (hE tl) (aG (tl.at X.at_)) (X.more tl) ⟨aC (e1.none (A3.ext.none n4)) f5,z2.ext (bR qD),lQ,lQ⟩ (λb hb=>hb) (ZD _ _) (λv hv=>?_) (by rw[CL.aR,Zb];exact Zf (ZO (zl z1) _) (ZB rfl));rcases cX.mp hv with h|⟨z,_⟩|⟨z,_⟩|⟨_,r,h⟩|⟨z,_⟩
     . refine oea (dZ z1 h) λx hx ev=>?_;exact .inl ⟨x,Zd _ hx,ev⟩
     . exact absurd z (dY k3)
     . exact absurd z (dY k4)
     . exact absurd r c
     . exact absurd z (dY k2)
 . -- give
   nofun;refine lP W (M.ext e) (hs.ext e) (e.at la) Mt λh1 g zs e1 n1 z1 z2=>?_;have tn:=e.trans e1;have QV:=tn.at ls;nofun;refine oj W (M.ext tn) (hs.ext tn) (QL k1) λh2 z e2 n2 zv zo=>?_;nofun;intro a3 h3 A3;refine r_newCL W rfl rfl rfl rfl rfl λa4 h5 e5 n4 f5=>?_;nofun;have qD:=e2.trans (A3.ext.trans e5);have tl:=e1.trans qD;refine q h5 ⟨a4,"give",g,a3,zs,none,some z⟩ xs (hE tl) (aG (tl.at X.at_)) (X.more tl) ⟨aC (e1.none (e2.none (A3.ext.none n4))) f5,z2.ext (bR qD),lQ,lN (zo.ext ((dQ e1).trans (bR (A3.ext.trans e5))))⟩ (λb hb=>hb) (ZD _ _) (λv hv=>?_) (by rw[CL.aR,Zb];exact Zf (ZO (zl z1) _) (ZB rfl));rcases cX.mp hv with h|⟨z,_⟩|⟨_,h⟩|⟨z,_⟩|⟨z,_⟩
   . refine oea (dZ z1 h) λx hx ev=>?_;exact .inl ⟨x,Zd _ hx,ev⟩
   . exact absurd z (dY k2)
   . exact .inl ⟨z,Zi _ Ze,by rw[zv,h]⟩
   . exact absurd z (dY k3)
   . exact absurd z (dY k4)
 . -- call
   have go:∀kv,Named ad ks br kv->(∀v∈bT R b,v∈b.ag.args\/v=b.ag.fn\/v=kv)->wp Φ γ (.az (sv "call")<|.ae "maker"<|.bM "UnitMaker"<|.ae "last"<|.u (.attr "fun")<|.call "UnitMaker.arg" 2<|.ae "maker"<|.bM "UnitMaker"<|.ae "last"<|.u (.attr "args")<|.call "UnitMaker.args" 2<|.ae "maker"<|.bM "UnitMaker"<|.ae "var"<|.call "UnitMaker.arg" 2<|.mk .list 0<|.new "CLast" "CLast.__init__" 5<|.ret) (bf (iI ["maker","last"] [.ref m.ad,.ref b.ag.ad]) "var" (.int kv)) [] h (ty Q):=λkv nk ek=>by
    nofun;refine oj W (M.ext e) (hs.ext e) (QM k1) λh1 zf e1 n1 SJ SL=>?_;have tn:=e.trans e1;have QV:=tn.at ls;have xe:=tn.at self;nofun;refine lP W (M.ext tn) (hs.ext tn) (tn.at la) Mt λh2 g zs e2 n2 z1 z2=>?_;have kG:=tn.trans e2;have K5:=kG.at self;nofun;refine oj W (M.ext kG) (hs.ext kG) nk λh3 z e3 n3 zv zo=>?_;nofun;intro a4 h4 A4;refine r_newCL W rfl rfl rfl rfl rfl λa5 h6 e6 n5 f6=>?_;nofun;have FX:=e3.trans (A4.ext.trans e6);have Ou:=e1.trans (e2.trans FX);refine q h6 ⟨a5,"call",g,a4,zs,some zf,some z⟩ xs (hE Ou) (aG (Ou.at X.at_)) (X.more Ou) ⟨aC (e1.none (e2.none (e3.none (A4.ext.none n5)))) f6,z2.ext ((dQ e1).trans (bR FX)),lN (SL.ext (bR (e2.trans FX))),lN (zo.ext ((dQ (e1.trans e2)).trans (bR (A4.ext.trans e6))))⟩ (λb hb=>hb) (ZD _ _) (λv hv=>?_) (by rw[CL.aR,Zb];exact Zf (ZO (zl z1) _) (ZB rfl));rcases ek v hv with h|h|h
    . refine oea (dZ z1 h) λx hx ev=>?_;exact .inl ⟨x,Zd _ hx,ev⟩
    . exact .inl ⟨zf,Zi _ Ze,by rw[SJ,h]⟩
    . exact .inl ⟨z,Zi _ (Zh _ Ze),by rw[zv,h]⟩
   nofun;refine r_dec (λa1=>?_) λa1=>?_
   . refine oeaaa (tg b.ag.to (Nq a1)) λt1 Rd CW IK MD=>?_;have c':b.ag.to∈R:=LR.ch b cF _ (.inr ⟨w,a1,rfl⟩);refine r_var rfl (r_attr (e.at ls) rfl (r_call1 (p_closure_var W (r_done_sq (r_asg ?_)))));refine go (cv b.ag.to) (by rw[<-CW];exact IK (by rw[CW];exact c')) λv hv=>?_;rcases cX.mp hv with h|⟨_,h⟩|⟨z,_⟩|⟨_,r,h⟩|⟨z,_⟩
     . exact .inl h
     . exact .inr (.inl h)
     . rcases k3 with ⟨_,a2⟩|⟨a2,_⟩
       . exact absurd z (dY a2)
       . exact absurd a1 (dY a2)
     . exact .inr (.inr h)
     . exact absurd z (dY k2)
   . have a2:=(k3.resolve_left λz=>a1 z.1).2;refine r_var rfl (r_attr (e.at ls) rfl (r_done_sq (r_asg ?_)));refine go b.ag.ae (QL a2) λv hv=>?_;rcases cX.mp hv with h|⟨_,h⟩|⟨_,h⟩|⟨z,_⟩|⟨z,_⟩
     . exact .inl h
     . exact .inr (.inl h)
     . exact .inr (.inr h)
     . exact absurd z a1
     . exact absurd z (dY k2)
end
end
section
section
variable {Φ:Calls}{γ:String->Option V}{im h:Hp}{Q:V->Hp->Prop}{P:aJ}{R:List Int}
variable {y:Lay}{ad:List (Int×V)}{ds:List Row}{F:Int->List Int}{m:tt}{rb:ax}{br ks:List Int}{av:List Nat}
theorem r_join{a b k:C}{ρ:Lo}{st:List V}{Q:Po}{t:Bool}(J:Hp->V->Prop)(qa:t=true->∀K:Po,(∀h' v,J h' v->K .next ρ (v::st) h')->wp Φ γ a ρ st h K)(qb:t=false->∀K:Po,(∀h' v,J h' v->K .next ρ (v::st) h')->wp Φ γ b ρ st h K)
 (q:∀h' v,J h' v->wp Φ γ k ρ (v::st) h' Q):wp Φ γ (.ite a b k) ρ (.bool t::st) h Q:=r_ite (λz=>qa z _ q) λz=>qb z _ q
noncomputable abbrev AQ(c:CO):V:=.ref c.ad
theorem EI.more{o:Op}{zs Jc:List Z}(x:EI F o zs)(s:∀z∈zs,z∈Jc):EI F o Jc:=
 ⟨λv hv=>oea (x.1 v hv) λz hz e=>⟨z,s z hz,e⟩,λl hl v hv=>oea (x.2 l hl v hv) λz hz e=>⟨z,s z hz,e⟩⟩
structure MB(P:aJ)(R:List Int)(F:Int->List Int)(br:List Int)(h h2:Hp)(f o:Nat)(bl:O)(nc nr nl:Nat)(h':Hp)(cs:List CO):Prop where
 ext:Ext h2 h'
 fb:h' f=some bl
 ol:h' o=some (.list (cs.map AQ))
 ok:∀c∈cs,zT P R F br (news h (aZ [o,f] h')) c
 len:cs.length<=nc
 rd:(cs.flatMap CO.aR).length<=nr
 ln:(cs.flatMap (·.lines)).length<=nl
theorem MB.more{h2 h' cT:Hp}{f o nc nr nl My QJ QN:Nat}{bl:O}{cs:List CO}(x:MB P R F br h h2 f o bl nc nr nl h' cs)(e:Ext h' cT)(a:nc<=My)(b:nr<=QJ)(c:nl<=QN):MB P R F br h h2 f o bl My QJ QN cT cs:=
 ⟨x.ext.trans e,e.at x.fb,e.at x.ol,λc hc=>(x.ok c hc).ext (bR (bv (λ_=>.inl) e)),Zf x.len a,Zf x.rd b,Zf x.ln c⟩
theorem MB.push{h2 h5 h6 h7:Hp}{f o nc nr nl a b c:Nat}{bl:O}{cs Ab:List CO}(x:MB P R F br h h2 f o bl nc nr nl h5 cs)(e0:Ext h h2)(of:o≠f)(no:h2 o=none)(e:Ext h5 h6)(ok:∀c∈Ab,zT P R F br (news h5 h6) c)(p:Put h6 o (.list (cs.map AQ++Ab.map AQ)) h7)
 (la:Ab.length<=a) (lb:(Ab.flatMap CO.aR).length<=b) (lc:(Ab.flatMap (·.lines)).length<=c):MB P R F br h h2 f o bl (nc+a) (nr+b) (nl+c) h7 (cs++Ab):=by
 have eq:aZ [o,f] h7=aZ [o,f] h6:=fk Ze p;have l:jN [o,f] h5:=λz m=>by
  rcases Zp.mp m with rfl|m
  . exact aG x.ol
  . rw[Zc.mp m];exact aG x.fb
 refine⟨p.im (x.ext.trans e) no,p.to (Yo of) (e.at x.fb),by rw[p.at,Zq],λc hc=>?_,?_,?_,?_⟩
 . rw[eq];rcases Zg.mp hc with hc|hc
   . exact(x.ok c hc).ext (bR (bv (λ_=>.inl) e))
   . exact(ok c hc).ext (.mk λz=>oa (cV z) λa1 a2=>aC ((e0.trans x.ext).none a1) ((aX (l.out a1)).trans a2))
 . rw[Zb];exact ZQ x.len la
 . rw[Zx,Zb];exact ZQ x.rd lb
 . rw[Zx,Zb];exact ZQ x.ln lc
theorem sh(W:Wd Φ γ)(N:aM P)(M:yu im P y R ad ds F m rb br)(hs:dw im m.sl ks)(hp:nY P R rb im m.pl)(RD:Ready P R F ad ks br rb){xs:List CB}(X:iu P R F br im m.ex av h xs){b:ax}(hb:b∈bN P R rb)(hx:xs.length<900){n:Int}
 (q:∀h' c pY,Ext (aH m.ex h) h'->h' m.ex≠none->iu P R F br im m.ex av h' pY->EJ P R F br (news h h') c->(∀b∈xs,b∈pY)->pY.length<=xs.length+2->(∀v∈b0 R b,JR c.aR v\/kJ pY v)->(∀l∈cu P R b,∀v∈F l,JR c.aR v\/kJ pY v)->Q (on c) h'):
 Φ "made_block" [.ref m.ad,.int b.aa,.int n] h Q:=by
 refine W.cl rfl rfl ?_;have e:=X.old;have lF:=ay.mp M.root;have cF:=ct lF.1 hb;have self:=M.self;have ys:=M.all.lay.self;have Yp:=M.all.lay.prog;have ps:=Yp.self;have B:=Yp.aT b cF;have bs:=B.self;have bp:=B.params;have bo:=B.aN;have dv:=N.dv b cF;nofun;refine r_join (λh' v=>Ext h h'/\∃pa,v= .ref pa) (λne K hK=>?_) (λ_ K hK=>?_) λh2 v ⟨e2,pa,hv⟩=>?_
 . refine oeaa hs λes s1 s2 s3=>?_;try clear hs
   nofun;refine gR W V.int id (λ_ _ _=>True) (λ_ _ x=>x) b.params (e.at bp) (λv h1 hv e1 K hK=>?_) λa h' zs e1 n1 f1 _ _=>?_
   . have tn:=e.trans e1;refine oea (eL (es:=es) (by rw[s2];exact RD.params b hb (bne_iff_ne.mp ne) v hv)) λu lk _=>?_;nofun;exact hK h1 u .refl trivial
   . exact r_done (hK _ _ ⟨e1,a,rfl⟩)
 . nofun;intro a h' A;exact r_done (hK _ _ ⟨A.ext,a,rfl⟩)
 subst hv;have kG:=e.trans e2;nofun;refine r_newCB W rfl rfl λf h4 o e4 nf no of f4 o4=>?_;have MW:h f=none:=e2.none nf;have Ri:h o=none:=e2.none no;nofun;refine bO W.aW (λo:Op=>.ref o.ad) b.aN (λd _ h'=>∃cs,MB P R F br h h2 f o (.inst "CBlock" [("number",.int n),("params",.ref pa),("ops",.ref o),("last",.none)]) d.length (d.length*126) (d.length*2) h' cs/\∀op∈d,EI F op (cs.flatMap CO.aR))
  ((kG.trans e4).at bo) ⟨[],⟨e4,f4,o4,λ_ z=>(nomatch z),Zs _,Zs _,Zs _⟩,λ_ z=>nomatch z⟩ (λd ρ h' xX=>oea xX λcs I _=>(kG.trans I.ext).at bo) ?_ ?_
 . intro d op rr σ h5 hd Ez z_ K hK _;refine oea z_ λcs I cv=>?_;have tl:=kG.trans I.ext;have f5:=I.fb;have dl:∀{k:Nat},d.length*k+k=(d++[op]).length*k:=λ{k}=>by rw[Zb,Nat.add_mul];rw[Ye,Nat.one_mul]
   nofun;refine yY W N (M.ext tl) (hs.ext tl) cF Ez (λv hv=>RD.aR b hb v (Zd _ (Zm.mpr ⟨op,Ez,hv⟩))) (λl hl=>?_) (RD.LQ b hb op Ez) (λh6 e6 cv'=>?_) (λh6 c e6 cok vL cr cl=>?_)
   . have hi:l∈cu P R b:=Zd _ (Zm.mpr ⟨op,Ez,hl⟩);refine oea (fY N M.all.least.ch lF.1 (Zm.mpr ⟨b,hb,hi⟩)) λc hc ec=>?_;exact⟨c,hc,ec,RD.inner b hb l hi⟩
   . nofun;refine r_done (hK _ _ ⟨cs,I.more e6 (by rw[Zb];exact Yj _) (dl▸ZD _ _) (dl▸ZD _ _),λNy je=>?_⟩);rcases Zg.mp je with je|je
     . exact cv Ny je
     . rw[Zc.mp je];exact cv'.more λ_ z=>nomatch z
   . have f6:=e6.at f5;have o6:=e6.at I.ol;nofun;refine r_app o6 ?_ λh7 p=>?_
     . rw[Za];have:=congrArg List.length hd;rw[Zb] at this;exact Zk (Zf I.len (Zf (this▸ZD _ _) dv)) (by decide)
     refine r_done_sq (r_done (hK _ _ ⟨cs++[c],?_,λNy je=>?_⟩))
     . have:=I.push e2 of no e6 (Ab:=[c]) (λc' ir=>Zc.mp ir▸cok) p (Zs _) (by rw[ZE];exact cr) (by rw[ZE];exact cl);rw[dl,dl,show d.length+[c].length=(d++[op]).length from by rw[Zb];rfl] at this;exact this
     . rw[Zx];rcases Zg.mp je with je|je
       . exact(cv Ny je).more λz hz=>Zd _ hz
       . rw[Zc.mp je];exact vL.more λz hz=>Zi _ (by rwa [ZE])
 intro σ h5 z_;refine oea z_ λcs I cv=>?_;have tl:=kG.trans I.ext;have f5:=I.fb;have o5:=I.ol;nofun;refine sg W N (M.ext tl) (hs.ext tl) (l:=b.aa) (λc hc=>⟨RD.LX b hb c hc,RD.inner b hb c.aa (Zi _ (Zn.mpr ⟨c,hc,rfl⟩))⟩) λh6 a Ab e6 n6 f6 P8 P7 r2 ln2 QX=>?_;refine r_extend (e6.at I.ol) f6 (aB n6 I.ol) ?_ λh7 p=>?_
 . rw[Za,Za];exact Zf (ZQ (Zf I.len dv) QX) (by decide)
 have I7:=I.push e2 of no e6 P8 p QX r2 ln2;have M8:∀op∈b.aN,EI F op ((cs++Ab).flatMap CO.aR):=λop ho=>(cv op ho).more λz hz=>by rw[Zx];exact Zd _ hz
 have OB:∀c∈bq P R b.aa,∀v∈F c.aa,∃z∈(cs++Ab).flatMap CO.aR,z.ae=v:=λc hc v hv=>oea (P7 c hc v hv) λz hz e=>⟨z,by rw[Zx];exact Zi _ hz,e⟩
 revert I7 M8 OB
 generalize cs++Ab=cs';intro I7 M8 OB;have e07:=kG.trans I7.ext;have e0:Ext h h7:=e2.trans I7.ext;have bs7:=e07.at bs;have f7:=I7.fb;have X7:=X.Mh e0 MW (aG f7);nofun;refine uV W N M hs hp RD X7 hb hx λh8 cl pY e8 o8 X8 clr sub lx vL lr=>?_;have Ak:f≠m.ex:=(aB MW X.at_).symm;have Py:o≠m.ex:=(aB Ri X.at_).symm;have f8:=e8.at (aF Ak f7);have TD:=e8.at (aF Py I7.ol);nofun;intro h9 p9;nofun;have v9:∀{x ob},x≠f->h8 x=some ob->h9 x=some ob:=λn e=>p9.to n e;have fr:Ext (aH m.ex h) h9:=λx hx=>by
  have x1:x≠m.ex:=λz=>hx (z▸ao);have x2:x≠f:=λz=>hx (by rw[hide_ne x1,z];exact MW);rw[p9.ne x2];exact(hM (hE e0) e8) x hx
 have en1:Ext (news h (aZ [o,f] h7)) (news h h9):=.mk λ{x ob} z=>by
  refine oa (cV z) λb1 b2=>?_;have nm:x∉[o,f]:=λm=>aG b2 (cC m);have x2:x≠f:=λk=>nm (k▸Zh _ Ze);have x1:x≠m.ex:=λk=>aG X.at_ (k▸b1);exact aC b1 (v9 x2 (e8.at (aF x1 ((aX nm).symm.trans b2))))
 have en2:Ext (news h7 h8) (news h h9):=.mk λ{x ob} z=>by
  refine oa (cV z) λb1 b2=>?_;exact aC (e0.none b1) (v9 (λk=>aG f7 (k▸b1)) b2)
 refine q h9 ⟨f,.int n,.ref pa,o,cs',cl⟩ pY fr (by rw[p9.ne Ak.symm];exact o8) (X8.put Ak p9) ⟨aC MW p9.at,aC Ri (v9 of TD),λc hc=>(I7.ok c hc).ext en1,clr.ext en2,?_,?_⟩ sub lx (λv hv=>?_) (λl hl v hv=>?_)
 . rw[Zb];exact Zf (ZQ (Zf I7.rd (ZO (ZY _ dv) _)) lr) (by decide)
 . exact Zf I7.ln (Zf (ZO (ZY _ dv) _) (by decide))
 . rcases Zg.mp hv with hv|hv
   . refine oea (Zm.mp hv) λop Ez hv=>?_;refine oea ((M8 op Ez).1 v hv) λz hz e=>?_;exact .inl ⟨z,Zd _ hz,e⟩
   . exact(vL v hv).imp (λNm=>oea Nm λz hz e=>⟨z,Zi _ hz,e⟩) id
 . rcases Zg.mp hl with hl|hl
   . refine oea (Zm.mp hl) λop Ez hl=>?_;refine oea ((M8 op Ez).2 l hl v hv) λz hz e=>?_;exact .inl ⟨z,Zd _ hz,e⟩
   . refine oea (Zn.mp hl) λc hc bV=>?_;subst bV;refine oea (OB c hc v hv) λz hz e=>?_;exact .inl ⟨z,Zd _ hz,e⟩
end
end
section
structure Fr(l:List Nat)(h:Hp):Prop where
 live:jN l h
 nd:l.Nodup
section
variable {l:List Nat}{h h':Hp}{a:Nat}{o:O}
theorem Fr.ext(x:Fr l h)(e:Ext h h'):Fr l h':=⟨x.live.ext e,x.nd⟩
theorem Fr.put(x:Fr l h)(p:Put h a o h'):Fr l h':=⟨x.live.put p,x.nd⟩
theorem Fr.al(x:Fr l h)(A:Alloc h a o h'):Fr (a::l) h':=
 ⟨λz m=>by rcases Zp.mp m with rfl|m;exact aG A.at;exact x.live.ext A.ext z m,ZC.mpr ⟨λm=>x.live a m A.new,x.nd⟩⟩
theorem fI(n:l.Nodup)(i j:Nat){x y:Nat}(hi:l[i]?=some x)(hj:l[j]?=some y)(ne:i≠j):x≠y:=λe=>ne ((WT (ZM.mp hi).1 n).mp (hi.trans (e▸hj.symm)))
theorem Fr.nil:Fr [] h:=.mk (λ_ m=>nomatch m) Yl
end
section
variable {Φ:Calls}{γ:String->Option V}{im h:Hp}{Q:Po}{P:aJ}{R:List Int}{k:C}{ρ:Lo}{st:List V}
variable {y:Lay}{ad:List (Int×V)}{ds:List Row}{F:Int->List Int}{m:tt}{rb:ax}{br ks:List Int}{av l:List Nat}
theorem r_dictOf{a:Nat}{xs:List V}{ps:List (Int×V)}(e:h a=some (.list xs))(l:xs.length=ps.length)(n:(ps.map (·.1)).Nodup)(s:∀(i:Nat) (p:Int×V) (x:V),ps[i]?=some p->xs[i]?=some x->∃t,x= .ref t/\h t=some (.tup [.int p.1,p.2]))(q:∀c h',Alloc h c (.dict ps) h'->wp Φ γ k ρ (.ref c::st) h' Q):wp Φ γ (.u .dictOf k) ρ (.ref a::st) h Q:=⟨_,⟨a,xs,ps,rfl,e,l,n,s,rfl⟩,r_al q⟩
theorem r_enumD(M:dU Φ){x:String}(nx:x≠ "at"){l:List Int}(nd:l.Nodup){a:Nat}(f:h a=some (iL l))(q:∀c t h',Ext h h'->Fr [c,t] h'->h t=none->h c=none->h' c=some (.dict (zZ l))->wp Φ γ k ρ (.ref c::st) h' Q):
 wp Φ γ (.comp ["at",x] .enum (.az (.bool true) .done) (.ae x (.ae "at" (.mk .tup 2 .done))) (.u .dictOf k)) ρ (.ref a::st) h Q:=by
 refine fF M (aK:=.enum a (l.map .int)) ⟨a,_,rfl,f,rfl⟩ rfl l.zipIdx (λp=>[.int p.2,.int p.1]) ?_ (λd vs h'=>Ext h h'/\vs.length=d.length/\∀(i:Nat) (p:Int×Nat) (x:V),d[i]?=some p->vs[i]?=some x->∃t,x= .ref t/\h' t=some (.tup [.int p.1,.int p.2]))
  ⟨.refl,rfl,λi p x e=>nomatch e⟩ (λd vs h' I=>I.1.at f) (λd x' r vs h' e m I=>⟨_,.inl ⟨rfl,rfl⟩,true,?_⟩) λvs iq ta ti I ia=>?_
 . show (l.map V.int).zipIdx.map _=_;rw[Up,Zt];rfl
 . refine oaa I λE vl vk=>?_;try clear I
   refine r_lit (r_done_val ⟨rfl,?_⟩);show wp _ _ _ _ _ _ _;refine r_var iK (r_var ((fJ (Yo nx)).trans iK) (r_tup 2 rfl ?_));intro t ti ia;refine r_done_val ⟨ia.im E,by rw[Zb,Zb,vl];rfl,λi p v hp hv=>?_⟩
   by_cases z:i<d.length
   . rw[Yt z] at hp;rw[Yt (vl▸z)] at hv;refine oea (vk i p v hp hv) λt a1 a2=>?_;exact⟨t,a1,ia.ext.at a2⟩
   . have z:=Uj z;rw[Yz z] at hp;rw[Yz (vl▸z),vl] at hv
     cases w:i - d.length with
     |zero=>rw[w] at hp hv;cases hp;cases hv;exact⟨t,rfl,ia.at⟩
     |succ=>rw[w] at hp;cases hp
 refine oaa I λE vl vk=>?_;try clear I
 refine r_dictOf (ps:=zZ l) ia.at (by rw[vl,zZ,Za]) (by rw[oM];exact nd) (λi p x hp hx=>?_) λsp rg C0=>?_
 . rw[zZ,ZP] at hp;refine oea (Z5.mp hp) λp' e1 bV=>?_;subst bV;refine oea (vk i p' x e1 hx) λt a1 a2=>?_;exact⟨t,a1,ia.ext.at a2⟩
 exact q sp ta rg (E.trans (ia.ext.trans C0.ext)) ((Fr.nil.al ia).al C0) (E.none ia.new) (E.none (ia.ext.none C0.new)) C0.at
theorem r_newCU(W:Wd Φ γ){num:Int}{s:String}(F0:Fr l h)
 (q:∀a p b h',Ext h h'->Fr (b::p::a::l) h'->h a=none->h p=none->h b=none->h' a=some (.inst "CUnit" (oq num s ⟨0,a,p,b,0,0,0,0,0⟩ 0 0))->h' p=some (.list [])->h' b=some (.list [])->wp Φ γ k ρ (.ref a::st) h' Q):wp Φ γ (.new "CUnit" "CUnit.__init__" 2 k) ρ (sv s:: .int num::st) h Q:=by
 refine r_new rfl λa h0 A=>W.cl rfl rfl ?_;have n:=A.new;have f0:=F0.al A;nofun;intro h1 p1;nofun;intro h2 p2;have e2:=p2.im (p1.im A.ext n) n;nofun;intro p h3 A3;have e3:=A3.im e2;have pa:p≠a:=(A3.ne p2.at).symm;have f3:=A3.ext.at p2.at;have g3:=((f0.put p1).put p2).al A3;have np:=e2.none A3.new;nofun;intro h4 p4;nofun;intro h5 p5;nofun;intro h6 p6;nofun;intro h7 p7;nofun;intro h8 p8;have l8:=p8.to pa (p7.to pa (p6.to pa (p5.to pa (p4.to pa A3.at))));have e8:=p8.im (p7.im (p6.im (p5.im (p4.im e3 n) n) n) n) n;have g8:=((((g3.put p4).put p5).put p6).put p7).put p8;nofun;intro b h9 A9;have ba:b≠a:=(A9.ne p8.at).symm;have l9:=A9.ext.at l8;have f9:=A9.ext.at p8.at;have nb:=e8.none A9.new;nofun;intro iq nQ;nofun;intro ti C7;exact r_done ⟨rfl,q a p b ti (C7.im (nQ.im (A9.im e8) n) n) (((g8.al A9).put nQ).put C7) n np nb C7.at (C7.to pa (nQ.to pa l9)) (C7.to ba (nQ.to ba A9.at))⟩
theorem r_newUM(W:Wd Φ γ)(N:aM P)(LA:gB P h y R ad ds F)(root:rb∈af P R)(cH:(F rb.aa).length<64)(nd:(F rb.aa).Nodup){u pA bA:Nat}(F0:Fr l h)
 (q:∀a sl pl ca ta sp ex h',Ext h h'->Fr (ex::sp::ta::ca::pl::sl::a::l) h'->h a=none->h sl=none->h pl=none->h ex=none->h' a=some (.inst "UnitMaker" (vT y ⟨a,u,pA,bA,sl,pl,ca,sp,ex⟩ rb.aa))->h' ca=some (iL (bE (F rb.aa)))->h' sp=some (.dict (zZ (bE (F rb.aa))))->h' sl=some (.dict [])->h' pl=some (.dict [])->h' ex=some (.list [])->wp Φ γ k ρ (.ref a::st) h' Q):
 wp Φ γ (.new "UnitMaker" "UnitMaker.__init__" 3 k) ρ (.ref u:: .int rb.aa:: .ref y.ad::st) h Q:=by
 refine r_new rfl λa h0 A=>W.cl rfl rfl ?_;have n:=A.new;have f0:=F0.al A;refine oea (oy LA.eq root) λw hw ew=>?_;have lk:=d6 (f:=(·.f)) N LA.eq hw;have fw:=LA.at_ w hw;rw[ew] at lk fw;have ys:=LA.lay.self;have yf:=LA.fD;nofun;intro h1 p1;nofun;intro h2 p2;nofun;intro h3 p3;have e3:=p3.im (p2.im (p1.im A.ext n) n) n;have g3:=((f0.put p1).put p2).put p3;nofun;intro sl h4 A4;have Jh:sl≠a:=(A4.ne p3.at).symm;have f4:=A4.ext.at p3.at;have TJ:=e3.none A4.new;nofun;intro h5 p5;have e5:=p5.im (A4.im e3) n;have Td:=p5.to Jh A4.at;have g5:=(g3.al A4).put p5;nofun;intro pl h6 A6;have Mq:pl≠a:=(A6.ne p5.at).symm;have f6:=A6.ext.at p5.at;have TN:=e5.none A6.new;nofun;intro h7 p7;have e7:=p7.im (A6.im e5) n;have Tc:=p7.to Jh (A6.ext.at Td);have Tk:=p7.to Mq A6.at;have g7:=(g5.al A6).put p7;have ys7:=e7.at ys;have yf7:=e7.at yf;have fw7:=e7.at fw;have few':(cz (F rb.aa)).length<64:=by rw[c_];exact cH
 nofun;rw[jv];intro ca h8 A8;have OD:ca≠a:=(A8.ne p7.at).symm;have f8:=A8.ext.at p7.at;nofun;intro h9 p9;have e9:=p9.im (A8.im e7) n;have Nt:=p9.to Jh (A8.ext.at Tc);have Tj:=p9.to Mq (A8.ext.at Tk);have Sa:=p9.to OD A8.at;have g9:=(g7.al A8).put p9;nofun;refine r_enumD W.aW (by decide) (m9 nd) Sa λsp ta rg yF Og TF QI P4=>?_;have yo:=yF.at p9.at;have Qy:sp≠a:=(aB QI p9.at).symm;have FQ:Fr (sp::ta::ca::pl::sl::a::l) rg:=⟨λz m=>by
  rcases Zp.mp m with rfl|m
  . exact Og.live _ Ze
  rcases Zp.mp m with rfl|m
  . exact Og.live _ (Zh _ Ze)
  . exact(g9.ext yF).live z m,ZC.mpr ⟨λm=>by
  rcases Zp.mp m with rfl|m
  . exact(ZC.mp Og.nd).1 Ze
  . exact g9.live _ m QI,ZC.mpr ⟨λm=>g9.live _ m TF,g9.nd⟩⟩⟩
 nofun;intro ED Ew;have lJ:=Ew.im (e9.trans yF) n;have O9:=Ew.to Jh (yF.at Nt);have Pj:=Ew.to Mq (yF.at Tj);have Qb:=Ew.to OD (yF.at Sa);have O8:=Ew.to Qy P4;nofun;intro ex zQ CZ;have exa:ex≠a:=(CZ.ne Ew.at).symm;have RP:=CZ.ext.at Ew.at;have TS:=lJ.none CZ.new;nofun;intro Ob Ev;exact r_done ⟨rfl,q a sl pl ca ta sp ex Ob (Ev.im (CZ.im lJ) n) (((FQ.put Ew).al CZ).put Ev) n TJ TN TS Ev.at (Ev.to OD (CZ.ext.at Qb)) (Ev.to Qy (CZ.ext.at O8)) (Ev.to Jh (CZ.ext.at O9)) (Ev.to Mq (CZ.ext.at Pj)) (Ev.to exa CZ.at)⟩
end
end
section
section
variable {Φ:Calls}{γ:String->Option V}{im h:Hp}{Q:V->Hp->Prop}{P:aJ}{R:List Int}
variable {y:Lay}{ad:List (Int×V)}{ds:List Row}{F:Int->List Int}{m:tt}{rb:ax}{br ks:List Int}{av:List Nat}
theorem r_if{a b k:C}{ρ:Lo}{st:List V}{Q:Po}{t:Bool}(J:Hp->Prop)(qa:t=true->∀K:Po,(∀h',J h'->K .next ρ st h')->wp Φ γ a ρ st h K)(qb:t=false->∀K:Po,(∀h',J h'->K .next ρ st h')->wp Φ γ b ρ st h K)
 (q:∀h',J h'->wp Φ γ k ρ st h' Q):wp Φ γ (.ite a b k) ρ (.bool t::st) h Q:=r_ite (λz=>qa z _ q) λz=>qb z _ q
theorem r_ifl(M:dU Φ){a b k:C}{ρ:Lo}{st:List V}{Q:Po}{t:Bool}(J:Hp->Prop)(qa:t=true->∀K:Po,(∀ρ' h',J h'->K .next ρ' st h')->wp Φ γ a ρ st h K)(qb:t=false->∀K:Po,(∀ρ' h',J h'->K .next ρ' st h')->wp Φ γ b ρ st h K)
 (q:∀σ h',J h'->wp Φ γ k (mix (aY a++aY b) σ ρ) st h' Q):wp Φ γ (.ite a b k) ρ (.bool t::st) h Q:=by
 have fin:∀ρ' h',cR (aY a++aY b) ρ ρ'->J h'->wp Φ γ k ρ' st h' Q:=λρ' h' s j=>by
  have:=q ρ' h' j
  rwa [oD s] at this
 refine r_ite (λz=>tP M _ _ _ _ _ _ (qa z (λfl _ bH h'=>fl= .next/\bH=st/\J h') λ_ _ j=>⟨rfl,rfl,j⟩) λfl ρ' bH h' s p=>?_) λz=>tP M _ _ _ _ _ _ (qb z (λfl _ bH h'=>fl= .next/\bH=st/\J h') λ_ _ j=>⟨rfl,rfl,j⟩) λfl ρ' bH h' s p=>?_
 . refine oaa p λbV cw j=>?_;try clear p;subst bV;subst cw
   exact fin ρ' h' (λx n=>s x λm=>n (Zd _ m)) j
 . refine oaa p λc8 dW j=>?_;try clear p;subst c8;subst dW
   exact fin ρ' h' (λx n=>s x λm=>n (Zi _ m)) j
structure US(im:Hp)(m:tt)(num:Int)(aI:String)(c:Int)(np:Nat)(ks:List Int)(jd:List (Int×V))(h:Hp):Prop where
 ext:Ext im h
 u:∃n,h m.u=some (.inst "CUnit" (oq num aI m c n))
 p:∃ps,h m.pA=some (.list ps)/\ps.length<=np
 sl:dw h m.sl ks
 pl:h m.pl=some (.dict jd)
 b:h m.bA=some (.list [])
 ex:h m.ex=some (.list [])
structure Apart(im:Hp)(m:tt):Prop where
 (nu:im m.u=none) (np:im m.pA=none) (nb:im m.bA=none) (ns:im m.sl=none) (nl:im m.pl=none) (nx:im m.ex=none)
 (up:m.u≠m.pA) (ub:m.u≠m.bA) (us:m.u≠m.sl) (ul:m.u≠m.pl) (ux:m.u≠m.ex)
 (pb:m.pA≠m.bA) (ps:m.pA≠m.sl) (pl:m.pA≠m.pl) (px:m.pA≠m.ex)
 (bs:m.bA≠m.sl) (bl:m.bA≠m.pl) (bx:m.bA≠m.ex) (sl:m.sl≠m.pl) (sx:m.sl≠m.ex) (lx:m.pl≠m.ex)
section
variable {num c:Int}{np:Nat}{aI:String}{jd J2:List (Int×V)}{h':Hp}
theorem US.more(x:US im m num aI c np ks jd h)(e:Ext h h'):US im m num aI c np ks jd h':=
 oe x.u λn b=>oea x.p λps c1 c2=>⟨x.ext.trans e,⟨n,e.at b⟩,⟨ps,e.at c1,c2⟩,x.sl.ext e,e.at x.pl,e.at x.b,e.at x.ex⟩
theorem US.Lr(A:Apart im m)(x:US im m num aI c np ks jd h)(p:Put h m.pl (.dict J2) h'):US im m num aI c np ks J2 h':=
 oe x.u λn b=>oea x.p λps c1 c2=>oea x.sl λes d1 d2=>⟨p.im x.ext A.nl,⟨n,p.to A.ul b⟩,⟨ps,p.to A.pl c1,c2⟩,⟨es,p.to A.sl d1,d2⟩,p.at,p.to A.bl x.b,p.to A.lx.symm x.ex⟩
theorem US.J1(A:Apart im m)(x:US im m num aI c np ks jd h){ps:List V}{n':Nat}(p:Put h m.pA (.list ps) h')(l:ps.length<=n'):US im m num aI c n' ks jd h':=
 oe x.u λn b=>oea x.sl λes d1 d2=>⟨p.im x.ext A.np,⟨n,p.to A.up b⟩,⟨ps,p.at,l⟩,⟨es,p.to A.ps.symm d1,d2⟩,p.to A.pl.symm x.pl,p.to A.pb.symm x.b,p.to A.px.symm x.ex⟩
theorem kP(W:Wd Φ γ)(A:Apart im m)(self:im m.ad=some (.inst "UnitMaker" (vT y m rb.aa)))(x:US im m num aI c np ks jd h)(hk:ks.length<big){v:Int}
 (q:∀h' k,(∀x o,h x=some o->x≠m.u->x≠m.sl->h' x=some o)->US im m num aI c np (ins ks v) jd h'->Q (.int k) h'):Φ "UnitMaker.slot" [.ref m.ad,.int v] h Q:=by
 refine oe x.u λn hu=>?_;refine HI W (x.ext.at self) hu x.sl hk A.us (aB A.nu self) (aB A.ns self) λh' k a1 a2 a3=>?_;have al:∀x o,h x=some o->x≠m.u->x≠m.sl->h' x=some o:=λx o ho b1 b2=>(a1 x b1 b2).trans ho;refine oea x.p λps p1 p2=>?_;exact q h' k al ⟨λz hz=>(a1 z (λ(k:z=m.u)=>hz (k▸A.nu)) λ(k:z=m.sl)=>hz (k▸A.ns)).trans (x.ext z hz),⟨_,a2⟩,⟨ps,al _ _ p1 A.up.symm A.ps,p2⟩,a3,al _ _ x.pl A.ul.symm A.sl.symm,al _ _ x.b A.ub.symm A.bs,al _ _ x.ex A.ux.symm A.sx.symm⟩
end
noncomputable def B1(b:ax):List Int:=(if b.aI="fun" then [b.ae] else [])++b.params
theorem uv{l:List Int}{n:Nat}(h:l.length<=n)(z:Nat.blt n big=true):(bW [] l).length<big:=
 Zk (Zf uw ((Xy _).symm▸h:([]:List Int).length+l.length<=n)) (ZB z)
theorem sG(W:Wd Φ γ)(N:aM P)(A:Apart im m)(Y:jO im P y R)(self:im m.ad=some (.inst "UnitMaker" (vT y m rb.aa)))(hb:rb∈P.ap){num c:Int}{aI:String}(x:US im m num aI c 0 [] [] h)
 (q:∀h',US im m num aI c 2 (bW [] (B1 rb)) [] h'->Q .none h'):Φ "begin_unit" [.ref m.ad] h Q:=by
 refine W.cl rfl rfl ?_;have e:=x.ext;have ys:=Y.self;have g1:=W.AN;have g2:=W.wj;have Yp:=Y.prog;have ps:=Yp.self;have B:=Yp.aT rb hb;have bs:=B.self;have bp:=B.params;refine oe x.u λn hu=>?_
 let K0:List Int:=if rb.aI="fun" then [rb.ae] else []
 have K1:K0.length<=1:=fR rb.ae;nofun;refine r_if (US im m num aI c 1 (bW [] K0) []) (λw K hK=>?_) (λw K hK=>?_) λh3 x3=>?_
 . refine oea x.p λFt p0 p2=>?_;nofun;refine kP W A self x (by decide) λh' k a1 x'=>?_;refine oea x'.p λFt p1 p2=>?_;nofun;refine r_app p1 (Zk p2 (by decide)) λcT p=>?_;refine r_done (hK cT ?_);have eK:K0=[rb.ae]:=if_pos (beq_iff_eq.mp w);rw[eK];exact x'.J1 A p (by rw[Zb];exact ZO p2 1)
 . have eK:K0=[]:=if_neg (λz=>Bool.noConfusion ((beq_iff_eq.mpr z).symm.trans w));rw[eK] at hK;refine oea x.p λFt p1 p2=>?_;exact r_done (hK h ⟨x.ext,x.u,⟨Ft,p1,V7 p2⟩,x.sl,x.pl,x.b,x.ex⟩)
 have e3:=x3.ext;nofun;have SS:US im m num aI c (1+([]:List Int).length) (bW [] (K0++[])) [] h3:=by rw[Zu];exact x3
 refine bO W.aW V.int rb.params (λd _ h'=>US im m num aI c (1+d.length) (bW [] (K0++d)) [] h') (e3.at bp) SS (λd ρ h' I=>I.ext.at bp) (λd v rr σ h4 hd hv x4 K hK _=>?_) λσ h4 x4=>?_
 . have e4:=x4.ext;refine oe x4.u λn hu4=>?_;have dl:d.length<=1:=Zf (hd▸(Zb (as:=d) (bs:=v::rr)).symm▸ZD _ _) (N.gi rb hb);have Tr:(bW [] (K0++d)).length<big:=uv (n:=2) (by rw[Zb];exact ZQ K1 dl) rfl;refine oea x4.p λFt p0 p2=>?_;nofun;refine kP W A self x4 Tr λh' k a1 x'=>?_;refine oea x'.p λFt p1 p2=>?_;nofun;refine r_app p1 (Zk (Zf p2 (ZN dl 1)) (by decide)) λcT p=>?_;refine r_done (hK _ cT ?_);rw[<-Zo,<-gQ];exact x'.J1 A p (by rw[Zb,Zb,<-Yq];exact ZO p2 1)
 have e4:=x4.ext;refine oea x4.p λFt p1 p2=>?_;have fin:=q h4 ⟨x4.ext,x4.u,⟨Ft,p1,Zf p2 (ZN (N.gi rb hb) 1)⟩,x4.sl,x4.pl,x4.b,x4.ex⟩;have tk:∀(Q':V->Hp->Prop),Q' (.bool false) h4->Φ "KBlock.takes_any" [.ref rb.ad] h4 Q':=λQ' hq=>by
  refine W.cl rfl rfl ?_;nofun;refine r_and false (λ_ K hK=>?_) ?_
  . nofun;exact r_done hK
  . rw[XX];exact hq
 nofun;refine r_and false (λ_ K hK=>?_) ?_
 . nofun;exact tk _ (r_done hK)
 rw[XX];refine r_no rfl ?_;nofun;exact fin
noncomputable def S1(P:aJ)(R:List Int)(A:List Int)(rb b:ax):List Int:=(if b.aa≠rb.aa then b.params else [])++((b.aN.flatMap Op.aE).filter (λv=> !A.contains v)++(bq P R b.aa).map λc=>cv c.aa)
theorem Bv(N:aM P){A:List Int}{b:ax}(hb:b∈P.ap):(S1 P R A rb b).length<=71:=by
 have h3:(b.aN.flatMap Op.aE).length<=3*2:=gN (λo ho=>jG N hb ho) (N.dv b hb);have h6:=Zf (ZT (λv=> !A.contains v) (b.aN.flatMap Op.aE)) h3;have h5:=eJ (R:=R) (l:=b.aa) N;rw[S1,Zb,Zb,Za];refine ZQ (?_:_<=1) (ZQ h6 h5);split
 . exact N.gi b hb
 . exact ZR 1
theorem DS{p:Int->Bool}{D E l:List Int}{v:Int}(h:p v=true):bW [] (D++(E++(l++[v]).filter p))=ins (bW [] (D++(E++l.filter p))) v:=by
 rw[Yk,XS h,Vi,<-Zo,<-Zo,<-Zo,<-gQ]
theorem HP{p:Int->Bool}{D E l:List Int}{v:Int}(h:p v=false):bW [] (D++(E++(l++[v]).filter p))=bW [] (D++(E++l.filter p)):=by
 rw[Yk,YM (by rw[h];exact Yd),Vi,Zu]
theorem sD(W:Wd Φ γ)(N:aM P)(A:Apart im m)(Y:jO im P y R)(ya:im y.aA=some (.dict ad))(r1:1∈R)(self:im m.ad=some (.inst "UnitMaker" (vT y m rb.aa)))(hb:rb∈P.ap){num c:Int}{aI:String}(x:US im m num aI c 2 (bW [] (B1 rb)) [] h)
 (q:∀h' a jd,US im m num aI c 2 (bW [] (B1 rb++(bN P R rb).flatMap (S1 P R (ad.map (·.1)) rb))) jd h'->(∀b∈bN P R rb,∃i:Int,jd.lookup b.aa=some (.int i))->h' a=some (.list ((bN P R rb).map cj))->h a=none->Q (.ref a) h'):Φ "give_slots" [.ref m.ad] h Q:=by
 refine W.cl rfl rfl ?_;have e:=x.ext;have ys:=Y.self;have Yp:=Y.prog;have ps:=Yp.self;have ml:=oQ (R:=R) (rb:=rb) N;nofun;refine jC W N (Y.ext e) r1 hb λa h2 e2 na fa=>?_;have x2:=x.more e2;refine oe x.u λn0 CR=>?_;refine oea x.p λTi CS _=>?_;refine oea x.sl λRQ IQ _=>?_;have au:a≠m.u:=(aB na CR).symm;have asl:a≠m.sl:=(aB na IQ).symm;have apl:a≠m.pl:=(aB na x.pl).symm;have apA:a≠m.pA:=(aB na CS).symm;have ab:a≠m.bA:=(aB na x.b).symm;have aex:a≠m.ex:=(aB na x.ex).symm;clear CR CS IQ
 -- the base with the members
 let i0:=bf im a (.list ((bN P R rb).map cj))
 have UN:im a=none:=e.none na;have xi:Ext im i0:=λz hz=>fJ λ(k:z=a)=>hz (k▸UN);have Q7:i0 a=some (.list ((bN P R rb).map cj)):=iK;have A0:Apart i0 m:={A with
  nu:=(fJ au.symm).trans A.nu,np:=(fJ apA.symm).trans A.np,nb:=(fJ ab.symm).trans A.nb,ns:=(fJ asl.symm).trans A.ns,nl:=(fJ apl.symm).trans A.nl,nx:=(fJ aex.symm).trans A.nx}
 have ST:Ext i0 h2:=λz hz=>by
  by_cases k:z=a
  . rw[k,fa,Q7]
  . have ez:i0 z=im z:=fJ k;rw[ez] at hz ⊢;exact x2.ext z hz
 have SU:US i0 m num aI c 2 (bW [] (B1 rb)) [] h2:=⟨ST,x2.u,x2.p,x2.sl,x2.pl,x2.b,x2.ex⟩;have Y0:=Y.ext xi;have xe:=xi.at self;have ya0:=xi.at ya;have ys0:=xi.at ys;have Sh:=Y0.prog;have Ti:=Sh.self;have back:∀{ks jd h'},US i0 m num aI c 2 ks jd h'->US im m num aI c 2 ks jd h':=λz=>⟨xi.trans z.ext,z.u,z.p,z.sl,z.pl,z.b,z.ex⟩
 clear_value i0
 have T6:(B1 rb).length<=2:=by
  rw[B1,Zb];exact ZQ (fR _) (N.gi rb hb)
 nofun;rw[Za];refine fq W.aW (Zf ml (by decide)) (λi _ h'=>∃jd,US i0 m num aI c 2 (bW [] (B1 rb++((bN P R rb).take i).flatMap (S1 P R (ad.map (·.1)) rb))) jd h'/\jd.length<=i/\∀b∈(bN P R rb).take i,∃i:Int,jd.lookup b.aa=some (.int i))
  ⟨[],by rw[WO,Yb,Zu];exact SU,Zs _,λb hb=>by rw[WO] at hb;cases hb⟩ (λi σ h3 hi Jd K hK _ _=>oeaa Jd λjd x3 Nx pk=>?_) λσ h3 Nl=>oeaa Nl λjd x3 _ pk=>?_
 . have e3:=x3.ext;have hg:(bN P R rb)[i]?=some (bN P R rb)[i]:=Zv hi;have JF:(bN P R rb)[i]∈bN P R rb:=Yy _;have sq:du ((bN P R rb).map cj) (i:Int)=some (.int (bN P R rb)[i].aa):=by
    unfold du;rw[if_pos (Z9 _),Xa,ZP,hg];rfl
   have hlen:(B1 rb++((bN P R rb).take i).flatMap (S1 P R (ad.map (·.1)) rb)).length<=2+64*71:=by
    rw[Zb];exact ZQ T6 (gN (λb cF=>Bv N (ct hb (Vs cF))) (Zf (VC ..) (Zf (ZH hi) ml)))
   rw[fV hg,Zx,ZE,<-Zo] at hK
   revert hg JF sq hlen x3 hK
   generalize B1 rb++((bN P R rb).take i).flatMap (S1 P R (ad.map (·.1)) rb)=D;generalize (bN P R rb)[i]=b;intro hK x3 hg JF sq hlen;have IX:=ct hb JF;have B:=Sh.aT b IX;have bs:=B.self;have Sc:=B.params;have Sd:=B.aN
   let P1:List Int:=if b.aa≠rb.aa then b.params else []
   let P2:List Int:=(b.aN.flatMap Op.aE).filter (λv=> !(ad.map (·.1)).contains v)
   have sl:P1.length+(P2.length+(bq P R b.aa).length)<=71:=by
    have:=Bv (R:=R) (A:=ad.map (·.1)) (rb:=rb) N IX
    rwa [S1,Zb,Zb,Za] at this
   have lim:∀l:List Int,l.length<=P1.length+(P2.length+(bq P R b.aa).length)->(bW [] (D++l)).length<big:=λl hl=>uv (n:=2+64*71+71) (by rw[Zb];exact ZQ hlen (Zf hl sl)) rfl;nofun;refine r_setId x3.pl (Zk (Zf Nx (Zf (ZH hi) ml)) (by decide)) λh4 p4=>?_;have x4:=x3.Lr A0 p4;have J3:(putD jd b.aa (V.int i)).length<=i+1:=by
    rw[<-Za (f:=λp:Int×V=>p.1),dR];exact Zf Bi (YG ((Za ..).symm▸Nx))
   have J4:∀b'∈(bN P R rb).take i++[b],∃j:Int,(putD jd b.aa (V.int i)).lookup b'.aa=some (.int j):=λb' cF=>by
    rcases Zg.mp cF with cF|cF
    . refine oe (pk b' cF) λj hj=>?_
      by_cases z:b'.aa=b.aa
      . exact⟨i,by rw[eX,if_pos z]⟩
      . exact⟨j,by rw[eX,if_neg z];exact hj⟩
    . exact⟨i,by rw[eX,if_pos (by rw[Zc.mp cF])]⟩
   have fin:∀h' ρ,US i0 m num aI c 2 (bW [] (D++(P1++(P2++(bq P R b.aa).map λc=>cv c.aa)))) (putD jd b.aa (V.int i)) h'->K .next ρ [] h':=λh' ρ x'=>hK ρ h' ⟨_,x',J3,J4⟩
   revert x4 fin
   generalize putD jd b.aa (V.int i)=Aj;intro x4 fin;clear J3 J4 x3 e3 p4 pk Nx hK;have e4:=x4.ext;nofun;refine r_ifl W.aW (US i0 m num aI c 2 (bW [] (D++P1)) Aj) (λw K hK=>?_) (λw K hK=>?_) λσ h5 x5=>?_
   . have eP:P1=b.params:=if_pos (bne_iff_ne.mp w);rw[eP] at hK;nofun;refine bO W.aW V.int b.params (λd _ h'=>US i0 m num aI c 2 (bW [] (D++d)) Aj h') (e4.at Sc) (by rw[Zu];exact x4) (λd ρ h' I=>I.ext.at Sc) (λd v rr σ h5 hd hv x5 K' Aa _=>?_) λσ h5 x5=>?_
     . have e5:=x5.ext;nofun;refine kP W A0 xe x5 (lim d (by rw[eP,<-hd,Zb,Yq];exact ZD _ _)) λh' k a1 x'=>?_;nofun;refine r_done (Aa _ _ ?_);rw[<-Zo,<-gQ];exact x'
     . exact r_done (hK _ _ x5)
   . have eP:P1=[]:=if_neg (λz=>Bool.noConfusion ((bne_iff_ne.mpr z).symm.trans w));rw[eP,Zu] at hK;exact r_done (hK _ _ x4)
   have e5:=x5.ext;nofun;refine bO W.aW (λo:Op=>.ref o.ad) b.aN (λd _ h'=>US i0 m num aI c 2 (bW [] (D++(P1++(d.flatMap Op.aE).filter (λv=> !(ad.map (·.1)).contains v)))) Aj h') (e5.at Sd) (by rw[Yb,Vi,Zu];exact x5) (λd ρ h' I=>I.ext.at Sd) (λd o rr σ h6 hd ho x6 K' Aa _=>?_) λσ h6 x6=>?_
   . have e6:=x6.ext;have OO:=B.op o ho;have os:=OO.self;nofun;refine iZ W (OO.ext e6) λg h7 e7 n7 f7=>?_;refine oe x6.u λn0 CR=>?_;refine oea x6.sl λRQ IQ _=>?_;have gu:g≠m.u:=(aB n7 CR).symm;have gs:g≠m.sl:=(aB n7 IQ).symm;have x7:=x6.more e7;nofun;refine bO W.aW V.int o.aE (λd2 _ h'=>h' g=some (.list (o.aE.map .int))/\US i0 m num aI c 2 (bW [] (D++(P1++(d.flatMap Op.aE++d2).filter (λv=> !(ad.map (·.1)).contains v)))) Aj h') f7 ⟨f7,by rw[Zu];exact x7⟩ (λd ρ h' I=>I.1) (λd2 v Ji σ h8 vH hv Ge K2 rf _=>oa Ge λf8 x8=>?_) λσ h8 Gc=>oa Gc λ_ x8=>?_
     . have e8:=x8.ext;nofun;refine r_ite (λw=>?_) λw=>?_
       . nofun;refine kP W A0 xe x8 (lim _ ?_) λh' k a1 x'=>?_
         . rw[Zb];refine ZN (Zf ?_ (ZD _ _)) _;have h1:d.flatMap Op.aE++d2<+:b.aN.flatMap Op.aE:=by
            rw[<-hd,Zx,ZJ,<-vH];exact⟨v::Ji++rr.flatMap Op.aE,by rw[Zo,Zo]⟩
           exact(h1.filter _).length_le
         nofun;refine r_done (rf _ _ ⟨a1 _ _ f8 gu gs,?_⟩);rw[<-Zo (d.flatMap Op.aE),DS w];exact x'
       . refine r_done_sq (r_done (rf _ _ ⟨f8,?_⟩));rw[<-Zo (d.flatMap Op.aE),HP w];exact x8
     . refine r_done (Aa _ _ ?_);rw[Zx,ZE];exact x8
   have e6:=x6.ext;nofun;refine jD W N (Y0.ext e6) λg h7 e7 n7 f7=>?_;refine oe x6.u λn0 CR=>?_;refine oea x6.sl λRQ IQ _=>?_;have gu:g≠m.u:=(aB n7 CR).symm;have gs:g≠m.sl:=(aB n7 IQ).symm;have x7:=x6.more e7;nofun;refine bO W.aW cj (bq P R b.aa) (λd _ h'=>h' g=some (.list ((bq P R b.aa).map cj))/\US i0 m num aI c 2 (bW [] (D++(P1++(P2++d.map λc=>cv c.aa)))) Aj h') f7 ⟨f7,by rw[Vd,Zu];exact x7⟩ (λd ρ h' I=>I.1) (λd v rr σ h8 hd hv Gb K' Aa _=>oa Gb λf8 x8=>?_) λσ h8 Ga=>oa Ga λ_ x8=>?_
   . have e8:=x8.ext;nofun;refine kP W A0 xe x8 (lim _ ?_) λh' k a1 x'=>?_
     . rw[Zb,Zb,Za];exact ZN (ZN (hd▸(Zb (as:=d) (bs:=v::rr)).symm▸ZD _ _) _) _
     nofun;refine r_done (Aa _ _ ⟨a1 _ _ f8 gu gs,?_⟩);rw[Zq,<-Zo P2,<-Zo P1,<-Zo D,YH,<-gQ];exact x'
   . exact r_done (fin _ _ x8)
 . rw[Xz] at x3 pk;have e3:=x3.ext;nofun;exact q h3 a jd (back x3) pk (e3.at Q7) na
end
end
section
section
variable {Φ:Calls}{γ:String->Option V}{im h:Hp}{Q:V->Hp->Prop}{P:aJ}{R:List Int}
variable {y:Lay}{ad:List (Int×V)}{ds:List Row}{F:Int->List Int}{m:tt}{rb:ax}{br ks:List Int}{av:List Nat}
theorem BU(N:aM P)(LR:dN P R)(AD:t0 P ad)(FO:gZ P R (ad.map (·.1)) F)(lF:rb∈af P R):
 Ready P R F ad (bW [] (B1 rb++(bN P R rb).flatMap (S1 P R (ad.map (·.1)) rb))) (bE (F rb.aa)) rb:=by
 have r1:=LR.ch.one N;refine oa (ay.mp lF) λhr hR=>?_;have MI:∀v,v∈bW [] (B1 rb++(bN P R rb).flatMap (S1 P R (ad.map (·.1)) rb))↔v∈B1 rb\/∃b∈bN P R rb,v∈S1 P R (ad.map (·.1)) rb b:=λv=>by
  rw[eU,Zg,Zm];simp
 have IM:∀b v,v∈S1 P R (ad.map (·.1)) rb b↔(b.aa≠rb.aa/\v∈b.params)\/((∃o∈b.aN,v∈o.aE)/\v∉ad.map (·.1))\/∃c∈bq P R b.aa,cv c.aa=v:=λb v=>by
  unfold S1;rw[Zg,Zg,ZG,Zm,Zn]
  by_cases z:b.aa≠rb.aa
  . rw[if_pos z];simp[z]
  . rw[if_neg z];simp[z]
 have Ln:∀b∈bN P R rb,b.aI="fun"->b=rb:=λb hb s=>by
  refine oa ((gM N r1 hr hR).mp hb) λh1 h2=>?_;rw[jf (N.pos b h1) (LR.ch.fun h1 s)] at h2;exact N.uniq h1 hr h2
 have QB:rb∈bN P R rb:=Ze
 -- OU is aE has a slot
 have a1:∀v,v∈bu P R rb->v∉ad.map (·.1)->v∈bW [] (B1 rb++(bN P R rb).flatMap (S1 P R (ad.map (·.1)) rb)):=λv hv ha=>by
  refine oea (Zm.mp hv) λb hb hv=>?_;have IX:=ct hr hb;rw[MI];rcases Zg.mp hv with v1|v1
  . rcases Zg.mp v1 with v2|v2
    . rcases Zg.mp v2 with v3|v3
      . by_cases z:b.aa=rb.aa
        . have:=N.uniq IX hr z;subst this;exact .inl (Zi _ v3)
        . exact .inr ⟨b,hb,(IM b v).mpr (.inl ⟨z,v3⟩)⟩
      . split at v3
        . simp at v3;subst v3;rcases N.aI b IX with s|s
          . have:=Ln b hb s;subst this;exact .inl (Zd _ (by rw[if_pos s];simp))
          . have:=N.cvar b IX s;(rename_i SI _;exact False.elim ((aj 0x101b0100019012201) b.ae this SI))
        . simp at v3
    . exact .inr ⟨b,hb,(IM b v).mpr (.inr (.inl ⟨Zm.mp v2,ha⟩))⟩
  . exact .inr ⟨b,hb,(IM b v).mpr (.inr (.inr (Zn.mp v1)))⟩
 have a2:∀v,v∈bW [] (B1 rb++(bN P R rb).flatMap (S1 P R (ad.map (·.1)) rb))->v∈bu P R rb\/v= -1:=λv hv=>by
  rcases (MI v).mp hv with h|⟨b,hb,h⟩
  . rcases Zg.mp h with h|h
    . split at h
      . simp at h;subst h;rcases (N.Dn rb hr).2.2 with z|z
        . exact .inr z
        . exact .inl (Zm.mpr ⟨rb,QB,Zd _ (Zd _ (Zi _ (by rw[if_pos z];simp)))⟩)
      . simp at h
    . exact .inl (Zm.mpr ⟨rb,QB,Zd _ (Zd _ (Zd _ h))⟩)
  . rcases (IM b v).mp h with ⟨_,h⟩|⟨h,_⟩|h
    . exact .inl (Zm.mpr ⟨b,hb,Zd _ (Zd _ (Zd _ h))⟩)
    . exact .inl (Zm.mpr ⟨b,hb,Zd _ (Zi _ (Zm.mpr h))⟩)
    . exact .inl (Zm.mpr ⟨b,hb,Zi _ (Zn.mpr h)⟩)
 have rd:∀{b:ax} {v:Int},bI P R b v->b∈af P R->v≠ -1:=λ{b v} n=>by
  induction n with
  |here a _=>intro hb;exact ue N (ay.mp hb).1 a
  |there _ b' _ _ ih=>intro _;exact ih b'
 have apart:∀v,v∈bE (F rb.aa)->v∉ad.map (·.1)/\v∉bW [] (B1 rb++(bN P R rb).flatMap (S1 P R (ad.map (·.1)) rb)):=λv hv=>by
  refine oa ((FO.good rb lF).2 v (cW.mp hv)) λn na=>?_;refine⟨na,λh=>?_⟩;rcases a2 v h with z|z
  . exact(pj n).1 z
  . exact rd n lF z
 have named:∀v,(v∈bG P R rb\/∃o∈inner P R rb,v∈F o)->Named ad (bW [] (B1 rb++(bN P R rb).flatMap (S1 P R (ad.map (·.1)) rb))) (bE (F rb.aa)) v:=λv hv=>by
  refine⟨?_,apart v⟩
  by_cases z:v∈ad.map (·.1)
  . exact .inl z
  . by_cases g:v∈bu P R rb
    . exact .inr (.inl (a1 v g z))
    . exact .inr (.inr (cW.mpr (FO.closed rb lF v hv g z)))
 refine⟨λb hb v hv=>named v (.inl (Zm.mpr ⟨b,hb,hv⟩)),λb hb l hl v hv=>named v (.inr ⟨l,Zm.mpr ⟨b,hb,hl⟩,hv⟩),λb hb o ho w v hv=>?_,λb hb c hc=>(MI _).mpr (.inr ⟨b,hb,(IM b _).mpr (.inr (.inr ⟨c,hc,rfl⟩))⟩),λb hb ne v hv=>(MI _).mpr (.inr ⟨b,hb,(IM b _).mpr (.inl ⟨ne,hv⟩)⟩)⟩;have hg:v∈o.aE:=by unfold Op.aE;rw[if_pos w];exact hv
 refine a1 v (Zm.mpr ⟨b,hb,Zd _ (Zi _ (Zm.mpr ⟨o,ho,hg⟩))⟩) λz=>?_;refine oeaa ((pq N).mp ((AD.2 v).mp z)) λo' je CQ s=>?_;have:=N.Ki (jp.mpr ⟨b,ct hr hb,ho⟩) je hg CQ;subst this;unfold aL at s;simp[w] at s
structure Ut where
 (m:tt) (rb:ax) (num n:Int) (aI:String) (bs:List CB)
structure oo(P:aJ)(R:List Int)(F:Int->List Int)(h:Hp)(u:Ut):Prop where
 self:h u.m.u=some (.inst "CUnit" (oq u.num u.aI u.m ((F u.rb.aa).length:Int) u.n))
 blocks:h u.m.bA=some (.list (u.bs.map on))
 cb:∀b∈u.bs,EJ P R F (bE (F u.rb.aa)) h b
 cover:∀v∈F u.rb.aa,kJ u.bs v
 cH:u.bs.length<=192
theorem oo.ext{h':Hp}{u:Ut}(x:oo P R F h u)(e:Ext h h'):oo P R F h' u:=⟨e.at x.self,e.at x.blocks,λb hb=>(x.cb b hb).ext e,x.cover,x.cH⟩
theorem EX{a b:Nat}{o o':O}(x:h a=some o)(y:h b=some o'):jN [a,b] h:=λz m=>by
 rcases Zp.mp m with rfl|m
 . exact aG x
 . rw[Zc.mp m];exact aG y
theorem Pq{a b x:Nat}(n:x≠a)(m:x≠b):x∉[a,b]:=λz=>(Zp.mp z).elim n λz=>m (Zc.mp z)
theorem Cd{b:Nat}{i2 h8 h9:Hp}{o:O}(hi:Ext h i2)(ne:b∈[m.ex,m.bA])(p:Put h8 b o h9):Ext (news i2 (aZ [m.ex,m.bA] h8)) (news h h9):=.mk λ{x o'} z=>by
 refine oa (cV z) λb1 b2=>?_;have nm:x∉[m.ex,m.bA]:=λk=>aG b2 (cC k);exact aC (hi.none b1) (p.to (λk=>nm (k▸ne)) ((aX nm).symm.trans b2))
theorem v_{l S:List Nat}(n:l.Nodup)(i:Nat)(js:List Nat){x:Nat}(hi:l[i]?=some x)(hs:S.map some=js.map (l[·]?))(ne:js.contains i=false):x∉S:=λm=>by
 refine oea (Zn.mp (hs▸Zn.mpr ⟨x,m,rfl⟩:some x∈js.map (l[·]?))) λj hj e=>?_;have:=(WT (ZM.mp hi).1 n).mp (hi.trans e.symm);subst this;exact Bool.noConfusion (ne.symm.trans (ZZ.mpr hj))
theorem uU(W:Wd Φ γ)(N:aM P)(LA:gB P h y R ad ds F)(hn:h y.nA=some (.dict (nF P R)))(cH:∀c∈af P R,(F c.aa).length<64)(lF:rb∈af P R)
 (q:∀h' u,Ext h h'->u.rb=rb->oo P R F (news h h') u->Q (.ref u.m.u) h'):Φ "made_unit" [.ref y.ad,.int rb.aa] h Q:=by
 refine W.cl rfl rfl ?_;have LR:=LA.least;have r1:=LR.ch.one N;refine oa (ay.mp lF) λhr hR=>?_;have ys:=LA.lay.self;have Yp:=LA.lay.prog;have ps:=Yp.self;have bs:=(Yp.aT rb hr).self;have g1:=W.AN;have g2:=W.HU;have g3:=W.wj;refine oea (kW (R:=R) N lF) λni hni ln=>?_;have RD:=BU N LR LA.atoms LA.free lF;have ml:=oQ (R:=R) (rb:=rb) N;nofun;refine r_join (λh' v=>h=h'/\∃s,v=sv s) (λ_ K hK=>?_) (λ_ K hK=>?_) λh' v ⟨e,s,ev⟩=>?_
 . nofun;exact r_done (hK _ _ ⟨rfl,_,rfl⟩)
 . nofun;exact r_done (hK _ _ ⟨rfl,_,rfl⟩)
 subst e ev;refine r_newCU W Fr.nil λu pA bA h2 e2 I3 nu np nb f2 p2 b2=>?_;have up:u≠pA:=fI I3.nd 2 1 rfl rfl (by decide);have ub:u≠bA:=fI I3.nd 2 0 rfl rfl (by decide);have bs2:=e2.at bs;nofun;intro h3 p3;have e3:=p3.im e2 nu;have LA3:=LA.ext e3;nofun;refine r_newUM W N LA3 lF (cH rb lF) (LA.free.good rb lF).1 (I3.put p3) (pA:=pA) (bA:=bA) λa sl pl ca ta sp ex h4 e4 fr n1 n2 n3 n4 k1 k2 k3 k4 k5 k6=>?_;obtain ⟨m,rfl,rfl,rfl,rfl,rfl,rfl,rfl,rfl,rfl⟩:∃m:tt,m.ad=a/\m.u=u/\m.pA=pA/\m.bA=bA/\m.sl=sl/\m.pl=pl/\m.cA=ca/\m.sp=sp/\m.ex=ex:=⟨⟨a,u,pA,bA,sl,pl,ca,sp,ex⟩,rfl,rfl,rfl,rfl,rfl,rfl,rfl,rfl,rfl⟩;have CX:=e3.trans e4;have f4:=e4.at p3.at;have p4:=e4.at (p3.to up.symm p2);have b4:=e4.at (p3.to ub.symm b2)
 -- the base
 have sub:∀x∈[m.u,m.pA,m.bA,m.sl,m.pl,m.ex],h x=none:=YL.mpr ⟨nu,YL.mpr ⟨np,YL.mpr ⟨nb,YL.mpr ⟨e3.none n2,YL.mpr ⟨e3.none n3,YL.mpr ⟨e3.none n4,λ_ z=>nomatch z⟩⟩⟩⟩⟩⟩
 let im:=aZ [m.u,m.pA,m.bA,m.sl,m.pl,m.ex] h4
 have UO:Ext im h4:=bm;have N3:Ext h im:=λx hx=>(aX λz=>hx (sub x z)).trans (CX x hx);have AP:Apart im m:=⟨cC (Z3 (i:=0) rfl),cC (Z3 (i:=1) rfl),cC (Z3 (i:=2) rfl),cC (Z3 (i:=3) rfl),cC (Z3 (i:=4) rfl),cC (Z3 (i:=5) rfl),
  up,ub,fI fr.nd 9 5 rfl rfl (by decide),fI fr.nd 9 4 rfl rfl (by decide),fI fr.nd 9 0 rfl rfl (by decide),
  fI fr.nd 8 7 rfl rfl (by decide),fI fr.nd 8 5 rfl rfl (by decide),fI fr.nd 8 4 rfl rfl (by decide),fI fr.nd 8 0 rfl rfl (by decide),
  fI fr.nd 7 5 rfl rfl (by decide),fI fr.nd 7 4 rfl rfl (by decide),fI fr.nd 7 0 rfl rfl (by decide),fI fr.nd 5 4 rfl rfl (by decide),fI fr.nd 5 0 rfl rfl (by decide),fI fr.nd 4 0 rfl rfl (by decide)⟩
 have AG:im m.ad=some (.inst "UnitMaker" (vT y m rb.aa)):=(aX (v_ fr.nd 6 [9,8,7,5,4,0] rfl rfl rfl)).trans k1;have Kd:=(aX (v_ (S:=[m.u,m.pA,m.bA,m.sl,m.pl,m.ex]) fr.nd 3 [9,8,7,5,4,0] rfl rfl rfl)).trans k2;have Q1:=(aX (v_ (S:=[m.u,m.pA,m.bA,m.sl,m.pl,m.ex]) fr.nd 1 [9,8,7,5,4,0] rfl rfl rfl)).trans k3
 change im _=_ at Kd Q1
 clear_value im
 have Nb:=LA.ext N3;have PS:=N3.at hn;clear fr I3 sub;nofun;rw[Za,jF];intro h5 p5;have x5:US im m ni s ((F rb.aa).length:Int) 0 [] [] h5:=⟨p5.im UO AP.nu,⟨0,p5.at⟩,⟨[],p5.to AP.up.symm p4,Zs _⟩,⟨[],p5.to AP.us.symm k4,rfl,λ_ z=>nomatch z⟩,p5.to AP.ul.symm k5,p5.to AP.ub.symm b4,p5.to AP.ux.symm k6⟩;nofun;refine sG W N AP Nb.lay AG hr x5 λh6 x6=>?_;nofun;refine sD W N AP Nb.lay Nb.aD r1 AG hr x6 λh7 a jd x7 PN ha na=>?_;have T0:a≠m.bA:=(aB na x6.b).symm;have TX:a≠m.ex:=(aB na x6.ex).symm
 revert RD x7
 generalize bW [] (B1 rb++(bN P R rb).flatMap (S1 P R (ad.map (·.1)) rb))=ks;intro RD x7
 -- the base for the blocks
 let i2:=aZ [m.ex,m.bA] h7
 have i27:Ext i2 h7:=bm;have Jn:∀{x o},x≠m.ex->x≠m.bA->h7 x=some o->i2 x=some o:=λa1 a2 ho=>(aX (Pq a1 a2)).trans ho;have yB:Ext im i2:=.mk λz=>Jn (aB AP.nx z) (aB AP.nb z) (x7.ext.at z);refine oe x7.u λun U5=>?_;have M2:yu i2 P y R ad ds F m rb (bE (F rb.aa)):=⟨Nb.ext yB,yB.at PS,yB.at AG,yB.at Kd,yB.at Q1,lF,rfl,cH⟩;refine oeaa x7.sl λes s1 s2 s3=>?_;have S2:dw i2 m.sl ks:=⟨es,Jn AP.sx AP.bs.symm s1,s2,s3⟩;have P2:nY P R rb i2 m.pl:=⟨jd,Jn AP.lx AP.bl.symm x7.pl,PN⟩;have i2a:=Jn TX T0 ha;have UQ:=Jn AP.ux AP.ub U5;have X0:iu P R F (bE (F rb.aa)) i2 m.ex [m.bA] h7 []:=⟨.refl,EX x7.ex x7.b,x7.ex,λ_ z=>nomatch z⟩;have Y0:iu P R F (bE (F rb.aa)) i2 m.bA [m.ex] h7 []:=⟨bv (λx hx=>.inl (by
  rcases Zp.mp hx with rfl|hx
  . exact Zh _ Ze
  . rw[Zc.mp hx];exact Ze)) .refl,EX x7.b x7.ex,x7.b,λ_ z=>nomatch z⟩
 have MV:Ext h i2:=N3.trans yB;have bx:=AP.bx
 clear_value i2
 nofun;rw[Za];refine fq W.aW (Zf ml (by decide)) (λi _ h'=>∃xs bs,iu P R F (bE (F rb.aa)) i2 m.ex [m.bA] h' xs/\iu P R F (bE (F rb.aa)) i2 m.bA [m.ex] h' bs/\xs.length<=2*i/\bs.length<=i/\
  ∀b∈(bN P R rb).take i,(∀v∈b0 R b,kJ (bs++xs) v)/\∀l∈cu P R b,∀v∈F l,kJ (bs++xs) v)
  ⟨[],[],X0,Y0,Zs _,Zs _,λb hb=>by rw[WO] at hb;cases hb⟩ (λi σ h8 hi lH K hK _ _=>oeeaaaa lH λxs bs X Y xl bl vL=>?_) λσ h8 rc=>oeeaaaa rc λxs bs X Y xl bl vL=>?_
 . have e8:=X.old;have hg:(bN P R rb)[i]?=some (bN P R rb)[i]:=Zv hi;have JF:(bN P R rb)[i]∈bN P R rb:=Yy _;have sq:du ((bN P R rb).map cj) (i:Int)=some (.int (bN P R rb)[i].aa):=by
    unfold du;rw[if_pos (Z9 _),Xa,ZP,hg];rfl
   have Q5:i<=64:=Zf (ZH hi) ml;have Sg:=Y.at_;nofun;refine sh W N M2 S2 P2 RD X JF (Zk xl (Zk (Xi 2 Q5) (by decide))) λh9 c pY e9 o9 X9 cbr sb lx cr ci=>?_;have Y9:=Y.frame (e:=m.ex) Ze bx.symm e9 o9;have Qk:=Y9.at_;nofun;refine r_app Qk ?_ λiq p=>?_
   . rw[Za];exact Zk (Zf bl Q5) (by decide)
   have yq:=Y9.push Y.live Y.old cbr p;have xc:=X9.Lu (a:=m.bA) Ze bx p;refine r_done (hK _ _ ⟨pY,bs++[c],xc,yq,Zf lx (ZO xl 2),by rw[Zb];exact ZO bl 1,λb hb=>?_⟩);have EV:∀v,kJ (bs++xs) v->kJ ((bs++[c])++pY) v:=λv hv=>hv.more λb hb=>by
    rcases Zg.mp hb with hb|hb
    . exact Zd _ (Zd _ hb)
    . exact Zi _ (sb b hb)
   have EU:∀v,(JR c.aR v\/kJ pY v)->kJ ((bs++[c])++pY) v:=λv hv=>by
    rcases hv with hv|hv
    . exact⟨c,Zd _ (Zi _ Ze),hv⟩
    . exact hv.more λb hb=>Zi _ hb
   rw[fV hg] at hb;rcases Zg.mp hb with hb|hb
   . exact⟨λv hv=>EV v ((vL b hb).1 v hv),λl hl v hv=>EV v ((vL b hb).2 l hl v hv)⟩
   . rw[Zc.mp hb];exact⟨λv hv=>EU v (cr v hv),λl hl v hv=>EU v (ci l hl v hv)⟩
 rw[Xz] at vL;have e8:=X.old;have Sg:=Y.at_;have SR:=X.at_;have SA:=M2.self;have Qq:=Zf xl (Xi 2 ml);have Sf:=Zf bl ml;nofun;refine r_extend Sg SR bx ?_ λh9 p=>?_
 . rw[Za,Za];exact Zf (ZQ Sf Qq) (by decide)
 have e9:Ext i2 h9:=p.im e8 Y.none;have PH:=e9.at UQ;nofun;have n2:=Cd (m:=m) MV (Zh _ Ze) p;have sw:aZ [m.bA,m.ex] h8=aZ [m.ex,m.bA] h8:=funext λx=>by
  by_cases z:x∈[m.ex,m.bA]
  . rw[cC z,cC ((List.Perm.swap m.ex m.bA []).mem_iff.mpr z)]
  . rw[aX z,aX λk=>z ((List.Perm.swap m.ex m.bA []).mem_iff.mp k)]
 refine q h9 ⟨m,rb,ni,un,s,bs++xs⟩ (MV.trans e9) rfl ⟨aC nu PH,aC nb (p.at.trans (by rw[Zq])),λb hb=>?_,λv hv=>?_,by rw[Zb];exact ZQ Sf Qq⟩
 . rcases Zg.mp hb with hb|hb
   . exact(sw▸Y.ok b hb).ext n2
   . exact(X.ok b hb).ext n2
 . refine oa ((LA.free.good rb lF).2 v hv) λn na=>?_;rcases (pj n).2 with h|⟨c,hc,N6,nc⟩
   . refine oea (Zm.mp h) λb hb hv=>?_;exact(vL b hb).1 v hv
   . refine oea (Zm.mp N6) λb hb hl=>?_;exact(vL b hb).2 c.aa hl v ((LA.free.iff hc).mpr ⟨nc,na⟩)
end
end
section
section
variable {Φ:Calls}{γ:String->Option V}{im h:Hp}{Q:V->Hp->Prop}{P:aJ}{R:List Int}
variable {y:Lay}{ad:List (Int×V)}{ds:List Row}{F:Int->List Int}{m:tt}{rb:ax}{br ks:List Int}
theorem r_sortedBy{k:C}{ρ:Lo}{st:List V}{Q:Po}{a:Nat}{es:List (Int×V)}{ns:List Int}(e:h a=some (.dict es))(hn:es.map (·.2)=ns.map V.int)(hp:List.Pairwise (· < ·) ns)(hl:ns.length<64)(q:∀c h',Alloc h c (.list (es.map λp=>.int p.1)) h'->wp Φ γ k ρ (.ref c::st) h' Q):wp Φ γ (.b .sortedBy k) ρ (.ref a:: .ref a::st) h Q:=⟨_,⟨a,es,ns,rfl,rfl,e,hn,hp,hl,rfl⟩,r_al q⟩
noncomputable def nZ(P:aJ):Prop:=∀R,dN P R->∀b∈af P R,∀l:List Int,l.Nodup->(∀x∈l,bI P R b x/\x∉simple P)->l.length<64
theorem gB.cH(FF:nZ P)(LA:gB P h y R ad ds F):∀c∈af P R,(F c.aa).length<64:=λc hc=>
 FF R LA.least c hc (F c.aa) (LA.free.good c hc).1 λx hx=>⟨((LA.free.good c hc).2 x hx).1,λz=>((LA.free.good c hc).2 x hx).2 ((LA.atoms.2 x).mpr z)⟩
noncomputable abbrev jg(u:Ut):V:=.ref u.m.u
theorem Cb(W:Wd Φ γ)(N:aM P)(FF:nZ P)(Y:PR h P)(B:ke γ h)
 (q:∀h' c l R ad F (us:List Ut),Ext h h'->h c=none->dN P R->t0 P ad->gZ P R (ad.map (·.1)) F->us.map Ut.rb=af P R->h' c=some (.inst "CProgram" [("units",.ref l),("start",.int 0)])->h' l=some (.list (us.map jg))->(∀u∈us,oo P R F h' u)->Q (.ref c) h'):Φ "closed" [.ref P.ad] h Q:=by
 refine W.cl rfl rfl ?_;nofun;refine pe W N Y B λy h1 R ad ds F e1 LA hn n1=>?_;have cH:=LA.cH FF;have rl:=dK (R:=R) N;have ys:=LA.lay.self;nofun;refine r_new rfl λc h2 A2=>W.cl rfl rfl ?_;have n2:=A2.new;nofun;intro l h3 A3;have lc:l≠c:=(A3.ne A2.at).symm;have nl:=A2.ext.none A3.new;have c3:=A3.ext.at A2.at;nofun;intro h4 p4;nofun;intro h5 p5;refine r_done ⟨rfl,?_⟩;have e5:Ext h1 h5:=p5.im (p4.im (A3.im A2.ext) n2) n2;have l5:=p5.to lc (p4.to lc A3.at);nofun;have Z_:(nF P R).map (·.2)=((List.range (af P R).length).map λi:Nat=>(i:Int)).map V.int:=by
  unfold nF;rw[Zt,Zt];have:((λp:Int×V=>p.2)∘λp:ax×Nat=>(p.1.aa,V.int p.2))=(λi:Nat=>V.int i)∘Prod.snd:=rfl;rw[this,<-Zt,List.zipIdx_map_snd,List.range_eq_range']
  rfl
 have hnk:(nF P R).map (λp=>V.int p.1)=(af P R).map cj:=by
  unfold nF;rw[Zt];have:((λp:Int×V=>V.int p.1)∘λp:ax×Nat=>(p.1.aa,V.int p.2))=cj∘Prod.fst:=rfl;rw[this,<-Zt,WH]
 refine r_sortedBy (e5.at hn) Z_ ?_ (by rw[Za,Z2];exact rl) λa h6 A6=>?_
 . rw[YN];exact Ve.imp λh=>YS.mpr h
 rw[hnk] at A6;have c6:=A6.ext.at p5.at;have l6:=A6.ext.at l5;have e6:=A6.im e5
 -- the base,without the list of the units
 let j:=aH l h6
 have j6:Ext j h6:=aV;have jl:j l=none:=ao;have jh:Ext h1 j:=bj e6 nl;have al:a≠l:=(A6.ne l5).symm;have cl:c≠l:=Yo lc;have ja:j a=some (.list ((af P R).map cj)):=aF al A6.at;have jc:j c=some (.inst "CProgram" [("units",.ref l),("start",.int 0)]):=aF cl c6
 clear_value j
 refine bO W.aW cj (af P R) (λd _ h'=>∃us j',Ext j j'/\Ext j' h'/\j' l=none/\us.map Ut.rb=d/\h' l=some (.list (us.map jg))/\∀u∈us,oo P R F j' u)
  A6.at ⟨[],j,.refl,j6,jl,rfl,l6,λ_ z=>nomatch z⟩ (λd ρ h' lI=>oeeaa lI λus j' a1 a2 _=>a2.at (a1.at ja)) (λd b rr σ h7 hd hb lH K hK _=>oeeaaaaa lH λus j' a1 a2 a3 eq l7 ok=>?_) λσ h7 rc=>oeeaaaaa rc λus j' a1 a2 a3 eq l7 ok=>?_
 . have e7:=jh.trans (a1.trans a2);have c7:=(a1.trans a2).at jc;have ul:us.length<64:=by
    have:us.length=d.length:=by rw[<-eq,Za]
    rw[this];exact Zk (hd▸(Zb (as:=d) (bs:=b::rr)).symm▸ZD _ _) rl
   nofun;refine uU W N (LA.ext e7) (e7.at hn) cH hb λh8 u e8 eu U=>?_;have l8:=e8.at l7;nofun;refine r_app l8 (by rw[Za];exact ZK ul (by decide)) λh9 p=>?_;have e1:Ext j' (aH l h8):=bj (a2.trans e8) a3;have en:Ext (news h7 h8) (aH l h8):=.mk λ{x o} z=>by
    refine oa (cV z) λb1 b2=>?_;exact aF (λk=>aG l7 (k▸b1)) b2
   refine r_done (hK _ _ ⟨us++[u],aH l h8,a1.trans e1,oO p,ao,by rw[Zq,eq,YH,eu],by rw[p.at,Zq];rfl,λu' Ey=>?_⟩);rcases Zg.mp Ey with Ey|Ey
   . exact(ok u' Ey).ext e1
   . rw[Zc.mp Ey];exact U.ext en
 . nofun;exact q h7 c l R ad F us (e1.trans (jh.trans (a1.trans a2))) (e1.none n2) LA.least LA.atoms LA.free eq ((a1.trans a2).at jc) l7 λu hu=>(ok u hu).ext a2
end
end
section
section
variable {Φ:Calls}{γ:String->Option V}{k b:C}{ρ:Lo}{st:List V}{h:Hp}{Q:Po}{a:Nat}{α:Type}
theorem r_inT{s:PySem.Str}{l:List PySem.Str}(e:h a=some (.tup (l.map .str)))(q:wp Φ γ k ρ (.bool (l.contains s)::st) h Q):wp Φ γ (.b (.cmp .isin) k) ρ (.ref a:: .str s::st) h Q:=⟨_,⟨_,rfl,.inr ⟨s,a,l,rfl,rfl,e,rfl⟩⟩,q⟩
theorem zt(M:dU Φ){t:List String}(f:α->V)(xs:List α)(bB:List α->Lo->Hp->Prop)(ha:h a=some (.list (xs.map f)))(g:Nat.ble 2 t.length=true)(i0:bB [] ρ h)(tf:∀d ρ' h',bB d ρ' h'->h' a=some (.list (xs.map f)))
 (step:∀d x r σ h',d++x::r=xs->x∈xs->bB d (mix (t++aY b) σ ρ) h'->∀K:Po,(∀ρ h,bB (d++[x]) ρ h->K .next ρ [] h)->(∀v ρ h,Q (.ret v) ρ st h->K (.ret v) ρ [] h)->∃b' vs,f x= .ref b'/\h' b'=some (.tup vs)/\t.length=vs.length/\wp Φ γ b (binds (mix (t++aY b) σ ρ) t vs) [] h' K)
 (fin:∀σ h',bB xs (mix (t++aY b) σ ρ) h'->wp Φ γ k (mix (t++aY b) σ ρ) st h' Q):wp Φ γ (.for t .seq b k) ρ (.ref a::st) h Q:=
 ⟨.list a (xs.map f),st,⟨a,rfl,.inl ⟨_,ha,rfl⟩⟩,iR M xs (λx=>[f x]) (Zt ..) bB i0 tf (λd x r σ h' e m I K hK hr _=>by
  refine oeeaaa (step d x r σ h' e m I K hK hr) λb' vs e1 e2 e3 w=>?_;exact⟨_,.inr ⟨b',vs,by rw[e1],ZB g,e3,.inl e2,rfl⟩,w⟩) fin⟩
end
section
variable {Φ:Calls}{γ:String->Option V}{im h h' cT:Hp}{Q:V->Hp->Prop}{P:aJ}{R:List Int}{F:Int->List Int}{br:List Int}{ra ma:Nat}{zs:List Z}{ms:List (Nat×Line)}
theorem pU{w:String}(c:([PySem.Str.ofString "close",PySem.Str.ofString "closefix"]:List PySem.Str).contains (PySem.Str.ofString w)=true):w="close"\/w="closefix":=by
 have m:=ZZ.mp c;rcases Zp.mp m with e|m
 . exact .inl (rT e)
 . exact .inr (rT (Zc.mp m))
structure Mi(P:aJ)(R:List Int)(F:Int->List Int)(br:List Int)(h:Hp)(ra ma:Nat)(zs:List Z)(ms:List (Nat×Line)):Prop where
 r:h ra=some (.list (zs.map qf))
 ok:∀z∈zs,w_ h br z
 m:h ma=some (.list (ms.map λp=>.ref p.1))
 made:∀p∈ms,h p.1=some (.list [p.2.num,.int p.2.zs.length])/\kh P R F p.2
structure Hd(P:aJ)(R:List Int)(F:Int->List Int)(h:Hp)(ma:Nat)(h':Hp)(ra:Nat)(zs:List Z)(ms:List (Nat×Line)):Prop where
 ext:Ext h (aH ma h')
 r:aH ma h' ra=some (.list (zs.map qf))
 m:h' ma=some (.list (ms.map λp=>.ref p.1))
 made:∀p∈ms,aH ma h' p.1=some (.list [p.2.num,.int p.2.zs.length])/\kh P R F p.2
theorem Hd.ext'(x:Hd P R F h ma h' ra zs ms):Ext h h':=x.ext.trans aV
theorem Hd.more(x:Hd P R F h ma h' ra zs ms)(e:Ext h' cT):Hd P R F h ma cT ra zs ms:=
 have E:=fC (a:=ma) e
 ⟨x.ext.trans E,E.at x.r,e.at x.m,λp hp=>⟨E.at (x.made p hp).1,(x.made p hp).2⟩⟩
theorem Hd.aR(x:Hd P R F h ma h' ra zs ms){Nv:Nat}{Jc:List Z}(n:Nv≠ma)(f:h' Nv=some (.list (Jc.map qf))):Hd P R F h ma h' Nv Jc ms:=⟨x.ext,aF n f,x.m,x.made⟩
theorem Hd.base{h0:Hp}(x:Hd P R F h ma h' ra zs ms)(e:Ext h0 h):Hd P R F h0 ma h' ra zs ms:=⟨e.trans x.ext,x.r,x.m,x.made⟩
theorem Hd.re(x:Hd P R F h ma h' ra zs ms):Hd P R F (aH ma h') ma h' ra zs ms:=⟨.refl,x.r,x.m,x.made⟩
theorem Hd.push(x:Hd P R F h ma h' ra zs ms){a:Nat}{l:Line}(n:a≠ma)(f:h' a=some (.list [l.num,.int l.zs.length]))(ok:kh P R F l)(p:Put h' ma (.list ((ms.map λp=>V.ref p.1)++[.ref a])) cT):Hd P R F h ma cT ra zs (ms++[(a,l)]):=by
 have e:aH ma cT=aH ma h':=iQ p;refine⟨e▸x.ext,e▸x.r,by rw[p.at,Zq];rfl,λp' kF=>?_⟩;rw[e];rcases Zg.mp kF with kF|kF
 . exact x.made p' kF
 . rw[Zc.mp kF];exact⟨aF n f,ok⟩
structure Ls(P:aJ)(R:List Int)(F:Int->List Int)(br:List Int)(h:Hp)(c:CO)(la:Nat)(ls:List Line):Prop where
 at_:h la=some (.list (ls.map λl=>.ref l.ta))
 ta:∀l∈ls,h l.ta=some (.tup [l.slot,l.num,.ref l.la])
 zs:∀l∈ls,h l.la=some (.list (l.zs.map qf))
 fm:ls.flatMap (·.zs)=c.aR
 len:ls.length=c.lines.length
 made:(c.bD="close"\/c.bD="closefix")->∀l∈ls,kh P R F l
theorem B7(W:Wd Φ γ){u:Ut}(U:oo P R F h u)
 (q:∀h' t ra ma zs ms,Ext h h'->h' t=some (.tup [.ref ra,.ref ma])->Mi P R F (bE (F u.rb.aa)) h' ra ma zs ms->(∀b∈u.bs,∀z∈b.aR,z∈zs)->zs.length<=960000->ms.length<=19200->Q (.ref t) h'):Φ "_law_handed" [.ref u.m.u] h Q:=by
 refine W.cl rfl rfl ?_;have self:=U.self;have ub:=U.blocks;nofun;intro ra h1 A1;nofun;intro ma h2 A2;have x2:Hd P R F h ma h2 ra [] []:=⟨bj (A1.ext.trans A2.ext) (A1.ext.none A2.new),aF (A2.ne A1.at) (A2.ext.at A1.at),A2.at,λ_ z=>nomatch z⟩;have e2:=x2.ext';nofun;refine bO W.aW on u.bs (λd ρ h'=>∃ra ms,ρ "reads"=some (.ref ra)/\Hd P R F h ma h' ra (d.flatMap CB.aR) ms/\ms.length<=d.length*100) (e2.at ub) ⟨ra,[],rfl,x2,Zs _⟩ (λd ρ h' lI=>oeeaa lI λ_ _ _ x _=>x.ext'.at ub) ?_ ?_
 . intro d b rr σ h3 hd hb z_ K hK _;refine oeeaa z_ λra ms lr x3 ml=>?_;have B:=U.cb b hb;have dl:d.length+1<=192:=Zf (hd▸(Zb (as:=d) (bs:=b::rr)).symm▸ZN (YG (ZR _)) _) U.cH;have D5:(d.flatMap CB.aR).length+5000<=960000:=by
    have:=gN (f:=CB.aR) (l:=d) (k:=5000) (λb' cF=>(U.cb b' (hd▸Zd _ cF)).cH) (Zs _);exact Zf (ZO this 5000) (V8 d.length 5000▸ZY 5000 dl)
   have M1:ms.length+100<=19200:=Zf (ZO ml 100) (V8 d.length 100▸ZY 100 dl);have dr:(d++[b]).flatMap CB.aR=d.flatMap CB.aR++b.aN.flatMap CO.aR++b.ag.aR:=by
    rw[Zx,ZE,Zo];rfl
   rw[dr] at hK;have Aa:∀ρ h' ra MF,ρ "reads"=some (.ref ra)->Hd P R F h ma h' ra (d.flatMap CB.aR++b.aN.flatMap CO.aR++b.ag.aR) MF->MF.length<=ms.length+100->K .next ρ [] h':=λρ h' ra MF l x m=>hK ρ h' ⟨ra,MF,l,x,by
    rw[Zb];exact Zf m (V8 d.length 100▸ZO ml 100)⟩
   have Ks:=B.cH
   revert x3 D5 Aa
   generalize d.flatMap CB.aR=D;intro x3 D5 Aa;clear hK dr;have Kr:=B.lines;have SH:=B.self;have Kq:=B.aN;have e3:=x3.ext';have To:(b.aN.flatMap CO.aR).length<=5000:=Zf (by rw[Zb];exact ZD _ _) Ks;nofun;refine bO W.aW (λc:CO=>.ref c.ad) b.aN (λd2 ρ h'=>∃ra Fy,ρ "reads"=some (.ref ra)/\Hd P R F h ma h' ra (D++d2.flatMap CO.aR) Fy/\Fy.length<=ms.length+(d2.flatMap (·.lines)).length)
    (e3.at Kq) ⟨ra,ms,lr,by rw[Yb,Zu];exact x3,Zs _⟩ (λd ρ h' lH=>oeeaa lH λ_ _ _ x _=>x.ext'.at Kq) ?_ ?_
   . intro d2 c Ji σ h4 vH hc z_ K2 rf _;refine oeeaa z_ λra Fy lr x4 MH=>?_;have C:=B.op c hc;have LW:=C.self;have e4:=x4.ext';have rl:(d2.flatMap CO.aR).length+c.aR.length<=5000:=Zf (by
      rw[<-vH,Zx,ZJ,<-Zo,Zb,Zb];exact ZD _ _) To
     have ll:(d2.flatMap (·.lines)).length+c.lines.length<=100:=Zf (by
      rw[<-vH,Zx,ZJ,<-Zo,Zb,Zb];exact ZD _ _) Kr
     nofun;refine r_join (λh' v=>Ext h4 h'/\∃la ls,v= .ref la/\Ls P R F (bE (F u.rb.aa)) (aH ma h') c la ls) (λw K hK=>?_) (λw K hK=>?_) λh5 v rc=>oaeea rc λe5 la ls ev L=>?_
     . refine oaa (C.fix (beq_iff_eq.mp w)) λw1 w2 w3=>?_;nofun;rw[w1];exact r_done (hK _ _ ⟨.refl,c.da,c.lines,rfl,x4.ext.at w2,λl hl=>x4.ext.at (w3 l hl),λl hl=>x4.ext.at (C.lines l hl).l,rfl,rfl,C.made⟩)
     . refine oe (C.ET λz=>Bool.noConfusion ((beq_iff_eq.mpr z).symm.trans w)) λzs wl=>?_;nofun;intro t h5 A5;nofun;intro la h6 A6;have tm:t≠ma:=(A5.ne x4.m).symm;have lm:la≠ma:=(A6.ne (A5.ext.at x4.m)).symm;have e6:=A5.ext.trans A6.ext;have x6:=x4.more e6;refine r_done (hK _ _ ⟨e6,la,[⟨t,c.slot,c.data,c.ga,zs⟩],rfl,aF lm A6.at,λl hl=>?_,λl hl=>?_,?_,by rw[wl];rfl,λww l hl=>?_⟩)
       . rw[Zc.mp hl];exact aF tm (A6.ext.at A5.at)
       . rw[Zc.mp hl];exact x6.ext.at (C.lines ⟨0,c.slot,c.data,c.ga,zs⟩ (by rw[wl];exact Ze)).l
       . rw[CO.aR,wl];rfl
       . rw[Zc.mp hl];exact C.made ww ⟨0,c.slot,c.data,c.ga,zs⟩ (by rw[wl];exact Ze)
     subst ev;have x5:=(x4.more e5).re;have b5:=(x4.more e5).ext;have l5:=aV.at L.at_;rw[Zx,Zx,ZE,ZE,<-Zo,<-L.fm] at rf;rw[<-L.fm] at rl
     revert x5 b5 L
     generalize aH ma h5=H5;intro L x5 b5;nofun;refine zt W.aW (λl:Line=>.ref l.ta) ls (λd3 ρ h'=>∃ra Ex,ρ "reads"=some (.ref ra)/\Hd P R F H5 ma h' ra (D++d2.flatMap CO.aR++d3.flatMap (·.zs)) Ex/\Ex.length<=Fy.length+d3.length)
      l5 rfl ⟨ra,Fy,lr,by rw[Yb,Zu];exact x5,Zs _⟩ (λd ρ h' xY=>oeeaa xY λ_ _ _ x _=>x.ext'.at L.at_) ?_ ?_
     . intro d3 l QA σ h6 FL hl z_ K3 EA _;refine oeeaa z_ λra Ex lr x6 MG=>?_;have e6:=x6.ext';refine⟨l.ta,_,rfl,e6.at (L.ta l hl),rfl,?_⟩;have lz:=L.zs l hl;have cs:=b5.at LW;have r6:=aV.at x6.r;have z3:(d3.flatMap (·.zs)).length+l.zs.length<=(ls.flatMap (·.zs)).length:=by
        rw[<-FL,Zx,ZJ,<-Zo,Zb,Zb];exact ZD _ _
       have l3:d3.length+1<=c.lines.length:=L.len▸FL▸(Zb (as:=d3) (bs:=l::QA)).symm▸ZN (YG (ZR _)) _;have lim:(D++d2.flatMap CO.aR++d3.flatMap (·.zs)).length+l.zs.length<=big:=by
        rw[Zb,Zb,Yq,Yq];exact Zf (ZN (Zf (ZN z3 _) rl) _) (Zf D5 (by decide))
       have GF:Ex.length<big:=by
        have h1:Ex.length<=ms.length+100:=Zf MG (Zf (ZQ MH (Nat.le_of_succ_le l3)) (Yq ..▸ZN ll _));exact Zk (Zf h1 M1) (by decide)
       nofun;refine r_cat r6 (e6.at lz) (by rw[Za,Za];exact lim) λr7 h7 A7=>?_;rw[<-Zq] at A7;have e7:=A7.im e6;have x7:=(x6.more A7.ext).aR (A7.ne x6.m).symm A7.at;nofun;intro t8 h8 A8;have e8:=A8.im e7;have x8:=x7.more A8.ext;refine r_inT (l:=[PySem.Str.ofString "close",PySem.Str.ofString "closefix"]) A8.at ?_;rw[Zo,<-ZE (λl:Line=>l.zs) l,<-Zx] at x8;refine r_if (λh'=>∃ME,Hd P R F H5 ma h' r7 (D++d2.flatMap CO.aR++(d3++[l]).flatMap (·.zs)) ME/\ME.length<=Ex.length+1) (λw K hK=>?_) (λw K hK=>r_done (hK _ ⟨_,x8,Yj _⟩)) λh9 xX=>oea xX λME x9 T8=>?_
       . have m8:=x8.m;nofun;rw[Za];intro a9 h9 A9;refine r_app (A9.ext.at m8) (by rw[Za];exact GF) λiq p=>?_;exact r_done (hK _ ⟨_,(x8.more A9.ext).push (A9.ne m8).symm A9.at (L.made (pU w) l hl) p,by rw[Zb];exact Zs _⟩)
       . exact r_done (EA _ _ ⟨r7,ME,rfl,x9,Zf T8 (by rw[Zb];exact ZO MG 1)⟩)
     . intro σ h6 z_;refine oeeaa z_ λra Ex lr x6 MG=>?_;refine r_done (rf _ _ ⟨ra,Ex,lr,x6.base b5,?_⟩);rw[Zb,<-L.len,<-Yq];exact Zf MG (ZO MH _)
   intro σ h4 z_;refine oeeaa z_ λra Fy lr x4 MH=>?_;have SE:=B.ag.self;have LE:=B.ag.args.l;have e4:=x4.ext';have r4:=aV.at x4.r;have Nu:(b.aN.flatMap CO.aR).length+(b.ag.args.length+(b.ag.head.toList++b.ag.k.toList).length)<=5000:=by
    have:=Ks
    rwa [Zb,CL.aR,Zb] at this
   have PD:(D++b.aN.flatMap CO.aR).length+b.ag.args.length<=big:=by
    rw[Zb,Yq];exact Zf (ZN (Zf (ZN (ZD _ _) _) Nu) _) (Zf D5 (by decide))
   have GF:(D++b.aN.flatMap CO.aR++b.ag.args).length+(b.ag.head.toList++b.ag.k.toList).length<=big:=by
    rw[Zb,Zb,Yq,Yq];exact Zf (ZN Nu _) (Zf D5 (by decide))
   nofun;refine r_cat r4 (e4.at LE) (by rw[Za,Za];exact PD) λr5 h5 A5=>?_;rw[<-Zq] at A5;have e5:=A5.im e4;nofun;intro t6 h6 A6;refine mt W.aW (aK:=.tup t6 [tL b.ag.head,tL b.ag.k]) ⟨t6,rfl,.inr (.inl ⟨_,A6.at,rfl⟩)⟩ rfl [tL b.ag.head,tL b.ag.k] (λx=>[x]) rfl (λ_=>rfl) (λh' E=>E.at A6.at) id (λx=> !IP x) (λx h' m E K hK=>?_) (λx h' m p E K hK=>?_) λa7 h7 e7 n7 f7=>?_
   . nofun;exact hK _ E
   . nofun;exact hK _ E
   have hz:([tL b.ag.head,tL b.ag.k].filter (λx=> !IP x)).map id=(b.ag.head.toList++b.ag.k.toList).map qf:=by
    cases b.ag.head<;>cases b.ag.k<;>rfl
   rw[hz] at f7;have FV:=A6.ext.trans e7;refine r_cat (FV.at A5.at) f7 (by rw[Za,Za];exact GF) λr8 h8 A8=>?_;rw[<-Zq,Zo] at A8;nofun;have FW:=A5.ext.trans (FV.trans A8.ext);have m7:=(A5.ext.trans FV).at x4.m;exact r_done (Aa _ _ r8 Fy rfl ((x4.more FW).aR (A8.ne m7).symm A8.at) (Zf MH (ZN Kr _)))
 . intro σ h3 z_;refine oeeaa z_ λra ms lr x3 ml=>?_;have e3:=x3.ext';nofun;intro t h4 A4;have x4:=x3.more A4.ext;refine r_ret (q h4 t ra ma _ ms x4.ext' A4.at ⟨aV.at x4.r,λz hz=>?_,x4.m,λp hp=>⟨aV.at (x4.made p hp).1,(x4.made p hp).2⟩⟩ (λb hb z hz=>Zm.mpr ⟨b,hb,hz⟩) (gN (λb hb=>(U.cb b hb).cH) U.cH) (Zf ml (ZY 100 U.cH)));refine oea (Zm.mp hz) λb hb hz=>?_;have B:=U.cb b hb;refine w_.ext ?_ x4.ext';rcases Zg.mp hz with hz|hz
   . refine oea (Zm.mp hz) λc hc hz=>?_;refine oea (Zm.mp hz) λl hl hz=>?_;exact((B.op c hc).lines l hl).ok z hz
   . rcases Zg.mp hz with hz|hz
     . exact B.ag.args.ok z hz
     . rcases Zg.mp hz with hz|hz
       . exact B.ag.head z (V9.mp hz)
       . exact B.ag.k z (V9.mp hz)
end
end
section
section
variable {Φ:Calls}{γ:String->Option V}{im h:Hp}{Q:V->Hp->Prop}{P:aJ}{R:List Int}{F:Int->List Int}{α:Type}
theorem r_nes{k:C}{ρ:Lo}{st:List V}{Q:Po}{a a':Nat}(s:rY h a a')(q:wp Φ γ k ρ (.bool false::st) h Q):wp Φ γ (.b (.cmp .ne) k) ρ (.ref a':: .ref a::st) h Q:=⟨_,⟨false,rfl,.inr (.inr ⟨a,a',rfl,rfl,s,rfl⟩)⟩,q⟩
theorem mr(M:dU Φ){t:List String}{s:SK}{c e k:C}{ρ:Lo}{st bH:List V}{Q:Po}{aK:Src}(hs:tN s st h aK bH)(pl:aK.plain=true)(xs:List α)(f:α->List V)(it:aK.items=xs.map f)(tf:∀h',Ext h h'->aK.stays h')
 (cond:∀x h',x∈xs->Ext h h'->∃ρ',dm h' ρ t (f x) ρ'/\∀K:V->Hp->Prop,(∀cT,Ext h cT->K (.bool false) cT)->wp Φ γ c ρ' [] h' (gH K))
 (fin:∀a h',Ext h h'->h' a=some (.list [])->wp Φ γ k ρ (.ref a::bH) h' Q):wp Φ γ (.comp t s c e k) ρ st h Q:=
 fF M hs pl xs f it (λd vs h'=>Ext h h'/\vs=[]) ⟨.refl,rfl⟩ (λd vs h' I=>tf _ I.1) (λd x r vs h' e m I=>by
  refine oea (cond x h' m I.1) λρ' bt c=>?_;exact⟨ρ',bt,false,c _ λh2 E2=>⟨rfl,E2,I.2⟩⟩) λvs h' a cT I A=>fin a cT (A.im I.1) (by rw[A.at,I.2])
theorem same_ints{a b:Nat}{l:List Int}(ha:h a=some (.list (l.map .int)))(hb:h b=some (.list (l.map .int)))(n:Nat):tO h (n+1) (.ref a) (.ref b):=by
 refine .inr ⟨a,b,_,_,rfl,rfl,ha,hb,rfl,λi x y hx hy=>?_⟩;rw[hx] at hy
 cases hy
 refine oea (dI hx) λk hk bV=>?_;subst bV
 cases n with
 |zero=>exact⟨k,rfl,rfl⟩
 |succ n=>exact .inl ⟨k,rfl,rfl⟩
structure og where
 (aT:ax) (a:Nat) (l:List Int)
structure qJ(P:aJ)(R:List Int)(h:Hp)(wd:Nat)(ws:List og):Prop where
 eq:ws.map og.aT=af P R
 d:h wd=some (.dict (ws.map λw=>(w.aT.aa,.ref w.a)))
 row:∀w∈ws,h w.a=some (.list ((bE w.l).map .int))/\w.l.Nodup/\∀x,x∈w.l↔bI P R w.aT x/\x∉simple P
theorem qJ.ext{h':Hp}{wd:Nat}{ws:List og}(x:qJ P R h wd ws)(e:Ext h h'):qJ P R h' wd ws:=⟨x.eq,e.at x.d,λw hw=>⟨e.at (x.row w hw).1,(x.row w hw).2⟩⟩
theorem t5(N:aM P){wd:Nat}{ws:List og}(x:qJ P R h wd ws){w:og}(hw:w∈ws):(ws.map λw=>(w.aT.aa,V.ref w.a)).lookup w.aT.aa=some (.ref w.a):=by
 have nd:((ws.map λw=>(w.aT.aa,V.ref w.a)).map (·.1)).Nodup:=by
  have:(ws.map λw=>(w.aT.aa,V.ref w.a)).map (·.1)=(ws.map (·.aT)).map (·.aa):=by rw[Zt,Zt];rfl
  rw[this,x.eq];exact(de N).imp λh=>Yc h
 exact cY nd (Zn.mpr ⟨w,hw,rfl⟩)
noncomputable def q_(P:aJ):Prop:=∀R,dN P R->∀b∈af P R,b.aa=1->∀x,bI P R b x->x∈simple P
theorem KY{br:List Int}(nd:br.Nodup){zs:List Z}(ok:∀z∈zs,w_ h br z)(vL:∀v∈br,∃z∈zs,z.ae=v):
 ∃is:List Int,(zs.filter λz=>z.arg.kind== "free").map (λz:Z=>z.arg.val)=is.map .int/\(∀i∈is,i<(br.length:Int))/\∀k<br.length,(k:Int)∈is:=by
 have fr:∀z∈zs,z.arg.kind="free"->∃i:Nat,z.arg.val= .int i/\i<br.length/\br[i]?=some z.ae:=λz hz hk=>by
  rcases (ok z hz).ok with ⟨_,_,i,hi,hv⟩|⟨_,k|k⟩
  . exact⟨i,hv,(ZM.mp hi).1,hi⟩
  . rw[hk] at k;exact absurd k (by decide)
  . rw[hk] at k;exact absurd k (by decide)
 refine⟨(zs.filter λz=>z.arg.kind== "free").map (λz:Z=>match z.arg.val with| .int i=>i|_=>0),?_,λi hi=>?_,λk hk=>?_⟩
 . rw[Zt];refine Yn λz hz=>?_;refine oa (ZG.mp hz) λNQ NP=>?_;refine oea (fr z NQ (beq_iff_eq.mp NP)) λi hv _=>?_;rw[Function.comp,hv]
 . refine oea (Zn.mp hi) λz hz cw=>?_;subst cw;refine oa (ZG.mp hz) λNQ NP=>?_;refine oeaa (fr z NQ (beq_iff_eq.mp NP)) λi hv hl _=>?_;rw[hv];exact YS.mpr hl
 . have hg:br[k]?=some br[k]:=Zv hk;refine oea (vL _ (Yy hk)) λz hz Q8=>?_;rcases (ok z hz).ok with ⟨_,JA,i,hi,hv⟩|⟨hn,_⟩
   . refine Zn.mpr ⟨z,ZG.mpr ⟨hz,beq_iff_eq.mpr JA⟩,?_⟩;rw[Q8] at hi;rw[hv];exact congrArg Int.ofNat ((WT (ZM.mp hi).1 nd).mp (hi.trans hg.symm))
   . rw[Q8] at hn;exact absurd (Yy hk) hn
theorem qj(W:Wd Φ γ)(N:aM P)(FF:nZ P)(EF:q_ P)(Y:PR h P)(B:ke γ h)(LR:dN P R){od wd:Nat}{ws:List og}(ho:h od=some (.list ((af P R).map cj)))(WR:qJ P R h wd ws)
 (q:∀h',Ext h h'->Q (.bool true) h'):Φ "_law_are_units_right" [.ref P.ad,.ref od,.ref wd] h Q:=by
 refine W.cl rfl rfl ?_;nofun;refine Cb W N FF Y B λh1 c l R2 ad F us e1 n1 LR2 AD FO eq hc hl ok=>?_;have same:∀l,l∈R2↔l∈R:=LR2.same LR;rw[cE same] at eq;have I_:=qX same AD.2 FO;have DH:∀u∈us,∀w∈ws,w.aT=u.rb->(F u.rb.aa).length=(bE w.l).length:=λu hu w hw e=>by
  have hr:u.rb∈af P R:=by rw[<-eq];exact Zn.mpr ⟨u,hu,rfl⟩
  refine oaa (WR.row w hw) λ_ w2 w3=>?_;rw[jF];refine(hW (I_.good _ hr).1 w2 λx=>?_).length_eq;rw[I_.iff hr,w3,e]
 have rl:=dK (R:=R) N;clear FO AD;nofun;refine comp_map W.aW jg (λu=>V.int ((F u.rb.aa).length:Int)) us hl (λu h2 hu e2 K hK=>?_) λa2 h2 e2 n2 f2=>?_
 . have su:=e2.at (ok u hu).self;nofun;exact hK _ e2
 have tj:=e1.trans e2;have z8:=tj.at ho;nofun;refine comp_map W.aW cj (λb=>V.int ((F b.aa).length:Int)) (af P R) z8 (λb h3 hb e3 K hK=>?_) λa3 h3 e3 n3 f3=>?_
 . have qe:=hb;rw[<-WR.eq] at qe;refine oea (Zn.mp qe) λw hw c8=>?_;subst c8;rw[<-eq] at hb;refine oea (Zn.mp hb) λu hu eu=>?_;have lk:=t5 N WR hw;have Dg:=tj.trans e3;have wd3:=WR.d;have wa3:=(WR.row w hw).1;have Te:=DH u hu w hw eu.symm;nofun;rw[Za,<-Te,eu];exact hK _ e3
 refine r_nes (.inl (same_ints (l:=(af P R).map λb=>((F b.aa).length:Int)) ?_ ?_ 5)) ?_
 . rw[e3.at f2,<-eq,Zt,Zt];rfl
 . rw[f3,Zt];rfl
 have lJ:=e2.trans e3
 -- the entry
 refine oeaa (iW N LR.ch) λeb FJ el hh=>?_;obtain ⟨u0,ur,Om⟩:∃u0 ur,us=u0::ur:=by
  cases us with
  |nil=>rw[hh] at eq;cases eq
  |cons u r=>exact⟨u,r,rfl⟩
 have eu0:u0.rb=eb:=by rw[Om,hh] at eq;exact(Yr eq).1
 have Kf:eb∈af P R:=by rw[hh];exact Ze
 have F0:F u0.rb.aa=[]:=by
  rw[eu0]
  cases z:F eb.aa with
  |nil=>rfl
  |cons x r=>
   have:=(I_.good eb Kf).2 x (by rw[z];exact Ze);exact absurd (EF R LR eb Kf el x this.1) this.2
 have su0:=(ok u0 (Om▸Ze)).self;have Mp:du (us.map jg) 0=some (.ref u0.m.u):=by rw[Om];rfl
 nofun;refine r_no (by rw[F0];rfl) ?_;have l3:=lJ.at hl;nofun;refine bO W.aW jg us (λd _ h'=>Ext h3 h') l3 .refl (λd ρ h' I=>I.at l3) (λd u rr σ h4 hd hu e4 K hK _=>?_) λσ h4 e4=>?_
 . have yp:=lJ.trans e4;have U:=(ok u hu).ext yp;have MM:u.rb∈af P R:=by rw[<-eq];exact Zn.mpr ⟨u,hu,rfl⟩
   have Kl:(F u.rb.aa).length<64:=FF R LR u.rb MM (F u.rb.aa) (I_.good _ MM).1 λx hx=>(I_.good _ MM).2 x hx;have GT:(bE (F u.rb.aa)).length=(F u.rb.aa).length:=jF;nofun;refine B7 W U λh5 t ra ma zs ms e5 ft H PV hz hm=>?_;refine r_unpt rfl rfl ft ?_;have MR:=H.r;nofun;refine cP W.aW qf (λz:Z=>z.arg.val) (λz=>z.arg.kind== "free") zs MR (λz h6 hz e6 K hK=>?_) (λz h6 hz hp e6 K hK=>?_) λa6 h6 e6 n6 f6=>?_
   . have z6:=(H.ok z hz).at_;nofun;exact hK _ e6
   . have z6:=(H.ok z hz).at_;nofun;exact hK _ e6
   refine oeaa (KY (m9 (I_.good _ MM).1) H.ok λv hv=>oeaea (U.cover v (cW.mp hv)) λb hb z hz e=>⟨z,PV b hb z hz,e⟩) λis his JC Dp=>?_;rw[his] at f6;rw[GT] at JC Dp;have I5:=e5.trans e6;have su6:=U.self;nofun;refine mr W.aW (aK:=.range (F u.rb.aa).length) ⟨_,rfl,ZH (ZK Kl (by decide)),rfl⟩ rfl (List.range (F u.rb.aa).length) (λi=>[.int i]) rfl (λ_ _=>trivial) (λk h7 hk e7=>⟨_,.inl ⟨rfl,rfl⟩,λK hK=>?_⟩) λa7 h7 e7 f7=>?_
   . nofun;rw[ZZ.mpr (Dp k (Xu.mp hk))];exact hK _ e7
   have EE:=I5.trans e7;have RN:=e7.at f6;nofun;refine mr W.aW (aK:=.list a6 (is.map .int)) ⟨a6,rfl,.inl ⟨_,RN,rfl⟩⟩ rfl is (λi=>[.int i]) (Zt ..) (λh' E=>E.at RN) (λi h8 hi e8=>⟨_,.inl ⟨rfl,rfl⟩,λK hK=>?_⟩) λa8 h8 e8 f8=>?_
   . have FW:=EE.trans e8;nofun;rw[decide_eq_false (Ux.mpr (JC i hi))];exact hK _ e8
   have FW:=EE.trans e8;have FU:=e6.trans (e7.trans e8);have m8:=FU.at H.m;nofun;refine mr W.aW (aK:=.list ma (ms.map λp:Nat×Line=>V.ref p.1)) ⟨ma,rfl,.inl ⟨_,m8,rfl⟩⟩ rfl ms (λp=>[.ref p.1]) (by show (ms.map _).map _=_;rw[Zt];rfl) (λh' E=>E.at m8) (λp h9 hp e9=>?_) λa9 h9 e9 f9=>?_
   . refine oaeeaa (H.made p hp) λk1 i cb hi hn UU=>?_;have p9:=(FU.trans e9).at k1;rw[hn] at p9;have e19:=yp.trans (FW.trans e9);rw[cE same,<-eq] at hi;refine oea (dI hi) λu' Ey eu'=>?_;have sq:du (us.map jg) (i:Int)=some (.ref u'.m.u):=by
      unfold du;rw[if_pos (Z9 _),Xa,ZP,Ey];rfl
     have su9:=(ok u' (Z3 Ey)).self;refine⟨_,.inr ⟨p.1,_,rfl,Zs 2,rfl,.inr p9,rfl⟩,λK hK=>?_⟩;nofun;rw[UU,eu',bne_self_eq_false];exact hK _ e9
   . nofun;exact r_done (hK _ _ (e4.trans (FW.trans e9)))
 . nofun;exact q h4 (tj.trans (e3.trans e4))
end
end
section
noncomputable def cZ(b:ax):List Int:=b.aN.flatMap Op.aE
structure JP(bs:List ax)(ah:Int->List Int)(b:ax)(o:Op):Prop where
 shape:(o.bD="const"/\o.args=[]/\o.aU=[])\/(o.bD="fun"/\o.args=[]/\∃l,o.aU=[l])\/(o.bD="fix"/\o.args=[]/\o.bP.length=o.aU.length)\/((o.bD="prim"\/o.bD="setglobal")/\o.aU=[])
 Dh:o.bD="const"->0<=o.result
 neg:(o.bD="fix"->o.result= -1)/\(o.bD≠ "fix"->o.bP=[])/\(o.result= -1\/0<=o.result)
 len:o.args.length<=2/\o.bP.length<=2/\o.aU.length<=2
 args:∀v∈o.args,0<=v/\(v∈ah b.aa\/v∈cZ b)
 aU:∀t∈o.aU,∃c∈bs,c.aa=t/\c.aI="fun"/\c.aw=b.aa
structure zU(bs:List ax)(ah js:Int->List Int)(b:ax):Prop where
 aI:b.aI="fun"\/b.aI="cont"
 cj:1<=b.aa/\b.aa<=63
 fvar:b.aI="fun"->0<=b.ae
 cvar:b.aI="cont"->b.ae= -1
 ent:b.aa=1->b.aI="fun"/\b.aw= -1
 par:b.aa≠1->∃p∈bs,p.aa=b.aw/\p.aa<b.aa
 bL:∃y∈bs,y.aa=b.bL/\y.aI="fun"
 xj:b.aI="fun"->b.bL=b.aa
 AJ:b.aI="cont"->(∃p∈bs,p.aa=b.aw/\p.bL=b.bL)/\∃y∈bs,y.aa=b.bL/\y.ae<=63
 np:b.params.length<=1
 xf:∀v∈ah b.aa,v∈b.params\/(b.aa=1/\v=3)\/(b.aa≠1/\∃p∈bs,p.aa=b.aw/\(v∈ah p.aa\/v∈cZ p))
 EM:∃r1 r2,∀v∈ah b.aa,v<=63\/v=r1\/v=r2\/v∈b.params
 IO:∀t∈js b.aa,b.aI="cont"/\t<=63/\∃c∈bs,c.aa=t/\c.aI="cont"/\(c.aw=b.aw\/∃p∈bs,p.aa=b.aw/\t∈js p.aa)
 dv:b.aN.length<=3
 aN:∀o∈b.aN,JP bs ah b o
 CN:(b.aN.flatMap (·.aU)).Nodup
structure I8(bs:List ax)(ah js:Int->List Int)(b:ax):Prop where
 shape:(b.ag.bD="if"/\0<=b.ag.fn/\0<=b.ag.to/\0<=b.ag.other/\b.ag.args=[]/\b.ag.ae= -1)\/(b.ag.bD="jump"/\0<=b.ag.to/\b.ag.other= -1/\b.ag.fn= -1/\b.ag.ae= -1)\/
  (b.ag.bD="give"/\0<=b.ag.ae/\b.ag.fn= -1/\b.ag.to= -1/\b.ag.other= -1)\/(b.ag.bD="call"/\0<=b.ag.fn/\b.ag.other= -1/\((0<=b.ag.to/\b.ag.ae= -1)\/(b.ag.to= -1/\0<=b.ag.ae)))
 len:b.ag.args.length<=1
 args:∀v∈b.ag.args,0<=v/\(v∈ah b.aa\/v∈cZ b)
 fn:0<=b.ag.fn->b.ag.fn∈ah b.aa\/b.ag.fn∈cZ b
 neg:(b.ag.fn= -1\/0<=b.ag.fn)/\(b.ag.ae= -1\/0<=b.ag.ae)
 ae:0<=b.ag.ae->∃y∈bs,y.aa=b.bL/\b.ag.ae=y.ae
 vA:∀t∈b.ag.bg,∃c∈bs,c.aa=t/\c.aI="cont"/\(c.aw=b.aa\/t∈js b.aa)
 call:b.ag.bD="call"->0<=b.ag.to->∃c∈bs,c.aa=b.ag.to/\c.aw=b.aa
noncomputable def bZ(b:ax):List Int:=b.aa::(b.params++((if 0<=b.ae then [b.ae] else [])++cZ b))
structure cS(P:aJ)(ah js:Int->List Int):Prop where
 asc:(P.ap.map (·.aa)).Pairwise (· < ·)
 ent:∃b∈P.ap,b.aa=1
 three:3∈simple P
 nums:(P.ap.flatMap bZ).Nodup
 pos:∀b∈P.ap,∀x∈bZ b,1<=x
 yE:(simple P).length<64
 ok:∀b∈P.ap,zU P.ap ah js b
 ag:∀b∈P.ap,I8 P.ap ah js b
variable {P:aJ}{ah js:Int->List Int}
theorem cg{α β:Type}{f:α->List β}:∀{l:List α},(l.flatMap f).Nodup->∀{a b x},a∈l->b∈l->x∈f a->x∈f b->a=b
 |[],_,a,b,x,h,_,_,_=>by cases h
 |y::l,nd,a,b,x,ha,hb,xa,xb=>by
  rw[ZJ,ZI] at nd;rcases Zp.mp ha with h1|h1<;>rcases Zp.mp hb with h2|h2
  . rw[h1,h2]
  . subst h1;exact absurd rfl (nd.2.2 x xa x (Zm.mpr ⟨b,h2,xb⟩))
  . subst h2;exact absurd rfl (nd.2.2 x xb x (Zm.mpr ⟨a,h1,xa⟩))
  . exact cg nd.2.1 h1 h2 xa xb
theorem eg{α β:Type}{f:α->List β}:∀{l:List α},(l.flatMap f).Nodup->∀{a},a∈l->(f a).Nodup
 |[],_,_,h=>by cases h
 |y::l,nd,a,ha=>by
  rw[ZJ,ZI] at nd;rcases Zp.mp ha with rfl|h
  . exact nd.1
  . exact eg nd.2.1 h
theorem xV{l:List Int}(asc:l.Pairwise (· < ·)){k:Nat}(b:∀x∈l,1<=x/\x<=k):l.length<=k:=by
 have:=dB (m:=(List.range k).map λi:Nat=>((i:Int)+1)) (asc.imp λh=>by exact λcy=>(aj 0x101b1101211011202) _ _ h cy) (λx hx=>by
  refine oa (b x hx) λh1 h2=>?_;exact Zn.mpr ⟨(x - 1).toNat,Xu.mpr (by exact(aj 0x11101114100131152015010221) _ _ _ h2 (YC ((aj 0x111001300001100101) _ h1))),by exact ZA ((aj 0x11011001520100130152111) _ _ (YC ((aj 0x111001300001100101) _ h1))) ((aj 0x11100152010015100130111) _ _ (ZX _))⟩)
 simpa using this
theorem cS.jQ(B:cS P ah js){b:ax}(hb:b∈P.ap):(cZ b).Nodup:=by
 have:=eg B.nums hb;unfold bZ at this;rw[ZC,ZI,ZI] at this;exact this.2.2.1.2.1
theorem xE{b:ax}{v:Int}(h:v∈cZ b):v∈bZ b:=by unfold bZ;simp[h]
theorem cS.nice(B:cS P ah js):aM P:=by
 refine {
  asc:=B.asc
  cH:=by have:=xV B.asc (k:=63) (λx hx=>by refine oea (Zn.mp hx) λb hb bV=>?_;subst bV;exact(B.ok b hb).cj);simp at this;exact(aj 0x1100406014003f6013110) _ this
  pos:=λb hb=>(B.ok b hb).cj.1
  aI:=λb hb=>(B.ok b hb).aI
  ent:=by refine oea B.ent λb hb e=>?_;exact⟨b,hb,e,((B.ok b hb).ent e).1,((B.ok b hb).ent e).2⟩
  par:=λb hb=>(B.ok b hb).par
  vA:=λb hb t ht=>by refine oeaaa ((B.ag b hb).vA t ht) λc hc e s _=>?_;exact⟨c,hc,e,s⟩
  dv:=λb hb=>(B.ok b hb).dv
  gi:=λb hb=>(B.ok b hb).np
  mJ:=λb hb=>(B.ag b hb).len
  C8:=λb hb o ho=>((B.ok b hb).aN o ho).len
  yE:=B.yE
  Ko:=λb hb=>(B.ag b hb).call
  Dn:=λb hb=>⟨(B.ag b hb).neg.1,(B.ag b hb).neg.2,by rcases (B.ok b hb).aI with s|s;exact .inr ((B.ok b hb).fvar s);exact .inl ((B.ok b hb).cvar s)⟩
  J9:=λb hb o ho=>((B.ok b hb).aN o ho).neg
  Kt:=λb hb=>⟨λo ho x hx=>(((B.ok b hb).aN o ho).args x hx).1,λx hx=>((B.ag b hb).args x hx).1⟩
  cvar:=λb hb=>(B.ok b hb).cvar
  QG:=λb hb o ho=>((B.ok b hb).aN o ho).shape
  lw:=λb hb=>(B.ag b hb).shape
  lpar:=λb hb o ho t ht=>by refine oeaaa (((B.ok b hb).aN o ho).aU t ht) λc hc e _ p=>?_;exact⟨c,hc,e,p⟩
  CN:=λb hb=>(B.ok b hb).CN
  Dh:=λb hb o ho=>((B.ok b hb).aN o ho).Dh
  RF:=λb hb o ho c hc o' je v hv CQ=>by
   have h1:v∈cZ b:=Zm.mpr ⟨o,ho,hv⟩;have h2:v∈cZ c:=Zm.mpr ⟨o',je,CQ⟩;have:=cg B.nums hb hc (xE h1) (xE h2);subst this;exact cg (B.jQ hb) ho je hv CQ
  rest:=λb hb o ho t ht=>by refine oeaaa (((B.ok b hb).aN o ho).aU t ht) λc hc e s _=>?_;exact⟨c,hc,e,s⟩}
noncomputable def F7(P:aJ)(ah js:Int->List Int)(b:ax)(v:Int):Prop:=v∈ah b.aa\/(∃y∈P.ap,y.aa=b.bL/\v=y.ae)\/∃t∈js b.aa,v=cv t
end
section
variable {P:aJ}{ah js:Int->List Int}{R:List Int}
theorem i4{b:ax}{v:Int}(h:v∈b.params):v∈b7 P R b:=Zd _ (Zd _ (Zd _ h))
theorem mi{b:ax}(h:0<=b.ae):b.ae∈b7 P R b:=Zd _ (Zd _ (Zi _ (by rw[if_pos h];simp)))
theorem qV{b:ax}{v:Int}(h:v∈cZ b):v∈b7 P R b:=Zd _ (Zi _ h)
theorem uy{b c:ax}(hc:c∈P.ap)(r:c.aa∈R)(s:c.aI="cont")(p:c.aw=b.aa):cv c.aa∈b7 P R b:=
 Zi _ (Zn.mpr ⟨c,ZG.mpr ⟨hc,by simp[r,s,p]⟩,rfl⟩)
theorem gz{u b:ax}{v:Int}(hb:b∈bN P R u)(h:v∈b7 P R b):v∈bu P R u:=Zm.mpr ⟨b,hb,h⟩
theorem cS.up(B:cS P ah js)(N:aM P){b l:ax}(hb:b∈P.ap)(hl:l∈P.ap)(e:b.aw=l.aa)(b1:b.aa≠1){v:Int}(T:∀t,v=cv t->1<=t->t∈R)(nb:v∉b7 P R b)(nl:v∉b7 P R l)(V:F7 P ah js b v):F7 P ah js l v:=by
 have O:=B.ok b hb;rcases V with V|⟨y,hy,ey,rfl⟩|⟨t,ht,rfl⟩
 . rcases O.xf v V with h|⟨h,_⟩|⟨_,p,hp,ep,h⟩
   . exact absurd (i4 h) nb
   . exact absurd h b1
   . have:p=l:=N.uniq hp hl (by rw[ep,e]);subst this;rcases h with h|h
     . exact .inl h
     . exact absurd (qV h) nl
 . rcases O.aI with s|s
   . have:=N.uniq hy hb (by rw[ey,O.xj s]);subst this;exact absurd (mi (O.fvar s)) nb
   . refine oa (O.AJ s) λbV _=>?_;refine oeaa bV λp hp ep eh=>?_;try clear bV
     have:p=l:=N.uniq hp hl (by rw[ep,e]);subst this;exact .inr (.inl ⟨y,hy,by rw[ey,eh],rfl⟩)
 . refine oaaeaaa (O.IO t ht) λs _ c hc ec sc h=>?_;rcases h with h|⟨p,hp,ep,h⟩
   . have:=uy (P:=P) (R:=R) (b:=l) hc (by rw[ec];exact T t rfl (by rw[<-ec];exact N.pos c hc)) sc (by rw[h,e]);rw[ec] at this;exact absurd this nl
   . have:p=l:=N.uniq hp hl (by rw[ep,e]);subst this;exact .inr (.inr ⟨t,h,rfl⟩)
theorem cS.AR(B:cS P ah js)(N:aM P)(S:eR P R){u:ax}(hu:u∈af P R){v:Int}(T:∀t,v=cv t->1<=t->t∈R)(nu:v∉bu P R u):∀(n:Nat) (b:ax),b∈bN P R u->b.aa.toNat<=n->F7 P ah js b v->F7 P ah js u v
 |0,b,hb,h,_=>by have:=N.pos b (ct (ay.mp hu).1 hb);exact False.elim ((aj 0x111b0150100110000013311) b.aa b.aa.toNat h this (ZX _))
 |n+1,b,hb,h,V=>by
  refine oa (ay.mp hu) λvE MN=>?_;have r1:=S.one N;refine oa ((gM N r1 vE MN).mp hb) λvI qe=>?_
  by_cases z:b.aa∈R
  . rw[jf (N.pos b vI) z] at qe;rw[N.uniq vI vE qe] at V;exact V
  . refine oeaaa (iM N r1 vI z) λp hp ep lt un=>?_;have Rf:p∈bN P R u:=(gM N r1 vE MN).mpr ⟨hp,by rw[<-un];exact qe⟩;have pp:=N.pos p hp;refine cS.AR B N S hu T nu n p Rf (by exact(aj 0x101111112130151100121521101110112013432) _ _ _ _ _ h lt (YC ((aj 0x110100001100101) _ pp)) (ZX _)) (B.up N vI hp ep.symm (by intro e;rw[e] at z;exact z r1) T (λh=>nu (gz hb h)) (λh=>nu (gz Rf h)) V)
theorem i3{rb:ax}{x:Int}(n:bI P R rb x):x∉bu P R rb/\True:=by
 cases n with
 |here a b=>exact⟨b,trivial⟩
 |there a b c d=>exact⟨d,trivial⟩
theorem Il{a b:Int}(h:cv a=cv b):a=b:=by unfold cv at h;exact ZA ((aj 0x1011101020110033200100332102) _ _ h) ((aj 0x110111020110033200100332102) _ _ h)
theorem cS.Bd(B:cS P ah js)(N:aM P)(S:eR P R){u:ax}{v:Int}(n:bI P R u v):u∈af P R->(∀t,v=cv t->1<=t->t∈R)/\F7 P ah js u v:=by
 have r1:=S.one N
 induction n with
 | @here u v hr hg=>
  intro hu;refine oa (ay.mp hu) λvE MN=>?_;refine oea (Zm.mp hr) λb hb hv=>?_;have vI:=ct vE hb;have O:=B.ok b vI;have Lo:=B.ag b vI;have zO:∀w,(w∈ah b.aa\/w∈cZ b)->w∉bu P R u->F7 P ah js b w:=λw hw hn=>by
   rcases hw with h|h
   . exact .inl h
   . exact absurd (gz hb (qV h)) hn
  -- OU is read:a variable or a closure
  have key:((0<=v)\/∃t,v=cv t/\1<=t/\t∈R)/\F7 P ah js b v:=by
   unfold b0 bT Last.aR at hv;simp only[Zg,Zm,Zn,ZG] at hv;rcases hv with ⟨o,ho,h⟩|((h|(h|h))|⟨t,⟨ht,tr⟩,rfl⟩)
   . refine oa ((O.aN o ho).args v h) λp q=>?_;exact⟨.inl p,zO v q hg⟩
   . refine oa (Lo.args v h) λp q=>?_;exact⟨.inl p,zO v q hg⟩
   . split at h
     . simp at h;subst h;exact⟨.inl (by assumption),zO _ (Lo.fn (by assumption)) hg⟩
     . simp at h
   . split at h
     . simp at h;subst h;refine oeaa (Lo.ae (by assumption)) λy hy e1 e2=>?_;exact⟨.inl (by assumption),.inr (.inl ⟨y,hy,e1,e2⟩)⟩
     . simp at h
   . have Qv:t∈R:=by simpa using tr
     refine oeaaa (Lo.vA t ht) λc hc ec sc h=>?_;have tp:1<=t:=by rw[<-ec];exact N.pos c hc
     refine⟨.inr ⟨t,rfl,tp,Qv⟩,?_⟩;rcases h with h|h
     . have:=uy (P:=P) (R:=R) (b:=b) hc (by rw[ec];exact Qv) sc h;rw[ec] at this;exact absurd (gz hb this) hg
     . exact .inr (.inr ⟨t,h,rfl⟩)
  have T:∀t,v=cv t->1<=t->t∈R:=λt e p=>by
   rcases key.1 with h|⟨t',e',_,h⟩
   . unfold cv at e;exact False.elim ((aj 0x1101b010001110020110033012302) v t e p h)
   . rw[e] at e';rw[Il e'];exact h
  exact⟨T,B.AR N S hu T hg _ b hb (Zs _) key.2⟩
 | @there u c v hi hc nc hg ih=>
  intro hu;refine oa (ih hc) λT V=>?_;refine oa (ay.mp hu) λvE MN=>?_;refine oea (Zm.mp hi) λl hl hi=>?_;have IU:=ct vE hl;refine oeaa (mh N IU hi) λc' ir e1 e2=>?_;have N7:=(ay.mp hc).1;have:=N.uniq ir N7 e1;subst this;have Mw:c'.aa≠1:=λe=>by
   have:=((B.ok c' N7).ent e).2;have:=N.pos l IU
   (rename_i jH;exact(aj 0x1110b190121110011012302) c'.aw l.aa e2 this jH)
  have My:=(i3 nc).1;have Tg:c'∈bN P R c':=Ze;exact⟨T,B.AR N S hu T hg _ l hl (Zs _) (B.up N N7 IU e2 Mw T (λh=>My (gz Tg h)) (λh=>hg (gz hl h)) V)⟩
noncomputable def tZ(P:aJ)(x:Int):Prop:=∃c∈P.ap,x∈c.params\/(0<=c.ae/\x=c.ae)\/x∈cZ c
theorem cS.isVar(B:cS P ah js){x:Int}(h:tZ P x):1<=x/\∀b∈P.ap,x≠b.aa:=by
 obtain ⟨c,hc,h⟩:=h;have hm:x∈c.params++((if 0<=c.ae then [c.ae] else [])++cZ c):=by
  rcases h with h|⟨h,rfl⟩|h
  . simp[h]
  . simp[h]
  . simp[h]
 have hx:x∈bZ c:=Zh _ hm;refine⟨B.pos c hc x hx,λb hb e=>?_⟩;have:=cg B.nums hb hc (x:=x) (by rw[e];exact Ze) hx;subst this;have nd:=eg B.nums hb;unfold bZ at nd;rw[ZC] at nd;rw[e] at hm;exact nd.1 hm
theorem cS.qL(B:cS P ah js):tZ P 3:=by
 have:=B.three;unfold simple at this;refine oea (Zn.mp this) λo ho e=>?_;refine oa (ZG.mp ho) λY_ z8=>?_;refine oea (Zm.mp Y_) λb hb X_=>?_;have w:o.bD="const":=by unfold aL at z8;simp at z8;exact z8.1
 refine⟨b,hb,.inr (.inr (Zm.mpr ⟨o,X_,?_⟩))⟩;unfold Op.aE;rw[w,if_neg (by decide),e,if_pos (by decide)];simp
theorem cS.ud(B:cS P ah js)(N:aM P):∀(n:Nat) (b:ax),b∈P.ap->b.aa.toNat<=n->∀v∈ah b.aa,tZ P v
 |0,b,hb,h,v,hv=>by have:=N.pos b hb;exact False.elim ((aj 0x111b0150100110000013311) b.aa b.aa.toNat h this (ZX _))
 |n+1,b,hb,h,v,hv=>by
  rcases (B.ok b hb).xf v hv with k|⟨_,rfl⟩|⟨ne,p,hp,ep,k⟩
  . exact⟨b,hb,.inl k⟩
  . exact B.qL
  . rcases k with k|k
    . refine oeaa ((B.ok b hb).par ne) λp' kF e' lt=>?_;have:=N.uniq hp kF (by rw[ep,e']);subst this;have:=N.pos p hp;exact B.ud N n p hp (by exact(aj 0x101111112130151100121521101110112013432) _ _ _ _ _ h lt (YC ((aj 0x110100001100101) _ this)) (ZX _)) v k
    . exact⟨p,hp,.inr (.inr k)⟩
theorem cS.zJ(B:cS P ah js)(N:aM P)(S:eR P R){u:ax}(hu:u∈af P R)(e:u.aa=1){v:Int}(n:bI P R u v):v∈simple P:=by
 have vE:=(ay.mp hu).1;have O:=B.ok u vE;have ng:=(i3 n).1;have um:u∈bN P R u:=Ze;refine oa (B.Bd N S n hu) λT V=>?_;have sf:=(O.ent e).1;rcases V with V|⟨y,hy,ey,rfl⟩|⟨t,ht,rfl⟩
 . rcases O.xf v V with h|⟨_,rfl⟩|⟨h,_⟩
   . exact absurd (gz um (i4 h)) ng
   . exact B.three
   . exact absurd e h
 . have:=N.uniq hy vE (by rw[ey,O.xj sf]);subst this;exact absurd (gz um (mi (O.fvar sf))) ng
 . have:=(O.IO t ht).1;rw[sf] at this;exact absurd this (by decide)
noncomputable def Jj(x:Int):Int:=if 0<=x then x else 0 - x - 2
theorem cS.Ea(B:cS P ah js)(N:aM P)(S:eR P R){u:ax}(hu:u∈af P R){l:List Int}(nd:l.Nodup)(hl:∀x∈l,bI P R u x/\x∉simple P):l.length<64:=by
 have vE:=(ay.mp hu).1;have O:=B.ok u vE;have um:u∈bN P R u:=Ze;refine oee O.EM λr1 r2 hr=>?_;refine oea B.ent λeb FJ ee=>?_
 -- each is a variable,or Qn for a block
 have cls:∀x∈l,(tZ P x/\(x<=63\/x=r1\/x=r2))\/∃t,x=cv t/\t<=63/\∃c∈P.ap,c.aa=t/\c.aI="cont":=λx hx=>by
  refine oa (hl x hx) λn ns=>?_;have ng:=(i3 n).1;refine oa (B.Bd N S n hu) λT V=>?_;rcases V with V|⟨y,hy,ey,rfl⟩|⟨t,ht,rfl⟩
  . refine .inl ⟨B.ud N _ u vE (Zs _) x V,?_⟩;rcases hr x V with h|h|h|h
    . exact .inl h
    . exact .inr (.inl h)
    . exact .inr (.inr h)
    . exact absurd (gz um (i4 h)) ng
  . rcases O.aI with s|s
    . have:=N.uniq hy vE (by rw[ey,O.xj s]);subst this;exact absurd (gz um (mi (O.fvar s))) ng
    . refine oeaa ((O.AJ s).2) λy' w9 e' le=>?_;have:=N.uniq hy w9 (by rw[ey,e']);subst this;refine oeaa O.bL λz hz ez sz=>?_;have:=N.uniq hz hy (by rw[ez,ey]);subst this;exact .inl ⟨⟨z,hz,.inr (.inl ⟨(B.ok z hz).fvar sz,rfl⟩)⟩,.inl le⟩
  . refine oaaeaaa (O.IO t ht) λ_ le c hc ec sc _=>?_;exact .inr ⟨t,rfl,le,c,hc,ec,sc⟩
 have pv:∀x,tZ P x->Jj x=x:=λx hx=>by have:=(B.isVar hx).1;unfold Jj;rw[if_pos (by exact(aj 0x110100001100101) _ this)]
 have pc:∀t,1<=t->Jj (cv t)=t:=λt ht=>by unfold Jj cv;rw[if_neg (by exact λcy=>(aj 0x11b2001003300001100201) _ ht cy)];exact ZA ((aj 0x101202001003300330001) _) ((aj 0x120200100330033010001) _)
 have C9:(l.map Jj).Nodup:=by
  rw[List.Nodup,YN];refine XM (λ{x y} hx hy ne e=>?_) nd;apply ne;rcases cls x hx with ⟨vx,_⟩|⟨t,rfl,_,c,hc,ec,_⟩<;>rcases cls y hy with ⟨vy,_⟩|⟨t',rfl,_,c',ir,Oo,_⟩
  . rw[pv x vx,pv y vy] at e;exact e
  . rw[pv x vx,pc t' (by rw[<-Oo];exact N.pos c' ir)] at e;exact absurd (by rw[e,Oo]) ((B.isVar vx).2 c' ir)
  . rw[pv y vy,pc t (by rw[<-ec];exact N.pos c hc)] at e;exact absurd (by rw[<-e,ec]) ((B.isVar vy).2 c hc)
  . rw[pc t (by rw[<-ec];exact N.pos c hc),pc t' (by rw[<-Oo];exact N.pos c' ir)] at e;rw[e]
 have:=dB (m:=2::r1::r2::(List.range 60).map λi:Nat=>(i:Int)+4) C9 (λz hz=>by
  refine oea (Zn.mp hz) λx hx cw=>?_;subst cw;have fit:∀k:Int,1<=k->k≠1->k≠3->k<=63->k∈2::r1::r2::(List.range 60).map λi:Nat=>(i:Int)+4:=λk a b c d=>by
   by_cases k2:k=2
   . rw[k2];exact Ze
   . refine Zh _ (Zh _ (Zh _ (Zn.mpr ⟨(k - 4).toNat,Xu.mpr (by omega),by omega⟩)))
  rcases cls x hx with ⟨vx,h⟩|⟨t,rfl,le,c,hc,ec,sc⟩
  . rw[pv x vx];refine oa (B.isVar vx) λp1 p2=>?_;rcases h with h|h|h
    . exact fit x p1 (by have:=p2 eb FJ;rw[ee] at this;exact this) (λe=>(hl x hx).2 (by rw[e];exact B.three)) h
    . rw[h];simp
    . rw[h];simp
  . have tp:1<=t:=by rw[<-ec];exact N.pos c hc
    rw[pc t tp];refine fit t tp (λe=>?_) (λe=>?_) le
    . have:=(B.ok c hc).ent (by rw[ec,e]);rw[sc] at this;exact absurd this.1 (by decide)
    . exact(B.isVar B.qL).2 c hc (by rw[ec,e]))
 simp at this;exact(aj 0x1100406014003f6013110) _ this
end
section
section
variable {Φ:Calls}{γ:String->Option V}{im h:Hp}{Q:V->Hp->Prop}
section
variable {k:C}{ρ:Lo}{st:List V}{Q:Po}{a:Nat}{xs:List V}{v w:V}{i:Int}
theorem r_uptor{n:Nat}(e:h a=some (.eC xs))(q:∀c h',Alloc h c (.list (xs.take n)) h'->wp Φ γ k ρ (.ref c::st) h' Q):wp Φ γ (.u (.yx n) k) ρ (.ref a::st) h Q:=⟨_,⟨a,xs,rfl,.inr e,rfl⟩,r_al q⟩
theorem r_abs(q:wp Φ γ k ρ (.int i.natAbs::st) h Q):wp Φ γ (.u .abs k) ρ (.int i::st) h Q:=⟨_,⟨i,rfl,rfl⟩,q⟩
theorem r_pop0(e:h a=some (.list (w::xs)))(q:∀h',Put h a (.list xs) h'->wp Φ γ k ρ (w::st) h' Q):wp Φ γ (.prim .yA 1 k) ρ (.int 0:: .ref a::st) h Q:=⟨a,_,_,rfl,⟨xs,e,rfl,rfl⟩,q _ ⟨rfl⟩⟩
theorem r_popl(e:h a=some (.list (xs++[w])))(q:∀h',Put h a (.list xs) h'->wp Φ γ k ρ (w::st) h' Q):wp Φ γ (.prim .pop 0 k) ρ (.ref a::st) h Q:=⟨a,_,_,rfl,⟨xs,e,rfl,rfl⟩,q _ ⟨rfl⟩⟩
theorem r_setIl(e:h a=some (.list xs))(n:Nat)(l:Nat.blt n xs.length=true)(q:∀h',Put h a (.list (xs.set n v)) h'->wp Φ γ k ρ st h' Q):wp Φ γ (.dq k) ρ (.int n:: .ref a::v::st) h Q:=⟨a,_,⟨n,rfl,rfl,.inl ⟨xs,e,Z9 _,ZB l,rfl⟩⟩,q _ ⟨rfl⟩⟩
end
structure eT(h:Hp)(dk dc:Nat):Prop where
 st:∃(m:Int) (cs:List Int),h dk=some (.list [.ref dc,.int m])/\h dc=some (iL cs)/\0<=m/\∀c∈cs,0<=c
 ne:dk≠dc
theorem eT.ext{dk dc:Nat}{h':Hp}(D:eT h dk dc)(e:Ext h h'):eT h' dk dc:=by
 obtain ⟨⟨m,cs,a,b,c⟩,ne⟩:=D;exact⟨⟨m,cs,e.at a,e.at b,c⟩,ne⟩
theorem xd{x:V}{r:List V}:du (x::r) 0=some x:=rfl
theorem qF{x y:V}{r:List V}:du (x::y::r) 1=some y:=rfl
theorem wD(W:Wd Φ γ){s:Nat}{iD:List Int}(hs:h s=some (.eC (iD.map .int)))(q:∀h' dk dc,Ext h h'->h dk=none->h dc=none->eT h' dk dc->Q (.ref dk) h'):Φ "_law_deck" [.ref s] h Q:=by
 refine W.cl rfl rfl ?_;have pw:(0:Int)<10 ^ 60:=by decide
 nofun;refine r_uptor hs λc h1 A1=>?_;have f1:=A1.at;rw[<-List.map_take] at f1;refine comp_map W.aW V.int (λx:Int=>V.int ((x.natAbs:Int) % 10 ^ 60)) (iD.take 24) f1 (λx h2 hx e2 K hK=>?_) λa2 h2 e2 n2 f2=>?_
 . nofun;refine r_abs ?_;nofun;exact hK _ e2
 have hc:(iD.take 24).map (λx:Int=>V.int ((x.natAbs:Int) % 10 ^ 60))=((iD.take 24).map (λx:Int=>(x.natAbs:Int) % 10 ^ 60)).map V.int:=by rw[Zt];rfl
 rw[hc] at f2;have qi:∀c∈(iD.take 24).map (λx:Int=>(x.natAbs:Int) % 10 ^ 60),0<=c:=λc hc=>by
  refine oea (Zn.mp hc) λx _ bV=>?_;subst bV;exact XQ _ (by decide)
 revert f2 qi
 generalize (iD.take 24).map (λx:Int=>(x.natAbs:Int) % 10 ^ 60)=cells;intro f2 qi;nofun;refine bO W.aW V.int cells (λd ρ h'=>h'=h2/\∃m:Int,ρ "mixed"=some (.int m)/\0<=m) f2 ⟨rfl,7,rfl,by decide⟩ (λd ρ h' I=>I.1▸f2) ?_ ?_
 . intro d c rr σ _ hd hc z_ K hK _;refine oaea z_ λnP m l2 hm=>?_;subst nP;nofun;exact r_done (hK _ _ ⟨rfl,_,rfl,XQ _ (by decide)⟩)
 . intro σ _ z_;refine oaea z_ λwY m l2 hm=>?_;subst wY;nofun;refine cP W.aW V.int V.int (λc=>decide (10 ^ 9<=c)) cells f2 (λx h4 hx e4 K hK=>?_) (λx h4 hx hp e4 K hK=>?_) λa4 h4 e4 n4 f4=>?_
   . nofun;exact hK _ e4
   . nofun;exact hK _ e4
   nofun;intro dk h5 A5;have CX:=A1.ext.trans (e2.trans e4);exact r_ret (q h5 dk a4 (CX.trans A5.ext) (CX.none A5.new) ((A1.ext.trans e2).none n4) ⟨⟨m,_,A5.at,A5.ext.at f4,hm,λc hc=>qi c (ZG.mp hc).1⟩,(A5.ne f4).symm⟩)
theorem dg(W:Wd Φ γ){dk dc:Nat}(D:eT h dk dc){n:Int}(h0:0<n)(h1:n<1000)(q:∀h' d,0<=d->d<n->(∀x,x≠dk->x≠dc->h' x=h x)->eT h' dk dc->Q (.int d) h'):Φ "_law_draw" [.ref dk,.int n] h Q:=by
 refine W.cl rfl rfl ?_;obtain ⟨⟨m,cs,f1,f2,hm,hc⟩,ne⟩:=D;have k0:0<n/\n<1073741824:=⟨h0,Va h1 (by decide)⟩;have k1:(0:Int)<=48271/\(48271:Int)<1073741824:=by decide
 have k2:(0:Int)<2147483647:=by decide
 have k3:(0:Int)<64/\(64:Int)<1073741824:=by decide
 nofun;refine kT W.aW (λk _ h'=>(∀x,x≠dk->x≠dc->h' x=h x)/\h' dk=some (.list [.ref dc,.int m])/\∃cs:List Int,h' dc=some (iL cs)/\(∀c∈cs,0<=c)/\k=cs.length) cs.length ⟨λ_ _ _=>rfl,f1,cs,f2,hc,rfl⟩ ?_;rintro k σ h2 ⟨fr,g1,cs,g2,hc,rfl⟩;have sq:=@xd (.ref dc) [.int m];have Jg:=@qF (.ref dc) (.int m) []
 cases cs with
 |nil=>
  refine⟨false,λK hK=>?_,λz=>Bool.noConfusion z,λ_=>?_⟩
  . nofun;exact hK
  nofun;refine r_setIl g1 1 rfl λh3 p=>?_;have sq3:=@qF (.ref dc) (.int ((m*48271+11) % 2147483647)) [];have g3:h3 dk=some (.list [.ref dc,.int ((m*48271+11) % 2147483647)]):=p.at;nofun;exact q h3 _ (XQ _ (WL h0)) (VS _ h0) (λx a b=>(p.ne a).trans (fr x a b)) ⟨⟨_,[],g3,p.to (Yo ne) g2,XQ _ (by decide),(λ_ z=>nomatch z)⟩,ne⟩
 |cons c r=>
  have Tb:du ((c::r).map V.int) 0=some (.int c):=rfl;have hcc:=hc c Ze;refine⟨c==0,λK hK=>?_,λz K hK=>?_,λ_=>?_⟩
  . nofun;exact hK
  . nofun;refine r_pop0 g2 λh3 p=>?_;nofun;exact r_done (hK r.length _ h3 (YF _) ⟨λx a b=>(p.ne b).trans (fr x a b),p.to ne g1,r,p.at,λc ir=>hc c (Zh _ ir),rfl⟩)
  nofun;refine r_setIl g2 0 rfl λh3 p=>?_;nofun;refine q h3 _ (XQ _ (WL h0)) (VS _ h0) (λx a b=>(p.ne b).trans (fr x a b)) ⟨⟨m,c / n::r,p.to ne g1,p.at,hm,λx hx=>?_⟩,ne⟩;rcases Zp.mp hx with rfl|hx
  . exact Int.ediv_nonneg hcc (XA h0)
  . exact hc x (Zh _ hx)
theorem yZ(W:Wd Φ γ){dk dc:Nat}(D:eT h dk dc){a:Nat}{xs:List Int}(ha:h a=some (.list (xs.map .int)))(n0:xs≠[])(nl:xs.length<1000)(a1:a≠dk)(a2:a≠dc)
 (q:∀h' x,x∈xs->(∀x,x≠dk->x≠dc->h' x=h x)->eT h' dk dc->Q (.int x) h'):Φ "_law_one" [.ref dk,.ref a] h Q:=by
 refine W.cl rfl rfl ?_;nofun;rw[Za];have hl:0<xs.length:=VE.mpr n0;refine dg W D (YS.mpr hl) (YS.mpr nl) λh' d d0 d1 fr D'=>?_;have ha':h' a=some (.list (xs.map .int)):=(fr a a1 a2).trans ha;have hd:d.toNat<xs.length:=(Int.toNat_lt d0).mpr d1;have sq:du (xs.map V.int) d=some (.int xs[d.toNat]):=by
  unfold du;rw[if_pos d0,ZP,Zv hd];rfl
 nofun;exact q h' _ (Yy hd) fr D'
end
end
section
section
variable {Φ:Calls}{γ:String->Option V}{im h:Hp}{Q:V->Hp->Prop}{P:aJ}{R:List Int}{ah js:Int->List Int}
theorem ii{α β:Type}{f g:α->List β}:∀{l:List α},(∀x∈l,(f x).Sublist (g x))->(l.flatMap f).Sublist (l.flatMap g)
 |[],_=>List.Sublist.slnil
 |x::l,h=>by
  rw[ZJ,ZJ];exact(h x Ze).append (ii λy hy=>h y (Zh _ hy))
theorem cS.sd(B:cS P ah js)(N:aM P):(simple P).Nodup:=by
 have h1:(P.ap.flatMap cZ).Nodup:=B.nums.sublist (ii λb hb=>by
  unfold bZ;exact((XF _ _).trans (XF _ _)).cons _)
 have h2:P.ap.flatMap cZ=P.aN.flatMap Op.aE:=by unfold cZ aJ.aN;rw[VQ]
 rw[h2] at h1;have h3:∀l:List Op,(∀o∈l,o∈P.aN)->((l.filter aL).map (·.result)).Sublist (l.flatMap Op.aE):=by
  intro l
  induction l with
  |nil=>intro _;exact List.Sublist.slnil
  |cons o l ih=>
   intro hl;have ih:=ih λo ho=>hl o (Zh _ ho);rw[ZJ]
   by_cases z:aL o=true
   . rw[XS z,Zw,i5 N (hl o Ze) (by unfold aL at z;simp at z;exact z.1)];exact ih.cons_cons _
   . rw[YM z];exact ih.trans (XF _ _)
 exact h1.sublist (h3 P.aN λ_ h=>h)
noncomputable def xW(Φ:Calls)(γ:String->Option V):Prop:=∀(h:Hp) (dk dc:Nat) (Q:V->Hp->Prop),ke γ (aH dk (aH dc h))->eT h dk dc->
 (∀h' P ah js,Ext (aH dk (aH dc h)) h'->eT h' dk dc->PR (aH dk (aH dc h')) P->cS P ah js->Q (.ref P.ad) h')->Φ "_law_program" [.ref dk] h Q
theorem map_eq{α β:Type}{f:β->α}{xs:List α}{zs:List β}(l:zs.length=xs.length)(s:∀(i:Nat) (x:α) (z:β),xs[i]?=some x->zs[i]?=some z->f z=x):zs.map f=xs:=by
 refine XZ λi=>?_;rw[ZP]
 cases hx:xs[i]? with
 |none=>rw[Yw (l▸YD.mp hx)];rfl
 |some x=>
  have hi:i<zs.length:=l▸(ZM.mp hx).1;rw[Zv hi];exact congrArg some (s i x _ hx (Zv hi))
theorem qP{a b n:Nat}{xs ys:List Nat}(ha:h a=some (.list (xs.map .ref)))(hb:h b=some (.list (ys.map .ref)))(l:xs.length=ys.length)(s:∀(i:Nat) (x y:Nat),xs[i]?=some x->ys[i]?=some y->tO h n (.ref x) (.ref y)):tO h (n+1) (.ref a) (.ref b):=by
 refine .inr ⟨a,b,_,_,rfl,rfl,ha,hb,by rw[Za,Za,l],λi x y hx hy=>?_⟩;refine oea (dI hx) λx' e1 bV=>?_;subst bV;refine oea (dI hy) λy' e2 cw=>?_;subst cw;exact s i x' y' e1 e2
theorem Lw(W:Wd Φ γ)(BO:xW Φ γ)(BA:ke γ h){s:Nat}{iD:List Int}(hs:h s=some (.eC (iD.map .int))):Φ "law" [.ref s] h λv _=>v= .bool true:=by
 refine W.cl rfl rfl ?_;nofun;refine wD W hs λh1 dk dc e1 n1 n2 D1=>?_;have B1:ke γ (aH dk (aH dc h1)):=BA.ext (bj (bj e1 n2) n1);nofun;refine fq W.aW (n:=2) (by decide) (λi _ h'=>ke γ (aH dk (aH dc h'))/\eT h' dk dc) ⟨B1,D1⟩ (λi σ h0 hi lI K hK _ _=>oa lI λB0 D0=>?_) λσ h2 _=>?_
 . clear B1 D1 e1 n1 n2 hs;nofun;refine BO h0 dk dc _ B0 D0 λh P ah js e0 D Yh B=>?_;have OS:ke γ (aH dk (aH dc h)):=B0.ext (bj (bj e0 (by rw[hide_ne D.ne.symm];exact ao)) ao);have sub:Ext (aH dk (aH dc h)) h:=aV.trans aV;have Y:=Yh.ext sub;have BA:=OS.ext sub;have fin:∀ρ h',Ext h h'->K .next ρ [] h':=λρ h' e=>hK ρ h' ⟨OS.ext (fC (fC e)),D.ext e⟩
   clear hK D0 B0 e0 D OS Yh;have N:=B.nice;have FF:nZ P:=λR LR b hb l nd hl=>B.Ea N LR.ch hb nd hl;have EF:q_ P:=λR LR b hb e x n=>B.zJ N LR.ch hb e n;have snd:=B.sd N;nofun;refine uW W N Y λru h1 R0 e1 n1 RI OK=>?_
   -- the sorted roots
   obtain ⟨RL,FN,LR,fu⟩:∃RL:List Int,RL=(af P RL).map (·.aa)/\dN P RL/\h1 ru=some (.list ((af P RL).map cj)):=by
    have h0:∀l,l∈(af P R0).map (·.aa)↔l∈R0:=λl=>pt OK.sub;have h2:=cE (P:=P) h0;exact⟨(af P R0).map (·.aa),by rw[h2],OK.sorted N,by rw[h2];exact RI⟩
   clear RI OK;have hlen:(af P RL).length<64:=dK N;have Od:h1 ru=some (.list (RL.map .int)):=by
    rw[fu]
    conv=>rhs;rw[FN,Zt]
    rfl
   have Y1:=Y.ext e1;nofun;refine mY W N Y1 LR FN Od λfd h2 fs e2 n2 Oj RK Fd=>?_;nofun;refine pe W N (Y1.ext e2) (BA.ext (e1.trans e2)) λy h3 R ad ds F e3 LA hn n3=>?_;have same:∀l,l∈R↔l∈RL:=LA.least.same LR;have FO:=qX same LA.atoms.2 LA.free;have QW:=LA.eq;rw[cE same] at QW;have lJ:=e2.trans e3;have Dg:=e1.trans lJ;have RG:=lJ.at fu;nofun
   -- Qm
   refine gR W cj (λz:Nat×og=>V.ref z.1) (λh' b z=>z.2.aT=b/\h' z.1=some (.tup [.int b.aa,.ref z.2.a])/\h' z.2.a=some (.list ((bE z.2.l).map .int))/\z.2.l.Nodup/\∀x,x∈z.2.l↔bI P RL b x/\x∉simple P) (λ_ e z=>⟨z.1,e.at z.2.1,e.at z.2.2.1,z.2.2.2⟩) (af P RL) RG (λb h4 hb e4 K hK=>?_) λa4 h4 zs e4 n4 f4 zl zk=>?_
   . nofun;refine si W N (Y.ext (Dg.trans e4)) LR Oj ((e3.trans e4).at RK) (λw hw=>(Fd w hw).ext (e3.trans e4)) hb (FF RL LR b hb) λa h5 l e5 n5 TU hl5 f5=>?_;nofun;intro t h6 A6;exact r_done_val (hK h6 (t,⟨b,a,l⟩) (e5.trans A6.ext) ⟨rfl,A6.at,A6.ext.at f5,TU,hl5⟩)
   refine r_dictOf (ps:=(zs.map (·.2)).map λw=>(w.aT.aa,.ref w.a)) f4 (by rw[Za,Za,Za]) ?_ (λi p x hp hx=>?_) λwd h5 A5=>?_
   . rw[Zt];show ((zs.map (·.2)).map ((λb:ax=>b.aa)∘og.aT)).Nodup;rw[<-Zt,Zt (f:=λz:Nat×og=>z.2),map_eq (f:=og.aT∘λz:Nat×og=>z.2) zl λi x z h1 h2=>(zk i x z h1 h2).1];exact(de N).imp λh=>Yc h
   . refine oea (dI hp) λw e5 c8=>?_;subst c8;refine oea (dI e5) λz e6 dW=>?_;subst dW;refine oea (dI hx) λz' e7 gW=>?_;subst gW;rw[e6] at e7
     cases e7
     have hi:i<(af P RL).length:=zl▸(ZM.mp e6).1;have k:=zk i _ z (Zv hi) e6;exact⟨z.1,rfl,by rw[k.1];exact k.2.1⟩
   have WR:qJ P RL h5 wd (zs.map (·.2)):=by
    refine⟨by rw[Zt];exact map_eq zl λi x z h1 h2=>(zk i x z h1 h2).1,A5.at,λw hw=>?_⟩;refine oea (Zn.mp hw) λz hz gE=>?_;subst gE;refine oe (List.getElem?_of_mem hz) λi hi=>?_;have FH:i<(af P RL).length:=zl▸(ZM.mp hi).1;have k:=zk i _ z (Zv FH) hi;exact⟨A5.ext.at k.2.2.1,k.2.2.2.1,λx=>by rw[k.1];exact k.2.2.2.2 x⟩
   revert WR
   clear zk zl f4;generalize zs.map (·.2)=ws;intro WR;have JK:=A5.im e4;have JQ:=LA.ext JK;clear A5 e4 n4;have qD:=lJ.trans JK;have ys:=JQ.lay.self;have yr:=JQ.lay.roots;have ya:=JQ.aD;have yf:=JQ.fD;have Jv:=JK.at hn;have Oe:=JK.at RG;have rlen:(cz R).length<64:=by rw[c_];exact Zk (LA.least.sub.len N) N.cH
   have adl:ad.length<64:=by
    rw[<-Za (f:=λp:Int×V=>p.1)];exact Zk (dB LA.atoms.1 λx hx=>(LA.atoms.2 x).mp hx) N.yE
   have UL:bE R=RL:=by
    rw[FN,<-cE same];exact gn N LA.least.sub
   have UM:bE (ad.map (·.1))=bE (simple P):=pH LA.atoms.1 snd LA.atoms.2;nofun;rw[jv,UL];intro a6 h6 A6;have Oq:=A6.ext;nofun;refine r_nes (.inl (same_ints A6.at ((qD.trans Oq).at Od) 5)) ?_;nofun;rw[UM];intro a7 h7 A7;have FV:=A7.im Oq;nofun;refine k_ W N (Y.ext (e1.trans (qD.trans FV))) λa8 h8 e8 n8 f8=>?_;refine r_nes (.inl (same_ints (e8.at A7.at) f8 5)) ?_;have FU:=FV.trans e8;clear A6 A7 Oq FV e8;nofun
   -- the free Ja
   refine gR W cj V.ref (λh' b a=>h' a=some (iL (bE (F b.aa)))) (λ_ e z=>e.at z) (af P RL) (FU.at Oe) (λb h9 hb e9 K hK=>?_) λa9 h9 xs e9 n9 f9 xl xk=>?_
   . have qe:=hb;rw[<-QW] at qe;refine oea (Zn.mp qe) λw hw kE=>?_;subst kE;have lk:=d6 (f:=(·.f)) N LA.eq hw;have I4:=FU.trans e9;have fw:=JQ.at_ w hw;have Kl:(cz (F w.aT.aa)).length<64:=by
      rw[c_];exact FF RL LR w.aT hb _ (FO.good _ hb).1 λx hx=>(FO.good _ hb).2 x hx
     nofun;rw[jv];intro a iq A;exact r_done_val (hK _ _ A.ext A.at)
   have I4:=FU.trans e9;nofun;refine gR W cj V.ref (λh' b a=>∃w∈ws,w.aT=b/\a=w.a) (λ_ _ z=>z) (af P RL) (I4.at Oe) (λb iq hb jI K hK=>?_) λa10 iq ys' jI MC FT yl yk=>?_
   . have qe:=hb;rw[<-WR.eq] at qe;refine oea (Zn.mp qe) λw hw jX=>?_;subst jX;have lk:=t5 N WR hw;have e510:=I4.trans jI;have wd5:=WR.d;nofun;exact hK _ _ .refl ⟨w,hw,rfl,rfl⟩
   refine r_nes (.inl (qP (jI.at f9) FT (xl.trans yl.symm) λi x y' hx hy=>?_)) ?_
   . have hi:i<(af P RL).length:=xl▸(ZM.mp hx).1;have hg:=Zv hi;have ha:=xk i _ x hg hx;refine oeaa (yk i _ y' hg hy) λw hw ew n_=>?_;subst n_;have Ru:(af P RL)[i]∈af P RL:=Yy _;have eqs:bE w.l=bE (F (af P RL)[i].aa):=by
      refine oaa (WR.row w hw) λ_ w2 w3=>?_;refine pH w2 (FO.good _ Ru).1 λx=>?_;rw[w3,FO.iff Ru,ew]
     refine same_ints (jI.at ha) ?_ 4;rw[<-eqs];exact(I4.trans jI).at (WR.row w hw).1
   have RT:=I4.trans jI;clear I4 e9 jI FU f9 FT xk yk xl yl n9 MC;nofun
   -- the order
   intro a11 ti ia;have GR:=ia.im RT;nofun;refine cP W.aW cj cj (λb=>b.aa != 1) (af P RL) (GR.at Oe) (λx rg hx tj K hK=>?_) (λx rg hx hp tj K hK=>?_) λa12 rg tj MA yo=>?_
   . nofun;exact hK _ tj
   . nofun;exact hK _ tj
   refine oeaa (iW N LR.ch) λeb FJ el hh=>?_;have Jz:[V.int 1]++((af P RL).filter (λb=>b.aa != 1)).map cj=RL.map V.int:=by
    conv=>rhs;rw[FN,hh,Zt,Zw]
    rw[Function.comp,el];rfl
   refine r_cat (tj.at ia.at) yo (Zf (ZQ (Zs 1) (by rw[Za];exact Zf (ZT ..) (ZH hlen))) (by decide)) λod ED Ae=>?_;rw[Jz] at Ae;have P5:=Ae.im (GR.trans tj);clear RT GR tj Jz hh ia yo;have RLn:RL.Nodup:=LR.sub.1;nofun
   -- the Nj
   refine r_enumD W.aW (by decide) RLn Ae.at λnd t zQ yp _ _ _ RP=>?_;have Aq:=P5.trans yp;have DM:nF P R=zZ RL:=by
    unfold nF zZ;rw[cE same]
    conv=>rhs;rw[FN,Up,Zt]
    rfl
   rw[DM] at Jv;refine r_nes (.inr ⟨_,_,Aq.at Jv,RP,rfl,λi x z hx hz=>?_⟩) ?_
   . rw[hx] at hz
     cases hz
     refine oea (dI hx) λp _ gy=>?_;subst gy;exact .inl ⟨p.2,rfl,rfl⟩
   have fo:zQ od=some (.list ((af P RL).map cj)):=by
    rw[yp.at Ae.at]
    conv=>lhs;rw[FN,Zt]
    rfl
   nofun
   -- the closed units,and the facts again
   refine qj W N FF EF (Y.ext (e1.trans (qD.trans Aq))) (BA.ext (e1.trans (qD.trans Aq))) LR fo (WR.ext Aq) λOb P6=>?_;have GQ:=Aq.trans P6;nofun;refine mY W N (Y.ext (e1.trans (qD.trans GQ))) LR FN ((qD.trans GQ).at Od) λfd2 RE fs2 JM n16 RR f16 Lm=>?_;have Km:=GQ.trans JM;have Kn:=(e3.trans JK).trans Km;nofun;refine r_nes (.inr ⟨_,_,f16,Kn.at RK,by rw[hO,hO,RR,Oj],λi x z hx hz=>?_⟩) ?_
   . refine oea (dI hx) λw2 ML jZ=>?_;subst jZ;refine oea (dI hz) λw1 Ra qg=>?_;subst qg;have hb:w2.aT=w1.aT:=by
      have h1:(fs2.map gI.aT)[i]?=some w2.aT:=by rw[ZP,ML];rfl
      have h2:(fs.map gI.aT)[i]?=some w1.aT:=by rw[ZP,Ra];rfl
      rw[RR,<-Oj,h2] at h1;exact(Z1 h1).symm
     have r2:=Lm w2 (Z3 ML);have r1:=(Fd w1 (Z3 Ra)).ext Kn;refine qP (xs:=[w2.r,w2.g,w2.m]) (ys:=[w1.r,w1.g,w1.m]) r2.a r1.a rfl λk a b ha cF=>?_
     match k with
     |0=>cases ha;cases cF;exact same_ints r2.r (hb▸r1.r) 4
     |1=>cases ha;cases cF;exact same_ints r2.g (hb▸r1.g) 4
     |2=>cases ha;cases cF;exact same_ints r2.m (hb▸r1.m) 4
     |k+3=>cases ha
   nofun;exact fin _ _ (e1.trans (qD.trans Km))
 . nofun
   rfl
end
end
section
section
variable {Φ:Calls}{γ:String->Option V}{h h':Hp}{Q:V->Hp->Prop}
structure Ad where
 (g p t td dk dc:Nat) (ex:List (Nat×O))
noncomputable def core(A:Ad)(bs:List ax):List Nat:=A.g::A.t::A.td::A.dk::A.dc::bs.flatMap λb=>[b.ad,b.oA]
noncomputable def ak(A:Ad)(bs:List ax):List Nat:=A.ex.map (·.1)++core A bs
noncomputable def kK(un:List Int)(b:ax):V:=if b.aa∈un then .none else .ref b.ag.ad
structure Du(j h:Hp)(un:List Int)(b:ax):Prop where
 self:h b.ad=some (.inst "KBlock" (mN b (kK un b)))
 aN:h b.oA=some (.list (b.aN.map λo=>.ref o.ad))
 params:j b.pA=some (iL b.params)
 op:∀o∈b.aN,yt j o
 ag:b.aa∉un->gf j b.ag
structure BH(h:Hp)(A:Ad)(bs:List ax)(un:List Int)(n:Int)(td:O):Prop where
 nd:(ak A bs).Nodup
 vJ:∀c∈A.ex,h c.1=some c.2
 g:h A.g=some (.list [.ref A.p,.int n])
 p:aZ (ak A bs) h A.p=some (.inst "KProgram" [("table",.ref A.t),("entry",.int 1)])
 t:h A.t=some (.dict (bs.map λb=>(b.aa,.ref b.ad)))
 td:h A.td=some td
 D:eT h A.dk A.dc
 aT:∀b∈bs,Du (aZ (ak A bs) h) h un b
variable {A:Ad}{bs:List ax}{un:List Int}{n:Int}{td:O}
theorem M9:A.g∈core A bs:=.head _
theorem QS:A.g∈ak A bs:=Zi _ M9
theorem OE:A.t∈core A bs:=.tail _ (.head _)
theorem T_:A.t∈ak A bs:=Zi _ OE
theorem GU:A.td∈core A bs:=.tail _ (.tail _ (.head _))
theorem Kb:A.td∈ak A bs:=Zi _ GU
theorem GW:A.dk∈core A bs:=.tail _ (.tail _ (.tail _ (.head _)))
theorem GD:A.dk∈ak A bs:=Zi _ GW
theorem GX:A.dc∈core A bs:=.tail _ (.tail _ (.tail _ (.tail _ (.head _))))
theorem GE:A.dc∈ak A bs:=Zi _ GX
theorem GY{b:ax}(hb:b∈bs):b.ad∈core A bs:=.tail _ (.tail _ (.tail _ (.tail _ (.tail _ (Zm.mpr ⟨b,hb,.head _⟩)))))
theorem PC{b:ax}(hb:b∈bs):b.ad∈ak A bs:=Zi _ (GY hb)
theorem GV{b:ax}(hb:b∈bs):b.oA∈core A bs:=.tail _ (.tail _ (.tail _ (.tail _ (.tail _ (Zm.mpr ⟨b,hb,.tail _ (.head _)⟩)))))
theorem PB{b:ax}(hb:b∈bs):b.oA∈ak A bs:=Zi _ (GV hb)
theorem BH.live(X:BH h A bs un n td):jN (ak A bs) h:=λz m=>by
 refine oeeaa X.D.st λm0 cs f1 f2 _=>?_;rcases Zg.mp m with m|m
 . refine oea (Zn.mp m) λc hc bV=>?_;subst bV;exact aG (X.vJ c hc)
 rcases Zp.mp m with rfl|m
 . exact aG X.g
 rcases Zp.mp m with rfl|m
 . exact aG X.t
 rcases Zp.mp m with rfl|m
 . exact aG X.td
 rcases Zp.mp m with rfl|m
 . exact aG f1
 rcases Zp.mp m with rfl|m
 . exact aG f2
 refine oea (Zm.mp m) λb hb m=>?_;rcases Zp.mp m with rfl|m
 . exact aG (X.aT b hb).self
 . rw[Zc.mp m];exact aG (X.aT b hb).aN
theorem BH.rm(X:BH h A bs un n td){c:Nat×O}(m:c∈A.ex){y:Nat}(hy:y∈core A bs):c.1≠y:=(ZI.mp X.nd).2.2 _ (ZF m) _ hy
theorem BH.ne(X:BH h A bs un n td):(A.g≠A.t/\A.g≠A.td/\A.g≠A.dk/\A.g≠A.dc)/\(A.t≠A.td/\A.t≠A.dk/\A.t≠A.dc)/\(A.td≠A.dk/\A.td≠A.dc)/\∀b∈bs,(b.ad≠A.g/\b.ad≠A.t/\b.ad≠A.td/\b.ad≠A.dk/\b.ad≠A.dc)/\(b.oA≠A.g/\b.oA≠A.t/\b.oA≠A.td/\b.oA≠A.dk/\b.oA≠A.dc):=by
 have N:=(ZI.mp X.nd).2.1;unfold core at N;rw[ZC,ZC,ZC,ZC,ZC] at N;refine oaaaaa N λn1 n2 n3 n4 n5 _=>?_;try clear N
 refine⟨⟨λe=>n1 (e▸.head _),λe=>n1 (e▸.tail _ (.head _)),λe=>n1 (e▸.tail _ (.tail _ (.head _))),λe=>n1 (e▸.tail _ (.tail _ (.tail _ (.head _))))⟩,⟨λe=>n2 (e▸.head _),λe=>n2 (e▸.tail _ (.head _)),λe=>n2 (e▸.tail _ (.tail _ (.head _)))⟩,⟨λe=>n3 (e▸.head _),λe=>n3 (e▸.tail _ (.head _))⟩,λb hb=>?_⟩;have ma:b.ad∈bs.flatMap λb=>[b.ad,b.oA]:=Zm.mpr ⟨b,hb,.head _⟩;have mo:b.oA∈bs.flatMap λb=>[b.ad,b.oA]:=Zm.mpr ⟨b,hb,.tail _ (.head _)⟩;exact⟨⟨λe=>n1 (e▸.tail _ (.tail _ (.tail _ (.tail _ ma)))),λe=>n2 (e▸.tail _ (.tail _ (.tail _ ma))),λe=>n3 (e▸.tail _ (.tail _ ma)),λe=>n4 (e▸.tail _ ma),λe=>n5 (e▸ma)⟩,
  ⟨λe=>n1 (e▸.tail _ (.tail _ (.tail _ (.tail _ mo)))),λe=>n2 (e▸.tail _ (.tail _ (.tail _ mo))),λe=>n3 (e▸.tail _ (.tail _ mo)),λe=>n4 (e▸.tail _ mo),λe=>n5 (e▸mo)⟩⟩
theorem BH.Mx(X:BH h A bs un n td):(bs.flatMap λb=>[b.ad,b.oA]).Nodup:=by
 have N:=(ZI.mp X.nd).2.1;unfold core at N;rw[ZC,ZC,ZC,ZC,ZC] at N;exact N.2.2.2.2.2
theorem BH.inj(X:BH h A bs un n td){b c:ax}(hb:b∈bs)(hc:c∈bs):(b.ad=c.ad->b=c)/\(b.oA=c.oA->b=c)/\b.ad≠c.oA:=
 ⟨λe=>cg X.Mx hb hc (.head _) (e▸.head _),λe=>cg X.Mx hb hc (.tail _ (.head _)) (e▸.tail _ (.head _)),λe=>by
  have k:=cg X.Mx hb hc (x:=b.ad) (.head _) (e▸.tail _ (.head _));subst k;exact(ZC.mp (eg X.Mx hb)).1 (e▸.head _)⟩
theorem Du.nD{j j' h:Hp}{b:ax}(x:Du j h un b)(e:Ext j j')(a:h' b.ad=h b.ad)(o:h' b.oA=h b.oA):Du j' h' un b:=⟨a.trans x.self,o.trans x.aN,e.at x.params,λp hp=>(x.op p hp).ext e,λz=>(x.ag z).ext e⟩
theorem eT.keep{dk dc:Nat}(D:eT h dk dc)(a:h' dk=h dk)(b:h' dc=h dc):eT h' dk dc:=
 oeeaa D.st λm cs x y z=>⟨⟨m,cs,a.trans x,b.trans y,z⟩,D.ne⟩
theorem BH.cJ(e:∀x,x∉ak A bs->h x≠none->h' x=h x):Ext (aZ (ak A bs) h) (aZ (ak A bs) h'):=λx hx=>by
 have m:x∉ak A bs:=λm=>hx (cC m);rw[aX m] at hx ⊢;rw[aX m,e x m hx]
theorem BH.ext(X:BH h A bs un n td)(e:Ext h h'):BH h' A bs un n td:=
 have E:=bv (S:=ak A bs) (S':=ak A bs) (λ_=>.inl) e
 ⟨X.nd,λc m=>e.at (X.vJ c m),e.at X.g,E.at X.p,e.at X.t,e.at X.td,X.D.ext e,λb hb=>(X.aT b hb).nD E (e _ (aG (X.aT b hb).self)) (e _ (aG (X.aT b hb).aN))⟩
structure G8(h h':Hp)(A:Ad)(n:Int):Prop where
 fr:∀x,x≠A.g->h' x=h x
 g:h' A.g=some (.list [.ref A.p,.int n])
theorem BH.rj{n':Int}(X:BH h A bs un n td)(G:G8 h h' A n'):BH h' A bs un n' td/\Ext (aZ (ak A bs) h) (aZ (ak A bs) h'):=by
 refine oaaa X.ne λcw _ _ d=>?_;refine oaaa cw λd1 d2 d3 d4=>?_;try clear cw
 have E:=BH.cJ (bs:=bs) λx m _=>G.fr x λ(e:x=A.g)=>m (e▸QS);exact⟨⟨X.nd,λc m=>(G.fr _ (X.rm m M9)).trans (X.vJ c m),G.g,E.at X.p,(G.fr _ d1.symm).trans X.t,(G.fr _ d2.symm).trans X.td,X.D.keep (G.fr _ d3.symm) (G.fr _ d4.symm),λb hb=>(X.aT b hb).nD E (G.fr _ (d b hb).1.1) (G.fr _ (d b hb).2.1)⟩,E⟩
theorem BH.ro(X:BH h A bs un n td)(fr:∀x,x≠A.dk->x≠A.dc->h' x=h x)(D:eT h' A.dk A.dc):BH h' A bs un n td/\Ext (aZ (ak A bs) h) (aZ (ak A bs) h'):=by
 refine oaaa X.ne λc8 dW gW d=>?_;refine oaaa c8 λ_ _ d3 d4=>?_;try clear c8;refine oaa dW λ_ t3 t4=>?_;try clear dW;refine oa gW λk1 k2=>?_;try clear gW
 have E:=BH.cJ (bs:=bs) λx m _=>fr x (λ(e:x=A.dk)=>m (e▸GD)) λ(e:x=A.dc)=>m (e▸GE);exact⟨⟨X.nd,λc m=>(fr _ (X.rm m GW) (X.rm m GX)).trans (X.vJ c m),(fr _ d3 d4).trans X.g,E.at X.p,(fr _ t3 t4).trans X.t,(fr _ k1 k2).trans X.td,D,λb hb=>(X.aT b hb).nD E (fr _ (d b hb).1.2.2.2.1 (d b hb).1.2.2.2.2) (fr _ (d b hb).2.2.2.2.1 (d b hb).2.2.2.2.2)⟩,E⟩
theorem BH.EQ{Nr:O}(X:BH h A bs un n td)(p:Put h A.td Nr h'):BH h' A bs un n Nr/\Ext (aZ (ak A bs) h) (aZ (ak A bs) h'):=by
 refine oaaa X.ne λgE kE jX d=>?_;refine oaa gE λ_ d2 _=>?_;try clear gE;refine oa kE λt2 _=>?_;try clear kE;refine oa jX λk1 k2=>?_;try clear jX
 have E:=BH.cJ (bs:=bs) λx m _=>p.ne λ(e:x=A.td)=>m (e▸Kb);exact⟨⟨X.nd,λc m=>p.to (X.rm m GU) (X.vJ c m),p.to d2 X.g,E.at X.p,p.to t2 X.t,p.at,X.D.keep (p.ne k1.symm) (p.ne k2.symm),λb hb=>(X.aT b hb).nD E (p.ne (d b hb).1.2.2.1) (p.ne (d b hb).2.2.2.1)⟩,E⟩
theorem dP(W:Wd Φ γ)(hg:h A.g=some (.list [.ref A.p,.int n]))(q:∀h',G8 h h' A (n+1)->Q (.int (n+1)) h'):Φ "_law_new" [.ref A.g] h Q:=by
 refine W.cl rfl rfl ?_;have sq:=@qF (.ref A.p) (.int n) [];nofun;refine r_setIl hg 1 rfl λh1 p=>?_;have g1:h1 A.g=some (.list [.ref A.p,.int (n+1)]):=p.at;have Jg:=@qF (.ref A.p) (.int (n+1)) [];nofun;exact q h1 ⟨λx n=>p.ne n,g1⟩
theorem BH.add(X:BH h A bs un n td){b:ax}{n':Int}(fr:∀x,x≠A.g->x≠A.t->h x≠none->h' x=h x)(na:h b.ad=none)(no:h b.oA=none)(np:h b.pA=none)(TY:b.oA≠b.ad)(TP:b.pA≠b.ad)(TM:b.pA≠b.oA)
 (g:h' A.g=some (.list [.ref A.p,.int n'])) (t:h' A.t=some (.dict ((bs++[b]).map λb=>(b.aa,.ref b.ad)))) (self:h' b.ad=some (.inst "KBlock" (mN b .none))) (aN:h' b.oA=some (.list [])) (bo:b.aN=[]) (par:h' b.pA=some (iL b.params)) (nl:∀c∈bs,c.aa≠b.aa):
 BH h' A (bs++[b]) (un++[b.aa]) n' td/\Ext (aZ (ak A bs) h) (aZ (ak A (bs++[b])) h'):=by
 refine oaaa X.ne λn_ gy jZ d=>?_;refine oaaa n_ λd1 d2 d3 d4=>?_;try clear n_;refine oaa gy λt2 t3 t4=>?_;try clear gy;refine oa jZ λk1 k2=>?_;try clear jZ
 refine oeeaa X.D.st λm0 cs f1 f2 _=>?_;have me:ak A (bs++[b])=ak A bs++[b.ad,b.oA]:=by unfold ak core;rw[Zx,ZE,Zo];rfl
 have lv:∀x∈ak A bs,x≠b.ad/\x≠b.oA:=λx m=>⟨λe=>X.live x m (e▸na),λe=>X.live x m (e▸no)⟩;have E:Ext (aZ (ak A bs) h) (aZ (ak A (bs++[b])) h'):=λx hx=>by
  have m:x∉ak A bs:=λm=>hx (cC m);rw[aX m] at hx ⊢;rw[me,aX,fr x (λ(e:x=A.g)=>m (e▸QS)) (λ(e:x=A.t)=>m (e▸T_)) hx];intro z;rcases Zg.mp z with z|z
  . exact m z
  . rcases Zp.mp z with rfl|z
    . exact hx na
    . exact hx (Zc.mp z▸no)
 have pn:b.pA∉ak A (bs++[b]):=λz=>by
  rw[me] at z;rcases Zg.mp z with z|z
  . exact X.live _ z np
  . rcases Zp.mp z with z|z
    . exact TP z
    . exact TM (Zc.mp z)
 refine⟨⟨?_,λc m=>(fr _ (X.rm m M9) (X.rm m OE) (aG (X.vJ c m))).trans (X.vJ c m),g,E.at X.p,t,(fr _ d2.symm t2.symm (aG X.td)).trans X.td,X.D.keep (fr _ d3.symm t3.symm (aG f1)) (fr _ d4.symm t4.symm (aG f2)),λc hc=>?_⟩,E⟩
 . rw[me];refine ZI.mpr ⟨X.nd,ZC.mpr ⟨λz=>TY (Zc.mp z).symm,Z4 _ _⟩,λx hx y hy e=>?_⟩;rcases Zp.mp hy with z|z
   . exact(lv x hx).1 (e.trans z)
   . exact(lv x hx).2 (e.trans (Zc.mp z))
 . rcases Zg.mp hc with hc|hc
   . have B:=X.aT c hc;have lv:kK (un++[b.aa]) c=kK un c:=by
      unfold kK
      by_cases z:c.aa∈un
      . rw[if_pos z,if_pos (Zd _ z)]
      . rw[if_neg z,if_neg λk=>(Zg.mp k).elim z λk=>nl c hc (Zc.mp k)]
     exact⟨by rw[lv];exact(fr _ (d c hc).1.1 (d c hc).1.2.1 (aG B.self)).trans B.self,(fr _ (d c hc).2.1 (d c hc).2.2.1 (aG B.aN)).trans B.aN,E.at B.params,λo ho=>(B.op o ho).ext E,λz=>(B.ag λk=>z (Zd _ k)).ext E⟩
   . rw[Zc.mp hc];have lv:kK (un++[b.aa]) b= .none:=if_pos (Zi _ (.head _));exact⟨by rw[lv];exact self,by rw[aN,bo];rfl,(aX pn).trans par,(λo ho=>by rw[bo] at ho;cases ho),λz=>absurd (Zi _ (.head _)) z⟩
theorem r_newKB{k:C}{ρ:Lo}{st:List V}{Q:Po}(W:Wd Φ γ){pa:Nat}{l:Int}{s:String}
 (q:∀a h' o,Ext h h'->h a=none->h o=none->o≠a->h' o=some (.list [])->h' a=some (.inst "KBlock" (mN ⟨a,l,s,[],pa,-1,l,-1,[],o,⟨0,"",0,[],0,0,0,0⟩⟩ .none))->wp Φ γ k ρ (.ref a::st) h' Q):wp Φ γ (.new "KBlock" "KBlock.__init__" 4 k) ρ (.int (-1):: .ref pa::sv s:: .int l::st) h Q:=by
 refine r_new rfl λa h0 A=>W.cl rfl rfl ?_;have n:=A.new;nofun;intro h1 p1;nofun;intro h2 p2;nofun;intro h3 p3;nofun;intro h4 p4;nofun;intro h5 p5;nofun;intro h6 p6;nofun;intro h7 p7;nofun;intro h8 p8;have e8:=p8.im (p7.im (p6.im (p5.im (p4.im (p3.im (p2.im (p1.im A.ext n) n) n) n) n) n) n) n;nofun;intro o h9 A9;have oa:o≠a:=(A9.ne p8.at).symm;have f9:=A9.ext.at p8.at;nofun;intro iq nQ;nofun;intro ti C7;exact r_done ⟨rfl,q a ti o (C7.im (nQ.im (A9.im e8) n) n) n (e8.none A9.new) oa (C7.to oa (nQ.to oa A9.at)) C7.at⟩
end
end
section
section
variable {Φ:Calls}{γ:String->Option V}{h h':Hp}{Q:V->Hp->Prop}
variable {A:Ad}{bs:List ax}{un:List Int}{n:Int}{td:O}
structure jM(b:ax)(n:Int)(s:String)(m:Nat)(bL aw:Int):Prop where
 aa:b.aa=n+1
 aI:b.aI=s
 params:b.params=(List.range m).map λk:Nat=>n+2+(k:Int)
 ae:b.ae=if s="fun" then n+m+2 else -1
 bL:b.bL=if s="fun" then n+1 else bL
 aw:b.aw=aw
 aN:b.aN=[]
noncomputable def bJ(n:Int)(s:String)(m:Nat):Int:=n+1+m+(if s="fun" then 1 else 0)
theorem eV(W:Wd Φ γ)(X:BH h A bs un n td)(hn:∀b∈bs,b.aa<=n)(cH:bs.length<1000){s:String}{m:Nat}(hm:m<=1){bL aw:Int}
 (q:∀h' b,BH h' A (bs++[b]) (un++[b.aa]) (bJ n s m) td->Ext (aZ (ak A bs) h) (aZ (ak A (bs++[b])) h')->jM b n s m bL aw->Q (.ref b.ad) h'):
 Φ "_law_block" [.ref A.g,sv s,.int m,.int bL,.int aw] h Q:=by
 refine W.cl rfl rfl ?_;nofun;refine dP W X.g λh1 G1=>?_;have X1:=X.rj G1;nofun;refine fF W.aW (aK:=.range m) ⟨m,rfl,Zf hm (by decide),rfl⟩ rfl (List.range m) (λi=>[.int i]) rfl (λd vs h'=>G8 h1 h' A (n+1+(d.length:Int))/\vs=((List.range d.length).map λk:Nat=>n+2+(k:Int)).map V.int)
  ⟨⟨λ_ _=>rfl,by rw[G1.g];exact congrArg (λz:Int=>some (O.list [.ref A.p,.int z])) (Yx _).symm⟩,rfl⟩ (λ_ _ _ _=>trivial) (λd x r vs h' e m I=>⟨_,.inl ⟨rfl,rfl⟩,true,?_⟩) λvs h2 pa h3 I A3=>?_
 . refine oa I λI1 I2=>?_;try clear I
   refine r_lit (r_done_val ⟨rfl,?_⟩);show wp _ _ _ _ _ _ _;nofun;refine dP W I1.g λh3 G3=>r_done_val ⟨⟨λx hx=>(G3.fr x hx).trans (I1.fr x hx),?_⟩,?_⟩
   . rw[G3.g,Zb];exact congrArg (λz:Int=>some (O.list [.ref A.p,.int z])) (VK ..)
   . rw[I2,Zb,Ye,Uq,Zq,Zq];exact congrArg (λz:Int=>List.map V.int _++[V.int z]) (by show n+1+(d.length:Int)+1=n+2+(d.length:Int);exact ZA ((aj 0x10152001221001510012220011) _ _) ((aj 0x11001510012220152001220011) _ _))
 refine oa I λG2 bV=>?_;try clear I;subst bV
 rw[Z2] at G2 A3;have X2:=X1.1.rj G2;nofun;refine r_newKB W λa h4 o e4 na no oa fo fa=>?_;have IL:=A3.ext.none na;have NH:=A3.ext.none no;have Pn:=A3.ext.trans e4;have f4:=e4.at A3.at;have d1:pa≠a:=aB na A3.at;have d2:pa≠o:=aB no A3.at;have ga:a≠A.g:=(aB IL X2.1.g).symm;have go:o≠A.g:=(aB NH X2.1.g).symm;have gp:pa≠A.g:=(aB A3.new X2.1.g).symm;nofun;intro h5 p5;nofun;refine r_join (λh' v=>h5=h'/\v= .int (if s="fun" then n+1 else bL)) (λw K hK=>?_) (λw K hK=>?_) λh' v ⟨e,ev⟩=>?_
 . rw[if_pos (beq_iff_eq.mp w)] at hK;nofun;exact r_done (hK _ _ ⟨rfl,rfl⟩)
 . rw[if_neg λz=>Bool.noConfusion ((beq_iff_eq.mpr z).symm.trans w)] at hK;nofun;exact r_done (hK _ _ ⟨rfl,rfl⟩)
 subst e ev;nofun;intro h6 p6;have FX:Ext h2 h6:=p6.im (p5.im Pn IL) IL;nofun;refine r_if (λh'=>(∀x,x≠a->x≠A.g->h' x=h6 x)/\h' A.g=some (.list [.ref A.p,.int (bJ n s m)])/\h' a=some (.inst "KBlock" (mN ⟨a,n+1,s,[],pa,if s="fun" then n+m+2 else -1,if s="fun" then n+1 else bL,aw,[],o,⟨0,"",0,[],0,0,0,0⟩⟩ .none))) (λw K hK=>?_) (λw K hK=>?_) λh7 lH=>oaa lH λOh g7 a7=>?_
 . have w':=beq_iff_eq.mp w;nofun;refine dP W (FX.at G2.g) λh7 G7=>?_;have a7:=(G7.fr a ga).trans p6.at;nofun;intro h8 p8;refine r_done (hK _ ⟨λx x1 x2=>(p8.ne x1).trans (G7.fr x x2),(p8.to ga.symm G7.g).trans ?_,p8.at.trans ?_⟩)
   . unfold bJ;rw[if_pos w']
   . rw[if_pos w',if_pos w',show n+(m:Int)+2=n+1+m+1 by exact ZA ((aj 0x11001510012222001501220011) _ _) ((aj 0x12001501221001510012220011) _ _)];rfl
 . have w':¬ s="fun":=λz=>Bool.noConfusion ((beq_iff_eq.mpr z).symm.trans w);refine r_done (hK _ ⟨λx _ _=>rfl,(FX.at G2.g).trans ?_,p6.at.trans ?_⟩)
   . unfold bJ;rw[if_neg w',Yx]
   . rw[if_neg w',if_neg w'];rfl
 have GK:∀x,x≠A.g->h2 x≠none->h7 x=h2 x:=λx x1 hx=>(Oh x (λ(e:x=a)=>hx (e▸IL)) x1).trans (FX x hx);have hp:=bm.at X2.1.p;have pg:A.p≠A.g:=λe=>by rw[e,G2.g] at hp;cases hp
 have p7:=(GK _ pg (aG hp)).trans hp;have t7:=(GK _ X2.1.ne.1.1.symm (aG X2.1.t)).trans X2.1.t;have ta:A.t≠a:=aB IL X2.1.t;have SZ:A.t≠o:=aB NH X2.1.t;have tp:A.t≠pa:=aB A3.new X2.1.t;have Mp:=@xd (.ref A.p) [.int (bJ n s m)];nofun;refine W.cl rfl rfl ?_;nofun;refine r_setId t7 (by rw[Za];exact ZK cH (by decide)) λh8 p8=>?_;rw[iO (by
  intro z;refine oea (Zn.mp z) λp hp e=>?_;refine oea (Zn.mp hp) λc hc cw=>?_;subst cw;exact absurd (hn c hc) (by show ¬ c.aa<=n;rw[show c.aa=n+1 from e];exact λcy=>(aj 0x1b01100120101) _ cy))] at p8
 refine r_done_ret ?_;nofun;have T:=X2.1.add (h':=h8) (b:=⟨a,n+1,s,(List.range m).map λk:Nat=>n+2+(k:Int),pa,if s="fun" then n+m+2 else -1,if s="fun" then n+1 else bL,aw,[],o,⟨0,"",0,[],0,0,0,0⟩⟩) (n':=bJ n s m)
  (λx x1 x2 hx=>(p8.ne x2).trans (GK x x1 hx)) IL NH A3.new oa d1 d2 (p8.to X2.1.ne.1.1 g7) (by rw[p8.at,Zq];rfl) (p8.to ta.symm a7) (p8.to SZ.symm ((Oh o oa go).trans (p6.to oa (p5.to oa fo)))) rfl (p8.to tp.symm ((Oh pa d1 gp).trans (p6.to d1 (p5.to d1 f4)))) λc hc e=>by
   have:=hn c hc;have:c.aa=n+1:=e
   (rename_i jH;exact(aj 0x110b1101010112012202) c.aa n this jH)
 exact q h8 _ T.1 (X1.2.trans (X2.2.trans T.2)) ⟨rfl,rfl,rfl,rfl,rfl,rfl,rfl⟩
end
end
section
section
variable {Φ:Calls}{γ:String->Option V}{h h':Hp}{Q:V->Hp->Prop}
variable {A:Ad}{bs:List ax}{un:List Int}{n:Int}{td:O}
noncomputable def qE(bs:List ax)(l:Int)(f:ax->ax):List ax:=bs.map λb=>if b.aa=l then f b else b
noncomputable abbrev cp(bs:List ax)(l:Int)(o:Op):List ax:=qE bs l λb=>{b with aN:=b.aN++[o]}
noncomputable abbrev f_(bs:List ax)(l:Int)(x:Last):List ax:=qE bs l λb=>{b with ag:=x}
theorem dG{l:Int}{f:ax->ax}{b:ax}:b∈qE bs l f↔∃c∈bs,b=if c.aa=l then f c else c:=by
 unfold qE;rw[Zn];constructor<;>(intro z_;refine oea z_ λc h e=>?_;exact⟨c,h,e.symm⟩)
theorem kX{l:Int}{f:ax->ax}(h:∀b,(f b).ad=b.ad/\(f b).oA=b.oA):ak A (qE bs l f)=ak A bs:=by
 unfold ak core qE;rw[List.flatMap_map];have e:(λb:ax=>[(if b.aa=l then f b else b).ad,(if b.aa=l then f b else b).oA])=λb=>[b.ad,b.oA]:=funext λb=>by
  split
  . rw[(h b).1,(h b).2]
  . rfl
 rw[e]
theorem xt{l:Int}{f:ax->ax}(h:∀b,(f b).ad=b.ad/\(f b).aa=b.aa):((qE bs l f).map λb=>(b.aa,V.ref b.ad))=bs.map λb=>(b.aa,V.ref b.ad):=by
 unfold qE;rw[Zt];refine Yn λb _=>?_;show ((if b.aa=l then f b else b).aa,V.ref (if b.aa=l then f b else b).ad)=_;split
 . rw[(h b).1,(h b).2]
 . rfl
theorem BH.nD(X:BH h A bs un n td){x:Nat}{o:O}(z:h x=none)(e:h' x=some o):aZ (ak A bs) h' x=some o:=(aX λm=>X.live x m z).trans e
theorem BH.rx(X:BH h A bs un n td){ai:ax}(ho:ai∈bs)(lD:∀b∈bs,b.aa=ai.aa->b=ai){o:Op}(O:yt (aZ (ak A bs) h) o)(p:Put h ai.oA (.list (ai.aN.map (λo=>V.ref o.ad)++[.ref o.ad])) h'):
 BH h' A (cp bs ai.aa o) un n td/\aZ (ak A (cp bs ai.aa o)) h'=aZ (ak A bs) h:=by
 refine oaaa X.ne λ_ _ _ d=>?_;refine oaaaa ((d ai ho).2) λg1 g2 g3 g4 g5=>?_;have me:ak A (cp bs ai.aa o)=ak A bs:=kX λb=>⟨rfl,rfl⟩;have he:aZ (ak A (cp bs ai.aa o)) h'=aZ (ak A bs) h:=by rw[me];exact fk (PB ho) p
 refine⟨⟨me▸X.nd,λc m=>p.to (X.rm m (GV ho)) (X.vJ c m),p.to g1.symm X.g,he▸X.p,(p.to g2.symm X.t).trans (congrArg (λz=>some (Mine.O.dict z)) (xt (f:=λb=>{b with aN:=b.aN++[o]}) λb=>⟨rfl,rfl⟩).symm),p.to g3.symm X.td,X.D.keep (p.ne g4.symm) (p.ne g5.symm),λb hb=>?_⟩,he⟩;rw[he];refine oea (dG.mp hb) λc hc bV=>?_;subst bV;have B:=X.aT c hc
 by_cases z:c.aa=ai.aa
 . have:=lD c hc z;subst this;rw[if_pos rfl];exact⟨p.to (X.inj hc hc).2.2 B.self,by rw[p.at,Zq];rfl,B.params,λo' je=>(Zg.mp je).elim (B.op o') λk=>Zc.mp k▸O,B.ag⟩
 . rw[if_neg z];exact⟨p.to (X.inj hc ho).2.2 B.self,p.to (λe=>z (congrArg ax.aa ((X.inj hc ho).2.1 e))) B.aN,B.params,B.op,B.ag⟩
theorem BH.DD(X:BH h A bs un n td){ai:ax}(ho:ai∈bs)(lD:∀b∈bs,b.aa=ai.aa->b=ai){x:Last}(Lx:gf (aZ (ak A bs) h) x)(p:Put h ai.ad (.inst "KBlock" (mN ai (.ref x.ad))) h'):
 BH h' A (f_ bs ai.aa x) (un.filter λl=>l != ai.aa) n td/\aZ (ak A (f_ bs ai.aa x)) h'=aZ (ak A bs) h:=by
 refine oaaa X.ne λ_ _ _ d=>?_;refine oaaaa ((d ai ho).1) λg1 g2 g3 g4 g5=>?_;have me:ak A (f_ bs ai.aa x)=ak A bs:=kX λb=>⟨rfl,rfl⟩;have he:aZ (ak A (f_ bs ai.aa x)) h'=aZ (ak A bs) h:=by rw[me];exact fk (PC ho) p
 have hu:∀l,l∈un.filter (λl=>l != ai.aa)↔l∈un/\l≠ai.aa:=λl=>by rw[ZG,bne_iff_ne]
 refine⟨⟨me▸X.nd,λc m=>p.to (X.rm m (GY ho)) (X.vJ c m),p.to g1.symm X.g,he▸X.p,(p.to g2.symm X.t).trans (congrArg (λz=>some (Mine.O.dict z)) (xt (f:=λb=>{b with ag:=x}) λb=>⟨rfl,rfl⟩).symm),p.to g3.symm X.td,X.D.keep (p.ne g4.symm) (p.ne g5.symm),λb hb=>?_⟩,he⟩;rw[he];refine oea (dG.mp hb) λc hc cw=>?_;subst cw;have B:=X.aT c hc
 by_cases z:c.aa=ai.aa
 . have:=lD c hc z;subst this;rw[if_pos rfl];refine⟨?_,p.to (X.inj hc hc).2.2.symm B.aN,B.params,B.op,λ_=>Lx⟩;have:kK (un.filter λl=>l != c.aa) {c with ag:=x}= .ref x.ad:=if_neg λz=>((hu _).mp z).2 rfl;rw[this];exact p.at
 . rw[if_neg z];have lv:kK (un.filter λl=>l != ai.aa) c=kK un c:=by
    unfold kK
    by_cases y:c.aa∈un
    . rw[if_pos y,if_pos ((hu _).mpr ⟨y,z⟩)]
    . rw[if_neg y,if_neg λk=>y ((hu _).mp k).1]
   exact⟨by rw[lv];exact p.to (λe=>z (congrArg ax.aa ((X.inj hc ho).1 e))) B.self,p.to (X.inj ho hc).2.2.symm B.aN,B.params,B.op,λy=>B.ag λk=>y ((hu _).mpr ⟨k,z⟩)⟩
section
variable {k:C}{ρ:Lo}{st:List V}{Q:Po}
theorem r_newKOp(W:Wd Φ γ){aA:Nat}{r num:Int}{w:String}
 (q:∀a rA lA h',Ext h h'->h a=none->h rA=none->h lA=none->rA≠a->lA≠a->h' a=some (.inst "KOp" [("result",.int r),("word",sv w),("number",.int num),("args",.ref aA),("datum",.none),("results",.ref rA),("labels",.ref lA)])->h' rA=some (.list [])->h' lA=some (.list [])->wp Φ γ k ρ (.ref a::st) h' Q):
 wp Φ γ (.new "KOp" "KOp.__init__" 4 k) ρ (.ref aA:: .int num::sv w:: .int r::st) h Q:=by
 refine r_new rfl λa h0 A=>W.cl rfl rfl ?_;have n:=A.new;nofun;intro h1 p1;nofun;intro h2 p2;nofun;intro h3 p3;nofun;intro h4 p4;nofun;intro h5 p5;have e5:=p5.im (p4.im (p3.im (p2.im (p1.im A.ext n) n) n) n) n;nofun;intro rA h6 A6;have ra:rA≠a:=(A6.ne p5.at).symm;have f6:=A6.ext.at p5.at;nofun;intro h7 p7;have e7:=p7.im (A6.im e5) n;have r7:=p7.to ra A6.at;nofun;intro lA h8 A8;have la:lA≠a:=(A8.ne p7.at).symm;have f8:=A8.ext.at p7.at;nofun;intro h9 p9;exact r_done ⟨rfl,q a rA lA h9 (p9.im (A8.im e7) n) n (e5.none A6.new) (e7.none A8.new) ra la p9.at (p9.to ra (A8.ext.at r7)) (p9.to la A8.at)⟩
theorem r_newKL(W:Wd Φ γ){w:String}
 (q:∀a g h',Ext h h'->h a=none->h' a=some (.inst "KLast" (we ⟨a,w,-1,[],g,-1,-1,-1⟩))->h g=none->g≠a->h' g=some (.list [])->wp Φ γ k ρ (.ref a::st) h' Q):
 wp Φ γ (.new "KLast" "KLast.__init__" 1 k) ρ (sv w::st) h Q:=by
 refine r_new rfl λa h0 A=>W.cl rfl rfl ?_;have n:=A.new;nofun;intro h1 p1;nofun;intro h2 p2;have e2:=p2.im (p1.im A.ext n) n;nofun;intro g h3 A3;have ga:g≠a:=(A3.ne p2.at).symm;have f3:=A3.ext.at p2.at;nofun;intro h4 p4;nofun;intro h5 p5;nofun;intro h6 p6;nofun;intro h7 p7;exact r_done ⟨rfl,q a g h7 (p7.im (p6.im (p5.im (p4.im (A3.im e2) n) n) n) n) n p7.at (e2.none A3.new) ga (p7.to ga (p6.to ga (p5.to ga (p4.to ga A3.at))))⟩
end
theorem mZ(W:Wd Φ γ)(X:BH h A bs un n td){ai:ax}(ho:ai∈bs)(lD:∀b∈bs,b.aa=ai.aa->b=ai)(dv:ai.aN.length<=10){d:V}{pr:Bool}(hd:EH (aZ (ak A bs) h) d pr)
 (q:∀h' a aA rA lA r,BH h' A (cp bs ai.aa ⟨a,n+1,"const",-1,[],aA,d,[],rA,[],lA,pr⟩) un (n+1) td->Ext (aZ (ak A bs) h) (aZ (ak A bs) h')->aZ (ak A bs) h' r=some (iL [n+1])->Q (.ref r) h'):Φ "_law_const" [.ref A.g,.ref ai.ad,d] h Q:=by
 refine W.cl rfl rfl ?_;have dn:cI d=false:=by
  cases pr with
  |true=>refine oeea hd λa fs e _=>?_;try clear hd;rw[e];rfl
  |false=>rcases hd with e|e|⟨a,e,_⟩<;>rw[e]<;>rfl
 nofun;refine dP W X.g λh1 G=>?_;have X1:=X.rj G;nofun;intro aA h2 A2;refine r_newKOp W λa rA lA h3 e3 na nr nl d2 d3 fa fr fl=>?_;have lJ:=A2.ext.trans e3;have d1:aA≠a:=aB na A2.at;have NF:=A2.ext.none na;nofun;intro h4 p4;have yp:Ext h1 h4:=p4.im lJ NF;have X4:=X1.1.ext yp;have E4:=bv (S:=ak A bs) (S':=ak A bs) (λ_=>.inl) yp;have O:yt (aZ (ak A bs) h4) ⟨a,n+1,"const",-1,[],aA,d,[],rA,[],lA,pr⟩:=
  ⟨X1.1.nD NF p4.at,X1.1.nD A2.new (p4.to d1 (e3.at A2.at)),X1.1.nD (A2.ext.none nr) (p4.to d2 fr),X1.1.nD (A2.ext.none nl) (p4.to d3 fl),λ_=>(hd.ext X1.2).ext E4⟩
 have B4:=X4.aT ai ho;have b4:=B4.self;have o4:=B4.aN;nofun;refine r_app o4 (by rw[Za];exact Zk dv (by decide)) λh5 p5=>?_;have X5:=X4.rx ho lD O p5;have me:ak A (cp bs ai.aa ⟨a,n+1,"const",-1,[],aA,d,[],rA,[],lA,pr⟩)=ak A bs:=kX λb=>⟨rfl,rfl⟩;have f5:=p5.to (aB NF (X1.1.aT ai ho).aN).symm p4.at;nofun;intro r h6 A6;refine r_ret (q h6 a aA rA lA r (X5.1.ext A6.ext) ?_ (me▸X5.1.nD A6.new A6.at));have:=X5.2;rw[me] at this;exact X1.2.trans (E4.trans (this▸bv (λ_=>.inl) A6.ext))
end
end
section
section
variable {Φ:Calls}{γ:String->Option V}{h h':Hp}{Q:V->Hp->Prop}
variable {A:Ad}{bs:List ax}{un:List Int}{n:Int}{td:O}
theorem BH.news(X:BH h A bs un n td):Ext (news h h') (aZ (ak A bs) h'):=.mk λz=>oa (cV z) λa b=>X.nD a b
theorem B_(W:Wd Φ γ){r l:Int}(q:∀h' a aA rA lA,Ext h h'->yt (news h h') ⟨a,r,"fun",-1,[],aA,.none,[],rA,[l],lA,false⟩->Q (.ref a) h'):Φ "fun_op" [.int r,.int l] h Q:=by
 refine W.cl rfl rfl ?_;nofun;intro aA h1 A1;refine r_newKOp W λa rA lA h2 e2 na nr nl d2 d3 fa fr fl=>?_;have n0:=A1.ext.none na;have kG:=A1.ext.trans e2;nofun;intro lB h3 A3;have NL:lB≠a:=(A3.ne fa).symm;nofun;intro h4 p4;nofun;exact q h4 a aA rA lB (p4.im (A3.im kG) n0) ⟨aC n0 p4.at,aC A1.new (p4.to (aB na A1.at) (A3.ext.at (e2.at A1.at))),aC (A1.ext.none nr) (p4.to d2 (A3.ext.at fr)),aC (kG.none A3.new) (p4.to NL A3.at),λw=>absurd w (by show ¬ "fun"="const";decide)⟩
theorem Ca(W:Wd Φ γ){r l:Nat}{rs ls:List Int}(hr:h r=some (iL rs))(hl:h l=some (iL ls))(q:∀h' a aA rA lA,Ext h h'->yt (news h h') ⟨a,-1,"fix",-1,[],aA,.none,rs,rA,ls,lA,false⟩->Q (.ref a) h'):Φ "fix_op" [.ref r,.ref l] h Q:=by
 refine W.cl rfl rfl ?_;nofun;intro aA h1 A1;refine r_newKOp W λa rA lA h2 e2 na nr nl d2 d3 fa fr fl=>?_;have n0:=A1.ext.none na;have kG:=A1.ext.trans e2;nofun;intro rB h3 A3;have QD:rB≠a:=(A3.ne fa).symm;have Dg:=A3.im kG;nofun;intro h4 p4;have CX:=p4.im Dg n0;nofun;intro lB h5 A5;have NL:lB≠a:=(A5.ne p4.at).symm;nofun;intro h6 p6;nofun;exact q h6 a aA rB lB (p6.im (A5.im CX) n0) ⟨aC n0 p6.at,aC A1.new (p6.to (aB na A1.at) (A5.ext.at (p4.to (aB na A1.at) (A3.ext.at (e2.at A1.at))))),aC (kG.none A3.new) (p6.to QD (A5.ext.at (p4.to QD A3.at))),aC (CX.none A5.new) (p6.to NL A5.at),λw=>absurd w (by show ¬ "fix"="const";decide)⟩
theorem m6(W:Wd Φ γ){f t v:Int}{g:Nat}{as:List Int}(hg:h g=some (iL as))(q:∀h' a g',Ext h h'->gf (news h h') ⟨a,"call",f,as,g',t,-1,v⟩->Q (.ref a) h'):Φ "call_last" [.int f,.ref g,.int t,.int v] h Q:=by
 refine W.cl rfl rfl ?_;have g1:=W.Bm;nofun;refine r_newKL W λa g0 h1 e1 na fa n0 d0 f0=>?_;nofun;intro h2 p2;have e2:=p2.im e1 na;nofun;intro g' h3 A3;have ga:g'≠a:=(A3.ne p2.at).symm;have e3:=A3.im e2;nofun;intro h4 p4;nofun;intro h5 p5;nofun;intro h6 p6;nofun;exact q h6 a g' (p6.im (p5.im (p4.im e3 na) na) na) ⟨aC na p6.at,aC (e2.none A3.new) (p6.to ga (p5.to ga (p4.to ga A3.at)))⟩
theorem uX(W:Wd Φ γ){t:Int}{g:Nat}{as:List Int}(hg:h g=some (iL as))(q:∀h' a g',Ext h h'->gf (news h h') ⟨a,"jump",-1,as,g',t,-1,-1⟩->Q (.ref a) h'):Φ "jump_last" [.int t,.ref g] h Q:=by
 refine W.cl rfl rfl ?_;have g1:=W.Bk;nofun;refine r_newKL W λa g0 h1 e1 na fa n0 d0 f0=>?_;nofun;intro h2 p2;have e2:=p2.im e1 na;nofun;intro g' h3 A3;have ga:g'≠a:=(A3.ne p2.at).symm;have e3:=A3.im e2;nofun;intro h4 p4;nofun;exact q h4 a g' (p4.im e3 na) ⟨aC na p4.at,aC (e2.none A3.new) (p4.to ga A3.at)⟩
theorem uZ(W:Wd Φ γ){v:Int}{g:Nat}{as:List Int}(hg:h g=some (iL as))(q:∀h' a g',Ext h h'->gf (news h h') ⟨a,"give",-1,as,g',-1,-1,v⟩->Q (.ref a) h'):Φ "give_last" [.int v,.ref g] h Q:=by
 refine W.cl rfl rfl ?_;have g1:=W.Bl;nofun;refine r_newKL W λa g0 h1 e1 na fa n0 d0 f0=>?_;nofun;intro h2 p2;have e2:=p2.im e1 na;nofun;intro g' h3 A3;have ga:g'≠a:=(A3.ne p2.at).symm;have e3:=A3.im e2;nofun;intro h4 p4;nofun;exact q h4 a g' (p4.im e3 na) ⟨aC na p4.at,aC (e2.none A3.new) (p4.to ga A3.at)⟩
theorem qm(W:Wd Φ γ){f t o:Int}(q:∀h' a g',Ext h h'->gf (news h h') ⟨a,"if",f,[],g',t,o,-1⟩->Q (.ref a) h'):Φ "branch_last" [.int f,.int t,.int o] h Q:=by
 refine W.cl rfl rfl ?_;have g1:=W.uz;nofun;refine r_newKL W λa g0 h1 e1 na fa n0 d0 f0=>?_;nofun;intro h2 p2;nofun;intro h3 p3;nofun;intro h4 p4;nofun;exact q h4 a g0 (p4.im (p3.im (p2.im e1 na) na) na) ⟨aC na p4.at,aC n0 (p4.to d0 (p3.to d0 (p2.to d0 f0)))⟩
structure Ent where
 (a ad:Nat) (aa:Int) (sA:Nat) (s:List Int) (jA:Nat) (js:List (Nat×Int)) (deep:Int)
structure yI(j:Hp)(e:Ent):Prop where
 self:j e.a=some (.list [.ref e.ad,.ref e.sA,.ref e.jA,.int e.deep])
 s:j e.sA=some (iL e.s)
 js:j e.jA=some (.list (e.js.map λp=>.ref p.1))
theorem yI.ext{j j':Hp}{e:Ent}(x:yI j e)(E:Ext j j'):yI j' e:=⟨E.at x.self,E.at x.s,E.at x.js⟩
structure TH(h:Hp)(A:Ad)(bs:List ax)(un:List Int)(n:Int)(es:List Ent):Prop where
 bh:BH h A bs un n (.list (es.map λe=>.ref e.a))
 ent:∀e∈es,yI (aZ (ak A bs) h) e
variable {es:List Ent}
theorem TH.push(X:TH h A bs un n es){e:Ent}(R:yI (aZ (ak A bs) h) e)(p:Put h A.td (.list (es.map (λe=>V.ref e.a)++[.ref e.a])) h'):TH h' A bs un n (es++[e])/\aZ (ak A bs) h'=aZ (ak A bs) h:=by
 have he:aZ (ak A bs) h'=aZ (ak A bs) h:=fk Kb p;refine⟨⟨(X.bh.EQ (Nr:=.list ((es++[e]).map λe=>.ref e.a)) ?_).1,λe' m=>?_⟩,he⟩
 . rw[Zq];exact p
 . rw[he];exact(Zg.mp m).elim (X.ent e') λk=>Zc.mp k▸R
end
end
section
section
variable {Φ:Calls}{γ:String->Option V}{h h':Hp}{Q:V->Hp->Prop}
variable {A:Ad}{bs ej:List ax}{un gU:List Int}{n n':Int}{es gq:List Ent}{ai:ax}{ah rs:List Int}
noncomputable def eB(n:Int)(k:Nat):List Int:=(List.range k).map λi:Nat=>n+1+(i:Int)
theorem fQ{n x:Int}{k:Nat}:x∈eB n k↔n<x/\x<=n+k:=by
 unfold eB;rw[Zn];constructor
 . intro z_;refine oea z_ λi hi nP=>?_;subst nP;have:=Xu.mp hi;exact⟨(aj 0x1015100122011011) _ _,(aj 0x11115012015100122011014121) _ _ _ this⟩
 . intro h;exact⟨(x - n - 1).toNat,Xu.mpr (by exact(aj 0x11010111410011133115201501211011011a222) _ _ _ _ h (YC ((aj 0x111001113300001501211011011a112) _ _ _ h))),by exact ZA ((aj 0x11010151011220101101330152112) _ _ _ (YC ((aj 0x111001113300001501211011011a112) _ _ _ h))) ((aj 0x11015101122010015101101330112) _ _ _ (ZX _))⟩
theorem uc{n:Int}{k:Nat}:(eB n k).Pairwise (· < ·):=by
 unfold eB;rw[YN];exact Ve.imp λh=>by exact(aj 0x11115100122015100122111014121) _ _ _ h
theorem eE{n:Int}{k:Nat}:eB n (k+1)=(n+1)::eB (n+1) k:=by
 unfold eB;rw[List.range_succ_eq_map,Zw,Zt];refine congr (congrArg List.cons (Yx _)) (Yn λi _=>?_);show n+1+((i+1:Nat):Int)=_;exact ZA ((aj 0x10151010012221001251001220011) _ _) ((aj 0x11001251001220151010012220011) _ _)
theorem jx{n:Int}:eB n 0=[]:=rfl
theorem di{n:Int}{m:Nat}:bJ n "fun" m=n+2+m:=by unfold bJ;rw[if_pos rfl];exact ZA ((aj 0x10152001221001510012220011) _ _) ((aj 0x11001510012220152001220011) _ _)
theorem jM.seq{b:ax}{s:String}{m:Nat}{bL aw:Int}(N:jM b n s m bL aw)(n0:0<=n):bZ b=eB n (1+m+(if s="fun" then 1 else 0)):=by
 unfold bZ cZ;rw[N.aN,N.ae,N.aa,N.params,Yb,Zu,Yq,Vb,eE];refine congrArg (List.cons _) ?_;split
 . rw[if_pos (by exact(aj 0x1120015012200001000111) _ _ n0)];unfold eB;rw[Uq,Zq,YH];exact congr (congrArg _ (Yn λi _=>by exact ZA ((aj 0x10151010012220152001220011) _ _) ((aj 0x10152001220151010012220011) _ _))) (congrArg (λz:Int=>[z]) (by exact ZA ((aj 0x10151010012222001501220011) _ _) ((aj 0x12001501220151010012220011) _ _)))
 . rw[if_neg (by exact λcy=>(aj 0x1b19000100) cy),Zu];exact Yn λi _=>by exact ZA ((aj 0x10151010012220152001220011) _ _) ((aj 0x10152001220151010012220011) _ _)
theorem iN{n:Int}{k l:Nat}:eB n k++eB (n+k) l=eB n (k+l):=by
 induction k generalizing n with
 |zero=>rw[jx,XO,Xy];exact congrArg (eB · l) (Yx _)
 |succ k ih=>rw[eE,Uk,show n+((k+1:Nat):Int)=n+1+k by exact ZA ((aj 0x10151001221001250120011) _ _) ((aj 0x11001250120151001220011) _ _),ih,XR,eE]
structure kM(ai:ax)(ah:List Int)(n n':Int)(nb:List ax)(op:Op)(bX:List Ent):Prop where
 seq:∃k:Nat,n'=n+k/\nb.flatMap bZ++op.aE=eB n k
 asc:(nb.map (·.aa)).Pairwise (· < ·)
 early:nb≠[]->n<60/\nb.length<=2/\∀b∈nb,b.aa<=n+4
 cnt:(if aL op then 1 else 0)+2*(nb.length:Int)<=n' - n
 vD:∀b∈nb,b.aI="fun"/\b.bL=b.aa/\b.aw=ai.aa/\b.aN=[]/\0<=b.ae/\b.params.length<=1
 ents:bX.map (·.aa)=nb.map (·.aa)
 ent:∀e∈bX,∃b∈nb,e.ad=b.ad/\e.aa=b.aa/\e.js=[]/\∃x,x.length<=2/\(∀v∈x,v∈op.aE)/\e.s=ah++(x++b.params)
 aU:op.aU=nb.map (·.aa)
 args:∀v∈op.args,v∈ah
 shape:(op.bD="const"/\op.args=[]/\op.aU=[])\/(op.bD="fun"/\op.args=[]/\∃l,op.aU=[l])\/(op.bD="fix"/\op.args=[]/\op.bP.length=op.aU.length)\/((op.bD="prim"\/op.bD="setglobal")/\op.aU=[])
 Dh:op.bD="const"->0<=op.result
 neg:(op.bD="fix"->op.result= -1)/\(op.bD≠ "fix"->op.bP=[])/\(op.result= -1\/0<=op.result)
 len:op.args.length<=2/\op.bP.length<=2/\op.aU.length<=2
structure rN(ai:ax)(ah:List Int)(bs:List ax)(un:List Int)(n:Int)(es:List Ent)(ej:List ax)(gU:List Int)(n':Int)(gq:List Ent)(rs:List Int):Prop where
 ex:∃nb op bX,ej=cp (bs++nb) ai.aa op/\gU=un++nb.map (·.aa)/\gq=es++bX/\rs=op.aE/\kM ai ah n n' nb op bX
theorem TH.to(X:TH h A bs un n es)(T:BH h' A bs un n' (.list (es.map λe=>.ref e.a))/\Ext (aZ (ak A bs) h) (aZ (ak A bs) h')):TH h' A bs un n' es:=⟨T.1,λe he=>(X.ent e he).ext T.2⟩
theorem TH.ext(X:TH h A bs un n es)(e:Ext h h'):TH h' A bs un n es:=X.to ⟨X.bh.ext e,bv (λ_=>.inl) e⟩
theorem TH.al(X:TH h A bs un n es){a:Nat}{o:O}(A1:Alloc h a o h'):TH h' A bs un n es/\Ext (aZ (ak A bs) h) (aZ (ak A bs) h')/\aZ (ak A bs) h' a=some o:=
 ⟨X.ext A1.ext,bv (λ_=>.inl) A1.ext,X.bh.nD A1.new A1.at⟩
theorem TH.Fp(X:TH h A bs un n es):h A.td=some (.list (es.map λe=>.ref e.a)):=by
 exact X.bh.td
theorem D9{b:ax}{m:Nat}{a aA rA lA e sB jB:Nat}{d:Int}(N:jM b n "fun" m (-1) ai.aa)(hm:m<=1)(n0:0<=n)(vG:n<60):[bJ n "fun" m+1]=Op.aE ⟨a,bJ n "fun" m+1,"fun",-1,[],aA,.none,[],rA,[b.aa],lA,false⟩/\
 kM ai ah n (bJ n "fun" m+1) [b] ⟨a,bJ n "fun" m+1,"fun",-1,[],aA,.none,[],rA,[b.aa],lA,false⟩ [⟨e,b.ad,b.aa,sB,ah++b.params,jB,[],d⟩]:=by
 have g:[bJ n "fun" m+1]=Op.aE ⟨a,bJ n "fun" m+1,"fun",-1,[],aA,.none,[],rA,[b.aa],lA,false⟩:=by
  show _=if "fun"="fix" then [] else if 0<=bJ n "fun" m+1 then [bJ n "fun" m+1] else [];rw[if_neg (by decide),if_pos (by rw[di];exact(aj 0x1110015200122200001000111) _ _ n0)]
 have pl:b.params.length=m:=by rw[N.params,Za,Z2]
 refine⟨g,⟨⟨m+3,by rw[di];exact ZA ((aj 0x13001250121001520012220011) _ _) ((aj 0x11001520012223001250120011) _ _),?_⟩,Z4 _ _,λ_=>⟨vG,Yj _,λc hc=>by rw[Zc.mp hc,N.aa];exact(aj 0x140012100120001) _⟩,by rw[di,show aL _=false from rfl,Ye];simp only[Xo,if_false];exact(aj 0x10110015200122231050240020011) _ _,λc hc=>?_,rfl,λc hc=>?_,rfl,λ_ z=>(nomatch z),.inr (.inl ⟨rfl,rfl,_,rfl⟩),λw=>absurd w (by show ¬ "fun"="const";decide),⟨λw=>absurd w (by show ¬ "fun"="fix";decide),λ_=>rfl,.inr (by rw[di];show (0:Int)<=n+2+(m:Int)+1;exact(aj 0x1110015200122200001000111) _ _ n0)⟩,ZR _,ZR _,Yj _⟩⟩
 . rw[ZE,N.seq n0,if_pos rfl,<-g,show [bJ n "fun" m+1]=eB (n+((1+m+1:Nat):Int)) 1 by rw[eE,jx,di];exact congrArg (λz:Int=>[z]) (by exact ZA ((aj 0x11010011022501221001520012220011) _ _) ((aj 0x11001520012221010011022501220011) _ _)),iN];exact congrArg (eB n) (by exact YO ((aj 0x130012101001102223010) _) ((aj 0x110100110222300123010) _))
 . rw[Zc.mp hc];exact⟨N.aI,by rw[N.bL,if_pos rfl,N.aa],N.aw,N.aN,by rw[N.ae,if_pos rfl];exact(aj 0x1120015012200001000111) _ _ n0,by exact(aj 0x111101130111510013220) _ _ hm pl⟩
 . rw[Zc.mp hc];exact⟨b,.head _,rfl,rfl,rfl,[],ZR _,(λ_ z=>nomatch z),rfl⟩
theorem D_{b1 b2:ax}{a aA rA lA:Nat}{bX:List Ent}(N1:jM b1 n "fun" 1 (-1) ai.aa)(N2:jM b2 (bJ n "fun" 1) "fun" 1 (-1) ai.aa)(n0:0<=n)(vG:n<60)(hl:bX.map (·.aa)=[b1,b2].map (·.aa))
 (he:∀e∈bX,∃b∈[b1,b2],e.ad=b.ad/\e.aa=b.aa/\e.js=[]/\e.s=ah++([n+7,n+8]++b.params)):
 kM ai ah n (n+8) [b1,b2] ⟨a,-1,"fix",-1,[],aA,.none,[n+7,n+8],rA,[b1.aa,b2.aa],lA,false⟩ bX:=by
 have g:Op.aE ⟨a,-1,"fix",-1,[],aA,.none,[n+7,n+8],rA,[b1.aa,b2.aa],lA,false⟩=[n+7,n+8]:=rfl;have e1:bJ n "fun" 1=n+3:=by rw[di];exact ZA ((aj 0x1300121052001220001) _) ((aj 0x1105200122300120001) _)
 rw[e1] at N2;refine⟨⟨8,rfl,?_⟩,?_,λ_=>⟨vG,Zs _,λc hc=>?_⟩,by rw[show aL _=false from rfl];simp only[Xo,if_false,Ym,Yi];exact(aj 0x1018001231010002250240020001) _,λc hc=>?_,hl,λc hc=>?_,rfl,λ_ z=>(nomatch z),.inr (.inr (.inl ⟨rfl,rfl,rfl⟩)),λw=>absurd w (by show ¬ "fix"="const";decide),⟨λ_=>rfl,λw=>absurd rfl w,.inl rfl⟩,ZR _,Zs _,Zs _⟩
 . rw[g,ZJ,ZE,N1.seq n0,N2.seq (by exact(aj 0x113001200001000101) _ n0),if_pos rfl,show [n+7,n+8]=eB (n+((3+3:Nat):Int)) 2 by rw[eE,eE,jx];exact congr (congrArg List.cons (by exact ZA ((aj 0x1103030250122700120001) _) ((aj 0x1700121030302501220001) _))) (congrArg (λz:Int=>[z]) (by exact ZA ((aj 0x1101030302501222800120001) _) ((aj 0x1800121010303025012220001) _))),show n+3=n+((3:Nat):Int) from rfl,iN,iN]
 . refine YE.mpr ⟨λx hx=>?_,Z4 _ _⟩
   rewrite [Zc.mp hx]
   show b1.aa<b2.aa;rw[N1.aa,N2.aa];exact(aj 0x110300122100121001) _
 . rcases Zp.mp hc with rfl|hc
   . rw[N1.aa];exact(aj 0x140012100120001) _
   . rw[Zc.mp hc,N2.aa];exact(aj 0x140012103001220001) _
 . rcases Zp.mp hc with rfl|hc
   . exact⟨N1.aI,by rw[N1.bL,if_pos rfl,N1.aa],N1.aw,N1.aN,by rw[N1.ae,if_pos rfl];exact(aj 0x1120105012200001000101) _ n0,by rw[N1.params,Za,Z2];exact Zs _⟩
   . rw[Zc.mp hc];exact⟨N2.aI,by rw[N2.bL,if_pos rfl,N2.aa],N2.aw,N2.aN,by rw[N2.ae,if_pos rfl];exact(aj 0x1120105300122200001000101) _ n0,by rw[N2.params,Za,Z2];exact Zs _⟩
 . refine oeaaaa (he c hc) λb hb x1 x2 x3 x4=>?_;exact⟨b,hb,x1,x2,x3,[n+7,n+8],Zs _,λ_ z=>z,x4⟩
theorem r_todo{k:C}{ρ:Lo}{st:List V}{Q:Po}{h1:Hp}(X:TH h A bs un n es)(vK:es.length<1000){a ad sA jA:Nat}{s:List Int}{js:List (Nat×Int)}{d:Int}(A1:Alloc h a (.list [.ref ad,.ref sA,.ref jA,.int d]) h1)(l:Int)(hs:aZ (ak A bs) h sA=some (iL s))(hj:aZ (ak A bs) h jA=some (.list (js.map λp=>.ref p.1)))
 (q:∀h',TH h' A bs un n (es++[⟨a,ad,l,sA,s,jA,js,d⟩])->Ext (aZ (ak A bs) h) (aZ (ak A bs) h')->wp Φ γ k ρ st h' Q):wp Φ γ (.prim .append 1 (.pop k)) ρ (.ref a:: .ref A.td::st) h1 Q:=by
 have X1:=X.al A1;refine r_app X1.1.Fp (by rw[Za];exact ZK vK (by decide)) λh2 p=>?_;have T:=X1.1.push (e:=⟨a,ad,l,sA,s,jA,js,d⟩) ⟨X1.2.2,X1.2.1.at hs,X1.2.1.at hj⟩ p;exact q h2 T.1 (T.2▸X1.2.1)
theorem nv{Q:Po}(W:Wd Φ γ){e k:C}{ρ:Lo}{st:List V}{s:String}{m:Nat}{bL aw:Int}(X:TH h A bs un n es)(hm:m<=1)(hn:∀b∈bs,b.aa<=n)(cH:bs.length<990)
 (elt:∀(x:V) h1 zS lD n1,TH h1 A zS lD n1 es->(∀b∈bs,b∈zS)->∀K:V->Hp->Prop,(∀K':V->Hp->Prop,(∀v h2,K v h2->K' v h2)->Φ "_law_block" [.ref A.g,sv s,.int m,.int bL,.int aw] h1 K')->wp Φ γ e (bf ρ "turn" x) [] h1 (gH K))
 (fin:∀a h' b1 b2,TH h' A (bs++[b1,b2]) (un++[b1.aa,b2.aa]) (bJ (bJ n s m) s m) es->Ext (aZ (ak A bs) h) (aZ (ak A (bs++[b1,b2])) h')->jM b1 n s m bL aw->jM b2 (bJ n s m) s m bL aw->aZ (ak A (bs++[b1,b2])) h' a=some (.list [.ref b1.ad,.ref b2.ad])->wp Φ γ k ρ (.ref a::st) h' Q):
 wp Φ γ (.comp ["turn"] .range (.az (.bool true) .done) e k) ρ (.int 2::st) h Q:=by
 have wZ:∀{h1 zS lD n1},TH h1 A zS lD n1 es->(∀b∈bs,b∈zS)->(∀b∈zS,b.aa<=n1)->zS.length<1000->∀(x:V) (K:V->Hp->Prop),(∀h2 b,TH h2 A (zS++[b]) (lD++[b.aa]) (bJ n1 s m) es->Ext (aZ (ak A zS) h1) (aZ (ak A (zS++[b])) h2)->jM b n1 s m bL aw->K (.ref b.ad) h2)->wp Φ γ e (bf ρ "turn" x) [] h1 (gH K):=λY sub hn1 P3 x K hK=>
  elt x _ _ _ _ Y sub K λK' Aa=>eV W Y.bh hn1 P3 hm λh2 b X2 E2 NB=>Aa _ _ (hK h2 b ⟨X2,λe he=>(Y.ent e he).ext E2⟩ E2 NB)
 have nl:n+1<=bJ n s m:=by unfold bJ;split<;>first|exact(aj 0x1100151001222100120011) n m|exact(aj 0x1000151001222100120011) n m
 refine fF W.aW (aK:=.range 2) ⟨2,rfl,by decide,rfl⟩ rfl (List.range 2) (λi=>[.int i]) rfl (λd vs h'=>(d.length=0->h'=h/\vs=[])/\(d.length=1->∃b1,vs=[.ref b1.ad]/\TH h' A (bs++[b1]) (un++[b1.aa]) (bJ n s m) es/\Ext (aZ (ak A bs) h) (aZ (ak A (bs++[b1])) h')/\jM b1 n s m bL aw)/\
  (d.length=2->∃b1 b2,vs=[.ref b1.ad,.ref b2.ad]/\TH h' A (bs++[b1,b2]) (un++[b1.aa,b2.aa]) (bJ (bJ n s m) s m) es/\Ext (aZ (ak A bs) h) (aZ (ak A (bs++[b1,b2])) h')/\jM b1 n s m bL aw/\jM b2 (bJ n s m) s m bL aw))
  ⟨λ_=>⟨rfl,rfl⟩,λz=>(nomatch z),λz=>(nomatch z)⟩ (λ_ _ _ _=>trivial) (λd x r vs h' e _ I=>⟨_,.inl ⟨rfl,rfl⟩,true,r_lit (r_done_val ⟨rfl,?_⟩)⟩) λvs h1 a h2 I A2=>?_
 . show wp _ _ _ _ _ _ _;have dl:=(iX e).2;rw[(iX e).1] at dl;have dl2:d.length=0\/d.length=1:=by omega
   rcases dl2 with z|z
   . refine oa (I.1 z) λbV cw=>?_;subst bV;subst cw;exact wZ X (λ_ hb=>hb) hn (ZK cH (by decide)) _ _ λh2 b T E NB=>⟨(λy=>by rw[Zb,z] at y;exact nomatch y),λ_=>⟨b,rfl,T,E,NB⟩,(λy=>by rw[Zb,z] at y;exact nomatch y)⟩
   . refine oeaaa (I.2.1 z) λb1 c8 T1 E1 N1=>?_;subst c8;refine wZ T1 (λ_ hb=>Zd _ hb) (λb hb=>?_) (by rw[Zb];exact ZK (Xv cH 1) (by decide)) _ _ λh2 b T E NB=>⟨(λy=>by rw[Zb,z] at y;exact nomatch y),(λy=>by rw[Zb,z] at y;exact nomatch y),λ_=>⟨b1,b,rfl,?_,?_,N1,NB⟩⟩
     . rcases Zg.mp hb with hb|hb
       . have:=hn b hb;exact(aj 0x111112100121011100120203) _ _ _ nl this
       . rw[Zc.mp hb,N1.aa];exact nl
     . rw[Zo,Zo] at T;exact T
     . rw[Zo] at E;exact E1.trans E
 . refine oeeaaaa (I.2.2 rfl) λb1 b2 dW T E N1 N2=>?_;subst dW;have Y:=T.al A2;exact fin a h2 b1 b2 Y.1 (E.trans Y.2.1) N1 N2 Y.2.2
theorem mw(W:Wd Φ γ)(X:TH h A bs un n es)(ho:ai∈bs)(hn:∀b∈bs,b.aa<=n)(lD:∀b∈bs,b.aa=ai.aa->b=ai)(cH:bs.length<900)(n0:0<=n)(vG:n<60)(dv:ai.aN.length<=10)(vK:es.length<900){sA:Nat}(hs:aZ (ak A bs) h sA=some (iL ah))(sl:ah.length<=900){deep:Int}
 (q:∀h' ej gU n' gq rs r,rN ai ah bs un n es ej gU n' gq rs->TH h' A ej gU n' gq->Ext (aZ (ak A bs) h) (aZ (ak A ej) h')->aZ (ak A ej) h' r=some (iL rs)->Q (.ref r) h'):
 Φ "_law_procedures" [.ref A.dk,.ref A.g,.ref ai.ad,.ref sA,.ref A.td,.int deep] h Q:=by
 refine W.cl rfl rfl ?_;nofun;refine dg W X.bh.D (by decide) (by decide) λh1 d _ _ fr D=>?_;have T1:=X.bh.ro fr D;have X1:=X.to T1;nofun;refine r_ite (λ_=>?_) λ_=>?_
 . nofun;refine dg W X1.bh.D (by decide) (by decide) λh2 d d0 d2 fr D=>?_;have T2:=X1.bh.ro fr D;have X2:=X1.to T2;obtain ⟨m,rfl⟩:∃m:Nat,d=(m:Int):=⟨d.toNat,(YC d0).symm⟩;have own2:=(X2.bh.aT ai ho).self;nofun;refine eV W X2.bh hn (ZK cH (by decide)) (m:=m) (by exact(aj 0x1110013200151110) _ d2) λh3 b X3 E3 NB=>?_;nofun;refine dP W X3.g λh4 G4=>?_;have X4:=X3.rj G4;have IT:ai∈bs++[b]:=Zd _ ho;have Rv:b∈bs++[b]:=Zi _ (.head _);have own4:=(X4.1.aT ai IT).self;have GB:=(X4.1.aT ai IT).aN;have b4:=(X4.1.aT b Rv).self;nofun;refine B_ W λh5 a aA rA lA e5 O=>?_;have GA:=e5.at GB;have ub:b.aa≠ai.aa:=λe=>by have:=hn ai ho;rw[<-e,NB.aa] at this;exact(aj 0x1b01100120101) _ this
   have IG:∀c∈bs++[b],c.aa=ai.aa->c=ai:=λc hc e=>(Zg.mp hc).elim (λk=>lD c k e) λk=>absurd (Zc.mp k▸e) ub;nofun;refine r_app GA (by rw[Za];exact Zk dv (by decide)) λh6 p6=>?_;have X6:=(X4.1.ext e5).rx IT IG (O.ext X4.1.news) p6;have E46:Ext (aZ (ak A (bs++[b])) h4) (aZ (ak A (cp (bs++[b]) ai.aa ⟨a,bJ n "fun" m+1,"fun",-1,[],aA,.none,[],rA,[b.aa],lA,false⟩)) h6):=X6.2▸bv (λ_=>.inl) e5;have Sv:=E3.trans (X4.2.trans E46);have Sy:=T1.2.trans (T2.2.trans Sv);have Y6:TH h6 A _ _ _ es:=⟨X6.1,λe he=>(X2.ent e he).ext Sv⟩;have hb6:b∈cp (bs++[b]) ai.aa ⟨a,bJ n "fun" m+1,"fun",-1,[],aA,.none,[],rA,[b.aa],lA,false⟩:=dG.mpr ⟨b,Rv,(if_neg ub).symm⟩;have B6:=X6.1.aT b hb6;have b6:=B6.self;have td6:=Y6.Fp;have s6:=bm.at (Sy.at hs);have Th:=bm.at B6.params;have pl:b.params.length<=1:=by rw[NB.params,Za,Z2];exact(aj 0x1110013200151110) _ d2
   nofun;refine r_cati s6 Th (Zf (ZQ sl pl) (by decide)) λsB h7 A7=>?_;nofun;intro jB h8 A8;have Y7:=Y6.al A7;have Y8:=Y7.1.al A8;nofun;intro e h9 A9;refine r_todo Y8.1 (ZK vK (by decide)) A9 b.aa (js:=[]) (Y8.2.1.at Y7.2.2) Y8.2.2 λh9 Y9 E9=>?_;nofun;intro r iq tw;have yq:=Y9.al tw;refine r_ret_sq (r_ret (q iq _ _ _ _ [bJ n "fun" m+1] r ⟨[b],_,_,rfl,rfl,rfl,D9 NB (by exact(aj 0x1110013200151110) _ d2) n0 vG⟩ yq.1 (Sy.trans (Y7.2.1.trans (Y8.2.1.trans (E9.trans yq.2.1)))) yq.2.2))
 . nofun;refine nv W (s:="fun") (m:=1) (bL:=-1) (aw:=ai.aa) X1 (by decide) hn (ZK cH (by decide)) (λx h2 zS IG n2 Y sub K hK=>?_) λpa h2 b1 b2 X2 E2 N1 N2 fp=>?_
   . have:=(Y.bh.aT ai (sub ai ho)).self;nofun;exact hK _ λv h2 k=>r_done_val k
   nofun;refine dP W X2.bh.g λh3 G3=>?_;have X3:=X2.to (X2.bh.rj G3);nofun;refine dP W X3.bh.g λh4 G4=>?_;have X4:TH h4 A (bs++[b1,b2]) (un++[b1.aa,b2.aa]) (bJ (bJ n "fun" 1) "fun" 1+1+1) es:=X3.to (X3.bh.rj G4);have e6:bJ (bJ n "fun" 1) "fun" 1=n+6:=by rw[di,di];exact ZA ((aj 0x16001210520105200122220001) _) ((aj 0x11052010520012222600120001) _)
   replace X4:TH h4 A (bs++[b1,b2]) (un++[b1.aa,b2.aa]) (n+8) es:=by
    rw[show bJ (bJ n "fun" 1) "fun" 1+1+1=n+8 by exact ZA ((aj 0x118011210100122060112012102) _ _ e6) ((aj 0x1011010012280112060112012102) _ _ e6)] at X4;exact X4
   rw[e6,show n+6+1=n+7 by exact ZA ((aj 0x170012106001220001) _) ((aj 0x110600122700120001) _),show n+7+1=n+8 by exact ZA ((aj 0x180012107001220001) _) ((aj 0x110700122800120001) _)];nofun;intro ra h5 A5;have Y5:=X4.al A5;have Sw:=(X2.bh.rj G3).2.trans ((X3.bh.rj G4).2.trans Y5.2.1);have NV:ai∈bs++[b1,b2]:=Zd _ ho;have m1:b1∈bs++[b1,b2]:=Zi _ (.head _);have m2:b2∈bs++[b1,b2]:=Zi _ (.tail _ (.head _));have Gy:=(Y5.1.bh.aT ai NV).self;have GA:=(Y5.1.bh.aT ai NV).aN;have fp5:=bm.at (Sw.at fp);nofun;refine comp_map W.aW (λb:ax=>V.ref b.ad) cj [b1,b2] fp5 (λb h6 hb e6 K hK=>?_) λla h6 e6 _ f6=>?_
   . have bs6:=e6.at (Y5.1.bh.aT b (Zi _ hb)).self;nofun;exact hK _ e6
   have Y6:=Y5.1.ext e6;have E6:=bv (S:=ak A (bs++[b1,b2])) (S':=ak A (bs++[b1,b2])) (λ_=>.inl) e6;refine Ca W (rs:=[n+7,n+8]) (ls:=[b1.aa,b2.aa]) (e6.at A5.at) f6 λh7 a aA rA lA e7 O=>?_;have Pr:=(e6.trans e7).at GA;have u1:b1.aa≠ai.aa:=λe=>by have:=hn ai ho;rw[<-e,N1.aa] at this;exact(aj 0x1b01100120101) _ this
   have u2:b2.aa≠ai.aa:=λe=>by have:=hn ai ho;rw[<-e,N2.aa,di] at this;exact(aj 0x1b011010520012220101) _ this
   have IG:∀c∈bs++[b1,b2],c.aa=ai.aa->c=ai:=λc hc e=>by
    rcases Zg.mp hc with hc|hc
    . exact lD c hc e
    . rcases Zp.mp hc with rfl|hc
      . exact absurd e u1
      . exact absurd (Zc.mp hc▸e) u2
   nofun;refine r_app Pr (by rw[Za];exact Zk dv (by decide)) λh8 p8=>?_;have X8:=(Y6.bh.ext e7).rx NV IG (O.ext Y6.bh.news) p8;have Nf:=bv (S:=ak A (bs++[b1,b2])) (S':=ak A (bs++[b1,b2])) (λ_=>.inl) e7;have OM:=Sw.trans (E6.trans (X8.2▸Nf));have Nh:=T1.2.trans (E2.trans OM);have Y8:TH h8 A _ _ _ es:=⟨X8.1,λe he=>(Y5.1.ent e he).ext (E6.trans (X8.2▸Nf))⟩;have M4:=(E6.trans (X8.2▸Nf)).at Y5.2.2;have M5:=OM.at fp;have Of:=Nh.at hs;have kb:∀b∈[b1,b2],b∈cp (bs++[b1,b2]) ai.aa ⟨a,-1,"fix",-1,[],aA,.none,[n+7,n+8],rA,[b1.aa,b2.aa],lA,false⟩:=λb hb=>dG.mpr ⟨b,Zi _ hb,(if_neg (by
    rcases Zp.mp hb with rfl|hb
    . exact u1
    . rw[Zc.mp hb];exact u2)).symm⟩
   have kp:∀b∈[b1,b2],b.params.length<=1:=λb hb=>by
    rcases Zp.mp hb with rfl|hb
    . rw[N1.params,Za,Z2];exact Zs _
    . rw[Zc.mp hb,N2.params,Za,Z2];exact Zs _
   have PZ:=bm.at M5
   revert kb Y8 Nh M4 M5 Of
   clear X8 OM Nf p8;generalize hB:cp (bs++[b1,b2]) ai.aa ⟨a,-1,"fix",-1,[],aA,.none,[n+7,n+8],rA,[b1.aa,b2.aa],lA,false⟩=B8;intro Nh Y8 M4 M5 Of kb;nofun;refine bO W.aW (λb:ax=>V.ref b.ad) [b1,b2] (λd _ h'=>∃bX,TH h' A B8 (un++[b1.aa,b2.aa]) (n+8) (es++bX)/\Ext (aZ (ak A B8) h8) (aZ (ak A B8) h')/\bX.map (·.aa)=d.map (·.aa)/\∀e∈bX,∃b∈[b1,b2],e.ad=b.ad/\e.aa=b.aa/\e.js=[]/\e.s=ah++([n+7,n+8]++b.params))
    PZ ⟨[],by rw[Zu];exact Y8,.refl,rfl,λ_ z=>nomatch z⟩ (λd ρ h' lI=>oeaa lI λ_ _ E _=>bm.at (E.at M5)) ?_ ?_
   . intro d b rr σ h9 hd hb z_ K hK _;refine oeaaa z_ λbX Y9 E9 l9 k9=>?_;have B9:=Y9.bh.aT b (kb b hb);have b9:=B9.self;have p9:=bm.at B9.params;have s9:=bm.at (E9.at Of);have r9:h9 ra=some (iL [n+7,n+8]):=bm.at (E9.at M4);have S7:=Y9.Fp;have ll:(es++bX).length<1000:=by
      have h1:=congrArg List.length l9;have h2:=congrArg List.length hd;rw[Za,Za] at h1;rw[Zb] at h2 ⊢;rw[h1];exact Zk (ZN (Zf (ZD _ _) (YI h2)) _) (ZK (Xv vK 2) (by decide))
     nofun;refine r_cati s9 r9 (Zf (ZO sl 2) (by decide)) λx iq tw=>?_;have yq:=Y9.al tw;nofun;refine r_cati tw.at (tw.ext.at p9) (by rw[Zb];exact Zf (ZQ (ZO sl 2) (kp b hb)) (by decide)) λy ti ia=>?_;have Dj:=yq.1.al ia;nofun;intro j rg C0;have F5:=Dj.1.al C0;nofun;intro e ED Ae;refine r_todo F5.1 ll Ae b.aa (js:=[]) (F5.2.1.at Dj.2.2) F5.2.2 λzQ OG ON=>?_;refine r_done (hK _ zQ ⟨bX++[⟨e,b.ad,b.aa,y,ah++[n+7,n+8]++b.params,j,[],deep+1⟩],by rw[<-Zo];exact OG,E9.trans (yq.2.1.trans (Dj.2.1.trans (F5.2.1.trans ON))),by rw[Zq,Zq,l9];rfl,λe' he=>?_⟩);rcases Zg.mp he with he|he
     . exact k9 e' he
     . rw[Zc.mp he];exact⟨b,hb,rfl,rfl,rfl,Zo ..⟩
   . intro σ h9 z_;refine oeaaa z_ λbX Y9 E9 l9 k9=>?_;nofun;exact q h9 B8 _ _ (es++bX) [n+7,n+8] ra ⟨[b1,b2],_,bX,hB.symm,rfl,rfl,rfl,D_ N1 N2 n0 vG l9 k9⟩ Y9 (Nh.trans E9) (E9.at M4)
end
end
section
section
variable {Φ:Calls}{γ:String->Option V}{h h':Hp}{Q:V->Hp->Prop}
variable {A:Ad}{bs ej:List ax}{un gU:List Int}{n n':Int}{es gq:List Ent}{ai:ax}{ah rs:List Int}
theorem GN{op:Op}(k:Nat)(hn:n'=n+k)(g:op.aE=eB n k)(c:(if aL op then 1 else 0)<=(k:Int))(l:op.aU=[])(args:∀v∈op.args,v∈ah)(s:(op.bD="const"/\op.args=[])\/op.bD="prim"\/op.bD="setglobal")
 (Dh:op.bD="const"->0<=op.result) (res:op.bP=[]) (neg:op.result= -1\/0<=op.result) (len:op.args.length<=2):kM ai ah n n' [] op []:=by
 have nf:op.bD≠ "fix":=λe=>by
  rcases s with ⟨s,_⟩|s|s<;>rw[e] at s<;>exact absurd s (by decide)
 refine⟨⟨k,hn,by rw[g];rfl⟩,List.Pairwise.nil,λz=>absurd rfl z,by rw[hn];simp only[Yi];exact(aj 0x111101511230050240120015010112) _ _ _ c,(λ_ z=>nomatch z),rfl,(λ_ z=>nomatch z),l,args,?_,Dh,⟨λe=>absurd e nf,λ_=>res,neg⟩,len,by rw[res];exact ZR _,by rw[l];exact ZR _⟩;rcases s with ⟨s,a⟩|s
 . exact .inl ⟨s,a,l⟩
 . exact .inr (.inr (.inr ⟨s,l⟩))
theorem Ay{op:Op}(F:kM ai ah n n' [] op []):rN ai ah bs un n es (cp bs ai.aa op) un n' es op.aE:=
 ⟨[],op,[],by rw[Zu],by rw[Vd,Zu],by rw[Zu],rfl,F⟩
theorem t_{n:Int}:eB n 1=[n+1]:=by rw[eE,jx]
theorem zu{a aA rA lA:Nat}{d:V}{pr:Bool}(n0:0<=n):Op.aE ⟨a,n+1,"const",-1,[],aA,d,[],rA,[],lA,pr⟩=[n+1]/\kM ai ah n (n+1) [] ⟨a,n+1,"const",-1,[],aA,d,[],rA,[],lA,pr⟩ []:=by
 have g:Op.aE ⟨a,n+1,"const",-1,[],aA,d,[],rA,[],lA,pr⟩=[n+1]:=by
  show (if "const"="fix" then [] else if 0<=n+1 then [n+1] else [])=_;rw[if_neg (by decide),if_pos (by exact(aj 0x111001200001000101) _ n0)]
 exact⟨g,GN 1 rfl (g.trans t_.symm) (by split<;>decide) rfl (λ_ z=>nomatch z) (.inl ⟨rfl,rfl⟩) (λ_=>by show (0:Int)<=n+1;exact(aj 0x111001200001000101) _ n0) rfl (.inr (by show (0:Int)<=n+1;exact(aj 0x111001200001000101) _ n0)) (ZR _)⟩
theorem Cr{a aA rA lA:Nat}{x y:Int}(n0:0<=n)(hx:x∈ah)(hy:y∈ah):Op.aE ⟨a,n+1,"prim",9,[x,y],aA,.none,[],rA,[],lA,false⟩=[n+1]/\kM ai ah n (n+1) [] ⟨a,n+1,"prim",9,[x,y],aA,.none,[],rA,[],lA,false⟩ []:=by
 have g:Op.aE ⟨a,n+1,"prim",9,[x,y],aA,.none,[],rA,[],lA,false⟩=[n+1]:=by
  show (if "prim"="fix" then [] else if 0<=n+1 then [n+1] else [])=_;rw[if_neg (by decide),if_pos (by exact(aj 0x111001200001000101) _ n0)]
 refine⟨g,GN 1 rfl (g.trans t_.symm) (by split<;>decide) rfl (λv z=>?_) (.inr (.inl rfl)) (λw=>absurd w (by show ¬ "prim"="const";decide)) rfl (.inr (by show (0:Int)<=n+1;exact(aj 0x111001200001000101) _ n0)) (Zs _)⟩
 rcases Zp.mp z with rfl|z
 . exact hx
 . rw[Zc.mp z];exact hy
theorem D8{a aA rA lA:Nat}{x:Int}(hx:x∈ah):kM ai ah n n [] ⟨a,-1,"setglobal",3,[x],aA,.none,[],rA,[],lA,false⟩ []:=
 GN 0 (Yx _).symm rfl (by rw[show aL _=false from rfl];decide) rfl (λv z=>Zc.mp z▸hx) (.inr (.inr rfl)) (λw=>absurd w (by show ¬ "setglobal"="const";decide)) rfl (.inl rfl) (Yj _)
theorem TH.one(W:Wd Φ γ)(X:TH h A bs un n es){sA:Nat}(hs:aZ (ak A bs) h sA=some (iL ah))(s0:ah≠[])(sl:ah.length<=900)
 (q:∀h' x,x∈ah->TH h' A bs un n es->Ext (aZ (ak A bs) h) (aZ (ak A bs) h')->Q (.int x) h'):Φ "_law_one" [.ref A.dk,.ref sA] h Q:=by
 have nm:sA∉ak A bs:=λm=>by rw[cC m] at hs;cases hs
 exact yZ W X.bh.D (bm.at hs) s0 (Zk sl (by decide)) (λe=>nm (e▸GD)) (λe=>nm (e▸GE)) λh' x hx fr D=>q h' x hx (X.to (X.bh.ro fr D)) (X.bh.ro fr D).2
theorem TH.op(X:TH h A bs un n es)(ho:ai∈bs)(lD:∀b∈bs,b.aa=ai.aa->b=ai){op:Op}(O:yt (aZ (ak A bs) h) op)(p:Put h ai.oA (.list (ai.aN.map (λo=>V.ref o.ad)++[.ref op.ad])) h'):TH h' A (cp bs ai.aa op) un n es/\aZ (ak A (cp bs ai.aa op)) h'=aZ (ak A bs) h:=by
 have T:=X.bh.rx ho lD O p;exact⟨⟨T.1,λe he=>T.2▸X.ent e he⟩,T.2⟩
theorem BZ(W:Wd Φ γ)(X:TH h A bs un n es)(BA:ke γ (aZ (ak A bs) h))(ho:ai∈bs)(hn:∀b∈bs,b.aa<=n)(lD:∀b∈bs,b.aa=ai.aa->b=ai)(cH:bs.length<900)(n0:0<=n)(dv:ai.aN.length<=10)(vK:es.length<900){sA:Nat}(hs:aZ (ak A bs) h sA=some (iL ah))(s0:ah≠[])(sl:ah.length<=900){deep:Int}
 (q:∀h' ej gU n' gq rs r,rN ai ah bs un n es ej gU n' gq rs->TH h' A ej gU n' gq->Ext (aZ (ak A bs) h) (aZ (ak A ej) h')->aZ (ak A ej) h' r=some (iL rs)->Q (.ref r) h'):
 Φ "_law_op" [.ref A.dk,.ref A.g,.ref ai.ad,.ref sA,.ref A.td,.int deep] h Q:=by
 refine W.cl rfl rfl ?_;refine oea BA.empty λte ge he=>?_;nofun;refine dg W X.bh.D (by decide) (by decide) λh1 way w0 w8 fr D=>?_;have T1:=X.bh.ro fr D;have X1:=X.to T1;have kc:∀{h2 d pr} (K:V->Hp->Prop),TH h2 A bs un n es->Ext (aZ (ak A bs) h) (aZ (ak A bs) h2)->EH (aZ (ak A bs) h2) d pr->(∀v h',Q v h'->K v h')->Φ "_law_const" [.ref A.g,.ref ai.ad,d] h2 K:=λ{h2 d pr} K X2 E2 hd hK=>
  mZ W X2.bh ho lD dv hd λh3 a aA rA lA r X3 E3 hr=>hK _ _ (by
   have me:ak A (cp bs ai.aa ⟨a,n+1,"const",-1,[],aA,d,[],rA,[],lA,pr⟩)=ak A bs:=kX λb=>⟨rfl,rfl⟩;have F:=zu (ai:=ai) (ah:=ah) (a:=a) (aA:=aA) (rA:=rA) (lA:=lA) (d:=d) (pr:=pr) n0;exact q h3 _ un (n+1) es _ r (Ay F.2) ⟨X3,λe he=>by rw[me];exact(X2.ent e he).ext E3⟩ (by rw[me];exact E2.trans E3) (by rw[me,F.1];exact hr))
 nofun;refine r_ite (λw3=>?_) λw3=>?_
 . nofun;intro l h2 A2;have X2:=X1.al A2;have hd:∃d,du [.bool true,.int 5,.ref te] way=some d/\EH (aZ (ak A bs) h2) d false:=by
    have lt:=of_decide_eq_true w3;have:way=0\/way=1\/way=2:=(VT (Wv (b:=2) lt)).elim (λh=>(VT (Wv (b:=1) h)).elim (λh=>.inl (ZA (Wv (b:=0) h) w0)) λe=>.inr (.inl e)) λe=>.inr (.inr e);rcases this with rfl|rfl|rfl
    . exact⟨_,rfl,.inl rfl⟩
    . exact⟨_,rfl,.inr (.inl rfl)⟩
    . exact⟨_,rfl,.inr (.inr ⟨te,rfl,X2.2.1.at (T1.2.at he)⟩)⟩
   refine oea hd λd sq hd=>?_;nofun;exact kc _ X2.1 (T1.2.trans X2.2.1) hd λv h' k=>k
 nofun;refine r_ite (λw4=>?_) λw4=>?_
 . nofun;refine r_new rfl λa h2 A2=>W.cl rfl rfl ?_;have na:=A2.new;nofun;intro h3 p3;nofun;intro h4 p4;nofun;intro h5 p5;refine r_done ⟨rfl,?_⟩;have e5:=p5.im (p4.im (p3.im A2.ext na) na) na;have f5:=X1.bh.nD na p5.at;nofun;exact kc _ (X1.ext e5) (T1.2.trans (bv (λ_=>.inl) e5)) (pr:=true) ⟨a,_,rfl,f5⟩ λv h' k=>k
 have Jg:=@qF (.ref A.p) (.int n) [];have g1:=X1.bh.g;nofun;refine r_and (decide (n<60)) (λ_ K hK=>?_) ?_
 . nofun;exact r_done hK
 refine r_ite (λw5=>?_) λw5=>?_
 . nofun;refine mw W X1 ho hn lD cH n0 (of_decide_eq_true (Zj.mp w5).2) dv vK (T1.2.at hs) sl λh' ej gU n' gq rs r S Y E R=>?_;exact r_ret_sq (r_ret (q h' ej gU n' gq rs r S Y (T1.2.trans E) R))
 nofun;refine r_ite (λw6=>?_) λw6=>?_
 . have J7:=(X1.bh.aT ai ho).self;have ops1:=(X1.bh.aT ai ho).aN;nofun;refine X1.one W (T1.2.at hs) s0 sl λh2 x hx X2 E2=>?_;nofun;intro aA h3 A3;refine r_newKOp W λa rA lA h4 e4 na nr nl d2 d3 fa fr fl=>?_;have n2:=A3.ext.none na;have FY:=A3.ext.trans e4;have GB:=FY.at (X2.bh.aT ai ho).aN;refine r_app GB (by rw[Za];exact Zk dv (by decide)) λh5 p5=>?_;have O:yt (aZ (ak A bs) h4) ⟨a,-1,"setglobal",3,[x],aA,.none,[],rA,[],lA,false⟩:=⟨X2.bh.nD n2 fa,X2.bh.nD A3.new (e4.at A3.at),X2.bh.nD (A3.ext.none nr) fr,X2.bh.nD (A3.ext.none nl) fl,λw=>absurd w (by show ¬ "setglobal"="const";decide)⟩;have X5:=(X2.ext FY).op ho lD O p5;nofun;intro r h6 A6;have X6:=X5.1.al A6;exact r_ret_sq (r_ret (q h6 _ un n es _ r (Ay (D8 hx)) X6.1 (T1.2.trans (E2.trans ((bv (λ_=>.inl) FY).trans (X5.2▸X6.2.1)))) X6.2.2))
 nofun;refine dP W X1.bh.g λh2 G2=>?_;have T2:=X1.bh.rj G2;have X2:=X1.to T2;have S2:=T2.2.at (T1.2.at hs);nofun;refine X2.one W S2 s0 sl λh3 x hx X3 E3=>?_;nofun;refine X3.one W (E3.at S2) s0 sl λh4 y hy X4 E4=>?_;nofun;intro aA h5 A5;refine r_newKOp W λa rA lA h6 e6 na nr nl d2 d3 fa fr fl=>?_;have n4:=A5.ext.none na;have I5:=A5.ext.trans e6;have own6:=I5.at (X4.bh.aT ai ho).self;have Ps:=I5.at (X4.bh.aT ai ho).aN;nofun;refine r_app Ps (by rw[Za];exact Zk dv (by decide)) λh7 p7=>?_;have O:yt (aZ (ak A bs) h6) ⟨a,n+1,"prim",9,[x,y],aA,.none,[],rA,[],lA,false⟩:=⟨X4.bh.nD n4 fa,X4.bh.nD A5.new (e6.at A5.at),X4.bh.nD (A5.ext.none nr) fr,X4.bh.nD (A5.ext.none nl) fl,λw=>absurd w (by show ¬ "prim"="const";decide)⟩;have X7:=(X4.ext I5).op ho lD O p7;have f7:=p7.to (aB n4 (X4.bh.aT ai ho).aN).symm fa;nofun;intro r h8 A8;have X8:=X7.1.al A8;have F:=Cr (ai:=ai) (a:=a) (aA:=aA) (rA:=rA) (lA:=lA) n0 hx hy;exact r_ret (q h8 _ un (n+1) es _ r (Ay F.2) X8.1 (T1.2.trans (T2.2.trans (E3.trans (E4.trans ((bv (λ_=>.inl) I5).trans (X7.2▸X8.2.1)))))) (by rw[F.1];exact X8.2.2))
end
end
section
section
variable {Φ:Calls}{γ:String->Option V}{h h':Hp}{Q:V->Hp->Prop}
variable {A:Ad}{bs ej:List ax}{un gU:List Int}{n n':Int}{es gq:List Ent}{ai:ax}{ah:List Int}{js:List (Nat×Int)}
noncomputable abbrev Ad.lock(A:Ad)(k:Nat)(o:O):Ad:={A with ex:=(k,o)::A.ex}
theorem TH.lock(X:TH h A bs un n es){k:Nat}{o:O}(A1:Alloc h k o h'):TH h' (A.lock k o) bs un n es/\Ext (aZ (ak A bs) h) (aZ (ak (A.lock k o) bs) h'):=by
 have E:Ext (aZ (ak A bs) h) (aZ (ak (A.lock k o) bs) h'):=bv (λx m=>(Zp.mp m).elim (λe=>.inr (e▸A1.new)) .inl) A1.ext;have B:=X.bh;have e:=A1.ext;refine⟨⟨⟨ZC.mpr ⟨λm=>B.live _ m A1.new,B.nd⟩,λc m=>?_,e.at B.g,E.at B.p,e.at B.t,e.at B.td,B.D.ext e,λb hb=>(B.aT b hb).nD E (e _ (aG (B.aT b hb).self)) (e _ (aG (B.aT b hb).aN))⟩,λe he=>(X.ent e he).ext E⟩,E⟩;rcases Zp.mp m with rfl|m
 . exact A1.at
 . exact e.at (B.vJ c m)
theorem TH.unlock{k:Nat}{o:O}(X:TH h (A.lock k o) bs un n es):TH h A bs un n es/\Ext (aZ (ak (A.lock k o) bs) h) (aZ (ak A bs) h)/\aZ (ak A bs) h k=some o:=by
 have E:Ext (aZ (ak (A.lock k o) bs) h) (aZ (ak A bs) h):=bv (λx m=>.inl (Zh _ m)) .refl;have B:=X.bh;exact⟨⟨⟨(ZC.mp B.nd).2,λc m=>B.vJ c (Zh _ m),B.g,E.at B.p,B.t,B.td,B.D,λb hb=>(B.aT b hb).nD E rfl rfl⟩,λe he=>(X.ent e he).ext E⟩,E,(aX (ZC.mp B.nd).1).trans (B.vJ (k,o) (.head _))⟩
theorem TH.HH{k:Nat}{o o':O}(X:TH h (A.lock k o) bs un n es)(p:Put h k o' h'):TH h' (A.lock k o') bs un n es/\aZ (ak (A.lock k o') bs) h'=aZ (ak (A.lock k o) bs) h:=by
 have he:aZ (ak (A.lock k o') bs) h'=aZ (ak (A.lock k o) bs) h:=fk (S:=ak (A.lock k o) bs) (.head _) p;have B:=X.bh;have ne:∀y∈core A bs,y≠k:=λy hy=>(B.rm (c:=(k,o)) (.head _) hy).symm;refine⟨⟨⟨B.nd,λc m=>?_,p.to (ne _ M9) B.g,he▸B.p,p.to (ne _ OE) B.t,p.to (ne _ GU) B.td,B.D.keep (p.ne (ne _ GW)) (p.ne (ne _ GX)),λb hb=>he▸(B.aT b hb).nD .refl (p.ne (ne _ (GY hb))) (p.ne (ne _ (GV hb)))⟩,λe h=>he▸X.ent e h⟩,he⟩;rcases Zp.mp m with rfl|m
 . exact p.at
 . have nk:c.1≠k:=λe=>(ZC.mp B.nd).1 (e▸Zd _ (Zn.mpr ⟨c,m,rfl⟩));exact p.to nk (B.vJ c (Zh _ m))
structure lU(ai:ax)(ah:List Int)(js:List (Nat×Int))(k:Int)(n n':Int)(nb:List ax)(x:Last)(bX:List Ent):Prop where
 seq:∃i:Nat,n'=n+i/\nb.flatMap bZ=eB n i
 asc:(nb.map (·.aa)).Pairwise (· < ·)
 early:nb≠[]->n<60/\nb.length<=3/\∀b∈nb,b.aa<=n+4
 cnt:2*(nb.length:Int)<=n' - n+2
 vD:∀b∈nb,b.aI="cont"/\b.bL=ai.bL/\b.aw=ai.aa/\b.aN=[]/\b.ae= -1/\b.params.length<=1
 ents:bX.map (·.aa)=nb.map (·.aa)
 ent:∀e∈bX,∃b∈nb,e.ad=b.ad/\e.aa=b.aa/\(e.s=ah\/e.s=ah++b.params)/\∀p∈e.js,p∈js\/∃c∈nb,p=(c.ad,c.aa)
 shape:(x.bD="if"/\0<=x.fn/\0<=x.to/\0<=x.other/\x.args=[]/\x.ae= -1)\/(x.bD="jump"/\0<=x.to/\x.other= -1/\x.fn= -1/\x.ae= -1)\/
  (x.bD="give"/\0<=x.ae/\x.fn= -1/\x.to= -1/\x.other= -1)\/(x.bD="call"/\0<=x.fn/\x.other= -1/\((0<=x.to/\x.ae= -1)\/(x.to= -1/\0<=x.ae)))
 len:x.args.length<=1
 args:∀v∈x.args,v∈ah
 fn:x.fn= -1\/x.fn∈ah
 ae:x.ae= -1\/x.ae=k
 vA:∀t∈x.bg,t∈nb.map (·.aa)\/t∈js.map (·.2)
 call:x.bD="call"->0<=x.to->x.to∈nb.map (·.aa)
 PF:∀e∈bX,e.js.length<=js.length+1
structure rZ(ai:ax)(ah:List Int)(js:List (Nat×Int))(k:Int)(bs:List ax)(un:List Int)(n:Int)(es:List Ent)(ej:List ax)(gU:List Int)(n':Int)(gq:List Ent):Prop where
 ex:∃nb x bX,ej=f_ (bs++nb) ai.aa x/\gU=(un++nb.map (·.aa)).filter (λl=>l != ai.aa)/\gq=es++bX/\lU ai ah js k n n' nb x bX
theorem TH.ag(X:TH h A bs un n es)(ho:ai∈bs)(lD:∀b∈bs,b.aa=ai.aa->b=ai){x:Last}(L:gf (aZ (ak A bs) h) x)(p:Put h ai.ad (.inst "KBlock" (mN ai (.ref x.ad))) h'):TH h' A (f_ bs ai.aa x) (un.filter λl=>l != ai.aa) n es/\aZ (ak A (f_ bs ai.aa x)) h'=aZ (ak A bs) h:=by
 have T:=X.bh.DD ho lD L p;exact⟨⟨T.1,λe he=>T.2▸X.ent e he⟩,T.2⟩
theorem fW{m:Nat}:bJ n "cont" m=n+1+m:=by unfold bJ;rw[if_neg (by decide),Yx]
end
end
section
section
variable {Φ:Calls}{γ:String->Option V}{h h':Hp}{Q:V->Hp->Prop}
variable {A:Ad}{bs ej:List ax}{un gU:List Int}{n n':Int}{es gq:List Ent}{ai:ax}{ah:List Int}{js:List (Nat×Int)}
noncomputable abbrev jK(p:Nat×Int):V:=.ref p.1
noncomputable def Bx(ai:ax)(ah:List Int)(js:List (Nat×Int))(n:Int)(nb:List ax)(bX:List Ent)(known:List (Nat×Int))(n1:Int):Prop:=
 (nb=[]/\bX=[]/\known=js/\n1=n)\/∃b e,nb=[b]/\bX=[e]/\jM b n "cont" 1 ai.bL ai.aa/\n1=n+2/\known=js++[(b.ad,b.aa)]/\e.ad=b.ad/\e.aa=b.aa/\e.s=ah++b.params/\(e.js=js\/e.js=known)
theorem wL{nb:List ax}{bX zR:List Ent}{known:List (Nat×Int)}{n1 v k:Int}{w1 w2:ax}{a g:Nat}(J:Bx ai ah js n nb bX known n1)(n0:0<=n)(vG:n<60)(N1:jM w1 n1 "cont" 0 ai.bL ai.aa)(N2:jM w2 (n1+1) "cont" 0 ai.bL ai.aa)(hv:v∈ah)(v0:0<=v)
 (l3:zR.map (·.aa)=[w1,w2].map (·.aa)) (k3:∀e∈zR,∃b∈[w1,w2],e.ad=b.ad/\e.aa=b.aa/\e.js=known/\e.s=ah):lU ai ah js k n (n1+2) (nb++[w1,w2]) ⟨a,"if",v,[],g,w1.aa,w2.aa,-1⟩ (bX++zR):=by
 have j:n<=n1/\n1<=n+2/\(∃i:Nat,n1=n+i/\nb.flatMap bZ=eB n i)/\(nb.map (·.aa)).Pairwise (· < ·)/\(∀b∈nb,n<b.aa/\b.aa<=n1)/\nb.length<=1/\2*(nb.length:Int)<=n1 - n/\(∀b∈nb,b.aI="cont"/\b.bL=ai.bL/\b.aw=ai.aa/\b.aN=[]/\b.ae= -1/\b.params.length<=1)/\bX.map (·.aa)=nb.map (·.aa)/\
  (∀p∈known,p∈js\/∃c∈nb,p=(c.ad,c.aa))/\∀e∈bX,∃b∈nb,e.ad=b.ad/\e.aa=b.aa/\e.s=ah++b.params/\∀p∈e.js,p∈js\/p∈known:=by
  rcases J with ⟨rfl,rfl,rfl,rfl⟩|⟨b,e,rfl,rfl,N,rfl,rfl,e1,e2,e3,e4⟩
  . exact⟨Wt _,by exact(aj 0x120012010001) n1,⟨0,(Yx _).symm,rfl⟩,List.Pairwise.nil,(λ_ z=>nomatch z),ZR _,by simp only[Yi];exact(aj 0x1010130050240001) n1,(λ_ z=>nomatch z),rfl,λp hp=>.inl hp,λ_ z=>nomatch z⟩
  . refine⟨by exact(aj 0x120012010001) n,by exact(aj 0x120012200120001) n,⟨2,rfl,by rw[ZE,N.seq n0];rfl⟩,Z4 _ _,λc hc=>by rw[Zc.mp hc,N.aa];exact⟨(aj 0x110012011001) n,(aj 0x120012100120001) n⟩,Zs _,by simp only[Ye];omega,λc hc=>by rw[Zc.mp hc];exact⟨N.aI,by rw[N.bL,if_neg (by decide)],N.aw,N.aN,by rw[N.ae,if_neg (by decide)],by rw[N.params,Za,Z2];exact Zs _⟩,by rw[YH,YH,e2],λp hp=>?_,λc hc=>?_⟩
    . exact(Zg.mp hp).imp id λz=>⟨b,.head _,Zc.mp z⟩
    . rw[Zc.mp hc];refine⟨b,.head _,e1,e2,e3,λp hp=>?_⟩;rcases e4 with z|z<;>rw[z] at hp
      . exact .inl hp
      . exact .inr hp
 have jl:known.length<=js.length+1/\∀e∈bX,e.js.length<=js.length+1:=by
  rcases J with ⟨rfl,rfl,rfl,rfl⟩|⟨b,e,rfl,rfl,N,rfl,rfl,e1,e2,e3,e4⟩
  . exact⟨Yj _,λ_ z=>nomatch z⟩
  . refine⟨YI Zb,λc hc=>?_⟩;rw[Zc.mp hc];rcases e4 with z|z<;>rw[z]
    . exact Yj _
    . exact YI Zb
 refine oaaaaaaaaaa j λj1 j2 bV j4 j5 j6 j7 j8 j9 Q0 UK=>?_;try clear j;refine oea bV λi r_1 j3=>?_;try clear bV;subst r_1
 have kd:∀b∈[w1,w2],b.aI="cont"/\b.bL=ai.bL/\b.aw=ai.aa/\b.aN=[]/\b.ae= -1/\b.params.length<=1:=λb hb=>by
  rcases Zp.mp hb with rfl|hb
  . exact⟨N1.aI,by rw[N1.bL,if_neg (by decide)],N1.aw,N1.aN,by rw[N1.ae,if_neg (by decide)],by rw[N1.params];exact ZR _⟩
  . rw[Zc.mp hb];exact⟨N2.aI,by rw[N2.bL,if_neg (by decide)],N2.aw,N2.aN,by rw[N2.ae,if_neg (by decide)],by rw[N2.params];exact ZR _⟩
 have lb:∀b∈[w1,w2],n+(i:Int)<b.aa/\b.aa<=n+i+2:=λb hb=>by
  rcases Zp.mp hb with rfl|hb
  . rw[N1.aa];exact⟨(aj 0x11001501220150121011) n i,(aj 0x12001501221001501220011) n i⟩
  . rw[Zc.mp hb,N2.aa];exact⟨(aj 0x11010015012220150121011) n i,(aj 0x12001501221010015012220011) n i⟩
 refine⟨⟨i+2,by exact ZA ((aj 0x12001250122001501220011) n i) ((aj 0x12001501222001250120011) n i),?_⟩,?_,λ_=>⟨vG,by rw[Zb];exact ZO j6 2,λb hb=>?_⟩,by rw[Zb,Ym,Ye];exact(aj 0x1120012011501223210102012502400111501230150240121) n nb.length i j7,λb hb=>(Zg.mp hb).elim (j8 b) (kd b),by rw[Zq,Zq,j9,l3],λe he=>?_,.inl ⟨rfl,v0,by show (0:Int)<=w1.aa;rw[N1.aa];exact(aj 0x1110015012200001000111) n i n0,by show (0:Int)<=w2.aa;rw[N2.aa];exact(aj 0x1110100150122200001000111) n i n0,rfl,rfl⟩,ZR _,(λ_ z=>nomatch z),.inr hv,.inl rfl,λt ht=>?_,(λw=>absurd w (by show ¬ "if"="call";decide)),λe he=>(Zg.mp he).elim (jl.2 e) λz=>by refine oeaaaa (k3 e z) λb _ _ _ e3 _=>?_;rw[e3];exact jl.1⟩
 . rw[Zx,ZJ,ZE,N1.seq (by exact(aj 0x1101501200001000111) n i n0),N2.seq (by exact(aj 0x1110015012200001000111) n i n0),j3,if_neg (by decide),show n+(i:Int)+1=n+i+((1:Nat):Int) from rfl,iN,iN]
 . rw[Zq];refine Ww.mpr ⟨j4,YE.mpr ⟨λx hx=>?_,Z4 _ _⟩,λx hx y hy=>?_⟩
   . rewrite [Zc.mp hx]
     show w1.aa<w2.aa;rw[N1.aa,N2.aa];exact(aj 0x11010015012221001501221011) n i
   . refine oea (Zn.mp hx) λb hb cw=>?_;subst cw;refine oea (Zn.mp hy) λc hc c8=>?_;subst c8;exact VU (j5 b hb).2 (lb c hc).1
 . rcases Zg.mp hb with hb|hb
   . have:=j5 b hb;exact(aj 0x10114001211001501211011011a200120150120212) n b.aa i j2 this
   . have:=lb b hb;exact(aj 0x101140012110200150122110110150121a200120150120212) n b.aa i j2 this
 . rcases Zg.mp he with he|he
   . refine oeaaaa (UK e he) λb hb e1 e2 e3 e4=>?_;exact⟨b,Zd _ hb,e1,e2,.inr e3,λp hp=>(e4 p hp).elim .inl λz=>(Q0 p z).imp id λlI=>oea lI λc hc e=>⟨c,Zd _ hc,e⟩⟩
   . refine oeaaaa (k3 e he) λb hb e1 e2 e3 e4=>?_;exact⟨b,Zi _ hb,e1,e2,.inl e4,λp hp=>(Q0 p (e3▸hp)).imp id λlH=>oea lH λc hc e=>⟨c,Zd _ hc,e⟩⟩
 . have w0:0<=w1.aa:=by rw[N1.aa];exact(aj 0x1110015012200001000111) n i n0
   have SW:0<=w2.aa:=by rw[N2.aa];exact(aj 0x1110100150122200001000111) n i n0
   have:t∈(if 0<=w1.aa then [w1.aa] else [])++(if 0<=w2.aa then [w2.aa] else []):=ht;rw[if_pos w0,if_pos SW] at this;refine .inl (Zn.mpr ?_);rcases Zp.mp this with rfl|z
   . exact⟨w1,Zi _ (.head _),rfl⟩
   . exact⟨w2,Zi _ (.tail _ (.head _)),(Zc.mp z).symm⟩
theorem sr(W:Wd Φ γ)(X:TH h A bs un n es)(ho:ai∈bs)(hn:∀b∈bs,b.aa<=n)(lD:∀b∈bs,b.aa=ai.aa->b=ai)(cH:bs.length<900)(n0:0<=n)(vG:n<60)(vK:es.length<900){sA jA:Nat}(hs:aZ (ak A bs) h sA=some (iL ah))(s0:ah≠[])(sl:ah.length<=900)(sp:∀v∈ah,0<=v)
 (hj:aZ (ak A bs) h jA=some (.list (js.map jK))) (jl:js.length<=900) {deep k:Int} {t:Bool}
 (q:∀h' ej gU n' gq,rZ ai ah js k bs un n es ej gU n' gq->TH h' A ej gU n' gq->Ext (aZ (ak A bs) h) (aZ (ak A ej) h')->Q .none h'):
 Φ "_law_choice" [.ref A.dk,.ref A.g,.ref ai.ad,.ref sA,.ref jA,.ref A.td,.int deep,.bool t] h Q:=by
 refine W.cl rfl rfl ?_;have hj0:=bm.at hj;nofun;intro kA h1 A1;have X1:=X.lock A1;nofun;refine r_ifl W.aW (λh'=>∃nb bX known n1,TH h' (A.lock kA (.list (known.map jK))) (bs++nb) (un++nb.map (·.aa)) n1 (es++bX)/\Ext (aZ (ak A bs) h) (aZ (ak (A.lock kA (.list (known.map jK))) (bs++nb)) h')/\Bx ai ah js n nb bX known n1) (λw K hK=>?_) (λw K hK=>?_) λσ h2 rc=>oeeeeaa rc λnb bX known n1 X2 E2 J=>?_
 . have J7:=(X1.1.bh.aT ai ho).self;nofun;refine eV W X1.1.bh hn (ZK cH (by decide)) (s:="cont") (m:=1) (by decide) λh2 b X2 E2 NB=>?_;have Y2:TH h2 _ _ _ _ es:=⟨X2,λe he=>(X1.1.ent e he).ext E2⟩;have B2:=X2.aT b (Zi _ (.head _));have b2:=B2.self;have S9:=Y2.Fp;have s2:=bm.at (E2.at (X1.2.at hs));have Nw:=bm.at B2.params;have pl:b.params.length<=1:=by rw[NB.params,Za,Z2];exact Zs _
   nofun;refine r_cati s2 Nw (Zf (ZQ sl pl) (by decide)) λsB h3 A3=>?_;have Y3:=Y2.al A3;nofun;refine dg W Y3.1.bh.D (by decide) (by decide) λh4 d _ _ fr D=>?_;have T4:=Y3.1.bh.ro fr D;have Y4:=Y3.1.to T4;have j4:=T4.2.at (Y3.2.1.at (E2.at (X1.2.at hj)));have UJ:=bm.at j4;nofun;refine r_join (λh' v=>∃jB tc,v= .ref jB/\TH h' (A.lock kA (.list (js.map jK))) (bs++[b]) (un++[b.aa]) (bJ n "cont" 1) es/\Ext (aZ (ak (A.lock kA (.list (js.map jK))) (bs++[b])) h4) (aZ (ak (A.lock kA (.list (js.map jK))) (bs++[b])) h')/\aZ (ak (A.lock kA (.list (js.map jK))) (bs++[b])) h' jB=some (.list (tc.map jK))/\(tc=js\/tc=js++[(b.ad,b.aa)])) (λ_ K hK=>?_) (λ_ K hK=>?_) λh5 v xY=>oeeaaaa xY λjB tc ev Y5 E5 f5 NZ=>?_
   . nofun;intro l h5 A5;have Y5:=Y4.al A5;refine r_cat (A5.ext.at UJ) A5.at (Zf (ZQ (Zf (YI (Za ..)) jl) (Zs 1)) (by decide)) λjB h6 A6=>?_;have Y6:=Y5.1.al A6;exact r_done (hK _ _ ⟨jB,js++[(b.ad,b.aa)],rfl,Y6.1,Y5.2.1.trans Y6.2.1,by rw[Zq];exact Y6.2.2,.inr rfl⟩)
   . nofun;exact r_done (hK _ _ ⟨jA,js,rfl,Y4,.refl,j4,.inl rfl⟩)
   subst ev;nofun;intro e h6 A6;refine r_todo Y5 (ZK vK (by decide)) A6 b.aa (E5.at (T4.2.at Y3.2.2)) f5 λh7 Y7 E7=>?_;have k7:=Y7.bh.vJ (kA,_) (.head _);nofun;refine r_app k7 (by rw[Za];exact Zk jl (by decide)) λh8 p8=>?_;have Y8:=Y7.HH (o':=.list ((js++[(b.ad,b.aa)]).map jK)) (by rw[Zq];exact p8);refine r_done (hK _ h8 ⟨[b],_,js++[(b.ad,b.aa)],_,Y8.1,X1.2.trans (E2.trans (Y3.2.1.trans (T4.2.trans (E5.trans (Y8.2▸E7))))),.inr ⟨b,_,rfl,rfl,NB,by rw[fW];exact VK ..,rfl,rfl,rfl,rfl,NZ⟩⟩)
 . exact r_done (hK _ h1 ⟨[],[],js,n,by rw[Zu,Vd,Zu,Zu];exact X1.1,by rw[Zu];exact X1.2,.inl ⟨rfl,rfl,rfl,rfl⟩⟩)
 have Jw:n<=n1/\(∀b∈nb,b.aa<=n1/\b.aa≠ai.aa)/\nb.length<=1/\bX.length<=1:=by
  rcases J with ⟨rfl,rfl,rfl,rfl⟩|⟨b,e,rfl,rfl,N,rfl,_⟩
  . exact⟨Wt _,(λ_ z=>nomatch z),ZR _,ZR _⟩
  . exact⟨by exact(aj 0x120012010001) n,λc hc=>by
     have:=hn ai ho;rw[Zc.mp hc,N.aa];exact⟨(aj 0x120012100120001) n,λcy=>(aj 0x11b0110112211010202) ai.aa n this cy⟩,Zs _,Zs _⟩
 have z8:ai∈bs++nb:=Zd _ ho;nofun;refine nv W (s:="cont") (m:=0) (bL:=ai.bL) (aw:=ai.aa) X2 (by decide) (λb hb=>(Zg.mp hb).elim (λz=>V4 (hn b z) Jw.1) λz=>(Jw.2.1 b z).1) (by rw[Zb];exact ZK (Nat.add_lt_add_of_lt_of_le cH Jw.2.2.1) (by decide)) (λx h3 zS un3 n3 Y sub K hK=>?_) λpa h3 w1 w2 X3 E3 N1 N2 fp=>?_
 . have:=(Y.bh.aT ai (sub ai z8)).self;nofun;exact hK _ λv h2 k=>r_done_val k
 have U:=X3.unlock;have MQ:=U.2.1.at (E3.at (E2.at hs));have JJ:=U.2.1.at fp;have P0:=bm.at JJ;have OQ:=E2.trans (E3.trans U.2.1);have X4:=U.1;have k4:=U.2.2;rw[show bJ (bJ n1 "cont" 0) "cont" 0=n1+2 by rw[fW,fW];exact ZA ((aj 0x12001200510005100122220001) n1) ((aj 0x10051000510012222200120001) n1)] at X4;rw[show bJ n1 "cont" 0=n1+1 by rw[fW];exact ZA ((aj 0x1100120051001220001) n1) ((aj 0x1005100122100120001) n1)] at N2
 revert X4 MQ JJ OQ k4
 clear U X3 E3 fp;intro MQ JJ OQ X4 k4;nofun;refine bO W.aW (λb:ax=>V.ref b.ad) [w1,w2] (λd _ h'=>∃zR,TH h' A (bs++nb++[w1,w2]) (un++nb.map (·.aa)++[w1.aa,w2.aa]) (n1+2) (es++bX++zR)/\Ext (aZ (ak A (bs++nb++[w1,w2])) h3) (aZ (ak A (bs++nb++[w1,w2])) h')/\zR.map (·.aa)=d.map (·.aa)/\∀e∈zR,∃b∈[w1,w2],e.ad=b.ad/\e.aa=b.aa/\e.js=known/\e.s=ah)
  P0 ⟨[],by rw[Zu];exact X4,.refl,rfl,λ_ z=>nomatch z⟩ (λd ρ h' xX=>oeaa xX λ_ _ E _=>bm.at (E.at JJ)) ?_ ?_
 . intro d b rr σ h9 hd hb z_ K hK _;refine oeaaa z_ λzR Y9 E9 l9 k9=>?_;have S7:=Y9.Fp;have ll:(es++bX++zR).length<1000:=by
    have h1:=congrArg List.length l9;have h2:=congrArg List.length hd;rw[Za,Za] at h1;rw[Zb] at h2;rw[Zb,Zb,h1];exact Zk (ZQ (ZN Jw.2.2.2 _) (Zf (ZD _ _) (YI h2))) (ZK (Xv (Xv vK 1) 2) (by decide))
   nofun;intro e ED Ae;refine r_todo Y9 ll Ae b.aa (E9.at MQ) (E9.at k4) λzQ OG ON=>?_;refine r_done (hK _ zQ ⟨zR++[⟨e,b.ad,b.aa,sA,ah,kA,known,deep+1⟩],by rw[<-Zo];exact OG,E9.trans ON,by rw[Zq,Zq,l9];rfl,λe' he=>?_⟩);rcases Zg.mp he with he|he
   . exact k9 e' he
   . rw[Zc.mp he];exact⟨b,hb,rfl,rfl,rfl,rfl⟩
 intro σ h9 z_;refine oeaaa z_ λzR Y9 E9 l9 k9=>?_;nofun;refine Y9.one W (E9.at MQ) s0 sl λiq v hv yq Ng=>?_;have IT:ai∈bs++nb++[w1,w2]:=Zd _ z8;have m1:=(yq.bh.aT w1 (Zi _ (.head _))).self;have m2:=(yq.bh.aT w2 (Zi _ (.tail _ (.head _)))).self;have fp10:=bm.at (Ng.at (E9.at JJ));have Mp:du [V.ref w1.ad,.ref w2.ad] 0=some (.ref w1.ad):=rfl;have Jg:du [V.ref w1.ad,.ref w2.ad] 1=some (.ref w2.ad):=rfl;nofun;refine qm W λti a g RU L=>?_;have Dj:=yq.ext RU;have SD:=(Dj.bh.aT ai IT).self;nofun;intro rg C5;have SY:∀c∈bs++nb++[w1,w2],c.aa=ai.aa->c=ai:=λc hc e=>by
  have:=hn ai ho;rcases Zg.mp hc with hc|hc
  . exact(Zg.mp hc).elim (λz=>lD c z e) λz=>absurd e (Jw.2.1 c z).2
  . rcases Zp.mp hc with rfl|hc
    . rw[N1.aa] at e;omega
    . rw[Zc.mp hc,N2.aa] at e;omega
 have F5:=Dj.ag IT SY (L.ext yq.bh.news) C5;refine r_done_ret (q rg _ _ _ _ ⟨nb++[w1,w2],_,bX++zR,by rw[<-Zo],by rw[Zq,<-Zo];rfl,by rw[<-Zo],wL (a:=a) (g:=g) J n0 vG N1 N2 hv (sp v hv) l9 k9⟩ F5.1 (OQ.trans (E9.trans (Ng.trans (F5.2▸bv (λ_=>.inl) RU)))))
end
end
section
section
variable {Φ:Calls}{γ:String->Option V}{h h':Hp}{Q:V->Hp->Prop}
variable {A:Ad}{bs ej:List ax}{un gU:List Int}{n n':Int}{es gq:List Ent}{ai:ax}{ah:List Int}{js:List (Nat×Int)}
theorem TH.block(W:Wd Φ γ)(X:TH h A bs un n es)(nd:(bs.map (·.aa)).Nodup){y:ax}(hy:y∈bs)(q:Q (.ref y.ad) h):Φ "KProgram.block" [.ref A.p,.int y.aa] h Q:=by
 refine W.cl rfl rfl ?_;have p:=bm.at X.bh.p;have t:=X.bh.t;have l:(bs.map λb=>(b.aa,V.ref b.ad)).lookup y.aa=some (.ref y.ad):=cY (p:=(y.aa,V.ref y.ad)) (by rw[Zt];exact nd) (Zn.mpr ⟨y,hy,rfl⟩);nofun;exact q
theorem GM{x:Last}{k:Int}(s:(x.bD="jump"/\0<=x.to/\x.other= -1/\x.fn= -1/\x.ae= -1)\/(x.bD="give"/\0<=x.ae/\x.fn= -1/\x.to= -1/\x.other= -1)\/(x.bD="call"/\0<=x.fn/\x.other= -1/\x.to= -1/\0<=x.ae))
 (len:x.args.length<=1) (args:∀v∈x.args,v∈ah) (fn:x.fn= -1\/x.fn∈ah) (ae:x.ae= -1\/x.ae=k) (vA:0<=x.to->x.to∈js.map (·.2)):lU ai ah js k n n [] x []:=by
 have so:x.other= -1:=by rcases s with ⟨_,_,s,_⟩|⟨_,_,_,_,s⟩|⟨_,_,s,_⟩<;>exact s
 refine⟨⟨0,(Yx _).symm,rfl⟩,List.Pairwise.nil,λz=>absurd rfl z,by simp only[Yi];exact(aj 0x1200101320050240001) n,(λ_ z=>nomatch z),rfl,(λ_ z=>nomatch z),?_,len,args,fn,ae,λt ht=>.inr ?_,λw z=>?_,(λ_ z=>nomatch z)⟩
 . rcases s with s|s|⟨a,b,c,d,e⟩
   . exact .inr (.inl s)
   . exact .inr (.inr (.inl s))
   . exact .inr (.inr (.inr ⟨a,b,c,.inr ⟨d,e⟩⟩))
 . unfold Last.bg at ht;rw[so,if_neg (show ¬ (0:Int)<= -1 by decide),Zu] at ht;split at ht
   . rw[Zc.mp ht];exact vA (by assumption)
   . cases ht
 . rcases s with ⟨s,_⟩|⟨s,_⟩|⟨_,_,_,s,_⟩
   . rw[s] at w;exact absurd w (by decide)
   . rw[s] at w;exact absurd w (by decide)
   . rw[s] at z;exact absurd z (by decide)
theorem Cs{b:ax}{v w k:Int}{a g e sB jA:Nat}{d:Int}(N:jM b n "cont" 1 ai.bL ai.aa)(n0:0<=n)(vG:n<60)(hv:v∈ah)(v0:0<=v)(hw:w∈ah):
 lU ai ah js k n (n+2) [b] ⟨a,"call",v,[w],g,b.aa,-1,-1⟩ [⟨e,b.ad,b.aa,sB,ah++b.params,jA,js,d⟩]:=by
 have l0:0<=b.aa:=by rw[N.aa];exact(aj 0x111001200001000101) n n0
 refine⟨⟨2,rfl,by rw[ZE,N.seq n0];rfl⟩,Z4 _ _,λ_=>⟨vG,(by decide:1<=3),λc hc=>by rw[Zc.mp hc,N.aa];exact(aj 0x140012100120001) n⟩,by simp only[Ye];omega,λc hc=>by
  rw[Zc.mp hc];exact⟨N.aI,by rw[N.bL,if_neg (by decide)],N.aw,N.aN,by rw[N.ae,if_neg (by decide)],by rw[N.params,Za,Z2];exact Zs _⟩,rfl,λc hc=>?_,.inr (.inr (.inr ⟨rfl,v0,rfl,.inl ⟨l0,rfl⟩⟩)),Zs _,λx hx=>Zc.mp hx▸hw,.inr hv,.inl rfl,λt ht=>.inl ?_,(λ_ _=>.head _),λc hc=>by rw[Zc.mp hc];exact Yj _⟩
 . rw[Zc.mp hc];exact⟨b,.head _,rfl,rfl,.inr rfl,λp hp=>.inl hp⟩
 . have:t∈(if 0<=b.aa then [b.aa] else [])++(if (0:Int)<= -1 then [-1] else []):=ht;rw[if_pos l0,if_neg (by decide)] at this;exact this
theorem y4(W:Wd Φ γ)(X:TH h A bs un n es)(ho:ai∈bs)(nd:(bs.map (·.aa)).Nodup)(hn:∀b∈bs,b.aa<=n)(lD:∀b∈bs,b.aa=ai.aa->b=ai)(cH:bs.length<900)(n0:0<=n)(vK:es.length<900){sA jA:Nat}(hs:aZ (ak A bs) h sA=some (iL ah))(s0:ah≠[])(sl:ah.length<=900)(sp:∀v∈ah,0<=v)
 (hj:aZ (ak A bs) h jA=some (.list (js.map jK))) (jl:js.length<=900) (NZ:∀p∈js,∃c∈bs,c.ad=p.1/\c.aa=p.2/\0<=p.2) {y:ax} (hy:y∈bs) (yh:y.aa=ai.bL) (y0:0<=y.ae) {deep:Int}
 (q:∀h' ej gU n' gq,rZ ai ah js y.ae bs un n es ej gU n' gq->TH h' A ej gU n' gq->Ext (aZ (ak A bs) h) (aZ (ak A ej) h')->Q .none h'):
 Φ "_law_end" [.ref A.dk,.ref A.g,.ref ai.ad,.ref sA,.ref jA,.ref A.td,.int deep] h Q:=by
 refine W.cl rfl rfl ?_;have GO:∀{h1 h2 h3:Hp} {x:Last},TH h1 A bs un n es->Ext (aZ (ak A bs) h) (aZ (ak A bs) h1)->Ext h1 h2->gf (news h1 h2) x->Put h2 ai.ad (.inst "KBlock" (mN ai (.ref x.ad))) h3->lU ai ah js y.ae n n [] x []->Q .none h3:=λX1 E1 e L p F=>by
  have T:=(X1.ext e).ag ho lD (L.ext X1.bh.news) p;exact q _ _ _ _ _ ⟨[],_,[],by rw[Zu],by rw[Vd,Zu],by rw[Zu],F⟩ T.1 (E1.trans (T.2▸bv (λ_=>.inl) e))
 have g:=X.bh.g;have Jg:=@qF (.ref A.p) (.int n) [];have Mp:=@xd (.ref A.p) [.int n];nofun;refine r_and (decide (deep<6)) (λ_ K hK=>?_) ?_
 . nofun;exact r_done hK
 refine r_join (λh' v=>h=h'/\∃mn,v= .int mn/\0<mn/\mn<1000/\(n<60\/mn=3)) (λw K hK=>?_) (λw K hK=>?_) λh' v lI=>oaeaaa lI λe mn ev m0 m1 m2=>?_
 . nofun;exact r_done (hK _ _ ⟨rfl,6,rfl,by decide,by decide,.inl (of_decide_eq_true (Zj.mp w).1)⟩)
 . nofun;exact r_done (hK _ _ ⟨rfl,3,rfl,by decide,by decide,.inr rfl⟩)
 subst e ev;nofun;refine dg W X.bh.D m0 m1 λh1 way w0 w1 fr D=>?_;have T1:=X.bh.ro fr D;have X1:=X.to T1;have J7:=(X1.bh.aT ai ho).self;have g1:=X1.bh.g;have p1:=bm.at X1.bh.p;have y1:=(X1.bh.aT y hy).self;have FA:=T1.2.at hs;have MU:=T1.2.at hj;have hj1':=bm.at MU;nofun;rw[<-yh];refine X1.block W nd hy ?_;nofun;refine r_ite (λw2=>?_) λw2=>?_
 . nofun;refine X1.one W FA s0 sl λh2 v hv X2 E2=>?_;nofun;refine X2.one W (E2.at FA) s0 sl λh3 w hw X3 E3=>?_;nofun;intro l h4 A4;have X4:=X3.al A4;nofun;refine m6 W (as:=[w]) A4.at λh5 a g' e5 L=>?_;have Gy:=e5.at (X4.1.bh.aT ai ho).self;nofun;intro h6 p6;exact r_done_sq (GO X4.1 (T1.2.trans (E2.trans (E3.trans X4.2.1))) e5 L p6 (GM (.inr (.inr ⟨rfl,sp v hv,rfl,rfl,y0⟩)) (Zs 1) (λx hx=>Zc.mp hx▸hw) (.inr hv) (.inr rfl) λz=>absurd z (by show ¬ (0:Int)<= -1;decide)))
 nofun;refine r_and (js.map jK |>.isEmpty |> λt=>(t != true)) (λ_ K hK=>?_) ?_
 . nofun;exact r_done hK
 refine r_ite (λw3=>?_) λw3=>?_
 . have UH:js≠[]:=λe=>by
    rw[e] at w3;exact Bool.noConfusion (w3.symm.trans (XX _))
   have UI:0<js.length:=VE.mpr UH;nofun;rw[Za];refine dg W X1.bh.D (YS.mpr UI) (YS.mpr (Zk jl (by decide))) λh2 d d0 d1 I3 D2=>?_;have T2:=X1.bh.ro I3 D2;have X2:=X1.to T2;obtain ⟨i,hi,sq⟩:∃i:Nat,∃hi:i<js.length,du (js.map jK) (-1 - d)=some (jK js[i]):=by
    refine⟨(-1 - d+js.length).toNat,by omega,?_⟩;unfold du;rw[if_neg (by exact λcy=>(aj 0x11b0119300001000201) d d0 cy),Za,if_pos (by exact(aj 0x11015011932000015011111) d js.length d1),ZP,Zv (by omega)]
    rfl
   have jm:js[i]∈js:=Yy hi;refine oeaaa (NZ _ jm) λc hc c1 c2 c3=>?_;have hj2:=bm.at (T2.2.at MU);have cs:=(X2.bh.aT c hc).self;replace sq:du (js.map jK) (-1 - d)=some (.ref c.ad):=by rw[c1];exact sq
   nofun;refine X2.one W (T2.2.at FA) s0 sl λh3 w hw X3 E3=>?_;nofun;intro l h4 A4;have X4:=X3.al A4;nofun;refine uX W (as:=[w]) A4.at λh5 a g' e5 L=>?_;have Gy:=e5.at (X4.1.bh.aT ai ho).self;nofun;intro h6 p6;exact r_done_sq (GO X4.1 (T1.2.trans (T2.2.trans (E3.trans X4.2.1))) e5 L p6 (GM (.inl ⟨rfl,by show 0<=c.aa;rw[c2];exact c3,rfl,rfl,rfl⟩) (Zs 1) (λx hx=>Zc.mp hx▸hw) (.inl rfl) (.inl rfl) λ_=>Zn.mpr ⟨_,jm,c2.symm⟩))
 have vG:3<=way->n<60:=λz=>by exact m2.elim (λNn=>(aj 0x11003c6011003c6011101) n Nn) λNn=>(aj 0x1110003c6211301120130011011303) way mn n w1 z Nn
 nofun;refine r_ite (λw4=>?_) λw4=>?_
 . have n6:=vG (by rw[beq_iff_eq.mp w4];decide);nofun;refine eV W X1.bh hn (ZK cH (by decide)) (s:="cont") (m:=1) (by decide) λh2 b X2 E2 NB=>?_;have Y2:TH h2 A _ _ _ es:=⟨X2,λe he=>(X1.ent e he).ext E2⟩;have hb:b∈bs++[b]:=Zi _ (.head _);have z8:ai∈bs++[b]:=Zd _ ho;have B2:=X2.aT b hb;have b2:=B2.self;have S9:=Y2.Fp;have s2:=bm.at (E2.at FA);have Nw:=bm.at B2.params;have pl:b.params.length<=1:=by rw[NB.params,Za,Z2];exact Zs _
   nofun;refine r_cati s2 Nw (Zf (ZQ sl pl) (by decide)) λsB h3 A3=>?_;have Y3:=Y2.al A3;nofun;intro e h4 A4;refine r_todo Y3.1 (ZK vK (by decide)) A4 b.aa Y3.2.2 (Y3.2.1.at (E2.at MU)) λh5 Y5 E5=>?_;have S5:=E5.at (Y3.2.1.at (E2.at FA));nofun;refine Y5.one W S5 s0 sl λh6 v hv Y6 E6=>?_;nofun;refine Y6.one W (E6.at S5) s0 sl λh7 w hw Y7 E7=>?_;nofun;intro l h8 A8;have Y8:=Y7.al A8;have b8:=(Y8.1.bh.aT b hb).self;nofun;refine m6 W (as:=[w]) A8.at λh9 a g' e9 L=>?_;have own9:=e9.at (Y8.1.bh.aT ai z8).self;nofun;intro iq nQ;have IG:∀c∈bs++[b],c.aa=ai.aa->c=ai:=λc hc e=>(Zg.mp hc).elim (λz=>lD c z e) λz=>by
    have:=hn ai ho;rw[Zc.mp z,NB.aa] at e;exact False.elim ((aj 0x101b0111011100122202) n ai.aa e this)
   have T:=(Y8.1.ext e9).ag z8 IG (L.ext Y8.1.bh.news) nQ;rw[show bJ n "cont" 1=n+2 by rw[fW];exact VK ..] at T;exact r_done_sq (q _ _ _ _ _ ⟨[b],_,_,rfl,rfl,rfl,Cs NB n0 n6 hv (sp v hv) hw⟩ T.1 (T1.2.trans (E2.trans (Y3.2.1.trans (E5.trans (E6.trans (E7.trans (Y8.2.1.trans (T.2▸bv (λ_=>.inl) e9)))))))))
 nofun;refine r_ite (λw5=>?_) λw5=>?_
 . nofun;refine sr W X1 ho hn lD cH n0 (vG (XA (of_decide_eq_true w5))) vK FA s0 sl sp MU jl (k:=y.ae) λh' ej gU n' gq S Y E=>?_;nofun;exact q h' ej gU n' gq S Y (T1.2.trans E)
 nofun;refine X1.one W FA s0 sl λh3 w hw X3 E3=>?_;nofun;intro l h4 A4;have X4:=X3.al A4;nofun;refine uZ W (as:=[w]) A4.at λh5 a g' e5 L=>?_;have Gy:=e5.at (X4.1.bh.aT ai ho).self;nofun;intro h6 p6;exact r_done_sq (GO X4.1 (T1.2.trans (E3.trans X4.2.1)) e5 L p6 (GM (.inr (.inl ⟨rfl,y0,rfl,rfl,rfl⟩)) (Zs 1) (λx hx=>Zc.mp hx▸hw) (.inl rfl) (.inr rfl) λz=>absurd z (by show ¬ (0:Int)<= -1;decide)))
end
end
section
structure Alike(b b':ax):Prop where
 aa:b'.aa=b.aa
 ad:b'.ad=b.ad
 aI:b'.aI=b.aI
 params:b'.params=b.params
 ae:b'.ae=b.ae
 bL:b'.bL=b.bL
 aw:b'.aw=b.aw
 aN:∀o∈b.aN,o∈b'.aN
noncomputable def Le(bs ej:List ax):Prop:=∀b∈bs,∃b'∈ej,Alike b b'
theorem Alike.res{b b':ax}(a:Alike b b'){v:Int}(h:v∈cZ b):v∈cZ b':=oea (Zm.mp h) λo ho hv=>Zm.mpr ⟨o,a.aN o ho,hv⟩
section
variable {bs ej:List ax}{ah fe js tc:Int->List Int}{b:ax}
theorem JP.le{o:Op}(x:JP bs ah b o)(L:Le bs ej){b':ax}(a:Alike b b')(s:fe b.aa=ah b.aa):JP ej fe b' o:=
 ⟨x.shape,x.Dh,x.neg,x.len,λv hv=>⟨(x.args v hv).1,by rw[a.aa,s];exact(x.args v hv).2.imp id a.res⟩,λt ht=>by
  refine oeaaa (x.aU t ht) λc hc c1 c2 c3=>?_;refine oea (L c hc) λc' ir A=>?_;exact⟨c',ir,A.aa.trans c1,A.aI.trans c2,by rw[A.aw,c3,a.aa]⟩⟩
theorem zU.le(x:zU bs ah js b)(L:Le bs ej)(hs:∀c∈bs,fe c.aa=ah c.aa/\tc c.aa=js c.aa)(hb:b∈bs){b':ax}(a:Alike b b')(dv:b'.aN.length<=3)(aN:∀o∈b'.aN,JP ej fe b' o)(CN:(b'.aN.flatMap (·.aU)).Nodup):zU ej fe tc b':=by
 refine oa (hs b hb) λh1 h2=>?_;refine⟨a.aI▸x.aI,a.aa▸x.cj,λs=>a.ae▸x.fvar (a.aI▸s),λs=>a.ae▸x.cvar (a.aI▸s),λe=>by rw[a.aI,a.aw];exact x.ent (a.aa▸e),λe=>?_,?_,λs=>by rw[a.bL,a.aa];exact x.xj (a.aI▸s),λs=>?_,a.params▸x.np,λv hv=>?_,?_,λt ht=>?_,dv,aN,CN⟩
 . refine oeaa (x.par (a.aa▸e)) λp hp p1 p2=>?_;refine oea (L p hp) λp' kF A=>?_;exact⟨p',kF,by rw[A.aa,p1,a.aw],by rw[A.aa,a.aa];exact p2⟩
 . refine oeaa x.bL λy hy y1 y2=>?_;refine oea (L y hy) λy' w9 A=>?_;exact⟨y',w9,by rw[A.aa,y1,a.bL],A.aI.trans y2⟩
 . refine oaeaa (x.AJ (a.aI▸s)) λbV y hy y1 y2=>?_;refine oeaa bV λp hp p1 p2=>?_;try clear bV
   refine oea (L p hp) λp' kF A=>?_;refine oea (L y hy) λy' w9 B=>?_;exact⟨⟨p',kF,by rw[A.aa,p1,a.aw],by rw[A.bL,p2,a.bL]⟩,y',w9,by rw[B.aa,y1,a.bL],by rw[B.ae];exact y2⟩
 . rw[a.aa,h1] at hv;rw[a.params,a.aa,a.aw];refine(x.xf v hv).imp id (Or.imp id λlH=>oaeaa lH λn p hp p1 p2=>⟨n,?_⟩);refine oea (L p hp) λp' kF A=>?_;exact⟨p',kF,A.aa.trans p1,by rw[A.aa,(hs p hp).1];exact p2.imp id A.res⟩
 . rw[a.aa,h1,a.params];exact x.EM
 . rw[a.aa,h2] at ht;refine oaaeaaa (x.IO t ht) λk1 k2 c hc c1 c2 c3=>?_;refine oea (L c hc) λc' ir A=>?_;refine⟨a.aI.trans k1,k2,c',ir,A.aa.trans c1,A.aI.trans c2,?_⟩;rw[A.aw,a.aw];refine c3.imp id λrc=>oeaa rc λp hp p1 p2=>?_;refine oea (L p hp) λp' kF B=>?_;exact⟨p',kF,B.aa.trans p1,by rw[B.aa,(hs p hp).2];exact p2⟩
theorem I8.le(x:I8 bs ah js b)(L:Le bs ej)(h1:fe b.aa=ah b.aa)(h2:tc b.aa=js b.aa){b':ax}(a:Alike b b')(e:b'.ag=b.ag):I8 ej fe tc b':=by
 refine⟨e▸x.shape,e▸x.len,λv hv=>?_,λf=>?_,e▸x.neg,λf=>?_,λt ht=>?_,λw f=>?_⟩
 . rw[e] at hv;rw[a.aa,h1];exact⟨(x.args v hv).1,(x.args v hv).2.imp id a.res⟩
 . rw[e] at f ⊢;rw[a.aa,h1];exact(x.fn f).imp id a.res
 . rw[e] at f ⊢;refine oeaa (x.ae f) λy hy y1 y2=>?_;refine oea (L y hy) λy' w9 A=>?_;exact⟨y',w9,by rw[A.aa,y1,a.bL],by rw[A.ae];exact y2⟩
 . rw[e] at ht;refine oeaaa (x.vA t ht) λc hc c1 c2 c3=>?_;refine oea (L c hc) λc' ir A=>?_;exact⟨c',ir,A.aa.trans c1,A.aI.trans c2,by rw[A.aw,a.aa,h2];exact c3⟩
 . rw[e] at w f ⊢;refine oeaa (x.call w f) λc hc c1 c2=>?_;refine oea (L c hc) λc' ir A=>?_;exact⟨c',ir,A.aa.trans c1,by rw[A.aw,c2,a.aa]⟩
end
end
section
noncomputable def nS(bs:List ax):Nat:=(bs.flatMap λb=>b.aN.filter aL).length
structure Mj(bs:List ax)(n:Int)(ah js:Int->List Int)(e:Ent):Prop where
 aT:∃b∈bs,e.ad=b.ad/\e.aa=b.aa
 s:ah e.aa=e.s
 js:js e.aa=e.js.map (·.2)
 jb:∀p∈e.js,∃c∈bs,c.ad=p.1/\c.aa=p.2
 ne:e.s≠[]
 pos:∀v∈e.s,1<=v/\v<=n
 sl:(e.s.length:Int)<=7*e.aa
 jl:(e.js.length:Int)<=e.aa
structure Wf(bs:List ax)(un:List Int)(n:Int)(es:List Ent)(cur c:Int)(ah js:Int->List Int):Prop where
 asc:(bs.map (·.aa)).Pairwise (· < ·)
 nums:(bs.flatMap bZ).Nodup
 Fs:∀b∈bs,∀x∈bZ b,1<=x/\x<=n
 ent:∃b∈bs,b.aa=1
 three:∃b∈bs,∃o∈b.aN,aL o=true/\o.result=3
 ok:∀b∈bs,zU bs ah js b
 ag:∀b∈bs,b.aa∉un->I8 bs ah js b
 IF:un.Nodup
 Eu:∀l∈un,∃b∈bs,b.aa=l
 cH:∀b∈bs,b.aa∈un->b.aa≠cur->b.aN.length<=1
 cnt:(nS bs:Int)+2*un.length<=n
 br:(nS bs:Int)+2*un.length<=63+c
 lst:un.filter (λl=>l != cur)=es.map (·.aa)
 ents:∀e∈es,Mj bs n ah js e
section
variable {bs ej:List ax}{un gU:List Int}{n n':Int}{es gq:List Ent}{cur c:Int}{ah js:Int->List Int}
theorem y9{P:aJ}:(simple P).length=nS P.ap:=by
 unfold simple nS aJ.aN;rw[Za,VD]
theorem Wf.cj(X:Wf bs un n es cur c ah js){b:ax}(hb:b∈bs):1<=b.aa/\b.aa<=n:=X.Fs b hb b.aa Ze
theorem Wf.uniq(X:Wf bs un n es cur c ah js){a b:ax}(ha:a∈bs)(hb:b∈bs)(e:a.aa=b.aa):a=b:=iG (X.asc.imp λh=>Yc h) ha hb e
theorem Wf.len(X:Wf bs un n es cur c ah js):bs.length<=63:=by
 have:=xV X.asc (k:=63) λx hx=>by
  refine oea (Zn.mp hx) λb hb bV=>?_;subst bV;exact(X.ok b hb).cj
 rwa [Za] at this
theorem Wf.fin(X:Wf bs [] n es cur c ah js)(c0:c<=0){a t:Nat}:cS ⟨a,t,bs⟩ ah js:=by
 refine⟨X.asc,X.ent,?_,X.nums,λb hb x hx=>(X.Fs b hb x hx).1,?_,X.ok,λb hb=>X.ag b hb λz=>nomatch z⟩
 . refine oeaeaa X.three λb hb o ho h1 h2=>?_;exact Zn.mpr ⟨o,ZG.mpr ⟨Zm.mpr ⟨b,hb,ho⟩,h1⟩,h2⟩
 . rw[y9];have:=X.br;have:(nS bs:Int)+2*(([]:List Int).length:Int)<=63+c:=this;rw[Yi] at this;show nS bs<64;exact(aj 0x1110040601401003f620050240152000010211) _ _ c0 this
end
end
section
noncomputable def cU(bX:List Ent)(ah:Int->List Int)(l:Int):List Int:=match bX.find? (λe=>e.aa==l) with
 |some e=>e.s
 |none=>ah l
noncomputable def qd(bX:List Ent)(js:Int->List Int)(l:Int):List Int:=match bX.find? (λe=>e.aa==l) with
 |some e=>e.js.map (·.2)
 |none=>js l
section
variable {bs ej nb:List ax}{un gU:List Int}{n n':Int}{es gq bX:List Ent}{cur c:Int}{ah js:Int->List Int}
theorem pJ:∀{bX:List Ent},(bX.map (·.aa)).Pairwise (· < ·)->∀{e:Ent},e∈bX->bX.find? (λx=>x.aa==e.aa)=some e
 |[],_,e,h=>nomatch h
 |y::bX,p,e,h=>by
  rw[Zw,YE] at p;rcases Zp.mp h with rfl|h
  . rw[YZ,beq_self_eq_true]
  . rw[YZ,beq_false_of_ne (Yc (p.1 _ (ZF h)))];exact pJ p.2 h
theorem zw{l:Int}(h:∀e∈bX,e.aa≠l):bX.find? (λx=>x.aa==l)=none:=VN.mpr λe he z=>h e he (beq_iff_eq.mp z)
theorem jy(p:(bX.map (·.aa)).Pairwise (· < ·)){e:Ent}(he:e∈bX):cU bX ah e.aa=e.s/\qd bX js e.aa=e.js.map (·.2):=by
 unfold cU qd;rw[pJ p he];exact⟨rfl,rfl⟩
theorem lX{l:Int}(h:∀e∈bX,e.aa≠l):cU bX ah l=ah l/\qd bX js l=js l:=by
 unfold cU qd;rw[zw h];exact⟨rfl,rfl⟩
theorem wc{l:Int}{f:ax->ax}(h:∀b,Alike b (f b)):Le bs (qE (bs++nb) l f):=λb hb=>by
 by_cases z:b.aa=l
 . exact⟨f b,dG.mpr ⟨b,Zd _ hb,(if_pos z).symm⟩,h b⟩
 . exact⟨b,dG.mpr ⟨b,Zd _ hb,(if_neg z).symm⟩,rfl,rfl,rfl,rfl,rfl,rfl,rfl,λ_ z=>z⟩
theorem pC{l:Int}{f:ax->ax}(h:∀b,(f b).aa=b.aa):(qE bs l f).map (·.aa)=bs.map (·.aa):=by
 unfold qE;rw[Zt];refine Yn λb _=>?_;show (if b.aa=l then f b else b).aa=b.aa;split
 . exact h b
 . rfl
theorem uK{l:Int}{f:ax->ax}(h:∀b∈bs,b.aa≠l):qE bs l f=bs:=by
 unfold qE;exact(Yn λb hb=>if_neg (h b hb)).trans (Vq _)
theorem q6(nd:(bs.map (·.aa)).Nodup){ai:ax}(ho:ai∈bs):∃l1 l2,bs=l1++ai::l2/\∀f,qE bs ai.aa f=l1++f ai::l2:=by
 refine oee (List.append_of_mem ho) λl1 l2 bV=>?_;subst bV;refine⟨l1,l2,rfl,λf=>?_⟩;rw[Zq,Zw,ZI,ZC] at nd;have h1:qE l1 ai.aa f=l1:=uK λb hb e=>nd.2.2 _ (ZF hb) _ Ze e;have h2:qE l2 ai.aa f=l2:=uK λb hb e=>nd.2.1.1 (e▸ZF hb);unfold qE at h1 h2 ⊢;rw[Zq,Zw,h1,h2,if_pos rfl]
theorem uh(nd:(bs.map (·.aa)).Nodup){ai:ax}(ho:ai∈bs){f:ax->ax}{x:List Int}(hf:bZ (f ai)=bZ ai++x):((qE bs ai.aa f).flatMap bZ).Perm (bs.flatMap bZ++x):=by
 refine oeea (q6 nd ho) λl1 l2 e1 e2=>?_;rw[e2,e1,Zx,ZJ,Zx,ZJ,hf,Zo,Zo,Zo];exact(Vo _ (Vo _ List.perm_append_comm))
theorem qS:nS (bs++nb)=nS bs+nS nb:=by
 unfold nS;rw[Zx,Zb]
theorem Be(h:∀b∈nb,b.aN=[]):nS nb=0:=by
 unfold nS;rw[XT,List.flatMap_eq_nil_iff];intro b hb;rw[h b hb];rfl
theorem Bf(nd:(bs.map (·.aa)).Nodup){ai:ax}(ho:ai∈bs){f:ax->ax}{k:Nat}(hf:((f ai).aN.filter aL).length=(ai.aN.filter aL).length+k):nS (qE bs ai.aa f)=nS bs+k:=by
 refine oeea (q6 nd ho) λl1 l2 e1 e2=>?_;unfold nS;rw[e2,e1,Zx,ZJ,Zx,ZJ,Zb,Zb,Zb,Zb,hf];exact YO ((aj 0x121311120122312111220123040) _ _ _ _) ((aj 0x121311122012312111201223040) _ _ _ _)
end
end
section
variable {bs ej nb:List ax}{un gU:List Int}{n n':Int}{es gq bX:List Ent}{c:Int}{ah js:Int->List Int}{ai:ax}{sn rs:List Int}
noncomputable def j0(ai:ax)(op:Op):ax:={ai with aN:=ai.aN++[op]}
theorem kg{op:Op}(b:ax):Alike b (j0 b op):=⟨rfl,rfl,rfl,rfl,rfl,rfl,rfl,λ_ h=>Zd _ h⟩
theorem IC{op:Op}:bZ (j0 ai op)=bZ ai++op.aE:=by
 unfold bZ cZ j0;rw[Zx,ZE,Uk,Zo,Zo]
theorem T3{op:Op}:((j0 ai op).aN.filter aL).length=(ai.aN.filter aL).length+(if aL op then 1 else 0):=by
 show ((ai.aN++[op]).filter aL).length=_;rw[Yk,Zb]
 congr 1
 cases h:aL op with
 |true=>rw[XS h];rfl
 |false=>rw[YM (by rw[h];exact Yd)];rfl
structure Ni(bs:List ax)(un:List Int)(n:Int)(c:Int)(ah:Int->List Int)(ai:ax)(sn:List Int):Prop where
 mem:ai∈bs
 un:ai.aa∈un
 zO:∀v∈sn,v∈ah ai.aa\/v∈cZ ai
 pos:∀v∈sn,1<=v/\v<=n
 ne:sn≠[]
 sl:(sn.length:Int)<=7*ai.aa+2*c
 ol:(ai.aN.length:Int)<=1+c
theorem Wf.op(X:Wf bs un n es ai.aa c ah js)(C:Ni bs un n c ah ai sn)(c0:0<=c)(c1:c<=1){op:Op}(F:kM ai sn n n' nb op bX):
 Wf (cp (bs++nb) ai.aa op) (un++nb.map (·.aa)) n' (es++bX) ai.aa (c+1) (cU bX ah) (qd bX js)/\Ni (cp (bs++nb) ai.aa op) (un++nb.map (·.aa)) n' (c+1) (cU bX ah) (j0 ai op) (sn++op.aE):=by
 refine oea F.seq λk bV Am=>?_;subst bV;have ol:=X.cj C.mem;have rn:∀x∈nb.flatMap bZ++op.aE,n<x/\x<=n+k:=λx hx=>fQ.mp (Am▸hx);have nl:∀b∈nb,n<b.aa/\b.aa<=n+k:=λb hb=>rn _ (Zd _ (Zm.mpr ⟨b,hb,Ze⟩));have p2:(bX.map (·.aa)).Pairwise (· < ·):=F.ents▸F.asc;have el:∀e∈bX,n<e.aa:=λe he=>by
  have:e.aa∈nb.map (·.aa):=F.ents▸ZF he;refine oea (Zn.mp this) λb hb z=>?_;rw[<-z];exact(nl b hb).1
 have old:∀{l:Int},l<=n->cU bX ah l=ah l/\qd bX js l=js l:=λhl=>lX λe he z=>by
  have:=el e he;exact(aj 0x1011b211110121211010303) _ _ _ hl z this
 have As:((bs++nb).map (·.aa)).Pairwise (· < ·):=by
  rw[Zq];refine Ww.mpr ⟨X.asc,F.asc,λx hx y hy=>?_⟩;refine oea (Zn.mp hx) λb hb cw=>?_;subst cw;refine oea (Zn.mp hy) λd hd c8=>?_;subst c8;have:=X.cj hb;have:=nl d hd
  (rename_i jH;exact(aj 0x10011112110121021100a01501211011011a213) n d.aa b.aa k this jH)
 have C9:((bs++nb).map (·.aa)).Nodup:=As.imp λh=>Yc h;have je:ai∈bs++nb:=Zd _ C.mem;have L:Le bs (cp (bs++nb) ai.aa op):=wc λb=>kg b;have PM:((cp (bs++nb) ai.aa op).flatMap bZ).Perm (bs.flatMap bZ++eB n k):=by
  refine(uh C9 je (f:=λb=>j0 b op) IC).trans ?_;rw[Zx,Zo,Am]
 have vV:∀b∈cp (bs++nb) ai.aa op,(b=j0 ai op)\/(b∈bs/\b.aa≠ai.aa)\/b∈nb:=λb hb=>by
  refine oea (dG.mp hb) λd hd dW=>?_;subst dW
  by_cases z:d.aa=ai.aa
  . rw[if_pos z];have:d=ai:=iG C9 hd je z;exact .inl (by rw[this];rfl)
  . rw[if_neg z];exact .inr ((Zg.mp hd).imp (λh=>⟨h,z⟩) id)
 have zW:∀b∈nb,b∈cp (bs++nb) ai.aa op:=λb hb=>dG.mpr ⟨b,Zi _ hb,(if_neg λz=>by
  have:=nl b hb;exact(aj 0x10110b01511221021111a012121101001100a313) _ _ _ _ ol z this).symm⟩
 have tJ:j0 ai op∈cp (bs++nb) ai.aa op:=dG.mpr ⟨ai,je,(if_pos rfl).symm⟩;have O0:=X.ok ai C.mem;have cn:(nS (cp (bs++nb) ai.aa op):Int)=nS bs+(if aL op then 1 else 0):=by
  have:=Bf C9 je (f:=λb=>j0 b op) T3;rw[qS,Be λb hb=>(F.vD b hb).2.2.2.1] at this;have e:nS (cp (bs++nb) ai.aa op)=nS bs+0+(if aL op then 1 else 0):=this;rw[e];split<;>first|exact ZA ((aj 0x11001521000012250010) (nS bs)) ((aj 0x11000012251001520010) (nS bs))|exact ZA ((aj 0x10001520000012250010) (nS bs)) ((aj 0x10000012250001520010) (nS bs))
 have Jl:nb=[]\/(n<60/\nb.length<=2/\∀b∈nb,b.aa<=n+4):=(UD (nb=[])).imp id F.early;have Ar:=F.cnt;have GC:∀b∈nb,zU (cp (bs++nb) ai.aa op) (cU bX ah) (qd bX js) b:=λb hb=>by
  refine oaaaaa (F.vD b hb) λk1 k2 k3 k4 k5 k6=>?_;obtain ⟨e,he,ee⟩:∃e∈bX,e.aa=b.aa:=Zn.mp (F.ents▸ZF hb);refine oeaaaaeaa (F.ent e he) λb' cF e1 e2 e3 x x1 x2 x3=>?_;have:b'=b:=iG (F.asc.imp λh=>Yc h) cF hb (e2.symm.trans ee);subst this;have sw:=jy (ah:=ah) (js:=js) p2 he;rw[ee] at sw;have sj:=sw.2;rw[e3] at sj;have hl:=nl b' hb;have M0:n<60/\∀b∈nb,b.aa<=n+4:=by
   rcases Jl with z|z
   . rw[z] at hb;cases hb
   . exact⟨z.1,z.2.2⟩
  have l4:=M0.2 b' hb;have ns:b'.aI≠ "cont":=by rw[k1];decide
  refine⟨.inl k1,⟨by exact(aj 0x11112110001511221021111a1101001100a213) _ _ _ _ ol hl,by omega⟩,λ_=>k5,λz=>absurd z ns,λz=>by exact⟨False.elim ((aj 0x10111b1021201511221021111a1101001100a313) ai.aa n b'.aa k ol hl z),ZA ((aj 0x101110193101021201511221021111a1101001100a314) ai.aa n b'.aa b'.aw k ol hl z) ((aj 0x1001121190012121101001100a203) ai.aa n b'.aw ol k3)⟩,λ_=>⟨_,tJ,k3.symm,by show ai.aa<_;exact(aj 0x11012101101511221021111a1101001100a213) _ _ _ _ ol hl⟩,⟨b',zW b' hb,k2.symm,k1⟩,λ_=>k2,λz=>absurd z ns,k6,λv hv=>?_,?_,λt ht=>?_,by rw[k4];exact ZR _,(λo ho=>by rw[k4] at ho;cases ho),by rw[k4];exact Yl⟩
  . rw[sw.1,x3] at hv;have par:v∈sn\/v∈op.aE->b'.aa≠1/\∃p∈cp (bs++nb) ai.aa op,p.aa=b'.aw/\(v∈cU bX ah p.aa\/v∈cZ p):=λh=>by
     refine⟨by exact λcy=>(aj 0x10111b1021201511221021111a1101001100a313) _ _ _ _ ol hl cy,_,tJ,k3.symm,?_⟩;show v∈cU bX ah ai.aa\/_;rw[(old ol.2).1];rcases h with h|h
     . exact(C.zO v h).imp id (kg ai).res
     . exact .inr (Zm.mpr ⟨op,Zi _ (.head _),h⟩)
    rcases Zg.mp hv with h|h
    . exact .inr (.inr (par (.inl h)))
    . rcases Zg.mp h with h|h
      . exact .inr (.inr (par (.inr (x2 v h))))
      . exact .inl h
  . rw[sw.1,x3];refine⟨x[0]?.getD 0,x[1]?.getD 0,λv hv=>?_⟩;rcases Zg.mp hv with h|h
    . have:=C.pos v h;exact .inl (by omega)
    . rcases Zg.mp h with h|h
      . match x,x1,h with
        |[a],_,h=>exact .inr (.inl (Zc.mp h))
        |[a,d],_,h=>
         rcases Zp.mp h with z|h
         . exact .inr (.inl z)
         . exact .inr (.inr (.inl (Zc.mp h)))
      . exact .inr (.inr (.inr h))
  . rw[sj] at ht;cases ht
 have hold:∀b∈bs,cU bX ah b.aa=ah b.aa/\qd bX js b.aa=js b.aa:=λb hb=>old (X.cj hb).2;have Nz:zU (cp (bs++nb) ai.aa op) (cU bX ah) (qd bX js) (j0 ai op):=by
  refine O0.le L hold C.mem (kg ai) ?_ (λo ho=>?_) ?_
  . show (ai.aN++[op]).length<=3;have:=C.ol;rw[Zb,Ye];exact(aj 0x1113010012301102015010010211) _ _ c1 this
  . rcases Zg.mp ho with ho|ho
    . exact(O0.aN o ho).le L (kg ai) (old ol.2).1
    . rw[Zc.mp ho];refine⟨F.shape,F.Dh,F.neg,F.len,λv hv=>?_,λt ht=>?_⟩
      . have h:=F.args v hv;have:=C.pos v h;refine⟨by exact(aj 0x11010001101001100a102) _ _ this,?_⟩;show v∈cU bX ah ai.aa\/_;rw[(old ol.2).1];exact(C.zO v h).imp id (kg ai).res
      . rw[F.aU] at ht;refine oea (Zn.mp ht) λb hb gW=>?_;subst gW;exact⟨b,zW b hb,rfl,(F.vD b hb).1,(F.vD b hb).2.2.1⟩
  . show ((ai.aN++[op]).flatMap (·.aU)).Nodup;rw[Zx,ZE,F.aU];refine ZI.mpr ⟨O0.CN,F.asc.imp λh=>Yc h,λx hx y hy=>?_⟩;refine oea (Zm.mp hx) λo ho hx=>?_;refine oeaa ((O0.aN o ho).aU x hx) λd hd d1 _=>?_;refine oea (Zn.mp hy) λb hb gE=>?_;subst gE;have h1:=X.cj hd;have h2:=nl b hb;exact λcy=>(aj 0x10011010b3111201521231031211a2101001100a11012414) _ _ _ _ _ d1 h1 h2 cy
 have NA:∀b∈cp (bs++nb) ai.aa op,zU (cp (bs++nb) ai.aa op) (cU bX ah) (qd bX js) b:=λb hb=>by
  rcases vV b hb with rfl|⟨h,z⟩|h
  . exact Nz
  . have B:=X.ok b h;exact B.le L hold h ⟨rfl,rfl,rfl,rfl,rfl,rfl,rfl,λ_ z=>z⟩ B.dv (λo ho=>(B.aN o ho).le L ⟨rfl,rfl,rfl,rfl,rfl,rfl,rfl,λ_ z=>z⟩ (hold b h).1) B.CN
  . exact GC b h
 have nu:∀b∈nb,b.aa∉un:=λb hb z=>by
  refine oea (X.Eu _ z) λd hd e=>?_;have:=X.cj hd;have:=nl b hb
  (rename_i jH;exact(aj 0x100110b2101001100a01521211011211a11012313) d.aa b.aa n k e this jH)
 have Al:((un++nb.map (·.aa)).length:Int)=un.length+nb.length:=by
  rw[Zb,Za];exact ZA ((aj 0x111501521101250020) _ _) ((aj 0x111012511501520020) _ _)
 refine⟨⟨by rw[show (cp (bs++nb) ai.aa op).map (·.aa)=(bs++nb).map (·.aa) from pC λ_=>rfl];exact As,PM.nodup_iff.mpr ?_,λb hb x hx=>?_,?_,?_,NA,λb hb z=>?_,?_,λl hl=>?_,λb hb z zc=>?_,?_,?_,?_,λe he=>?_⟩,⟨tJ,Zd _ C.un,λv hv=>?_,λv hv=>?_,λz=>C.ne (Wa.mp z).1,?_,?_⟩⟩
 . refine ZI.mpr ⟨X.nums,uc.imp λh=>Yc h,λx hx y hy=>?_⟩;refine oea (Zm.mp hx) λb hb hx=>?_;have:=X.Fs b hb x hx;have:=fQ.mp hy
   (rename_i jH;exact λcy=>(aj 0x101001b0121021100a1121201501211011011a313) n y x k this cy jH)
 . have:x∈bs.flatMap bZ++eB n k:=PM.mem_iff.mp (Zm.mpr ⟨b,hb,hx⟩);rcases Zg.mp this with h|h
   . refine oea (Zm.mp h) λd hd h=>?_;have:=X.Fs d hd x h;exact⟨(aj 0x11011001101001100a102) _ _ this,(aj 0x1010151120101101001100a112) _ _ _ this⟩
   . have:=fQ.mp h;exact⟨(aj 0x11112110001511221021111a1101001100a213) _ _ _ _ ol this,(aj 0x10101501211001501211011011a112) _ _ _ this⟩
 . refine oea X.ent λb hb e=>?_;refine oea (L b hb) λb' cF a=>?_;exact⟨b',cF,a.aa.trans e⟩
 . refine oeaea X.three λb hb o ho h=>?_;refine oea (L b hb) λb' cF a=>?_;exact⟨b',cF,o,a.aN o ho,h⟩
 . rcases vV b hb with rfl|⟨h,y⟩|h
   . exact absurd (Zd _ C.un) z
   . exact(X.ag b h λk=>z (Zd _ k)).le L (hold b h).1 (hold b h).2 ⟨rfl,rfl,rfl,rfl,rfl,rfl,rfl,λ_ z=>z⟩ rfl
   . exact absurd (Zi _ (ZF h)) z
 . refine ZI.mpr ⟨X.IF,F.asc.imp λh=>Yc h,λx hx y hy e=>?_⟩;refine oea (Zn.mp hy) λb hb kE=>?_;subst kE;exact nu b hb (e▸hx)
 . rcases Zg.mp hl with h|h
   . refine oea (X.Eu l h) λb hb e=>?_;refine oea (L b hb) λb' cF a=>?_;exact⟨b',cF,a.aa.trans e⟩
   . refine oea (Zn.mp h) λb hb jX=>?_;subst jX;exact⟨b,zW b hb,rfl⟩
 . rcases vV b hb with rfl|⟨h,y⟩|h
   . exact absurd rfl zc
   . refine X.cH b h ((Zg.mp z).resolve_right λk=>?_) y;refine oea (Zn.mp k) λd hd e=>?_;have:=nl d hd;have:=X.cj h
     (rename_i jH;exact(aj 0x11001b01521201001211a2111011100a11012313) d.aa b.aa n _ e this jH)
   . rw[(F.vD b h).2.2.2.1];exact ZR _
 . rw[cn,Al];have:=X.cnt;exact(aj 0x11111511201531520240121522011315024215201111511230150240120242) _ _ _ _ _ _ Ar this
 . rw[cn,Al];have h1:=X.br;have h2:=X.cnt;rcases Jl with z|⟨z1,z2,_⟩
   . rw[z,Yi] at Ar ⊢;split<;>first|exact(aj 0x1110012003f6200511520241001522001003f6211502401520121) c (nS bs) un.length h1|exact(aj 0x1110012003f6200511520240001522001003f6211502401520121) c (nS bs) un.length h1
   . split at Ar<;>split<;>first|exact(aj 0x2111110012003f6221511520241001522020213003c6111111150240152001000432) c n (nS bs) un.length nb.length c0 h2 z1 z2|exact(aj 0x2111110012003f6221511520240001522020213003c6111111150240152001000432) c n (nS bs) un.length nb.length c0 h2 z1 z2
 . rw[Yk,X.lst,Zq,F.ents];refine congrArg (_++ ·) (Yu.mpr λx hx=>?_);refine oea (Zn.mp hx) λb hb n_=>?_;subst n_;have:=nl b hb;exact bne_iff_ne.mpr (by exact λcy=>(aj 0x10110b0121201511221021111a1101001100a313) _ _ _ _ ol this cy)
 . rcases Zg.mp he with h|h
   . have E:=X.ents e h;refine oeaa E.aT λb hb e1 e2=>?_;refine oea (L b hb) λb' cF a=>?_;have o:=old (e2▸(X.cj hb).2);exact⟨⟨b',cF,e1.trans a.ad.symm,e2.trans a.aa.symm⟩,o.1.trans E.s,o.2.trans E.js,λp hp=>by
      refine oeaa (E.jb p hp) λd hd d1 d2=>?_;refine oea (L d hd) λd' qC a=>?_;exact⟨d',qC,a.ad.trans d1,a.aa.trans d2⟩,E.ne,λv hv=>by have:=E.pos v hv;exact⟨(aj 0x11011001101001100a102) _ _ this,(aj 0x1010151120101101001100a112) _ _ _ this⟩,E.sl,E.jl⟩
   . refine oeaaaaeaa (F.ent e h) λb hb e1 e2 e3 x x1 x2 x3=>?_;have w:=jy (ah:=ah) (js:=js) p2 h;have hl:=nl b hb;have sl:=C.sl;refine⟨⟨b,zW b hb,e1,e2⟩,w.1,w.2,(λp hp=>by rw[e3] at hp;cases hp),by rw[x3];exact λz=>C.ne (Wa.mp z).1,λv hv=>?_,?_,by rw[e3,e2,Yi];exact(aj 0x111121005001511221021111a1101001100a213) _ _ _ _ ol hl⟩
     . rw[x3] at hv;rcases Zg.mp hv with h|h
       . have:=C.pos v h;exact⟨(aj 0x11011001101001100a102) _ _ this,(aj 0x1010151120101101001100a112) _ _ _ this⟩
       . rcases Zg.mp h with h|h
         . have:=rn v (Zi _ (x2 v h));exact⟨(aj 0x11112110001511221021111a1101001100a213) _ _ _ _ ol this,(aj 0x10101501211001501211011011a112) _ _ _ this⟩
         . have:=rn v (Zd _ (Zm.mpr ⟨b,hb,Zh _ (Zd _ h)⟩));exact⟨(aj 0x11112110001511221021111a1101001100a213) _ _ _ _ ol this,(aj 0x10101501211001501211011011a112) _ _ _ this⟩
     . have:=(F.vD b hb).2.2.2.2.2;rw[x3,e2,Zb,Zb];exact(aj 0x1107170213107431012212501031301024110742215011521231031211a200132111011100a10010644) _ _ _ _ _ _ _ _ c1 ol x1 hl sl this
 . rcases Zg.mp hv with h|h
   . show v∈cU bX ah ai.aa\/_;rw[(old ol.2).1];exact(C.zO v h).imp id (kg ai).res
   . exact .inr (Zm.mpr ⟨op,Zi _ (.head _),h⟩)
 . rcases Zg.mp hv with h|h
   . have:=C.pos v h;exact⟨(aj 0x11011001101001100a102) _ _ this,(aj 0x1010151120101101001100a112) _ _ _ this⟩
   . have:=rn v (Zi _ h);exact⟨(aj 0x11112110001511221021111a1101001100a213) _ _ _ _ ol this,(aj 0x10101501211001501211011011a112) _ _ _ this⟩
 . have gl:op.aE.length<=2:=by
    unfold Op.aE;split
    . exact F.len.2.1
    . exact Zf (fR _) (Yj 1)
   have:=C.sl;show ((sn++op.aE).length:Int)<=7*ai.aa+2*(c+1);rw[Zb];exact(aj 0x11110112024010742011125011024010742115020013222) _ _ _ _ gl this
 . have:=C.ol;show ((ai.aN++[op]).length:Int)<=1+(c+1);rw[Zb,Ye];exact(aj 0x11100121021001250011020150111) _ _ this
end
section
variable {bs ej nb:List ax}{un gU:List Int}{n n':Int}{es gq bX:List Ent}{c k:Int}{ah js:Int->List Int}{ai:ax}{sn:List Int}{jj:List (Nat×Int)}
noncomputable def qh(ai:ax)(x:Last):ax:={ai with ag:=x}
theorem rM{x:Last}(b:ax):Alike b (qh b x):=⟨rfl,rfl,rfl,rfl,rfl,rfl,rfl,λ_ h=>h⟩
theorem ID{x:Last}:bZ (qh ai x)=bZ ai++[]:=(Zu _).symm
theorem T5{x:Last}:((qh ai x).aN.filter aL).length=(ai.aN.filter aL).length+0:=rfl
theorem Wf.end(X:Wf bs un n es ai.aa c ah js)(C:Ni bs un n c ah ai sn)(c0:0<=c)(c2:c<=2)(Rl:js ai.aa=jj.map (·.2))(hjb:∀p∈jj,∃d∈bs,d.ad=p.1/\d.aa=p.2)(jl:(jj.length:Int)<=ai.aa){y:ax}(hy:y∈bs)(yh:y.aa=ai.bL)(y0:0<=y.ae){x:Last}(F:lU ai sn jj y.ae n n' nb x bX):
 Wf (f_ (bs++nb) ai.aa x) ((un++nb.map (·.aa)).filter λl=>l != ai.aa) n' (es++bX) 0 0 (cU bX ah) (qd bX js):=by
 refine oea F.seq λk bV Am=>?_;subst bV;have ol:=X.cj C.mem;have rn:∀x∈nb.flatMap bZ,n<x/\x<=n+k:=λx hx=>fQ.mp (Am▸hx);have nl:∀b∈nb,n<b.aa/\b.aa<=n+k:=λb hb=>rn _ (Zm.mpr ⟨b,hb,Ze⟩);have p2:(bX.map (·.aa)).Pairwise (· < ·):=F.ents▸F.asc;have el:∀e∈bX,n<e.aa:=λe he=>by
  have:e.aa∈nb.map (·.aa):=F.ents▸ZF he;refine oea (Zn.mp this) λb hb z=>?_;rw[<-z];exact(nl b hb).1
 have old:∀{l:Int},l<=n->cU bX ah l=ah l/\qd bX js l=js l:=λhl=>lX λe he z=>by
  have:=el e he;exact(aj 0x1011b211110121211010303) _ _ _ hl z this
 have As:((bs++nb).map (·.aa)).Pairwise (· < ·):=by
  rw[Zq];refine Ww.mpr ⟨X.asc,F.asc,λx hx y hy=>?_⟩;refine oea (Zn.mp hx) λb hb cw=>?_;subst cw;refine oea (Zn.mp hy) λd hd c8=>?_;subst c8;have:=X.cj hb;have:=nl d hd
  (rename_i jH;exact(aj 0x10011112110121021100a01501211011011a213) n d.aa b.aa k this jH)
 have C9:((bs++nb).map (·.aa)).Nodup:=As.imp λh=>Yc h;have je:ai∈bs++nb:=Zd _ C.mem;have L:Le bs (f_ (bs++nb) ai.aa x):=wc λb=>rM b;have PM:((f_ (bs++nb) ai.aa x).flatMap bZ).Perm (bs.flatMap bZ++eB n k):=by
  refine(uh C9 je (f:=λb=>qh b x) ID).trans ?_;rw[Zx,Zu,Am]
 have vV:∀b∈f_ (bs++nb) ai.aa x,(b=qh ai x)\/(b∈bs/\b.aa≠ai.aa)\/b∈nb:=λb hb=>by
  refine oea (dG.mp hb) λd hd dW=>?_;subst dW
  by_cases z:d.aa=ai.aa
  . rw[if_pos z];have:d=ai:=iG C9 hd je z;exact .inl (by rw[this];rfl)
  . rw[if_neg z];exact .inr ((Zg.mp hd).imp (λh=>⟨h,z⟩) id)
 have zW:∀b∈nb,b∈f_ (bs++nb) ai.aa x:=λb hb=>dG.mpr ⟨b,Zi _ hb,(if_neg λz=>by
  have:=nl b hb;exact(aj 0x10110b01511221021111a012121101001100a313) _ _ _ _ ol z this).symm⟩
 have tJ:qh ai x∈f_ (bs++nb) ai.aa x:=dG.mpr ⟨ai,je,(if_pos rfl).symm⟩;have O0:=X.ok ai C.mem;have cn:(nS (f_ (bs++nb) ai.aa x):Int)=nS bs:=by
  have:=Bf C9 je (f:=λb=>qh b x) T5;rw[qS,Be λb hb=>(F.vD b hb).2.2.2.1] at this;have e:nS (f_ (bs++nb) ai.aa x)=nS bs+0+0:=this;rw[e];rfl
 have Jl:nb=[]\/(n<60/\nb.length<=3/\∀b∈nb,b.aa<=n+4):=(UD (nb=[])).imp id F.early;have hold:∀b∈bs,cU bX ah b.aa=ah b.aa/\qd bX js b.aa=js b.aa:=λb hb=>old (X.cj hb).2;have Nz:zU (f_ (bs++nb) ai.aa x) (cU bX ah) (qd bX js) (qh ai x):=
  O0.le L hold C.mem (rM ai) O0.dv (λo ho=>(O0.aN o ho).le L (rM ai) (old ol.2).1) O0.CN
 have Tq:∀b∈bs,b.aa≠ai.aa->zU (f_ (bs++nb) ai.aa x) (cU bX ah) (qd bX js) b:=λb h _=>by
  have B:=X.ok b h;exact B.le L hold h ⟨rfl,rfl,rfl,rfl,rfl,rfl,rfl,λ_ z=>z⟩ B.dv (λo ho=>(B.aN o ho).le L ⟨rfl,rfl,rfl,rfl,rfl,rfl,rfl,λ_ z=>z⟩ (hold b h).1) B.CN
 have GC:∀b∈nb,zU (f_ (bs++nb) ai.aa x) (cU bX ah) (qd bX js) b:=λb hb=>by
  refine oaaaaa (F.vD b hb) λk1 k2 k3 k4 k5 k6=>?_;obtain ⟨e,he,ee⟩:∃e∈bX,e.aa=b.aa:=Zn.mp (F.ents▸ZF hb);refine oeaaaa (F.ent e he) λb' cF e1 e2 e3 e4=>?_;have:b'=b:=iG (F.asc.imp λh=>Yc h) cF hb (e2.symm.trans ee);subst this;have sw:=jy (ah:=ah) (js:=js) p2 he;rw[ee] at sw;have hl:=nl b' hb;have M0:n<60/\∀b∈nb,b.aa<=n+4:=by
   rcases Jl with z|z
   . rw[z] at hb;cases hb
   . exact⟨z.1,z.2.2⟩
  have l4:=M0.2 b' hb;have nf:b'.aI≠ "fun":=by rw[k1];decide
  refine oeaa O0.bL λyb Q_ y1 y2=>?_;refine oea (L yb Q_) λy' w9 A=>?_;have yv:yb.ae<=n:=by
   by_cases z:0<=yb.ae
   . exact(X.Fs yb Q_ yb.ae (by unfold bZ;rw[if_pos z];exact Zh _ (Zi _ (Zd _ (.head _))))).2
   . exact(aj 0x111111210210061101001100a203) _ _ _ ol z
  have vs:∀v∈e.s,v∈sn\/v∈b'.params:=λv hv=>by
   rcases e3 with z|z<;>rw[z] at hv
   . exact .inl hv
   . exact Zg.mp hv
  refine⟨.inr k1,⟨by exact(aj 0x11112110001511221021111a1101001100a213) _ _ _ _ ol hl,by omega⟩,λz=>absurd z nf,λ_=>k5,λz=>by exact⟨False.elim ((aj 0x10111b1021201511221021111a1101001100a313) ai.aa n b'.aa k ol hl z),ZA ((aj 0x101110193101021201511221021111a1101001100a314) ai.aa n b'.aa b'.aw k ol hl z) ((aj 0x1001121190012121101001100a203) ai.aa n b'.aw ol k3)⟩,λ_=>⟨_,tJ,k3.symm,by show ai.aa<_;exact(aj 0x11012101101511221021111a1101001100a213) _ _ _ _ ol hl⟩,⟨y',w9,by rw[A.aa,y1,k2],A.aI.trans y2⟩,λz=>absurd z nf,λ_=>⟨⟨_,tJ,k3.symm,k2.symm⟩,y',w9,by rw[A.aa,y1,k2],by rw[A.ae];omega⟩,k6,λv hv=>?_,⟨0,0,λv hv=>?_⟩,λt ht=>?_,by rw[k4];exact ZR _,(λo ho=>by rw[k4] at ho;cases ho),by rw[k4];exact Yl⟩
  . rw[sw.1] at hv;rcases vs v hv with h|h
    . refine .inr (.inr ⟨by exact λcy=>(aj 0x10111b1021201511221021111a1101001100a313) _ _ _ _ ol hl cy,_,tJ,k3.symm,?_⟩);show v∈cU bX ah ai.aa\/_;rw[(old ol.2).1];exact(C.zO v h).imp id (rM ai).res
    . exact .inl h
  . rw[sw.1] at hv;rcases vs v hv with h|h
    . have:=C.pos v h;exact .inl (by omega)
    . exact .inr (.inr (.inr h))
  . rw[sw.2] at ht;refine oea (Zn.mp ht) λp hp gW=>?_;subst gW;rcases e4 p hp with h|⟨d,hd,rfl⟩
    . have hj:p.2∈js ai.aa:=Rl▸ZF h;refine oaaeaaa (O0.IO _ hj) λ_ j1 d hd d1 d2 _=>?_;refine oea (L d hd) λd' qC D=>?_;exact⟨k1,j1,d',qC,D.aa.trans d1,D.aI.trans d2,.inr ⟨_,tJ,k3.symm,by show _∈qd bX js ai.aa;rw[(old ol.2).2];exact hj⟩⟩
    . have:=M0.2 d hd;exact⟨k1,by show d.aa<=63;omega,d,zW d hd,rfl,(F.vD d hd).1,.inl ((F.vD d hd).2.2.1.trans k3.symm)⟩
 have NA:∀b∈f_ (bs++nb) ai.aa x,zU (f_ (bs++nb) ai.aa x) (cU bX ah) (qd bX js) b:=λb hb=>by
  rcases vV b hb with rfl|⟨h,z⟩|h
  . exact Nz
  . exact Tq b h z
  . exact GC b h
 have LD:I8 (f_ (bs++nb) ai.aa x) (cU bX ah) (qd bX js) (qh ai x):=by
  have zO:∀v∈sn,v∈cU bX ah ai.aa\/v∈cZ (qh ai x):=λv hv=>by
   rw[(old ol.2).1];exact C.zO v hv
  refine⟨F.shape,F.len,λv hv=>⟨?_,zO v (F.args v hv)⟩,λf=>zO _ (F.fn.resolve_left λz=>?_),⟨F.fn.imp id λz=>?_,F.ae.imp id λz=>?_⟩,λf=>?_,λt ht=>?_,λw f=>?_⟩
  . have:=C.pos v (F.args v hv);exact(aj 0x11010001101001100a102) _ _ this
  . have f':0<=x.fn:=f;rw[z] at f';exact absurd f' (by decide)
  . have:=C.pos _ z;show 0<=x.fn;exact(aj 0x11010001101001100a102) _ _ this
  . show 0<=x.ae;rw[z];exact y0
  . refine oea (L y hy) λy' w9 A=>?_;refine⟨y',w9,A.aa.trans yh,?_⟩;have f':0<=x.ae:=f;rcases F.ae with z|z
    . rw[z] at f';exact absurd f' (by decide)
    . rw[A.ae];exact z
  . rcases F.vA t ht with h|h
    . refine oea (Zn.mp h) λb hb gE=>?_;subst gE;exact⟨b,zW b hb,rfl,(F.vD b hb).1,.inl (F.vD b hb).2.2.1⟩
    . rw[<-Rl] at h;refine oaaeaaa (O0.IO t h) λ_ _ d hd d1 d2 _=>?_;refine oea (L d hd) λd' qC D=>?_;exact⟨d',qC,D.aa.trans d1,D.aI.trans d2,.inr (by show t∈qd bX js ai.aa;rw[(old ol.2).2];exact h)⟩
  . refine oea (Zn.mp (F.call w f)) λb hb e=>?_;exact⟨b,zW b hb,e,(F.vD b hb).2.2.1⟩
 have nu:∀b∈nb,b.aa∉un:=λb hb z=>by
  refine oea (X.Eu _ z) λd hd e=>?_;have:=X.cj hd;have:=nl b hb
  (rename_i jH;exact(aj 0x100110b2101001100a01521211011211a11012313) d.aa b.aa n k e this jH)
 have ne:∀b∈nb,b.aa≠ai.aa:=λb hb z=>nu b hb (z▸C.un);have QO:(nb.map (·.aa)).filter (λl=>l != ai.aa)=nb.map (·.aa):=Yu.mpr λl hl=>by
  refine oea (Zn.mp hl) λb hb kE=>?_;subst kE;exact bne_iff_ne.mpr (ne b hb)
 have Al:(((un++nb.map (·.aa)).filter λl=>l != ai.aa).length:Int)=un.length - 1+nb.length:=by
  rw[Yk,QO,Zb,Za,<-X.IF.erase_eq_filter,XK C.un];have:=Xn C.un
  omega
 have mu:∀{l:Int},l∈(un++nb.map (·.aa)).filter (λl=>l != ai.aa)->l≠ai.aa/\(l∈un\/l∈nb.map (·.aa)):=λh=>by
  rw[ZG] at h;exact⟨bne_iff_ne.mp h.2,Zg.mp h.1⟩
 have um:∀{l:Int},l≠ai.aa->(l∈un\/l∈nb.map (·.aa))->l∈(un++nb.map (·.aa)).filter (λl=>l != ai.aa):=λz h=>ZG.mpr ⟨Zg.mpr h,bne_iff_ne.mpr z⟩;have Ar:=F.cnt;refine⟨by rw[show (f_ (bs++nb) ai.aa x).map (·.aa)=(bs++nb).map (·.aa) from pC λ_=>rfl];exact As,PM.nodup_iff.mpr ?_,λb hb x hx=>?_,?_,?_,NA,λb hb z=>?_,?_,λl hl=>?_,λb hb z zc=>?_,?_,?_,?_,λe he=>?_⟩
 . refine ZI.mpr ⟨X.nums,uc.imp λh=>Yc h,λx hx y hy=>?_⟩;refine oea (Zm.mp hx) λb hb hx=>?_;have:=X.Fs b hb x hx;have:=fQ.mp hy
   (rename_i jH;exact λcy=>(aj 0x101001b0121021100a1121201501211011011a313) n y x k this cy jH)
 . have:x∈bs.flatMap bZ++eB n k:=PM.mem_iff.mp (Zm.mpr ⟨b,hb,hx⟩);rcases Zg.mp this with h|h
   . refine oea (Zm.mp h) λd hd h=>?_;have:=X.Fs d hd x h;exact⟨(aj 0x11011001101001100a102) _ _ this,(aj 0x1010151120101101001100a112) _ _ _ this⟩
   . have:=fQ.mp h;exact⟨(aj 0x11112110001511221021111a1101001100a213) _ _ _ _ ol this,(aj 0x10101501211001501211011011a112) _ _ _ this⟩
 . refine oea X.ent λb hb e=>?_;refine oea (L b hb) λb' cF a=>?_;exact⟨b',cF,a.aa.trans e⟩
 . refine oeaea X.three λb hb o ho h=>?_;refine oea (L b hb) λb' cF a=>?_;exact⟨b',cF,o,a.aN o ho,h⟩
 . rcases vV b hb with rfl|⟨h,y⟩|h
   . exact LD
   . exact(X.ag b h λk=>z (um y (.inl k))).le L (hold b h).1 (hold b h).2 ⟨rfl,rfl,rfl,rfl,rfl,rfl,rfl,λ_ z=>z⟩ rfl
   . exact absurd (um (ne b h) (.inr (ZF h))) z
 . refine(ZI.mpr ⟨X.IF,F.asc.imp λh=>Yc h,λx hx y hy e=>?_⟩).filter _;refine oea (Zn.mp hy) λb hb jX=>?_;subst jX;exact nu b hb (e▸hx)
 . rcases (mu hl).2 with h|h
   . refine oea (X.Eu l h) λb hb e=>?_;refine oea (L b hb) λb' cF a=>?_;exact⟨b',cF,a.aa.trans e⟩
   . refine oea (Zn.mp h) λb hb n_=>?_;subst n_;exact⟨b,zW b hb,rfl⟩
 . rcases vV b hb with rfl|⟨h,y⟩|h
   . exact absurd rfl (mu z).1
   . refine X.cH b h ((mu z).2.resolve_right λk=>?_) y;refine oea (Zn.mp k) λd hd e=>?_;have:=nl d hd;have:=X.cj h
     (rename_i jH;exact(aj 0x11001b01521201001211a2111011100a11012313) d.aa b.aa n _ e this jH)
   . rw[(F.vD b h).2.2.2.1];exact ZR _
 . rw[cn,Al];have:=X.cnt;exact(aj 0x11111501201510315320242152001315024215202001115012320150240241) _ _ _ _ _ Ar this
 . rw[cn,Al];have h1:=X.br;have h2:=X.cnt;rcases Jl with z|⟨z1,z2,_⟩
   . rw[z,Yi];exact(aj 0x11100003f6200510115320240152001003f621150240152020010221) _ _ _ c2 h1
   . exact(aj 0x211100003f6221510115320240152030213003c60110111502401520331) _ _ _ _ h2 z1 z2
 . rw[Yu.mpr,Yk,QO,X.lst,Zq,F.ents];intro l hl;refine bne_iff_ne.mpr ?_;rcases (mu hl).2 with h|h
   . refine oea (X.Eu l h) λb hb e=>?_;have:=X.cj hb;exact λcy=>(aj 0x10101b001122101001100a11012303) _ _ _ e this cy
   . refine oea (Zn.mp h) λb hb gy=>?_;subst gy;have:=nl b hb;exact λcy=>(aj 0x10111b0021201511221021111a1101001100a313) _ _ _ _ ol this cy
 . rcases Zg.mp he with h|h
   . have E:=X.ents e h;refine oeaa E.aT λb hb e1 e2=>?_;refine oea (L b hb) λb' cF a=>?_;have o:=old (e2▸(X.cj hb).2);exact⟨⟨b',cF,e1.trans a.ad.symm,e2.trans a.aa.symm⟩,o.1.trans E.s,o.2.trans E.js,λp hp=>by
      refine oeaa (E.jb p hp) λd hd d1 d2=>?_;refine oea (L d hd) λd' qC a=>?_;exact⟨d',qC,a.ad.trans d1,a.aa.trans d2⟩,E.ne,λv hv=>by have:=E.pos v hv;exact⟨(aj 0x11011001101001100a102) _ _ this,(aj 0x1010151120101101001100a112) _ _ _ this⟩,E.sl,E.jl⟩
   . refine oeaaaa (F.ent e h) λb hb e1 e2 e3 e4=>?_;have w:=jy (ah:=ah) (js:=js) p2 h;have hl:=nl b hb;have sl:=C.sl;have jn:=F.PF e h;have pl:=(F.vD b hb).2.2.2.2.2;refine⟨⟨b,zW b hb,e1,e2⟩,w.1,w.2,(λp hp=>?_),?_,λv hv=>?_,?_,by exact(aj 0x1011010112121501001221311511231031111a312121101001100a010150534) _ _ _ _ _ _ _ jl ol e2 hl jn⟩
     . rcases e4 p hp with z|⟨d,hd,rfl⟩
       . refine oeaa (hjb p z) λd hd d1 d2=>?_;refine oea (L d hd) λd' qC a=>?_;exact⟨d',qC,a.ad.trans d1,a.aa.trans d2⟩
       . exact⟨d,zW d hd,rfl,rfl⟩
     . rcases e3 with z|z<;>rw[z]
       . exact C.ne
       . exact λz=>C.ne (Wa.mp z).1
     . have:v∈sn\/v∈b.params:=by
        rcases e3 with z|z<;>rw[z] at hv
        . exact .inl hv
        . exact Zg.mp hv
       rcases this with h|h
       . have:=C.pos v h;exact⟨(aj 0x11011001101001100a102) _ _ this,(aj 0x1010151120101101001100a112) _ _ _ this⟩
       . have:=rn v (Zm.mpr ⟨b,hb,Zh _ (Zd _ h)⟩);exact⟨(aj 0x11112110001511221021111a1101001100a213) _ _ _ _ ol this,(aj 0x10101501211001501211011011a112) _ _ _ this⟩
     . have:e.s.length<=sn.length+b.params.length:=by
        rcases e3 with z|z<;>rw[z]
        . exact ZD ..
        . exact YI Zb
       exact(aj 0x11107707021310743150211123131021301024110742115001521241041211a413122111011100a20010745) _ _ _ _ _ _ _ _ _ c2 ol e2 hl sl pl this
end
section
variable {A:Ad}{j h h':Hp}{i:Nat}{bs ej:List ax}{un gU:List Int}{n n':Int}{es gq:List Ent}{cur c:Int}{ah js:Int->List Int}{ai:ax}{sn rs:List Int}{jj:List (Nat×Int)}
theorem xT{l:Int}{f:ax->ax}:(qE bs l f).length=bs.length:=Za _
structure St(A:Ad)(j:Hp)(i:Nat)(bs:List ax)(un:List Int)(n:Int)(es:List Ent)(cur c:Int)(ah js:Int->List Int)(h:Hp):Prop where
 th:TH h A bs un n es
 wf:Wf bs un n es cur c ah js
 ext:Ext j (aZ (ak A bs) h)
 cnt:i+un.length<=bs.length
structure Tn(jj:List (Nat×Int))(bs:List ax)(un:List Int)(n c:Int)(ah js:Int->List Int)(ai:ax)(sn:List Int):Prop where
 cur:Ni bs un n c ah ai sn
 QZ:js ai.aa=jj.map (·.2)
 jb:∀p∈jj,∃d∈bs,d.ad=p.1/\d.aa=p.2
 jl:(jj.length:Int)<=ai.aa
theorem Wf.n0(X:Wf bs un n es cur c ah js):0<=n:=by
 refine oea X.ent λb hb _=>?_;have:=X.cj hb;exact(aj 0x111110001101001100a102) _ _ this
theorem Wf.vK(X:Wf bs un n es cur c ah js):es.length<=bs.length:=by
 have h1:es.length<=un.length:=by
  have:=congrArg List.length X.lst;rw[Za] at this;rw[<-this];exact ZT ..
 refine Zf h1 ?_;have:=X.IF.length_le_of_subset (l₂:=bs.map (·.aa)) λl hl=>by
  refine oea (X.Eu l hl) λb hb e=>?_;exact Zn.mpr ⟨b,hb,e⟩
 rwa [Za] at this
theorem St.op(S:St A j i bs un n es ai.aa c ah js h)(T:Tn jj bs un n c ah js ai sn)(c0:0<=c)(c1:c<=1)(O:rN ai sn bs un n es ej gU n' gq rs)(Y:TH h' A ej gU n' gq)(E:Ext (aZ (ak A bs) h) (aZ (ak A ej) h')):
 ∃vS fe tc,vS.ad=ai.ad/\vS.aa=ai.aa/\St A j i ej gU n' gq vS.aa (c+1) fe tc h'/\Tn jj ej gU n' (c+1) fe tc vS (sn++rs):=by
 refine oeeeaaaa O.ex λnb op bX bV cw c8 dW F=>?_;subst bV;subst cw;subst c8;subst dW;have R:=S.wf.op T.cur c0 c1 F;have ol:=S.wf.cj T.cur.mem;refine⟨j0 ai op,_,_,rfl,rfl,⟨Y,R.1,S.ext.trans E,?_⟩,R.2,?_,λp hp=>?_,T.jl⟩
 . have:=S.cnt;rw[xT,Zb,Zb,Za];exact(aj 0x113121231112012321110123140) _ _ _ _ this
 . show qd bX js ai.aa=_;rw[<-T.QZ];refine(lX (ah:=ah) λe he z=>?_).2;refine oeaaa (F.ent e he) λb hb _ e2 _=>?_;refine oea F.seq λk gW hs=>?_;subst gW;have:b.aa∈eB n k:=hs▸Zd _ (Zm.mpr ⟨b,hb,.head _⟩);have:=(fQ.mp this).1;exact(aj 0x1100110b3111131212012121101001100a404) _ _ _ _ ol z e2 this
 . refine oeaa (T.jb p hp) λd hd d1 d2=>?_;refine oea (wc (nb:=nb) (l:=ai.aa) (λb=>kg (op:=op) b) d hd) λd' qC a=>?_;exact⟨d',qC,a.ad.trans d1,a.aa.trans d2⟩
theorem St.end(S:St A j i bs un n es ai.aa c ah js h)(T:Tn jj bs un n c ah js ai sn)(c0:0<=c)(c2:c<=2){y:ax}(hy:y∈bs)(yh:y.aa=ai.bL)(y0:0<=y.ae)(O:rZ ai sn jj y.ae bs un n es ej gU n' gq)(Y:TH h' A ej gU n' gq)(E:Ext (aZ (ak A bs) h) (aZ (ak A ej) h')):
 ∃fe tc,St A j (i+1) ej gU n' gq 0 0 fe tc h':=by
 refine oeeeaaa O.ex λnb x bX gE kE jX F=>?_;subst gE;subst kE;subst jX;refine⟨_,_,Y,S.wf.end T.cur c0 c2 T.QZ T.jb T.jl hy yh y0 F,S.ext.trans E,?_⟩;have h1:=S.cnt;have h2:((un++nb.map (·.aa)).filter λl=>l != ai.aa).length+1<=un.length+nb.length:=by
  rw[Yk,Zb,<-S.wf.IF.erase_eq_filter,XK T.cur.un];have:=Xn T.cur.un;have:((nb.map (·.aa)).filter λl=>l != ai.aa).length<=(nb.map (·.aa)).length:=ZT ..;rw[Za] at this
  (rename_i jH;exact(aj 0x111113121001212233110212511013240) _ nb.length (un.length - 1) un.length this (YV ((aj 0x110110301004110) un.length jH)))
 rw[xT,Zb];exact(aj 0x111412123110012234111210312321110123250) _ _ _ _ _ h1 h2
theorem St.pop{e:Ent}(S:St A j i bs un n (es++[e]) 0 0 ah js h)(p:Put h A.td (.list (es.map λe=>V.ref e.a)) h'):
 ∃ai,ai.ad=e.ad/\St A j i bs un n es ai.aa 0 ah js h'/\Tn e.js bs un n 0 ah js ai e.s/\yI (aZ (ak A bs) h') e:=by
 have X:=S.wf;have he:e∈es++[e]:=Zi _ (.head _);have E:=X.ents e he;refine oeaa E.aT λai ho e1 e2=>?_;have Y:=S.th.bh.EQ p;have ol:=X.cj ho;have QR:un=es.map (·.aa)++[ai.aa]:=by
  have:=X.lst;rw[Zq,YH,e2] at this;rw[<-this,Yu.mpr];intro l hl;refine oea (X.Eu l hl) λb hb z=>?_;have:=X.cj hb;exact bne_iff_ne.mpr (by exact λcy=>(aj 0x10101b001122101001100a11012303) _ _ _ z this cy)
 have QF:ai.aa∈un:=QR▸Zi _ (.head _);have W:Wf bs un n es ai.aa 0 ah js:=by
  refine {X with cH:=λb hb z _=>X.cH b hb z ?_,lst:=?_,ents:=λd hd=>X.ents d (Zd _ hd)}
  . have:=X.cj hb;exact λcy=>(aj 0x101b000121101001100a202) _ _ this cy
  . have nd:=X.IF;rw[QR] at nd ⊢;refine oaa (ZI.mp nd) λ_ _ n3=>?_;rw[Yk,Yu.mpr λl hl=>bne_iff_ne.mpr (n3 l hl _ (.head _)),YM (by rw[bne_self_eq_false];exact Yd)];exact Zu _
 refine⟨ai,e1.symm,⟨⟨Y.1,λd hd=>(S.th.ent d (Zd _ hd)).ext Y.2⟩,W,S.ext.trans Y.2,S.cnt⟩,⟨⟨ho,QF,λv hv=>.inl ?_,E.pos,E.ne,?_,?_⟩,?_,E.jb,e2▸E.jl⟩,(S.th.ent e he).ext Y.2⟩
 . rw[<-e2,E.s];exact hv
 . have:=E.sl;rw[e2] at this;exact(aj 0x11000240107420150010740150111) _ _ this
 . have:=X.cH ai ho QF (by exact λcy=>(aj 0x101b000121101001100a202) _ _ ol cy);exact(aj 0x1100102015010013110) _ this
 . rw[<-e2];exact E.js
theorem Wf.init{b:ax}{a aA rA lA:Nat}{e:Ent}(l1:b.aa=1)(s1:b.aI="fun")(p1:b.params=[])(v1:b.ae=2)(h1:b.bL=1)(q1:b.aw= -1)(o1:b.aN=[⟨a,3,"const",-1,[],aA,.int 5,[],rA,[],lA,false⟩])(e1:e.ad=b.ad)(e2:e.aa=1)(e3:e.s=[3])(e4:e.js=[]):Wf [b] [1] 3 [e] 0 0 (λ_=>[3]) (λ_=>[]):=by
 have bn:bZ b=[1,2,3]:=by unfold bZ cZ;rw[l1,p1,v1,o1];rfl
 have n1:nS [b]=1:=by unfold nS;rw[ZE,o1];rfl
 have hb:b∈[b]:=.head _;refine⟨Z4 _ _,by rw[ZE,bn];decide,λc hc x hx=>?_,⟨b,hb,l1⟩,⟨b,hb,_,o1▸Zc.mpr rfl,rfl,rfl⟩,λc hc=>?_,λc hc z=>?_,Z4 _ _,λl hl=>⟨b,hb,l1.trans (Zc.mp hl).symm⟩,λc hc _ _=>?_,by rw[n1];decide,by rw[n1];decide,by rw[YH,e2];rfl,λd hd=>?_⟩
 . rw[Zc.mp hc,bn] at hx;rcases Zp.mp hx with rfl|hx
   . decide
   . rcases Zp.mp hx with rfl|hx
     . decide
     . rw[Zc.mp hx];decide
 . rw[Zc.mp hc];refine⟨.inl s1,by rw[l1];decide,λ_=>by rw[v1];decide,λz=>absurd (s1.symm.trans z) (by decide),λ_=>⟨s1,q1⟩,λz=>absurd l1 z,⟨b,hb,l1.trans h1.symm,s1⟩,λ_=>h1.trans l1.symm,λz=>absurd (s1.symm.trans z) (by decide),by rw[p1];exact ZR _,λv hv=>.inr (.inl ⟨l1,Zc.mp hv⟩),⟨0,0,λv hv=>.inl (by rw[Zc.mp hv];decide)⟩,(λ_ z=>nomatch z),by rw[o1];exact(by decide:1<=3),λo ho=>?_,by rw[o1];exact Yl⟩;rw[o1] at ho;rw[Zc.mp ho];exact⟨.inl ⟨rfl,rfl,rfl⟩,λ_=>(by decide:(0:Int)<=3),⟨λz=>absurd z (by decide:¬ "const"="fix"),λ_=>rfl,.inr (by decide:(0:Int)<=3)⟩,⟨ZR _,ZR _,ZR _⟩,(λ_ z=>nomatch z),λ_ z=>nomatch z⟩
 . rw[Zc.mp hc,l1] at z;exact absurd (.head _) z
 . rw[Zc.mp hc,o1];exact Zs 1
 . rw[Zc.mp hd];exact⟨⟨b,hb,e1,e2.trans l1.symm⟩,e3.symm,by rw[e4];rfl,(λp hp=>by rw[e4] at hp;cases hp),by rw[e3];decide,(λv hv=>by rw[e3] at hv;rw[Zc.mp hv];decide),by rw[e3,e2];decide,by rw[e4,e2];decide⟩
end
section
section
variable {Φ:Calls}{γ:String->Option V}{h h':Hp}{Q:V->Hp->Prop}
variable {A:Ad}{bs:List ax}{un:List Int}{n:Int}{td:O}
theorem BH.Lz(X:BH h A bs un n td){d:Nat}{o:O}(A1:Alloc h d o h'):BH h' {A with td:=d} bs un n o/\Ext (aZ (ak A bs) h) (aZ (ak {A with td:=d} bs) h')/\aZ (ak {A with td:=d} bs) h' A.td=some td:=by
 let m1:=A.ex.map (·.1)++[A.g,A.t]
 let m2:=A.dk::A.dc::bs.flatMap λb=>[b.ad,b.oA]
 have e1:ak A bs=m1++A.td::m2:=by unfold ak core;exact(Zo _ [A.g,A.t] _).symm
 have e2:ak {A with td:=d} bs=m1++d::m2:=by unfold ak core;exact(Zo _ [A.g,A.t] _).symm
 have nd:=X.nd;rw[e1,Xk.nodup_iff,ZC] at nd;have live:∀x∈m1++m2,h x≠none:=λx hx=>X.live x (by rw[e1];exact Xk.mem_iff.mpr (Zh _ hx));have TV:(ak {A with td:=d} bs).Nodup:=by
  rw[e2,Xk.nodup_iff,ZC];exact⟨λm=>live _ m A1.new,nd.2⟩
 have E:Ext (aZ (ak A bs) h) (aZ (ak {A with td:=d} bs) h'):=bv (λx m=>by
  rw[e2] at m;rw[e1];rcases Zp.mp (Xk.mem_iff.mp m) with rfl|m
  . exact .inr A1.new
  . exact .inl (Xk.mem_iff.mpr (Zh _ m))) A1.ext
 have e:=A1.ext;refine⟨⟨TV,λc m=>e.at (X.vJ c m),e.at X.g,E.at X.p,e.at X.t,A1.at,X.D.ext e,λb hb=>(X.aT b hb).nD E (e _ (aG (X.aT b hb).self)) (e _ (aG (X.aT b hb).aN))⟩,E,?_⟩;rw[aX,e.at X.td];rw[e2];exact λm=>(Zp.mp (Xk.mem_iff.mp m)).elim (A1.ne X.td) nd.1
variable {es:List Ent}{i:Nat}{j:Hp}{ah js:Int->List Int}
theorem St.fin(S:St A j i bs un n [] 0 0 ah js h):cS ⟨A.p,A.t,bs⟩ ah js/\PR (aH A.dk (aH A.dc h)) ⟨A.p,A.t,bs⟩/\eT h A.dk A.dc:=by
 have X:=S.wf;have u0:un=[]:=by
  have:=X.lst;rw[Yu.mpr] at this
  . exact this
  . intro l hl;refine oea (X.Eu l hl) λb hb z=>?_;have:=X.cj hb;exact bne_iff_ne.mpr (by exact λcy=>(aj 0x10101b001122101001100a11012303) _ _ _ z this cy)
 subst u0;have B:=S.th.bh;refine oaaa B.ne λbV cw _ d=>?_;refine oaaa bV λ_ _ _ _=>?_;try clear bV;refine oaa cw λ_ t3 t4=>?_;try clear cw
 have E:Ext (aZ (ak A bs) h) (aH A.dk (aH A.dc h)):=λx hx=>by
  have m:x∉ak A bs:=λm=>hx (cC m);rw[aX m,hide_ne λ(e:x=A.dk)=>m (e▸GD),hide_ne λ(e:x=A.dc)=>m (e▸GE)]
 refine⟨X.fin (Wt _),⟨E.at B.p,aF t3 (aF t4 B.t),λb hb=>?_⟩,B.D⟩;refine oaaaaa (d b hb) λc8 _ _ _ o1 o2=>?_;refine oaaaa c8 λ_ _ _ a1 a2=>?_;try clear c8
 have Y:=B.aT b hb;exact⟨aF a1 (aF a2 Y.self),E.at Y.params,aF o1 (aF o2 Y.aN),λo ho=>(Y.op o ho).ext E,(Y.ag λz=>nomatch z).ext E⟩
theorem Qj{K:Po}{t:String}{B:List String}{σ ρ:Lo}{v:V}{P:Lo->Hp->Prop}(hb:∀σ h',P (mix (t::B) σ ρ) h'->K .brk (mix (t::B) σ ρ) [] h')(p:P (bf (mix (t::B) σ ρ) t v) h):K .brk (bf (mix (t::B) σ ρ) t v) [] h:=by
 have e:mix (t::B) (bf (mix (t::B) σ ρ) t v) ρ=bf (mix (t::B) σ ρ) t v:=oD λx n=>(if_neg λ(z:x=t)=>n (z▸.head _)).trans (Cf x n);rw[<-e] at p ⊢;exact hb _ h p
noncomputable def PI(A:Ad)(j:Hp)(i:Nat)(h:Hp):Prop:=∃bs un n es ah js,St A j i bs un n es 0 0 ah js h
theorem PI.el{j:Hp}{i:Nat}{h:Hp}{G:Prop}(x:PI A j i h)(k:∀{bs un n es ah js},St A j i bs un n es 0 0 ah js h->G):G:=by
 obtain ⟨_,_,_,_,_,_,S⟩:=x;exact k S
noncomputable def PJ(A:Ad)(j:Hp)(i:Nat)(e:Ent)(m:Nat)(ρ:Lo)(h:Hp):Prop:=∃bs un n es ah js ai sn sA,ρ "seen"=some (.ref sA)/\ai.ad=e.ad/\St A j i bs un n es ai.aa m ah js h/\Tn e.js bs un n m ah js ai sn/\aZ (ak A bs) h sA=some (iL sn)/\aZ (ak A bs) h e.jA=some (.list (e.js.map jK))
theorem PJ.el{j:Hp}{i:Nat}{e:Ent}{m:Nat}{ρ:Lo}{h:Hp}{G:Prop}(x:PJ A j i e m ρ h)(k:∀{bs un n es ah js ai sn sA},ρ "seen"=some (.ref sA)->ai.ad=e.ad->St A j i bs un n es ai.aa m ah js h->Tn e.js bs un n m ah js ai sn->aZ (ak A bs) h sA=some (iL sn)->aZ (ak A bs) h e.jA=some (.list (e.js.map jK))->G):G:=by
 obtain ⟨_,_,_,_,_,_,_,_,_,a,b,c,d,e,f⟩:=x;exact k a b c d e f
theorem St.gen{c m:Int}(S:St A j i bs un n es c m ah js h){G:Prop}(k:∀B:Ad,B.g=A.g->B.p=A.p->B.td=A.td->B.dk=A.dk->B.dc=A.dc->St B j i bs un n es c m ah js h->G):G:=k A rfl rfl rfl rfl rfl S
@[elab_as_elim] theorem gen {α:Type} {motive:α->Prop} (a:α) (k:∀x,motive x):motive a:=k a
theorem qk(W:Wd Φ γ):xW Φ γ:=by
 intro h dk dc Q BA D q;refine W.cl rfl rfl ?_;refine oea BA.empty λte ge he=>?_;refine oeeaa D.st λm0 cs0 f1 f2 _=>?_;have z9:h te=some (.c9 "Special" [("title",sv "empty")]):=(aV.trans aV).at he;have S3:te≠dk:=λe=>by rw[e,f1] at z9;cases z9
 have S6:te≠dc:=λe=>by rw[e,f2] at z9;cases z9
 nofun;refine r_new rfl λp h1 A1=>W.cl rfl rfl ?_;nofun;intro t h2 A2;have RO:=A2.ext.at A1.at;nofun;intro h3 p3;nofun;intro h4 p4;refine r_done ⟨rfl,?_⟩;have n1:=A1.new;have e4:Ext h h4:=p4.im (p3.im (A2.im A1.ext) n1) n1;have tp:t≠p:=(A2.ne A1.at).symm;have nt:h t=none:=A1.ext.none A2.new;have t4:h4 t=some (.dict []):=p4.to tp (p3.to tp A2.at);nofun;intro g h5 A5;have ng:=e4.none A5.new;have e5:Ext h h5:=A5.im e4;have gp:g≠p:=(A5.ne p4.at).symm;have gt:g≠t:=(A5.ne t4).symm;have ne:∀{x y:Nat} {o:O},h x=none->h y=some o->x≠y:=λa b e=>by rw[e,b] at a;cases a
 let A0:Ad:=⟨g,p,t,te,dk,dc,[]⟩
 have m5:ak A0 []=[g,t,te,dk,dc]:=rfl;have X0:BH h5 A0 [] [] 0 (.c9 "Special" [("title",sv "empty")]):=by
  refine⟨?_,(λ_ z=>nomatch z),A5.at,?_,A5.ext.at t4,e5.at z9,D.ext e5,λ_ z=>nomatch z⟩
  . rw[m5];simp only[ZC,Zp,Ys,or_false,not_or];exact⟨⟨gt,ne ng z9,ne ng f1,ne ng f2⟩,⟨ne nt z9,ne nt f1,ne nt f2⟩,⟨S3,S6⟩,D.ne,not_false,Yl⟩
  . rw[m5,aX]
    . exact A5.ext.at p4.at
    . simp only[Zp,Ys,or_false,not_or];exact⟨gp.symm,tp.symm,ne n1 z9,ne n1 f1,ne n1 f2⟩
 nofun;refine eV W (un:=[]) X0 (λ_ z=>nomatch z) (by decide) (s:="fun") (m:=0) (by decide) λh6 b X6 E6 NB=>?_;nofun;intro td h7 A7
 let A:Ad:=⟨g,p,t,td,dk,dc,[]⟩
 have Si:BH h7 A ([]++[b]) ([]++[b.aa]) (bJ 0 "fun" 0) (.list [])/\Ext (aZ (ak A0 ([]++[b])) h6) (aZ (ak A ([]++[b])) h7)/\aZ (ak A ([]++[b])) h7 te=some (.c9 "Special" [("title",sv "empty")]):=X6.Lz A7;refine oaa Si λX7 E7 Qw=>?_;have OP:Ext (aH dk (aH dc h)) (aZ (ak A ([]++[b])) h7):=λx hx=>by
  by_cases z:x=te
  . rw[z,he];exact Qw
  . have x1:x≠dk:=λe=>hx (e▸ao);have x2:x≠dc:=λe=>hx ((hide_ne x1).trans (e▸ao));have e0:aH dk (aH dc h) x=h x:=(hide_ne x1).trans (hide_ne x2);rw[e0] at hx ⊢;have e1:aZ (ak A0 []) h5 x=h x:=by
     rw[m5,aX,e5 x hx];simp only[Zp,Ys,or_false,not_or];exact⟨λe=>hx (e▸ng),λe=>hx (e▸nt),z,x1,x2⟩
    have:=(E6.trans E7) x (by rw[e1];exact hx);exact this.trans e1
 have S8:=X7.td;nofun;refine mZ W X7 (Zc.mpr rfl) (λc hc _=>Zc.mp hc) (by rw[NB.aN];exact ZR _) (d:=.int 5) (pr:=false) (.inr (.inl rfl)) λh8 a aA rA lA r X8 E8 hr=>?_;have bl:b.aa=1:=NB.aa;have ea:cp ([]++[b]) b.aa ⟨a,bJ 0 "fun" 0+1,"const",-1,[],aA,.int 5,[],rA,[],lA,false⟩=[j0 b ⟨a,3,"const",-1,[],aA,.int 5,[],rA,[],lA,false⟩]:=congrArg (λz=>[z]) (if_pos rfl);have me:ak A [j0 b ⟨a,3,"const",-1,[],aA,.int 5,[],rA,[],lA,false⟩]=ak A ([]++[b]):=rfl;rw[ea] at X8;have Y8:TH h8 A [j0 b ⟨a,3,"const",-1,[],aA,.int 5,[],rA,[],lA,false⟩] [1] 3 []:=by
  have Z:BH h8 A [j0 b ⟨a,3,"const",-1,[],aA,.int 5,[],rA,[],lA,false⟩] [b.aa] 3 (.list []):=X8;rw[bl] at Z;exact⟨Z,λ_ z=>nomatch z⟩
 rw[<-me] at E8 hr OP;nofun;intro jA h9 A9;have Y9:=Y8.al A9;nofun;intro e iq tw;refine r_todo Y9.1 (by decide) tw 1 (js:=[]) (Y9.2.1.at hr) Y9.2.2 λti Dj Sx=>?_;have S0:St A (aH dk (aH dc h)) 0 _ _ _ _ 0 0 _ _ ti:=⟨Dj,Wf.init bl NB.aI NB.params NB.ae (by show b.bL=1;rw[NB.bL];rfl) NB.aw (by show b.aN++_=_;rw[NB.aN];rfl) rfl rfl rfl rfl,OP.trans (E8.trans (Y9.2.1.trans Sx)),Zs 1⟩;refine S0.gen λB hg hp NR N4 N5 S1=>?_;replace hg:B.g=g:=hg;replace hp:B.p=p:=hp;replace NR:B.td=td:=NR;replace N4:B.dk=dk:=N4;replace N5:B.dc=dc:=N5;clear Dj Sx Y9 Y8 tw A9 E8 hr OP X8 ea me X7 E7 Qw Si X6 E6 NB X0 m5 A7 S8 S0 A A0;subst hg hp NR N4 N5
 revert BA q S1
 refine gen (aH B.dk (aH B.dc h)) ?_;intro j BA q S0;have fin:∀{i bs un n ah js h'} {ρ:Lo},St B j i bs un n [] 0 0 ah js h'->ρ "grown"=some (.ref B.g)->wp Φ γ (.ae "grown"<|.az (.int 0)<|.b .idx<|.ret) ρ [] h' (ty Q):=λ{i bs un n ah js h' ρ} S hρ=>by
  have F:=S.fin;have g1:=S.th.bh.g;have Mp:=@xd (.ref B.p) [.int n];nofun;refine q h' ⟨B.p,B.t,bs⟩ _ _ ?_ F.2.2 F.2.1 F.1;exact S.ext.trans bm
 nofun;refine fq W.aW (n:=120) (by decide) (λi _ h'=>PI B j i h') ⟨_,_,_,_,_,_,S0⟩ ?_ ?_
 . intro i σ h0 hi z K hK _ hb;refine z.el λ{bs un n es ah js} S=>?_;have Qx:=S.th.Fp;nofun;refine r_ite (λw=>?_) λw=>?_
   . have e0:es=[]:=by
      cases es with
      |nil=>rfl
      |cons x y=>exact Bool.noConfusion w
     subst e0;exact Qj (P:=λρ h'=>wp Φ γ _ ρ [] h' (ty Q)) hb (fin S rfl)
   . have QP:es≠[]:=λe=>by rw[e] at w;exact Bool.noConfusion w
     obtain ⟨es,e,rfl⟩:∃es1 e,es=es1++[e]:=⟨_,_,(List.dropLast_concat_getLast QP).symm⟩;rw[Zq] at Qx;clear fin w QP;nofun;refine r_popl Qx λh1 p1=>?_;refine oeaaa (S.pop p1) λai oa S1 T1 R1=>?_;have r1:=bm.at R1.self;refine r_unpl rfl rfl r1 ?_;nofun;refine dg W S1.th.bh.D (by decide) (by decide) λh2 d d0 d3 fr D2=>?_;have X2:=S1.th.bh.ro fr D2;have S2:St B _ i bs un n es ai.aa 0 ah js h2:=⟨S1.th.to X2,S1.wf,S1.ext.trans X2.2,S1.cnt⟩;refine oe (W2 d0) λk dW=>?_;subst dW;have k3:k<=2:=by exact(aj 0x1120013300151110) _ d3
     nofun;refine fq W.aW (n:=k) (Zf k3 (by decide)) (PJ B j i e)
      ⟨_,_,_,_,_,_,_,_,_,rfl,oa,S2,T1,X2.2.at R1.s,X2.2.at R1.js⟩ ?_ ?_
     . intro j σ h3 hj z K2 rf _ _;refine z.el λ{bs un n es ah js ai sn sA} l oa S T hs N0=>?_;have X:=S.wf;have ol:=(X.ok ai T.cur.mem).cj;have sl:=T.cur.sl;have Nt:sn.length<=900:=by exact(aj 0x170221038462131150240107422150003f601001100a01114300151431) _ _ _ _ d3 hj ol sl
       have o2:=T.cur.ol;nofun;rw[<-oa];refine BZ W S.th (BA.ext S.ext) T.cur.mem (λb hb=>(X.cj hb).2) (λb hb z=>X.uniq hb T.cur.mem z) (Zk X.len (by decide)) X.n0 (by exact(aj 0x1111a0213115102215001114300151330) _ _ _ d3 hj o2) (Zk (Zf X.vK X.len) (by decide)) hs T.cur.ne Nt λh4 ej gU n' gq rs r O Y E hr=>?_;refine oeeeaaa (S.op T (by exact(aj 0x1015000010) _) (by exact(aj 0x11110115001114300151220) _ _ d3 hj) O Y E) λvS fe tc a1 a2 S4 T4=>?_;have NS:=bm.at (E.at hs);have Jr:=bm.at hr;have Qz:=T4.cur.sl;have ol4:=(S4.wf.ok vS T4.cur.mem).cj;rw[Zb] at Qz;nofun;refine r_cati NS Jr (Zf (by exact(aj 0x1077022103846312123101152024110742312125001112003f601001100a01114300151542) _ _ _ _ _ _ d3 hj ol a2 Qz:_<=900) (by decide)) λc h5 A5=>?_;have Y5:=S4.th.al A5;nofun;refine r_done (rf _ h5 ⟨ej,gU,n',gq,fe,tc,vS,sn++rs,c,rfl,a1.trans oa,⟨Y5.1,S4.wf,S4.ext.trans Y5.2.1,S4.cnt⟩,T4,Y5.2.2,Y5.2.1.at (E.at N0)⟩)
     . intro σ h3 z;refine z.el λ{bs un n es ah js ai sn sA} l oa S T hs N0=>?_;have X:=S.wf;have O:=X.ok ai T.cur.mem;have ol:=O.cj;have sl:=T.cur.sl;have jl:=T.jl;refine oeaa O.bL λy hy yh ys=>?_;have y0:=(X.ok y hy).fvar ys;nofun;rw[<-oa];refine y4 W S.th T.cur.mem (X.asc.imp λh=>Yc h) (λb hb=>(X.cj hb).2) (λb hb z=>X.uniq hb T.cur.mem z) (Zk X.len (by decide)) X.n0 (Zk (Zf X.vK X.len) (by decide)) hs T.cur.ne (by exact(aj 0x17021038461130150240107421150003f601001100a300151321) _ _ _ d3 ol sl) (λv hv=>by have:=T.cur.pos v hv;exact(aj 0x11010001101001100a102) _ _ this) N0 (by exact(aj 0x110103846013010150003f601001100a211) _ _ ol jl) (λp hp=>by
        refine oeaa (T.jb p hp) λc hc c1 c2=>?_;have:=X.cj hc;exact⟨c,hc,c1,c2,by exact(aj 0x1011110002101001100a11012203) _ _ _ c2 this⟩) hy yh y0 λh4 ej gU n' gq N Y E=>?_
       refine oee (S.end T (by exact(aj 0x1015000010) _) (by exact(aj 0x11200150300151110) _ d3) hy yh y0 N Y E) λfe tc S4=>?_;nofun;exact r_done (hK _ h4 ⟨ej,gU,n',gq,fe,tc,S4⟩)
 . intro σ h0 z;refine z.el λ{bs un n es ah js} S=>?_;have:=S.cnt;have:=S.wf.len
   (rename_i jH;exact False.elim ((aj 0x11b01110078623003f6013220) bs.length un.length this jH))
end
end
section
open PySem PySem.W PyProof.Rows PySem.Calls
theorem mv{v:Value}(h:aq v= .none):v= .none:=by cases v<;>first|rfl|cases h
theorem eI{v:Value}{b:Bool}(h:aq v= .bool b):v= .bool b:=by cases v<;>cases h;rfl
theorem bK{v:Value}{i:Int}(h:aq v= .int i):∃t,v= .int i t:=by cases v<;>cases h;exact⟨_,rfl⟩
theorem fS{v:Value}{x:Str}(h:aq v= .str x):∃t,v= .str x t:=by cases v<;>cases h;exact⟨_,rfl⟩
theorem aO{v:Value}{a:Nat}(h:aq v= .ref a):v= .ref a:=by cases v<;>cases h;rfl
structure dF where
 prog:Program
 w:World
 K:Frag
 base:Heap
 mg:Str->Option Value
 mb:Str->Option Value
 cls:String->Option Nat
 fn:String->Option Nat
noncomputable abbrev dF.M(W:dF):Model:=model W.prog W.w
noncomputable abbrev dF.kd(W:dF):PySem.KeyKind W.prog W.w Int:=intKind W.prog W.w
noncomputable def FR:List DictEntry->List (String×V)->Prop
 |[],[]=>True
 |e::es,f::fs=>(∃t,e.key= .str (Str.ofString f.1) t)/\aq e.val=f.2/\handedIn e.val=true/\FR es fs
 |_,_=>False
noncomputable def eS(W:dF)(ow:Nat->Option Nat)(h:Heap)(a:Nat):O->Prop
 | .list xs=>∃vs,h.PlainList a vs/\vs.toList.map aq=xs/\xs.length<=big
 | .tup xs=>∃vs,h.IsTuple a vs/\vs.toList.map aq=xs/\xs.length<=big
 | .dict es=>∃kvs:List (Int×Value),h.DictOf W.kd a kvs/\kvs.map (λp=>(p.1,aq p.2))=es/\es.length<=big
 | .eA es=>∃kvs:List (Int×Value),h.DictOf W.kd a kvs/\kvs.map (λp=>(p.1,aq p.2))=es/\es.length<=big
 | .inst C fs=>∃c dx es n,W.cls C=some c/\ow a=some dx/\h.get? a=some (instObj c dx)/\h.get? dx=some (dictOf es n)/\FR es fs/\fs.length<=100/\∀p∈fs,iA C p.1=true
 | .eC xs=>∃vs,W.base.IsList a vs/\vs.toList.map aq=xs/\xs.length<=big
 | .c9 C fs=>∃c dx es n,W.cls C=some c/\W.base.get? a=some (instObj c dx)/\W.base.get? dx=some (dictOf es n)/\FR es fs/\fs.length<=100/\∀p∈fs,iA C p.1=true
noncomputable def Mu(H:Hp)(ow:Nat->Option Nat)(b:Nat):Prop:=(∃xs,H b=some (.list xs))\/(∃es,H b=some (.dict es)\/H b=some (.eA es))\/∃a,ow a=some b
structure RH(W:dF)(H:Hp)(ow:Nat->Option Nat)(h:Heap):Prop where
 obj:∀a o,H a=some o->eS W ow h a o
 ai:∀a d,ow a=some d->H d=none/\∃C fs,H a=some (.inst C fs)
 inj:∀a b d,ow a=some d->ow b=some d->a=b
 keep:∀b o,W.base.get? b=some o->h.get? b=some o
 new:∀b,Mu H ow b->W.base.get? b=none
theorem cD{W:dF}{h:Heap}(k:∀b o,W.base.get? b=some o->h.get? b=some o){a:Nat}(e:h.get? a=none):W.base.get? a=none:=by
 cases q:W.base.get? a with
 |none=>rfl
 |some o=>rw[k _ _ q] at e;cases e
theorem eS.lt{W:dF}{ow:Nat->Option Nat}{h:Heap}{a:Nat}{o:O}(keep:∀b o,W.base.get? b=some o->h.get? b=some o)(x:eS W ow h a o):∃ob,h.get? a=some ob:=by
 cases o with
 |list xs=>refine oea x λvs bV _=>?_;try clear x;refine oe bV λn e=>?_;try clear bV;exact⟨_,e⟩
 |tup xs=>refine oea x λvs cw _=>?_;try clear x;refine oea cw λo e _=>?_;try clear cw;exact⟨_,e⟩
 |dict es=>refine oea x λkvs c8 _=>?_;try clear x;refine oeeea c8 λo es ep e _=>?_;try clear c8;exact⟨_,e⟩
 |eA es=>refine oea x λkvs dW _=>?_;try clear x;refine oeeea dW λo es ep e _=>?_;try clear dW;exact⟨_,e⟩
 |inst C fs=>refine oeeeeaaa x λc dx es n _ _ e _=>?_;try clear x;exact⟨_,e⟩
 |eC xs=>refine oea x λvs gW _=>?_;try clear x;refine oea gW λo e _=>?_;try clear gW;exact⟨_,keep _ _ e⟩
 |c9 C fs=>refine oeeeeaa x λc dx es n _ e _=>?_;try clear x;exact⟨_,keep _ _ e⟩
theorem RH.live{W:dF}{H:Hp}{ow:Nat->Option Nat}{h:Heap}(R:RH W H ow h){a:Nat}{o:O}(e:H a=some o):h.get? a≠none:=by
 refine oe ((R.obj a o e).lt R.keep) λ_ x=>?_;rw[x];exact λq=>by cases q
theorem RH.rD{W:dF}{H:Hp}{ow:Nat->Option Nat}{h:Heap}(R:RH W H ow h){a:Nat}(e:h.get? a=none):H a=none:=by
 cases q:H a with
 |none=>rfl
 |some o=>exact absurd e (R.live q)
theorem RH.mK{W:dF}{H:Hp}{ow:Nat->Option Nat}{h:Heap}(R:RH W H ow h){a d:Nat}(e:ow a=some d):h.get? d≠none:=by
 refine oaee (R.ai a d e) λ_ C fs q=>?_;refine oeeeeaaaa (R.obj a _ q) λc dx es n _ e2 _ e3 _=>?_;rw[e] at e2;cases e2
 rw[e3];exact λq=>by cases q
theorem eS.keeps{W:dF}{ow:Nat->Option Nat}{h h':Heap}{a:Nat}{o:O}(hk:∀b o,h.get? b=some o->h'.get? b=some o)(x:eS W ow h a o):eS W ow h' a o:=by
 cases o with
 |list xs=>refine oea x λvs e q=>?_;try clear x;exact⟨vs,e.at λo=>hk _ o,q⟩
 |tup xs=>refine oea x λvs gE q=>?_;try clear x;refine oea gE λo e r=>?_;try clear gE;exact⟨vs,⟨o,hk _ _ e,r⟩,q⟩
 |dict es=>refine oea x λkvs kE q=>?_;try clear x;refine oeeea kE λo es ep e r=>?_;try clear kE;exact⟨kvs,⟨o,es,ep,hk _ _ e,r⟩,q⟩
 |eA es=>refine oea x λkvs jX q=>?_;try clear x;refine oeeea jX λo es ep e r=>?_;try clear jX;exact⟨kvs,⟨o,es,ep,hk _ _ e,r⟩,q⟩
 |inst C fs=>refine oeeeeaaaa x λc dx es n e1 e2 e3 e4 r=>?_;try clear x;exact⟨c,dx,es,n,e1,e2,hk _ _ e3,hk _ _ e4,r⟩
 |eC xs=>exact x
 |c9 C fs=>exact x
noncomputable def er(H:Hp)(ow:Nat->Option Nat)(b:Nat):Prop:=H b≠none\/∃a,ow a=some b
theorem RH.ie{W:dF}{H:Hp}{ow:Nat->Option Nat}{h:Heap}(R:RH W H ow h){b:Nat}(m:er H ow b):h.get? b≠none:=by
 rcases m with m|⟨a,m⟩
 . cases e:H b with
   |none=>exact absurd e m
   |some o=>exact R.live e
 . exact R.mK m
structure Go(H:Hp)(ow:Nat->Option Nat)(s:Shared)(H':Hp)(aP:Nat->Option Nat)(s':Shared):Prop where
 st:∃h' tk,s'={s with heap:=h',toks:=tk}
 keep:∀b o,¬ er H ow b->s.heap.get? b=some o->s'.heap.get? b=some o
 sub:∀b,er H' aP b->er H ow b\/s.heap.get? b=none
 eA:∀b es,H b=some (.eA es)->H' b=some (.eA es)/\∀o,s.heap.get? b=some o->s'.heap.get? b=some o
 grow:∀b,er H ow b->er H' aP b
theorem Go.refl(H:Hp)(ow:Nat->Option Nat)(s:Shared):Go H ow s H ow s:=⟨⟨s.heap,s.toks,rfl⟩,λ_ _ _ e=>e,λ_ m=>.inl m,λ_ _ e=>⟨e,λ_ x=>x⟩,λ_ x=>x⟩
theorem Go.trans{H H' EG:Hp}{ow aP tK:Nat->Option Nat}{s s' gV:Shared}(x:Go H ow s H' aP s')(y:Go H' aP s' EG tK gV):Go H ow s EG tK gV where
 st:=by
  refine oee x.st λh1 t1 e1=>?_;refine oee y.st λh2 t2 e2=>?_;subst e1;exact⟨h2,t2,e2⟩
 keep:=λb o m e=>y.keep b o (λm'=>(x.sub b m').elim m λl=>by rw[e] at l;cases l) (x.keep b o m e)
 sub:=λb m=>(y.sub b m).elim (x.sub b) λl=>by
  cases q:s.heap.get? b with
  |none=>exact .inr rfl
  |some o=>
   by_cases m':er H ow b
   . exact .inl m'
   . rw[x.keep b o m' q] at l;cases l
 eA:=λb es e=>oa (x.eA b es e) λp q=>oa (y.eA b es p) λp' q'=>⟨p',λo z=>q' o (q o z)⟩
 grow:=λb m=>y.grow b (x.grow b m)
theorem Go.tok{H H':Hp}{ow aP:Nat->Option Nat}{s s':Shared}(x:Go H ow s H' aP s')(t:Nat):Go H ow s H' aP {s' with toks:=t}:=by
 refine oee x.st λh1 t1 e1=>?_;subst e1;exact⟨⟨h1,t,rfl⟩,x.keep,x.sub,x.eA,x.grow⟩
theorem Go.ix{H H':Hp}{ow aP:Nat->Option Nat}{s s':Shared}(x:Go H ow s H' aP s'){b:Nat}(m:¬ er H ow b)(l:s.heap.get? b≠none):¬ er H' aP b:=
 λq=>(x.sub b q).elim m l
theorem Go.off{H H':Hp}{ow aP:Nat->Option Nat}{s s':Shared}{h':Heap}{tk:Nat}(x:Go H ow s H' aP s')(X:Nat->Prop)(hk:∀b o,¬ X b->s'.heap.get? b=some o->h'.get? b=some o)
 (hX:∀b,X b->s.heap.get? b=none):Go H ow s H' aP {s' with heap:=h',toks:=tk}:=by
 refine oee x.st λh1 t1 e1=>?_;subst e1;refine⟨⟨h',tk,rfl⟩,λb o m e=>hk b o (λq=>by rw[hX b q] at e;cases e) (x.keep b o m e),x.sub,λb es e=>?_,x.grow⟩;refine oa (x.eA b es e) λp q=>?_;exact⟨p,λo z=>hk b o (λw=>by rw[hX b w] at z;cases z) (q o z)⟩
theorem gh{H:Hp}{ow:Nat->Option Nat}{a b:Nat}{o:O}(m:er (bf H a o) ow b):er H ow b\/b=a:=by
 by_cases e:b=a
 . exact .inr e
 . exact .inl (m.imp (λm=>by rwa [bf,if_neg e] at m) id)
theorem fO{H:Hp}{ow:Nat->Option Nat}{a b:Nat}{o:O}(m:er H ow b):er (bf H a o) ow b:=m.imp (λm=>by unfold bf;split;exact λz=>(by cases z);exact m) id
theorem eZ{H:Hp}{ow:Nat->Option Nat}{a:Nat}{o:O}(e:H a=some o):er H ow a:=.inl (by rw[e];exact λq=>by cases q)
theorem wb{H:Hp}{ow:Nat->Option Nat}{a b:Nat}{o:O}(m:Mu (bf H a o) ow b):Mu H ow b\/b=a:=by
 by_cases e:b=a
 . exact .inr e
 . left;rcases m with ⟨xs,m⟩|⟨xs,m⟩|m
   . exact .inl ⟨xs,by rwa [bf,if_neg e] at m⟩
   . exact .inr (.inl ⟨xs,by rwa [bf,if_neg e] at m⟩)
   . exact .inr (.inr m)
theorem RH.keeps{W:dF}{H:Hp}{ow:Nat->Option Nat}{h h':Heap}(R:RH W H ow h)(hk:∀b o,h.get? b=some o->h'.get? b=some o):RH W H ow h':=
 ⟨λa o e=>(R.obj a o e).keeps hk,R.ai,R.inj,λb o e=>hk _ _ (R.keep b o e),R.new⟩
theorem eS.ix{W:dF}{ow:Nat->Option Nat}{h h':Heap}{a:Nat}{o:O}(x:eS W ow h a o)
 (hk:∀o,h.get? a=some o->h'.get? a=some o) (hd:∀d,ow a=some d->∀o,h.get? d=some o->h'.get? d=some o):eS W ow h' a o:=by
 cases o with
 |list xs=>refine oea x λvs p q=>?_;try clear x;exact⟨vs,p.at hk,q⟩
 |tup xs=>refine oea x λvs n_ q=>?_;try clear x;refine oea n_ λo p r=>?_;try clear n_;exact⟨vs,⟨o,hk _ p,r⟩,q⟩
 |dict es=>refine oea x λkvs gy q=>?_;try clear x;refine oeeea gy λo es ep p r=>?_;try clear gy;exact⟨kvs,⟨o,es,ep,hk _ p,r⟩,q⟩
 |eA es=>refine oea x λkvs jZ q=>?_;try clear x;refine oeeea jZ λo es ep p r=>?_;try clear jZ;exact⟨kvs,⟨o,es,ep,hk _ p,r⟩,q⟩
 |inst C fs=>refine oeeeeaaaa x λc dx es n e1 e2 e3 e4 r=>?_;try clear x;exact⟨c,dx,es,n,e1,e2,hk _ e3,hd _ e2 _ e4,r⟩
 |eC xs=>exact x
 |c9 C fs=>exact x
theorem RH.add{W:dF}{H:Hp}{ow:Nat->Option Nat}{h h':Heap}{a:Nat}{o:O}(R:RH W H ow h)(hk:∀b o,h.get? b=some o->h'.get? b=some o)(ha:h.get? a=none)
 (x:eS W ow h' a o):RH W (bf H a o) ow h' where
 obj:=λb p e=>by
  by_cases q:b=a
  . subst q;rw[bf,if_pos rfl] at e;cases e;exact x
  . rw[bf,if_neg q] at e;exact(R.obj b p e).keeps hk
 ai:=λb d e=>by
  refine oaee (R.ai b d e) λe1 C fs e2=>?_;have h1:d≠a:=λq=>by subst q;exact R.mK e ha
  have h2:b≠a:=λq=>by subst q;exact R.live e2 ha
  exact⟨by rw[bf,if_neg h1];exact e1,C,fs,by rw[bf,if_neg h2];exact e2⟩
 inj:=R.inj
 keep:=λb o e=>hk _ _ (R.keep b o e)
 new:=λb m=>by
  rcases wb m with m|rfl
  . exact R.new b m
  . exact cD R.keep ha
theorem RH.Es{W:dF}{H:Hp}{ow:Nat->Option Nat}{h h':Heap}{a d:Nat}{C:String}{fs:List (String×V)}(R:RH W H ow h)(hk:∀b o,h.get? b=some o->h'.get? b=some o)
 (ha:h.get? a=none) (hd:h.get? d=none) (vF:d≠a) (x:eS W (bf ow a d) h' a (.inst C fs)):RH W (bf H a (.inst C fs)) (bf ow a d) h' where
 obj:=λb p e=>by
  by_cases q:b=a
  . subst q;rw[bf,if_pos rfl] at e;cases e;exact x
  . rw[bf,if_neg q] at e;have y:=(R.obj b p e).keeps hk
    cases p with
    |inst C fs=>refine oeeeeaa y λc dx es n e1 e2 r=>?_;try clear y;exact⟨c,dx,es,n,e1,by rw[bf,if_neg q];exact e2,r⟩
    |_=>exact y
 ai:=λb e z=>by
  by_cases q:b=a
  . subst q;rw[bf,if_pos rfl] at z;cases z
    exact⟨by rw[bf,if_neg vF];exact R.rD hd,C,fs,by rw[bf,if_pos rfl]⟩
  . rw[bf,if_neg q] at z;refine oaee (R.ai b e z) λe1 C fs e2=>?_;have h1:e≠a:=λw=>by subst w;exact R.mK z ha
    exact⟨by rw[bf,if_neg h1];exact e1,C,fs,by rw[bf,if_neg q];exact e2⟩
 inj:=λb c e z w=>by
  by_cases q:b=a
  . by_cases r:c=a
    . rw[q,r]
    . subst q;rw[bf,if_pos rfl] at z;cases z
      rw[bf,if_neg r] at w;exact absurd hd (R.mK w)
  . rw[bf,if_neg q] at z
    by_cases r:c=a
    . subst r;rw[bf,if_pos rfl] at w;cases w
      exact absurd hd (R.mK z)
    . rw[bf,if_neg r] at w;exact R.inj b c e z w
 keep:=λb o e=>hk _ _ (R.keep b o e)
 new:=λb m=>by
  by_cases q:b=a
  . subst q;exact cD R.keep ha
  . by_cases r:b=d
    . subst r;exact cD R.keep hd
    . refine R.new b ?_;rcases m with ⟨xs,m⟩|⟨xs,m⟩|⟨c,m⟩
      . exact .inl ⟨xs,by rwa [bf,if_neg q] at m⟩
      . exact .inr (.inl ⟨xs,by rwa [bf,if_neg q] at m⟩)
      . refine .inr (.inr ⟨c,?_⟩)
        by_cases z:c=a
        . subst z;rw[bf,if_pos rfl] at m;exact absurd (Z1 m).symm r
        . rwa [bf,if_neg z] at m
theorem RH.apart{W:dF}{H:Hp}{ow:Nat->Option Nat}{h h':Heap}(R:RH W H ow h)(X:Nat->Prop)(hk:∀b o,¬ X b->h.get? b=some o->h'.get? b=some o)
 (hX:∀b,X b->¬ er H ow b/\W.base.get? b=none):RH W H ow h' where
 obj:=λa o e=>(R.obj a o e).ix (λp z=>hk _ p (λx=>(hX _ x).1 (eZ e)) z) λd y p z=>hk _ p (λx=>(hX _ x).1 (.inr ⟨_,y⟩)) z
 ai:=R.ai
 inj:=R.inj
 keep:=λb o e=>hk b o (λx=>by rw[(hX b x).2] at e;cases e) (R.keep b o e)
 new:=R.new
theorem RH.put{W:dF}{H:Hp}{ow:Nat->Option Nat}{h h':Heap}{a:Nat}{o o':O}(R:RH W H ow h)(e:H a=some o)(m:Mu H ow a)(hs:Heap.SameBut a h h')
 (no:∀C fs,o≠ .inst C fs) (x:eS W ow h' a o'):RH W (bf H a o') ow h' where
 obj:=λb p z=>by
  by_cases q:b=a
  . subst q;rw[bf,if_pos rfl] at z;cases z;exact x
  . rw[bf,if_neg q] at z;refine(R.obj b p z).ix (λr w=>(hs.2 b q).trans w) λd y r w=>(hs.2 d ?_).trans w;rintro rfl;rw[(R.ai b d y).1] at e;cases e
 ai:=λb d y=>by
  refine oaee (R.ai b d y) λe1 C fs e2=>?_;have h1:d≠a:=λw=>by subst w;rw[e1] at e;cases e
  have h2:b≠a:=λw=>by subst w;rw[e2] at e;cases e;exact no _ _ rfl
  exact⟨by rw[bf,if_neg h1];exact e1,C,fs,by rw[bf,if_neg h2];exact e2⟩
 inj:=R.inj
 keep:=λb p z=>(hs.2 b (λq=>by subst q;rw[R.new _ m] at z;cases z)).trans (R.keep b p z)
 new:=λb q=>by
  rcases wb q with q|rfl
  . exact R.new b q
  . exact R.new _ m
theorem RH.nE{W:dF}{H:Hp}{ow:Nat->Option Nat}{h h':Heap}{a d:Nat}{C:String}{fs M3:List (String×V)}(R:RH W H ow h)(e:H a=some (.inst C fs))(he:ow a=some d)(hs:Heap.SameBut d h h')
 (x:eS W ow h' a (.inst C M3)):RH W (bf H a (.inst C M3)) ow h' where
 obj:=λb p z=>by
  by_cases q:b=a
  . subst q;rw[bf,if_pos rfl] at z;cases z;exact x
  . rw[bf,if_neg q] at z;refine(R.obj b p z).ix (λr w=>(hs.2 b ?_).trans w) λc y r w=>(hs.2 c ?_).trans w
    . rintro rfl;rw[(R.ai a b he).1] at z;cases z
    . rintro rfl;exact q (R.inj b a c y he)
 ai:=λb c y=>by
  refine oaee (R.ai b c y) λe1 B gs e2=>?_;have h1:c≠a:=λw=>by subst w;rw[e1] at e;cases e
  refine⟨by rw[bf,if_neg h1];exact e1,?_⟩
  by_cases q:b=a
  . subst q;exact⟨C,M3,by rw[bf,if_pos rfl]⟩
  . exact⟨B,gs,by rw[bf,if_neg q];exact e2⟩
 inj:=R.inj
 keep:=λb p z=>(hs.2 b (λq=>by subst q;rw[R.new _ (.inr (.inr ⟨a,he⟩))] at z;cases z)).trans (R.keep b p z)
 new:=λb q=>by
  refine R.new b ?_;rcases q with ⟨xs,q⟩|⟨xs,q⟩|q
  . refine .inl ⟨xs,?_⟩
    by_cases w:b=a
    . subst w;rw[bf,if_pos rfl] at q;rcases q with q|q<;>cases q
    . rwa [bf,if_neg w] at q
  . refine .inr (.inl ⟨xs,?_⟩)
    by_cases w:b=a
    . subst w;rw[bf,if_pos rfl] at q;rcases q with q|q<;>cases q
    . rwa [bf,if_neg w] at q
  . exact .inr (.inr q)
theorem Go.alive{W:dF}{H H':Hp}{ow aP:Nat->Option Nat}{s s':Shared}(x:Go H ow s H' aP s')(R:RH W H' aP s'.heap){b:Nat}(l:s.heap.get? b≠none):s'.heap.get? b≠none:=by
 cases e:s.heap.get? b with
 |none=>exact absurd e l
 |some o=>
  by_cases oc:er H ow b
  . exact R.ie (x.grow b oc)
  . rw[x.keep b o oc e];exact λz=>by cases z
theorem Go.add{H H':Hp}{ow aP:Nat->Option Nat}{s:Shared}{h':Heap}{tk:Nat}(hk:∀b o,s.heap.get? b=some o->h'.get? b=some o)
 (sub:∀b,er H' aP b->er H ow b\/s.heap.get? b=none) (fr:∀b,s.heap.get? b≠none->H' b=H b) (R:∀b o,H b=some o->s.heap.get? b≠none) (gr:∀b,er H ow b->er H' aP b):Go H ow s H' aP {s with heap:=h',toks:=tk}:=
 ⟨⟨_,_,rfl⟩,λb o _ e=>hk b o e,sub,λb _ e=>⟨(fr b (R b _ e)).trans e,λo z=>hk b o z⟩,gr⟩
theorem Go.put{H:Hp}{ow:Nat->Option Nat}{s:Shared}{h':Heap}{tk a:Nat}{o o':O}(e:H a=some o)(hs:Heap.SameBut a s.heap h')(nf:∀x,o≠ .eA x):Go H ow s (bf H a o') ow {s with heap:=h',toks:=tk}:=
 ⟨⟨_,_,rfl⟩,λb _ n z=>(hs.2 b (λq=>n (q▸eZ e))).trans z,λ_ q=>.inl ((gh q).elim id λz=>z▸eZ e),λb _ z=>by
  have:b≠a:=λq=>by subst q;rw[e] at z;cases z;exact nf _ rfl
  exact⟨by rw[bf,if_neg this];exact z,λo w=>(hs.2 b this).trans w⟩,λ_ m=>fO m⟩
end
section
open PySem PySem.W PyProof.Rows PySem.Calls
theorem dJ:big<=sizeLine:=by rw[Wx];decide
noncomputable def bQ(W:dF)(H:Hp)(ow:Nat->Option Nat)(s:Shared)(Q:V->Hp->Prop)(v':Value)(s':Shared):Prop:=
 ∃H' aP,Q (aq v') H'/\RH W H' aP s'.heap/\Go H ow s H' aP s'
noncomputable def kL(W:dF)(H:Hp)(ow:Nat->Option Nat)(s:Shared)(Q:Hp->Prop)(s':Shared):Prop:=
 ∃H' aP,Q H'/\RH W H' aP s'.heap/\Go H ow s H' aP s'
section
variable {W:dF}{A:Around}{E:Value->Shared->Prop}{s:Shared}{H:Hp}{ow:Nat->Option Nat}
theorem bc{v':Value}{Q:V->Hp->Prop}(R:RH W H ow s.heap)(q:Q (aq v') H):bQ W H ow s Q v' s:=⟨H,ow,q,R,Go.refl ..⟩
theorem bF{v':Value}{Q:V->Hp->Prop}{t:Nat}(R:RH W H ow s.heap)(q:Q (aq v') H):bQ W H ow s Q v' {s with toks:=t}:=⟨H,ow,q,R,(Go.refl ..).tok t⟩
theorem kU{o:O}{ob:Obj}{tk:Nat}{Q:V->Hp->Prop}(R:RH W H ow s.heap)(x:eS W ow (s.heap.push ob) s.heap.objs.size o)(q:∀a,H a=none->Q (.ref a) (bf H a o)):
 bQ W H ow s Q (.ref s.heap.objs.size) {s with heap:=s.heap.push ob,toks:=tk}:=by
 have hk:∀b p,s.heap.get? b=some p->(s.heap.push ob).get? b=some p:=λb p e=>ZL _ e;have hd:s.heap.get? s.heap.objs.size=none:=Vt (Zs _);refine⟨bf H s.heap.objs.size o,ow,q _ (R.rD hd),R.add hk hd x,Go.add hk (λb m=>?_) (λb l=>?_) (λb o e=>R.live e) λ_ m=>fO m⟩
 . rcases gh m with m|rfl
   . exact .inl m
   . exact .inr hd
 . rw[bf,if_neg];rintro rfl;exact l hd
theorem yO{vs:List Value}{Q:V->Hp->Prop}(R:RH W H ow s.heap)(hl:vs.length<=big)(q:∀a,H a=none->Q (.ref a) (bf H a (.list (vs.map aq)))):
 wpAny W.M A (newList vs) (bQ W H ow s Q) E s:=
 Xb (kU (o:=.list (vs.map aq)) R ⟨vs.toArray,⟨0,ZU _ rfl⟩,rfl,by rw[Za];exact hl⟩ q) (by show vs.toArray.size<=sizeLine;rw[Xc];exact Zf hl dJ)
theorem wy{vs:List Value}{Q:V->Hp->Prop}(R:RH W H ow s.heap)(hl:vs.length<=big)(q:∀a,H a=none->Q (.ref a) (bf H a (.tup (vs.map aq)))):
 wpAny W.M A (newTuple vs) (bQ W H ow s Q) E s:=
 Xb (kU (o:=.tup (vs.map aq)) R ⟨vs.toArray,⟨_,ZU _ rfl,rfl,0,rfl⟩,rfl,by rw[Za];exact hl⟩ q) (by show vs.toArray.size<=sizeLine;rw[Xc];exact Zf hl dJ)
theorem yP{Q:V->Hp->Prop}(R:RH W H ow s.heap)(q:∀a,H a=none->Q (.ref a) (bf H a (.dict []))):
 wpAny W.M A newDict (bQ W H ow s Q) E s:=
 Xb (kU (o:=.dict []) R ⟨[],Ur _,rfl,ZR _⟩ q)
theorem dh{l:List Value}{xs:List V}(e:l.map aq=xs){i:Nat}{x:V}(h:xs[i]?=some x):∃v,l[i]?=some v/\aq v=x:=by
 subst e;rw[ZP] at h;refine oea (Z5.mp h) λv hv bV=>?_;subst bV;exact⟨v,hv,rfl⟩
theorem qO{xs:List V}{i:Int}{x:V}(h:du xs i=some x):(0<=i/\xs[i.toNat]?=some x/\i.toNat<xs.length)\/(i<0/\-(xs.length:Int)<=i/\xs[(i+xs.length).toNat]?=some x):=by
 unfold du at h;split at h
 . rename_i p;exact .inl ⟨p,h,(ZM.mp h).1⟩
 . split at h
   . exact .inr ⟨by omega,by omega,h⟩
   . cases h
theorem fZ:∀(kvs:List (Int×Value)) (k:Int),(valueAt kvs k).map aq=(kvs.map λp=>(p.1,aq p.2)).lookup k
 |[],_=>rfl
 |(a,v)::r,k=>by
  have ih:=fZ r k;unfold valueAt at ih ⊢;rw[YZ,Zw,ZS]
  by_cases e:a=k
  . rw[decide_eq_true e,e,beq_self_eq_true];rfl
  . rw[decide_eq_false e,beq_eq_false_iff_ne.mpr (Yo e)];exact ih
theorem mT{i:Int}{n:Nat}(h0:0<=i)(h:i.toNat<n):seqIndex? i n=some i.toNat:=by
 unfold seqIndex?;have h1:¬ i<0:=by exact λcy=>(aj 0x11b0001101000201) _ h0 cy
 have h2:i<(n:Int):=by exact(aj 0x11111501101501011014221) _ _ _ h (ZX _)
 simp[h1,h0,h2]
theorem seqIndex_neg{i:Int}{n:Nat}(h0:i<0)(h:-(n:Int)<=i):seqIndex? i n=some (i+n).toNat:=by
 unfold seqIndex?;have h1:0<=i+(n:Int):=by have:=Int.add_le_add_right h n;rwa [Int.add_left_neg] at this
 have h2:i+(n:Int)<n:=by exact(aj 0x11015015012100011111) _ _ h0
 simp[h1,h0,h2]
theorem oU{h:Heap}{a:Nat}{vs:Array Value}(x:h.IsTuple a vs):IsTup h a vs:=x
theorem ib{vs:Array Value}{n:Nat}(hb:(vs.toList.map aq).length<=n):vs.size<=n:=by rw[Za,Zr] at hb;exact hb
theorem EY{vs:Array Value}{n:Nat}(hb:vs.size<=n):(vs.toList.map aq).length<=n:=by rw[Za,Zr];exact hb
theorem eD{vs:Array Value}{i:Nat}{u:Value}(h:vs.toList[i]?=some u):vs[i]?=some u:=by rw[<-Wi];exact h
theorem lR(i:Int)(t:Tok):W.kd.is i (.int i t)=true:=beq_self_eq_true i
theorem oG{n:Nat}(h:n<=big):(n:Int)<2 ^ 63:=VU (WJ.mpr h) (by decide)
theorem yT{v k:Value}{w:V}{Q:V->Hp->Prop}(R:RH W H ow s.heap)(g:G_ H (aq v) (aq k) w)(q:Q w H):
 wpAny W.M A (getItem v k) (bQ W H ow s Q) E s/\∃T id,s.TypeIs v T/\typeLookup (.type T) "__getitem__"=pure (some (.builtin id)):=by
 obtain ⟨a,i,e1,e2,g⟩:=g;obtain rfl:=aO e1;obtain ⟨t,rfl⟩:=bK e2;rcases g with ⟨xs,hx,g⟩|⟨es,hx,g⟩
 . rcases hx with hx|hx
   . refine oeaa (R.obj a _ hx) λvs hp cw hb=>?_;subst cw;have hL:=hp.isList;have hz:=oG (ib hb);refine⟨?_,"list",_,hL.typeIs,slot_list_getitem.lookup⟩;rcases qO g with ⟨h0,h1,h2⟩|⟨h0,h1,h2⟩
     . refine oea (dh rfl h1) λu hu c8=>?_;subst c8;rw[Za,Zr] at h2;exact wpAny_getItem_list hL h0 (by exact(aj 0x11110111111511001114010151322) _ _ _ _ hz h2 (ZX _)) (eD hu) (bc R q)
     . refine oea (dh rfl h2) λu hu dW=>?_;subst dW;rw[Za,Zr] at h1 hu;exact wpAny_getItem_list_neg hL h0 h1 (by omega) (eD hu) (bc R q)
   . refine oeaa (R.obj a _ hx) λvs hT gW hb=>?_;subst gW;have hz:=oG (ib hb);refine⟨?_,"tuple",_,(oU hT).typeIs,slot_tuple_getitem.lookup⟩;rcases qO g with ⟨h0,h1,h2⟩|⟨h0,h1,h2⟩
     . refine oea (dh rfl h1) λu hu gE=>?_;subst gE;rw[Za,Zr] at h2;exact getItem_tuple (j:=i.toNat) (oU hT) (by omega) (by exact(aj 0x11110111111511001114010151322) _ _ _ _ hz h2 (ZX _)) (mT h0 h2) (eD hu) (bc R q)
     . refine oea (dh rfl h2) λu hu kE=>?_;subst kE;rw[Za,Zr] at h1 hu;exact getItem_tuple (j:=(i+vs.size).toNat) (oU hT) (by omega) (by omega) (seqIndex_neg h0 h1) (eD hu) (bc R q)
 . have key:∃kvs:List (Int×Value),s.heap.DictOf W.kd a kvs/\kvs.map (λp=>(p.1,aq p.2))=es/\es.length<=big:=by
    rcases hx with hx|hx
    . exact R.obj a _ hx
    . exact R.obj a _ hx
   refine oeaa key λkvs hD jX hb=>?_;try clear key;subst jX
   refine⟨?_,"dict",_,hD.typeIs,slot_dict_getitem.lookup⟩;rw[<-fZ] at g;refine oea (Z5.mp g) λu hu n_=>?_;subst n_;exact wpAny_getItem_of (lR i t) hD.mapOf hu (bF R q)
theorem uR{value slice:Expr}{v k:Value}{w:V}{Q:V->Hp->Prop}(R:RH W H ow s.heap)(g:G_ H (aq v) (aq k) w)(q:Q w H)
 (hs:subscripted slice false v k=operate [v,k] (getItem v k)):wpAny W.M A (subscriptTail value slice v k) (bQ W H ow s Q) E s:=by
 refine oaeea (yT (A:=A) (E:=E) R g q) λh T id hT hl=>?_;unfold subscriptTail;refine Zl ?_;rw[getitemInPython_of_ne hT.not_modules];refine Zl (wpAny_specialOf hT hl ?_);have fin:wpAny W.M A (subscripted slice false v k) (λr s₃=>wpAny W.M A (letTemporaryGo value v r >>= λ_=>pure r) (bQ W H ow s Q) E s₃) E s:=by
  rw[hs];exact wpAny_operating (Zy h (λr s₃ h₃=>Zl (Wy (Zz h₃))) λ_ _ x=>x)
 first
  |exact Zz (Zl fin)
  |exact Zl (Zz (Zl fin))
  |exact Zl fin
theorem kk:∀{kvs:List (Int×Value)} (nd:(kvs.map (·.1)).Nodup) (k:Int) (v:Value),(stored kvs k v).map (λp=>(p.1,aq p.2))=putD (kvs.map λp=>(p.1,aq p.2)) k (aq v)
 |[],_,_,_=>rfl
 |(a,u)::r,nd,k,v=>by
  rw[Zw,ZC] at nd;have ih:=kk nd.2 k v;unfold stored at ih ⊢;rw[XJ,Zw,Zw];rw[putD]
  by_cases e:a=k
  . rw[decide_eq_true e,Bool.true_or,if_pos rfl,if_pos e,if_pos e];subst e;show (a,aq v)::(r.map λkv=>if kv.1=a then(kv.1,v) else kv).map (λp=>(p.1,aq p.2))=_;refine congrArg (List.cons _) (congrArg (List.map _) ((Yn λp hp=>if_neg λ(z:p.1=a)=>?_).trans (List.map_id' r)));exact nd.1 (Zn.mpr ⟨p,hp,z⟩)
  . rw[decide_eq_false e,Bool.false_or,if_neg e,if_neg e,<-ih];split<;>rfl
theorem mW(es:List (Int×V))(k:Int)(v:V):(putD es k v).length<=es.length+1:=by
 induction es with
 |nil=>exact Zs _
 |cons p r ih=>
  obtain ⟨a,u⟩:=p;rw[putD];split
  . exact Yj _
  . exact YG ih
theorem fx{K:Type}[DecidableEq K]{prog:Program}{w:World}{knd:PySem.KeyKind prog w K}{h:Heap}{a:Addr}{kvs:List (K×Value)}(x:h.DictOf knd a kvs):(kvs.map (·.1)).Nodup:=oe x.dictAt λ_ d=>d.nodup
theorem jP{l:Addr}{items:Array Value}{k:Int}{t:Tok}{v:Value}{Q:Unit->Shared->Prop}(hl:s.heap.PlainList l items)
 (h0:0<=k) (Ke:k<2 ^ 63) (hn:k<items.size)
 (hQ:∀h',h'.PlainList l (items.setIfInBounds k.toNat v)->Heap.SameBut l s.heap h'->Q () {s with heap:=h'}):
 wpAny W.M A (setItem (.ref l) (.int k t) v) Q E s:=by
 refine oe (id hl) λn ho=>?_;unfold setItem
 try with_reducible refine ZW ?_
 first|refine Zl (Zz ?_)|skip
 refine Zl (wpAny_sequenceKey hl.isList.typeIs (by decide) ?_);refine Zl (wpAny_callSpecial?_slot (name:=Str.ofString "__setitem__") hl.isList.typeIs slot_list_setitem
  (wpAny_call_entry slot_list_setitem hl.isList.typeIs entry_list_setitem ?_ (args_list_setitem _ _ _)))
 show wpAny _ _ (Builtin.List.listSubscript? (.int k t) >>= _) _ _ s;refine Zl (wpAny_listSubscript_int (fitsIndex_of h0 Ke) ?_);clear Ke;refine oe (W2 h0) λj gy=>?_;subst gy;have hj:j<items.size:=by exact(aj 0x11110141150151120) _ _ hn
 have CP:items[j]?=some items[j]:=YY hj;show wpAny _ _ ((seqItemAt l j >>= λr=>pure (r.map (j, ·))) >>= _) _ _ s;refine Zl (Zl (wpAny_seqItemAt ho rfl (Zz ?_)));rw[CP];have fin:Q () {s with heap:=s.heap.update l (Obj.mapSeq (·.setIfInBounds j v))}:=by
  refine hQ _ ⟨n,?_⟩ (Xj ..);rw[Xq _ ho (by simp[Obj.mapSeq,Obj.isFreed])];simp[Obj.mapSeq]
 show wpAny _ _ (setSeqItemAt l j v >>= _) _ _ s;exact Zl (wpAny_setSeqItemAt ho rfl (Zz ⟨.none,rfl,Zz fin⟩))
theorem yM{u k v:Value}{a:Nat}{o:O}{Q:Hp->Prop}(R:RH W H ow s.heap)(g:Kv H (aq u) (aq k) (aq v) a o)(q:Q (bf H a o)):
 wpAny W.M A (setItem u k v) (λ_=>kL W H ow s Q) E s:=by
 obtain ⟨i,e1,e2,g⟩:=g;obtain rfl:=aO e1;obtain ⟨t,rfl⟩:=bK e2;rcases g with ⟨xs,hx,c1,c2,rfl⟩|⟨es,hx,c,rfl⟩
 . obtain ⟨vs,hp,rfl,hb⟩:=R.obj a _ hx;have hz:=oG (ib hb);rw[Za,Zr] at c2;refine jP hp c1 (by exact(aj 0x11110111101511001115111014322) _ _ _ _ c2 hz (ZX _)) (by exact(aj 0x11111501101501011014221) _ _ _ c2 (ZX _)) λh' kF hs=>?_;refine⟨_,ow,q,R.put hx (.inl ⟨_,hx⟩) hs (λ_ _ z=>by cases z) ⟨_,kF,?_,?_⟩,Go.put (tk:=s.toks) hx hs (λ_ z=>by cases z)⟩
   . rw[Array.toList_setIfInBounds,List.map_set]
   . rw[List.length_set];exact hb
 . refine oeaa (R.obj a _ hx) λkvs hD jZ hb=>?_;subst jZ;have hl:kvs.length<big:=by rw[Za] at c;exact c
   refine wpAny_setItem_pairs (k:=i) (lR i t) hD (λh' De hs=>?_) (Zf (ZH hl) dJ);exact⟨_,ow,q,R.put hx (.inr (.inl ⟨_,.inl hx⟩)) hs (λ_ _ z=>by cases z) ⟨_,De,kk (fx hD) _ _,Zf (mW _ _ _) c⟩,Go.put hx hs (λ_ z=>by cases z)⟩
end
end
section
open PySem PySem.W PyProof.Rows PySem.Calls
theorem xq{α β:Type}{o:Option α}{a:α}{f:α->Option β}{r:Option β}(h:o=some a)(e:f a=r):o.bind f=r:=h▸e
theorem toNat_inj:∀{l m:List Char},l.map Char.toNat=m.map Char.toNat->l=m
 |[],[],_=>rfl
 |[],_::_,e=>by cases e
 |_::_,[],e=>by cases e
 |c::l,d::m,e=>by
  rw[Zw,Zw,Vj] at e;rw[toNat_inj e.2,Char.ext (Ug.mp e.1)]
theorem ed{a b:String}(h:Str.ofString a=Str.ofString b):a=b:=by
 rw[Vf,Vf] at h;exact WX (toNat_inj (by simpa using h))
theorem sH(a b:String):(Str.ofString a==Str.ofString b)=(a==b):=by
 by_cases h:a=b
 . rw[h,beq_self_eq_true,beq_self_eq_true]
 . rw[beq_eq_false_iff_ne.mpr h,beq_eq_false_iff_ne.mpr λe=>h (ed e)]
theorem wh{x:DictEntry}{m n:String}(h:∃t,x.key= .str (Str.ofString m) t):x.key.isStr (Str.ofString n)=(m==n):=by
 refine oe h λt h=>?_;rw[h];exact sH m n
theorem FR.noRef:∀{es:List DictEntry} {fs:List (String×V)},FR es fs->es.any (·.refKey)=false
 |[],_,_=>rfl
 |_::_,[],h=>h.elim
 |x::es,_::_,⟨⟨t,hk⟩,_,_,hr⟩=>by
  rw[XJ,hr.noRef,Bool.or_false];unfold DictEntry.refKey;rw[hk]
theorem FR.get:∀{es:List DictEntry} {fs:List (String×V)},FR es fs->∀{n:String} {w:V},fs.lookup n=some w->∃x,es.find? (λe=>e.key.isStr (Str.ofString n))=some x/\aq x.val=w/\handedIn x.val=true
 |[],[],_,_,_,e=>by cases e
 |[],_::_,h,_,_,_=>h.elim
 |_::_,[],h,_,_,_=>h.elim
 |x::es,(m,u)::fs,⟨hk,hv,hh,hr⟩,n,w,e=>by
  rw[YZ,wh hk];rw[ZS] at e
  by_cases q:m=n
  . subst q;rw[beq_self_eq_true] at e ⊢;exact⟨x,rfl,hv.trans (Z1 e),hh⟩
  . rw[beq_eq_false_iff_ne.mpr (Yo q)] at e;rw[beq_eq_false_iff_ne.mpr q];exact hr.get e
theorem FR.none:∀{es:List DictEntry} {fs:List (String×V)},FR es fs->∀{n:String},fs.lookup n=Option.none->es.find? (λe=>e.key.isStr (Str.ofString n))=Option.none
 |[],_,_,_,_=>rfl
 |_::_,[],h,_,_=>h.elim
 |x::es,(m,u)::fs,⟨hk,_,_,hr⟩,n,e=>by
  rw[YZ,wh hk];rw[ZS] at e
  by_cases q:m=n
  . rw[q,beq_self_eq_true] at e;cases e
  . rw[beq_eq_false_iff_ne.mpr (Yo q)] at e;rw[beq_eq_false_iff_ne.mpr q];exact hr.none e
theorem FR.DV{es:List DictEntry}{fs:List (String×V)}(h:FR es fs){n:String}(e:fs.lookup n=Option.none):getL (Str.ofString n) es=some Option.none:=by
 unfold getL;rw[h.none e,h.noRef];rfl
theorem FR.put:∀{es:List DictEntry} {fs:List (String×V)},FR es fs->∀(n:String) (hs:Int) (t:Nat) {v:Value},handedIn v=true->FR (putL (Str.ofString n) hs (.str (Str.ofString n) t) v es) (nE fs n (aq v))
 |[],[],_,_,_,t,_,hv=>⟨⟨t,rfl⟩,rfl,hv,trivial⟩
 |[],_::_,h,_,_,_,_,_=>h.elim
 |_::_,[],h,_,_,_,_,_=>h.elim
 |x::es,(m,u)::fs,⟨hk,h2,h3,hr⟩,n,hs,t,v,hv=>by
  unfold putL nE;rw[wh hk]
  by_cases q:m=n
  . rw[if_pos q,if_pos (beq_iff_eq.mpr q),<-q];exact⟨hk,rfl,hv,hr⟩
  . rw[if_neg q,if_neg λz=>q (beq_iff_eq.mp z)];exact⟨hk,h2,h3,hr.put n hs t hv⟩
theorem FR.length:∀{es:List DictEntry} {fs:List (String×V)},FR es fs->es.length=fs.length
 |[],[],_=>rfl
 |[],_::_,h=>h.elim
 |_::_,[],h=>h.elim
 |_::_,_::_,⟨_,_,_,hr⟩=>congrArg Nat.succ hr.length
theorem iY:∀(fs:List (String×V)) (n:String) (v:V),(nE fs n v).length<=fs.length+1
 |[],_,_=>Zs _
 |(m,w)::r,n,v=>by
  rw[nE];split
  . exact Yj _
  . exact YG (iY r n v)
theorem uf:∀{fs:List (String×V)} {n:String} {v:V} {p:String×V},p∈nE fs n v->p∈fs\/p.1=n
 |[],_,_,p,h=>.inr (by rewrite [Zc.mp h];rfl)
 |(m,w)::r,n,v,p,h=>by
  rw[nE] at h;split at h
  . rcases Zp.mp h with rfl|h
    . exact .inr rfl
    . exact .inl (Zh _ h)
  . rcases Zp.mp h with rfl|h
    . exact .inl Ze
    . exact(uf h).imp (Zh _) id
structure dF.Good(W:dF):Prop where
 NM:W.K.In W.base
 cls:∀C a,W.cls C=some a->nX W.K a=true
 RJ:∀C a n,W.cls C=some a->iA C n=true->findIn W.K (.ref a) (Str.ofString n)=some none
section
variable {W:dF}{A:Around}{E:Value->Shared->Prop}{s:Shared}{H:Hp}{ow:Nat->Option Nat}
theorem eO{K:Frag}{a:Nat}(h:nX K a=true):makesIn K a=true/\hasDictIn K a=true/\plainOver K a=true/\findIn K (.ref a) "__getattribute__"=some (some (.builtin "object.__getattribute__"))/\
 findIn K (.ref a) "__setattr__"=some (some (.builtin "object.__setattr__"))/\findIn K (.ref a) "__getattr__"=some none:=by
 refine oa (Zj.mp h) λh h6=>?_;refine oa (Zj.mp h) λh h5=>?_;refine oa (Zj.mp h) λh h4=>?_;refine oa (Zj.mp h) λh h3=>?_;refine oa (Zj.mp h) λh1 h2=>?_;exact⟨h1,h2,h3,beq_iff_eq.mp h4,beq_iff_eq.mp h5,beq_iff_eq.mp h6⟩
theorem nV{a:Nat}{C:String}{fs:List (String×V)}(R:RH W H ow s.heap)(h:H a=some (.inst C fs)\/H a=some (.c9 C fs)):
 ∃c dx es n,W.cls C=some c/\PySem.W.InstAt s.heap a (instObj c dx) c (some (dictOf es n))/\FR es fs/\∀p∈fs,iA C p.1=true:=by
 rcases h with h|h
 . refine oeeeeaaaaaa (R.obj a _ h) λc dx es n e1 e2 e3 e4 e5 e6 e7=>?_;exact⟨c,dx,es,n,e1,⟨e3,rfl,rfl,e4⟩,e5,e7⟩
 . refine oeeeeaaaaa (R.obj a _ h) λc dx es n e1 e3 e4 e5 e6 e7=>?_;exact⟨c,dx,es,n,e1,⟨R.keep _ _ e3,rfl,rfl,R.keep _ _ e4⟩,e5,e7⟩
theorem lookup_mem:∀{fs:List (String×V)} {n:String} {w:V},fs.lookup n=some w->(n,w)∈fs
 |[],_,_,h=>by cases h
 |(m,u)::r,n,w,h=>by
  rw[ZS] at h
  by_cases q:n=m
  . rw[q,beq_self_eq_true] at h;rw[q,<-Z1 h];exact Ze
  . rw[beq_eq_false_iff_ne.mpr q] at h;exact Zh _ (lookup_mem h)
theorem yU(G:W.Good){v:Value}{n:String}{w:V}{expr:Bool}{Q:V->Hp->Prop}(R:RH W H ow s.heap)(g:Kx H (aq v) n w)(q:Q w H):
 wpAny W.M A (getAttr v (Str.ofString n) expr) (bQ W H ow s Q) E s:=by
 refine oeeeaa g λa C fs e h hl=>?_;try clear g
 obtain rfl:=aO e;refine oeeeeaaa (nV R h) λc dx es m hc I hF JD=>?_;refine oaaaaa (eO (G.cls C c hc)) λh1 h2 h3 h4 h5 h6=>?_;refine oeaa (hF.get hl) λbV hu cw hh=>?_;obtain ⟨hs,key,u⟩:=bV;subst cw;have FC:=G.RJ C c n hc (JD _ (lookup_mem hl));have X0:W.K.In s.heap:=λa o e=>R.keep _ _ (G.NM a o e);refine get_value X0 I h4 ?_ hh (bF R q);refine oea (any_some h2) λcd Db hd=>?_;refine xq Db (xq FC (xq rfl (xq rfl ?_)));show (PySem.W.ownOf _ _ _).bind _=_;unfold PySem.W.ownOf;rw[hd,if_pos rfl];have hg:lookIn (Str.ofString n) (dictOf es m)=some (some u):=by
  rw[lookIn_dict];unfold getL;rw[hu]
 show (lookIn (Str.ofString n) (dictOf es m)).bind _=_;rw[hg]
 rfl
theorem zr{v:Value}(h:cI (aq v)=false):handedIn v=true:=by cases v<;>first|rfl|cases h
theorem yN(G:W.Good){u v:Value}{n:String}{a:Nat}{o:O}{Q:Hp->Prop}(R:RH W H ow s.heap)(g:Kw H (aq u) n (aq v) a o)(q:Q (bf H a o)):
 wpAny W.M A (setAttr u (Str.ofString n) v) (λ_=>kL W H ow s Q) E s:=by
 refine oeeaaaaa g λC fs e h hlen hf FC c8=>?_;try clear g;subst c8
 obtain rfl:=aO e;refine oeeeeaaaaaa (R.obj a _ h) λc dx es m hc ho hx hd hF SG JD=>?_;refine oaaaaa (eO (G.cls C c hc)) λh1 h2 h3 h4 h5 h6=>?_;have X0:W.K.In s.heap:=λa o e=>R.keep _ _ (G.NM a o e);have I:PySem.W.InstAt s.heap a (instObj c dx) c (some (dictOf es m)):=⟨hx,rfl,rfl,hd⟩;have ht:takerIn W.K c (Str.ofString n)=some none:=by unfold takerIn;rw[G.RJ C c n hc hf];rfl
 refine set_plain X0 I h5 ?_;refine osa_open (s:={s with toks:=s.toks+1}) X0 I h3 ht λb=>?_;refine oea (any_some h2) λcd Db FK=>?_;refine Zl (Zz (Zl (Zl (Vu hx (Zl (Looks.here (s:={s with toks:=s.toks+1}) (looks_clsIn X0 Db) ?_))))));rw[FK];refine Zz (a:=some dx) (Zl (Zz (Zl ?_)));unfold nsSet;refine Zl (Zl (wpAny_askSetting (Zz (Zl (wpAny_mkText (Zl (Vu hd ?_)))))))
 dsimp only
 have IW:(!es.toArray.any (·.key.isStr (Str.ofString n))&&es.toArray.any (·.refKey))=false:=by
  rw[<-Wo,<-Wo];show (_&&es.any (·.refKey))=false;rw[hF.noRef,XX]
 rw[aRefKeyMayBeTheName_at,IW];refine wpAny_updatePart hd ?_;have e':=putName_dict (Str.ofString n) (PyData.keyHash W.w.params (Str.ofString n)) (.str (Str.ofString n) (s.toks+1)) v es m;have MP:Heap.SameBut dx s.heap (s.heap.update dx (Obj.putName (Str.ofString n) (PyData.keyHash W.w.params (Str.ofString n)) (.str (Str.ofString n) (s.toks+1)) v)):=Xj ..;have qC:(s.heap.update dx (Obj.putName (Str.ofString n) (PyData.keyHash W.w.params (Str.ofString n)) (.str (Str.ofString n) (s.toks+1)) v)).get? dx=some (dictOf (putL (Str.ofString n) (PyData.keyHash W.w.params (Str.ofString n)) (.str (Str.ofString n) (s.toks+1)) v es) (putN (Str.ofString n) es m)):=by
  rw[Xq _ hd (by rw[e'];rfl),e']
 have Rz:=hF.put n (PyData.keyHash W.w.params (Str.ofString n)) (s.toks+1) (zr FC);refine Zl (wpAny_lookBehind qC (pastItsLine_dict ?_) ?_)
 . rw[Xc,Rz.length,Wx];have:=iY fs n (aq v);exact(aj 0x1111001000000821131001211300646014220) _ _ hlen this
 . have hax:a≠dx:=by
    rintro rfl;rw[(R.ai a a ho).1] at h;cases h
   have O:eS W ow (s.heap.update dx (Obj.putName (Str.ofString n) (PyData.keyHash W.w.params (Str.ofString n)) (.str (Str.ofString n) (s.toks+1)) v)) a (.inst C (nE fs n (aq v))):=
    ⟨c,dx,_,_,hc,ho,(MP.2 a hax).trans hx,qC,Rz,Zf (iY _ _ _) hlen,λp hp=>(uf hp).elim (JD p) λe=>e▸hf⟩
   refine Zz ⟨_,ow,q,R.nE h ho MP O,⟨⟨_,_,rfl⟩,λb o no e=>(MP.2 b (λw=>no (w▸.inr ⟨a,ho⟩))).trans e,λb mm=>.inl ?_,λb gq z=>?_,λ_ m=>fO m⟩⟩
   . rcases gh mm with z|rfl
     . exact z
     . exact eZ h
   . have n1:b≠a:=by rintro rfl;rw[h] at z;cases z
     have n2:b≠dx:=by rintro rfl;rw[(R.ai a b ho).1] at z;cases z
     exact⟨by rw[bf,if_neg n1];exact z,λo w=>(MP.2 b n2).trans w⟩
end
end
section
open PySem PySem.W PyProof.Rows PySem.Calls
noncomputable def Own(env:Env)(b:Nat):Prop:=b=env.locals\/∃n,env.cells.lookup n=some b
noncomputable def Wr(env:Env)(n:String)(b:Nat):Prop:=(env.kindOf (Str.ofString n)=some .local/\b=env.locals)\/(env.kindOf (Str.ofString n)=some .cell/\env.cells.lookup (Str.ofString n)=some b)
theorem Wr.ai{env:Env}{n:String}{b:Nat}(x:Wr env n b):Own env b:=x.imp (λx=>x.2) λlI=>oa lI λ_ e=>⟨_,e⟩
noncomputable def gX(env:Env)(n:Str):Prop:=env.kindOf n=some .cell\/env.kindOf n=some .free
structure b_(W:dF)(ρ:Lo)(env:Env)(H:Hp)(ow:Nat->Option Nat)(h:Heap):Prop where
 fn:env.scope.kind= .function
 gl:env.globals=mainGlobals
 bi:env.builtins=builtinsNs
 ns:∃m,h.Ns env.locals m/\∀x v,ρ x=some v->x≠ ".0"->env.kindOf (Str.ofString x)=some .local->∃v',m (Str.ofString x)=some v'/\aq v'=v
 cell:∀x v,ρ x=some v->gX env (Str.ofString x)->∃c v',env.cells.lookup (Str.ofString x)=some c/\h.IsCell c (some v')/\aq v'=v
 cells:∀n,gX env n->∃c v,env.cells.lookup n=some c/\h.IsCell c v
 apart:∀n c,env.cells.lookup n=some c->c≠env.locals
 apart2:∀n n' c,env.cells.lookup n=some c->env.cells.lookup n'=some c->n=n'
 off:∀b,Own env b->¬ er H ow b/\W.base.get? b=none/\h.get? b≠none
section
variable {W:dF}{A:Around}{E:Value->Shared->Prop}{s:Shared}{H:Hp}{ow:Nat->Option Nat}{ρ:Lo}{env:Env}
theorem b_.go{H':Hp}{aP:Nat->Option Nat}{s':Shared}(x:b_ W ρ env H ow s.heap)(g:Go H ow s H' aP s'):b_ W ρ env H' aP s'.heap where
 fn:=x.fn
 gl:=x.gl
 bi:=x.bi
 ns:=oea x.ns λm n q=>⟨m,n.at' λo e=>g.keep _ o (x.off _ (.inl rfl)).1 e,q⟩
 cell:=λy v e k=>let ⟨c,v',a,⟨o,b,d⟩,r⟩:=x.cell y v e k;⟨c,v',a,⟨o,g.keep _ o (x.off _ (.inr ⟨_,a⟩)).1 b,d⟩,r⟩
 cells:=λn k=>let ⟨c,v,a,⟨o,b,d⟩⟩:=x.cells n k;⟨c,v,a,⟨o,g.keep _ o (x.off _ (.inr ⟨_,a⟩)).1 b,d⟩⟩
 apart:=x.apart
 apart2:=x.apart2
 off:=λb o=>oaa (x.off b o) λp q r=>⟨g.ix p r,q,by
  cases e:s.heap.get? b with
  |none=>exact absurd e r
  |some o=>rw[g.keep b o p e];exact λz=>by cases z⟩
theorem b_.iJ{h h':Heap}(x:b_ W ρ env H ow h)(hk:∀b o,Own env b->h.get? b=some o->h'.get? b=some o):b_ W ρ env H ow h' where
 fn:=x.fn
 gl:=x.gl
 bi:=x.bi
 ns:=oea x.ns λm n q=>⟨m,n.at' λo e=>hk _ o (.inl rfl) e,q⟩
 cell:=λy v e k=>let ⟨c,v',a,⟨o,b,d⟩,r⟩:=x.cell y v e k;⟨c,v',a,⟨o,hk _ o (.inr ⟨_,a⟩) b,d⟩,r⟩
 cells:=λn k=>let ⟨c,v,a,⟨o,b,d⟩⟩:=x.cells n k;⟨c,v,a,⟨o,hk _ o (.inr ⟨_,a⟩) b,d⟩⟩
 apart:=x.apart
 apart2:=x.apart2
 off:=λb o=>oaa (x.off b o) λp q r=>⟨p,q,by
  cases e:h.get? b with
  |none=>exact absurd e r
  |some ob=>rw[hk b ob o e];exact λz=>by cases z⟩
theorem b_.AW{H':Hp}{aP:Nat->Option Nat}{h:Heap}(x:b_ W ρ env H ow h)(hs:∀b,er H' aP b->er H ow b):b_ W ρ env H' aP h:=
 ⟨x.fn,x.gl,x.bi,x.ns,x.cell,x.cells,x.apart,x.apart2,λb o=>oa (x.off b o) λp q=>⟨λz=>p (hs b z),q⟩⟩
theorem rC{h:Heap}{a:Nat}{m:Str->Option Value}(x:h.Ns a m):h.get? a≠none:=by
 refine oeeea x λo es ep e _=>?_;try clear x
 rw[e];exact λq=>by cases q
theorem uL{h:Heap}{a:Nat}{v:Option Value}(x:h.IsCell a v):h.get? a≠none:=by
 refine oea x λo e _=>?_;try clear x
 rw[e];exact λq=>by cases q
theorem wz(x:b_ W ρ env H ow s.heap)(R:RH W H ow s.heap){n:String}{v:V}{Q:V->Hp->Prop}(e:ρ n=some v)(k:env.kindOf (Str.ofString n)=some .local\/gX env (Str.ofString n))(h0:n≠ ".0")(q:Q v H)(hn:(Str.ofString n==("__classdict__":Str))=false):
 wpAny W.M A (loadName env (Str.ofString n)) (bQ W H ow s Q) E s:=by
 rcases k with k|k
 . refine oea x.ns λm hm hq=>?_;refine oea (hq n v e h0 k) λv' hv bV=>?_;subst bV;exact wpAny_loadName_local x.fn k hm hv (bc R q)
 . refine oeeaa (x.cell n v e k) λc v' hc hv cw=>?_;subst cw;rcases k with k|k
   . exact wpAny_loadName_cell x.fn k hc hv (bc R q)
   . exact wpAny_loadName_free x.fn k hc hv (bc R q) hn
theorem HG(x:b_ W ρ env H ow s.heap)(R:RH W H ow s.heap){n:String}{p:Pos}{v:V}{Q:V->Hp->Prop}(e:ρ n=some v)(k:env.kindOf (Str.ofString n)=some .local\/gX env (Str.ofString n))(h0:n≠ ".0")(q:Q v H)(hn:(Str.ofString n==("__classdict__":Str))=false)
 (hd:(Str.ofString n==("__debug__":Str))=false):wpAny W.M A (eval (.Name (Str.ofString n) p) env) (bQ W H ow s Q) E s:=
 wpAny_Name (wz x R e k h0 q hn) hd
theorem mU(x:b_ W ρ env H ow s.heap)(R:RH W H ow s.heap){n:String}{v:Value}{Q:Unit->Shared->Prop}(k:env.kindOf (Str.ofString n)=some .local\/env.kindOf (Str.ofString n)=some .cell)
 (q:∀h' tk,b_ W (bf ρ n (aq v)) env H ow h'->RH W H ow h'->(∀b o,¬ Wr env n b->s.heap.get? b=some o->h'.get? b=some o)->Q () {s with heap:=h',toks:=tk}):
 wpAny W.M A (storeName env (Str.ofString n) v) Q E s:=by
 have QK:∀b,Wr env n b->¬ er H ow b/\W.base.get? b=none:=λb o=>oaa (x.off b o.ai) λp q _=>⟨p,q⟩;rcases k with k|k
 . refine oea x.ns λm hm hq=>?_;refine wpAny_storeName_local k hm (λh' Da hs=>?_) (by rw[x.fn];rfl);have kp:∀b o,¬ Wr env n b->s.heap.get? b=some o->h'.get? b=some o:=λb o nb e=>(hs.2 b (λz=>nb (.inl ⟨k,z⟩))).trans e;have cellK:∀c v,(∃n,env.cells.lookup n=some c)->s.heap.IsCell c v->h'.IsCell c v:=λc v Jd ic=>oe Jd λn hc=>ic.sameBut hs (x.apart n c hc);refine q h' _ ⟨x.fn,x.gl,x.bi,⟨_,Da,λy u e y0 ky=>?_⟩,λy u e ky=>?_,λnn kn=>?_,x.apart,x.apart2,λb o=>?_⟩ (R.apart (Wr env n) kp QK) kp
   . by_cases z:y=n
     . subst z;rw[bf,if_pos rfl] at e;cases e
       exact⟨v,if_pos rfl,rfl⟩
     . rw[bf,if_neg z] at e;have:Str.ofString y≠Str.ofString n:=λw=>z (ed w);rw[if_neg this];exact hq y u e y0 ky
   . by_cases z:y=n
     . subst z;unfold gX at ky;rw[k] at ky;rcases ky with ky|ky<;>cases ky
     . rw[bf,if_neg z] at e;refine oeeaa (x.cell y u e ky) λc v' h1 h2 h3=>?_;exact⟨c,v',h1,cellK _ _ ⟨_,h1⟩ h2,h3⟩
   . refine oeea (x.cells nn kn) λc v h1 h2=>?_;exact⟨c,v,h1,cellK _ _ ⟨_,h1⟩ h2⟩
   . refine oaa (x.off b o) λp p2 p3=>?_;refine⟨p,p2,?_⟩
     by_cases z:b=env.locals
     . subst z;exact rC Da
     . rw[hs.2 b z];exact p3
 . refine oeea (x.cells _ (.inl k)) λc v₀ hc ic=>?_;refine wpAny_storeName_cell x.fn k hc ic λh' NO hs=>?_;have kp:∀b o,¬ Wr env n b->s.heap.get? b=some o->h'.get? b=some o:=λb o nb e=>(hs.2 b (λz=>nb (.inr ⟨k,z▸hc⟩))).trans e;have hcl:env.locals≠c:=Yo (x.apart _ _ hc);refine q h' _ ⟨x.fn,x.gl,x.bi,?_,λy u e ky=>?_,λnn kn=>?_,x.apart,x.apart2,λb o=>?_⟩ (R.apart (Wr env n) kp QK) kp
   . refine oea x.ns λm hm hq=>?_;refine⟨m,hm.sameBut hs hcl,λy u e y0 ky=>?_⟩
     by_cases z:y=n
     . subst z;rw[k] at ky;cases ky
     . rw[bf,if_neg z] at e;exact hq y u e y0 ky
   . by_cases z:y=n
     . subst z;rw[bf,if_pos rfl] at e;cases e
       exact⟨c,v,hc,NO,rfl⟩
     . rw[bf,if_neg z] at e;refine oeeaa (x.cell y u e ky) λc' v' h1 h2 h3=>?_;refine⟨c',v',h1,h2.sameBut hs ?_,h3⟩;rintro rfl;exact z (ed (x.apart2 _ _ _ h1 hc))
   . refine oeea (x.cells nn kn) λc' v' h1 h2=>?_
     by_cases z:c'=c
     . subst z;exact⟨c',_,h1,NO⟩
     . exact⟨c',v',h1,h2.sameBut hs z⟩
   . refine oaa (x.off b o) λp p2 p3=>?_;refine⟨p,p2,?_⟩
     by_cases z:b=c
     . subst z;exact uL NO
     . rw[hs.2 b z];exact p3
theorem BP(x:b_ W ρ env H ow s.heap)(R:RH W H ow s.heap)(g:W.base.Ns mainGlobals W.mg){n:Str}{p:Pos}{v:Value}{Q:Value->Shared->Prop}(k:env.kindOf n=some .globalImplicit)(e:W.mg n=some v)(q:Q v s)
 (hd:(n==("__debug__":Str))=false):wpAny W.M A (eval (.Name n p) env) Q E s:=
 WS x.fn k (Calls.loadGlobal_global (x.gl▸g.keeps R.keep) e q) hd
theorem yV(x:b_ W ρ env H ow s.heap)(R:RH W H ow s.heap)(g:W.base.Ns mainGlobals W.mg)(b:W.base.Ns builtinsNs W.mb){n:Str}{p:Pos}{v:Value}{Q:Value->Shared->Prop}(k:env.kindOf n=some .globalImplicit)
 (e:W.mg n=none) (e':W.mb n=some v) (q:Q v s) (hd:(n==("__debug__":Str))=false):wpAny W.M A (eval (.Name n p) env) Q E s:=
 WS x.fn k (Calls.loadGlobal_builtin (x.gl▸g.keeps R.keep) e (x.bi▸b.keeps R.keep) e' q) hd
end
end
section
open PySem PySem.W PyProof.Rows PySem.Calls
section
variable {W:dF}{A:Around}{E:Value->Shared->Prop}{s:Shared}{H:Hp}{ow:Nat->Option Nat}
noncomputable def Dl:F_->Operator
 | .add=>.Add
 | .sub=>.Sub
 | .mul=>.Mult
 | .mod=>.Mod
 | .fdiv=>.FloorDiv
theorem Lj{op:F_}{x y:Value}{r:Rs}{Q:V->Hp->Prop}(R:RH W H ow s.heap)(b:BR (.bin op) (aq x) (aq y) H r)(q:r.post H Q):
 wpAny W.M A (binaryOp (Dl op) x y) (bQ W H ow s Q) E s:=by
 rcases b with ⟨a,b,c,e1,e2,hr,rfl⟩|⟨a,b,xs,ys,rfl,e1,e2,hx,hy,hl,rfl⟩
 . refine oe (bK e1) λt bV=>?_;subst bV;refine oe (bK e2) λu cw=>?_;subst cw;have q:Q (.int c) H:=q
   cases op with
   |add=>exact PyProof.Rows.add_int (bF R ((hr:c=_)▸q))
   |sub=>exact PyProof.Rows.sub_int (bF R ((hr:c=_)▸q))
   |mul=>
    refine oaa hr λh1 h2 c8=>?_;try clear hr;subst c8
    exact PyProof.Rows.mul_int (bF R q) (.of_right (intBits_le_64 (VP (by decide) h1) (Va h2 (by decide))))
   |mod=>
    refine oa hr λh1 dW=>?_;try clear hr;subst dW
    exact mod_int' (by exact λcy=>(aj 0x11b0001201001201) _ h1 cy) (bF R (by rw[Int.fmod_eq_emod_of_nonneg _ (XA h1)];exact q))
   |fdiv=>
    refine oaa hr λh1 h2 gW=>?_;try clear hr;subst gW
    exact floordiv_int (by exact λcy=>(aj 0x11b0001201001201) _ h1 cy) (bF R (by rw[Int.fdiv_eq_ediv_of_nonneg _ (XA h1)];exact q)) (.inl (PyProof.noPylong_small (by omega)))
 . obtain rfl:=aO e1;obtain rfl:=aO e2;refine oeaa (R.obj a _ hx) λvs gE kE hb=>?_;refine oe gE λn1 hp=>?_;try clear gE;subst kE
   refine oeaa (R.obj b _ hy) λws jX n_ qe=>?_;refine oe jX λn2 nR=>?_;try clear jX;subst n_
   rw[Za,Za] at hl;exact P.add_list hp nR (kU (o:=.list (vs.toList.map aq++ws.toList.map aq)) R ⟨vs++ws,⟨_,ZU _ rfl⟩,by rw[VF,Zq],by rw[Zb,Za,Za];exact hl⟩ q) (Zf (by rw[Zr,Zr] at hl;exact hl) dJ)
noncomputable def mM:F9->CmpOp
 | .eq=>.Eq
 | .ne=>.NotEq
 | .lt=>.Lt
 | .gt=>.Gt
 | .le=>.LtE
 | .ge=>.GtE
 | .isin=>.In
 | .dz=>.NotIn
 | .isNone=>.Is
 | .isNotNone=>.IsNot
theorem beq_none(x:Value):(x== .none)=IP (aq x):=by cases x<;>rfl
theorem all_true(n:Nat):(List.range n).all (λ_=>true)=true:=by simp
theorem kR{vs:Array Value}{j:Nat}(h:j<vs.size):(vs.toList.map aq)[j]?=some (aq vs[j]):=by rw[ZP,Wi,YY h];rfl
theorem CA{A:Around}(i:Int)(t u:Tok):SeqAt.EqAt A s (.int i t) (.int i u) true:=by
 have:=(Vv i i t u).at A s
 rwa [show (i==i)=true from beq_self_eq_true _] at this
theorem same_int(R:RH W H ow s.heap){A:Around}{x y:Value}{i:Int}(e1:aq x= .int i)(e2:aq y= .int i):SeqAt.EqAt A s x y true:=by
 refine oe (bK e1) λt gy=>?_;subst gy;refine oe (bK e2) λu jZ=>?_;subst jZ;exact CA _ t u
theorem xy(R:RH W H ow s.heap)(n:Nat):∀{A:Around} {x y:Value},tO H n (aq x) (aq y)->A.units+n<cLine->SeqAt.EqAt A s x y true:=by
 induction n with
 |zero=>exact λlI _=>oea lI λi e1 e2=>same_int R e1 e2
 |succ n ih=>
  intro A x y e hu;rcases e with ⟨i,e1,e2⟩|⟨a,b,xs,ys,e2,e3,hx,hy,hl,hq⟩
  . exact same_int R e1 e2
  obtain rfl:=aO e2;obtain rfl:=aO e3
  by_cases Rw:a=b
  . rw[Rw];exact SeqAt.EqAt.same _
  . refine oeaa (R.obj a _ hx) λvs hp qg hb=>?_;subst qg;refine oeaa (R.obj b _ hy) λws nR tG qe=>?_;subst tG;rw[Za,Za,Zr,Zr] at hl;refine SeqAt.EqAt.of_refs Rw ?_;have:=W3 (A:=A) (s:=s) (e:=λ_=>true) hp.isList nR.isList hl (by exact(aj 0x112101421101120124130) _ _ _ hu) λj h1 h2=>
     ih (A:=A.in1) (hq j _ _ (kR h1) (kR h2)) (by show A.units+1+n<cLine;exact(aj 0x112111100122421101120124130) _ _ _ hu)
    rwa [all_true] at this
theorem wv(R:RH W H ow s.heap){a b:Nat}{n:Nat}{A:Around}(e:tO H (n+1) (.ref a) (.ref b))(hu:A.units+(n+1)<cLine):
 SeqAt.RcAt A s (.ref a) (.ref b) true/\SeqAt.RcNeAt A s (.ref a) (.ref b) false:=by
 rcases e with ⟨i,e,_⟩|⟨a',b',xs,ys,e2,e3,hx,hy,hl,hq⟩
 . cases e
 cases e2;cases e3
 refine oeaa (R.obj a _ hx) λvs hp tF hb=>?_;subst tF;refine oeaa (R.obj b _ hy) λws nR tE qe=>?_;subst tE;rw[Za,Za,Zr,Zr] at hl;have Rq:∀j (h1:j<vs.size) (h2:j<ws.size),SeqAt.EqAt A.in1 s vs[j] ws[j] true:=λj h1 h2=>
  xy R n (A:=A.in1) (hq j _ _ (kR h1) (kR h2)) (by show A.units+1+n<cLine;exact(aj 0x112111100122421101120124130) _ _ _ hu)
 have h1:=W3 (A:=A) (s:=s) (e:=λ_=>true) hp.isList nR.isList hl (by exact(aj 0x112101421101120124130) _ _ _ hu) Rq;have h2:=VV (A:=A) (s:=s) (e:=λ_=>true) hp.isList nR.isList hl (by exact(aj 0x112101421101120124130) _ _ _ hu) Rq;rw[all_true] at h1 h2;exact⟨h1,h2⟩
theorem keq_hits{kb:List (Int×Value)}{A:Around}:∀(ka:List (Int×Value)),(∀p∈ka,∃y,valueAt kb p.1=some y/\SeqAt.EqAt A s p.2 y true)->KeqHits A s kb ka true
 |[],_=>.nil
 |(k,v)::r,h=>by
  refine oea (h (k,v) Ze) λy h1 h2=>?_;exact .hit (e:=true) (b:=true) h1 h2 (keq_hits r λp hp=>h p (Zh _ hp))
theorem iV:∀{kb:List (Int×Value)},(kb.map (·.1)).Nodup->∀{i:Nat} {p:Int×Value},kb[i]?=some p->valueAt kb p.1=some p.2
 |[],_,i,p,h=>by cases i<;>cases h
 |q::r,nd,i,p,h=>by
  rw[Zw,ZC] at nd;have ih:=@iV r nd.2;unfold valueAt at ih ⊢;rw[YZ]
  cases i with
  |zero=>
   have e:q=p:=Z1 h;rw[e,decide_eq_true rfl];rfl
  |succ i=>
   have vF:q.1≠p.1:=λe=>nd.1 (e▸ZF (Z3 (show r[i]?=some p from h)));rw[decide_eq_false vF];exact ih (show r[i]?=some p from h)
theorem cN(R:RH W H ow s.heap){a:Nat}{es:List (Int×V)}(h:H a=some (.dict es)\/H a=some (.eA es))(sm:W.base.get? sysModules≠none):(a==sysModules)=false:=by
 have:=R.new a (.inr (.inl ⟨_,h⟩));rw[beq_eq_false_iff_ne];rintro rfl;exact sm this
theorem Hv(sm:W.base.get? sysModules≠none)(R:RH W H ow s.heap){a b:Nat}(e:rY H a b)(hu:A.units+8<cLine){Q:V->Hp->Prop}:
 (Q (.bool true) H->wpAny W.M A (compareOp .Eq (.ref a) (.ref b)) (bQ W H ow s Q) E s)/\(Q (.bool false) H->wpAny W.M A (compareOp .NotEq (.ref a) (.ref b)) (bQ W H ow s Q) E s):=by
 rcases e with e|⟨es,ds,ha,hb,hk,hv⟩
 . refine oa (wv (A:=A) R (n:=5) e (by exact(aj 0x111110502012411800124120) _ _ hu)) λh1 h2=>?_;exact⟨λq=>h1 _ _ _ _ (bc R q),λq=>h2 _ _ _ _ (bc R q)⟩
 . refine oeaa (R.obj a _ ha) λka da vR ba=>?_;subst vR;refine oeaa (R.obj b _ hb) λkb db tD bb=>?_;subst tD;have hl:ka.length=kb.length:=by have:=congrArg List.length hk;rw[Za,Za,Za,Za] at this;exact this
   have hits:KeqHits A.in1 s kb ka true:=keq_hits ka λp hp=>by
    refine oe (List.mem_iff_getElem?.mp hp) λi hi=>?_;have FH:i<kb.length:=hl▸(ZM.mp hi).1;have cF:kb[i]?=some kb[i]:=Zv FH;have m1:(ka.map λp=>(p.1,aq p.2))[i]?=some (p.1,aq p.2):=by rw[ZP,hi];rfl
    have m2:(kb.map λp=>(p.1,aq p.2))[i]?=some (kb[i].1,aq kb[i].2):=by rw[ZP,cF];rfl
    have hkk:p.1=kb[i].1:=by
     have e:=λl:List (Int×V)=>@ZP _ _ (λx:Int×V=>x.1) l i;have:=congrArg (λl=>l[i]?) hk;exact Z1 (((congrArg (Option.map λx:Int×V=>x.1) m1).symm.trans (e _).symm).trans (this.trans ((e _).trans (congrArg (Option.map λx:Int×V=>x.1) m2))))
    refine⟨kb[i].2,?_,xy R 6 (A:=A.in1) (hv i _ _ m1 m2) (by show A.units+1+6<cLine;exact(aj 0x111160100122411800124120) _ _ hu)⟩;rw[hkk];exact iV (fx db) cF
   have e:(ka.length==kb.length&&true)=true:=by rw[hl,beq_self_eq_true];rfl
   exact⟨λq=>keq_eq (cN R (.inl ha) sm) (cN R (.inl hb) sm) da db (by exact(aj 0x111101411800124120) _ _ hu) (λ_=>hits) (bc R (by rw[e];exact q)),
    λq=>keq_ne (cN R (.inl ha) sm) (cN R (.inl hb) sm) da db (by exact(aj 0x111101411800124120) _ _ hu) (λ_=>hits) (bc R (by rw[e];exact q))⟩
theorem nB:∀(ka:List (Int×Value)) (i:Int),((ka.map λp=>(p.1,aq p.2)).any λx=>x.1==i)=(valueAt ka i).isSome
 |[],_=>rfl
 |p::r,i=>by
  have ih:=nB r i;unfold valueAt at ih ⊢;rw[YZ,Zw,XJ,ih]
  by_cases e:p.1=i
  . rw[decide_eq_true e,beq_iff_eq.mpr e];rfl
  . rw[decide_eq_false e,beq_eq_false_iff_ne.mpr e];rfl
theorem any_map{α:Type}[BEq α][LawfulBEq α]{mk:α->V}(f:Value->Bool){i:α}(hf:∀v j,aq v=mk j->f v=(j==i)):∀{L:List Value} {l:List α},L.map aq=l.map mk->L.any f=l.contains i
 |[],[],_=>rfl
 |[],_::_,h=>by cases h
 |_::_,[],h=>by cases h
 |v::r,j::l,h=>by
  rw[Zw,Zw,Vj] at h;rw[XJ,any_map f hf h.2,Xm,hf v j h.1,BEq.comm]
theorem AU(sm:W.base.get? sysModules≠none)(R:RH W H ow s.heap){x y:Value}{r:Bool}(e:G9 H (aq x) (aq y) r){Q:V->Hp->Prop}:
 (Q (.bool r) H->wpAny W.M A (compareOp .In x y) (bQ W H ow s Q) E s)/\(Q (.bool (!r)) H->wpAny W.M A (compareOp .NotIn x y) (bQ W H ow s Q) E s):=by
 rcases e with ⟨i,a,e1,e2,⟨es,ha,rfl⟩|⟨l,ha,rfl⟩⟩|⟨i,a,l,e1,e2,ha,rfl⟩
 . refine oe (bK e1) λt ri=>?_;subst ri;obtain rfl:=aO e2;have key:∃ka:List (Int×Value),s.heap.DictOf W.kd a ka/\ka.map (λp=>(p.1,aq p.2))=es/\es.length<=big:=by
    rcases ha with ha|ha
    . exact R.obj a _ ha
    . exact R.obj a _ ha
   refine oeaa key λka da vQ ba=>?_;try clear key;subst vQ
   rw[nB];exact⟨λq=>wpAny_in_of (k:=i) (lR i t) (cN R ha sm) da.mapOf (bF R q),λq=>wpAny_notIn_of (k:=i) (lR i t) (cN R ha sm) da.mapOf (bF R q)⟩
 . refine oe (bK e1) λt tC=>?_;subst tC;obtain rfl:=aO e2;refine oeaa (R.obj a _ ha) λvs hp Jo hb=>?_
   let f:Value->Bool:=λv=>match v with| .int j _=>j==i|_=>false
   have hf:∀v,v∈vs->SeqAt.EqAt A.in1 s v (.int i t) (f v):=λv hv=>by
    have:aq v∈l.map V.int:=Jo▸ZF (Vw.mpr hv);refine oea (Zn.mp this) λj _ hj=>?_;refine oe (bK hj.symm) λu tB=>?_;subst tB;exact(Vv _ _ _ _).at _ _
   have Ao:vs.any f=l.contains i:=by
    rw[<-Wo];exact any_map f (λv j h=>by refine oe (bK h) λu tz=>?_;subst tz;rfl) Jo
   exact⟨λq=>SeqAt.in_listAt f hp.isList hf (bc R (Ao▸q)),λq=>SeqAt.notIn_listAt f hp.isList hf (bc R (Ao▸q))⟩
 . refine oe (fS e1) λt vP=>?_;subst vP;obtain rfl:=aO e2;refine oeaa (R.obj a _ ha) λvs hp Jo hb=>?_
   let f:Value->Bool:=λv=>match v with| .str j _=>j==i|_=>false
   have hf:∀v,v∈vs->SeqAt.EqAt A.in1 s v (.str i t) (f v):=λv hv=>by
    have:aq v∈l.map V.str:=Jo▸ZF (Vw.mpr hv);refine oea (Zn.mp this) λj _ hj=>?_;refine oe (fS hj.symm) λu yz=>?_;subst yz;exact(eqGives_str _ _ _ _).at _ _
   have Ao:vs.any f=l.contains i:=by
    rw[<-Wo];exact any_map f (λv j h=>by refine oe (fS h) λu Ai=>?_;subst Ai;rfl) Jo
   exact⟨λq=>SeqAt.in_tupleAt f hp hf (bc R (Ao▸q)),λq=>SeqAt.notIn_tupleAt f hp hf (bc R (Ao▸q))⟩
theorem EO(sm:W.base.get? sysModules≠none)(R:RH W H ow s.heap){x y:Value}{r:Bool}(e:OL H (aq x) (aq y) r)(hu:A.units+8<cLine){Q:V->Hp->Prop}:
 (Q (.bool r) H->wpAny W.M A (compareOp .Eq x y) (bQ W H ow s Q) E s)/\(Q (.bool (!r)) H->wpAny W.M A (compareOp .NotEq x y) (bQ W H ow s Q) E s):=by
 rcases e with ⟨a,b,e1,e2,rfl⟩|⟨a,b,e1,e2,rfl⟩|⟨a,b,e1,e2,h,rfl⟩
 . refine oe (bK e1) λt Ah=>?_;subst Ah;refine oe (bK e2) λu Gx=>?_;subst Gx;exact⟨λq=>PyProof.Rows.eq_int (bc R q),λq=>PyProof.Rows.ne_int (bc R q)⟩
 . refine oe (fS e1) λt Gw=>?_;subst Gw;refine oe (fS e2) λu Gv=>?_;subst Gv;have e:decide (a=b)=(a==b):=by
    by_cases z:a=b
    . rw[decide_eq_true z,beq_iff_eq.mpr z]
    . rw[decide_eq_false z,beq_eq_false_iff_ne.mpr z]
   rw[e];exact⟨λq=>PyProof.Rows.eq_str (bc R q),λq=>PyProof.Rows.ne_str (bc R q)⟩
 . obtain rfl:=aO e1;obtain rfl:=aO e2;exact Hv sm R h hu
theorem Li(sm:W.base.get? sysModules≠none)(R:RH W H ow s.heap){op:F9}{x y:Value}{r:Rs}{Q:V->Hp->Prop}(b:BR (.cmp op) (aq x) (aq y) H r)(q:r.post H Q)(hu:A.units+8<cLine):
 wpAny W.M A (compareOp (mM op) x y) (bQ W H ow s Q) E s:=by
 obtain ⟨b,rfl,h⟩:=b;have q:Q (.bool b) H:=q;have ord:∀{o:F9},(∃i j,aq x= .int i/\aq y= .int j/\b=Gz o i j)->∃i t j u,x= .int i t/\y= .int j u/\b=Gz o i j:=λlH=>oeeaa lH λi j e1 e2 e3=>by
  refine oe (bK e1) λt Gu=>?_;subst Gu;refine oe (bK e2) λu Gs=>?_;subst Gs;exact⟨i,t,j,u,rfl,rfl,e3⟩
 cases op with
 |eq=>exact(EO sm R h hu).1 q
 |ne=>
  refine(EO sm R h hu).2 ?_;rw[WK];exact q
 |lt=>refine oeeeeaa (ord h) λi t j u Gr Gq Gp=>?_;subst Gr;subst Gq;subst Gp;exact PyProof.Rows.lt_int (bc R q)
 |gt=>refine oeeeeaa (ord h) λi t j u Gn Gm Gl=>?_;subst Gn;subst Gm;subst Gl;exact PyProof.Rows.gt_int (bc R q)
 |le=>refine oeeeeaa (ord h) λi t j u Ph Pg Pf=>?_;subst Ph;subst Pg;subst Pf;exact PyProof.Rows.le_int (bc R q)
 |ge=>refine oeeeeaa (ord h) λi t j u Pe Pd Pc=>?_;subst Pe;subst Pd;subst Pc;exact PyProof.Rows.ge_int (bc R q)
 |isin=>exact(AU sm R h).1 q
 |dz=>
  refine(AU sm R h).2 ?_;rw[WK];exact q
 |isNone=>
  refine oa h λe2 Pb=>?_;try clear h;subst Pb
  obtain rfl:=mv e2;exact is_none (bc R (beq_none x▸q))
 |isNotNone=>
  refine oa h λe2 Pa=>?_;try clear h;subst Pa
  obtain rfl:=mv e2;exact isNot_none (bc R (beq_none x▸q))
theorem Ld{a b:Nat}{vs:Array Value}(hp:s.heap.PlainList a vs)(nR:s.heap.PlainList b #[])(ne:Bool){P:Value->Shared->Prop}(q:P (.bool (vs.toList.isEmpty != ne)) s)(hu:A.units+8<cLine):
 wpAny W.M A (compareOp (if ne=true then .NotEq else .Eq) (.ref a) (.ref b)) P E s:=by
 by_cases h:vs.size=0
 . have hv:vs= #[]:=by simpa using h
   subst hv;have h1:=W3 (A:=A) (s:=s) (e:=λ_=>true) hp.isList nR.isList rfl (by exact(aj 0x111101411800124120) _ _ hu) (λj h1 h2=>absurd h1 (by simp));have h2:=VV (A:=A) (s:=s) (e:=λ_=>true) hp.isList nR.isList rfl (by exact(aj 0x111101411800124120) _ _ hu) (λj h1 h2=>absurd h1 (by simp))
   cases ne with
   |true=>exact h2 _ _ _ _ q
   |false=>exact h1 _ _ _ _ q
 . have hs:(vs.size != (#[]:Array Value).size)=true:=by simpa using h
   have he:vs.toList.isEmpty=false:=by simp;intro z;subst z;exact h rfl
   rw[he] at q;have h1:=SeqAt.RcAt.lists_lengths (A:=A) (s:=s) hp.isList nR.isList hs (by exact(aj 0x111101411800124120) _ _ hu);have h2:=SeqAt.RcNeAt.lists_lengths (A:=A) (s:=s) hp.isList nR.isList hs (by exact(aj 0x111101411800124120) _ _ hu)
   cases ne with
   |true=>exact h2 _ _ _ _ q
   |false=>exact h1 _ _ _ _ q
end
end
section
open PySem PySem.W PyProof.Rows PySem.Calls
section
variable {W:dF}{A:Around}{E:Value->Shared->Prop}{s:Shared}{H:Hp}{ow:Nat->Option Nat}
theorem hV{h:Heap}{l:Nat}{items:Array Value}{n:Nat}(f:Array Value->Array Value)(hl:h.get? l=some {cls:=.type "list",data:=.seq items n}):
 (h.update l (Obj.mapSeq f)).PlainList l (f items):=by
 refine⟨if (f items).size==items.size then n else n+1,?_⟩;rw[Xq _ hl rfl]
 rfl
theorem jz{a:Nat}{xs:List V}{ys:Array Value}{h':Heap}{tk:Nat}{r:Value}{Q:V->Hp->Prop}(R:RH W H ow s.heap)(ha:H a=some (.list xs))(hs:Heap.SameBut a s.heap h')(hp:h'.PlainList a ys)
 (hb:ys.size<=big) (q:Q (aq r) (bf H a (.list (ys.toList.map aq)))):bQ W H ow s Q r {s with heap:=h',toks:=tk}:=
 ⟨_,ow,q,R.put ha (.inl ⟨_,ha⟩) hs (λ_ _ z=>by cases z) ⟨ys,hp,rfl,EY hb⟩,Go.put ha hs (λ_ z=>by cases z)⟩
theorem mR(k:Int)(v:Value):∀{kvs:List (Int×Value)},((kvs.map λkv=>if kv.1=k then(kv.1,v) else kv).map (·.1))=kvs.map (·.1)
 |[]=>rfl
 |p::r=>by
  rw[Zw,Zw,Zw,mR k v];refine congrArg (· ::_) ?_;show (if p.1=k then(p.1,v) else p).1=p.1;split<;>rfl
theorem r0{kvs:List (Int×Value)}{k:Int}{v:Value}(nd:(kvs.map (·.1)).Nodup):((stored kvs k v).map (·.1)).Nodup:=by
 unfold stored;split
 . rw[mR];exact nd
 . rename_i h;rw[Zq,ZI];refine⟨nd,Z4 _ _,λx hx y hy e=>h ?_⟩;refine oea (Zn.mp hx) λp hp z=>?_;exact W4.mpr ⟨p,hp,decide_eq_true (z.trans (e.trans (Zc.mp hy)))⟩
theorem po:∀(more kvs:List (Int×Value)),(kvs.map (·.1)).Nodup->(merged kvs more).map (λp=>(p.1,aq p.2))=(more.map λp=>(p.1,aq p.2)).foldl (λes p=>putD es p.1 p.2) (kvs.map λp=>(p.1,aq p.2))
 |[],_,_=>rfl
 |p::r,kvs,nd=>by
  show (merged (stored kvs p.1 p.2) r).map _=_;rw[po r _ (r0 nd),kk nd]
  rfl
theorem gT:∀(ds es:List (Int×V)),(ds.foldl (λes p=>putD es p.1 p.2) es).length<=es.length+ds.length
 |[],_=>Zs _
 |p::r,es=>by
  have h1:=gT r (putD es p.1 p.2);have h2:=mW es p.1 p.2;exact Zf h1 (Zf (ZO h2 _) (YI (XR ..)))
theorem pQ(ka:List (Int×Value))(k:Int)(d:Value):aq ((valueAt ka k).getD d)=((ka.map λp=>(p.1,aq p.2)).lookup k).getD (aq d):=by
 rw[<-fZ];cases valueAt ka k<;>rfl
noncomputable def tS:Pm->String
 | .append=>"append"
 | .extend=>"extend"
 | .pop=>"pop"
 | .yA=>"pop"
 | .update=>"update"
 | .get=>"get"
noncomputable def qG:Pm->String
 | .update=>"dict"
 | .get=>"dict"
 |_=>"list"
noncomputable def AX(m:Pm):String:=qG m++ "."++tS m
theorem iE{vs:List Value}{v:V}(e:vs.map aq=[v]):∃u,vs=[u]/\aq u=v:=by
 refine oeeaa (Xw.mp e) λu l bV e1 e2=>?_;subst bV;rw[VG.mp e2];exact⟨u,rfl,e1⟩
theorem uH{ks:Array Value}{i n:Nat}(h:ks.size<=n):(ks.eraseIdxIfInBounds i).size<=n:=by
 refine Zf ?_ h;rw[<-Zr,Xh,<-Zr];exact List.length_eraseIdx_le ..
theorem wV{xs:List V}{w:V}:∀{l:List Value},l.map aq=xs++[w]->∃y,l[l.length - 1]?=some y/\aq y=w/\(l.eraseIdx (l.length - 1)).map aq=xs:=λ{l} e=>by
 refine oeeaa (List.map_eq_append_iff.mp e) λl1 l2 cw e1 e2=>?_;subst cw;refine oea (iE e2) λy c8 e3=>?_;subst c8;have z:(l1++[y]).length - 1=l1.length:=by rw[Zb];rfl
 rw[z];refine⟨y,WM,e3,?_⟩;rw[List.eraseIdx_append_of_length_le (Zs _),Nat.sub_self,List.eraseIdx_cons_zero,Zu];exact e1
theorem Hy(sm:W.base.get? sysModules≠none)(R:RH W H ow s.heap){a:Nat}{m:Pm}{vs:List Value}{w:V}{o:Option O}{Q:V->Hp->Prop}(p:Sn m a (vs.map aq) H w o)(q:Q w (J0 H a o)):
 wpAny W.M A (call (.builtin (AX m)) (.ref a::vs) []) (bQ W H ow s Q) E s:=by
 cases m with
 |append=>
  refine oeeaaaa p λxs v ha e hlen dW gW=>?_;try clear p;subst dW;subst gW
  refine oea (iE e) λv' gE kE=>?_;subst gE;subst kE;refine oeaa (R.obj a _ ha) λks hp jX hb=>?_;subst jX;have hl:ks.size<big:=by rw[Za,Zr] at hlen;exact hlen
  refine W5 hp (λh' kF hs=>jz (tk:=s.toks) R ha hs kF (by rw[Us];exact hl) ?_) (Zf (ZH hl) dJ);rw[Array.toList_push,Zq];exact q
 |extend=>
  refine oeeeaaaaaa p λxs b ys ha e vF hb hlen n_ gy=>?_;try clear p;subst n_;subst gy
  refine oea (iE e) λv' jZ e'=>?_;subst jZ;obtain rfl:=aO e';refine oeaa (R.obj a _ ha) λks qg tG vI=>?_;refine oe qg λn hp=>?_;try clear qg;subst tG
  refine oeaa (R.obj b _ hb) λls tF tE qe=>?_;refine oe tF λn2 nR=>?_;try clear tF;subst tE
  have hl:ks.size+ls.size<=big:=by rw[Za,Za,Zr,Zr] at hlen;exact hlen
  have pZ:ks.size+ls.size<=sizeLine:=Zf hl dJ;refine VW VX ⟨_,hp,rfl⟩ F.entry_list_extend (F.args_list_extend_2 _ _) (AutoSeq1.list_extend_list_list_0 a ks n b ls n2 ?_ (by omega) (by omega)) ⟨hp,nR,?_⟩
  . simp[Builtin.List.listTooLong];omega
  . refine jz (r:=.none) R ha (Xj ..) (hV (· ++ls) hp) (by rw[Array.size_append];exact hl) ?_;rw[VF,Zq];exact q
 |pop=>
  refine oeaa p λxs ha e vR=>?_;try clear p;subst vR
  obtain rfl:=VG.mp e;refine oeaa (R.obj a _ ha) λks tD hx vI=>?_;refine oe tD λn hp=>?_;try clear tD
  have hk:ks.size<=big:=by rw[<-hx] at vI;exact ib vI
  refine oeaa (wV hx) λy hy ri hz=>?_;subst ri;rw[Zr] at hy hz;refine VW WD ⟨_,hp,rfl⟩ F.entry_list_pop (F.args_list_pop_1 _) (MeetsSeq.list_pop_last a ks n y (eD hy) (Zf hk dJ)) ⟨hp,?_⟩;refine jz (r:=y) (tk:=s.toks) R ha (Xj ..) (hV (λxs=>xs.eraseIdxIfInBounds (ks.size - 1)) hp) (uH hk) ?_;rw[Xh,hz];exact q
 |yA=>
  refine oeaa p λxs ha e vQ=>?_;try clear p;subst vQ
  refine oea (iE e) λv' tC e'=>?_;subst tC;refine oe (bK e') λt tB=>?_;subst tB;refine oeaa (R.obj a _ ha) λks tz hx vI=>?_;refine oe tz λn hp=>?_;try clear tz
  have hk:ks.size<=big:=by rw[<-hx] at vI;exact ib vI
  refine oeeaa (Xw.mp hx) λy l hl vP yz=>?_;subst vP;subst yz;have qi:0<ks.size:=by rw[<-Zr,hl];exact Nat.succ_pos _
  have w9:ks[0]?=some y:=eD (by rw[hl];rfl);refine VW WD ⟨_,hp,rfl⟩ F.entry_list_pop (F.args_list_pop_2 _ _) (MeetsSeq.list_pop_at a ks n 0 t 0 y (by decide) (mT (i:=0) (by decide) qi) w9 (Zf hk dJ)) ⟨hp,?_⟩;refine jz (r:=y) (tk:=s.toks) R ha (Xj ..) (hV (λxs=>xs.eraseIdxIfInBounds 0) hp) (uH hk) ?_;rw[Xh,hl];exact q
 |update=>
  refine oeeeaaaaaa p λes b ds ha e vF hb hlen Ai Ah=>?_;try clear p;subst Ai;subst Ah
  refine oea (iE e) λv' Gx e'=>?_;subst Gx;obtain rfl:=aO e';refine oeaa (R.obj a _ ha) λka da Gw ba=>?_;subst Gw;refine oeaa (R.obj b _ hb) λkb db Gv bb=>?_;subst Gv;have hl:ka.length+kb.length<=big:=by rw[Za,Za] at hlen;exact hlen
  refine call_meetsIn VY da.typeIs F.entry_dict_update (F.args_dict_update_2 _ _) (meets_dict_update W.kd a b vF (cN R (.inl hb) sm)) ⟨ka,kb,da,db,Zf hl dJ,λh' da' db' hs=>?_⟩;exact⟨_,ow,q,R.put ha (.inr (.inl ⟨_,.inl ha⟩)) hs (λ_ _ z=>by cases z) ⟨_,da',po kb ka (fx da),Zf (gT _ _) hlen⟩,Go.put (tk:=s.toks) ha hs (λ_ z=>by cases z)⟩
 |get=>
  refine oeeeaaa p λes k d ha e Pi Gu=>?_;try clear p;subst Pi;subst Gu
  refine oeeaa (Xw.mp e) λx l Gs e1 e2=>?_;subst Gs;refine oea (iE e2) λy Gr Gq=>?_;subst Gr;subst Gq;refine oe (bK e1) λt Gp=>?_;subst Gp;refine oeaa (R.obj a _ ha) λka da Gn ba=>?_;subst Gn;refine call_meetsIn WE da.typeIs F.entry_dict_get (F.args_dict_get_3 _ _ _) (meets_dict_get_default W.kd a (k:=k) (lR k t) (cN R (.inl ha) sm) y) ⟨valueAt ka,da.mapOf,bF R ?_⟩;rw[pQ];exact q
theorem yR(R:RH W H ow s.heap){a:Nat}{m:Pm}{pl:Sem Bool}{Q:Value×List Value->Shared->Prop}(p:Kind H (.ref a) (qG m))(q:Q (.builtin (AX m),[.ref a]) s)(no:∀fs,H a≠some (.inst (qG m) fs)):
 wpAny W.M A (getMethod (.ref a) (Str.ofString (tS m)) pl) Q E s:=by
 refine oea p λb e p=>?_
 cases e
 rcases p with ⟨fs,p⟩|⟨e,xs,p⟩|⟨e,es,p⟩
 . exact absurd p (no fs)
 . refine oeaa (R.obj a _ p) λks hp Gm vI=>?_;subst Gm;have hd:∀b,Value.ref a= .ref b->∃o,s.heap.get? b=some o/\o.dict=none:=λb e=>by cases e;refine oe hp λn e=>?_;try clear hp;exact⟨_,e,rfl⟩
   cases m with
   |append=>exact Xd hp.isList.typeIs Wb F.slot_list_append F.type_list_append hd q
   |extend=>exact Xd hp.isList.typeIs Wb VX F.type_list_extend hd q
   |pop=>exact Xd hp.isList.typeIs Wb WD F.type_list_pop hd q
   |yA=>exact Xd hp.isList.typeIs Wb WD F.type_list_pop hd q
   |update=>exact absurd e (by decide:¬ "dict"="list")
   |get=>exact absurd e (by decide:¬ "dict"="list")
 . refine oeaa (R.obj a _ p) λka da Gl ba=>?_;subst Gl
   cases m with
   |update=>exact Xd da.typeIs Ua VY F.type_dict_update da.mapOf.noDict q
   |get=>exact Xd da.typeIs Ua WE Vk da.mapOf.noDict q
   |_=>exact absurd e (by decide:¬ "list"="dict")
end
end
section
open PySem PySem.W PyProof.Rows PySem.Calls
section
variable {W:dF}{A:Around}{E:Value->Shared->Prop}{s:Shared}{H:Hp}{ow:Nat->Option Nat}
theorem eF{a:Nat}{o:O}{h':Heap}{tk:Nat}{Q:V->Hp->Prop}(R:RH W H ow s.heap)(hk:∀b p,s.heap.get? b=some p->h'.get? b=some p)(ha:s.heap.get? a=none)
 (x:eS W ow h' a o) (q:∀a,H a=none->Q (.ref a) (bf H a o)):bQ W H ow s Q (.ref a) {s with heap:=h',toks:=tk}:=by
 refine⟨bf H a o,ow,q _ (R.rD ha),R.add hk ha x,Go.add hk (λb m=>?_) (λb l=>?_) (λb o e=>R.live e) λ_ m=>fO m⟩
 . rcases gh m with m|rfl
   . exact .inl m
   . exact .inr ha
 . rw[bf,if_neg];rintro rfl;exact l ha
theorem bU{h:Heap}{a:Nat}(e:h.objs.size<=a):h.get? a=none:=Vt e
theorem Bw(R:RH W H ow s.heap){a:Nat}{xs:List V}(h:H a=some (.list xs)\/H a=some (.eC xs)):∃vs,s.heap.IsList a vs/\vs.toList.map aq=xs/\vs.size<=big:=by
 rcases h with h|h
 . refine oeaa (R.obj a _ h) λvs hp bV hb=>?_;subst bV;exact⟨vs,hp.isList,rfl,ib hb⟩
 . refine oeaa (R.obj a _ h) λvs hp cw hb=>?_;subst cw;exact⟨vs,hp.at λo=>R.keep _ o,rfl,ib hb⟩
theorem Lh(sm:W.base.get? sysModules≠none)(R:RH W H ow s.heap){v:Value}{r:Rs}{Q:V->Hp->Prop}(u:UR .len (aq v) H r)(q:r.post H Q):
 wpAny W.M A (call (.builtin "len") [v]) (bQ W H ow s Q) E s:=by
 refine oeeaa u λa n e h c8=>?_;try clear u;subst c8
 obtain rfl:=aO e;have q:Q (.int n) H:=q;rcases h with ⟨xs,h,rfl⟩|⟨es,h,rfl⟩
 . refine oeaa (Bw R h) λvs hl dW hb=>?_;subst dW;rw[Za,Zr] at q;exact call_len_list hl (oG hb) (bF R q)
 . have key:∃ka:List (Int×Value),s.heap.DictOf W.kd a ka/\ka.map (λp=>(p.1,aq p.2))=es/\es.length<=big:=by
    rcases h with h|h
    . exact R.obj a _ h
    . exact R.obj a _ h
   refine oeaa key λka hd gW hb=>?_;try clear key;subst gW
   rw[Za] at q hb;exact call_len_dict (cN R h sm) hd (oG hb) (bF R q)
theorem Ll(R:RH W H ow s.heap){i:Int}{t:Tok}{Q:V->Hp->Prop}(q:Q (.int i.natAbs) H):wpAny W.M A (call (.builtin "abs") [.int i t]) (bQ W H ow s Q) E s:=by
 refine call_abs_int λu tk=>bF R ?_;have:(if i<0 then -i else i)=(i.natAbs:Int):=by split;exact(Int.ofNat_natAbs_of_nonpos (XA ‹_›)).symm;exact(Int.natAbs_of_nonneg (Uy.mp ‹_›)).symm
 show Q (.int (if i<0 then -i else i)) H;rw[this];exact q
theorem intsAre_of:∀{L:List Value} {l:List Int},L.map aq=l.map V.int->IntsAre L l
 |[],[],_=>.nil
 |[],_::_,h=>by cases h
 |_::_,[],h=>by cases h
 |v::L,i::l,h=>by
  rw[Zw,Zw,Vj] at h;refine oe (bK h.1) λt gE=>?_;subst gE;exact .cons i t (intsAre_of h.2)
theorem pi{L:List Value}{l:List Int}(h:IntsAre L l):L.map aq=l.map V.int:=by
 induction h with
 |nil=>rfl
 |cons n t _ ih=>rw[Zw,Zw,ih];rfl
theorem uu{l m:List Int}(p:m.Perm l)(s:m.Pairwise (· <= ·)):m=bE l:=by
 refine WW (le:=λa b=>a<=b) (λa b _ _ h1 h2=>ZA h1 h2) s ?_ (p.trans (WG l _).symm);have:=WY (le:=λ(a b:Int)=>decide (a<=b)) (λa b c h1 h2=>decide_eq_true (V4 (of_decide_eq_true h1) (of_decide_eq_true h2))) (λa b=>by
  rcases Int.le_total a b with h|h
  . rw[decide_eq_true h];rfl
  . rw[decide_eq_true h,Bool.or_true]) l
 exact this.imp λh=>of_decide_eq_true h
theorem sJ(l:List Int):(bE l).length=l.length:=(WG l _).length_eq
theorem uq{ka:List (Int×Value)}{L:List Value}(h:L.length=ka.length)(tM:∀(i:Nat) (v:Value),L[i]?=some v->∃k x,ka[i]?=some (k,x)/\W.kd.is k v=true):L.map aq=(ka.map (·.1)).map V.int:=by
 refine XZ λj=>?_;rw[ZP,ZP,ZP]
 cases hj:L[j]? with
 |none=>rw[Yw (h▸YD.mp hj)];rfl
 |some v=>
  refine oeea (tM j v hj) λk x hkx NX=>?_;rw[hkx];have:v.isInt k=true:=NX
  cases v with
  |int i t=>exact congrArg (λz=>some (V.int z)) (beq_iff_eq.mp this)
  |_=>cases this
theorem BL(sm:W.base.get? sysModules≠none)(hh:A.handled=none)(R:RH W H ow s.heap){a:Nat}{l:List Int}{Q:V->Hp->Prop}
 (h:H a=some (.list (l.map .int))\/∃es,H a=some (.dict es)/\l=es.map (·.1)) (zP:l.length<64) (q:∀c,H c=none->Q (.ref c) (bf H c (.list ((bE l).map .int)))):
 wpAny W.M A (call (.builtin "sorted") [.ref a]) (bQ W H ow s Q) E s:=by
 have hb:((bE l).map V.int).length<=big:=by rw[Za,sJ];exact Zf (ZH zP) (by decide)
 rcases h with ha|⟨es,ha,rfl⟩
 . refine oeaa (R.obj a _ ha) λvs hp e _=>?_;have hI:=intsAre_of e;have hlen:vs.toList.length<64:=by rw[hI.length];exact zP
   refine sorted_ints (vs:=vs.toList) hp.isList hI hlen λout TL h1 h2 h3=>?_;obtain rfl:=uu h2 h3;refine oe (sortedAll_at s.heap vs.toList out) λe he=>?_;exact eF (tk:=s.toks) R (λb p e=>sortedAll_old e) (bU (Yj _)) (o:=.list ((bE l).map .int)) ⟨out,⟨e,he⟩,pi h1,hb⟩ q
 . refine oeaa (R.obj a _ ha) λka hd kE _=>?_;subst kE;refine oe hd.dictAt λep FM=>?_;have hlen:ka.length<64:=by rw[Za,Za] at zP;exact zP
   refine call_function_entry kind_sorted plain_sorted entry_sorted (args_sorted1 _) ?_;unfold Builtin.«sorted»;refine Zl (m:=checkCount "sorted" 1 1 _) (Zz ?_);refine Zl (kdu_collect (A:=A.in1) (kdl_dict (knd:=W.kd) (kvs:=ka) (ep:=ep) (cN R (.inl ha) sm)) hh FM (by rw[Wx];exact(aj 0x1101000000801300406014110) _ hlen) λh' tk acc hk tM=>?_);have hl:acc.toList.length=ka.length:=by rw[Zr];exact tM.1
   have hI:IntsAre acc.toList ((ka.map λp=>(p.1,aq p.2)).map (·.1)):=by
    refine intsAre_of ((uq hl λi v e=>tM.2 i v (eD e)).trans (congrArg _ ?_));rw[Zt];rfl
   refine Zl (wpAny_newList ?_ (by rw[hl,Wx];exact(aj 0x1101000000801300406014110) _ hlen));have IS:(h'.push (seqObj "list" acc.toList.toArray 0)).get? h'.objs.size=some (seqObj "list" acc.toList.toArray 0):=ZU _ rfl;refine Zl (ZW (wpAny_call_entry slot_list_sort ⟨_,IS,rfl⟩ entry_list_sort (list_sort_tree IS hI (by rw[hl];exact hlen) λout TL a1 a2 a3=>⟨_,rfl,?_⟩) (args_list_sort _)));obtain rfl:=uu a2 a3;refine oe (sortedHeap_at (out:=out) IS) λe he=>?_;refine Zz ⟨_,rfl,eF (tk:=tk) R (λb p e=>?_) ?_ (o:=.list ((bE ((ka.map λp=>(p.1,aq p.2)).map (·.1))).map .int)) ⟨out,⟨e,he⟩,pi a1,hb⟩ q⟩
   . have e1:=hk b p e;have lt:=Yg e1;rw[sortedHeap_old (Xe lt) (by rw[size_push'];exact XV lt),Ub _ _ _ (Xe lt)];exact e1
   . cases q:s.heap.get? h'.objs.size with
     |none=>rfl
     |some p=>exact absurd (Yg (hk _ _ q)) (Ws _)
theorem wA(R:RH W H ow s.heap){a:Nat}{xs:List V}{Q:V->Hp->Prop}(ha:H a=some (.list xs))(q:∀c,H c=none->Q (.ref c) (bf H c (.list xs))):
 wpAny W.M A (call (.type "list") [.ref a]) (bQ W H ow s Q) E s:=by
 refine oeaa (R.obj a _ ha) λvs jX n_ hb=>?_;refine oe jX λn hp=>?_;try clear jX;subst n_
 have cF:=ib hb;exact call_list_seq a (.inl rfl) hp rfl rfl (λh' c' hk hc=>eF (tk:=s.toks) R hk (bU (Zs _)) (o:=.list (vs.toList.map aq)) ⟨vs,⟨c',hc⟩,rfl,hb⟩ q) (Zf cF dJ)
theorem wB(sm:W.base.get? sysModules≠none)(R:RH W H ow s.heap){a:Nat}{es:List (Int×V)}{Q:V->Hp->Prop}(ha:H a=some (.dict es))(q:∀c,H c=none->Q (.ref c) (bf H c (.dict es))):
 wpAny W.M A (call (.type "dict") [.ref a]) (bQ W H ow s Q) E s:=by
 refine oeaa (R.obj a _ ha) λka hd gy hb=>?_;subst gy;have cF:ka.length<=big:=by rw[Za] at hb;exact hb
 refine kt_call_dict (cN R (.inl ha) sm) hd (Zf cF dJ) λh' qC hs=>?_;refine eF (tk:=s.toks) R (λb p e=>?_) (bU (Zs _)) (o:=.dict (ka.map λp=>(p.1,aq p.2))) ⟨ka,qC,rfl,hb⟩ q;have:=Xe (Yg e);exact(hs.2 b this).trans (ZL _ e)
end
end
section
open PySem PySem.W PyProof.Rows PySem.Calls
structure dF.Nc(W:dF):Prop where
 ai:∀C a,W.cls C=some a->rE W.K a=true
 get:specialIn W.K (.builtin "object.__class__") "__get__"=some (some (.builtin "getset_descriptor.__get__"))
 Mo:takesIn W.K (.builtin "object.__class__")=some true
 tI:∀C a C' a',W.cls C=some a->W.cls C'=some a'->kitOne W.K (.ref a) (.ref a')=some (C==C')
 int:∀C a,W.cls C=some a->kitOne W.K (.type "int") (.ref a)=some false
 bool:∀C a,W.cls C=some a->kitOne W.K (.type "bool") (.ref a)=some false
 Pp:∀C a,W.cls C=some a->kitOne W.K (.ref a) (.type "bool")=some false
 GH:kitOne W.K (.type "int") (.type "bool")=some false
section
variable {W:dF}{A:Around}{E:Value->Shared->Prop}{s:Shared}{H:Hp}{ow:Nat->Option Nat}
theorem Lc{b:Nat}{t u:Tok}(R:RH W H ow s.heap){Q:V->Hp->Prop}(hb:b=9\/b=60)(q:Q (.int ((10:Int) ^ b)) H):wpAny W.M A (binaryOp .Pow (.int 10 t) (.int b u)) (bQ W H ow s Q) E s:=by
 rcases hb with rfl|rfl
 . exact Ul (by decide) (by decide) (by decide) (by decide) (by decide) (bF R q)
 . exact Ul (by decide) (by decide) (by decide) (by decide) (by decide) (bF R q)
theorem Lg{i:Int}{t:Tok}(R:RH W H ow s.heap){Q:V->Hp->Prop}(q:Q (.int (-i)) H):wpAny W.M A (unaryOp .USub (.int i t)) (bQ W H ow s Q) E s:=Vx (bF R q)
theorem Ag(G:W.Good)(R:RH W H ow s.heap):W.K.In s.heap:=λa o e=>R.keep _ _ (G.NM a o e)
theorem uo{K:Frag}{x D:Nat}{ox od:Obj}(h:rE K D=true)(hn:specialIn K (.builtin "object.__class__") "__get__"=some (some (.builtin "getset_descriptor.__get__")))(U6:takesIn K (.builtin "object.__class__")=some true):
 KitX K (.ref x) (.ref D) (λh=>PySem.W.InstAt h x ox D (some od)):=by
 refine oa (Zj.mp h) λh h4=>?_;refine oa (Zj.mp h) λh h3=>?_;refine oa (Zj.mp h) λh1 h2=>?_;exact kitx_own h1 h2 (beq_iff_eq.mp h3) hn U6 (beq_iff_eq.mp h4)
theorem BM(G:W.Good)(I:W.Nc)(R:RH W H ow s.heap){C:String}{c:Nat}(hc:W.cls C=some c){v:Value}{r:Rs}{Q:V->Hp->Prop}(u:UR (.cL C) (aq v) H r)(q:r.post H Q):wpAny W.M A (call (.builtin "isinstance") [v,.ref c]) (bQ W H ow s Q) E s:=by
 have X:=Ag G R;refine oea u λb bV h=>?_;try clear u;subst bV
 rcases h with ⟨i,e,rfl⟩|⟨b',e,rfl⟩|⟨B,⟨a,fs,e,h⟩,rfl⟩
 . refine oe (bK e) λt cw=>?_;subst cw;exact Uc kitx_int X trivial (I.int C c hc) (λz=>by cases z) λtk=>bF R q
 . obtain rfl:=eI e;exact Uc kitx_bool X trivial (I.bool C c hc) (λz=>by cases z) λtk=>bF R q
 . obtain rfl:=aO e;refine oeeeeaa (nV R h) λd dx es m hd hI _=>?_;exact Uc (uo (I.ai B d hd) I.get I.Mo) X hI (I.tI B d C c hd hc) (λz=>by cases z) λtk=>bF R q
theorem BN(G:W.Good)(I:W.Nc)(R:RH W H ow s.heap){v:Value}{r:Rs}{Q:V->Hp->Prop}(u:UR .isBool (aq v) H r)(q:r.post H Q):wpAny W.M A (call (.builtin "isinstance") [v,.type "bool"]) (bQ W H ow s Q) E s:=by
 have X:=Ag G R;refine oea u λb c8 h=>?_;try clear u;subst c8
 rcases h with ⟨i,e,rfl⟩|⟨b',e,rfl⟩|⟨B,⟨a,fs,e,h⟩,rfl⟩
 . refine oe (bK e) λt dW=>?_;subst dW;exact Uc kitx_int X trivial I.GH (λz=>by cases z) λtk=>bF R q
 . obtain rfl:=eI e;exact Uc kitx_bool X trivial (b:=true) (by unfold kitOne;rw[if_pos (by rfl)]) (λz=>by cases z) λtk=>bF R q
 . obtain rfl:=aO e;refine oeeeeaa (nV R h) λd dx es m hd hI _=>?_;exact Uc (uo (I.ai B d hd) I.get I.Mo) X hI (I.Pp B d hd) (λz=>by cases z) λtk=>bF R q
theorem yX(items:Array Value)(k:Nat):(slicePick items none (some (k:Int)) none).toList=items.toList.take k:=by
 rewrite [kmk_pick_nat items (a:=0) (b:=min k items.size) ?_]
 . simp only[UB,Nat.sub_zero];rw[<-Zr,kmk_take_min]
 . unfold sliceBounds;simp;rw[if_neg (Uy.mpr (Z9 k))];refine(Int.max_eq_right (Int.le_min.mpr ⟨Z9 _,Z9 _⟩)).trans ?_;exact(Nat.le_total k items.size).elim (λh=>by rw[Nat.min_eq_left h,Int.min_eq_left (WJ.mpr h)]) λh=>by rw[Nat.min_eq_right h,Int.min_eq_right (WJ.mpr h)]
theorem mV(R:RH W H ow s.heap){a:Nat}{vs:Array Value}{value slice:Expr}{vl vu vk:Value}{lo hi st:Option Int}{aN:List Value}{Q:V->Hp->Prop}(hl:s.heap.IsList a vs)(hb:vs.size<=big)
 (pl:IsPart vl lo) (pu:IsPart vu hi) (pk:IsPart vk st) (h0:st≠some 0) (hz:(slicePick vs lo hi st).size<=big) (q:∀c,H c=none->Q (.ref c) (bf H c (.list ((slicePick vs lo hi st).toList.map aq))))
 (hs:∀i,subscripted slice false (.ref a) i=operate (aN++[i]) (getItem (.ref a) i)\/subscripted slice false (.ref a) i=operate ([i]++aN) (getItem (.ref a) i)) (ht:∀r,letTemporaryGo value (.ref a) r=pure ()):
 wpAny W.M A (subscriptTail value slice (.ref a) (.ref s.heap.objs.size)) (bQ W H ow s Q) E {s with heap:=s.heap.push {cls:=.type "slice",data:=.fields #[vl,vu,vk]}}:=by
 have hk:∀b p,s.heap.get? b=some p->((s.heap.push {cls:=.type "slice",data:=.fields #[vl,vu,vk]}).push {cls:=.type "list",data:=.seq (slicePick vs lo hi st)}).get? b=some p:=
  λb p e=>ZL _ (ZL _ e)
 have fin:wpAny W.M A (getItem (.ref a) (.ref s.heap.objs.size)) (bQ W H ow s Q) E {s with heap:=s.heap.push {cls:=.type "slice",data:=.fields #[vl,vu,vk]}}:=by
  refine wpAny_getItem_list_slice (hl.push _) (Heap.IsSliceOf.new ..) pl pu pk h0 ?_ (Zf hb dJ);exact eF (tk:=s.toks) R hk (bU (by rw[Vy];exact Yj _)) (o:=.list ((slicePick vs lo hi st).toList.map aq)) ⟨_,⟨0,ZU _ rfl⟩,rfl,by simpa using hz⟩ q
 have hT:=Heap.IsList.typeIs (s:={s with heap:=s.heap.push {cls:=.type "slice",data:=.fields #[vl,vu,vk]}}) (hl.push _);rcases hs (.ref s.heap.objs.size) with h|h
 . exact subscriptTail_ops hT VH fin h ht
 . exact subscriptTail_ops hT VH fin h ht
end
end
section
open PySem PySem.W PyProof.Rows PySem.Calls
section
variable {prog:Program}{w:World}{A:Around}{E:Value->Shared->Prop}{s:Shared}
theorem DO(a:Addr){o:Obj}{xs:Array Value}{k:Nat}{Q:Option Value->Shared->Prop}(hx:s.heap.get? a=some o)(hc:o.cls= .type "list")(ij:o.data= .seq xs k)(hd:o.dict=none)(hA:A.handled=none)
 (h:∀h' tk,(∀b p,s.heap.get? b=some p->h'.get? b=some p)->Q none {s with heap:=h',toks:=tk}):
 wpAny (model prog w) A (getAttr? (.ref a) "keys") Q E s:=by
 obtain ⟨c,M7,dat,sl⟩:=o;simp only at hc ij hd;subst hc ij hd;obtain ⟨hp,g,d,tk,os⟩:=s;have hT:∀II,(⟨hp,g,d,II,os⟩:Shared).TypeIs (.ref a) "list":=λ_=>⟨_,hx,rfl⟩;have f1:=sub_AttributeError;have f3:=XN.lookup;have f4:=XN.bind (.ref a);have f5:=am_list_getattr_none;have LJ:typeLookup (.type "list") "keys"=pure none:=am_miss_of_fast (by decide+kernel);unfold getAttr? getAttrBy? getAttrBy
 repeat (any_goals (first|assumption|exact hT _|((with_reducible show wpAny _ _ (call (Value.builtin "list.__getattribute__") _ _) _ _ _);refine VW XN (hT _) am_entry_list_getattribute (F.args_list_getattribute_2 _ _) (meets_getattribute_miss_list a xs k sl "keys" _ LJ rfl) ⟨hx,hA,λh' II e CP=>?_⟩)|wp_step))
 refine oee CP.there λt' u' he=>?_;show wpAny _ _ (getattributeRaised _ _ _ _ _ _ _) _ _ _;unfold getattributeRaised
 repeat (any_goals (first|assumption|wp_step))
 all_goals exact h _ _ CP.of.keeps
theorem i9:entryFor table "dict.update.loop"=some Builtin.«dict.update.loop»:=by first|exact entryFor_of_tree (by kernel_rfl)|exact entryFor_of_fast (by kernel_rfl)
theorem ef:plainId "dict.update.loop"=true:=by decide+kernel
structure ju(K:PySem.KeyKind prog w Int)(h:Heap)(l:Nat)(items:Array Value)(ps:List (Int×Value)):Prop where
 list:h.IsList l items
 len:items.size=ps.length
 at':∀(i:Nat) (p:Int×Value),ps[i]?=some p->∃t key,items[i]?=some (Value.ref t)/\h.IsTuple t #[key,p.2]/\K.is p.1 key=true
theorem ju.keep{K:PySem.KeyKind prog w Int}{h h':Heap}{l:Nat}{items:Array Value}{ps:List (Int×Value)}(x:ju K h l items ps){X:Nat->Prop}(hX:∀b,X b->b≠l/\∀(i t:Nat),items[i]?=some (Value.ref t)->b≠t)
 (hk:∀b o,¬ X b->h.get? b=some o->h'.get? b=some o):ju K h' l items ps where
 list:=x.list.at λo=>hk _ o λq=>(hX _ q).1 rfl
 len:=x.len
 at':=λi p e=>by
  refine oeeaa (x.at' i p e) λt key e1 bV e4=>?_;refine oea bV λo e2 e3=>?_;try clear bV
  exact⟨t,key,e1,⟨o,hk _ _ (λq=>(hX _ q).2 i t e1 rfl) e2,e3⟩,e4⟩
theorem uP{ps:List (Int×Value)}(nd:(ps.map (·.1)).Nodup){i:Nat}{p:Int×Value}(e:ps[i]?=some p):stored (ps.take i) p.1 p.2=ps.take (i+1):=by
 have hi:=(ZM.mp e).1;have FC:¬ ((ps.take i).any λkv=>decide (kv.1=p.1))=true:=λz=>by
  refine oea (W4.mp z) λq hq z=>?_;have e2:ps=ps.take i++ps.drop i:=(YX i ps).symm;have hp:p∈ps.drop i:=Z3 (i:=0) (by rw[List.getElem?_drop,Nat.add_zero];exact e);rw[e2,Zq,ZI] at nd;exact nd.2.2 _ (ZF hq) _ (ZF hp) (of_decide_eq_true z)
 unfold stored;rw[if_neg FC,V3,e]
 rfl
theorem BD{K:PySem.KeyKind prog w Int}{D I l:Nat}{items:Array Value}{ps:List (Int×Value)}{res:Value}{h₀:Heap}(hA:A.handled=none)(nd:(ps.map (·.1)).Nodup)(pZ:ps.length<=sizeLine)
 (N9:D≠I) (N_:h₀.get? D=none) (IY:h₀.get? I=none) (Rk:h₀.get? l≠none) (MO:∀(i t:Nat),items[i]?=some (Value.ref t)->h₀.get? t≠none) {R:Result->Shared->Prop}
 (hR:∀h' tk,h'.DictOf K D ps->(∀b o,h₀.get? b=some o->h'.get? b=some o)->R (.ok (.ret res)) {s with heap:=h',toks:=tk}):
 ∀(k i:Nat) (h:Heap) (tk:Nat) (tq:Tok),ps.length - i=k->i<=ps.length->h.DictOf K D (ps.take i)->h.IsListIter I l i->ju K h l items ps->(∀b o,h₀.get? b=some o->h.get? b=some o)->
  wpAny (model prog w) A.in1 (Builtin.«dict.update.loop» ⟨[.ref D,.ref I,.int i tq,res],[]⟩) (λfin s'=>match fin with| .done f=>R (.ok f) s'| .again c'=>c'.quiet=true/\codeAny (model prog w) A c' R s') (λe s'=>R (.error e) s') {s with heap:=h,toks:=tk}:=by
 have hX:∀b,(b=D\/b=I)->b≠l/\∀(i t:Nat),items[i]?=some (Value.ref t)->b≠t:=by
  rintro b (rfl|rfl)
  . exact⟨λe=>Rk (e▸N_),λi t e q=>MO i t e (q▸N_)⟩
  . exact⟨λe=>Rk (e▸IY),λi t e q=>MO i t e (q▸IY)⟩
 intro k
 induction k with
 |zero=>
  intro i h tk tq hk hi hd hit hp AK;have FH:i=ps.length:=YO hi (Nat.le_of_sub_eq_zero hk);subst FH;unfold Builtin.«dict.update.loop»;refine Zl (Wj hA hit hp.list (by rw[Xx,hp.len];exact Zs _) λh' he=>?_);refine Zl (Zz (Zz ?_));rw[Xz] at hd;exact hR h' tk (hd.extBut he N9) λb o e=>he b o (λq=>by subst q;rw[IY] at e;cases e) (AK b o e)
 |succ k ih=>
  intro i h tk tq hk hi hd hit hp AK;have lG:i<ps.length:=Nat.lt_of_sub_eq_succ hk;refine oeeaa (hp.at' i ps[i] (Zv lG)) λt key e1 e2 e3=>?_;unfold Builtin.«dict.update.loop»;refine Zl (Wc hit hp.list e1 λh' PU Jq=>?_);have kF:=hp.keep (h':=h') (X:=λb=>b=D\/b=I) hX λb o nb e=>(Jq.2 b (λq=>nb (.inr q))).trans e;have qC:=hd.sameBut Jq N9;clear e2 e3;refine oeeaa (kF.at' i ps[i] (Zv lG)) λt' Kc RV e2 e3=>?_;rw[e1] at RV
  cases RV
  refine oeaae (id e2) λot Rg hct nt hdt=>?_;refine Zl (ZW ?_);refine Zl (wpAny_tryCatch ?_);unfold Builtin.Dict.pairItems;refine Zl (wpAny_typeOf (T:="tuple") ⟨ot,Rg,hct⟩ ?_);rw[if_pos (by rfl)];refine Zl (wpAny_seqItems Rg hdt (Zz ?_));show wpAny _ _ (holding [Kc,ps[i].2] (dictSet D Kc ps[i].2)) _ _ _;refine ZW (wpAny_dictSet_pairs e3 qC (λh2 vH Jp=>?_) (by rw[Uh];omega));rw[uP nd (Zv lG)] at vH;refine Zz ⟨plainId_quiet ef _,Vl i9 ?_⟩;rw[Wz ef _];have GI:Heap.SameBut D h' h2:=Jp;exact ih (i+1) h2 _ _ (congrArg Nat.pred hk) lG vH (PU.extBut GI.extBut (Yo N9)) (kF.keep (X:=λb=>b=D\/b=I) hX λb o nb e=>(GI.2 b (λq=>nb (.inl q))).trans e)
   λb o e=>(GI.2 b (λq=>by subst q;rw[N_] at e;cases e)).trans ((Jq.2 b (λq=>by subst q;rw[IY] at e;cases e)).trans (AK b o e))
theorem nO{K:PySem.KeyKind prog w Int}{l:Nat}{items:Array Value}{n:Nat}{ps:List (Int×Value)}{Q:Value->Shared->Prop}(hA:A.handled=none)(nd:(ps.map (·.1)).Nodup)(pZ:ps.length<=sizeLine)
 (hl:s.heap.get? l=some {cls:=.type "list",data:=.seq items n}) (hp:ju K s.heap l items ps) (MO:∀(i t:Nat),items[i]?=some (Value.ref t)->s.heap.get? t≠none)
 (hQ:∀h' tk,h'.DictOf K s.heap.objs.size ps->(∀b o,s.heap.get? b=some o->h'.get? b=some o)->Q (.ref s.heap.objs.size) {s with heap:=h',toks:=tk}):
 wpAny (model prog w) A (call (.type "dict") [.ref l]) Q E s:=by
 refine callType_codes (Q₁:=λobj s₁=>obj= .ref s.heap.objs.size/\s₁={s with heap:=s.heap.push {cls:=.type "dict",data:=.dict #[]}}) F.kt_called_dict (F.kt_typeCall_dict_1 _) F.entry_dict_init (kt_code_dict_new _ ⟨rfl,rfl⟩) ?_;intro obj s₁ z_;refine oa z_ λnP wY=>?_;subst nP;subst wY;have An:(s.heap.push {cls:=.type "dict",data:=.dict #[]}).DictOf K s.heap.objs.size []:=Ur s.heap;have JA:∀b o,s.heap.get? b=some o->(s.heap.push {cls:=.type "dict",data:=.dict #[]}).get? b=some o:=λb o e=>ZL _ e;have IU:=JA _ _ hl;refine⟨An.typeIs,F.args_dict_init_2 _ _,?_⟩;unfold Builtin.«dict.__init__»;refine Zl ?_;unfold Builtin.Dict.selfAndRest;refine Zl (wpAny_notOrdered_dict An.typeIs ?_);show wpAny _ _ (pure (s.heap.objs.size,[Value.ref l])) _ _ _;refine Zz ?_;show wpAny _ _ (Builtin.Dict.updateFrom "dict.__init__" s.heap.objs.size (.ref l) [] .none) _ _ _;unfold Builtin.Dict.updateFrom;refine Zl (wpAny_typeOf (T:="list") ⟨_,IU,rfl⟩ ?_);rw[if_pos (by decide)];refine Zl (DO l IU rfl rfl rfl (by exact hA) λh2 IH MT=>?_);rw[if_pos (by rfl)];refine Zl (wpAny_rule ?_);have nR:ju K h2 l items ps:=hp.keep (X:=λ_=>False) (λ_ x=>x.elim) λb o _ e=>MT b o (JA b o e);refine Zl (WU nR.list ?_);refine Zz ⟨plainId_quiet ef _,Vl i9 ?_⟩;rw[Wz ef _];have Kh:s.heap.objs.size<h2.objs.size:=by
  refine oeeea An λo es ep e _=>?_;try clear An
  exact Yg (MT _ _ e)
 have JG:h2.DictOf K s.heap.objs.size []:=An.keep MT;have hdI:s.heap.objs.size≠h2.objs.size:=Xe Kh;have IY:s.heap.get? h2.objs.size=none:=bU (ZH Kh);refine BD (A:=A.in1) (s:=s) (K:=K) (D:=s.heap.objs.size) (I:=h2.objs.size) (l:=l) (items:=items) (ps:=ps) (h₀:=s.heap) (by exact hA) nd pZ hdI (bU (Zs _)) IY (by rw[hl];exact λq=>by cases q) MO ?_
  (ps.length - 0) 0 _ _ _ rfl (ZR _) (by rw[WO];exact JG.push _) ⟨_,ZU _ rfl,rfl,rfl⟩ (nR.keep (X:=λ_=>False) (λ_ x=>x.elim) λb o _ e=>ZL _ e)
  λb o e=>ZL _ (MT _ _ (JA _ _ e))
 intro h' tk hd hk;exact⟨rfl,hQ h' tk hd hk⟩
end
section
variable {W:dF}{A:Around}{E:Value->Shared->Prop}{s:Shared}{H:Hp}{ow:Nat->Option Nat}
theorem nz{α:Type}{P:Nat->α->Prop}:∀n:Nat,(∀i,i<n->∃v,P i v)->∃L:List α,L.length=n/\∀i v,L[i]?=some v->P i v
 |0,_=>⟨[],rfl,λi v e=>by cases e⟩
 |n+1,h=>by
  refine oea (nz n λi hi=>h i (XV hi)) λL h1 h2=>?_;refine oe (h n (YF n)) λv hv=>?_;refine⟨L++[v],by rw[Zb,h1];rfl,λi u e=>?_⟩;rcases V6 i L.length with hi|hi
  . rw[Yt hi] at e;exact h2 i u e
  . have lG:=(ZM.mp e).1;rw[Zb,Ye] at lG;obtain rfl:i=L.length:=YO (XY lG) hi;rw[WM] at e
    cases e
    exact h1▸hv
theorem BQ(hA:A.handled=none)(R:RH W H ow s.heap){a:Nat}{xs:List V}{ps:List (Int×V)}{Q:V->Hp->Prop}(ha:H a=some (.list xs))(hl:xs.length=ps.length)(nd:(ps.map (·.1)).Nodup)
 (hp:∀(i:Nat) (p:Int×V) (x:V),ps[i]?=some p->xs[i]?=some x->∃t,x= .ref t/\H t=some (.tup [.int p.1,p.2])) (q:∀c,H c=none->Q (.ref c) (bf H c (.dict ps))):
 wpAny W.M A (call (.type "dict") [.ref a]) (bQ W H ow s Q) E s:=by
 refine oeaa (R.obj a _ ha) λvs cw c8 hb=>?_;refine oe cw λn hv=>?_;try clear cw;subst c8
 have FD:vs.size=ps.length:=by rw[Za,Zr] at hl;exact hl
 have key:∀i,i<ps.length->∃(z:Int×Value),∃(t:Nat) (u:Tok),ps[i]?=some (z.1,aq z.2)/\vs[i]?=some (.ref t)/\s.heap.IsTuple t #[.int z.1 u,z.2]:=by
  intro i hi;have hx:(vs.toList.map aq)[i]?=some (aq (vs[i]'(by exact(aj 0x1101012141121411015230) _ _ _ FD hi))):=kR (by exact(aj 0x1101012141121411015230) _ _ _ FD hi);refine oea (hp i ps[i] _ (Zv hi) hx) λt h1 h2=>?_;refine oeaa (R.obj t _ h2) λus hT hu _=>?_;refine oeeaa (Xw.mp hu) λk l NX e1 e2=>?_;refine oea (iE e2) λv dW e3=>?_;subst dW;obtain rfl:us= #[k,v]:=Array.ext' NX;refine oe (bK e1) λu gW=>?_;subst gW;refine⟨(_,v),t,u,(Zv hi).trans (congrArg some ?_),?_,hT⟩
  . rw[e3]
  . rw[YY (by exact(aj 0x1101012141121411015230) _ _ _ FD hi),aO h1]
 refine oea (nz ps.length key) λqs hL hP=>?_;have hq:qs.map (λp=>(p.1,aq p.2))=ps:=by
  refine XZ λi=>?_;rw[ZP]
  cases e:qs[i]? with
  |none=>rw[Yw (hL▸YD.mp e)];rfl
  |some z=>refine oeea (hP i z e) λt u h1 _=>?_;rw[h1];rfl
 have V_:qs.map (·.1)=ps.map (·.1):=by rw[<-hq,Zt];rfl
 refine nO (K:=W.kd) (ps:=qs) hA (by rw[V_];exact nd) (by rw[hL,<-FD];exact Zf (ib hb) dJ) hv ⟨⟨_,hv,rfl,n,rfl⟩,by rw[hL,FD],λi p e=>?_⟩ (λi t e=>?_) λh' tk hd hk=>?_
 . refine oeeaa (hP i p e) λt u h1 h2 h3=>?_;exact⟨t,_,h2,h3,lR _ _⟩
 . have hi:i<qs.length:=by rw[hL,<-FD];exact(Array.getElem?_eq_some_iff.mp e).1
   refine oeeaa (hP i _ (Zv hi)) λt' u h1 h2 gE=>?_;refine oea gE λo h3 _=>?_;try clear gE
   rw[e] at h2;cases h2
   rw[h3];exact λz=>by cases z
 . exact eF (tk:=tk) R hk (bU (Zs _)) (o:=.dict ps) ⟨qs,hd,hq,by rw[<-FD];exact ib hb⟩ q
end
end
section
open PySem PySem.W PyProof.Rows PySem.Calls
noncomputable def By(h:Heap)(v:Value):List V->Prop
 |[x]=>aq v=x
 |[x,y]=>∃T vals,v= .ref T/\h.IsTuple T vals/\vals.toList.map aq=[x,y]
 |_=>False
noncomputable def Src.rd(aK:Src)(b:Nat):Prop:=∃es,aK= .keys b es
structure dj(W:dF)(A:Around)(tg:Expr)(I:Nat)(wr:Nat->Prop)(aK:Src)(St:Nat->Heap->Prop):Prop where
 frame:∀i h h',St i h->(∀b o,wr b\/aK.rd b->h.get? b=some o->h'.get? b=some o)->St i h'
 live:∀i h,St i h->∀b,wr b->h.get? b≠none
 item:∀(i:Nat) (s:Shared) (H:Hp) (ow:Nat->Option Nat) (item:List V) (Q:Value->Shared->Prop) (E:Value->Shared->Prop),aK.items[i]?=some item->St i s.heap->RH W H ow s.heap->aK.stays H->(∀b,wr b->¬ er H ow b)->
  (∀v h' tk,St (i+1) h'->By h' v item->(∀b o,¬ wr b->s.heap.get? b=some o->h'.get? b=some o)->Q v {s with heap:=h',toks:=tk})->
  wpAny W.M A (pyNext (.ref I)) (λr s₁=>∃v,r=some v/\wpAny W.M A (letOwnedTupleGo tg (.ref I) v) (λ_ s₂=>Q v s₂) E s₁) E s
 done:∀(s:Shared) (H:Hp) (ow:Nat->Option Nat) (Q:Shared->Prop) (E:Value->Shared->Prop),St aK.items.length s.heap->RH W H ow s.heap->aK.stays H->(∀b,wr b->¬ er H ow b)->
  (∀h' tk,(∀b o,¬ wr b->s.heap.get? b=some o->h'.get? b=some o)->Q {s with heap:=h',toks:=tk})->
  wpAny W.M A (pyNext (.ref I)) (λr s₁=>r=none/\Q s₁) E s
 self:∀i (s:Shared) (Q:Value->Shared->Prop) (E:Value->Shared->Prop),St i s.heap->Q (.ref I) s->wpAny W.M A (pyIter (.ref I)) Q E s
set_option tactic.hygienic true in
theorem ei{M:Model}{A:Around}{E:Value->Shared->Prop}{s:Shared}{tg:Expr}{r:Nat}{v:Value}{Q:Unit->Shared->Prop}{o:Obj}(hr:s.heap.get? r=some o)
 (hc:∀n,o.cls= .type n->["enumerate","zip","dict_itemiterator","dict_reverseitemiterator","odict_iterator","itertools.zip_longest","itertools.pairwise"].contains n=false) (q:Q () s):
 wpAny M A (letOwnedTupleGo tg (.ref r) v) Q E s:=by
 unfold letOwnedTupleGo;have key:wpAny M A (do
  let (.ref r,.ref a):=(Value.ref r,v)|return
  let o<-load r
  match o.cls,o.data with
  | .type n,.fields vs=>
   if ["enumerate","zip","dict_itemiterator","dict_reverseitemiterator","odict_iterator","itertools.zip_longest","itertools.pairwise"].contains n&&vs[0]?==some (rawInt a) then
    rule "for.unpacks-the-owned-tuple"
    updateField r 0 .none
  |_,_=>pure ()) Q E s:=by
  cases v with
  |ref a=>
   refine Zl (wpAny_load hr ?_);split
   . rename_i n vs e1 e2;rw[hc n e1,UA,if_neg Yd];exact Zz q
   . exact Zz q
  |_=>exact Zz q
 cases tg<;>first|exact key|exact Zz q
theorem pE{a:Nat}{xs:List V}:(Src.list a xs).items.length=xs.length:=Za _
theorem qT{a:Nat}{xs:List V}:(Src.tup a xs).items.length=xs.length:=Za _
theorem pF{a:Nat}{es:List (Int×V)}:(Src.keys a es).items.length=es.length:=Za _
theorem nh{n:Nat}:(Src.range n).items.length=n:=(Za _).trans Z2
theorem pG{a:Nat}{xs:List V}:(Src.enum a xs).items.length=xs.length:=(Za _).trans VR
theorem d_{α β:Type}{xs:List α}{i:Nat}{f:α->β}{y:β}(e:(xs.map f)[i]?=some y):∃x,xs[i]?=some x/\f x=y:=by
 rw[ZP] at e;exact Z5.mp e
section
variable {W:dF}{A:Around}{tg:Expr}
theorem dj.list(hh:A.handled=none)(I a:Nat)(xs:List V):dj W A tg I (· =I) (.list a xs) (λi h=>h.IsListIter I a i) where
 frame:=λi h h' st k=>st.at λo e=>k I o (.inl rfl) e
 live:=λi h lI b q=>oea lI λo e _=>by rw[q,e];exact λz=>by cases z
 item:=λi s H ow item Q E hx st R cJ off q=>by
  refine oeaa (R.obj a _ cJ) λvs hp bV hb=>?_;subst bV;refine oea (d_ hx) λx C_ cw=>?_;subst cw;refine oea (d_ C_) λv hv c8=>?_;subst c8;refine Wc st hp.isList (x:=v) (eD hv) λh' bH hs=>⟨v,rfl,?_⟩;refine oeaa (id bH) λo ho hc _=>?_;exact ei (s:={s with heap:=h'}) ho (λn e=>by rw[hc] at e;cases e;decide) (q v h' s.toks bH rfl λb o nb e=>(hs.2 b nb).trans e)
 done:=λs H ow Q E st R cJ off q=>by
  refine oeaa (R.obj a _ cJ) λvs hp dW hb=>?_;subst dW;rw[pE,Za,Zr] at st;exact Wj hh st hp.isList (Xp (Zs _)) λh' he=>⟨rfl,q h' s.toks λb o nb e=>he b o nb e⟩
 self:=λi s Q E st q=>wpAny_pyIter_listiter st q
theorem dj.tup(hh:A.handled=none)(I a:Nat)(xs:List V):dj W A tg I (· =I) (.tup a xs) (λi h=>h.IsTupleIter I a i) where
 frame:=λi h h' lH k=>oea lH λo e r=>⟨o,k I o (.inl rfl) e,r⟩
 live:=λi h rc b q=>oea rc λo e _=>by rw[q,e];exact λz=>by cases z
 item:=λi s H ow item Q E hx st R cJ off q=>by
  refine oeaa (R.obj a _ cJ) λvs hp gW hb=>?_;subst gW;refine oea (d_ hx) λx C_ gE=>?_;subst gE;refine oea (d_ C_) λv hv kE=>?_;subst kE;refine wpAny_pyNext_tuple_item st hp (x:=v) (eD hv) λh' bH hs=>⟨v,rfl,?_⟩;refine oeaa (id bH) λo ho hc _=>?_;exact ei (s:={s with heap:=h'}) ho (λn e=>by rw[hc] at e;cases e;decide) (q v h' s.toks bH rfl λb o nb e=>(hs.2 b nb).trans e)
 done:=λs H ow Q E st R cJ off q=>by
  refine oeaa (R.obj a _ cJ) λvs hp jX hb=>?_;subst jX;rw[qT,Za,Zr] at st;exact wpAny_pyNext_tuple_end hh st hp (Xp (Zs _)) λh' he=>⟨rfl,q h' s.toks λb o nb e=>he b o nb e⟩
 self:=λi s Q E st q=>wpAny_pyIter_tupleiter st q
theorem dj.keys(hh:A.handled=none)(I d:Nat)(vF:d≠I)(kvs:List (Int×Value))(ep:Nat):
 dj W A tg I (· =I) (.keys d (kvs.map λp=>(p.1,aq p.2))) (λi h=>h.IsKeyIter I d i kvs.length ep/\h.DictAt W.kd d kvs ep) where
 frame:=λi h h' st k=>⟨st.1.at λo e=>k I o (.inl rfl) e,st.2.at' λo e=>k d o (.inr ⟨_,rfl⟩) e⟩
 live:=λi h ⟨⟨o,e,_⟩,_⟩ b q=>by rw[q,e];exact λz=>by cases z
 item:=λi s H ow item Q E hx st R cJ off q=>by
  refine oea (d_ hx) λp C_ n_=>?_;subst n_;refine oea (d_ C_) λgy hv jZ=>?_;obtain ⟨k,x⟩:=gy;subst jZ;refine wpAny_pyNext_dict_item st.1 st.2 hv λkey h' hk bH hs=>⟨key,rfl,?_⟩;refine oeaa (id bH) λo ho hc _=>?_;refine ei (s:={s with heap:=h'}) ho (λn e=>by rw[hc] at e;cases e;decide) (q key h' s.toks ⟨bH,st.2.extBut hs.extBut vF⟩ ?_ λb o nb e=>(hs.2 b nb).trans e);show aq key= .int k;have JB:key.isInt k=true:=hk
  cases key with
  |int i t=>exact congrArg V.int (beq_iff_eq.mp JB)
  |_=>cases JB
 done:=λs H ow Q E st R cJ off q=>by
  rw[pF,Za] at st;exact wpAny_pyNext_dict_end hh st.1 st.2 (Yw (Zs _)) λh' he=>⟨rfl,q h' s.toks λb o nb e=>he b o nb e⟩
 self:=λi s Q E st q=>wpAny_pyIter_keyiter st.1 q
theorem dj.range(hh:A.handled=none)(I n:Nat):dj W A tg I (· =I) (.range n) (λi h=>IsRangeIter h I i ((n:Int) - i) 1) where
 frame:=λi h h' st k=>k I _ (.inl rfl) st
 live:=λi h e b q=>by rw[q,e];exact λz=>by cases z
 item:=λi s H ow item Q E hx st R cJ off q=>by
  refine oea (d_ hx) λj hj qg=>?_;subst qg;obtain ⟨hi,hj⟩:=ZM.mp hj;rw[Z2] at hi;rw[VM] at hj;subst hj;refine wpAny_pyNext_range_item st (by exact(aj 0x11015115300111014120) _ _ hi) λh' bH hs=>⟨_,rfl,?_⟩;have Fq:IsRangeIter h' I ((i+1:Nat):Int) ((n:Int) - ((i+1:Nat):Int)) 1:=by
   have e1:((i+1:Nat):Int)=(i:Int)+1:=by exact ZA ((aj 0x11001521001250010) _) ((aj 0x11001251001520010) _)
   have e2:(n:Int) - ((i+1:Nat):Int)=(n:Int) - i - 1:=by exact ZA ((aj 0x1101150153310112501530020) _ _) ((aj 0x1101125015310115015330020) _ _)
   rw[e1] at e2 ⊢;rw[e2];exact bH
  exact ei (s:={s with heap:=h',toks:=s.toks+1}) bH (λn e=>by cases e;decide) (q _ h' (s.toks+1) Fq rfl λb o nb e=>(hs.2 b nb).trans e)
 done:=λs H ow Q E st R cJ off q=>by
  rw[nh] at st;exact wpAny_pyNext_range_end hh st (by exact(aj 0x10001501530010) _) λh' he=>⟨rfl,q h' s.toks λb o nb e=>he b o nb e⟩
 self:=λi s Q E st q=>wpAny_pyIter_rangeiter st q
theorem dj.enum{elts:List Expr}{k:Nat}{pos:Pos}(hh:A.handled=none)(e it a:Nat)(Rr:e≠it)(xs:List V):
 dj W A (.Tuple elts k pos) e (λb=>b=e\/b=it) (.enum a xs) (λi h=>(∃old,IsEnum h e it i old)/\h.IsListIter it a i) where
 frame:=λi h h' ⟨⟨old,he⟩,st⟩ k=>⟨⟨old,k e _ (.inl (.inl rfl)) he⟩,st.at λo x=>k it o (.inl (.inr rfl)) x⟩
 live:=λi h ⟨⟨old,he⟩,⟨o,x,_⟩⟩ b q=>by
  rcases q with rfl|rfl
  . rw[he];exact λz=>by cases z
  . rw[x];exact λz=>by cases z
 item:=λi s H ow item Q E hx st R cJ off q=>by
  refine oa st λtG hit=>?_;try clear st;refine oe tG λold he=>?_;try clear tG
  refine oeaa (R.obj a _ cJ) λvs hp tF hb=>?_;subst tF;have QH:er H ow a:=eZ cJ;have hae:a≠e:=λz=>off e (.inl rfl) (z▸QH);have hai:a≠it:=λz=>off it (.inr rfl) (z▸QH);refine oea (d_ hx) λp IR tE=>?_;subst tE;obtain ⟨v,hv,rfl⟩:∃v,vs[i]?=some v/\p=(aq v,i):=by
   rw[Vr] at IR;refine oea (Z5.mp IR) λx C_ vR=>?_;subst vR;refine oea (dh rfl C_) λv hv tD=>?_;subst tD;exact⟨v,eD hv,congrArg (Prod.mk _) (Xy i)⟩
  refine wpAny_pyNext_enum_item he hit hp.isList hv Rr λh₁ heo oF AI SF LK=>⟨_,rfl,?_⟩;have heH:e<s.heap.objs.size:=Yg he;refine wpAny_letOwnedTupleGo_enum (s:={s with heap:=h₁,toks:=s.toks+1}) heo λh₂ AM fg=>?_;replace fg:Heap.SameBut e h₁ h₂:=fg;have LH:h₂.IsTuple s.heap.objs.size #[.int i s.toks,v]:=⟨_,(fg.2 _ (Ud heH)).trans AI,rfl,_,rfl⟩;refine q _ h₂ (s.toks+1) ⟨⟨v,AM⟩,oF.extBut fg.extBut (Yo Rr)⟩ ⟨_,_,rfl,LH,rfl⟩ λb o nb x=>?_;exact(fg.2 b λz=>nb (.inl z)).trans (LK b o (λz=>nb (.inl z)) (λz=>nb (.inr z)) x)
 done:=λs H ow Q E st R cJ off q=>by
  refine oa st λri hit=>?_;try clear st;refine oe ri λold he=>?_;try clear ri
  refine oeaa (R.obj a _ cJ) λvs hp vQ hb=>?_;subst vQ;have hl:(Src.enum a (vs.toList.map aq)).items.length=vs.size:=pG.trans ((Za _).trans Zr);rw[hl] at he hit;exact wpAny_pyNext_enum_end hh he hit hp.isList (Xp (Zs _)) λh' hx=>⟨rfl,q h' s.toks λb o nb x=>hx b o (λz=>nb (.inr z)) x⟩
 self:=λi s Q E ⟨⟨old,he⟩,_⟩ q=>wpAny_pyIter_enum he q
theorem dj.zip{elts:List Expr}{k:Nat}{pos:Pos}(hh:A.handled=none)(z TI TO i1 i2 l1 l2:Nat)(D:ZipApart z TI TO i1 i2 l1 l2)(xs ys:List V):
 dj W A (.Tuple elts k pos) z (λb=>b=z\/b=TI\/b=TO\/b=i1\/b=i2) (.zip l1 l2 xs ys)
  (λi h=>IsZip h z TI TO .none/\IsPair h TI (.ref i1) (.ref i2)/\(∃a b,IsPair h TO a b)/\h.IsListIter i1 l1 i/\h.IsListIter i2 l2 i) where
 frame:=λi h h' ⟨hz,CU,⟨a,b,Dc⟩,h1,h2⟩ k=>⟨k z _ (.inl (.inl rfl)) hz,k TI _ (.inl (.inr (.inl rfl))) CU,⟨a,b,k TO _ (.inl (.inr (.inr (.inl rfl)))) Dc⟩,
  h1.at λo e=>k i1 o (.inl (.inr (.inr (.inr (.inl rfl))))) e,h2.at λo e=>k i2 o (.inl (.inr (.inr (.inr (.inr rfl))))) e⟩
 live:=λi h ⟨hz,CU,⟨a,b,Dc⟩,⟨o1,h1,_⟩,⟨o2,h2,_⟩⟩ b q=>by
  rcases q with rfl|rfl|rfl|rfl|rfl
  . rw[hz];exact λz=>by cases z
  . rw[CU];exact λz=>by cases z
  . rw[Dc];exact λz=>by cases z
  . rw[h1];exact λz=>by cases z
  . rw[h2];exact λz=>by cases z
 item:=λi s H ow item Q E hx st R cJ off q=>by
  refine oaaaa st λhz CU tC h1 h2=>?_;try clear st;refine oee tC λa b Dc=>?_;try clear tC
  refine oeaa (R.obj l1 _ cJ.1) λvs hp tB hb=>?_;subst tB;refine oeaa (R.obj l2 _ cJ.2) λws nR tz qe=>?_;subst tz;refine oea (d_ hx) λp IR vP=>?_;subst vP;rw[List.getElem?_zip_eq_some] at IR;refine oea (dh rfl IR.1) λv hv U3=>?_;refine oea (dh rfl IR.2) λw hw ML=>?_;refine wpAny_pyNext_zip_item D hz CU Dc h1 h2 hp.isList nR.isList (x:=v) (y:=w) (eD hv) (eD hw) λh₁ a1 a2 a3 a4 a5 a6 hk=>⟨_,rfl,?_⟩;have lt:∀{c o},s.heap.get? c=some o->s.heap.objs.size≠c:=λe=>Ud (Yg e);refine wpAny_letOwnedTupleGo_zip (s:={s with heap:=h₁}) a1 λh₂ LG fg=>?_;replace fg:Heap.SameBut z h₁ h₂:=fg;have PW:=hk _ _ D.TIz D.TITO D.TIi1 D.TIi2 CU;have hT:h₂.IsTuple s.heap.objs.size #[v,w]:=⟨_,(fg.2 _ (lt hz)).trans a5,rfl,_,rfl⟩;refine q _ h₂ s.toks ⟨LG,(fg.2 _ D.TIz).trans PW,⟨_,_,(fg.2 _ D.TOz).trans a2⟩,a3.extBut fg.extBut D.i1z,a4.extBut fg.extBut D.i2z⟩ ⟨_,_,rfl,hT,by rw[<-U3,<-ML];rfl⟩ λb o nb x=>?_;simp only[not_or] at nb;exact(fg.2 b nb.1).trans (hk b o nb.1 nb.2.2.1 nb.2.2.2.1 nb.2.2.2.2 x)
 done:=λs H ow Q E st R cJ off q=>by
  refine oaaaa st λhz CU yz h1 h2=>?_;try clear st;refine oee yz λa b Dc=>?_;try clear yz
  refine oeaa (R.obj l1 _ cJ.1) λvs hp Ai hb=>?_;subst Ai;refine oeaa (R.obj l2 _ cJ.2) λws nR Ah qe=>?_;subst Ah;have hl:(Src.zip l1 l2 (vs.toList.map aq) (ws.toList.map aq)).items.length=min vs.size ws.size:=(Za _).trans (Uu.trans (by rw[Za,Za,Zr,Zr]));rw[hl] at h1 h2;refine wpAny_pyNext_zip_end hh D hz CU Dc h1 h2 hp.isList nR.isList ?_ λh' hx=>⟨rfl,q h' s.toks λb o nb x=>?_⟩
  . rw[Xx,Xx];exact(Nat.le_total _ _).imp (λh=>Nat.le_min.mpr ⟨Zs _,h⟩) λh=>Nat.le_min.mpr ⟨h,Zs _⟩
  . simp only[not_or] at nb;exact hx b o nb.1 nb.2.2.1 nb.2.2.2.1 nb.2.2.2.2 x
 self:=λi s Q E xY q=>oa xY λhz _=>wpAny_pyIter_zip hz q
end
end
section
open PySem PySem.W PyProof.Rows PySem.Calls
section
variable {prog:Program}{w:World}{A:Around}{E:Value->Shared->Prop}{s:Shared}
theorem qZ{it t:Addr}{items:Array Value}(vF:t≠it):∀(n i:Nat) (s:Shared) (Q:List Value->Shared->Prop),s.heap.IsListIter it t i->s.heap.IsList t items->i+n<=items.size->
 (∀h',h'.IsListIter it t (i+n)->Heap.SameBut it s.heap h'->Q ((items.toList.drop i).take n) {s with heap:=h'})->wpAny (model prog w) A (draw (.ref it) n) Q E s
 |0,i,s,Q,hit,_,_,hQ=>by
  show wpAny _ _ (pure []) Q E s;exact Zz (hQ s.heap hit (WV ..))
 |n+1,i,s,Q,hit,ht,hle,hQ=>by
  have lG:i<items.size:=by exact(aj 0x112101421101120123130) _ _ _ hle
  show wpAny _ _ (pyNext (.ref it) >>= _) Q E s;refine Zl (Wc hit ht (x:=items[i]) (YY lG) λh₁ oF tW=>?_);refine Zl (ZW (qZ vF n (i+1) _ _ oF (ht.extBut tW.extBut vF) (by exact(aj 0x112111100122321101120123130) _ _ _ hle) λh₂ HQ fg=>Zz ?_));have hd:items.toList.drop i=items[i]::items.toList.drop (i+1):=List.drop_eq_getElem_cons (by rw[Zr];exact lG);have:=hQ h₂ (by rw[show i+(n+1)=i+1+n by exact YO ((aj 0x111100122101120123020) _ _) ((aj 0x110112012111001223020) _ _)];exact HQ) (tW.trans fg);rw[hd,List.take_succ_cons] at this;exact this
theorem gS{t:Addr}{items:Array Value}{Q:List Value->Shared->Prop}(hh:A.handled=none)(ht:s.heap.IsList t items)
 (hQ:∀h',Heap.ExtBut s.heap.objs.size s.heap h'->Q items.toList {s with heap:=h'}):wpAny (model prog w) A (unpackItems (.ref t) items.size none) Q E s:=by
 have lG:t≠s.heap.objs.size:=by refine oea ht λo ho _=>?_;try clear ht;exact Xe (Yg ho)
 unfold unpackItems;refine Zl ?_
 . unfold notIterableAtAll;refine Zl (wpAny_specialOf ht.typeIs slot_list_iter.lookup ?_);refine Zz ?_;simp only[Xo,if_false];refine Zl (ZW (WU ht ?_));refine Zl (ZW (qZ lG items.size 0 _ _ ⟨_,ZU _ rfl,rfl,rfl⟩ (ht.push _) (by exact(aj 0x101010023010) _) λh₁ oF tW=>?_));have Dp:List.take items.size (List.drop 0 items.toList)=items.toList:=by
    rw[UB];exact Vc (YI Zr)
   rw[Dp];rw[if_neg (by rw[Zr];exact Ws _)];have AI:h₁.IsList t items:=(ht.push _).extBut tW.extBut lG;refine Zl (ZW (Wj hh oF AI (Xp (by rw[Xy];exact Zs _)) λh₂ AM=>?_));simp only[Option.isSome_none,Xo,if_false];refine Zz (hQ h₂ λb o hb e=>AM b o hb (tW.extBut b o hb (ZL _ e)))
end
noncomputable def cB(sc:Scope)(n:String):Bool:=sc.names.lookup (Str.ofString n)==some .local||sc.names.lookup (Str.ofString n)==some .cell
noncomputable def Ac(sc:Scope):List String->List Expr->Prop
 |[],es=>es=[]
 |n::ns,es=>∃p r,es= .Name (Str.ofString n) p::r/\cB sc n=true/\Ac sc ns r
noncomputable def vM(sc:Scope)(t:List String)(tg:Expr):Prop:=(∃n p,t=[n]/\tg= .Name (Str.ofString n) p/\cB sc n=true)\/(2<=t.length/\∃es k p,tg= .Tuple es k p/\Ac sc t es)
section
variable {W:dF}{A:Around}{E:Value->Shared->Prop}{s:Shared}{H:Hp}{ow:Nat->Option Nat}{ρ:Lo}{env:Env}
noncomputable def Bound(W:dF)(X:Nat->Prop)(ρ:Lo)(env:Env)(H:Hp)(ow:Nat->Option Nat)(s s':Shared):Prop:=
 ∃h' tk,s'={s with heap:=h',toks:=tk}/\b_ W ρ env H ow h'/\RH W H ow h'/\(∀b o,¬ X b->s.heap.get? b=some o->h'.get? b=some o)
theorem Bound.trans{X:Nat->Prop}{ρ' fG:Lo}{s s' gV:Shared}(x:Bound W X ρ' env H ow s s')(y:Bound W X fG env H ow s' gV):Bound W X fG env H ow s gV:=by
 refine oeeaaa x λh1 t1 bV _ _ k1=>?_;try clear x;subst bV
 refine oeeaaa y λh2 t2 cw a b k2=>?_;try clear y;subst cw
 exact⟨h2,t2,rfl,a,b,λb o nb e=>k2 b o nb (k1 b o nb e)⟩
theorem xr{n:String}(h:cB env.scope n=true):env.kindOf (Str.ofString n)=some .local\/env.kindOf (Str.ofString n)=some .cell:=
 (YB.mp h).imp beq_iff_eq.mp beq_iff_eq.mp
theorem hH(x:b_ W ρ env H ow s.heap)(R:RH W H ow s.heap){n:String}{p:Pos}{v:Value}(h:cB env.scope n=true){X:Nat->Prop}(hX:∀b,Wr env n b->X b){Q:Unit->Shared->Prop}
 (q:∀s',Bound W X (bf ρ n (aq v)) env H ow s s'->Q () s'):wpAny W.M A (assign (.Name (Str.ofString n) p) env v) Q E s:=
 wpAny_assign_Name (mU x R (xr h) λh' tk a b c=>q _ ⟨h',tk,rfl,a,b,λb o nb e=>c b o (λz=>nb (hX b z)) e⟩)
theorem ld{sc:Scope}{env:Env}:∀{ns:List String} {es:List Expr},Ac sc ns es->(assignEach es env).findIdx? (·.1)=none/\(assignEach es env).length=ns.length
 |[],_,h=>by cases h;exact⟨rfl,rfl⟩
 |n::ns,_,⟨p,es,e,_,h⟩=>by
  subst e;refine oa (ld (env:=env) h) λh1 h2=>?_;refine⟨?_,congrArg Nat.succ h2⟩;show List.findIdx? _ ((false,_)::assignEach es env)=none;rw[List.findIdx?_cons,if_neg Yd,h1];rfl
theorem yQ{X:Nat->Prop}:∀(ns:List String) (_:∀n∈ns,∀b,Wr env n b->X b) {es:List Expr} {vs:List Value} {ρ:Lo} {s:Shared} {Q:Unit->Shared->Prop},Ac env.scope ns es->ns.length=vs.length->b_ W ρ env H ow s.heap->RH W H ow s.heap->
 (∀s',Bound W X (binds ρ ns (vs.map aq)) env H ow s s'->Q () s')->wpAny W.M A (assignInOrder ((assignEach es env).map (·.2)) vs) Q E s:=by
 intro ns
 induction ns with
 |nil=>
  intro hX es vs ρ s Q h hl x R q
  cases h
  obtain rfl:=XT.mp hl.symm;exact Zz (q s ⟨s.heap,s.toks,rfl,x,R,λ_ _ _ e=>e⟩)
 |cons n ns ih=>
  intro hX es vs ρ s Q h hl x R q;refine oeeaa h λp es c8 h1 h2=>?_;try clear h;subst c8
  cases vs with
  |nil=>cases hl
  |cons v vs=>
   show wpAny W.M A (do holding vs (assign (.Name (Str.ofString n) p) env v);assignInOrder ((assignEach es env).map (·.2)) vs) Q E s;refine Zl (ZW (hH x R h1 (hX n Ze) λs' b=>?_));refine oeeaaa (id b) λh' tk dW x' R' k=>?_;subst dW;exact ih (λn hn=>hX n (Zh _ hn)) h2 (XC hl) x' R' λgV b'=>q gV (b.trans b')
theorem ph{h':Heap}(x:b_ W ρ env H ow s.heap)(R:RH W H ow s.heap)(he:Heap.ExtBut s.heap.objs.size s.heap h'):b_ W ρ env H ow h'/\RH W H ow h'/\∀b o,s.heap.get? b=some o->h'.get? b=some o:=by
 have hk:∀b o,s.heap.get? b=some o->h'.get? b=some o:=λb o e=>he b o (Xe (Yg e)) e;exact⟨x.iJ λb o _ e=>hk b o e,R.keeps hk,hk⟩
theorem oN(hh:A.handled=none)(x:b_ W ρ env H ow s.heap)(R:RH W H ow s.heap){ns:List String}{es:List Expr}{k:Nat}{p:Pos}{a:Nat}{vs:Array Value}(ok:Ac env.scope ns es)(hv:s.heap.IsTuple a vs\/s.heap.IsList a vs)
 (hl:ns.length=vs.size) {X:Nat->Prop} (hX:∀n∈ns,∀b,Wr env n b->X b) {Q:Unit->Shared->Prop} (q:∀s',Bound W X (binds ρ ns (vs.toList.map aq)) env H ow s s'->Q () s'):wpAny W.M A (assign (.Tuple es k p) env (.ref a)) Q E s:=by
 refine oa (ld (env:=env) ok) λh1 h2=>?_;rw[arm_assign_Tuple];refine Zl (Z7 ?_);unfold unpack;rw[h1,h2,hl];have fin:∀h',Heap.ExtBut s.heap.objs.size s.heap h'->wpAny W.M A (assignInOrder ((assignEach es env).map (·.2)) vs.toList) Q E {s with heap:=h'}:=λh' he=>by
  refine oaa (ph x R he) λx' R' hk=>?_;refine yQ ns hX (s:={s with heap:=h'}) ok (hl.trans Zr.symm) x' R' λs' b=>q s' ?_;refine oeeaaa b λh2 tk gW x2 R2 k2=>?_;try clear b;subst gW
  exact⟨h2,tk,rfl,x2,R2,λb o nb e=>k2 b o nb (hk b o e)⟩
 rcases hv with hv|hv
 . exact Zl (ZW (W6 hh hv fin))
 . exact Zl (ZW (gS hh hv fin))
theorem K_(hh:A.handled=none)(x:b_ W ρ env H ow s.heap)(R:RH W H ow s.heap){ns:List String}{es:List Expr}{k:Nat}{p:Pos}{a:Nat}{vs:List V}(ok:Ac env.scope ns es)(hv:H a=some (.tup vs)\/H a=some (.list vs))(hl:ns.length=vs.length)
 {X:Nat->Prop} (hX:∀n∈ns,∀b,Wr env n b->X b) {Q:Unit->Shared->Prop} (q:∀s',Bound W X (binds ρ ns vs) env H ow s s'->Q () s'):wpAny W.M A (assign (.Tuple es k p) env (.ref a)) Q E s:=by
 have key:∃us:Array Value,(s.heap.IsTuple a us\/s.heap.IsList a us)/\us.toList.map aq=vs:=by
  rcases hv with hv|hv
  . refine oeaa (R.obj a _ hv) λus hT e _=>?_;exact⟨us,.inl hT,e⟩
  . refine oeaa (R.obj a _ hv) λus hT e _=>?_;exact⟨us,.inr hT.isList,e⟩
 refine oea key λus hT gE=>?_;try clear key;subst gE
 exact oN hh x R ok hT (hl.trans ((Za _).trans Zr)) hX q
theorem AV(hh:A.handled=none)(x:b_ W ρ env H ow s.heap)(R:RH W H ow s.heap){t:List String}{tg:Expr}{v:Value}{item:List V}{ρ':Lo}(ok:vM env.scope t tg)(it:By s.heap v item)
 (b:dm H ρ t item ρ') {X:Nat->Prop} (hX:∀n∈t,∀b,Wr env n b->X b) {Q:Unit->Shared->Prop} (q:∀s',Bound W X ρ' env H ow s s'->Q () s'):wpAny W.M A (assign tg env v) Q E s:=by
 rcases ok with ⟨n,p,rfl,rfl,ok⟩|⟨h2,es,k,p,rfl,ok⟩
 . rcases b with ⟨hl,rfl⟩|⟨_,_,_,h2,_⟩
   . refine oe (List.length_eq_one_iff.mp hl.symm) λy kE=>?_;subst kE;have it:aq v=y:=it;subst it;exact hH x R ok (hX n Ze) q
   . exact absurd h2 (by show ¬ 2<=1;decide)
 . rcases b with ⟨hl,rfl⟩|⟨a,vs,rfl,_,hl,hv,rfl⟩
   . have key:∃T vals,v= .ref T/\s.heap.IsTuple T vals/\vals.toList.map aq=item:=by
      rw[hl] at h2
      cases item with
      |nil=>exact absurd h2 (by show ¬ 2<=0;decide)
      |cons y r=>cases r with
       |nil=>exact absurd h2 (by show ¬ 2<=1;decide)
       |cons z r=>cases r with
        |nil=>exact it
        |cons=>exact it.elim
     refine oeeaa key λT vals jX hT n_=>?_;try clear key;subst jX;subst n_
     exact oN hh x R ok (.inl hT) (hl.trans ((Za _).trans Zr)) hX q
   . have it:aq v= .ref a:=it;obtain rfl:=aO it;exact K_ hh x R ok hv hl hX q
end
end
section
open PySem PySem.W PyProof.Rows PySem.Calls
noncomputable def Lv.can(L:Lv)(m:Nat)(f:String):Bool:=(L.lv.lookup f).any λl=>decide (l<=m)
structure CY(l:Nat)(A:Around):Prop where
 hd:A.handled=none
 dp:A.depth+10*l<=900
 un:A.units+40*l<=9000
theorem CY.less{l m:Nat}{A:Around}(x:CY m A)(h:l<=m):CY l A:=⟨x.hd,Zf (ZN (Xi 10 h) _) x.dp,Zf (ZN (Xi 40 h) _) x.un⟩
theorem nU{u l L c k z:Nat}(h:l<L)(x:u+k*L<=z)(hc:c<=k):u+c+k*l<=z:=
 Zf (by rw[Yq,Vb c];exact ZN (Zf (ZN hc _) (Xi k h)) _) x
noncomputable def Meets(W:dF)(L:Lv):Calls:=λf vs H Q=>∃a l,W.fn f=some a/\L.lv.lookup f=some l/\
 ∀(A:Around) (s:Shared) (ow:Nat->Option Nat) (Et:List Value),CY l A->RH W H ow s.heap->Et.map aq=vs->codeAny W.M A (.call (.ref a) ⟨Et,[]⟩) (λr s'=>match r with| .ok (.ret v)=>bQ W H ow s Q v s'|_=>False) s
structure Full(W:dF)(L:Lv)(γ:String->Option V):Prop where
 good:W.Good
 Q2:W.Nc
 sm:W.base.get? sysModules≠none
 lim:W.base.NoLimit
 gl:W.base.Ns mainGlobals W.mg
 bi:W.base.Ns builtinsNs W.mb
 cls:∀C f,L.qH.lookup C=some f->∃c a,W.cls C=some c/\W.mg (Str.ofString C)=some (.ref c)/\keepIn W.K (.ref c)=true/\W.fn f=some a/\findIn W.K (.ref c) "__init__"=some (some (.ref a))
 P_:∀C,L.cls.contains C=true->∃c,W.cls C=some c/\W.mg (Str.ofString C)=some (.ref c)
 yj:∀f a,W.fn f=some a->typeIn W.K (.ref a)=some (.type "function")/\keepIn W.K (.ref a)=true
 top:∀f,L.fH.contains f=true->∃a,W.fn f=some a/\W.mg (Str.ofString f)=some (.ref a)
 PA:∀f C m,L.meths.lookup f=some (C,m)->∃c a,W.cls C=some c/\W.fn f=some a/\findIn W.K (.ref c) (Str.ofString m)=some (some (.ref a))
 gam:∀x v,γ x=some v->∃v',W.mg (Str.ofString x)=some v'/\aq v'=v
 Bc:W.cls "list"=none/\W.cls "dict"=none
 nm:∀p∈JN,W.mg (Str.ofString p.1)=none/\W.mb (Str.ofString p.1)=some p.2
section
variable {W:dF}{A:Around}{E:Value->Shared->Prop}{s:Shared}{H:Hp}{ow:Nat->Option Nat}{L:Lv}{γ:String->Option V}
theorem bQ.aW{Q Q':V->Hp->Prop}{v:Value}{s':Shared}(p:bQ W H ow s Q v s')(q:∀v h,Q v h->Q' v h):bQ W H ow s Q' v s':=by
 refine oeeaa p λH' aP x R G=>?_;try clear p
 exact⟨H',aP,q _ _ x,R,G⟩
theorem kL.after{H':Hp}{aP:Nat->Option Nat}{s' gV:Shared}{Q:Hp->Prop}(g:Go H ow s H' aP s')(p:kL W H' aP s' Q gV):kL W H ow s Q gV:=by
 refine oeeaa p λH2 o2 q R G=>?_;try clear p
 exact⟨H2,o2,q,R,g.trans G⟩
theorem bQ.after{H':Hp}{aP:Nat->Option Nat}{s' gV:Shared}{Q:V->Hp->Prop}{v:Value}(g:Go H ow s H' aP s')(p:bQ W H' aP s' Q v gV):bQ W H ow s Q v gV:=by
 refine oeeaa p λH2 o2 q R G=>?_;try clear p
 exact⟨H2,o2,q,R,g.trans G⟩
theorem cM{m:Sem Value}{H':Hp}{aP:Nat->Option Nat}{s':Shared}{Q:V->Hp->Prop}(g:Go H ow s H' aP s')(w:wpAny W.M A m (bQ W H' aP s' Q) E s'):wpAny W.M A m (bQ W H ow s Q) E s':=
 Zy w (λ_ _ p=>p.after g) λ_ _ e=>e
noncomputable def Fk(W:dF)(H:Hp)(ow:Nat->Option Nat)(s:Shared)(Q:List V->Hp->Prop)(vs:List Value)(s':Shared):Prop:=kL W H ow s (Q (vs.map aq)) s'
theorem eY{f:Value}(h:∀a,f≠ .ref a):∀hp:Heap,True->∃k,(k=Keeper.frame\/k=Keeper.machine\/k=Keeper.boundFrame)/\Looks W.M hp (keeperOf f) k:=λhp _=>by
 refine⟨.machine,.inr (.inl rfl),Looks.of_pure ?_⟩;unfold keeperOf
 cases f<;>first|rfl|exact absurd rfl (h _)
theorem i7{pos:Pos}{t:Sem Value}{l:List (Bool×Sem Value)}:backTo pos ((false,t)::l)=(false,t)::backTo pos l:=rfl
theorem kS{f:Value}{args:List (Bool×Sem Value)}{Q:Args->Shared->Prop}(h:args.any (·.1)=false)(w:wpAny W.M A (spliced args) (λvs s'=>Q ⟨vs,[]⟩ s') E s):wpAny W.M A (evalArgs f true args []) Q E s:=by
 cases args with
 |nil=>
  unfold evalArgs;show wpAny W.M A (spliced [] >>= _) Q E s;refine Zl (Zy w (λvs s' h'=>Zl (Zz ?_)) λ_ _ e=>e);refine ZW ?_;exact Zl (Zz (Zl (Zz (Zz h'))))
 |cons x r=>
  obtain ⟨b,t⟩:=x
  cases b with
  |true=>exact Bool.noConfusion (show true=false from h)
  |false=>exact evalArgs_plain w
theorem hG{f:Value}{first:List Value}{trees:List (Bool×Sem Value)}{pos:Pos}{Qs:List V->Hp->Prop}{Q:V->Hp->Prop}(F:Full W L γ)(hp:trees.any (·.1)=false)(hk:∀a,f= .ref a->keepIn W.K (.ref a)=true)
 (w:wpAny W.M A (spliced trees) (Fk W H ow s Qs) E s)
 (c:∀vs s' H' aP,Qs (vs.map aq) H'->RH W H' aP s'.heap->wpAny W.M A (call f (first++vs) []) (bQ W H' aP s' Q) E s'):wpAny W.M A (callWith pos f first trees []) (bQ W H ow s Q) E s:=by
 have MS:(trees.any (·.1)||([]:List (Option Str×Sem Value)).any (·.1.isNone))=false:=by rw[hp];rfl
 have go:∀P:Heap->Prop,(∀(s':Shared) H' aP,RH W H' aP s'.heap->P s'.heap)->wpAny W.M A (evalArgs f true trees []) (λa s₁=>P s₁.heap/\wpAny W.M A (call f (first++a.pos) a.kw) (bQ W H ow s Q) E s₁) E s:=λP hP=>
  kS hp (Zy w (λvs s' p=>by
   refine oeeaa p λH' aP q R G=>?_;try clear p
   exact⟨hP _ _ _ R,cM G (c vs s' H' aP q R)⟩) λ_ _ e=>e)
 by_cases hr:∃a,f= .ref a
 . refine oe hr λa bV=>?_;try clear hr;subst bV
   exact WA (P:=λh=>W.K.In h) MS (λh X=>keeps_K (hk a rfl) h X) (go _ λ_ _ _ R=>Ag F.good R)
 . exact WA (P:=λ_=>True) MS (eY λa e=>hr ⟨a,e⟩) (go (λ_=>True) λ_ _ _ _=>trivial)
theorem Bt{m l:Nat}{f:String}(c:L.can m f=true)(e:L.lv.lookup f=some l):l<=m:=by
 unfold Lv.can at c;rw[e] at c;exact of_decide_eq_true c
theorem xz{f:String}{vs:List Value}{Q:V->Hp->Prop}{m:Nat}(c:L.can m f=true)(hA:CY m A)(R:RH W H ow s.heap)(q:Meets W L f (vs.map aq) H Q){a:Nat}(ha:W.fn f=some a):wpAny W.M A (call (.ref a) vs []) (bQ W H ow s Q) E s:=by
 refine oeeaa q λa' l e1 e2 w=>?_;try clear q
 rw[ha] at e1;cases e1
 refine Vg (WN (w A s ow vs (hA.less (Bt c e2)) R rfl) λr s' p=>?_);rcases r with r|(v|_|_|_)<;>first|exact p|exact p.elim
theorem Lf(F:Full W L γ){C fi:String}{c f:Nat}(hc:W.cls C=some c)(hf:W.fn fi=some f)(hi:findIn W.K (.ref c) "__init__"=some (some (.ref f))){vs:List Value}{Q:V->Hp->Prop}{m:Nat}(h1:1<=m)(cn:L.can (m - 1) fi=true)(hA:CY m A)(R:RH W H ow s.heap)
 (q:∀a,H a=none->Meets W L fi (.ref a::vs.map aq) (bf H a (.inst C [])) λr h=>r= .none/\Q (.ref a) h):wpAny W.M A (call (.ref c) vs []) (bQ W H ow s Q) E s:=by
 have X:=Ag F.good R;refine oaaaaa (eO (F.good.cls C c hc)) λg1 g2 g3 g4 g5 g6=>?_;obtain ⟨h,g,d,t,os⟩:=s;have R:RH W H ow h:=R;have ha:h.get? (h.objs.size+1)=none:=bU (Yj _);have hd:h.get? h.objs.size=none:=bU (Zs _);refine oeeaa (q (h.objs.size+1) (R.rD ha)) λf' l e1 e2 w=>?_;rw[hf] at e1;cases e1
 have e1:=hf;have hl:=Bt cn e2;refine oa (F.yj _ _ e1) λt1 t2=>?_;have hk:∀b o,h.get? b=some o->((h.push emptyDict).push (instObj c h.objs.size)).get? b=some o:=λb o e=>ZL _ (ZL _ e);have z1:(h.push emptyDict).objs.size=h.objs.size+1:=Vy ..;have gx:((h.push emptyDict).push (instObj c h.objs.size)).get? (h.objs.size+1)=some (instObj c h.objs.size):=by rw[<-z1];exact ZU _ rfl
 have gd:((h.push emptyDict).push (instObj c h.objs.size)).get? h.objs.size=some (dictOf [] 0):=ZL _ (ZU _ rfl);have R1:RH W (bf H (h.objs.size+1) (.inst C [])) (bf ow (h.objs.size+1) h.objs.size) ((h.push emptyDict).push (instObj c h.objs.size)):=
  R.Es hk ha hd (Xe (YF _)) ⟨c,h.objs.size,[],0,hc,by rw[bf,if_pos rfl],gx,gd,trivial,ZR _,λ_ z=>by cases z⟩
 have G1:Go H ow ⟨h,g,d,t,os⟩ (bf H (h.objs.size+1) (.inst C [])) (bf ow (h.objs.size+1) h.objs.size) ⟨(h.push emptyDict).push (instObj c h.objs.size),g,d,t,os⟩:=by
  refine Go.add (s:=⟨h,g,d,t,os⟩) hk (λb mm=>?_) (λb lv=>?_) (λb o e=>R.live e) λb mm=>?_
  . rcases mm with mm|⟨a,mm⟩
    . by_cases z:b=h.objs.size+1
      . subst z;exact .inr ha
      . rw[bf,if_neg z] at mm;exact .inl (.inl mm)
    . by_cases z:a=h.objs.size+1
      . subst z;rw[bf,if_pos rfl] at mm;cases mm;exact .inr hd
      . rw[bf,if_neg z] at mm;exact .inl (.inr ⟨a,mm⟩)
  . rw[bf,if_neg];rintro rfl;exact lv ha
  . rcases mm with mm|⟨a,mm⟩
    . left;unfold bf;split
      . exact λz=>by cases z
      . exact mm
    . refine .inr ⟨a,?_⟩;unfold bf;rw[if_neg]
      . exact mm
      . rintro rfl;refine oaee (R.ai _ _ mm) λ_ C' M3 e=>?_;exact R.live e ha
 refine Vg (make_core (makes_of X g1) (looks_findIn X hi) (λself=>bind_fn X self t1) (.inl rfl) ?_);have Oa:CY l (A.under (.builtin "type.__call__" ⟨.ref c::vs,[]⟩)):=by
  have d1:(A.under (.builtin "type.__call__" ⟨.ref c::vs,[]⟩)).depth=A.depth+1:=rfl;have d2:(A.under (.builtin "type.__call__" ⟨.ref c::vs,[]⟩)).units=A.units+1:=rfl;have d3:(A.under (.builtin "type.__call__" ⟨.ref c::vs,[]⟩)).handled=A.handled:=rfl;refine⟨by rw[d3];exact hA.hd,?_,?_⟩
  . rw[d1];exact nU (Zk hl (VZ h1 Nat.one_pos)) hA.dp (by decide)
  . rw[d2];exact nU (Zk hl (VZ h1 Nat.one_pos)) hA.un (by decide)
 refine WN (w _ ⟨(h.push emptyDict).push (instObj c h.objs.size),g,d,t,os⟩ _ (.ref (h.objs.size+1)::vs) Oa R1 rfl) λr s' p=>?_;rcases r with r|(v|_|_|_)<;>try exact p.elim
 refine oeeaa p λH' aP cw R' G'=>?_;try clear p;refine oa cw λq1 q2=>?_;try clear cw
 exact⟨mv q1,H',aP,q2,R',G1.trans G'⟩
theorem lookup_none{n:String}:∀{fs:List (String×V)},(∀p∈fs,p.1≠n)->fs.lookup n=none
 |[],_=>rfl
 |(m,u)::r,h=>by
  rw[ZS,beq_eq_false_iff_ne.mpr (Yo (h _ Ze))];exact lookup_none λp hp=>h p (Zh _ hp)
theorem yS(F:Full W L γ)(R:RH W H ow s.heap){a:Nat}{C m:String}{fs:List (String×V)}{c f:Nat}{pl:Sem Bool}{Q:Value×List Value->Shared->Prop}(h:H a=some (.inst C fs))(hn:iA C m=false)(hc:W.cls C=some c)(hf:findIn W.K (.ref c) (Str.ofString m)=some (some (.ref f)))(ht:typeIn W.K (.ref f)=some (.type "function"))
 (q:Q (.ref f,[.ref a]) s):wpAny W.M A (getMethod (.ref a) (Str.ofString m) pl) Q E s:=by
 refine oeeeeaaa (nV R (.inl h)) λc' dx es n ir I hF JD=>?_;rw[hc] at ir;cases ir
 refine oaaaaa (eO (F.good.cls C c hc)) λg1 g2 g3 g4 g5 g6=>?_;have FC:fs.lookup m=none:=lookup_none λp hp e=>by
  have:=JD p hp;rw[e,hn] at this;cases this
 exact method_fn (Ag F.good R) I g4 g6 hf ht (by show (lookIn _ (dictOf es n)).map _=_;rw[lookIn_dict,hF.DV FC];rfl) q
end
end
section
open PySem PySem.W PyProof.Rows PySem.Calls
noncomputable def AB(sc:Scope)(n:String):Bool:= !(Str.ofString n==("__classdict__":Str))&&(!(Str.ofString n==("__debug__":Str))&&(!(n== ".0")&&
 (sc.names.lookup (Str.ofString n)==some .local||(sc.names.lookup (Str.ofString n)==some .cell||sc.names.lookup (Str.ofString n)==some .free))))
noncomputable def aS(sc:Scope)(n:String):Bool:=sc.names.lookup (Str.ofString n)==some .globalImplicit&& !(Str.ofString n==("__debug__":Str))
noncomputable def cq:Expr->Bool
 | .Call (.Name _ _) [] [] _=>false
 |_=>true
noncomputable def fP:Expr->Bool
 | .Slice _ _ _ _=>false
 |_=>true
noncomputable def notStar:Expr->Bool
 | .Starred _ _=>false
 |_=>true
theorem aQ{a b:Bool}(h:(a&&b)=true):a=true/\b=true:=Zj.mp h
theorem om{a:Bool}(h:(!a)=true):a=false:=by cases a;rfl;cases h
theorem dy{o:Expr}{n:Str}{env:Env}{w:Sem Value}(h:cq o=true):attributeBase o n env w=w:=by
 cases o with
 |Call f as ks _=>cases f with
  |Name _ _=>cases as with
   |nil=>cases ks with
    |nil=>cases h
    |cons=>rfl
   |cons=>rfl
  |_=>rfl
 |_=>rfl
theorem ck{x:Expr}{xs:List Expr}{env:Env}(h:notStar x=true):starEach (x::xs) env=(false,eval x env)::starEach xs env:=by
 cases x<;>first|rfl|cases h
structure gG(L:Lv)(sc:Scope)(m:Nat) where
 W:dF
 γ:String->Option V
 F:Full W L γ
 A:Around
 env:Env
 hs:env.scope=sc
 hA:CY m A
section
variable {L:Lv}{sc:Scope}{m:Nat}
noncomputable abbrev gG.wp(f:gG L sc m):C->Lo->List V->Hp->Po->Prop:=Mine.wp (Meets f.W L) f.γ
structure At(f:gG L sc m)(ρ:Lo)(H:Hp)(ow:Nat->Option Nat)(s:Shared):Prop where
 X:b_ f.W ρ f.env H ow s.heap
 R:RH f.W H ow s.heap
noncomputable def Ky(L:Lv)(sc:Scope)(m:Nat)(c k:C)(x:Expr):Prop:=
 ∀(f:gG L sc m) (ρ:Lo) (H:Hp) (ow:Nat->Option Nat) (s:Shared) (E:Value->Shared->Prop) (st:List V) (Q:Po),At f ρ H ow s->
  f.wp c ρ st H Q->wpAny f.W.M f.A (eval x f.env) (bQ f.W H ow s λv h=>f.wp k ρ (v::st) h Q) E s
noncomputable def Ql(L:Lv)(sc:Scope)(m:Nat)(c k:C)(x:Expr):Prop:=
 ∀(f:gG L sc m) (ρ:Lo) (H:Hp) (ow:Nat->Option Nat) (s:Shared) (E:Value->Shared->Prop) (st:List V) (Q:Po) (P:Bool->Hp->Prop),At f ρ H ow s->(∀v h,f.wp k ρ (v::st) h Q->∃t,v= .bool t/\P t h)->
  f.wp c ρ st H Q->wpAny f.W.M f.A (isTrue x f.env (eval x f.env)) (λt s'=>kL f.W H ow s (P t) s') E s
noncomputable def a_(L:Lv)(sc:Scope)(m:Nat)(c k:C)(x:Expr):Prop:=Ky L sc m c k x/\Ql L sc m c k x
noncomputable def dO(L:Lv)(sc:Scope)(m:Nat)(c k:C)(xs:List Expr):Prop:=
 (∀env pos,(backTo pos (starEach xs env)).any (·.1)=false)/\
 ∀(f:gG L sc m) (pos:Pos) (ρ:Lo) (H:Hp) (ow:Nat->Option Nat) (s:Shared) (E:Value->Shared->Prop) (st:List V) (Q:Po),At f ρ H ow s->
  f.wp c ρ st H Q->wpAny f.W.M f.A (spliced (backTo pos (starEach xs f.env))) (Fk f.W H ow s λvs h=>vs.length=xs.length/\f.wp k ρ (vs.reverse++st) h Q) E s
section
variable {f:gG L sc m}{ρ:Lo}{H:Hp}{ow:Nat->Option Nat}{s:Shared}{E:Value->Shared->Prop}{st:List V}{Q:Po}
theorem At.go{H1:Hp}{bS:Nat->Option Nat}{s1:Shared}(a:At f ρ H ow s)(G:Go H ow s H1 bS s1)(R:RH f.W H1 bS s1.heap):At f ρ H1 bS s1:=⟨a.X.go G,R⟩
theorem jQ{x:Sem Value}{q:V->Hp->Prop}{P:Value->Shared->Prop}(a:At f ρ H ow s)(w:wpAny f.W.M f.A x (bQ f.W H ow s q) E s)(k:∀v s1 H1 bS,q (aq v) H1->At f ρ H1 bS s1->Go H ow s H1 bS s1->P v s1):wpAny f.W.M f.A x P E s:=
 Zy w (λv s1 lI=>oeeaa lI λH1 bS y R G=>k v s1 H1 bS y (a.go G R) G) λ_ _ e=>e
theorem oK{v:Value}{s':Shared}{q:V->Hp->Prop}{P:Bool->Hp->Prop}(p:bQ f.W H ow s q v s')(h:∀v h,q v h->∃t,v= .bool t/\P t h):wpAny f.W.M f.A (truthy v) (λt gV=>kL f.W H ow s (P t) gV) E s':=by
 refine oeeaa p λH1 bS q R1 G1=>?_;try clear p
 refine oea (h _ _ q) λb hb q=>?_;rw[eI hb];exact We ⟨H1,bS,q,R1,G1⟩
theorem ug:∀(l acc st:List V),tH l.length acc (l++st)=some (l.reverse++acc,st)
 |[],_,_=>rfl
 |v::l,acc,st=>by
  rw[Xs,Zo];exact ug l (v::acc) st
theorem g_{vs:List V}{n:Nat}{W:List V->List V->Prop}(l:vs.length=n)(w:fH n (vs.reverse++st) W):W vs st:=by
 unfold fH at w;rw[<-l,<-YR,ug,List.reverse_reverse,Zu] at w;exact w
theorem t9(h:CY m A):A.units+8<cLine:=by have:=h.un;have:cLine=9900:=rfl;(rename_i jH;exact(aj 0x1101018011242328621284112326ac6015230) cLine A.units m this jH)
theorem rJ(a:At f ρ H ow s){n:String}{p:Pos}(h:aS sc n=true){v:Value}(e:f.W.mg (Str.ofString n)=some v){P:Value->Shared->Prop}(q:P v s):
 wpAny f.W.M f.A (eval (.Name (Str.ofString n) p) f.env) P E s:=by
 rw[<-f.hs] at h;exact BP a.X a.R f.F.gl (beq_iff_eq.mp (aQ h).1) e q (om (aQ h).2)
theorem vW(a:At f ρ H ow s){n:String}{p:Pos}(h:aS sc n=true){v:Value}(e:(n,v)∈JN){P:Value->Shared->Prop}(q:P v s):
 wpAny f.W.M f.A (eval (.Name (Str.ofString n) p) f.env) P E s:=by
 rw[<-f.hs] at h;exact yV a.X a.R f.F.gl f.F.bi (beq_iff_eq.mp (aQ h).1) (f.F.nm _ e).1 (f.F.nm _ e).2 q (om (aQ h).2)
end
variable {c k c1 c2:C}{x y:Expr}
theorem p_(he:Ky L sc m c k x)(hi:∀env,isTrue x env (eval x env)=(do let v<-eval x env;standAt x.pos;holding [v] (truthy v))):a_ L sc m c k x:=by
 refine⟨he,λf ρ H ow s E st Q P a hP w=>wpAny_isTrue_value (Zy (he f ρ H ow s E st Q a w) (λv s₁ q=>?_) λ_ _ e=>e) (hi f.env)⟩;exact oK q hP
theorem HX{n:String}{p:Pos}(h:AB sc n=true):a_ L sc m (.ae n k) k (.Name (Str.ofString n) p):=by
 refine p_ (λf ρ H ow s E st Q a lH=>oea lH λv e w=>?_) λ_=>rfl;refine oa (aQ h) λh1 h=>?_;refine oa (aQ h) λh2 h=>?_;refine oa (aQ h) λh3 h=>?_;rw[<-f.hs] at h;exact HG a.X a.R e ((YB.mp h).imp beq_iff_eq.mp λh=>(YB.mp h).imp beq_iff_eq.mp beq_iff_eq.mp) (λz=>by rw[z] at h3;cases h3) w (om h1) (om h2)
theorem Eh{n:String}{p:Pos}(h:aS sc n=true):a_ L sc m (.glob n k) k (.Name (Str.ofString n) p):=by
 refine p_ (λf ρ H ow s E st Q a rc=>oea rc λv e w=>?_) λ_=>rfl;refine oea (f.F.gam n v e) λv' e' bV=>?_;subst bV;exact rJ a h e' (bc a.R w)
theorem Ic{i:Int}{u p}:a_ L sc m (.az (.int i) k) k (.Constant (.int i) u p):=p_ (λf ρ H ow s E st Q a w=>YW (bF a.R w)) λ_=>rfl
theorem HZ{t:Str}{u p}:a_ L sc m (.az (.str t) k) k (.Constant (.str t) u p):=p_ (λf ρ H ow s E st Q a w=>Constant_str (bF a.R w)) λ_=>rfl
theorem Ek{b:Bool}{u p}:a_ L sc m (.az (.bool b) k) k (.Constant (.bool b) u p):=p_ (λf ρ H ow s E st Q a w=>by rw[arm_eval_Constant];exact Zz (bc a.R w)) λ_=>rfl
theorem Ed{u p}:a_ L sc m (.az .none k) k (.Constant .none u p):=p_ (λf ρ H ow s E st Q a w=>by rw[arm_eval_Constant];exact Zz (bc a.R w)) λ_=>rfl
theorem H_{i:Int}{u p p'}:a_ L sc m (.az (.int (-i)) k) k (.UnaryOp .USub (.Constant (.int i) u p) p'):=p_ (λf ρ H ow s E st Q a w=>
 VL (YW (Zy (Lg (s:={s with toks:=s.toks+1}) a.R w) (λv s' p=>p.after ((Go.refl ..).tok _)) λ_ _ e=>e))) λ_=>rfl
theorem Bp{b:Nat}(hb:b=9\/b=60){u u' p p' Mr}:a_ L sc m (.az (.int ((10:Int) ^ b)) k) k (.BinOp (.Constant (.int 10) u p) .Pow (.Constant (.int b) u' p') Mr):=p_ (λf ρ H ow s E st Q a w=>
 wpAny_BinOp (YW (YW (Zy (Lc (s:={s with toks:=s.toks+1+1}) a.R hb w) (λv s' p=>p.after ((Go.refl ..).tok _)) λ_ _ e=>e)))) λ_=>rfl
theorem El{n:String}{v:Expr}{p:Pos}(hb:cq v=true)(he:a_ L sc m c (.u (.attr n) k) v):a_ L sc m c k (.Attribute v (Str.ofString n) p):=by
 refine p_ (λf ρ H ow s E st Q a w=>?_) λ_=>rfl;rw[arm_eval_Attribute,dy hb];refine Zl (jQ a (he.1 f ρ H ow s E st Q a w) λu s₁ H1 bS q a1 G1=>?_);refine oea q λ_ cw q=>?_;refine oea cw λy g r_1=>?_;try clear cw;subst r_1
 exact Zl (Z7 (Zl (ZW (Zy (cM G1 (yU f.F.good a1.R g q)) (λr s₂ q=>Zl (Wy (Zz q))) λ_ _ e=>e))))
theorem ly{slice:Expr}(h:fP slice=true)(v k:Value):subscripted slice false v k=operate [v,k] (getItem v k):=by
 cases slice<;>first|rfl|cases h
theorem oX(value slice:Expr)(pos:Pos)(env:Env):eval (.Subscript value slice pos) env=(do
 let o<-eval value env
 let i<-holding [o] (eval slice env)
 standAt pos
 subscriptTail value slice o i):=rfl
theorem Id{v t:Expr}{p:Pos}(hb:fP t=true)(he:a_ L sc m c c1 v)(hi:a_ L sc m c1 (.b .idx k) t):a_ L sc m c k (.Subscript v t p):=by
 refine p_ (λf ρ H ow s E st Q a w=>?_) λ_=>rfl;rw[oX];refine Zl (jQ a (he.1 f ρ H ow s E st Q a w) λu s₁ H1 bS q a1 G1=>?_);refine Zl (ZW (jQ a1 (hi.1 f ρ H1 bS s₁ E _ Q a1 q) λj s₂ H2 gF q a2 G2=>?_));refine oea q λ_ c8 q=>?_;refine oea c8 λy g r_2=>?_;try clear c8;subst r_2
 exact Zl (Z7 (cM (G1.trans G2) (uR a2.R g q (ly hb u j))))
theorem Ig{op:F_}{l r:Expr}{p:Pos}(ha:a_ L sc m c c1 l)(hb:a_ L sc m c1 (.b (.bin op) k) r):a_ L sc m c k (.BinOp l (Dl op) r p):=by
 refine p_ (λf ρ H ow s E st Q a w=>?_) λ_=>rfl;refine wpAny_BinOp (jQ a (ha.1 f ρ H ow s E st Q a w) λu s₁ H1 bS q a1 G1=>?_);refine jQ a1 (hb.1 f ρ H1 bS s₁ E _ Q a1 q) λj s₂ H2 gF q a2 G2=>?_;refine oea q λ_ b q=>?_;exact cM (G1.trans G2) (Lj a2.R b q)
theorem Ie{op:F9}{l r:Expr}{p:Pos}(hm:behindInMarks (mM op) r=false)(ha:a_ L sc m c c1 l)(hb:a_ L sc m c1 (.b (.cmp op) k) r):a_ L sc m c k (.Compare l [mM op] [r] p):=by
 have key:∀{f:gG L sc m} {ρ:Lo} {H:Hp} {ow:Nat->Option Nat} {s:Shared} {E:Value->Shared->Prop} {st:List V} {Q:Po} {PP:Value->Shared->Prop},At f ρ H ow s->f.wp c ρ st H Q->(∀v s',bQ f.W H ow s (λv h=>f.wp k ρ (v::st) h Q) v s'->PP v s')->
  wpAny f.W.M f.A (eval l f.env) (λu s₁=>wpAny f.W.M f.A (eval r f.env) (λj s₂=>wpAny f.W.M f.A (compareOp (mM op) u j) PP E s₂) E s₁) E s:=λ{f ρ H ow s E st Q PP} a w hP=>by
  refine jQ a (ha.1 f ρ H ow s E st Q a w) λu s₁ H1 bS q a1 G1=>?_;refine jQ a1 (hb.1 f ρ H1 bS s₁ E _ Q a1 q) λj s₂ H2 gF q a2 G2=>?_;refine oea q λ_ b q=>?_;exact Zy (cM (G1.trans G2) (Li f.F.sm a2.R b q (t9 f.hA))) (λv s' p=>hP v s' p) λ_ _ e=>e
 refine⟨λf ρ H ow s E st Q a w=>wpAny_Compare1 (key a w λ_ _ p=>p) hm,λf ρ H ow s E st Q P a hP w=>Vp (key a w λ_ _ p=>oK p hP) hm⟩
theorem LV{W:dF}{A:Around}{E:Value->Shared->Prop}{s:Shared}{env:Env}{p:Pos}{P:Value->Shared->Prop}(q:P (.ref s.heap.objs.size) {s with heap:=s.heap.push {cls:=.type "list",data:=.seq #[]}}):
 wpAny W.M A (eval (.List [] p) env) P E s:=by
 rw[arm_eval_List];exact Zl (Z7 (Zl (Zz (Xb q))))
theorem Ee{ne:Bool}{l:Expr}{p p':Pos}(ha:a_ L sc m c (.u (.nilq ne) k) l):a_ L sc m c k (.Compare l [if ne=true then CmpOp.NotEq else .Eq] [.List [] p'] p):=by
 have hm:behindInMarks (if ne=true then CmpOp.NotEq else .Eq) (.List [] p')=false:=by cases ne<;>rfl
 have key:∀{f:gG L sc m} {ρ:Lo} {H:Hp} {ow:Nat->Option Nat} {s:Shared} {E:Value->Shared->Prop} {st:List V} {Q:Po} {PP:Value->Shared->Prop},At f ρ H ow s->f.wp c ρ st H Q->(∀v s',bQ f.W H ow s (λv h=>f.wp k ρ (v::st) h Q) v s'->PP v s')->
  wpAny f.W.M f.A (eval l f.env) (λu s₁=>wpAny f.W.M f.A (eval (.List [] p') f.env) (λj s₂=>wpAny f.W.M f.A (compareOp (if ne=true then CmpOp.NotEq else .Eq) u j) PP E s₂) E s₁) E s:=λ{f ρ H ow s E st Q PP} a w hP=>by
  refine jQ a (ha.1 f ρ H ow s E st Q a w) λu s₁ H1 bS q a1 G1=>?_;refine oea q λ_ dW q=>?_;refine oeeaa dW λc xs hc hl r_3=>?_;try clear dW;subst r_3
  rw[aO hc];refine LV ?_;refine oeaa (a1.R.obj c _ hl) λvs hp gW _=>?_;subst gW;have hk:∀b o,s₁.heap.get? b=some o->(s₁.heap.push {cls:=.type "list",data:=.seq #[]}).get? b=some o:=λb o e=>ZL _ e;refine Ld (s:={s₁ with heap:=s₁.heap.push {cls:=.type "list",data:=.seq #[]}}) (hp.at λo=>hk _ o) ⟨0,ZU _ rfl⟩ ne (hP _ _ ⟨H1,bS,?_,a1.R.keeps hk,G1.off (tk:=s₁.toks) (λ_=>False) (λb o _ e=>hk b o e) (λ_ z=>z.elim)⟩) (t9 f.hA);have e:(vs.toList.map aq).isEmpty=vs.toList.isEmpty:=by cases vs.toList<;>rfl
  rw[e] at q;exact q
 refine⟨λf ρ H ow s E st Q a w=>wpAny_Compare1 (key a w λ_ _ p=>p) hm,λf ρ H ow s E st Q P a hP w=>Vp (key a w λ_ _ p=>oK p hP) hm⟩
theorem H8{v:Expr}{p:Pos}(he:a_ L sc m c (.u .not k) v):a_ L sc m c k (.UnaryOp .Not v p):=by
 refine⟨λf ρ H ow s E st Q a w=>?_,λf ρ H ow s E st Q P a hP w=>?_⟩
 . refine VL (jQ a (he.1 f ρ H ow s E st Q a w) λu s₁ H1 bS q a1 G1=>?_);refine oea q λ_ gE q=>?_;refine oea gE λb hb r_4=>?_;try clear gE;subst r_4
   rw[eI hb];show wpAny f.W.M f.A (holding [Value.bool b] (do return Value.bool (!(<-truthy (Value.bool b))))) _ _ _;exact ZW (Zl (We (Zz ⟨H1,bS,q,a1.R,G1⟩)))
 . refine wpAny_isTrue_Not (Zy (he.2 f ρ H ow s E st Q (λb h=>P (!b) h) a (λv h q=>?_) w) (λb s₁ q=>q) λ_ _ e=>e);refine oea q λ_ kE q=>?_;refine oea kE λb r_5 r_6=>?_;try clear kE;subst r_5;subst r_6
   refine oea (hP _ _ q) λt e q=>?_
   cases e
   exact⟨b,rfl,q⟩
theorem kf{f:gG L sc m}{ρ:Lo}{st:List V}{Q:Po}{v:V}{h:Hp}(w:f.wp (.ite c1 c2 k) ρ (v::st) h Q):∃t,v= .bool t/\f.wp (if t=true then c1 else c2) ρ st h (sq (λρ st h=>f.wp k ρ st h Q) Q):=by
 refine oeaa w λt e w1 w2=>?_;try clear w
 refine⟨t,e,?_⟩
 cases t with
 |true=>exact w1 rfl
 |false=>exact w2 rfl
theorem Ib{t y n:Expr}{p:Pos}(hc:a_ L sc m c (.ite c1 c2 k) t)(ha:a_ L sc m c1 .done y)(hb:a_ L sc m c2 .done n):a_ L sc m c k (.IfExp t y n p):=by
 refine⟨λf ρ H ow s E st Q a w=>?_,λf ρ H ow s E st Q P a hP w=>?_⟩
 . refine wpAny_IfExp (Zy (hc.2 f ρ H ow s E st Q _ a (λv h w=>kf w) w) (λt s₁ q=>?_) λ_ _ e=>e);refine oeeaa q λH1 bS q R1 G1=>?_;have a1:=a.go G1 R1
   cases t with
   |true=>exact cM G1 (ha.1 f ρ H1 bS s₁ E st _ a1 q)
   |false=>exact cM G1 (hb.1 f ρ H1 bS s₁ E st _ a1 q)
 . rw[arm_isTrue_IfExp];refine Zl (Zy (hc.2 f ρ H ow s E st Q _ a (λv h w=>kf w) w) (λt s₁ q=>?_) λ_ _ e=>e);refine oeeaa q λH1 bS q R1 G1=>?_;have a1:=a.go G1 R1
   cases t with
   |true=>exact Zy (ha.2 f ρ H1 bS s₁ E st (sq (λρ st h=>f.wp k ρ st h Q) Q) P a1 hP q) (λ_ _ z=>z.after G1) λ_ _ e=>e
   |false=>exact Zy (hb.2 f ρ H1 bS s₁ E st (sq (λρ st h=>f.wp k ρ st h Q) Q) P a1 hP q) (λ_ _ z=>z.after G1) λ_ _ e=>e
end
end
section
open PySem PySem.W PyProof.Rows PySem.Calls
section
variable {L:Lv}{sc:Scope}{m:Nat}{c k c1 c2:C}{x y:Expr}{xs:List Expr}
structure vZ(L:Lv)(sc:Scope)(m:Nat)(op:BoolOp)(c k:C)(xs:List Expr):Prop where
 val:∀(f:gG L sc m) (p:Pos) (ρ:Lo) (H:Hp) (ow:Nat->Option Nat) (s:Shared) (E:Value->Shared->Prop) (st:List V) (Q:Po),At f ρ H ow s->
  f.wp c ρ st H Q->wpAny f.W.M f.A (boolOp p op (evalEach xs f.env)) (bQ f.W H ow s λv h=>f.wp k ρ (v::st) h Q) E s
 OC:∀(f:gG L sc m) (ρ:Lo) (H:Hp) (ow:Nat->Option Nat) (s:Shared) (E:Value->Shared->Prop) (st:List V) (Q:Po) (P:Bool->Hp->Prop),At f ρ H ow s->(∀v h,f.wp k ρ (v::st) h Q->∃t,v= .bool t/\P t h)->
  f.wp c ρ st H Q->wpAny f.W.M f.A (allTrue op xs f.env) (λt s'=>kL f.W H ow s (P t) s') E s
theorem IA{op:BoolOp}(he:a_ L sc m c k x):vZ L sc m op c k [x]:=by
 refine⟨λf p ρ H ow s E st Q a w=>he.1 f ρ H ow s E st Q a w,λf ρ H ow s E st Q P a hP w=>?_⟩;show wpAny _ _ (isTrue x f.env (eval x f.env) >>= _) _ _ _;refine Zl (Zy (he.2 f ρ H ow s E st Q P a hP w) (λt s₁ q=>?_) λ_ _ e=>e)
 cases op<;>cases t<;>exact Zz q
theorem IB(he:a_ L sc m c (.ite c1 (.az (.bool false) .done) k) x)(hr:vZ L sc m .And c1 .done (y::xs)):vZ L sc m .And c k (x::y::xs):=by
 refine⟨λf p ρ H ow s E st Q a w=>?_,λf ρ H ow s E st Q P a hP w=>?_⟩
 . refine Zl (jQ a (he.1 f ρ H ow s E st Q a w) λv s₁ H1 bS q a1 G1=>?_);refine oea (kf q) λt hb q=>?_;rw[eI hb];refine Zl (Z7 (Zl (ZW (We ?_))))
   cases t with
   |true=>exact cM G1 (hr.val f p ρ H1 bS s₁ E st _ a1 q)
   |false=>exact Zz ⟨H1,bS,q,a1.R,G1⟩
 . show wpAny _ _ (isTrue x f.env (eval x f.env) >>= _) _ _ _;refine Zl (Zy (he.2 f ρ H ow s E st Q _ a (λv h w=>kf w) w) (λt s₁ q=>?_) λ_ _ e=>e);refine oeeaa q λH1 bS q R1 G1=>?_
   cases t with
   |true=>exact Zy (hr.OC f ρ H1 bS s₁ E st (sq (λρ st h=>f.wp k ρ st h Q) Q) P (a.go G1 R1) hP q) (λ_ _ z=>z.after G1) λ_ _ e=>e
   |false=>
    refine oea (hP (.bool false) H1 q) λt e q=>?_
    cases e
    exact Zz ⟨H1,bS,q,R1,G1⟩
theorem Mg(he:a_ L sc m c (.ite (.az (.bool true) .done) c1 k) x)(hr:vZ L sc m .Or c1 .done (y::xs)):vZ L sc m .Or c k (x::y::xs):=by
 refine⟨λf p ρ H ow s E st Q a w=>?_,λf ρ H ow s E st Q P a hP w=>?_⟩
 . refine Zl (jQ a (he.1 f ρ H ow s E st Q a w) λv s₁ H1 bS q a1 G1=>?_);refine oea (kf q) λt hb q=>?_;rw[eI hb];refine Zl (Z7 (Zl (ZW (We ?_))))
   cases t with
   |false=>exact cM G1 (hr.val f p ρ H1 bS s₁ E st _ a1 q)
   |true=>exact Zz ⟨H1,bS,q,a1.R,G1⟩
 . show wpAny _ _ (isTrue x f.env (eval x f.env) >>= _) _ _ _;refine Zl (Zy (he.2 f ρ H ow s E st Q _ a (λv h w=>kf w) w) (λt s₁ q=>?_) λ_ _ e=>e);refine oeeaa q λH1 bS q R1 G1=>?_
   cases t with
   |false=>exact Zy (hr.OC f ρ H1 bS s₁ E st (sq (λρ st h=>f.wp k ρ st h Q) Q) P (a.go G1 R1) hP q) (λ_ _ z=>z.after G1) λ_ _ e=>e
   |true=>
    refine oea (hP (.bool true) H1 q) λt e q=>?_
    cases e
    exact Zz ⟨H1,bS,q,R1,G1⟩
theorem LU{op:BoolOp}{p:Pos}(h:vZ L sc m op c k xs):a_ L sc m c k (.BoolOp op xs p):=by
 refine⟨λf ρ H ow s E st Q a w=>?_,λf ρ H ow s E st Q P a hP w=>?_⟩
 . rw[arm_eval_BoolOp];exact h.val f p ρ H ow s E st Q a w
 . rw[arm_isTrue_BoolOp];exact h.OC f ρ H ow s E st Q P a hP w
theorem xQ:dO L sc m k k []:=⟨λ_ _=>rfl,λf pos ρ H ow s E st Q a w=>XU ⟨H,ow,⟨rfl,w⟩,a.R,Go.refl ..⟩⟩
theorem uF(ip:notStar x=true)(he:a_ L sc m c c1 x)(hr:dO L sc m c1 k xs):dO L sc m c k (x::xs):=by
 refine⟨λenv pos=>?_,λf pos ρ H ow s E st Q a w=>?_⟩
 . rw[ck ip,i7,XJ,hr.1 env pos];rfl
 . rw[ck ip,i7];refine Xf (jQ a (he.1 f ρ H ow s E st Q a w) λv s₁ H1 bS q a1 G1=>?_);refine Zy (hr.2 f pos ρ H1 bS s₁ E _ Q a1 q) (λvs s₂ q=>?_) λ_ _ e=>e;refine oeeaa q λH2 gF q R2 G2=>?_;exact⟨H2,gF,⟨congrArg Nat.succ q.1,by rw[Zw,Xs,Zo];exact q.2⟩,R2,G1.trans G2⟩
theorem Eg{p:Pos}(hl:xs.length<=100)(he:dO L sc m c (.mk .list xs.length k) xs):a_ L sc m c k (.List xs p):=by
 refine p_ (λf ρ H ow s E st Q a w=>?_) λ_=>rfl;rw[arm_eval_List];refine Zl (Z7 (Zl (Zy (he.2 f p ρ H ow s E st Q a w) (λvs s₁ q=>?_) λ_ _ e=>e)));refine oeeaa q λH1 bS bV R1 G1=>?_;try clear q;refine oa bV λhlen q=>?_;try clear bV
 have q:=g_ hlen q;rw[Za] at hlen;exact cM G1 (yO R1 (Zf (hlen▸hl) (by decide)) q)
theorem HY{n:Nat}{p:Pos}(hl:xs.length<=100)(he:dO L sc m c (.mk .tup xs.length k) xs):a_ L sc m c k (.Tuple xs n p):=by
 refine p_ (λf ρ H ow s E st Q a w=>?_) λ_=>rfl;rw[arm_eval_Tuple];refine Zl (Z7 (Zl (Zy (he.2 f p ρ H ow s E st Q a w) (λvs s₁ q=>?_) λ_ _ e=>e)));refine oeeaa q λH1 bS cw R1 G1=>?_;try clear q;refine oa cw λhlen q=>?_;try clear cw
 have q:=g_ hlen q;rw[Za] at hlen;exact cM G1 (wy R1 (Zf (hlen▸hl) (by decide)) q)
theorem Cz{p:Pos}:a_ L sc m (.mk .dict 0 k) k (.Dict [] [] p):=by
 refine p_ (λf ρ H ow s E st Q a w=>?_) λ_=>rfl;rw[arm_eval_Dict];exact Zl (Z7 (yP a.R w))
theorem cm(id:Str)(p:Pos)(args:List Expr)(keywords:List Keyword)(pos:Pos)(env:Env):eval (.Call (.Name id p) args keywords pos) env=(do
 callWith pos (<-eval (.Name id p) env) [] (backTo pos (starEach args env)) (backToKw pos (keywordEach keywords env))):=rfl
theorem Ej{g:String}{p pos:Pos}(hg:aS sc g=true)(ht:L.fH.contains g=true)(hc:L.can m g=true)(he:dO L sc m c (.call g xs.length k) xs):a_ L sc m c k (.Call (.Name (Str.ofString g) p) xs [] pos):=by
 refine p_ (λf ρ H ow s E st Q a w=>?_) λ_=>rfl;rw[cm];refine oea (f.F.top g ht) λb hb e=>?_;refine Zl (rJ a hg e ?_);refine hG f.F (he.1 f.env pos) (λ_ e=>by cases e;exact(f.F.yj g b hb).2) (he.2 f pos ρ H ow s E st Q a w) λvs s' H' aP q R'=>?_;exact xz hc f.hA R' (g_ q.1 q.2) hb
theorem H9{D g:String}{p pos:Pos}(hg:aS sc D=true)(h1:1<=m)(hc:L.can (m - 1) g=true)(hD:L.qH.lookup D=some g)(he:dO L sc m c (.new D g xs.length k) xs):a_ L sc m c k (.Call (.Name (Str.ofString D) p) xs [] pos):=by
 refine p_ (λf ρ H ow s E st Q a w=>?_) λ_=>rfl;rw[cm];refine oeeaaaa (f.F.cls D g hD) λcl b c1 c2 c3 c4 c5=>?_;refine Zl (rJ a hg c2 ?_);refine hG f.F (he.1 f.env pos) (λ_ e=>by cases e;exact c3) (he.2 f pos ρ H ow s E st Q a w) λvs s' H' aP q R'=>?_;exact Lf f.F c1 c4 c5 h1 hc f.hA R' (g_ q.1 q.2)
theorem pO{o:Expr}{name:Str}{apos pos:Pos}{env:Env}{ov:Value}{n:Nat}{args:List (Bool×Sem Value)}(hn:n<29)(ha:args.any (·.1)=false)(hl:(apos.endLine==pos.line)=true):
 methodCall o name apos pos env ov n args []=(do
  let (f,first)<-holding [ov] (getMethod ov name (do return (<-importBound o env).getD true))
  callWith pos f first args []):=by
 have hf:methodCallForm n args []=true:=by
  unfold methodCallForm;have:args.all (λx=> !x.1)=true:=by
   rw[ZV];intro x hx;have:=List.any_eq_false.mp ha x hx
   simpa using this
  rw[this];simp;exact(aj 0x11001e6014001d6014110) _ hn
 unfold methodCall;rw[hf,show calleeOf true o env ov name=getMethod ov name (do return (<-importBound o env).getD true) from if_pos rfl,show methodCallPos true o env apos pos=pure pos from if_pos (by rw[hl];rfl)]
 rfl
theorem uG{D:String}{n:Str}{o:Expr}{apos pos:Pos}(hb:cq o=true)(hl:(apos.endLine==pos.line)=true)(hn:xs.length<29)(ho:a_ L sc m c (.bM D c1) o)(he:dO L sc m c1 c2 xs)
 (go:∀(f:gG L sc m) (ρ:Lo) (H:Hp) (ow:Nat->Option Nat) (s:Shared) (E:Value->Shared->Prop) (st:List V) (Q:Po) (b:Nat) (P:Value×List Value->Shared->Prop),At f ρ H ow s->Kind H (.ref b) D->
  (∀fv,(∀a,fv= .ref a->keepIn f.W.K (.ref a)=true)->(∀vs s' H' aP,vs.length=xs.length->f.wp c2 ρ ((vs.map aq).reverse++(.ref b::st)) H' Q->RH f.W H' aP s'.heap->wpAny f.W.M f.A (call fv (.ref b::vs) []) (bQ f.W H' aP s' λv h=>f.wp k ρ (v::st) h Q) E s')->P (fv,[.ref b]) s)->
  wpAny f.W.M f.A (getMethod (.ref b) n (do return (<-importBound o f.env).getD true)) P E s):a_ L sc m c k (.Call (.Attribute o n apos) xs [] pos):=by
 refine p_ (λf ρ H ow s E st Q a w=>?_) λ_=>rfl;rw[arm_eval_Call,dy hb];refine Zl (jQ a (ho.1 f ρ H ow s E st Q a w) λu s₁ H1 bS q a1 G1=>?_);refine oa q λhk q=>?_;refine oea (id hk) λb hu JB=>?_;obtain rfl:=aO hu;refine Zl (Z7 ?_);show wpAny f.W.M f.A (methodCall o n apos pos f.env (.ref b) (xs.length+0) (backTo pos (starEach xs f.env)) []) _ _ _;rw[pO (n:=xs.length+0) hn (he.1 f.env pos) hl];refine cM G1 (Zl (ZW (go f ρ H1 bS s₁ E st Q b _ a1 hk λfv hf hc=>?_)));exact hG (first:=[.ref b]) f.F (he.1 f.env pos) hf (he.2 f pos ρ H1 bS s₁ E _ Q a1 q) λvs s' H' aP q R'=>hc vs s' H' aP (by rw[<-q.1,Za]) q.2 R'
theorem Ec{pm:Pm}{o:Expr}{apos pos:Pos}(hb:cq o=true)(hl:(apos.endLine==pos.line)=true)(hn:xs.length<29)(ho:a_ L sc m c (.bM (qG pm) c1) o)(he:dO L sc m c1 (.prim pm xs.length k) xs):a_ L sc m c k (.Call (.Attribute o (Str.ofString (tS pm)) apos) xs [] pos):=by
 refine uG hb hl hn ho he λf ρ H ow s E st Q b P a hk q=>?_;refine yR a.R hk (q _ (λ_ e=>by cases e) λvs s' H' aP l w R'=>?_) λfs e=>?_
 . refine oeeeaa (g_ (by rw[Za];exact l) w) λa' w' o' e p w=>?_
   cases e
   exact Hy f.F.sm R' p w
 . refine oeeeea (a.R.obj b _ e) λcl _ _ _ hc _=>?_;have h1:f.W.cls "list"=none:=f.F.Bc.1;have h2:f.W.cls "dict"=none:=f.F.Bc.2
   cases pm<;>first|exact Option.noConfusion (heq_of_eq (h1.symm.trans hc))|exact absurd (h1.symm.trans hc) (λz=>by cases z)|exact absurd (h2.symm.trans hc) (λz=>by cases z)
theorem Ef{D n g:String}{o:Expr}{apos pos:Pos}(hb:cq o=true)(hl:(apos.endLine==pos.line)=true)(hn:xs.length<29)(hg:L.meths.lookup g=some (D,n))(hc:L.can m g=true)(hf:iA D n=false)(hD:(D== "list"||D== "dict")=false)(ho:a_ L sc m c (.bM D c1) o)(he:dO L sc m c1 (.call g (xs.length+1) k) xs):
 a_ L sc m c k (.Call (.Attribute o (Str.ofString n) apos) xs [] pos):=by
 refine uG hb hl hn ho he λf ρ H ow s E st Q b P a hk q=>?_;refine oeeaa (f.F.PA g D n hg) λcl fa c1 c2 c3=>?_;refine oa (f.F.yj g fa c2) λht hkp=>?_;refine oea hk λb' e hk=>?_
 cases e
 rcases hk with ⟨fs,hk⟩|⟨rfl,_⟩|⟨rfl,_⟩
 . refine yS f.F a.R hk hf c1 c3 ht (q _ (λ_ e=>by cases e;exact hkp) λvs s' H' aP l w R'=>?_);refine xz (vs:=.ref b::vs) hc f.hA R' ?_ c2;have e:(vs.map aq).reverse++(.ref b::st)=(V.ref b::vs.map aq).reverse++st:=by rw[Xs,Zo];rfl
   rw[e] at w;exact g_ (by rw[Ym,Za,l]) w
 . exact absurd hD (by decide)
 . exact absurd hD (by decide)
end
end
section
open PySem PySem.W PyProof.Rows PySem.Calls
section
variable {L:Lv}{sc:Scope}{m:Nat}{c k c1 c2:C}{v:Expr}{p pos p':Pos}
theorem qI{g:String}{fv:Value}{o:U}(hg:aS sc g=true)(hf:(g,fv)∈JN)(hr:∀a,fv≠ .ref a)(ip:notStar v=true)(he:a_ L sc m c (.u o k) v)
 (go:∀(f:gG L sc m) (u:Value) (s:Shared) (H:Hp) (ow:Nat->Option Nat) (E:Value->Shared->Prop) (r:Rs) (Q:V->Hp->Prop),RH f.W H ow s.heap->UR o (aq u) H r->r.post H Q->wpAny f.W.M f.A (call fv [u] []) (bQ f.W H ow s Q) E s):
 a_ L sc m c k (.Call (.Name (Str.ofString g) p) [v] [] pos):=by
 refine p_ (λf ρ H ow s E st Q a w=>?_) λ_=>rfl;rw[cm];refine Zl (vW a hg hf ?_);rw[ck ip];refine hG f.F (Qs:=λvs h=>∃u,vs=[u]/\f.wp (.u o k) ρ (u::st) h Q) rfl (λa e=>absurd e (hr a)) (Xf (jQ a (he.1 f ρ H ow s E st Q a w) λu s₁ H1 bS q a1 G1=>XU ⟨H1,bS,⟨_,rfl,q⟩,a1.R,G1⟩)) λvs s' H' aP q R'=>?_;obtain ⟨u,hu,r,hr,q⟩:=q;obtain ⟨u',rfl,rfl⟩:=iE hu;exact go f u' s' H' aP E r _ R' hr q
theorem Ia(hg:aS sc "len"=true)(ip:notStar v=true)(he:a_ L sc m c (.u .len k) v):a_ L sc m c k (.Call (.Name (Str.ofString "len") p) [v] [] pos):=
 qI (fv:=.builtin "len") hg (.head _) (λ_ z=>by cases z) ip he λf u s H ow E r Q R hr q=>Lh f.F.sm R hr q
theorem Ih(hg:aS sc "abs"=true)(ip:notStar v=true)(he:a_ L sc m c (.u .abs k) v):a_ L sc m c k (.Call (.Name (Str.ofString "abs") p) [v] [] pos):=
 qI (fv:=.builtin "abs") hg (.tail _ (.head _)) (λ_ z=>by cases z) ip he λf u s H ow E r Q R hr q=>by
  refine oea hr λi hi bV=>?_;try clear hr;subst bV
  refine oe (bK hi) λt cw=>?_;subst cw;exact Ll R q
theorem zE(hg:aS sc "sorted"=true)(ip:notStar v=true)(he:a_ L sc m c (.u .sorted k) v):a_ L sc m c k (.Call (.Name (Str.ofString "sorted") p) [v] [] pos):=
 qI (fv:=.builtin "sorted") hg (.tail _ (.tail _ (.head _))) (λ_ z=>by cases z) ip he λf u s H ow E r Q R hr q=>by
  refine oeeaaa hr λa l ha h1 h2 c8=>?_;try clear hr;subst c8
  rw[aO ha];exact BL f.F.sm f.hA.hd R h1 h2 q
theorem vt(hg:aS sc "list"=true)(ip:notStar v=true)(he:a_ L sc m c (.u .cO k) v):a_ L sc m c k (.Call (.Name (Str.ofString "list") p) [v] [] pos):=
 qI (fv:=.type "list") hg (.tail _ (.tail _ (.tail _ (.tail _ (.head _))))) (λ_ z=>by cases z) ip he λf u s H ow E r Q R hr q=>by
  refine oeeaa hr λa xs ha h1 dW=>?_;try clear hr;subst dW
  rw[aO ha];exact wA R h1 q
theorem uj:("dict",Value.type "dict")∈JN:=.tail _ (.tail _ (.tail _ (.tail _ (.tail _ (.head _)))))
theorem vw(hg:aS sc "dict"=true)(ip:notStar v=true)(he:a_ L sc m c (.u .copyDict k) v):a_ L sc m c k (.Call (.Name (Str.ofString "dict") p) [v] [] pos):=
 qI (fv:=.type "dict") hg uj (λ_ z=>by cases z) ip he λf u s H ow E r Q R hr q=>by
  refine oeeaa hr λa xs ha h1 gW=>?_;try clear hr;subst gW
  rw[aO ha];exact wB f.F.sm R h1 q
theorem zH(hg:aS sc "dict"=true)(ip:notStar v=true)(he:a_ L sc m c (.u .dictOf k) v):a_ L sc m c k (.Call (.Name (Str.ofString "dict") p) [v] [] pos):=
 qI (fv:=.type "dict") hg uj (λ_ z=>by cases z) ip he λf u s H ow E r Q R hr q=>by
  refine oeeeaaaaa hr λa xs ps ha h1 h2 h3 h4 gE=>?_;try clear hr;subst gE
  rw[aO ha];exact BQ f.hA.hd R h1 h2 h3 h4 q
theorem xR{g:String}{o:U}(hg:aS sc "isinstance"=true)(ip:notStar v=true)(he:a_ L sc m c (.u o k) v)
 (hc:∀(f:gG L sc m),∃cv,(∀(ρ:Lo) (H:Hp) (ow:Nat->Option Nat) (s:Shared) (E:Value->Shared->Prop) (P:Value->Shared->Prop),At f ρ H ow s->P cv s->wpAny f.W.M f.A (eval (.Name (Str.ofString g) p') f.env) P E s)/\
  ∀(u:Value) (s:Shared) (H:Hp) (ow:Nat->Option Nat) (E:Value->Shared->Prop) (r:Rs) (Q:V->Hp->Prop),RH f.W H ow s.heap->UR o (aq u) H r->r.post H Q->wpAny f.W.M f.A (call (.builtin "isinstance") [u,cv] []) (bQ f.W H ow s Q) E s):
 a_ L sc m c k (.Call (.Name (Str.ofString "isinstance") p) [v,.Name (Str.ofString g) p'] [] pos):=by
 refine p_ (λf ρ H ow s E st Q a w=>?_) λ_=>rfl;refine oea (hc f) λcv hc go=>?_;rw[cm];refine Zl (vW a hg (v:=.builtin "isinstance") (.tail _ (.tail _ (.tail _ (.head _)))) ?_);rw[ck ip,ck (x:=.Name (Str.ofString g) p') rfl];refine WA (P:=λ_=>True) rfl (eY λa e=>by cases e) (kS rfl (Xf (jQ a (he.1 f ρ H ow s E st Q a w) λu s₁ H1 bS q a1 G1=>Xf (hc ρ H1 bS s₁ E _ a1 (XU ⟨trivial,?_⟩)))));refine oea q λr hr q=>?_;exact cM G1 (go u s₁ H1 bS E r _ a1.R hr q)
theorem zG(hg:aS sc "isinstance"=true)(hb:aS sc "bool"=true)(ip:notStar v=true)(he:a_ L sc m c (.u .isBool k) v):
 a_ L sc m c k (.Call (.Name (Str.ofString "isinstance") p) [v,.Name (Str.ofString "bool") p'] [] pos):=
 xR hg ip he λf=>⟨.type "bool",λρ H ow s E P a q=>vW a hb (.tail _ (.tail _ (.tail _ (.tail _ (.tail _ (.tail _ (.tail _ (.tail _ (.tail _ (.head _)))))))))) q,λu s H ow E r Q R hr q=>BN f.F.good f.F.Q2 R hr q⟩
theorem zF{D:String}(hg:aS sc "isinstance"=true)(hb:aS sc D=true)(hD:L.cls.contains D=true)(ip:notStar v=true)(he:a_ L sc m c (.u (.cL D) k) v):
 a_ L sc m c k (.Call (.Name (Str.ofString "isinstance") p) [v,.Name (Str.ofString D) p'] [] pos):=
 xR hg ip he λf=>by
  refine oea (f.F.P_ D hD) λcl c1 c2=>?_;exact⟨.ref cl,λρ H ow s E P a q=>rJ a hb c2 q,λu s H ow E r Q R hr q=>BM f.F.good f.F.Q2 R c1 hr q⟩
theorem Eb{j:Nat}{id:Str}{p1 p2 p3:Pos}{k1:Nat}(he:a_ L sc m c (.u (.yx j) k) (.Name id p)):a_ L sc m c k (.Subscript (.Name id p) (.Slice none (some (.Constant (.int j) k1 p1)) none p2) p3):=by
 refine p_ (λf ρ H ow s E st Q a w=>?_) λ_=>rfl;rw[oX];refine Zl (jQ a (he.1 f ρ H ow s E st Q a w) λu s₁ H1 bS q a1 G1=>?_);obtain ⟨_,⟨a,xs,ha,hx,rfl⟩,q⟩:=q;obtain rfl:=aO ha;refine oeaa (Bw a1.R hx) λvs hl jX hb=>?_;subst jX;have Jt:=yX vs j;have pZ:(slicePick vs none (some (j:Int)) none).size<=big:=by
  rw[<-Zr,Jt];exact Zf (List.length_take_le' ..) (by rw[Zr];exact hb)
 refine Zl (ZW (wpAny_Slice (XI (VI (YW (XI ?_))))));refine Zl (Z7 (Zy (mV (s:={s₁ with toks:=s₁.toks+1}) (R:=a1.R) hl hb .none (.int _ _) .none (λz=>by cases z) pZ (by rw[Jt,List.map_take];exact q) (aN:=[.ref a]) (λi=>.inr rfl) λr=>rfl) (λ_ _ z=>z.after (G1.tok _)) λ_ _ e=>e))
theorem H7{id:Str}{p1 p2 p3 p4:Pos}{k1:Nat}(he:a_ L sc m c (.u .rev k) (.Name id p)):a_ L sc m c k (.Subscript (.Name id p) (.Slice none none (some (.UnaryOp .USub (.Constant (.int 1) k1 p1) p4)) p2) p3):=by
 refine p_ (λf ρ H ow s E st Q a w=>?_) λ_=>rfl;rw[oX];refine Zl (jQ a (he.1 f ρ H ow s E st Q a w) λu s₁ H1 bS q a1 G1=>?_);obtain ⟨_,⟨a,xs,ha,hx,rfl⟩,q⟩:=q;obtain rfl:=aO ha;refine oeaa (a1.R.obj a _ hx) λvs hp gy hb=>?_;subst gy;have Jt:=krv_pick vs;have pZ:(slicePick vs none none (some (-1))).size<=big:=by rw[Jt,Xc,YR,Zr];exact ib hb
 refine Zl (ZW (wpAny_Slice (XI (XI (VI (VL (YW (Vx ?_))))))));refine Zl (Z7 (Zy (mV (s:={s₁ with toks:=s₁.toks+1+1}) (R:=a1.R) hp.isList (ib hb) .none .none (.int _ _) (λz=>by cases z) pZ (by rw[Jt,Wn];exact q) (aN:=[.ref a]) (λi=>.inl rfl) λr=>rfl) (λ_ _ z=>z.after (G1.tok _)) λ_ _ e=>e))
noncomputable def Src.start:Src->Hp->Prop
 | .keys a es,h=>h a=some (.dict es)
 |_,_=>True
noncomputable def fT(W:dF)(A:Around)(tg:Expr)(H:Hp)(ow:Nat->Option Nat)(s:Shared)(Qs:Src->Hp->Prop)(w7:Value)(s₂:Shared):Prop:=
 ∃I wr St aK H₁ cG,w7= .ref I/\dj W A tg I wr aK St/\aK.items.length<=big/\Qs aK H₁/\RH W H₁ cG s₂.heap/\Go H ow s H₁ cG s₂/\St 0 s₂.heap/\aK.start H₁/\∀b,wr b->s.heap.get? b=none/\¬ er H₁ cG b
noncomputable def kI(L:Lv)(sc:Scope)(m:Nat)(sk:SK)(t:List String)(c k:C)(x:Expr):Prop:=
 (∀env v,foldedSetIterable x env v=pure v)/\
 ∀(f:gG L sc m) (tg:Expr) (ρ:Lo) (H:Hp) (ow:Nat->Option Nat) (s:Shared) (E:Value->Shared->Prop) (st:List V) (Q:Po) (D:Src->Hp->Prop),(t.length=2->∃es k p,tg= .Tuple es k p)->At f ρ H ow s->(∀IJ h,f.wp k ρ IJ h Q->∃aK bH,tN sk IJ h aK bH/\(bH=st->D aK h))->
  f.wp c ρ st H Q->wpAny f.W.M f.A (eval x f.env) (λv s₁=>wpAny f.W.M f.A (pyIter v) (fT f.W f.A tg H ow s D) E s₁) E s
theorem AT{t:List String}{tg:Expr}(h:vM sc t tg)(h2:t.length=2):∃es k p,tg= .Tuple es k p:=by
 rcases h with ⟨n,p,rfl,_⟩|⟨_,es,k,p,e,_⟩
 . exact absurd h2 (by decide:¬ 1=2)
 . exact⟨es,k,p,e⟩
noncomputable def v8:Expr->Bool
 | .Set _ _ _=>false
 |_=>true
theorem iS{x:Expr}(h:v8 x=true)(env:Env)(v:Value):foldedSetIterable x env v=pure v:=by
 cases x<;>first|rfl|cases h
theorem dS{W:dF}{s s₁:Shared}{H H1:Hp}{ow bS:Nat->Option Nat}(R1:RH W H1 bS s₁.heap)(G1:Go H ow s H1 bS s₁){a:Nat}(h:s₁.heap.get? a=none):s.heap.get? a=none:=by
 cases e:s.heap.get? a with
 |none=>rfl
 |some o=>exact absurd h (G1.alive R1 (by rw[e];exact λz=>by cases z))
theorem grown{W:dF}{s₁:Shared}{h':Heap}{tk:Nat}{s:Shared}{H H1:Hp}{ow bS:Nat->Option Nat}(R1:RH W H1 bS s₁.heap)(G1:Go H ow s H1 bS s₁)(hk:∀b o,s₁.heap.get? b=some o->h'.get? b=some o):
 RH W H1 bS h'/\Go H ow s H1 bS {s₁ with heap:=h',toks:=tk}:=⟨R1.keeps hk,G1.off (tk:=tk) (λ_=>False) (λb o _ e=>hk b o e) λ_ z=>z.elim⟩
theorem rF{W:dF}{A:Around}{s s₁:Shared}{H H1:Hp}{ow bS:Nat->Option Nat}{tg:Expr}{aK:Src}{St:Nat->Heap->Prop}{Q:Src->Hp->Prop}{ob:Obj}(R1:RH W H1 bS s₁.heap)(G1:Go H ow s H1 bS s₁)
 (T:dj W A tg s₁.heap.objs.size (· =s₁.heap.objs.size) aK St) (hl:aK.items.length<=big) (q:Q aK H1) (st:St 0 (s₁.heap.push ob)) (sa:aK.start H1):fT W A tg H ow s Q (.ref s₁.heap.objs.size) {s₁ with heap:=s₁.heap.push ob}:=by
 refine oa (grown (tk:=s₁.toks) R1 G1 λb o e=>ZL ob e) λR2 G2=>?_;have hd:s₁.heap.get? s₁.heap.objs.size=none:=bU (Zs _);exact⟨_,_,St,aK,H1,bS,rfl,T,hl,q,R2,G2,st,sa,λb hb=>by subst hb;exact⟨dS R1 G1 hd,λz=>R1.ie z hd⟩⟩
variable {x:Expr}{t:List String}
theorem ut{f:gG L sc m}{tg:Expr}{ρ:Lo}{H H1:Hp}{ow bS:Nat->Option Nat}{s s₁:Shared}{E:Value->Shared->Prop}{v:Value}{st bH:List V}{aK:Src}{D:Src->Hp->Prop}(a1:At f ρ H1 bS s₁)(G1:Go H ow s H1 bS s₁)
 (hs:tN .seq (aq v::st) H1 aK bH) (d:bH=st->D aK H1):wpAny f.W.M f.A (pyIter v) (fT f.W f.A tg H ow s D) E s₁:=by
 have R1:=a1.R;refine oea hs λa e qs=>?_;try clear hs
 have e1:=aO (Yr e).1;subst e1;have d:=d (Yr e).2.symm;rcases qs with ⟨xs,hx,rfl⟩|⟨xs,hx,rfl⟩|⟨es,hx,rfl⟩
 . refine oeaa (R1.obj a _ hx) λvs hp qg hb=>?_;subst qg;exact WU hp.isList (rF R1 G1 (dj.list f.hA.hd _ a _) (pE▸hb) d ⟨_,ZU _ rfl,rfl,rfl⟩ trivial)
 . refine oeaa (R1.obj a _ hx) λvs hp tG hb=>?_;subst tG;exact wpAny_pyIter_tuple hp (rF R1 G1 (dj.tup f.hA.hd _ a _) (qT▸hb) d ⟨_,ZU _ rfl,rfl,rfl⟩ trivial)
 . refine oeaa (R1.obj a _ hx) λkvs hd tF hb=>?_;subst tF;refine oe hd.dictAt λep FM=>?_;have vF:a≠s₁.heap.objs.size:=λe=>Ws _ (e▸FM.lt_size);exact wpAny_pyIter_dict (cN R1 (.inl hx) f.F.sm) FM (rF R1 G1 (dj.keys f.hA.hd _ a vF kvs ep) (pF▸hb) d ⟨⟨_,ZU _ rfl,rfl,rfl⟩,FM.push _⟩ hx)
theorem HN(he:a_ L sc m c k x)(hx:v8 x=true):kI L sc m .seq t c k x:=by
 refine⟨iS hx,λf tg ρ H ow s E st Q D ht a hD w=>?_⟩;refine jQ a (he.1 f ρ H ow s E st Q a w) λv s₁ H1 bS q a1 G1=>?_;exact oeea (hD _ _ q) λaK bH hs d=>ut a1 G1 hs d
theorem Co(hg:aS sc "range"=true)(ip:notStar v=true)(he:a_ L sc m c k v):kI L sc m .range t c k (.Call (.Name (Str.ofString "range") p) [v] [] pos):=by
 refine⟨iS rfl,λf tg ρ H ow s E st Q D ht a hD w=>?_⟩;rw[cm];refine Zl (vW a hg (v:=.type "range") (.tail _ (.tail _ (.tail _ (.tail _ (.tail _ (.tail _ (.head _))))))) ?_);rw[ck ip];refine WA (P:=λ_=>True) rfl (eY λa e=>by cases e) (kS rfl (Xf (jQ a (he.1 f ρ H ow s E st Q a w) λu s₁ H1 bS q a1 G1=>XU ⟨trivial,?_⟩)));have R1:=a1.R;refine oeea (hD _ _ q) λaK bH tE d=>?_;refine oeaa tE λn e hb r_3=>?_;try clear tE;subst r_3
 refine oe (bK (Yr e).1) λtk vR=>?_;subst vR;have d:=d (Yr e).2.symm;have pZ:Builtin.Range.rangeSize 0 n 1=n:=by rw[rangeSize_one];split<;>first|exact ZA ((aj 0x10150001530010) n) ((aj 0x10001530150010) n)|(rename_i jH;exact ZA ((aj 0x1015000010) n) ((aj 0x11000150015007110) n jH))
 refine call_range_1 (wpAny_pyIter_range (t:=s₁.toks) (u:=tk) (v:=s₁.toks+1) (ZU _ rfl) ?_ ?_)
 . unfold Builtin.Range.small Builtin.Range.rangeFitsLong;rw[pZ];have:(big:Int)=1000000:=rfl;simp
   omega
 . rw[pZ];refine oa (grown (tk:=s₁.toks+1+1) R1 G1 (h':=s₁.heap.push {cls:=.type "range",data:=.fields #[.int 0 s₁.toks,.int n tk,.int 1 (s₁.toks+1)]}) λb o e=>ZL _ e) λR2 G2=>?_;refine rF (s₁:={s₁ with heap:=s₁.heap.push _,toks:=s₁.toks+1+1}) R2 G2 (dj.range f.hA.hd _ n) (nh▸hb) d ?_ trivial;have:=ZU (s₁.heap.push {cls:=.type "range",data:=.fields #[.int 0 s₁.toks,.int n tk,.int 1 (s₁.toks+1)]}) (o:={cls:=.type "range_iterator",data:=.fields #[rawInt 0,rawInt n,rawInt 1]}) rfl
   simpa [IsRangeIter] using this
theorem DR(hg:aS sc "enumerate"=true)(ip:notStar v=true)(h2:t.length=2)(he:a_ L sc m c k v):kI L sc m .enum t c k (.Call (.Name (Str.ofString "enumerate") p) [v] [] pos):=by
 refine⟨iS rfl,λf tg ρ H ow s E st Q D ht a hD w=>?_⟩;refine oeee (ht h2) λes k pp tD=>?_;subst tD;rw[cm];refine Zl (vW a hg (v:=.type "enumerate") (.tail _ (.tail _ (.tail _ (.tail _ (.tail _ (.tail _ (.tail _ (.head _)))))))) ?_);rw[ck ip];refine WA (P:=λ_=>True) rfl (eY λa e=>by cases e) (kS rfl (Xf (jQ a (he.1 f ρ H ow s E st Q a w) λu s₁ H1 bS q a1 G1=>XU ⟨trivial,?_⟩)));have R1:=a1.R;refine oeea (hD _ _ q) λaK bH ri d=>?_;refine oeeaa ri λa xs e hx r_4=>?_;try clear ri;subst r_4
 have e1:=aO (Yr e).1;subst e1;have d:=d (Yr e).2.symm;refine oeaa (R1.obj a _ hx) λvs hp vQ hb=>?_;subst vQ;refine call_enumerate_list hp.isList λh' z9 hit hz hk=>wpAny_pyIter_enum z9 ?_;refine oa (grown (tk:=s₁.toks) R1 G1 hk) λR2 G2=>?_;have d0:s₁.heap.get? s₁.heap.objs.size=none:=bU (Zs _);have d1:s₁.heap.get? (s₁.heap.objs.size+1)=none:=bU (Yj _);refine⟨_,_,_,.enum a (vs.toList.map aq),H1,bS,rfl,dj.enum f.hA.hd (s₁.heap.objs.size+1) s₁.heap.objs.size a (W7 _) _,pG▸hb,d,R2,G2,⟨⟨_,z9⟩,hit⟩,trivial,λb hb=>?_⟩;rcases hb with rfl|rfl
 . exact⟨dS R1 G1 d1,λz=>R1.ie z d1⟩
 . exact⟨dS R1 G1 d0,λz=>R1.ie z d0⟩
theorem HJ{a b:Nat}(h:¬ a=b): @Ne Addr a b:=h
theorem yJ{N c d:Nat}(h:c<N)(k:d<N):ZipApart (N+4) (N+2) (N+3) N (N+1) c d:=by
 constructor<;>(apply HJ;first|exact λcy=>(aj 0x10b40012200125110) N cy|exact λcy=>(aj 0x10b40012300125110) N cy|exact λcy=>(aj 0x10b40012015110) N cy|exact λcy=>(aj 0x10b40012100125110) N cy|exact λcy=>(aj 0x10b30012200125110) N cy|exact λcy=>(aj 0x1b01200125110) N cy|exact λcy=>(aj 0x1b10012200125110) N cy|exact λcy=>(aj 0x1b01300125110) N cy|exact λcy=>(aj 0x1b10012300125110) N cy|exact λcy=>(aj 0x10b10012015110) N cy|exact λcy=>(aj 0x101b4011201511014220) c N h cy|exact λcy=>(aj 0x101b3011201511014220) c N h cy|exact λcy=>(aj 0x101b1101511014220) c N h cy|exact λcy=>(aj 0x101b1011201511014220) c N h cy|exact λcy=>(aj 0x101b4011201511014220) d N k cy|exact λcy=>(aj 0x101b3011201511014220) d N k cy|exact λcy=>(aj 0x101b1101511014220) d N k cy|exact λcy=>(aj 0x101b1011201511014220) d N k cy)
theorem HM{u:Expr}(hg:aS sc "zip"=true)(ip:notStar v=true)(PK:notStar u=true)(h2:t.length=2)(he:a_ L sc m c c1 v)(hf:a_ L sc m c1 k u):kI L sc m .zip t c k (.Call (.Name (Str.ofString "zip") p) [v,u] [] pos):=by
 refine⟨iS rfl,λf tg ρ H ow s E st Q D ht a hD w=>?_⟩;refine oeee (ht h2) λes k' pp tC=>?_;subst tC;rw[cm];refine Zl (vW a hg (v:=.type "zip") (.tail _ (.tail _ (.tail _ (.tail _ (.tail _ (.tail _ (.tail _ (.tail _ (.head _))))))))) ?_);rw[ck ip,ck PK];refine WA (P:=λ_=>True) rfl (eY λa e=>by cases e) (kS rfl (Xf (jQ a (he.1 f ρ H ow s E st Q a w) λx s₁ H1 bS q a1 G1=>?_)));refine Xf (jQ a1 (hf.1 f ρ H1 bS s₁ E _ Q a1 q) λy s₂ H2 gF q a2 G2=>XU ⟨trivial,?_⟩);have R2:=a2.R;refine oeea (hD _ _ q) λaK bH tB d=>?_;refine oeeeeaaaa tB λc d' xs ys e hx hy hl r_5=>?_;try clear tB;subst r_5
 have e1:=aO (Yr e).1;have e2:=aO (Yr (Yr e).2).1;subst e1 e2;have d:=d (Yr (Yr e).2).2.symm;refine oeaa (R2.obj c _ hx) λvs hp tz hb=>?_;subst tz;refine oeaa (R2.obj d' _ hy) λus nR vP qe=>?_;subst vP;have G:=G1.trans G2;refine call_zip_2 hp.isList nR.isList λh' Q9 CU Dc hi1 MV pZ hk=>wpAny_pyIter_zip Q9 ?_;refine oa (grown (tk:=s₂.toks) R2 G hk) λR3 G3=>?_;have dead:∀i,s₂.heap.get? (s₂.heap.objs.size+i)=none:=λi=>bU (ZD _ _);have cl:c<s₂.heap.objs.size:=by refine oe hp λ_ e=>?_;try clear hp;exact Yg e
 have dl:d'<s₂.heap.objs.size:=by refine oe nR λ_ e=>?_;try clear nR;exact Yg e
 have Z:ZipApart (s₂.heap.objs.size+4) (s₂.heap.objs.size+2) (s₂.heap.objs.size+3) s₂.heap.objs.size (s₂.heap.objs.size+1) c d':=yJ cl dl;refine⟨_,_,_,.zip c d' (vs.toList.map aq) (us.toList.map aq),H2,gF,rfl,dj.zip f.hA.hd (s₂.heap.objs.size+4) (s₂.heap.objs.size+2) (s₂.heap.objs.size+3) s₂.heap.objs.size (s₂.heap.objs.size+1) c d'
  Z _ _,?_,d,R3,G3,⟨Q9,CU,⟨_,_,Dc⟩,hi1,MV⟩,trivial,λb hb=>?_⟩
 . exact Zf (YI ((Za _).trans Uu)) (Zf (Vh ..) hb)
 . rcases hb with rfl|rfl|rfl|rfl|rfl
   . exact⟨dS R2 G (dead 4),λz=>R2.ie z (dead 4)⟩
   . exact⟨dS R2 G (dead 2),λz=>R2.ie z (dead 2)⟩
   . exact⟨dS R2 G (dead 3),λz=>R2.ie z (dead 3)⟩
   . exact⟨dS R2 G (dead 0),λz=>R2.ie z (dead 0)⟩
   . exact⟨dS R2 G (dead 1),λz=>R2.ie z (dead 1)⟩
end
end
section
open PySem PySem.W PyProof.Rows PySem.Calls
noncomputable def cf(bY sc:Scope):Scope:={bY with names:=bY.names.map λ(n,k)=>if (k== .free&&sc.kind== .function&&sc.names.lookup n==some .cell)=true then(n,.cell) else(n,k)}
noncomputable def oC(t:List String)(bY sc:Scope)(x:Str×NameKind):Bool:=match x.2 with
 | .local=>bY.names.lookup x.1==some .local&&(x.1==Str.ofString ".0"||t.any λn=>x.1==Str.ofString n)
 | .globalImplicit=>true
 | .free=>sc.names.lookup x.1==some .cell||sc.names.lookup x.1==some .free
 |_=>false
noncomputable def okInner(t:List String)(bY sc:Scope):Bool:=bY.kind== .function&&bY.names.all (oC t bY sc)
noncomputable def gO(sc:Scope)(t:List String):Bool:=t.all λn=>sc.names.lookup (Str.ofString n)==some .local
section
variable {prog:Program}{w:World}{A:Around}{E:Value->Shared->Prop}{R:Result->Shared->Prop}{s:Shared}
theorem sY{elt target iter:Expr}{ifs:List Expr}{scope:Scope}{pos:Pos}{it acc:Value}{env:Env}(I:Nat->Shared->Prop)
 (turn:∀n s,I n s->wpAny (model prog w) A (pyNext it) (λr s₁=>match r with
  |none=>R (.ok .next) s₁
  |some v=>wpAny (model prog w) A (letOwnedTupleGo target it v) (λ_ EL=>wpAny (model prog w) A (assign target env v) (λ_ s₂=>
   wpAny (model prog w) A (forIn ifs true λc r=>if r=true then do let ok<-isTrue c env (eval c env);pure (ForInStep.yield ok) else pure (ForInStep.yield r)) (λok s₃=>
    if ok=true then wpAny (model prog w) A (eval elt env) (λx s₄=>
     wpAny (model prog w) A (call (.builtin "list.append") [acc,x]) (λ_ s₅=>∃m,m<n/\I m s₅) (notedBy (model prog w) A env λe s'=>R (.error e) s') s₄) (notedBy (model prog w) A env λe s'=>R (.error e) s') s₃
    else ∃m,m<n/\I m s₃) (notedBy (model prog w) A env λe s'=>R (.error e) s') s₂) (notedBy (model prog w) A env λe s'=>R (.error e) s') EL) (notedBy (model prog w) A env λe s'=>R (.error e) s') s₁) (notedBy (model prog w) A env λe s'=>R (.error e) s') s)
 (n:Nat) (h:I n s):codeAny (model prog w) A (.compLoop (.ListComp elt [⟨target,iter,ifs,0⟩] scope pos) 0 it acc env) R s:=by
 refine codeAny_loop rfl I (λn s hI=>?_) n h;show wpAny _ A ((compTurn (.ListComp elt [⟨target,iter,ifs,0⟩] scope pos) 0 it acc env).onRaise (λx=>do noteFrame x env;theTreesLotGoes x)) _ _ s;refine wpAny_noted ?_;rw[compTurn_list];refine Zl (Z7 (Zl (Zy (turn n s hI) (λr s₁ h₁=>?_) λ_ _ h'=>h')))
 cases r with
 |none=>exact Zz h₁
 |some v=>
  refine Zl (Zy h₁ (λ_ EL LF=>?_) λ_ _ h'=>h');refine Zl (Zy LF (λ_ s₂ h₂=>Zl (Zy h₂ (λok s₃ h₃=>?_) λ_ _ h'=>h')) λ_ _ h'=>h')
  cases ok with
  |false=>exact Zz ⟨rfl,h₃⟩
  |true=>
   exact Zl (Zl (Zy h₃ (λx s₄ h₄=>Zl (Zy h₄ (λ_ s₅ h₅=>Zz (Zz ⟨rfl,h₅⟩)) λ_ _ h'=>h')) λ_ _ h'=>h'))
end
noncomputable def e_(cells:List (Str×Addr)):List (Str×NameKind)->List (Str×Addr)->List (Str×Addr)
 |[],acc=>acc
 |(n,k)::r,acc=>e_ cells r (if k== .free then(n,(cells.lookup n).getD 0)::acc else acc)
theorem lh{scope:Scope}{env:Env}:∀(l:List (Str×NameKind)) (acc:List (Str×Addr)),(∀x∈l,x.2= .free->∃c,env.cells.lookup x.1=some c)->
 (forIn l acc λ(x:Str×NameKind) cs=>(if x.2== .free then(do let c<-cellOf env x.1;pure (ForInStep.yield ((x.1,c)::cs))) else pure (ForInStep.yield cs):Sem (ForInStep (List (Str×Addr)))))=pure (e_ env.cells l acc)
 |[],acc,_=>rfl
 |(n,k)::l,acc,hl=>by
  rw[List.forIn_cons];have ih:=λacc=>lh (scope:=scope) l acc λy hy=>hl y (Zh _ hy);rw[e_]
  by_cases hk:k= .free
  . refine oe (hl (n,k) Ze hk) λc hc=>?_;rw[if_pos (beq_iff_eq.mpr hk),if_pos (beq_iff_eq.mpr hk),hc];unfold cellOf;rw[show env.cells.lookup (n,k).1=some c from hc,bind_assoc,pure_bind,pure_bind];exact ih _
  . rw[if_neg λz=>hk (beq_iff_eq.mp z),if_neg λz=>hk (beq_iff_eq.mp z),pure_bind];exact ih _
theorem qB{scope:Scope}{env:Env}(h:∀x∈scope.names,x.2= .free->∃c,env.cells.lookup x.1=some c):closureFor scope env=pure (e_ env.cells scope.names []):=by
 unfold closureFor;rw[bind_pure];exact lh (scope:=scope) _ _ h
theorem li(cells:List (Str×Addr)):∀(l:List (Str×NameKind)) (acc:List (Str×Addr)),(∀x∈l,x.2= .free->∃c,cells.lookup x.1=some c)->(∀n c,acc.lookup n=some c->cells.lookup n=some c)->
 ∀n c,(e_ cells l acc).lookup n=some c->cells.lookup n=some c
 |[],_,_,h=>h
 |(m,k)::l,acc,hl,h=>by
  refine li cells l _ (λy hy=>hl y (Zh _ hy)) λn c e=>?_
  by_cases hk:k= .free
  . refine oe (hl (m,k) Ze hk) λd hd=>?_;have hd:cells.lookup m=some d:=hd;rw[if_pos (beq_iff_eq.mpr hk),hd,ZS] at e
    by_cases z:n=m
    . rw[z,beq_self_eq_true] at e;rw[z,hd];exact e
    . rw[beq_eq_false_iff_ne.mpr z] at e;exact h n c e
  . rw[if_neg λz=>hk (beq_iff_eq.mp z)] at e;exact h n c e
theorem pL(cells:List (Str×Addr)):∀(l:List (Str×NameKind)) (acc:List (Str×Addr)) (n:Str),((n,NameKind.free)∈l\/(acc.lookup n).isSome=true)->((e_ cells l acc).lookup n).isSome=true
 |[],_,_,h=>h.elim (λh=>by cases h) id
 |(m,k)::l,acc,n,h=>by
  refine pL cells l _ n ?_;have old:(acc.lookup n).isSome=true->((if k== .free then(m,(cells.lookup m).getD 0)::acc else acc).lookup n).isSome=true:=λh=>by
   split
   . rw[ZS];split
     . rfl
     . exact h
   . exact h
  rcases h with h|h
  . rcases Zp.mp h with h|h
    . cases h
      right;show (List.lookup m ((m,(List.lookup m cells).getD 0)::acc)).isSome=true;rw[ZS,beq_self_eq_true];rfl
    . exact .inl h
  . exact .inr (old h)
theorem lookup_map2(g:Str->NameKind->NameKind)(n:Str):∀l:List (Str×NameKind),(l.map λx=>(x.1,g x.1 x.2)).lookup n=(l.lookup n).map (g n)
 |[]=>rfl
 |(m,k)::l=>by
  rw[Zw,ZS,ZS,lookup_map2 g n l]
  by_cases z:n=m
  . rw[z,beq_self_eq_true];rfl
  . rw[beq_eq_false_iff_ne.mpr z]
theorem sI{bY sc:Scope}{n:Str}:(cf bY sc).names.lookup n=(bY.names.lookup n).map λk=>if (k== .free&&sc.kind== .function&&sc.names.lookup n==some .cell)=true then .cell else k:=by
 rw[<-lookup_map2 (λn k=>if (k== .free&&sc.kind== .function&&sc.names.lookup n==some .cell)=true then .cell else k)];refine congrArg (List.lookup n) (Yn λx _=>?_);obtain ⟨m,k⟩:=x;show (if _ then _ else _)=(m,if _ then _ else _);split<;>rfl
theorem jT{t:List String}{bY sc:Scope}(h:okInner t bY sc=true):bY.kind= .function/\(∀x∈bY.names,x.2= .local->x.1=Str.ofString ".0"\/∃n∈t,x.1=Str.ofString n)/\
 (∀x∈bY.names,x.2≠ .cell)/\(∀x∈bY.names,x.2= .local->bY.names.lookup x.1=some .local)/\
 (∀x∈bY.names,x.2= .free->sc.names.lookup x.1=some .cell\/sc.names.lookup x.1=some .free):=by
 refine oa (aQ h) λh1 h2=>?_;have ok:∀x∈bY.names,oC t bY sc x=true:=ZV.mp h2;have loc:∀x∈bY.names,x.2= .local->(bY.names.lookup x.1==some .local&&(x.1==Str.ofString ".0"||t.any λn=>x.1==Str.ofString n))=true:=λx hx hl=>by
  have:=ok x hx;unfold oC at this;rw[hl] at this;exact this
 refine⟨beq_iff_eq.mp h1,λx hx hl=>?_,λx hx hl=>?_,λx hx hl=>beq_iff_eq.mp (aQ (loc x hx hl)).1,λx hx hl=>?_⟩
 . refine(YB.mp (aQ (loc x hx hl)).2).imp beq_iff_eq.mp λz=>?_;refine oea (W4.mp z) λn hn e=>?_;exact⟨n,hn,beq_iff_eq.mp e⟩
 . have:=ok x hx;unfold oC at this;rw[hl] at this;cases this
 . have:=ok x hx;unfold oC at this;rw[hl] at this;exact(YB.mp this).imp beq_iff_eq.mp beq_iff_eq.mp
noncomputable def less(ρ:Lo)(t:List String):Lo:=λy=>if t.contains y=true then none else ρ y
theorem oT{ρ:Lo}{t:List String}(y:String)(h:y∉t):less ρ t y=ρ y:=if_neg λz=>h (ZZ.mp z)
theorem mf{ρ:Lo}{t:List String}{y:String}{v:V}(e:less ρ t y=some v):y∉t/\ρ y=some v:=by
 have n:y∉t:=λh=>by
  unfold less at e;rw[if_pos (ZZ.mpr h)] at e;cases e
 exact⟨n,(oT y n).symm.trans e⟩
theorem oY:∀{t:List String} {vs:List V} {ρ ρ₁:Lo},t.length=vs.length->(∀y,y∉t->ρ y=ρ₁ y)->binds ρ t vs=binds ρ₁ t vs
 |[],[],_,_,_,h=>funext λy=>h y λz=>by cases z
 |[],_::_,_,_,l,_=>by cases l
 |_::_,[],_,_,l,_=>by cases l
 |x::t,v::vs,ρ,ρ₁,l,h=>oY (t:=t) (XC l) λy hy=>by
  unfold bf
  by_cases z:y=x
  . rw[if_pos z,if_pos z]
  . rw[if_neg z,if_neg z];exact h y λm=>(Zp.mp m).elim z hy
theorem wX{H:Hp}{ρ ρ':Lo}{t:List String}{item:List V}(b:dm H ρ t item ρ'):dm H (less ρ t) t item ρ':=by
 rcases b with ⟨l,rfl⟩|⟨a,vs,e,h2,l,hv,rfl⟩
 . exact .inl ⟨l,oY l λy hy=>(oT y hy).symm⟩
 . exact .inr ⟨a,vs,e,h2,l,hv,oY l λy hy=>(oT y hy).symm⟩
theorem dm.uniq{H:Hp}{ρ ρ1 ρ2:Lo}{t:List String}{item:List V}(b:dm H ρ t item ρ1)(c:dm H ρ t item ρ2):ρ1=ρ2:=by
 rcases b with ⟨l,rfl⟩|⟨a,vs,rfl,h2,l,hv,rfl⟩<;>rcases c with ⟨l',rfl⟩|⟨a',Et,e',RC,l',CQ,rfl⟩
 . rfl
 . rw[l,e'] at RC;exact absurd RC (by show ¬ 2<=1;decide)
 . rw[l'] at h2;exact absurd h2 (by show ¬ 2<=1;decide)
 . cases e'
   have e:vs=Et:=by rcases hv with hv|hv<;>rcases CQ with CQ|CQ<;>(rw[hv] at CQ;cases CQ)<;>rfl
   rw[e]
theorem DP{H:Hp}{ρ ρ':Lo}{t:List String}{item:List V}(b:dm H ρ t item ρ')(y:String)(v:V)(e:less ρ t y=some v):ρ' y=some v:=by
 refine oa (mf e) λn e=>?_;rw[b.same y n,e]
theorem fX{α β:Type}[BEq α][LawfulBEq α]:∀{l:List (α×β)} {a:α} {b:β},l.lookup a=some b->(a,b)∈l
 |[],_,_,h=>by cases h
 |(x,y)::r,a,b,h=>by
  rw[ZS] at h
  by_cases z:a=x
  . rw[z,beq_self_eq_true] at h;rw[z,<-Z1 h];exact Ze
  . rw[beq_eq_false_iff_ne.mpr z] at h;exact Zh _ (fX h)
section
variable {W:dF}{A:Around}{E:Value->Shared->Prop}{s:Shared}{H:Hp}{ow:Nat->Option Nat}{ρ:Lo}{env:Env}
theorem zI{t:List String}{bY:Scope}{h h':Heap}{C:Nat}(x:b_ W ρ env H ow h)(R:RH W H ow h)(ok:okInner t bY env.scope=true)(hk:∀b o,h.get? b=some o->h'.get? b=some o)(hC:h.get? C=none)(hn:h'.Ns C λ_=>none):
 b_ W (less ρ t) (compEnvC bY (e_ env.cells bY.names []) C env) H ow h'/\∀n c,(e_ env.cells bY.names []).lookup n=some c->env.cells.lookup n=some c:=by
 refine oaaaa (jT ok) λo1 o2 o3 o4 o5=>?_;have AL:∀x∈bY.names,x.2= .free->∃c,env.cells.lookup x.1=some c:=λy hy hf=>by
  refine oeea (x.cells y.1 (o5 y hy hf)) λc _ e _=>?_;exact⟨c,e⟩
 have cs:=li env.cells bY.names [] AL (λ_ _ e=>by cases e);have QY:∀n,(compEnvC bY (e_ env.cells bY.names []) C env).kindOf n=(bY.names.lookup n).map λk=>if (k== .free&&env.scope.kind== .function&&env.scope.names.lookup n==some .cell)=true then .cell else k:=λn=>sI (bY:=bY) (sc:=env.scope);have R_:∀n,gX (compEnvC bY (e_ env.cells bY.names []) C env) n->bY.names.lookup n=some .free:=λn hc=>by
  unfold gX at hc;rw[QY] at hc
  cases e:bY.names.lookup n with
  |none=>rw[e] at hc;rcases hc with hc|hc<;>cases hc
  |some k=>
   cases k with
   |free=>rfl
   |cell=>exact absurd rfl (o3 _ (fX e))
   |_=>rw[e] at hc;rcases hc with hc|hc<;>cases hc
 have Bs:∀n,bY.names.lookup n=some .free->gX env n:=λn e=>o5 _ (fX e) rfl;have has:∀n,bY.names.lookup n=some .free->∃c,(e_ env.cells bY.names []).lookup n=some c:=λn e=>YJ.mp (pL env.cells bY.names [] n (.inl (fX e)));refine⟨⟨o1,x.gl,x.bi,⟨_,hn,λy v e y0 ky=>?_⟩,λy v e ky=>?_,λn kn=>?_,λn c e=>?_,λn n' c e e'=>x.apart2 n n' c (cs _ _ e) (cs _ _ e'),λb ob=>?_⟩,cs⟩
 . exfalso;rw[QY] at ky
   cases e1:bY.names.lookup (Str.ofString y) with
   |none=>rw[e1] at ky;cases ky
   |some k=>
    rw[e1] at ky;have hk:k= .local:=by
     have ky:(if _ then NameKind.cell else k)=NameKind.local:=Z1 ky;split at ky
     . cases ky
     . exact ky
    subst hk;rcases o2 _ (fX e1) rfl with z|⟨n,hn,z⟩
    . exact y0 (ed z)
    . have z:=ed z;subst z;exact(mf e).1 hn
 . have hf:=R_ _ ky;refine oe (has _ hf) λc hc=>?_;have e':=(mf e).2;refine oeeaa (x.cell y v e' (Bs _ hf)) λc' v' h1 bV h4=>?_;refine oea bV λo h2 h3=>?_;try clear bV
   have:=cs _ _ hc;rw[h1] at this;cases (this)
   exact⟨c,v',hc,⟨o,hk _ _ h2,h3⟩,h4⟩
 . have hf:=R_ _ kn;refine oe (has _ hf) λc hc=>?_;refine oeea (x.cells n (Bs _ hf)) λc' v' h1 cw=>?_;refine oea cw λo h2 h3=>?_;try clear cw
   have:=cs _ _ hc;rw[h1] at this;cases (this)
   exact⟨c,v',hc,⟨o,hk _ _ h2,h3⟩⟩
 . rintro rfl;refine oaa (x.off c (.inr ⟨n,cs _ _ e⟩)) λ_ _ p3=>?_;exact p3 hC
 . rcases ob with rfl|⟨n,e⟩
   . exact⟨λz=>R.ie z hC,cD R.keep hC,rC hn⟩
   . refine oaa (x.off b (.inr ⟨n,cs _ _ e⟩)) λp1 p2 p3=>?_;refine⟨p1,p2,?_⟩
     cases e2:h.get? b with
     |none=>exact absurd e2 p3
     |some o=>rw[hk _ _ e2];exact λz=>by cases z
theorem RH.adopt{h:Heap}{a:Nat}{o:O}(R:RH W H ow h)(ha:¬ er H ow a)(hb:W.base.get? a=none)(x:eS W ow h a o):RH W (bf H a o) ow h where
 obj:=λb p e=>by
  by_cases q:b=a
  . subst q;rw[bf,if_pos rfl] at e;cases e;exact x
  . rw[bf,if_neg q] at e;exact R.obj b p e
 ai:=λb d e=>by
  refine oaee (R.ai b d e) λe1 C fs e2=>?_;have h1:d≠a:=λq=>by subst q;exact ha (.inr ⟨b,e⟩)
  have h2:b≠a:=λq=>by subst q;exact ha (eZ e2)
  exact⟨by rw[bf,if_neg h1];exact e1,C,fs,by rw[bf,if_neg h2];exact e2⟩
 inj:=R.inj
 keep:=R.keep
 new:=λb m=>by
  rcases wb m with m|rfl
  . exact R.new b m
  . exact hb
theorem Bb{a:Nat}(h:¬ er H ow a):H a=none:=by
 cases e:H a with
 |none=>rfl
 |some o=>exact absurd (eZ e) h
theorem Go.adopt{H':Hp}{aP:Nat->Option Nat}{s':Shared}{a:Nat}{o:O}(g:Go H ow s H' aP s')(ha:H' a=none)(hs:s.heap.get? a=none):Go H ow s (bf H' a o) aP s':=
 ⟨g.st,g.keep,λb m=>(gh m).elim (g.sub b) λe=>e▸.inr hs,λb es e=>by
  refine oa (g.eA b es e) λp q=>?_;have:b≠a:=λz=>by subst z;rw[ha] at p;cases p
  exact⟨by rw[bf,if_neg this];exact p,q⟩,λb m=>fO (g.grow b m)⟩
theorem b_.LC{ρ₁:Lo}{h:Heap}(x:b_ W ρ env H ow h)(l:∀y v,ρ₁ y=some v->ρ y=some v):b_ W ρ₁ env H ow h:=
 ⟨x.fn,x.gl,x.bi,oea x.ns λm n q=>⟨m,n,λy v e=>q y v (l y v e)⟩,λy v e=>x.cell y v (l y v e),x.cells,x.apart,x.apart2,x.off⟩
noncomputable abbrev tests(ifs:List Expr)(env:Env):Sem Bool:=forIn ifs true λc r=>if r=true then do let ok<-isTrue c env (eval c env);pure (ForInStep.yield ok) else pure (ForInStep.yield r)
structure Av(W:dF)(H:Hp)(ow:Nat->Option Nat)(s:Shared)(ρ₀:Lo)(cK:Env)(D:Nat)(wr:Nat->Prop)(St:Nat->Heap->Prop)(bB:Nat->List V->Hp->Prop)(i:Nat)(s':Shared)(vs:List V)(H':Hp)(aP:Nat->Option Nat)(items:Array Value):Prop where
 inv:bB i vs H'
 R:RH W H' aP s'.heap
 G:Go H ow s H' aP s'
 st:St i s'.heap
 acc:s'.heap.PlainList D items
 vs:items.toList.map aq=vs
 sz:items.size<=i
 Do:¬ er H' aP D
 wo:∀b,wr b->¬ er H' aP b
 EN:b_ W ρ₀ cK H' aP s'.heap
theorem CF{elt tg iter:Expr}{ifs:List Expr}{bY:Scope}{pos:Pos}{t:List String}{I D:Nat}{wr:Nat->Prop}{aK:Src}{St:Nat->Heap->Prop}{R:Result->Shared->Prop}{s₄:Shared}{H₁:Hp}{cG:Nat->Option Nat}{cK:Env}
 (hA:A.handled=none) (T:dj W A tg I wr aK St) (yD:aK.plain=true) (hlen:aK.items.length<=big) (ok:vM cK.scope t tg) (al:gO cK.scope t=true)
 (st:St 0 s₄.heap) (R₁:RH W H₁ cG s₄.heap) (G₁:Go H ow s H₁ cG s₄) (hD:s₄.heap.PlainList D #[]) (EB:s.heap.get? D=none) (Dd:¬ er H₁ cG D) (hDb:W.base.get? D=none) (RA:¬ wr D)
 (EC:s.heap.get? cK.locals=none) (RB:¬ wr cK.locals) (IZ:cK.locals≠D) (hw:∀b,wr b->s.heap.get? b=none) (U1:∀b,wr b->¬ er H₁ cG b) (MK:∀b,wr b->W.base.get? b=none)
 (hcl:∀n c,cK.cells.lookup n=some c->s.heap.get? c≠none) (EN:b_ W (less ρ t) cK H₁ cG s₄.heap) (bB:Nat->List V->Hp->Prop) (i0:bB 0 [] H₁)
 (body:∀i vs H' aP (gV:Shared) item (E:Value->Shared->Prop),bB i vs H'->aK.items[i]?=some item->RH W H' aP gV.heap->aK.stays H'/\∃ρ',dm H' ρ t item ρ'/\
  (b_ W ρ' cK H' aP gV.heap->wpAny W.M A (tests ifs cK) (λok s₃=>∃H2 gF,RH W H2 gF s₃.heap/\Go H' aP gV H2 gF s₃/\
   if ok=true then wpAny W.M A (eval elt cK) (bQ W H2 gF s₃ λv h3=>bB (i+1) (vs++[v]) h3) E s₃ else bB (i+1) vs H2) E gV))
 (cJ:∀vs H',bB aK.items.length vs H'->aK.stays H')
 (fin:∀(s':Shared) H' aP vs (items:Array Value),bB aK.items.length vs H'->RH W H' aP s'.heap->Go H ow s H' aP s'->s'.heap.PlainList D items->items.toList.map aq=vs->items.size<=big->¬ er H' aP D->¬ er H' aP cK.locals->(∃m,s'.heap.Ns cK.locals m)->R (.ok .next) s'):
 codeAny W.M A (.compStart (.ListComp elt [⟨tg,iter,ifs,0⟩] bY pos) 0 (.ref I) (.ref D) cK) R s₄:=by
 have loop:codeAny W.M A (.compLoop (.ListComp elt [⟨tg,iter,ifs,0⟩] bY pos) 0 (.ref I) (.ref D) cK) R s₄:=by
  refine sY (λk s'=>∃i vs H' aP items,k=aK.items.length+1 - i/\i<=aK.items.length/\Av W H ow s (less ρ t) cK D wr St bB i s' vs H' aP items) ?_ (aK.items.length+1)
   ⟨0,[],H₁,cG, #[],rfl,ZR _,⟨i0,R₁,G₁,st,hD,rfl,Zs _,Dd,U1,EN⟩⟩
  rintro k s' ⟨i,vs,H',aP,items,rfl,hi,⟨inv,R',G',bH,De,z7,pZ,Ap,yC,EN'⟩⟩;generalize notedBy (model W.prog W.w) A cK (λe s'=>R (.error e) s')=E₀;have apart:∀{h':Heap},(∀b o,¬ wr b->s'.heap.get? b=some o->h'.get? b=some o)->RH W H' aP h'/\b_ W (less ρ t) cK H' aP h'/\h'.PlainList D items:=λ{h'} hk=>by
   refine⟨R'.apart wr hk λb hb=>⟨yC b hb,MK b hb⟩,EN'.iJ λb o ob e=>hk b o ?_ e,De.at λo e=>hk D o RA e⟩;rcases ob with rfl|⟨n,e⟩
   . exact RB
   . exact λz=>hcl n b e (hw b z)
  cases hx:aK.items[i]? with
  |none=>
   have FH:i=aK.items.length:=YO hi (YD.mp hx);subst FH;refine Zy (T.done s' H' aP (λs₁=>R (.ok .next) s₁) E₀ bH R' (cJ vs H' inv) yC λh' tk hk=>?_) (λr s₁ z=>?_) λ_ _ e=>e
   . refine oaa (apart hk) λR2 Nd JG=>?_;refine oea Nd.ns λm hm _=>?_;exact fin _ H' aP vs items inv R2 (G'.off wr hk hw) JG z7 (Zf pZ hlen) Ap (Nd.off _ (.inl rfl)).1 ⟨m,hm⟩
   . refine oa z λc8 p=>?_;try clear z;subst c8;exact p
  |some item=>
   have lG:i<aK.items.length:=(ZM.mp hx).1;have KS:aK.stays H':=(body i vs H' aP s' item E₀ inv hx R').1;have next:∀{s₅:Shared} {vs H' aP items},Av W H ow s (less ρ t) cK D wr St bB (i+1) s₅ vs H' aP items->∃m,m<aK.items.length+1 - i/\∃i vs H' aP items,m=aK.items.length+1 - i/\i<=aK.items.length/\Av W H ow s (less ρ t) cK D wr St bB i s₅ vs H' aP items:=
    λc=>⟨aK.items.length+1 - (i+1),by exact(aj 0x1011310141131210212310212101120125240) _ _ _ _ (YV ((aj 0x111011210012311014120) _ _ lG)) (Wu (Zs _)),i+1,_,_,_,_,rfl,lG,c⟩
   refine Zy (T.item i s' H' aP item (λv s₂=>wpAny W.M A (assign tg cK v) (λ_ s₂=>
    wpAny W.M A (tests ifs cK) (λok s₃=>
     if ok=true then wpAny W.M A (eval elt cK) (λx s₄=>
      wpAny W.M A (call (.builtin "list.append") [.ref D,x]) (λ_ s₅=>∃m,m<aK.items.length+1 - i/\∃i vs H' aP items,m=aK.items.length+1 - i/\i<=aK.items.length/\Av W H ow s (less ρ t) cK D wr St bB i s₅ vs H' aP items) E₀ s₄) E₀ s₃
     else ∃m,m<aK.items.length+1 - i/\∃i vs H' aP items,m=aK.items.length+1 - i/\i<=aK.items.length/\Av W H ow s (less ρ t) cK D wr St bB i s₃ vs H' aP items) E₀ s₂) E₀ s₂) E₀ hx bH R' KS yC λv h' tk Fq NN hk=>?_) (λr s₁ z=>?_) λ_ _ e=>e
   rotate_left
   . refine oea z λv dW p=>?_;try clear z;subst dW;exact p
   refine oaa (apart hk) λR2 Nd JG=>?_;have G2:=G'.off (tk:=tk) wr hk hw;refine oaea (body i vs H' aP s' item E₀ inv hx R') λ_ ρ' hb Se=>?_;refine AV (s:={s' with heap:=h',toks:=tk}) hA Nd R2 ok NN (wX hb) (X:=(· =cK.locals)) (λn hn b U0=>?_) λs₂ bd=>?_
   . have JB:cK.kindOf (Str.ofString n)=some .local:=by
      have:=ZV.mp al n hn;exact beq_iff_eq.mp this
     rcases U0 with ⟨_,e⟩|⟨e,_⟩
     . exact e
     . rw[JB] at e;cases e
   refine oeeaaa bd λh2 IH gW Su R3 NY=>?_;try clear bd;subst gW
   have G3:=G2.off (tk:=IH) (· =cK.locals) NY (λb hb=>hb▸EC);have MY:h2.PlainList D items:=JG.at λo e=>NY D o (Yo IZ) e;have zY:St (i+1) h2:=T.frame _ _ _ Fq λb o hb e=>NY b o (by
    rcases hb with hb|⟨es,hb⟩
    . rintro rfl;exact RB hb
    . rw[hb] at yD;cases yD) e
   refine oaea (body i vs H' aP {s' with heap:=h2,toks:=IH} item E₀ inv hx R3) λ_ ρ2 qe Se=>?_;obtain rfl:=hb.uniq qe;refine Zy (Se Su) (λok s₃ z=>?_) λ_ _ e=>e;refine oeeaa z λH2 gF R4 G4 z=>?_;have mK:h2.get? D≠none:=by refine oe MY λn e=>?_;try clear MY;rw[e];exact λz=>by cases z
   have JY:∀{H2 gF} {s₃:Shared},Go H' aP {s' with heap:=h2,toks:=IH} H2 gF s₃->St (i+1) s₃.heap:=λ{H2 gF s₃} G4=>T.frame _ _ _ zY λb o hb e=>by
    rcases hb with hb|⟨es,hb⟩
    . exact G4.keep b o (yC b hb) e
    . rw[hb] at yD;cases yD
   have wl:∀b,wr b->h2.get? b≠none:=T.live _ _ zY;have Bz:=Su.LC (DP hb)
   cases ok with
   |false=>
    have z:bB (i+1) vs H2:=z;exact next ⟨z,R4,G3.trans G4,JY G4,MY.at λo e=>G4.keep D o Ap e,z7,V7 pZ,G4.ix Ap mK,λb hb=>G4.ix (yC b hb) (wl b hb),Bz.go G4⟩
   |true=>
    have z:wpAny W.M A (eval elt cK) (bQ W H2 gF s₃ λv h3=>bB (i+1) (vs++[v]) h3) E₀ s₃:=z;show wpAny W.M A (eval elt cK) _ E₀ s₃;refine Zy z (λx s₅ p=>?_) λ_ _ e=>e;refine oeeaa p λH3 Fu q R5 G5=>?_;try clear p
    have I9:=G4.trans G5;have hD5:s₅.heap.PlainList D items:=MY.at λo e=>I9.keep D o Ap e;have Kg:=I9.ix Ap mK;refine W5 hD5 (λh6 hD6 U8=>?_) (Zf pZ (Zf hi (Zf hlen dJ)));have k6:∀b o,¬ (b=D)->s₅.heap.get? b=some o->h6.get? b=some o:=λb o nb e=>(U8.2 b nb).trans e;have R6:RH W H3 Fu h6:=R5.apart (· =D) k6 λb hb=>by subst hb;exact⟨Kg,hDb⟩
    have G6:Go H ow s H3 Fu {s₅ with heap:=h6}:=(G3.trans I9).off (tk:=s₅.toks) (· =D) k6 λb hb=>hb▸EB;have S_:St (i+1) h6:=T.frame _ _ _ (JY I9) λb o hb e=>k6 b o (by
     rcases hb with hb|⟨es,hb⟩
     . rintro rfl;exact RA hb
     . rw[hb] at yD;cases yD) e
    have EN6:b_ W (less ρ t) cK H3 Fu h6:=(Bz.go I9).iJ λb o ob e=>k6 b o (by
     rintro rfl;rcases ob with ob|⟨n,ob⟩
     . exact IZ ob.symm
     . exact hcl n _ ob EB) e
    exact next ⟨q,R6,G6,S_,hD6,by simp[z7],by rw[Us];exact(aj 0x111011210012311013120) _ _ pZ,Kg,λb hb=>I9.ix (yC b hb) (wl b hb),EN6⟩
 exact codeAny_compStart_list loop (T.self 0 s₄ _ _ st loop)
noncomputable def iU(W:dF)(A:Around)(ρ:Lo)(t:List String)(elt:Expr)(ifs:List Expr)(sc:Scope)(aK:Src)(bB:Nat->List V->Hp->Prop):Prop:=
 ∀(cK:Env) i vs H' aP (gV:Shared) item (E:Value->Shared->Prop),cK.scope=sc->bB i vs H'->aK.items[i]?=some item->RH W H' aP gV.heap->aK.stays H'/\∃ρ',dm H' ρ t item ρ'/\
  (b_ W ρ' cK H' aP gV.heap->wpAny W.M A (tests ifs cK) (λok s₃=>∃H2 gF,RH W H2 gF s₃.heap/\Go H' aP gV H2 gF s₃/\
   if ok=true then wpAny W.M A (eval elt cK) (bQ W H2 gF s₃ λv h3=>bB (i+1) (vs++[v]) h3) E s₃ else bB (i+1) vs H2) E gV)
theorem xA{elt tg iter:Expr}{ifs:List Expr}{bY:Scope}{pos p:Pos}{t:List String}{Qs:Src->Hp->Prop}{use:Option (Value->Sem Unit)}{QQ:Value->Shared->Prop}(hA:A.handled=none)(R:RH W H ow s.heap)(x:b_ W ρ env H ow s.heap)
 (oi:okInner t bY env.scope=true) (ok:vM (cf bY env.scope) t tg) (al:gO (cf bY env.scope) t=true) (hs:∀x,foldedSetIterable iter env x=pure x)
 (hit:wpAny W.M A (eval iter env) (λx s₁=>wpAny W.M A (pyIter x) (fT W A tg H ow s Qs) E s₁) E s)
 (main:∀aK H₁,Qs aK H₁->aK.plain=true/\∃bB:Nat->List V->Hp->Prop,bB 0 [] H₁/\iU W A ρ t elt ifs (cf bY env.scope) aK bB/\(∀vs H',bB aK.items.length vs H'->aK.stays H')/\
  ∀(s':Shared) H' aP vs D C (items:Array Value),bB aK.items.length vs H'->RH W H' aP s'.heap->Go H ow s H' aP s'->s'.heap.PlainList D items->items.toList.map aq=vs->items.size<=big->¬ er H' aP D->s.heap.get? D=none->s.heap.get? C=none->¬ er H' aP C->C≠D->(∃m,s'.heap.Ns C m)->compPost W.M A E use QQ (.ref D) C (.ok .next) s'):
 wpAny W.M A (comprehension (.ListComp elt [⟨tg,iter,ifs,0⟩] bY pos) bY env p (newList []) false (eval iter env) use) QQ E s:=by
 refine oaaaa (jT oi) λo1 o2 o3 o4 o5=>?_;have AL:∀x∈bY.names,x.2= .free->∃c,env.cells.lookup x.1=some c:=λy hy hf=>by
  refine oeea (x.cells y.1 (o5 y hy hf)) λc _ e _=>?_;exact⟨c,e⟩
 refine wpAny_comprehension_free (hcl:=rfl) hs (qB AL) o1 (λy hy hl=>o4 y hy hl) ?_;refine Zy hit (λxv s₁ h₁=>Zy h₁ (λw7 s₂ q=>?_) λ_ _ e=>e) λ_ _ e=>e;refine oeeeeeeaaaaaaaa q λI wr St aK H₁ cG gE T hlen qs R₁ G₁ st _ hw=>?_;try clear q;subst gE
 refine oaeaaa (main aK H₁ qs) λMS bB i0 body cJ fin=>?_;refine Xb ?_
 -- the Fm
 have k3:∀b o,s₂.heap.get? b=some o->(s₂.heap.push {cls:=.type "list",data:=.seq ([]:List Value).toArray}).get? b=some o:=λb o e=>ZL _ e;have dD:s₂.heap.get? s₂.heap.objs.size=none:=bU (Zs _);refine wpAny_newFunctionEnv (binds:=[]) (λy hy=>o3 y hy) (λ_ h=>by cases h) (λh₄ xm xh=>?_) o1;have xm:h₄.Ns (s₂.heap.push {cls:=.type "list",data:=.seq ([]:List Value).toArray}).objs.size λ_=>none:=xm;have hz:(s₂.heap.push {cls:=.type "list",data:=.seq ([]:List Value).toArray}).objs.size=s₂.heap.objs.size+1:=Vy ..
 dsimp only at xh ⊢
 rw[hz] at xm xh ⊢;have k4:∀b o,s₂.heap.get? b=some o->h₄.get? b=some o:=λb o e=>(xh.2 b (Xe (XV (Yg e)))).trans (ZL _ (k3 b o e));have dC:s₂.heap.get? (s₂.heap.objs.size+1)=none:=bU (Yj _);have pD:h₄.PlainList s₂.heap.objs.size #[]:=⟨0,(xh.2 _ (Xe (YF _))).trans (ZL _ (ZU _ rfl))⟩;have EZ:s.heap.get? s₂.heap.objs.size=none:=by
  cases e:s.heap.get? s₂.heap.objs.size with
  |none=>rfl
  |some o=>exact absurd dD (G₁.alive R₁ (by rw[e];exact λz=>by cases z))
 have E_:s.heap.get? (s₂.heap.objs.size+1)=none:=by
  cases e:s.heap.get? (s₂.heap.objs.size+1) with
  |none=>rfl
  |some o=>exact absurd dC (G₁.alive R₁ (by rw[e];exact λz=>by cases z))
 have wl:∀b,wr b->s₂.heap.get? b≠none:=T.live 0 _ st;have R₄:RH W H₁ cG h₄:=R₁.keeps k4;have G₄:Go H ow s H₁ cG {s₂ with heap:=h₄,toks:=s₂.toks+0}:=G₁.off (λ_=>False) (λb o _ e=>k4 b o e) (λ_ z=>z.elim);have KR:St 0 h₄:=T.frame _ _ _ st λb o _ e=>k4 b o e;refine oa (zI (t:=t) (x.go G₁) R₁ oi k4 dC xm) λEN hcl=>?_;refine CF (t:=t) (s:=s) (H:=H) (ow:=ow) (ρ:=ρ) (H₁:=H₁) (cG:=cG) (wr:=wr) (aK:=aK) (St:=St) (D:=s₂.heap.objs.size) (cK:=compEnvC bY (e_ env.cells bY.names []) (s₂.heap.objs.size+1) env) (s₄:={s₂ with heap:=h₄,toks:=s₂.toks+0})
  hA T MS hlen ok al KR R₄ G₄ pD EZ (λz=>R₁.ie z dD) (cD R₁.keep dD) (λz=>wl _ z dD) E_ (λz=>wl _ z dC) (W7 _) (λb hb=>(hw b hb).1) (λb hb=>(hw b hb).2)
  (λb hb=>cD R.keep (hw b hb).1) (λn c e=>(x.off c (.inr ⟨n,hcl n c e⟩)).2.2) EN bB i0 (λi vs H' aP gV item E hv hx R'=>body _ i vs H' aP gV item E rfl hv hx R') cJ ?_
 intro s' H' aP vs items inv R' G' De z7 pZ Dd JH hm;refine fin s' H' aP vs _ _ items inv R' G' De z7 pZ Dd EZ E_ JH (W7 _) hm
theorem HE{elt tg iter:Expr}{ifs:List Expr}{bY:Scope}{pos:Pos}{t:List String}{Qs:Src->Hp->Prop}{Q:V->Hp->Prop}(hA:A.handled=none)(R:RH W H ow s.heap)(x:b_ W ρ env H ow s.heap)
 (oi:okInner t bY env.scope=true) (ok:vM (cf bY env.scope) t tg) (al:gO (cf bY env.scope) t=true) (hs:∀x,foldedSetIterable iter env x=pure x)
 (hit:wpAny W.M A (eval iter env) (λx s₁=>wpAny W.M A (pyIter x) (fT W A tg H ow s Qs) E s₁) E s)
 (main:∀aK H₁,Qs aK H₁->aK.plain=true/\∃bB:Nat->List V->Hp->Prop,bB 0 [] H₁/\iU W A ρ t elt ifs (cf bY env.scope) aK bB/\∀vs H',bB aK.items.length vs H'->aK.stays H'/\∀a,H' a=none->Q (.ref a) (bf H' a (.list vs))):
 wpAny W.M A (eval (.ListComp elt [⟨tg,iter,ifs,0⟩] bY pos) env) (bQ W H ow s Q) E s:=by
 rw[arm_eval_ListComp];refine xA (use:=none) hA R x oi ok al hs hit λaK H₁ qs=>?_;refine oaeaa (main aK H₁ qs) λhp bB i0 body fin=>?_;refine⟨hp,bB,i0,body,λvs H' i=>(fin vs H' i).1,?_⟩;intro s' H' aP vs D C items inv R' G' De z7 pZ Dd EB EC JH IZ hm;refine oe hm λm hm=>?_;refine⟨m,hm,λh' Jq=>?_⟩;have k:∀b o,¬ (b=C)->s'.heap.get? b=some o->h'.get? b=some o:=λb o nb e=>(Jq.2 b nb).trans e;have R2:RH W H' aP h':=R'.apart (· =C) k λb hb=>by subst hb;exact⟨JH,cD R.keep EC⟩
 have G2:Go H ow s H' aP {s' with heap:=h',toks:=s'.toks}:=G'.off (· =C) k λb hb=>hb▸EC;have pD:h'.PlainList D items:=De.at λo e=>k D o (Yo IZ) e;have hN:=Bb Dd;exact⟨bf H' D (.list vs),aP,(fin vs H' inv).2 D hN,R2.adopt Dd (cD R.keep EB) ⟨items,pD,z7,by rw[<-z7];simpa using pZ⟩,G2.adopt hN EB⟩
end
end
section
open PySem PySem.W PyProof.Rows PySem.Calls
section
variable {L:Lv}{sc:Scope}{m:Nat}{c k c1 c2:C}{sk:SK}{t:List String}
theorem zK{x:Expr}{ifs:List Expr}{bY:Scope}{cc ce:C}(he:a_ L (cf bY sc) m ce .done x)(hc:(ifs=[]/\cc= .az (.bool true) .done)\/∃z,ifs=[z]/\a_ L (cf bY sc) m cc .done z)(f:gG L sc m){ρ:Lo}{aK:Src}{bB:Nat->List V->Hp->Prop}
 (step:∀i vs h' item,bB i vs h'->aK.items[i]?=some item->aK.stays h'/\∃ρ',dm h' ρ t item ρ'/\
  f.wp cc ρ' [] h' (gH λv cT=>∃b,v= .bool b/\(b=true->f.wp ce ρ' [] cT (gH λv h3=>bB (i+1) (vs++[v]) h3))/\(b=false->bB (i+1) vs cT))):
 iU f.W f.A ρ t x ifs (cf bY sc) aK bB:=by
 intro cK i vs H' aP gV item E hce iv hx R';refine oaea (step i vs H' item iv hx) λst ρ' hb w'=>?_;refine⟨st,ρ',hb,λX'=>?_⟩
 let g:gG L (cf bY sc) m:=⟨f.W,f.γ,f.F,f.A,cK,hce,f.hA⟩
 have elt:∀{H2:Hp} {gF:Nat->Option Nat} {s₃:Shared},At g ρ' H2 gF s₃->f.wp ce ρ' [] H2 (gH λv h3=>bB (i+1) (vs++[v]) h3)->wpAny f.W.M f.A (eval x cK) (bQ f.W H2 gF s₃ λv h3=>bB (i+1) (vs++[v]) h3) E s₃:=λ{H2 gF s₃} a w=>
  Zy (he.1 g ρ' H2 gF s₃ E [] _ a w) (λv s p=>p.aW λv h q=>by
   refine oaea q λ_ v' e q=>?_
   cases e;exact q) λ_ _ e=>e
 have a':At g ρ' H' aP gV:=⟨X',R'⟩;rcases hc with ⟨rfl,rfl⟩|⟨z,rfl,hz⟩
 . refine oaeaeaa w' λ_ v e b e2 w1 _=>?_;try clear w'
   cases e;cases e2
   refine wpAny_tests_nil ⟨H',aP,R',Go.refl ..,?_⟩;rw[if_pos rfl];exact elt a' (w1 rfl)
 . refine wpAny_tests_one (Zy (hz.2 g ρ' H' aP gV E [] _ (λb h=>(b=true->f.wp ce ρ' [] h (gH λv h3=>bB (i+1) (vs++[v]) h3))/\(b=false->bB (i+1) vs h)) a' (λv h q=>?_) w') (λb s₃ q=>?_) λ_ _ e=>e)
   . refine oaeaeaa q λ_ v' e b e2 w1 w2=>?_;try clear q
     cases e
     exact⟨b,e2,w1,w2⟩
   . refine oeeaa q λH2 gF q R2 G2=>?_;refine⟨H2,gF,R2,G2,?_⟩
     cases b with
     |true=>exact elt (a'.go G2 R2) (q.1 rfl)
     |false=>exact q.2 rfl
structure kj(L:Lv)(sc:Scope)(m:Nat)(c k:C)(t:List String)(tg iter x:Expr)(ifs:List Expr)(bY:Scope):Prop where
 oi:okInner t bY sc=true
 ok:vM (cf bY sc) t tg
 al:gO (cf bY sc) t=true
 ex:∃sk cc ce,kI L sc m sk t c (.comp t sk cc ce k) iter/\a_ L (cf bY sc) m ce .done x/\((ifs=[]/\cc= .az (.bool true) .done)\/∃z,ifs=[z]/\a_ L (cf bY sc) m cc .done z)
theorem xS{x tg iter:Expr}{ifs:List Expr}{bY:Scope}(o:kj L sc m c k t tg iter x ifs bY)(f:gG L sc m){ρ:Lo}{H:Hp}{ow:Nat->Option Nat}{s:Shared}{E:Value->Shared->Prop}{st:List V}{Q:Po}(a:At f ρ H ow s)(w:f.wp c ρ st H Q):
 (∀env v,foldedSetIterable iter env v=pure v)/\∃Qs,wpAny f.W.M f.A (eval iter f.env) (λv s₁=>wpAny f.W.M f.A (pyIter v) (fT f.W f.A tg H ow s Qs) E s₁) E s/\
  ∀aK H₁,Qs aK H₁->aK.plain=true/\∃bB:Nat->List V->Hp->Prop,bB 0 [] H₁/\iU f.W f.A ρ t x ifs (cf bY sc) aK bB/\∀vs H',bB aK.items.length vs H'->aK.stays H'/\∀a,H' a=none->f.wp k ρ (.ref a::st) (bf H' a (.list vs)) Q:=by
 refine oeeeaa o.ex λsk cc ce hi he hc=>?_;refine⟨hi.1,_,hi.2 f tg ρ H ow s E st Q (λaK H₁=>aK.plain=true/\∃bB:Nat->List V->Hp->Prop,bB 0 [] H₁/\iU f.W f.A ρ t x ifs (cf bY sc) aK bB/\∀vs H',bB aK.items.length vs H'->aK.stays H'/\∀a,H' a=none->f.wp k ρ (.ref a::st) (bf H' a (.list vs)) Q) (AT o.ok) a (λIJ h w=>?_) w,λ_ _ z=>z⟩;refine oeeaaeaa w λaK bH hs hp bB i0 step fin=>?_;try clear w
 exact⟨aK,bH,hs,λe=>⟨hp,bB,i0,zK he hc f step,λvs H' i=>⟨(fin vs H' i).1,e▸(fin vs H' i).2⟩⟩⟩
theorem Ei{x tg iter:Expr}{ifs:List Expr}{bY:Scope}{p:Pos}(o:kj L sc m c k t tg iter x ifs bY):a_ L sc m c k (.ListComp x [⟨tg,iter,ifs,0⟩] bY p):=by
 refine p_ (λf ρ H ow s E st Q a w=>?_) λ_=>rfl;obtain ⟨W,γ,F,A,env,hs,hA⟩:=f;subst hs;refine oaea (xS (E:=E) o _ a w) λh1 Qs w1 h2=>?_;exact HE hA.hd a.R a.X o.oi o.ok o.al (h1 env) w1 h2
end
end
section
open PySem PySem.W PyProof.Rows PySem.Calls
structure et(X:Nat->Prop)(H:Hp)(ow:Nat->Option Nat)(s:Shared)(H':Hp)(aP:Nat->Option Nat)(s':Shared):Prop where
 st:∃h' tk,s'={s with heap:=h',toks:=tk}
 keep:∀b o,¬ er H ow b->¬ X b->s.heap.get? b=some o->s'.heap.get? b=some o
 sub:∀b,er H' aP b->er H ow b\/s.heap.get? b=none
 eA:∀b es,H b=some (.eA es)->H' b=some (.eA es)/\∀o,s.heap.get? b=some o->s'.heap.get? b=some o
 grow:∀b,er H ow b->er H' aP b
 alive:∀b,s.heap.get? b≠none->s'.heap.get? b≠none
section
variable {W:dF}{X:Nat->Prop}{H H' EG:Hp}{ow aP tK:Nat->Option Nat}{s s' gV:Shared}
theorem et.refl:et X H ow s H ow s:=⟨⟨s.heap,s.toks,rfl⟩,λ_ _ _ _ e=>e,λ_ m=>.inl m,λ_ _ e=>⟨e,λ_ x=>x⟩,λ_ x=>x,λ_ x=>x⟩
theorem et.of(g:Go H ow s H' aP s')(R:RH W H' aP s'.heap):et X H ow s H' aP s':=⟨g.st,λb o m _ e=>g.keep b o m e,g.sub,g.eA,g.grow,λ_ l=>g.alive R l⟩
theorem et.trans(x:et X H ow s H' aP s')(y:et X H' aP s' EG tK gV):et X H ow s EG tK gV where
 st:=by
  refine oee x.st λh1 t1 e1=>?_;refine oee y.st λh2 t2 e2=>?_;subst e1;exact⟨h2,t2,e2⟩
 keep:=λb o m nx e=>y.keep b o (λm'=>(x.sub b m').elim m λl=>by rw[e] at l;cases l) nx (x.keep b o m nx e)
 sub:=λb m=>(y.sub b m).elim (x.sub b) λl=>by
  cases q:s.heap.get? b with
  |none=>exact .inr rfl
  |some o=>exact absurd l (x.alive b (by rw[q];exact λz=>by cases z))
 eA:=λb es e=>oa (x.eA b es e) λp q=>oa (y.eA b es p) λp' q'=>⟨p',λo z=>q' o (q o z)⟩
 grow:=λb m=>y.grow b (x.grow b m)
 alive:=λb l=>y.alive b (x.alive b l)
theorem et.bound{h':Heap}{tk:Nat}(hk:∀b o,¬ X b->s.heap.get? b=some o->h'.get? b=some o)(hX:∀b,X b->¬ er H ow b)(hl:∀b,X b->h'.get? b≠none):et X H ow s H ow {s with heap:=h',toks:=tk} where
 st:=⟨h',tk,rfl⟩
 keep:=λb o _ nx e=>hk b o nx e
 sub:=λ_ m=>.inl m
 eA:=λb es e=>⟨e,λo z=>hk b o (λq=>hX b q (eZ e)) z⟩
 grow:=λ_ m=>m
 alive:=λb l=>by
  by_cases q:X b
  . exact hl b q
  . cases e:s.heap.get? b with
    |none=>exact absurd e l
    |some o=>rw[hk b o q e];exact λz=>by cases z
theorem et.off{h':Heap}{tk:Nat}(x:et X H ow s H' aP s')(Y:Nat->Prop)(hk:∀b o,¬ Y b->s'.heap.get? b=some o->h'.get? b=some o)(hY:∀b,Y b->s.heap.get? b=none):et X H ow s H' aP {s' with heap:=h',toks:=tk}:=by
 refine oee x.st λh1 t1 e1=>?_;subst e1;have N8:∀b,s.heap.get? b≠none->¬ Y b:=λb l q=>l (hY b q);refine⟨⟨h',tk,rfl⟩,λb o m nx e=>hk b o (N8 b (by rw[e];exact λz=>by cases z)) (x.keep b o m nx e),x.sub,λb es e=>?_,x.grow,λb l=>?_⟩
 . refine oa (x.eA b es e) λp q=>?_;exact⟨p,λo z=>hk b o (N8 b (by rw[z];exact λz=>by cases z)) (q o z)⟩
 . have:=x.alive b l
   cases e:h1.get? b with
   |none=>exact absurd e this
   |some o=>rw[hk b o (N8 b l) e];exact λz=>by cases z
theorem et.ix(x:et X H ow s H' aP s'){b:Nat}(m:¬ er H ow b)(l:s.heap.get? b≠none):¬ er H' aP b:=λq=>(x.sub b q).elim m l
theorem et.out{s₀:Shared}(hk:∀b o,s₀.heap.get? b=some o->s.heap.get? b=some o)(hs:∃h tk,s={s₀ with heap:=h,toks:=tk})(x:et X H ow s H' aP s')(hX:∀b,X b->s₀.heap.get? b=none):Go H ow s₀ H' aP s' where
 st:=by
  refine oee hs λh1 t1 e1=>?_;try clear hs
  refine oee x.st λh2 t2 e2=>?_;subst e1;exact⟨h2,t2,e2⟩
 keep:=λb o m e=>x.keep b o m (λq=>by rw[hX b q] at e;cases e) (hk b o e)
 sub:=λb m=>(x.sub b m).imp id λl=>by
  cases e:s₀.heap.get? b with
  |none=>rfl
  |some o=>rw[hk b o e] at l;cases l
 eA:=λb es e=>oa (x.eA b es e) λp q=>⟨p,λo z=>q o (hk b o z)⟩
 grow:=x.grow
end
noncomputable def XW(env:Env)(b:Nat):Prop:=∃n,Wr env n b
section
variable {L:Lv}{sc:Scope}{m:Nat}{c k c1 c2:C}{f:gG L sc m}{H H':Hp}{ow aP:Nat->Option Nat}{s s' gV:Shared}{Q:Po}
noncomputable def FlQ(f:gG L sc m)(k:C)(Q:Po)(ρ:Lo)(H:Hp):Flow->Prop
 | .next=>f.wp k ρ [] H Q
 | .brk=>Q .brk ρ [] H
 | .ret v=>Q (.ret (aq v)) ρ [] H
 | .cont=>False
noncomputable def iB(f:gG L sc m)(H:Hp)(ow:Nat->Option Nat)(s:Shared)(k:C)(Q:Po)(fl:Flow)(s':Shared):Prop:=
 ∃ρ' H' aP,At f ρ' H' aP s'/\et (XW f.env) H ow s H' aP s'/\FlQ f k Q ρ' H' fl
theorem oJ{E:Value->Shared->Prop}{x:Sem Flow}(g:et (XW f.env) H ow s H' aP s')(w:wpAny f.W.M f.A x (iB f H' aP s' k Q) E s'):wpAny f.W.M f.A x (iB f H ow s k Q) E s':=
 Zy w (λ_ _ xY=>oeeeaa xY λρ H2 o2 a G q=>⟨ρ,H2,o2,a,g.trans G,q⟩) λ_ _ e=>e
noncomputable def dX(L:Lv)(sc:Scope)(m:Nat)(c k:C)(x:Stmt):Prop:=
 ∀(f:gG L sc m) (ρ:Lo) (H:Hp) (ow:Nat->Option Nat) (s:Shared) (E:Value->Shared->Prop) (Q:Po),At f ρ H ow s->f.wp c ρ [] H Q->wpAny f.W.M f.A (exec x f.env) (iB f H ow s k Q) E s
noncomputable def dL(L:Lv)(sc:Scope)(m:Nat)(c k:C)(xs:List Stmt):Prop:=
 ∀(f:gG L sc m) (ρ:Lo) (H:Hp) (ow:Nat->Option Nat) (s:Shared) (E:Value->Shared->Prop) (Q:Po),At f ρ H ow s->f.wp c ρ [] H Q->wpAny f.W.M f.A (execs xs f.env) (iB f H ow s k Q) E s
end
section
variable {L:Lv}{sc:Scope}{m:Nat}{c k c1 c2:C}{x:Expr}{y:Stmt}{xs ys:List Stmt}{p:Pos}
theorem At.Df{f:gG L sc m}{ρ:Lo}{H H1:Hp}{ow bS:Nat->Option Nat}{s s1:Shared}(a:At f ρ H1 bS s1)(G:Go H ow s H1 bS s1):et (XW f.env) H ow s H1 bS s1:=et.of G a.R
theorem Dy:dL L sc m k k []:=λf ρ H ow s E Q a w=>Vm ⟨ρ,H,ow,a,et.refl,w⟩
theorem BE(h:dX L sc m c c1 y)(hr:dL L sc m c1 k ys):dL L sc m c k (y::ys):=by
 intro f ρ H ow s E Q a w;refine wpAny_execs_cons (Zy (h f ρ H ow s E Q a w) (λfl s₁ p=>?_) λ_ _ e=>e);refine oeeeaa p λρ1 H1 bS a1 G1 q=>?_;try clear p
 cases fl with
 |next=>exact oJ G1 (hr f ρ1 H1 bS s₁ E Q a1 q)
 |brk=>exact⟨ρ1,H1,bS,a1,G1,q⟩
 |ret v=>exact⟨ρ1,H1,bS,a1,G1,q⟩
 |cont=>exact q.elim
theorem Hn(he:a_ L sc m c .ret x):dX L sc m c k (.Return (some x) p):=λf ρ H ow s E Q a w=>
 wpAny_Return_some (jQ a (he.1 f ρ H ow s E [] Q a w) λv s₁ H1 bS q a1 G1=>⟨ρ,H1,bS,a1,a1.Df G1,q⟩)
theorem Hr:dX L sc m .brk k (.Break p):=λf ρ H ow s E Q a w=>wpAny_Break ⟨ρ,H,ow,a,et.refl,w⟩
theorem part(h:dL L sc m c .done xs)(f:gG L sc m){ρ:Lo}{H:Hp}{ow:Nat->Option Nat}{s:Shared}{E:Value->Shared->Prop}{Q:Po}(a:At f ρ H ow s)(w:f.wp c ρ [] H (sq (λρ st h=>f.wp k ρ st h Q) Q)):wpAny f.W.M f.A (execs xs f.env) (iB f H ow s k Q) E s:=by
 refine Zy (h f ρ H ow s E _ a w) (λfl s₁ xX=>oeeeaa xX λρ1 H1 bS a1 G1 q=>⟨ρ1,H1,bS,a1,G1,?_⟩) λ_ _ e=>e
 cases fl<;>exact q
theorem Ho(hc:a_ L sc m c (.ite c1 c2 k) x)(ha:dL L sc m c1 .done xs)(hb:dL L sc m c2 .done ys):dX L sc m c k (.If x xs ys p):=by
 intro f ρ H ow s E Q a w;refine wpAny_If (Zy (hc.2 f ρ H ow s E [] Q _ a (λv h w=>kf w) w) (λt s₁ q=>?_) λ_ _ e=>e);refine oeeaa q λH1 bS q R1 G1=>?_;have a1:=a.go G1 R1
 cases t with
 |true=>exact oJ (a1.Df G1) (part ha f a1 q)
 |false=>exact oJ (a1.Df G1) (part hb f a1 q)
theorem DC(hx:∀env,swapsWith x none p.line env=pure false)(he:a_ L sc m c (.pop k) x):dX L sc m c k (.Expr x p):=by
 intro f ρ H ow s E Q a w;have hi:interactive f.env=false:=by
  unfold interactive;rw[a.X.fn]
  rfl
 refine wpAny_Expr (jQ a (he.1 f ρ H ow s E [] Q a w) λv s₁ H1 bS q a1 G1=>?_) hi (hx f.env);have fin:iB f H ow s k Q .next s₁:=⟨ρ,H1,bS,a1,a1.Df G1,q.2⟩
 cases v<;>first|exact fin|exact absurd rfl (q.1 _)
noncomputable def Sl(f:gG L sc m)(bB:Nat->Lo->Hp->Prop)(n:Nat)(c1 k:C)(Q:Po)(ρ:Lo)(t:Bool)(h:Hp):Prop:=
 (t=true->f.wp c1 ρ [] h (IN (λρ3 h3=>∃m,m<n/\bB m ρ3 h3) (λρ3 h3=>f.wp k ρ3 [] h3 Q) (λv ρ3 h3=>Q (.ret v) ρ3 [] h3)))/\(t=false->f.wp k ρ [] h Q)
theorem Dv{f:gG L sc m}{bB:Nat->Lo->Hp->Prop}{n:Nat}{Q:Po}{ρ0:Lo}{H H1:Hp}{ow bS:Nat->Option Nat}{s s₁:Shared}{E:Value->Shared->Prop}(hb:dL L sc m c1 .done xs)(a1:At f ρ0 H1 bS s₁)(G:et (XW f.env) H ow s H1 bS s₁)(q:Sl f bB n c1 k Q ρ0 true H1):
 wpAny f.W.M f.A (execs xs f.env) (λfl s₂=>∃ρ' H' aP,At f ρ' H' aP s₂/\et (XW f.env) H ow s H' aP s₂/\match fl with
  | .next=>∃m,m<n/\bB m ρ' H'
  | .brk=>f.wp k ρ' [] H' Q
  | .ret v=>Q (.ret (aq v)) ρ' [] H'
  | .cont=>False) E s₁:=by
 refine Zy (hb f ρ0 H1 bS s₁ _ _ a1 (q.1 rfl)) (λfl s₂ p=>?_) λ_ _ e=>e;refine oeeeaa p λρ2 H2 gF a2 G2 q=>?_;try clear p
 refine⟨ρ2,H2,gF,a2,G.trans G2,?_⟩
 cases fl<;>exact q
noncomputable def WQ(I:Nat->Shared->Prop)(n:Nat)(Q:Flow->Shared->Prop)(fl:Flow)(s:Shared):Prop:=match fl with
 | .next=>∃m,m<n/\I m s
 | .cont=>∃m,m<n/\I m s
 | .brk=>Q .next s
 | .ret v=>Q (.ret v) s
theorem BC{prog:Program}{w:World}{A:Around}{env:Env}{E:Value->Shared->Prop}{s:Shared}{Q:Flow->Shared->Prop}(I:Nat->Shared->Prop)(n:Nat)(h:I n s)
 (turn:∀(E0:Value->Shared->Prop) n s,I n s->wpAny (model prog w) A (isTrue x env (eval x env)) (λb s₂=>(b=true->wpAny (model prog w) A (execs xs env) (WQ I n Q) E0 s₂)/\(b=false->Q .next s₂)) E0 s):wpAny (model prog w) A (exec (.While x xs [] p) env) Q E s:=by
 refine wpAny_While (codeAny_whileLoop I (λn s hI=>Zy (turn _ n s hI) (λb s2 z=>?_) λ_ _ e=>e) n h)
 cases b with
 |false=>exact Vm (z.2 rfl)
 |true=>exact Zy (z.1 rfl) (λf s3 z=>by cases f<;>exact z) λ_ _ e=>e
theorem Bo{prog:Program}{w:World}{A:Around}{env:Env}{E:Value->Shared->Prop}{s:Shared}{Q:Flow->Shared->Prop}{tg iter:Expr}(hi:∀v,foldedSetIterable iter env v=pure v)
 (h:wpAny (model prog w) A (eval iter env) (λv s₁=>wpAny (model prog w) A (pyIter v) (λw7 s₂=>∃(I:Nat->Shared->Prop) (n:Nat),I n s₂/\∀(E0:Value->Shared->Prop) k s',I k s'->wpAny (model prog w) A (pyNext w7) (λr s₁=>r=none/\Q .next s₁) E0 s'\/
  wpAny (model prog w) A (pyNext w7) (λr s₁=>∃v,r=some v/\wpAny (model prog w) A (letOwnedTupleGo tg w7 v) (λ_ oh=>wpAny (model prog w) A (assign tg env v) (λ_ s₃=>wpAny (model prog w) A (execs xs env) (WQ I k Q) E0 s₃) E0 oh) E0 s₁) E0 s') E s₁) E s):
 wpAny (model prog w) A (exec (.For tg iter xs [] p) env) Q E s:=by
 refine wpAny_For (Zy h (λv s₁ q=>Zy q (λw7 s₂ q=>?_) λ_ _ e=>e) λ_ _ e=>e) hi;refine oeea q λI n i0 turn=>?_;try clear q
 refine codeAny_forLoop_any I (λk s' hI=>?_) n i0;rcases turn _ k s' hI with z|z
 . refine Zy z (λr s₁ z=>?_) λ_ _ e=>e;obtain ⟨rfl,z⟩:=z;exact Vm z
 . refine Zy z (λr s₁ z=>?_) λ_ _ e=>e;obtain ⟨v,rfl,z⟩:=z;exact Zy z (λ_ s1 z=>Zy z (λ_ s2 z=>Zy z (λf s3 z=>by cases f<;>exact z) λ_ _ e=>e) λ_ _ e=>e) λ_ _ e=>e
theorem BF(hc:a_ L sc m c .done x)(hb:dL L sc m c1 .done xs):dX L sc m (.loop c c1 k) k (.While x xs [] p):=by
 intro f ρ H ow s E Q a w;refine oea w λbB c8 step=>?_;try clear w;refine oe c8 λn0 i0=>?_;try clear c8
 refine BC (λn s'=>∃ρ' H' aP,bB n ρ' H'/\At f ρ' H' aP s'/\et (XW f.env) H ow s H' aP s') n0 ⟨ρ,H,ow,i0,a,et.refl⟩ λE0 n s₀ Je=>oeeeaa Je λρ0 H0 Tm iv a0 G0=>?_;refine Zy (hc.2 f ρ0 H0 Tm s₀ E0 [] _ (Sl f bB n c1 k Q ρ0) a0 (λv h q=>?_) (step n ρ0 H0 iv)) (λt s₁ q=>?_) λ_ _ e=>e
 . refine oaea q λ_ v' e q=>?_
   cases e;exact q
 refine oeeaa q λH1 bS q R1 G1=>?_;have a1:=a0.go G1 R1;have Sq:=G0.trans (a1.Df G1);refine⟨λz=>?_,λz=>⟨ρ0,H1,bS,a1,Sq,q.2 z⟩⟩;rw[z] at q;refine Zy (Dv hb a1 Sq q) (λfl s₂ p=>?_) λ_ _ e=>e;refine oeeeaa p λρ2 H2 gF a2 G2 q=>?_;try clear p
 cases fl with
 |next=>refine oea q λk hk iv=>?_;try clear q;exact⟨k,hk,ρ2,H2,gF,iv,a2,G2⟩
 |brk=>exact⟨ρ2,H2,gF,a2,G2,q⟩
 |ret v=>exact⟨ρ2,H2,gF,a2,G2,q⟩
 |cont=>exact q.elim
end
section
variable {W:dF}
theorem iP{H:Hp}{ow:Nat->Option Nat}{a:Nat}{o o':O}(e:H a=some o)(b:Nat):er (bf H a o') ow b↔er H ow b:=by
 refine⟨λm=>(gh m).elim id λz=>z▸eZ e,λm=>fO m⟩
theorem Lq{H:Hp}{ow:Nat->Option Nat}{h:Heap}(R:RH W H ow h){a:Nat}{es:List (Int×V)}(e:H a=some (.dict es)):RH W (bf H a (.eA es)) ow h:=
 R.put e (.inr (.inl ⟨_,.inl e⟩)) (WV ..) (λ_ _ z=>by cases z) (by have:=R.obj a (.dict es) e;exact this)
theorem Lp{H:Hp}{ow:Nat->Option Nat}{h:Heap}(R:RH W H ow h){a:Nat}{es:List (Int×V)}(e:H a=some (.eA es)):RH W (bf H a (.dict es)) ow h:=
 R.put e (.inr (.inl ⟨_,.inr e⟩)) (WV ..) (λ_ _ z=>by cases z) (by have:=R.obj a (.eA es) e;exact this)
theorem HR{X:Nat->Prop}{H H':Hp}{ow aP:Nat->Option Nat}{s s':Shared}{a:Nat}{es:List (Int×V)}(e:H a=some (.dict es))(g:et X (bf H a (.eA es)) ow s H' aP s'):et X H ow s (bf H' a (.dict es)) aP s' where
 st:=g.st
 keep:=λb o m nx z=>g.keep b o (λq=>m ((iP e b).mp q)) nx z
 sub:=λb m=>by
  rcases gh m with m|rfl
  . exact(g.sub b m).imp (iP e b).mp id
  . exact .inl (eZ e)
 eA:=λb fs z=>by
  have vF:b≠a:=λq=>by subst q;rw[e] at z;cases z
  refine oa (g.eA b fs (by rw[bf,if_neg vF];exact z)) λp q=>?_;exact⟨by rw[bf,if_neg vF];exact p,q⟩
 grow:=λb m=>fO (g.grow b ((iP e b).mpr m))
 alive:=g.alive
theorem et.weaken{X Y:Nat->Prop}{H H':Hp}{ow aP:Nat->Option Nat}{s s':Shared}(x:et X H ow s H' aP s')(h:∀b,X b->Y b):et Y H ow s H' aP s':=
 ⟨x.st,λb o m ny e=>x.keep b o m (λq=>ny (h b q)) e,x.sub,x.eA,x.grow,x.alive⟩
theorem et.aH{X Y:Nat->Prop}{H H' EG:Hp}{ow aP tK:Nat->Option Nat}{s s' gV:Shared}(x:et X H ow s H' aP s')(y:et (λb=>X b\/Y b) H' aP s' EG tK gV)(hY:∀b,Y b->s.heap.get? b=none):et X H ow s EG tK gV where
 st:=by
  refine oee x.st λh1 t1 e1=>?_;refine oee y.st λh2 t2 e2=>?_;subst e1;exact⟨h2,t2,e2⟩
 keep:=λb o m nx e=>y.keep b o (λm'=>(x.sub b m').elim m λl=>by rw[e] at l;cases l) (λq=>q.elim nx λq=>by rw[hY b q] at e;cases e) (x.keep b o m nx e)
 sub:=λb m=>(y.sub b m).elim (x.sub b) λl=>by
  cases q:s.heap.get? b with
  |none=>exact .inr rfl
  |some o=>exact absurd l (x.alive b (by rw[q];exact λz=>by cases z))
 eA:=λb es e=>oa (x.eA b es e) λp q=>oa (y.eA b es p) λp' q'=>⟨p',λo z=>q' o (q o z)⟩
 grow:=λb m=>y.grow b (x.grow b m)
 alive:=λb l=>y.alive b (x.alive b l)
theorem Hu{aK:Src}{H:Hp}{ow:Nat->Option Nat}{h:Heap}(st:aK.start H)(R:RH W H ow h):RH W (aK.fz H) ow h:=by
 cases aK with
 |keys a es=>exact Lq R st
 |_=>exact R
theorem xu{aK:Src}{H:Hp}{ow:Nat->Option Nat}(st:aK.start H)(b:Nat):er (aK.fz H) ow b↔er H ow b:=by
 cases aK with
 |keys a es=>exact iP st b
 |_=>exact Iff.rfl
theorem Ht{aK:Src}{X:Nat->Prop}{H H':Hp}{ow aP:Nat->Option Nat}{s s':Shared}(st:aK.start H)(R:RH W H' aP s'.heap)(g:et X (aK.fz H) ow s H' aP s'):
 RH W (aK.th H') aP s'.heap/\et X H ow s (aK.th H') aP s'/\∀b,er (aK.th H') aP b->er H' aP b:=by
 cases aK with
 |keys a es=>
  have st:H a=some (.dict es):=st;have e:=(g.eA a es (by show bf H a (.eA es) a=_;rw[bf,if_pos rfl])).1;exact⟨Lp R e,HR st g,λb m=>(iP e b).mp m⟩
 |_=>exact⟨R,g,λ_ m=>m⟩
end
structure F8(W:dF)(env:Env)(wr:Nat->Prop)(aK:Src)(St:Nat->Heap->Prop)(bB:Nat->Lo->Hp->Prop)(H₁:Hp)(cG:Nat->Option Nat)(s₂:Shared)(i:Nat)(ρ':Lo)(H':Hp)(aP:Nat->Option Nat)(s':Shared):Prop where
 le:i<=aK.items.length
 inv:bB i ρ' H'
 X:b_ W ρ' env H' aP s'.heap
 R:RH W H' aP s'.heap
 G:et (λb=>XW env b\/wr b) (aK.fz H₁) cG s₂ H' aP s'
 st:St i s'.heap
 wo:∀b,wr b->¬ er H' aP b
section
variable {W:dF}{env:Env}{wr:Nat->Prop}{aK:Src}{St:Nat->Heap->Prop}{bB:Nat->Lo->Hp->Prop}{H H₁ H':Hp}{ow cG aP:Nat->Option Nat}{s s₂ s':Shared}{i:Nat}{ρ':Lo}
theorem F8.apart(x:F8 W env wr aK St bB H₁ cG s₂ i ρ' H' aP s')(hb:∀b,wr b->W.base.get? b=none)(xw:∀b,Own env b->¬ wr b){h':Heap}{tk:Nat}(hk:∀b o,¬ wr b->s'.heap.get? b=some o->h'.get? b=some o)(hl:∀b,wr b->h'.get? b≠none):
 RH W H' aP h'/\b_ W ρ' env H' aP h'/\et (λb=>XW env b\/wr b) (aK.fz H₁) cG s₂ H' aP {s' with heap:=h',toks:=tk}:=
 ⟨x.R.apart wr hk λb m=>⟨x.wo b m,hb b m⟩,x.X.iJ λb o ob e=>hk b o (xw b ob) e,x.G.trans ((et.bound (X:=wr) hk x.wo hl).weaken λb q=>.inr q)⟩
theorem F8.turn{A:Around}{t:List String}{tg:Expr}{I:Nat}{xs:List Stmt}{item:List V}{fG:Lo}{E:Value->Shared->Prop}{P:Flow->Shared->Prop}{B:Flow->Lo->Hp->Prop}(x:F8 W env wr aK St bB H₁ cG s₂ i ρ' H' aP s')(hb:∀b,wr b->W.base.get? b=none)(xw:∀b,Own env b->¬ wr b)(hA:A.handled=none)(ok:vM env.scope t tg)(T:dj W A tg I wr aK St)(cJ:aK.stays H')(hx:aK.items[i]?=some item)(bt:dm H' ρ' t item fG)
 (body:∀s3,b_ W fG env H' aP s3.heap->RH W H' aP s3.heap->wpAny W.M A (execs xs env) (λfl s4=>∃ρ4 H4 vC,b_ W ρ4 env H4 vC s4.heap/\RH W H4 vC s4.heap/\et (XW env) H' aP s3 H4 vC s4/\B fl ρ4 H4) E s3)
 (q:∀fl s4 ρ4 H4 vC,b_ W ρ4 env H4 vC s4.heap->RH W H4 vC s4.heap->et (λb=>XW env b\/wr b) (aK.fz H₁) cG s₂ H4 vC s4->St (i+1) s4.heap->(∀b,wr b->¬ er H4 vC b)->B fl ρ4 H4->P fl s4):
 wpAny W.M A (pyNext (.ref I)) (λr s₁=>∃v,r=some v/\wpAny W.M A (letOwnedTupleGo tg (.ref I) v) (λ_ oh=>wpAny W.M A (assign tg env v) (λ_ s₃=>wpAny W.M A (execs xs env) P E s₃) E oh) E s₁) E s':=by
 refine T.item i s' H' aP item (λv oh=>wpAny W.M A (assign tg env v) (λ_ s₃=>wpAny W.M A (execs xs env) P E s₃) E oh) E hx x.st x.R cJ x.wo λv h' tk Fq NN hk=>?_;refine oaa (x.apart hb xw (tk:=tk) hk (T.live _ _ Fq)) λR2 X2 G2=>?_;refine AV (s:={s' with heap:=h',toks:=tk}) hA X2 R2 ok NN bt (X:=XW env) (λn hn b hb=>⟨n,hb⟩) λs₃ bd=>?_;refine oeeaaa bd λh3 Jf dW X3 R3 k3=>?_;try clear bd;subst dW
 have fz:∀b,(∃es,aK= .keys b es)->∃es,H' b=some (.eA es):=λb Nl=>oe Nl λes e=>by subst e;exact⟨es,cJ⟩
 have xo:∀b,XW env b->¬ er H' aP b:=λb Ge=>oe Ge λn hb=>(X2.off b hb.ai).1;have G3:=G2.trans ((et.bound (s:={s' with heap:=h',toks:=tk}) (tk:=Jf) (X:=XW env) k3 xo λb Gc=>oe Gc λn hb=>(X3.off b hb.ai).2.2).weaken λb q=>.inl q);have zY:St (i+1) h3:=T.frame _ _ _ Fq λb o hb e=>k3 b o (λGb=>oe Gb λn CP=>hb.elim (xw b CP.ai) λhb=>(fz b hb).elim λes z=>xo b ⟨n,CP⟩ (eZ z)) e;refine Zy (body {s' with heap:=h3,toks:=Jf} X3 R3) (λfl s₄ z=>?_) λ_ _ e=>e;refine oeeeaaa z λρ4 H4 vC X4 R4 G4 z=>?_;refine q fl s₄ ρ4 H4 vC X4 R4 (G3.trans (G4.weaken λb q=>.inl q)) (T.frame _ _ _ zY λb o hb e=>?_) (λb hb=>G4.ix (x.wo b hb) (T.live _ _ zY b hb)) z;rcases hb with hb|hb
 . exact G4.keep b o (x.wo b hb) (λGa=>oe Ga λn CP=>xw b CP.ai hb) e
 . refine oe (fz b hb) λes z=>?_;exact(G4.eA b es z).2 o e
theorem F8.out(ip:aK.start H₁)(G₁:Go H ow s H₁ cG s₂)(R₁:RH W H₁ cG s₂.heap)(hs:∀b,wr b->s.heap.get? b=none)(X:b_ W ρ' env H' aP s'.heap)(R:RH W H' aP s'.heap)(G:et (λb=>XW env b\/wr b) (aK.fz H₁) cG s₂ H' aP s'):
 b_ W ρ' env (aK.th H') aP s'.heap/\RH W (aK.th H') aP s'.heap/\et (XW env) H ow s (aK.th H') aP s'/\∀b,er (aK.th H') aP b->er H' aP b:=by
 refine oaa (Ht ip R G) λa b c=>?_;exact⟨X.AW c,a,(et.of G₁ R₁).aH b hs,c⟩
end
section
variable {L:Lv}{sc:Scope}{m:Nat}{c k c1:C}{sk:SK}{t:List String}
noncomputable def Ha(f:gG L sc m)(c1 k:C)(t:List String)(ρ:Lo)(Q:Po)(aK:Src)(H₁:Hp):Prop:=∃bB:Nat->Lo->Hp->Prop,bB 0 ρ (aK.fz H₁)/\
 (∀i ρ' h' item,bB i ρ' h'->aK.items[i]?=some item->aK.stays h'/\∃fG,dm h' ρ' t item fG/\
  f.wp c1 fG [] h' (IN (bB (i+1)) (λρ3 h3=>f.wp k ρ3 [] (aK.th h3) Q) (λv ρ3 h3=>Q (.ret v) ρ3 [] (aK.th h3))))/\
 ∀ρ' h',bB aK.items.length ρ' h'->aK.stays h'/\f.wp k ρ' [] (aK.th h') Q
noncomputable def FoQ(f:gG L sc m)(k:C)(Q:Po)(aK:Src)(I:Lo->Hp->Prop)(fl:Flow)(ρ:Lo)(H:Hp):Prop:=match fl with
 | .next=>I ρ H
 | .brk=>f.wp k ρ [] (aK.th H) Q
 | .ret v=>Q (.ret (aq v)) ρ [] (aK.th H)
 | .cont=>False
theorem uB{f:gG L sc m}{tg:Expr}{xs:List Stmt}{ρ:Lo}{H:Hp}{ow:Nat->Option Nat}{s s₂:Shared}{Q:Po}{P:Flow->Shared->Prop}{w7:Value}(ok:vM sc t tg)(hb:dL L sc m c1 .done xs)(a:At f ρ H ow s)(q:fT f.W f.A tg H ow s (Ha f c1 k t ρ Q) w7 s₂)
 (p:∀fl s',iB f H ow s k Q fl s'->P fl s'):∃(I:Nat->Shared->Prop) (n:Nat),I n s₂/\∀(E0:Value->Shared->Prop) k s',I k s'->wpAny f.W.M f.A (pyNext w7) (λr s₁=>r=none/\P .next s₁) E0 s'\/
  wpAny f.W.M f.A (pyNext w7) (λr s₁=>∃v,r=some v/\wpAny f.W.M f.A (letOwnedTupleGo tg w7 v) (λ_ oh=>wpAny f.W.M f.A (assign tg f.env v) (λ_ s₃=>wpAny f.W.M f.A (execs xs f.env) (WQ I k P) E0 s₃) E0 oh) E0 s₁) E0 s':=by
 refine oeeeeeeaaaaaaaa q λI wr St aK H₁ cG gW T hlen gE R₁ G₁ st rG hw=>?_;try clear q;subst gW;refine oeaa gE λbB i0 step fin=>?_;try clear gE
 have X₁:=a.X.go G₁;have MK:∀b,wr b->f.W.base.get? b=none:=λb hb=>cD a.R.keep (hw b hb).1;have xw:∀b,Own f.env b->¬ wr b:=λb ho hb=>(a.X.off b ho).2.2 (hw b hb).1;refine⟨λk s'=>∃i ρ' H' aP,k=aK.items.length+1 - i/\F8 f.W f.env wr aK St bB H₁ cG s₂ i ρ' H' aP s',aK.items.length+1,
  ⟨0,ρ,aK.fz H₁,cG,rfl,ZR _,i0,X₁.AW λb=>(xu rG b).mp,Hu rG R₁,et.refl,st,λb hb q=>(hw b hb).2 ((xu rG b).mp q)⟩,?_⟩
 intro E₀ k' s' z_;refine oeeeea z_ λi ρ' H' aP nP x=>?_;subst nP;have out:=λ{ρ3:Lo} {H3:Hp} {Fu:Nat->Option Nat} {s3:Shared}=>F8.out (ρ':=ρ3) (H':=H3) (aP:=Fu) (s':=s3) (env:=f.env) rG G₁ R₁ λb hb=>(hw b hb).1
 cases hx:aK.items[i]? with
 |none=>
  obtain rfl:i=aK.items.length:=YO x.le (YD.mp hx);refine oa (fin ρ' H' x.inv) λcJ q=>?_;refine .inl (T.done s' H' aP (λs₁=>P .next s₁) E₀ x.st x.R cJ x.wo λh' tk hk=>?_);refine oaaa (out x.X x.R x.G) λa1 a2 a3 a4=>?_;refine p _ _ ?_;exact⟨ρ',aK.th H',aP,⟨a1.iJ λb o ob e=>hk b o (xw b ob) e,a2.apart wr hk λb hb=>⟨λz=>x.wo b hb (a4 b z),MK b hb⟩⟩,a3.off (tk:=tk) wr hk λb hb=>(hw b hb).1,q⟩
 |some item=>
  refine oaea (step i ρ' H' item x.inv hx) λcJ fG bt w'=>?_;refine .inr (x.turn (B:=FoQ f k Q aK (bB (i+1))) MK xw f.hA.hd (f.hs.symm▸ok) T cJ hx bt (λs3 X3 R3=>Zy (hb f fG H' aP s3 E₀ _ ⟨X3,R3⟩ w') (λfl s₄ z=>?_) λ_ _ e=>e) λfl s4 ρ4 H4 vC X4 R4 G4 Ta SV q=>?_)
  . refine oeeeaa z λρ4 H4 vC a4 G4 q=>?_;try clear z
    refine⟨ρ4,H4,vC,a4.X,a4.R,G4,?_⟩
    cases fl<;>exact q
  cases fl with
  |next=>exact⟨aK.items.length+1 - (i+1),Nat.sub_lt_sub_left (Nat.lt_succ_of_le x.le) (YF i),i+1,ρ4,H4,vC,rfl,(ZM.mp hx).1,q,X4,R4,G4,Ta,SV⟩
  |brk=>refine oaaa (out X4 R4 G4) λa1 a2 a3 _=>?_;exact p _ _ ⟨ρ4,_,vC,⟨a1,a2⟩,a3,q⟩
  |ret v=>refine oaaa (out X4 R4 G4) λa1 a2 a3 _=>?_;exact p _ _ ⟨ρ4,_,vC,⟨a1,a2⟩,a3,q⟩
  |cont=>exact q.elim
theorem xP{f:gG L sc m}{ρ:Lo}{Q:Po}{IJ:List V}{h:Hp}(w:f.wp (.for t sk c1 k) ρ IJ h Q):∃aK bH,tN sk IJ h aK bH/\(bH=[]->Ha f c1 k t ρ Q aK h):=
 oeeaeaa w λaK bH hs bB i0 step fin=>⟨aK,bH,hs,λe=>by subst e;exact⟨bB,i0,step,fin⟩⟩
theorem Hq{tg iter:Expr}{xs:List Stmt}{p:Pos}(ok:vM sc t tg)(hi:kI L sc m sk t c (.for t sk c1 k) iter)(hb:dL L sc m c1 .done xs):dX L sc m c k (.For tg iter xs [] p):=by
 intro f ρ H ow s E Q a w;exact Bo (hi.1 f.env) (Zy (hi.2 f tg ρ H ow s E [] Q (Ha f c1 k t ρ Q) (AT ok) a (λ_ _ w=>xP w) w) (λv s₁ q=>Zy q (λw7 s₂ q=>uB ok hb a q λ_ _ z=>z) λ_ _ e=>e) λ_ _ e=>e)
end
end
section
open PySem PySem.W PyProof.Rows PySem.Calls
noncomputable def envOf(sc:Scope):Env:={scope:=sc,locals:=0,globals:=0,cells:=[]}
theorem hU(ts:List Expr)(v:Expr)(n:Nat)(env:Env):swapsWithSole ts v n env=swapsWithSole ts v n (envOf env.scope):=by
 cases ts with
 |nil=>rfl
 |cons t r=>
  cases r with
  |nil=>cases v<;>first|rfl|(cases t<;>rfl)
  |cons=>rfl
theorem o_(ts:List Expr)(v:Expr)(env:Env):swappedStores ts v env=swappedStores ts v (envOf env.scope):=rfl
theorem q9:∀{xs ys:List String} {vs ws:List V} {ρ:Lo},xs.length=vs.length->binds ρ (xs++ys) (vs++ws)=binds (binds ρ xs vs) ys ws
 |[],_,[],_,_,_=>rfl
 |[],_,_::_,_,_,l=>by cases l
 |_::_,_,[],_,_,l=>by cases l
 |x::xs,_,v::vs,_,_,l=>q9 (xs:=xs) (XC l)
theorem q7:∀{xs:List String} {vs:List V} {ρ:Lo} {x:String} {v:V},x∉xs->binds (bf ρ x v) xs vs=bf (binds ρ xs vs) x v
 |[],[],_,_,_,_=>rfl
 |[],_::_,_,_,_,_=>rfl
 |_::_,[],_,_,_,_=>rfl
 |y::xs,w::vs,ρ,x,v,h=>by
  have hn:x≠y:=λe=>h (e▸Ze);show binds (bf (bf ρ x v) y w) xs vs=bf (binds (bf ρ y w) xs vs) x v;rw[<-q7 λm=>h (Zh _ m)];refine congrArg (λr=>binds r xs vs) (funext λz=>?_);unfold bf
  by_cases h1:z=y
  . rw[if_pos h1,if_neg λe=>hn (e.symm.trans h1),if_pos h1]
  . rw[if_neg h1,if_neg h1]
theorem q8:∀{xs:List String} {vs:List V} {ρ:Lo},xs.Nodup->xs.length=vs.length->binds ρ xs.reverse vs.reverse=binds ρ xs vs
 |[],[],_,_,_=>rfl
 |[],_::_,_,_,l=>by cases l
 |_::_,[],_,_,l=>by cases l
 |x::xs,v::vs,ρ,nd,l=>by
  rw[ZC] at nd;have l':xs.length=vs.length:=XC l;rw[Xs,Xs,q9 (by rw[YR,YR,l']),q8 nd.2 l'];exact(q7 nd.1).symm
section
variable {L:Lv}{sc:Scope}{m:Nat}{c k c1 c2:C}{f:gG L sc m}{ρ:Lo}{H:Hp}{ow:Nat->Option Nat}{s s':Shared}{E:Value->Shared->Prop}{Q:Po}
theorem ku{ρ':Lo}(a:At f ρ H ow s)(b:Bound f.W (XW f.env) ρ' f.env H ow s s')(q:f.wp k ρ' [] H Q):iB f H ow s k Q .next s':=by
 refine oeeaaa b λh tk bV X R kp=>?_;try clear b;subst bV
 exact⟨ρ',H,ow,⟨X,R⟩,et.bound kp (λb lI=>oe lI λn hb=>(a.X.off b hb.ai).1) λb lH=>oe lH λn hb=>(X.off b hb.ai).2.2,q⟩
theorem pX{tg:Expr}(h:notStar tg=true)(env:Env):(assignEach [tg] env).map (·.2)=[assign tg env]:=by
 cases tg<;>first|rfl|cases h
theorem rv{tg x:Expr}{p:Pos}(ip:notStar tg=true)(h1:swapsWithSole [tg] x p.line (envOf sc)=pure false)(h2:swappedStores [tg] x (envOf sc)=pure none)
 (K:∀(f:gG L sc m) (ρ:Lo) (Q:Po) (s:Shared) (H:Hp),Value->Prop)
 (he:∀(f:gG L sc m) (ρ:Lo) (H:Hp) (ow:Nat->Option Nat) (s:Shared) (E:Value->Shared->Prop) (Q:Po),At f ρ H ow s->f.wp c ρ [] H Q->wpAny f.W.M f.A (eval x f.env) (λv s1=>∃H1 bS,At f ρ H1 bS s1/\Go H ow s H1 bS s1/\K f ρ Q s1 H1 v) E s)
 (ht:∀(f:gG L sc m) (ρ:Lo) (H:Hp) (ow:Nat->Option Nat) (s:Shared) (E:Value->Shared->Prop) (Q:Po) (v:Value),At f ρ H ow s->K f ρ Q s H v->wpAny f.W.M f.A (assign tg f.env v) (λ_ s'=>iB f H ow s k Q .next s') E s):dX L sc m c k (.Assign [tg] x p):=by
 intro f ρ H ow s E Q a w;refine wpAny_Assign_stores (Zy (he f ρ H ow s E Q a w) (λv s₁ q=>?_) λ_ _ e=>e) (by rw[hU,f.hs];exact h1) (by rw[o_,f.hs];exact h2);refine oeeaa q λH1 bS a1 G1 q=>?_;rw[pX ip];exact Zy (ht f ρ H1 bS s₁ E Q v a1 q) (λ_ s₂ rc=>oeeeaa rc λρ2 H2 gF a2 G2 q=>⟨ρ2,H2,gF,a2,(a1.Df G1).trans G2,q⟩) λ_ _ e=>e
theorem rq{x:Expr}(he:a_ L sc m c k x)(f:gG L sc m)(ρ:Lo)(H:Hp)(ow:Nat->Option Nat)(s:Shared)(E:Value->Shared->Prop)(Q:Po)(a:At f ρ H ow s)(w:f.wp c ρ [] H Q):wpAny f.W.M f.A (eval x f.env) (λv s1=>∃H1 bS,At f ρ H1 bS s1/\Go H ow s H1 bS s1/\f.wp k ρ [aq v] H1 Q) E s:=
 jQ a (he.1 f ρ H ow s E [] Q a w) λv s1 H1 bS q a1 G1=>⟨H1,bS,a1,G1,q⟩
theorem Hs{n:String}{x:Expr}{p p':Pos}(ok:cB sc n=true)(h1:swapsWithSole [.Name (Str.ofString n) p'] x p.line (envOf sc)=pure false)(h2:swappedStores [.Name (Str.ofString n) p'] x (envOf sc)=pure none)(he:a_ L sc m c (.aY n k) x):dX L sc m c k (.Assign [.Name (Str.ofString n) p'] x p):=
 rv rfl h1 h2 _ (rq he) λf ρ H ow s E Q v a q=>hH a.X a.R (f.hs.symm▸ok) (X:=XW f.env) (λb hb=>⟨n,hb⟩) λs' b=>ku a b q
theorem DB{n:String}{x o:Expr}{p p':Pos}(h1:swapsWithSole [.Attribute o (Str.ofString n) p'] x p.line (envOf sc)=pure false)(h2:swappedStores [.Attribute o (Str.ofString n) p'] x (envOf sc)=pure none)(he:a_ L sc m c c1 x)(ho:a_ L sc m c1 (.setA n k) o):dX L sc m c k (.Assign [.Attribute o (Str.ofString n) p'] x p):=
 rv rfl h1 h2 _ (rq he) λf ρ H ow s E Q v a q=>by
  show wpAny f.W.M f.A (do
   let ov<-holding [v] (eval o f.env)
   standAt p'.atName
   holding [v,ov] (setAttr ov (Str.ofString n) v)
   release [v,ov] []) _ _ _
  refine Zl (ZW (jQ a (ho.1 f ρ H ow s E _ Q a q) λu s₁ H1 bS q a1 G1=>?_));refine oeea q λb ob g q=>?_;refine Zl (Z7 (Zl (ZW (Zy (yN (Q:=λh=>f.wp k ρ [] h Q) f.F.good a1.R g q) (λ_ s₂ p=>?_) λ_ _ e=>e))));refine oeeaa p λH2 gF q R2 G2=>?_;try clear p
  have a2:=a1.go G2 R2;exact wpAny_release ⟨ρ,H2,gF,a2,a2.Df (G1.trans G2),q⟩
theorem DA{x o i:Expr}{p p':Pos}(hi:fP i=true)(h1:swapsWithSole [.Subscript o i p'] x p.line (envOf sc)=pure false)(h2:swappedStores [.Subscript o i p'] x (envOf sc)=pure none)(he:a_ L sc m c c1 x)(ho:a_ L sc m c1 c2 o)(hk:a_ L sc m c2 (.dq k) i):dX L sc m c k (.Assign [.Subscript o i p'] x p):=
 rv rfl h1 h2 _ (rq he) λf ρ H ow s E Q v a q=>by
  rw[arm_assign_Subscript];refine Zl (ZW (jQ a (ho.1 f ρ H ow s E _ Q a q) λu s₁ H1 bS q a1 G1=>?_));refine Zl (ZW (jQ a1 (hk.1 f ρ H1 bS s₁ E _ Q a1 q) λj s₂ H2 gF q a2 G2=>?_));refine oeea q λb ob g q=>?_;refine Zl (Z7 (Zl (ZW (Zy (yM (Q:=λh=>f.wp k ρ [] h Q) a2.R g q) (λ_ s₃ p=>?_) λ_ _ e=>e))));refine oeeaa p λH3 Fu q R3 G3=>?_;try clear p
  have a3:=a2.go G3 R3;exact wpAny_release ⟨ρ,H3,Fu,a3,a3.Df ((G1.trans G2).trans G3),q⟩
noncomputable def Sm(ns:List String)(k:C)(f:gG L sc m)(ρ:Lo)(Q:Po)(s:Shared)(H:Hp)(v:Value):Prop:=∃a us,v= .ref a/\(s.heap.IsTuple a us\/s.heap.IsList a us)/\ns.length=us.size/\f.wp k (binds ρ ns (us.toList.map aq)) [] H Q
noncomputable def vY(L:Lv)(sc:Scope)(m:Nat)(c k:C)(ns:List String)(x:Expr):Prop:=∀(f:gG L sc m) (ρ:Lo) (H:Hp) (ow:Nat->Option Nat) (s:Shared) (E:Value->Shared->Prop) (Q:Po),At f ρ H ow s->f.wp c ρ [] H Q->
 wpAny f.W.M f.A (eval x f.env) (λv s1=>∃H1 bS,At f ρ H1 bS s1/\Go H ow s H1 bS s1/\Sm ns k f ρ Q s1 H1 v) E s
theorem He{ns:List String}{x:Expr}(he:a_ L sc m c (.zV ns k) x):vY L sc m c k ns x:=λf ρ H ow s E Q a w=>by
 refine Zy (rq he f ρ H ow s E Q a w) (λv s1 q=>?_) λ_ _ e=>e;refine oeeaaeaa q λH1 bS a1 G1 ρ' h2 b q=>?_;refine⟨H1,bS,a1,G1,?_⟩;rcases b with ⟨l,_⟩|⟨b,vs,e,_,l,hv,rfl⟩
 . rw[l] at h2;exact absurd h2 (by show ¬ 2<=1;decide)
 obtain rfl:=aO (Yr e).1;rcases hv with hv|hv
 . refine oeaa (a1.R.obj b _ hv) λus hT cw _=>?_;subst cw;exact⟨b,us,rfl,.inl hT,l.trans ((Za _).trans Zr),q⟩
 . refine oeaa (a1.R.obj b _ hv) λus hT c8 _=>?_;subst c8;exact⟨b,us,rfl,.inr hT.isList,l.trans ((Za _).trans Zr),q⟩
theorem Dw{ns:List String}{xs:List Expr}{n:Nat}{p:Pos}(l:xs.length=ns.length)(hl:xs.length<=100)(he:dO L sc m c (.iw ns k) xs):vY L sc m c k ns (.Tuple xs n p):=λf ρ H ow s E Q a w=>by
 rw[arm_eval_Tuple];refine Zl (Z7 (Zl (Zy (he.2 f p ρ H ow s E [] Q a w) (λvs s₁ q=>?_) λ_ _ e=>e)));refine oeeaa q λH1 bS dW R1 G1=>?_;try clear q;refine oa dW λhlen q=>?_;try clear dW
 have q:=g_ (hlen.trans l) q;rw[Za] at hlen;have hk:∀b o,s₁.heap.get? b=some o->(s₁.heap.push {cls:=.type "tuple",data:=.seq vs.toArray}).get? b=some o:=λb o e=>ZL _ e;refine oa (grown (tk:=s₁.toks) R1 G1 hk) λR2 G2=>?_;refine Xb ⟨H1,bS,⟨(a.X.go G1).iJ λb o _ e=>hk b o e,R2⟩,G2,_,vs.toArray,rfl,.inl ⟨_,ZU _ rfl,rfl,0,rfl⟩,by rw[Xc,hlen,l],q⟩ ?_;show vs.toArray.size<=sizeLine;rw[Xc,hlen];exact Zf hl (Zf (by decide) dJ)
theorem KX{ns:List String}{es:List Expr}{x:Expr}{n:Nat}{p p':Pos}(ok:Ac sc ns es)(h1:swapsWithSole [.Tuple es n p'] x p.line (envOf sc)=pure false)(h2:swappedStores [.Tuple es n p'] x (envOf sc)=pure none)(he:vY L sc m c k ns x):dX L sc m c k (.Assign [.Tuple es n p'] x p):=
 rv rfl h1 h2 (Sm ns k) he λf ρ H ow s E Q v a q=>by
  obtain ⟨b,us,rfl,hT,l,q⟩:=q;exact oN f.hA.hd a.X a.R (f.hs.symm▸ok) hT l (X:=XW f.env) (λn _ b hb=>⟨n,hb⟩) λs' b=>ku a b q
theorem DF{W:dF}{A:Around}{env:Env}{X:Nat->Prop}:∀(ns:List String) (_:∀n∈ns,∀b,Wr env n b->X b) {vs:List Value} {ρ:Lo} {s:Shared} {Q:Unit->Shared->Prop},(∀n∈ns,cB env.scope n=true)->ns.length=vs.length->b_ W ρ env H ow s.heap->RH W H ow s.heap->
 (∀s',Bound W X (binds ρ ns (vs.map aq)) env H ow s s'->Q () s')->wpAny W.M A (assignInOrder (ns.map λn=>bindName env (Str.ofString n)) vs) Q E s:=by
 intro ns
 induction ns with
 |nil=>
  intro hX vs ρ s Q h hl x R q;obtain rfl:=XT.mp hl.symm;exact Zz (q s ⟨s.heap,s.toks,rfl,x,R,λ_ _ _ e=>e⟩)
 |cons n ns ih=>
  intro hX vs ρ s Q h hl x R q
  cases vs with
  |nil=>cases hl
  |cons v vs=>
   show wpAny W.M A (do holding vs (bindName env (Str.ofString n) v);assignInOrder (ns.map λn=>bindName env (Str.ofString n)) vs) Q E s;refine Zl (ZW (wpAny_bindName (mU x R (xr (h n Ze)) λh' tk a b c=>?_)));have bd:Bound W X (bf ρ n (aq v)) env H ow s {s with heap:=h',toks:=tk}:=⟨h',tk,rfl,a,b,λb o nb e=>c b o (λz=>nb (hX n Ze b z)) e⟩;exact ih (λn hn=>hX n (Zh _ hn)) (λn hn=>h n (Zh _ hn)) (XC hl) a b λgV b'=>q gV (bd.trans b')
theorem Hm{ns:List String}{tg x:Expr}{p:Pos}(nd:ns.Nodup)(ok:∀n∈ns,cB sc n=true)(h1:swapsWithSole [tg] x p.line (envOf sc)=pure false)(h2:swappedStores [tg] x (envOf sc)=pure (some (ns.map Str.ofString)))(he:vY L sc m c k ns x):dX L sc m c k (.Assign [tg] x p):=by
 intro f ρ H ow s E Q a w;rw[exec_Assign_arm];refine Zl (Z7 ?_);rw[hU,f.hs,h1];refine Zl (Zz ?_);rw[if_neg (by decide)];refine Zl (Zy (he f ρ H ow s E Q a w) (λv s₁ q=>?_) λ_ _ e=>e);obtain ⟨H1,bS,a1,G1,b,us,rfl,hT,l,q⟩:=q;rw[o_,f.hs,h2];refine Zl (Zz ?_);show wpAny f.W.M f.A (do
  rule "assign.swapped-stores"
  let items<-unpackItems (.ref b) (ns.map Str.ofString).length none
  assignInOrder ((ns.map Str.ofString).reverse.map λn=>bindName f.env n) items.reverse
  pure Flow.next) _ E s₁
 rw[(Za _).trans l];have fin:∀h',Heap.ExtBut s₁.heap.objs.size s₁.heap h'->wpAny f.W.M f.A (do
  assignInOrder ((ns.map Str.ofString).reverse.map λn=>bindName f.env n) us.toList.reverse
  pure Flow.next) (iB f H ow s k Q) E {s₁ with heap:=h'}:=λh' he=>by
  refine oaa (ph a1.X a1.R he) λx' R' hk=>?_;rw[show (ns.map Str.ofString).reverse.map (λn=>bindName f.env n)=ns.reverse.map λn=>bindName f.env (Str.ofString n) by rw[<-Wn,Zt];rfl];refine Zl (DF (s:={s₁ with heap:=h'}) (X:=XW f.env) ns.reverse (λn _ b hb=>⟨n,hb⟩) (λn hn=>f.hs.symm▸ok n (W0.mp hn)) (by rw[YR,YR,Zr];exact l) x' R' λs' bd=>Zz ?_);rw[Wn,q8 nd (l.trans ((Za _).trans Zr).symm)] at bd;have bd2:Bound f.W (XW f.env) (binds ρ ns (us.toList.map aq)) f.env H1 bS s₁ s':=by
   refine oeeaaa bd λh2 tk kE x2 R2 k2=>?_;try clear bd;subst kE
   exact⟨h2,tk,rfl,x2,R2,λb o nb e=>k2 b o nb (hk b o e)⟩
  refine oeeeaa (ku a1 bd2 q) λρ2 H2 gF a2 G2 q=>?_;exact⟨ρ2,H2,gF,a2,(a1.Df G1).trans G2,q⟩
 refine Zl (wpAny_rule ?_);rcases hT with hT|hT
 . exact Zl (W6 f.hA.hd hT fin)
 . exact Zl (gS f.hA.hd hT fin)
theorem Hl{n:String}{t:List String}{x tg iter:Expr}{ifs:List Expr}{bY:Scope}{pos p p':Pos}(o:kj L sc m c (.aY n k) t tg iter x ifs bY)(hn:cB sc n=true)(h1:swapsWithSole [.Name (Str.ofString n) p'] (.ListComp x [⟨tg,iter,ifs,0⟩] bY pos) p.line (envOf sc)=pure true):
 dX L sc m c k (.Assign [.Name (Str.ofString n) p'] (.ListComp x [⟨tg,iter,ifs,0⟩] bY pos) p):=by
 intro f ρ H ow s E Q a w;obtain ⟨W,γ,F,A,env,hs,hA⟩:=f;subst hs;refine oaea (xS (E:=E) o _ a w) λg1 Qs w1 g2=>?_;rw[exec_Assign_arm];refine Zl (Z7 ?_);rw[hU,h1];refine Zl (Zz ?_);rw[if_pos rfl];refine Zl ?_;show wpAny W.M A (do
  let _<-comprehension (.ListComp x [⟨tg,iter,ifs,0⟩] bY pos) bY env (firstIterPos [⟨tg,iter,ifs,0⟩] pos) (newList []) false (eval iter env) (some λv=>assign (.Name (Str.ofString n) p') env v)) _ _ _
 refine Zl (Zy (xA (t:=t) (use:=some _) (QQ:=λ_ s'=>iB ⟨W,γ,F,A,env,rfl,hA⟩ H ow s k Q .next s') hA.hd a.R a.X o.oi o.ok o.al (g1 env) w1 λaK H₁ qs=>?_) (λ_ s' q=>Zz (Zz q)) λ_ _ e=>e);refine oaeaa (g2 aK H₁ qs) λhp bB i0 body fin=>?_;refine⟨hp,bB,i0,body,λvs H' i=>(fin vs H' i).1,?_⟩;intro s' H' aP vs D C items inv R' G' De z7 pZ Dd EB EC JH IZ hm;have hN:=Bb Dd;have R2:RH W (bf H' D (.list vs)) aP s'.heap:=R'.adopt Dd (cD a.R.keep EB) ⟨items,De,z7,by rw[<-z7];exact EY pZ⟩;have G2:Go H ow s (bf H' D (.list vs)) aP s':=G'.adopt hN EB;have q:=(fin vs H' inv).2 D hN;have X2:=a.X.go G2;have PX:¬ er (bf H' D (.list vs)) aP C:=λz=>(gh z).elim JH IZ;have J5:∀b,Own env b->b≠C:=λb ob e=>(a.X.off b ob).2.2 (e▸EC);refine hH X2 R2 hn (X:=XW env) (λb hb=>⟨n,hb⟩) λgV bd=>?_;refine oeeaaa bd λh3 Jf jX X3 R3 k3=>?_;try clear bd;subst jX
 refine oe hm λmm hm=>?_;have nC:¬ XW env C:=λxY=>oe xY λk hk=>J5 C hk.ai rfl;refine⟨mm,hm.at' λo e=>k3 C o nC e,λh4 NS=>?_⟩;have k4:∀b o,¬ (b=C)->h3.get? b=some o->h4.get? b=some o:=λb o nb e=>(NS.2 b nb).trans e;have G3:=(et.of (X:=XW env) G2 R2).trans (et.bound (tk:=Jf) k3 (λb xX=>oe xX λk hk=>(X2.off b hk.ai).1) λb Je=>oe Je λk hk=>(X3.off b hk.ai).2.2);exact⟨_,_,aP,⟨X3.iJ λb o ob e=>k4 b o (J5 b ob) e,R3.apart (· =C) k4 λb hb=>by subst hb;exact⟨PX,cD a.R.keep EC⟩⟩,G3.off (tk:=Jf) (· =C) k4 λb hb=>hb▸EC,q⟩
end
end
section
open PySem PySem.W PyProof.Rows PySem.Calls
theorem rQ:Slot "method_descriptor" "__get__" "method_descriptor.__get__":=
 .of (owner:="method_descriptor") (n:="__get__") (by rw[Vn,Wk];kernel_rfl) (by decide+kernel) (by decide+kernel) (by decide+kernel)
  (by first|exact .inl (by decide+kernel)|exact .inr (by decide+kernel)) (by rw[Vz];kernel_rfl)
theorem CC:entryFor table "method_descriptor.__get__"=some Builtin.«method_descriptor.__get__»:=entryFor_of_tree (by kernel_rfl)
theorem Er(a b c:Value):argsOk "method_descriptor.__get__" ⟨[a,b,c],[]⟩:=by unfold argsOk;kernel_rfl
theorem sub_dict_dict:isSubtype (.type "dict") (.type "dict")=pure true:=by rw[Vz];kernel_rfl
theorem Mm:Manifest.toldItsClass.contains "dict.get"=false:=by decide+kernel
theorem HK:typeLookup (.type "method_descriptor") "__set__"=pure none:=by rw[Vn,Wk];kernel_rfl
theorem y_:typeLookup (.type "method_descriptor") "__delete__"=pure none:=by rw[Vn,Wk];kernel_rfl
noncomputable def dE(d:Addr):Obj:={cls:=.type "builtin_function_or_method",data:=.fields #[.builtin "dict.get",.ref d]}
section
variable {prog:Program}{w:World}{A:Around}{E:Value->Shared->Prop}{s:Shared}{d:Addr}
theorem HL{R:Result->Shared->Prop}(hT:s.TypeIs (.ref d) "dict")
 (h:R (.ok (.ret (.ref s.heap.objs.size))) {s with heap:=s.heap.push (dE d)}):codeAny (model prog w) A (.call (.builtin "method_descriptor.__get__") ⟨[.builtin "dict.get",.ref d,.type "dict"],[]⟩) R s:=by
 obtain ⟨hh,g,dr,t,os⟩:=s;have f1:=Vk;have f2:=sub_dict_dict;refine VA rQ.plain CC (rQ.check _ _ _ _ _ _ _ _ f1 (Er _ _ _) ?_);have f3: ".".intercalate ("dict.get".cutAt '.').dropLast="dict":=by decide+kernel
 refine oea hT λo ho hc=>?_;try clear hT
 repeat k_node
 rw[f3];refine Zl ?_;refine Zl ?_;refine Zl ?_;refine Zl ?_;refine Zz ?_;refine Zz ?_;rw[hc,f2];refine Zz ?_;refine Zz ?_
 repeat lk
 exact h
theorem Ct{E:Value->Shared->Prop}{o:Obj}{es:Array DictEntry}{k:Nat}{Q:Builtin.ObjectAttr.Found->Shared->Prop}(hx:s.heap.get? d=some o)(ij:o.data= .dict es k)(hc:o.cls= .type "dict")(hd:o.dict=none)
 (h:Q (.bind (.builtin "method_descriptor.__get__") (.builtin "dict.get")) s):wpAny (model prog w) A (Builtin.ObjectAttr.find (.ref d) (.type "dict") "get") Q E s:=by
 obtain ⟨hp,g,dd,tk,os⟩:=s;have hT:∀II,(⟨hp,g,dd,II,os⟩:Shared).TypeIs (.ref d) "dict":=λ_=>⟨_,hx,hc⟩;have f6:=Vk;have f7:=rQ.lookup;have f9:=HK;have FT:=y_;have f8:=WE.lookup;obtain ⟨c,M7,dat,sl⟩:=o;simp only at hc hd ij;subst hc hd ij;unfold Builtin.ObjectAttr.find
 repeat (any_goals (first|assumption|exact hT _|wp_step))
theorem HS{E:Value->Shared->Prop}{o:Obj}{es:Array DictEntry}{k:Nat}{t:Tok}{P:PySem.Fin->Shared->Prop}(hx:s.heap.get? d=some o)(ij:o.data= .dict es k)(hc:o.cls= .type "dict")(hd:o.dict=none)
 (h:P (.done (.ret (.ref s.heap.objs.size))) {s with heap:=s.heap.push (dE d)}):wpAny (model prog w) A (Builtin.«object.__getattribute__» ⟨[.ref d,.str "get" t],[]⟩) P E s:=by
 have hT:s.TypeIs (.ref d) "dict":=⟨_,hx,hc⟩;have key:wpAny (model prog w) A (Builtin.ObjectAttr.bindTo (.builtin "method_descriptor.__get__") (.builtin "dict.get") (.ref d) (.type "dict")) P E s:=
  Zl (ZW (Vg (HL hT (Zz h))))
 obtain ⟨hp,g,dd,tk,os⟩:=s;have hcl:=hc;obtain ⟨c,M7,dat,sl⟩:=o;simp only at hc hd ij;subst hc hd ij;unfold Builtin.«object.__getattribute__»;refine Zl (Zz ?_);refine Zl (Zz ?_);refine Zl (m:=typeOf _) (Zl (Vu hx (Zz ?_)));exact Zl (Ct hx rfl rfl rfl key)
end
section
variable {prog:Program}{w:World}{A:Around}{s:Shared}{d:Addr}
set_option maxRecDepth 8000 in
theorem u9{E:Value->Shared->Prop}{o:Obj}{es:Array DictEntry}{k:Nat}{Q:Value->Shared->Prop}(hx:s.heap.get? d=some o)(hc:o.cls= .type "dict")(ij:o.data= .dict es k)(hd:o.dict=none)
 (h:∀tk,Q (.ref s.heap.objs.size) {s with heap:=s.heap.push (dE d),toks:=tk}):
 wpAny (model prog w) A (getAttr (.ref d) "get" true) Q E s:=by
 obtain ⟨c,M7,dat,sl⟩:=o;simp only at hc ij hd;subst hc ij hd;obtain ⟨hp,g,dd,tk,os⟩:=s;have hT:∀II,(⟨hp,g,dd,II,os⟩:Shared).TypeIs (.ref d) "dict":=λ_=>⟨_,hx,rfl⟩;have f3:=Xg.lookup;have f4:=Xg.bind (.ref d);have f5:=am_dict_getattr_none;unfold getAttr getAttrBy
 repeat (any_goals (first|assumption|exact hT _|wp_step))
 refine VA Xg.plain am_entry_dict_getattribute (Xg.check _ _ _ _ _ _ _ _ (hT _) (F.args_dict_getattribute_2 _ _) ?_);refine HS (o:=⟨_,_,_,_⟩) hx rfl rfl rfl ?_;exact Zz (h _)
end
section
variable {prog:Program}{w:World}{A:Around}{s:Shared}{d:Addr}
theorem Cn:builtinKind "dict.get"=some .method:=by decide+kernel
theorem Hb:Manifest.varargsMethods.contains "dict.get"=false:=by decide+kernel
theorem nH:isSubtype (.type "dict") (.type "module")=pure false:=by rw[Vz];kernel_rfl
theorem pV(v:Value):Bind.checkArgs "dict.get" {machinery:=Manifest.Machinery.positional,full:=toString (Bind.lastOf "dict")++toString "."++toString (Bind.lastOf "dict.get"),short:="get",receiver:=Manifest.Receiver.self,params:=[{name:="key",kind:=Manifest.ParamKind.posOnly,required:=true},{name:="default",kind:=Manifest.ParamKind.posOnly,required:=false}]} {pos:=[Value.ref d,v]}=pure ():=by kernel_rfl
theorem zL{E:Value->Shared->Prop}{v:Value}{o:Obj}{es:Array DictEntry}{k:Nat}{Q:Unit->Shared->Prop}(hx:s.heap.get? d=some o)(hc:o.cls= .type "dict")(ij:o.data= .dict es k)(h:Q () s):wpAny (model prog w) A (checkBoundCall "dict.get" ⟨[.ref d,v],[]⟩) Q E s:=by
 have f1:=Cn;have f2:=Hb;have f3:=nH;have f4:=pV (d:=d) v;obtain ⟨c,M7,dat,sl⟩:=o;simp only at hc ij;subst hc ij;unfold checkBoundCall
 repeat (any_goals (first|assumption|wp_step))
 all_goals (show wpAny _ _ (Bind.checkArgs "dict.get" _ _) _ _ _)
 all_goals (rw[f4];exact Zz h)
theorem Bj{α:Type}{M:Model}{A:Around}{E:Value->Shared->Prop}{s:Shared}{c:Bool}{a b:Sem α}{Q:α->Shared->Prop}(hc:c=true)(h:wpAny M A a Q E s):wpAny M A (if c=true then a else b) Q E s:=by
 subst hc;exact h
theorem CH{K:Type}[DecidableEq K]{knd:KeyKind prog w K}{E:Value->Shared->Prop}{q:Addr}{v:Value}{k:K}{o:Obj}{es:Array DictEntry}{n:Nat}{f:K->Option Value}{Q:Value->Shared->Prop}(hq:s.heap.get? q=some (dE d))
 (hx:s.heap.get? d=some o) (hc:o.cls= .type "dict") (ij:o.data= .dict es n) (hm:s.heap.MapOf knd d f) (PT:knd.is k v=true) (hd:(d==sysModules)=false)
 (h:Q ((f k).getD .none) {s with toks:=s.toks+1}):wpAny (model prog w) A (call (.ref q) [v]) Q E s:=by
 refine Vg (codeAny_of_tree ?_);show wpAny _ A.in1 (callAny (.ref q) ⟨[v],[]⟩) _ _ s;refine Zl (wpAny_load hq ?_);refine Bj rfl ?_;refine Bj rfl ?_;refine Zl (zL hx hc ij ?_);refine Zl (Zz (Zz ?_));refine⟨Code.quiet_builtin _ (by decide+kernel),?_⟩;show codeAny _ A (.builtin "dict.get" ⟨[.ref d,v],[]⟩) _ _;refine Vl F.entry_dict_get ?_;rw[Wz WE.plain];exact meets_dict_get knd d PT hd A (λr s'=>match r with| .ok (.ret v)=>Q v s'| .ok _=>False| .error e=>E e s') s ⟨f,hm,h⟩
end
theorem se{ps:List (Int×Value)}{kz:List Int}{vs:List Value}(hl:kz.length=vs.length)(hp:ps.Perm (kz.zip vs))(ho:ps.Pairwise λp q=>p.1<=q.1)(hk:kz.Pairwise (· < ·)):ps=kz.zip vs:=by
 have hz:(kz.zip vs).map Prod.fst=kz:=Um (by exact(aj 0x111101311015120) _ _ hl);have hs:(kz.zip vs).Pairwise λp q=>p.1<q.1:=by
  have:=hk;rw[<-hz,YN] at this;exact this
 have nd:∀p∈kz.zip vs,∀q∈kz.zip vs,p.1=q.1->p=q:=by
  intro p hp q hq e;obtain ⟨i,hi,rfl⟩:=YK.mp hp;obtain ⟨j,hj,rfl⟩:=YK.mp hq;rcases Nat.lt_trichotomy i j with h|h|h
  . have:=XE.mp hs i j hi hj h;exact False.elim ((aj 0x110b1101111012202) ((kz.zip vs)[i].fst) ((kz.zip vs)[j].fst) e this)
  . subst h;rfl
  . have:=XE.mp hs j i hj hi h;exact False.elim ((aj 0x101b0111111012202) ((kz.zip vs)[i].fst) ((kz.zip vs)[j].fst) e this)
 refine WW (le:=λp q=>p.1<=q.1) (λp q h1 h2 h3 h4=>nd p (hp.mem_iff.mp h1) q h2 (ZA h3 h4)) ho (hs.imp λh=>XA h) hp
noncomputable def rI:Heap:={objs:= #[]}
theorem kr(b:Nat):rI.get? b=none:=by cases e:rI.get? b with
 |none=>rfl
 |some o=>exact absurd (Yg e) (Uo _)
noncomputable def jq(h:Heap)(L a:Nat):List (Addr×Obj):=(List.range h.objs.size).filterMap λb=>if b=L\/b=a then none else(h.get? b).map λo=>(b,o)
theorem eW{h:Heap}{L a:Nat}{p:Addr×Obj}:p∈jq h L a↔p.1≠L/\p.1≠a/\h.get? p.1=some p.2:=by
 unfold jq;rw[List.mem_filterMap];constructor
 . intro z_;refine oea z_ λb hb e=>?_;split at e
   . cases e
   . rename_i hn;rw[Z5] at e;refine oea e λo e1 bV=>?_;try clear e;subst bV
     exact⟨λz=>hn (.inl z),λz=>hn (.inr z),e1⟩
 . intro z_;refine oaa z_ λh1 h2 h3=>?_;refine⟨p.1,Xu.mpr (Yg h3),?_⟩;rw[if_neg (by rintro (z|z)<;>contradiction),h3]
   rfl
section
variable {W:dF}{A:Around}{E:Value->Shared->Prop}{s:Shared}
theorem yL{L a q d n:Nat}{m:Str->Option Value}{ka:List (Int×Value)}{vs:List Value}{kz:List Int}{P:PySem.Fin->Shared->Prop}(hL:s.heap.Ns L m)(ho:s.heap.get? a=some (seqObj "list" vs.toArray n))(haL:a≠L)
 (hq:s.heap.get? q=some (dE d)) (WP:q≠L) (WF:q≠a) (hd:s.heap.DictOf W.kd d ka) (hdL:d≠L) (hda:d≠a) (MX:(d==sysModules)=false) (hlen:kz.length=vs.length) (zP:vs.length<64) (hkz:kz.Pairwise (· < ·))
 (hv:∀(i:Nat) (v:Value) (k:Int),vs[i]?=some v->kz[i]?=some k->∃x t,W.kd.is x v=true/\valueAt ka x=some (.int k t))
 (h:∀h' tk c,h'.Ns L m->(∀b o,b≠L->b≠a->s.heap.get? b=some o->h'.get? b=some o)->h'.get? a=some (seqObj "list" vs.toArray c)->P (.done (.ret .none)) {s with heap:=h',toks:=tk}):
 wpAny W.M A (ksk_tree a (.ref q) false) P E s:=by
 have N:News rI L s.heap (jq s.heap L a):=λp hp=>by
  refine oaa (eW.mp hp) λh1 h2 h3=>?_;exact⟨h3,h1,kr _⟩
 refine oeeeaaa hd λod es ep NU Db FK LI=>?_;try clear hd
 have mq:(q,dE d)∈jq s.heap L a:=eW.mpr ⟨WP,WF,hq⟩;have md:(d,od)∈jq s.heap L a:=eW.mpr ⟨hdL,hda,NU⟩;refine ksk_sort (h₀:=rI) (L:=L) (m:=m) (news:=jq s.heap L a) (kz:=kz) (vs:=vs) ⟨hL,λb o e=>(by rw[kr] at e;cases e),ZR _⟩ N ho haL (kr _) (λp hp=>(eW.mp hp).2.1) hlen zP (λi v k hi hk h' tk ai F' N'=>?_) (λh' tk out c F' N' ko=>?_)
 . have nq:=(N' _ (Zd ai mq)).1;have nd:=(N' _ (Zd ai md)).1;have qC:h'.DictOf W.kd d ka:=⟨od,es,ep,nd,Db,FK,LI⟩;refine oeea (hv i v k hi hk) λx t hx U2=>?_;refine CH (knd:=W.kd) (k:=x) (f:=valueAt ka) (s:={s with heap:=h',toks:=tk}) nq nd Db.1 FK qC.mapOf hx MX ?_;rw[U2];exact⟨h',tk+1,t,rfl,rfl,F',N'⟩
 . refine oeaa ko λps hp PO PQ=>?_;try clear ko
   have Js:=se hlen hp (PQ.imp λz=>by simpa using z) hkz;have je:out.toList=vs:=by rw[PO,Js];exact List.map_snd_zip (by exact(aj 0x1010111311015120) _ _ hlen)
   have ea:out=vs.toArray:=by rw[<-je]
   subst ea;refine h h' tk c F'.ns (λb o h1 h2 h3=>(N' (b,o) (Zh _ (eW.mpr ⟨h1,h2,h3⟩))).1) (N' _ Ze).1
end
section
variable {W:dF}{A:Around}{E:Value->Shared->Prop}{s:Shared}{H:Hp}{ow:Nat->Option Nat}{L:Lv}{γ:String->Option V}
theorem b_.swap{ρ:Lo}{env:Env}{h h':Heap}{m:Str->Option Value}(x:b_ W ρ env H ow h)(n:h'.Ns env.locals m)(mq:∀x v,ρ x=some v->x≠ ".0"->env.kindOf (Str.ofString x)=some .local->∃v',m (Str.ofString x)=some v'/\aq v'=v)
 (hk:∀b o,b≠env.locals->h.get? b=some o->h'.get? b=some o):b_ W ρ env H ow h' where
 fn:=x.fn
 gl:=x.gl
 bi:=x.bi
 ns:=⟨m,n,mq⟩
 cell:=λy v e k=>let ⟨c,v',a,⟨o,b,d⟩,r⟩:=x.cell y v e k;⟨c,v',a,⟨o,hk _ o (x.apart _ _ a) b,d⟩,r⟩
 cells:=λn k=>let ⟨c,v,a,⟨o,b,d⟩⟩:=x.cells n k;⟨c,v,a,⟨o,hk _ o (x.apart _ _ a) b,d⟩⟩
 apart:=x.apart
 apart2:=x.apart2
 off:=λb o=>oaa (x.off b o) λp q r=>⟨p,q,by
  by_cases e:b=env.locals
  . rw[e];exact rC n
  cases z:h.get? b with
  |none=>exact absurd z r
  |some ob=>rw[hk b ob e z];exact λz=>by cases z⟩
theorem wx{ρ:Lo}{env:Env}(X:b_ W ρ env H ow s.heap)(F:Full W L γ)(hh:A.handled=none)(R:RH W H ow s.heap){a q:Nat}{es:List (Int×V)}{ns:List Int}{Q:V->Hp->Prop}(hq:s.heap.get? q=some (dE a))(Wp:q≠env.locals)(ha:H a=some (.dict es))(Rp:es.map (·.2)=ns.map V.int)
 (Ju:ns.Pairwise (· < ·)) (zP:ns.length<64) (q':∀c,H c=none->Q (.ref c) (bf H c (.list (es.map λp=>.int p.1)))):
 wpAny W.M A (call (.builtin "sorted") [.ref a] [(Str.ofString "key",.ref q)]) (λv s'=>∃H' aP,Q (aq v) H'/\RH W H' aP s'.heap/\b_ W ρ env H' aP s'.heap/\et (· =env.locals) H ow s H' aP s') E s:=by
 refine oeaa (R.obj a _ ha) λka hd cw _=>?_;subst cw;refine oe hd.dictAt λep FM=>?_;have FE:ka.length=ns.length:=by simpa using congrArg List.length Rp
 have hlen:ka.length<64:=by exact(aj 0x111004061140111500406014220) _ _ zP FE
 have MX:=cN R (.inl ha) F.sm;have hb:(ka.map λp=>V.int p.1).length<=big:=by rw[Za];unfold big;exact(aj 0x111000f424081130111500406014220) _ _ zP FE
 refine call_function_entry_kw kind_sorted plain_sorted entry_sorted (ksk_s1 _ _) ?_;unfold Builtin.«sorted»;refine Zl (m:=checkCount "sorted" 1 1 _) (Zz ?_);refine Zl (kdu_collect (A:=A.in1) (kdl_dict (knd:=W.kd) (kvs:=ka) (ep:=ep) MX) hh FM (by rw[Wx];exact(aj 0x1110100000081130111500406014220) _ _ zP FE) λh' tk acc hk tM=>?_);have hl:acc.toList.length=ka.length:=by rw[Zr];exact tM.1
 refine Zl (wpAny_newList ?_ (by rw[hl,Wx];exact(aj 0x1110100000081130111500406014220) _ _ zP FE));have IS:(h'.push (seqObj "list" acc.toList.toArray 0)).get? h'.objs.size=some (seqObj "list" acc.toList.toArray 0):=ZU _ rfl;have live:∀b,s.heap.get? b≠none->b≠h'.objs.size:=λb l e=>by
  subst e
  cases z:s.heap.get? h'.objs.size with
  |none=>exact l z
  |some p=>exact absurd (Yg (hk _ _ z)) (Ws _)
 have AF:∀b o,s.heap.get? b=some o->(h'.push (seqObj "list" acc.toList.toArray 0)).get? b=some o:=λb o e=>by
  rw[Ub _ _ _ (live b (by rw[e];exact λz=>by cases z))];exact hk b o e
 refine oea X.ns λm n mq=>?_;have xo:=X.off env.locals (.inl rfl);have XL:a≠env.locals:=λe=>xo.1 (e▸eZ ha);have Rh:h'.objs.size≠env.locals:=(live _ xo.2.2).symm;have hv:∀(i:Nat) (v:Value) (k:Int),acc.toList[i]?=some v->ns[i]?=some k->∃x t,W.kd.is x v=true/\valueAt ka x=some (.int k t):=λi v k h1 h2=>by
  refine oeea (tM.2 i v (by rw[<-Wi];exact h1)) λx u hx UZ=>?_;have hu:aq u= .int k:=by
   have:=congrArg (·[i]?) Rp;simp only[ZP,hx,h2,Uv,Option.some.injEq] at this;exact this
  refine oe (bK hu) λt c8=>?_;subst c8;exact⟨x,t,UZ,iV (fx hd) hx⟩
 have LL:acc.toList.map aq=ka.map λp=>V.int p.1:=(uq hl λi v e=>tM.2 i v (eD e)).trans (Zt ..);refine Zl (ZW (wpAny_call_entry_kw slot_list_sort ⟨_,IS,rfl⟩ entry_list_sort (kw:=[(Str.ofString "key",.ref q)]) ?body (ksk_l1 _ _)))
 case body=>
  show wpAny W.M A.in1.in1 (Builtin.«list.sort» ⟨[.ref h'.objs.size],[(Str.ofString "key",.ref q)]⟩) _ _ _;rw[ksk_t1];refine yL (s:={s with heap:=h'.push (seqObj "list" acc.toList.toArray 0),toks:=tk}) ((n.keeps hk).keeps (λb o e=>ZL _ e)) IS Rh (AF _ _ hq) Wp (live q (by rw[hq];exact λz=>by cases z)) (hd.keep AF) XL (live a (R.live ha)) MX (by exact YO ((aj 0x10101211130121511015230) _ _ _ FE hl) ((aj 0x1011112130121511015230) _ _ _ FE hl)) (by exact(aj 0x1011100406214112150111500406014330) _ _ _ zP FE hl) Ju hv
   λh2 IH c kN k1 k2=>?_
  have k1:∀b o,b≠env.locals->s.heap.get? b=some o->h2.get? b=some o:=λb o e1 e2=>k1 b o e1 (live b (by rw[e2];exact λz=>by cases z)) (AF _ _ e2);refine⟨_,rfl,Zz ⟨_,rfl,?_⟩⟩;refine oeeea kN λoL gq ep' g1 g2=>?_;try clear kN
  have hm:(s.heap.update env.locals λ_=>oL).get? env.locals=some oL:=by
   cases z:s.heap.get? env.locals with
   |none=>exact absurd z xo.2.2
   |some o=>exact Xq _ z (Heap.get?_some_iff.mp g1).2
  have km:∀b o,b≠env.locals->s.heap.get? b=some o->(s.heap.update env.locals λ_=>oL).get? b=some o:=λb o e z=>(Wg s.heap _ (Yo e)).trans z;have X1:=X.swap (h':=s.heap.update env.locals λ_=>oL) ⟨oL,gq,ep',hm,g2⟩ mq km;have G1:et (· =env.locals) H ow s H ow {s with heap:=s.heap.update env.locals λ_=>oL,toks:=s.toks}:=et.bound km (λb e=>e▸xo.1) λb e=>by rw[e,hm];exact λz=>by cases z
  have R1:RH W H ow (s.heap.update env.locals λ_=>oL):=R.apart (· =env.locals) km λb e=>e▸⟨xo.1,xo.2.1⟩;have P:=eF (s:={s with heap:=s.heap.update env.locals λ_=>oL,toks:=s.toks}) (tk:=IH) (Q:=Q) R1 (h':=h2) (λb o e=>?_) (a:=h'.objs.size) ?_ (o:=.list (ka.map λp=>.int p.1)) ⟨acc.toList.toArray,⟨c,k2⟩,by simpa using LL,hb⟩ ?_
  . refine oeeaa P λH' aP p1 p2 p3=>?_;try clear P
    exact⟨H',aP,p1,p2,X1.go p3,G1.trans (et.of p3 p2)⟩
  . by_cases eb:b=env.locals
    . rw[eb] at e ⊢;rw[hm] at e;exact e▸g1
    . exact k1 b o eb ((Wg s.heap _ (Yo eb)).symm.trans e)
  . show (s.heap.update env.locals λ_=>oL).get? h'.objs.size=none;rw[Wg s.heap _ (Yo Rh)]
    cases z:s.heap.get? h'.objs.size with
    |none=>rfl
    |some p=>exact absurd (Yg (hk _ _ z)) (Ws _)
  . intro c hc;have:=q' c hc
    simpa [Function.comp_def] using this
end
section
variable {L:Lv}{sc:Scope}{m:Nat}{c k c1:C}
theorem LT{v w:Expr}{k2:C}{p pos q kp:Pos}(hg:aS sc "sorted"=true)(ip:notStar v=true)(Ju:cq w=true)(he:a_ L sc m c c1 v)(hd:a_ L sc m c1 (.b .sortedBy k2) w)
 {f:gG L sc m} {ρ:Lo} {H:Hp} {ow:Nat->Option Nat} {s:Shared} {E:Value->Shared->Prop} {Q:Po} {P:Value->Shared->Prop} (a:At f ρ H ow s) (wp:f.wp c ρ [] H Q)
 (fin:∀v s' H' aP,f.wp k2 ρ [aq v] H' Q->At f ρ H' aP s'->et (· =f.env.locals) H ow s H' aP s'->P v s'):
 wpAny f.W.M f.A (eval (.Call (.Name (Str.ofString "sorted") p) [v] [⟨some (Str.ofString "key"),.Attribute w (Str.ofString "get") q,kp⟩] pos) f.env) P E s:=by
 rw[cm];refine Zl (vW a hg (v:=.builtin "sorted") (.tail _ (.tail _ (.head _))) ?_);rw[ck ip,i7];refine callWith_builtin_kwB rfl rfl (evalArgs_kwB rfl (Xf (jQ a (he.1 f ρ H ow s E [] Q a wp) λu s₁ H1 bS q1 a1 G1=>XU ?_)));refine PyProof.Rows.kws_cons ?_;rw[arm_eval_Attribute,dy Ju];refine Zl (jQ a1 (hd.1 f ρ H1 bS s₁ E _ Q a1 q1) λu' s₂ H2 gF q2 a2 G2=>?_);obtain ⟨_,⟨d,es,ns,e1,e2,e3,e4,e5,e6,rfl⟩,q2⟩:=q2;have e7:=aO (e2.trans e1);have e1:=aO e1;subst e1 e7;refine oeaa (a2.R.obj d _ e3) λka FK _ _=>?_;refine oeeeaaa FK λod gq ep NU Db ij _=>?_;try clear FK
 refine Zl (Z7 (Zl (ZW (u9 NU Db.1 ij Db.2.1 λtk=>?_))));refine Zl (Wy (Zz ?_));refine PyProof.Rows.evalAll_nil ?_;have kp:∀b' o,s₂.heap.get? b'=some o->(s₂.heap.push (dE d)).get? b'=some o:=λb' o e=>ZL (dE d) e;refine oa (grown (tk:=tk) a2.R (G1.trans G2) kp) λR3 G3=>?_;have X3:b_ f.W ρ f.env H2 gF (s₂.heap.push (dE d)):=a2.X.iJ λb' o _ e=>kp b' o e;refine Zy (wx (Q:=λw h=>f.wp k2 ρ [w] h Q) X3 f.F f.hA.hd R3 (ZU _ rfl) (λe=>(a2.X.off _ (.inl rfl)).2.2 (e▸bU (Zs _))) e3 e4 e5 e6 q2) (λlst s3 z=>?_) λ_ _ e=>e;exact oeeaaa z λH' aP q3 R' X' G'=>fin lst s3 H' aP q3 ⟨X',R'⟩ ((et.of G3 R3).trans G')
theorem BI{v w tg:Expr}{xs:List Stmt}{b:C}{t:List String}{n:String}{p pos q kp p0:Pos}(hg:aS sc "sorted"=true)(ip:notStar v=true)(Ju:cq w=true)(hn:sc.names.lookup (Str.ofString n)=some .local)(ok:vM sc t tg)(he:a_ L sc m c c1 v)(hd:a_ L sc m c1 (.b .sortedBy (.for t .seq b k)) w)(hb:dL L sc m b .done xs):
 dX L sc m c k (.For tg (.Call (.Name (Str.ofString "sorted") p) [v] [⟨some (Str.ofString "key"),.Attribute w (Str.ofString "get") q,kp⟩] pos) xs [] p0):=by
 intro f ρ H ow s E Q a wp;refine Bo (iS rfl _) ?_;refine LT hg ip Ju he hd a wp λlst s3 H' aP q3 a3 G'=>?_;have G4:=G'.weaken (Y:=XW f.env) λb' e=>⟨n,.inl ⟨(congrArg (λz=>z.names.lookup (Str.ofString n)) f.hs).trans hn,e⟩⟩;exact oeea (xP q3) λaK bH hs D=>Zy (ut a3 (Go.refl ..) hs D) (λw7 s4 it=>uB ok hb a3 it λfl s5 z=>oeeeaa z λρ5 H5 Tl a5 G5 q5=>⟨ρ5,H5,Tl,a5,G4.trans G5,q5⟩) λ_ _ e=>e
end
end
section
open PySem PySem.W PyProof.Rows PySem.Calls
noncomputable section
noncomputable def eQ:(c:C)->Option (PLift (c= .done))| .done=>some ⟨rfl⟩|_=>none
noncomputable def yw:(c:C)->Option {p:V×C // c= .az p.1 p.2}| .az v k=>some ⟨(v,k),rfl⟩|_=>none
noncomputable def No:(c:C)->Option {p:Mk×Nat×C // c= .mk p.1 p.2.1 p.2.2}| .mk o n k=>some ⟨(o,n,k),rfl⟩|_=>none
noncomputable def vU:(c:C)->Option {p:U×C // c= .u p.1 p.2}| .u v k=>some ⟨(v,k),rfl⟩|_=>none
noncomputable def vB:(c:C)->Option {p:B×C // c= .b p.1 p.2}| .b v k=>some ⟨(v,k),rfl⟩|_=>none
noncomputable def EK:(c:C)->Option {p:String×Nat×C // c= .call p.1 p.2.1 p.2.2}| .call f n k=>some ⟨(f,n,k),rfl⟩|_=>none
noncomputable def OZ:(c:C)->Option {p:String×String×Nat×C // c= .new p.1 p.2.1 p.2.2.1 p.2.2.2}| .new d f n k=>some ⟨(d,f,n,k),rfl⟩|_=>none
noncomputable def O1:(c:C)->Option {p:String×C // c= .bM p.1 p.2}| .bM v k=>some ⟨(v,k),rfl⟩|_=>none
noncomputable def KF:(c:C)->Option {p:Pm×Nat×C // c= .prim p.1 p.2.1 p.2.2}| .prim f n k=>some ⟨(f,n,k),rfl⟩|_=>none
noncomputable def Gf:(c:C)->Option {p:C×C×C // c= .ite p.1 p.2.1 p.2.2}| .ite a b k=>some ⟨(a,b,k),rfl⟩|_=>none
noncomputable def KH:(c:C)->Option {p:List String×SK×C×C×C // c= .comp p.1 p.2.1 p.2.2.1 p.2.2.2.1 p.2.2.2.2}| .comp t s a b k=>some ⟨(t,s,a,b,k),rfl⟩|_=>none
noncomputable def JW:(c:C)->Option {p:String×C // c= .aY p.1 p.2}| .aY v k=>some ⟨(v,k),rfl⟩|_=>none
noncomputable def KI:(c:C)->Option {p:List String×C // c= .iw p.1 p.2}| .iw v k=>some ⟨(v,k),rfl⟩|_=>none
noncomputable def KE:(c:C)->Option {p:String×C // c= .setA p.1 p.2}| .setA v k=>some ⟨(v,k),rfl⟩|_=>none
noncomputable def KD:(c:C)->Option {p:C // c= .dq p}| .dq k=>some ⟨k,rfl⟩|_=>none
noncomputable def OW:(c:C)->Option {p:List String×C // c= .zV p.1 p.2}| .zV v k=>some ⟨(v,k),rfl⟩|_=>none
noncomputable def OY:(c:C)->Option {p:C // c= .pop p}| .pop k=>some ⟨k,rfl⟩|_=>none
noncomputable def KG:(c:C)->Option {p:C×C×C // c= .loop p.1 p.2.1 p.2.2}| .loop a b k=>some ⟨(a,b,k),rfl⟩|_=>none
noncomputable def JV:(c:C)->Option {p:List String×SK×C×C // c= .for p.1 p.2.1 p.2.2.1 p.2.2.2}| .for t s b k=>some ⟨(t,s,b,k),rfl⟩|_=>none
noncomputable def OX:(c:C)->Option (PLift (c= .ret))| .ret=>some ⟨rfl⟩|_=>none
noncomputable def O2:(c:C)->Option (PLift (c= .brk))| .brk=>some ⟨rfl⟩|_=>none
noncomputable def Hc:(c:C)->Option (PLift (c= .raise))| .raise=>some ⟨rfl⟩|_=>none
noncomputable def vInt:(v:V)->Option {i:Int // v= .int i}| .int i=>some ⟨i,rfl⟩|_=>none
noncomputable def GP:(a b:SK)->Option (PLift (a=b))
 | .seq,.seq=>some ⟨rfl⟩| .range,.range=>some ⟨rfl⟩| .enum,.enum=>some ⟨rfl⟩| .zip,.zip=>some ⟨rfl⟩|_,_=>none
section
variable {L:Lv}{sc:Scope}{m:Nat}
noncomputable abbrev tv(L:Lv)(sc:Scope)(m:Nat)(c:C)(x:Expr):Type:=Option {k:C // a_ L sc m c k x}
theorem qc{c k k':C}{x:Expr}(h:a_ L sc m c k x)(e:k=k'):a_ L sc m c k' x:=e▸h
theorem vX{c k k':C}{x:List Expr}(h:dO L sc m c k x)(e:k=k'):dO L sc m c k' x:=e▸h
theorem Ds{c c' k:C}{x:Expr}(h:a_ L sc m c k x)(e:c'=c):a_ L sc m c' k x:=e▸h
theorem LZ{n:String}{id:Str}{k:C}{p:Pos}(h:(id==Str.ofString n&&AB sc n)=true):a_ L sc m (.ae n k) k (.Name id p):=by
 rw[beq_iff_eq.mp (aQ h).1];exact HX (aQ h).2
theorem Iu{n:String}{id:Str}{k:C}{p:Pos}(h:(id==Str.ofString n&&aS sc n)=true):a_ L sc m (.glob n k) k (.Name id p):=by
 rw[beq_iff_eq.mp (aQ h).1];exact Eh (aQ h).2
noncomputable def v5(c:C)(id:Str)(p:Pos):tv L sc m c (.Name id p):=match c with
 | .ae n k=>if h:(id==Str.ofString n&&AB sc n)=true then some ⟨k,LZ h⟩ else none
 | .glob n k=>if h:(id==Str.ofString n&&aS sc n)=true then some ⟨k,Iu h⟩ else none
 |_=>none
theorem Ma{i j:Int}{k:C}{u p}(h:(i==j)=true):a_ L sc m (.az (.int i) k) k (.Constant (.int j) u p):=by rw[beq_iff_eq.mp h];exact Ic
theorem L2{i j:Str}{k:C}{u p}(h:(i==j)=true):a_ L sc m (.az (.str i) k) k (.Constant (.str j) u p):=by rw[beq_iff_eq.mp h];exact HZ
theorem Iy{i j:Bool}{k:C}{u p}(h:(i==j)=true):a_ L sc m (.az (.bool i) k) k (.Constant (.bool j) u p):=by rw[beq_iff_eq.mp h];exact Ek
noncomputable def KL(v:V)(k:C)(x:PySem.Const)(u p):tv L sc m (.az v k) (.Constant x u p):=match x with
 | .int j=>(match v with| .int i=>if h:(i==j)=true then some ⟨k,Ma h⟩ else none|_=>none)
 | .str j=>(match v with| .str i=>if h:(i==j)=true then some ⟨k,L2 h⟩ else none|_=>none)
 | .bool j=>(match v with| .bool i=>if h:(i==j)=true then some ⟨k,Iy h⟩ else none|_=>none)
 | .none=>(match v with| .none=>some ⟨k,Ed⟩|_=>none)
 |_=>none
variable {c k k1 k2:C}{v w:Expr}
theorem Iz{n:String}{a:Str}{p:Pos}(h:a_ L sc m c (.u (.attr n) k) v)(g:(a==Str.ofString n&&cq v)=true):a_ L sc m c k (.Attribute v a p):=by
 rw[beq_iff_eq.mp (aQ g).1];exact El (aQ g).2 h
noncomputable def Hk(a:Str)(p:Pos):(o:U)->a_ L sc m c (.u o k) v->tv L sc m c (.Attribute v a p)
 | .attr n,h=>if g:(a==Str.ofString n&&cq v)=true then some ⟨k,Iz h g⟩ else none
 |_,_=>none
noncomputable def opC:Operator->Option F_
 | .Add=>some .add| .Sub=>some .sub| .Mult=>some .mul| .Mod=>some .mod| .FloorDiv=>some .fdiv|_=>none
theorem Me{o:Operator}{op:F_}{l r:Expr}{p:Pos}(ha:a_ L sc m c k1 l)(hb:a_ L sc m k1 (.b (.bin op) k) r)(g:(o==Dl op)=true):a_ L sc m c k (.BinOp l o r p):=by
 rw[beq_iff_eq.mp g];exact Ig ha hb
theorem Mb{v t:Expr}{p:Pos}(ha:a_ L sc m c k1 v)(hb:a_ L sc m k1 (.b .idx k) t)(g:fP t=true):a_ L sc m c k (.Subscript v t p):=Id g ha hb
theorem Md{o:CmpOp}{op:F9}{l r:Expr}{p:Pos}(ha:a_ L sc m c k1 l)(hb:a_ L sc m k1 (.b (.cmp op) k) r)(g:(o==mM op&& !behindInMarks (mM op) r)=true):a_ L sc m c k (.Compare l [o] [r] p):=by
 rw[beq_iff_eq.mp (aQ g).1];exact Ie (om (aQ g).2) ha hb
noncomputable def KP(o:Operator)(l r:Expr)(p:Pos)(ha:a_ L sc m c k1 l):(op:B)->a_ L sc m k1 (.b op k) r->tv L sc m c (.BinOp l o r p)
 | .bin op,h=>if g:(o==Dl op)=true then some ⟨k,Me ha h g⟩ else none
 |_,_=>none
noncomputable def KM(v t:Expr)(p:Pos)(ha:a_ L sc m c k1 v):(op:B)->a_ L sc m k1 (.b op k) t->tv L sc m c (.Subscript v t p)
 | .idx,h=>if g:fP t=true then some ⟨k,Mb ha h g⟩ else none
 |_,_=>none
noncomputable def KO(o:CmpOp)(l r:Expr)(p:Pos)(ha:a_ L sc m c k1 l):(op:B)->a_ L sc m k1 (.b op k) r->tv L sc m c (.Compare l [o] [r] p)
 | .cmp op,h=>if g:(o==mM op&& !behindInMarks (mM op) r)=true then some ⟨k,Md ha h g⟩ else none
 |_,_=>none
theorem Ir{o:CmpOp}{ne:Bool}{l:Expr}{p p':Pos}(h:a_ L sc m c (.u (.nilq ne) k) l)(g:(o==(if ne=true then CmpOp.NotEq else .Eq))=true):a_ L sc m c k (.Compare l [o] [.List [] p'] p):=by
 rw[beq_iff_eq.mp g];exact Ee h
noncomputable def Hg(o:CmpOp)(l:Expr)(p p':Pos):(u:U)->a_ L sc m c (.u u k) l->tv L sc m c (.Compare l [o] [.List [] p'] p)
 | .nilq ne,h=>if g:(o==(if ne=true then CmpOp.NotEq else .Eq))=true then some ⟨k,Ir h g⟩ else none
 |_,_=>none
noncomputable def KK(p:Pos):(u:U)->a_ L sc m c (.u u k) v->tv L sc m c (.UnaryOp .Not v p)
 | .not,h=>some ⟨k,H8 h⟩
 |_,_=>none
theorem L9{i j:Int}{u p p'}(g:(i== -j)=true):a_ L sc m (.az (.int i) k) k (.UnaryOp .USub (.Constant (.int j) u p) p'):=by rw[beq_iff_eq.mp g];exact H_
theorem L4{i a:Int}{j:Int}{u u' p p' Mr}(g:(a==10&&(j==9&&i==10 ^ 9||j==60&&i==10 ^ 60))=true):a_ L sc m (.az (.int i) k) k (.BinOp (.Constant (.int a) u p) .Pow (.Constant (.int j) u' p') Mr):=by
 refine oa (aQ g) λg1 g=>?_;rw[beq_iff_eq.mp g1];rcases YB.mp g with g|g
 . rw[beq_iff_eq.mp (aQ g).1,beq_iff_eq.mp (aQ g).2];exact Bp (b:=9) (.inl rfl)
 . rw[beq_iff_eq.mp (aQ g).1,beq_iff_eq.mp (aQ g).2];exact Bp (b:=60) (.inr rfl)
theorem Im{i:Int}{j:Nat}{id:Str}{p p1 p2 p3:Pos}{k':Nat}(h:a_ L sc m c (.u (.yx j) k) (.Name id p))(g:(i==(j:Int))=true):a_ L sc m c k (.Subscript (.Name id p) (.Slice none (some (.Constant (.int i) k' p1)) none p2) p3):=by
 rw[beq_iff_eq.mp g];exact Eb h
noncomputable def Hf(i:Int){id:Str}{p:Pos}(p1 p2 p3:Pos)(k':Nat):(u:U)->a_ L sc m c (.u u k) (.Name id p)->tv L sc m c (.Subscript (.Name id p) (.Slice none (some (.Constant (.int i) k' p1)) none p2) p3)
 | .yx j,h=>if g:(i==(j:Int))=true then some ⟨k,Im h g⟩ else none
 |_,_=>none
theorem L3{i:Int}{id:Str}{p p1 p2 p3 p4:Pos}{k':Nat}(h:a_ L sc m c (.u .rev k) (.Name id p))(g:(i==1)=true):a_ L sc m c k (.Subscript (.Name id p) (.Slice none none (some (.UnaryOp .USub (.Constant (.int i) k' p1) p4)) p2) p3):=by
 rw[beq_iff_eq.mp g];exact H7 h
noncomputable def KJ(i:Int){id:Str}{p:Pos}(p1 p2 p3 p4:Pos)(k':Nat):(u:U)->a_ L sc m c (.u u k) (.Name id p)->tv L sc m c (.Subscript (.Name id p) (.Slice none none (some (.UnaryOp .USub (.Constant (.int i) k' p1) p4)) p2) p3)
 | .rev,h=>if g:(i==1)=true then some ⟨k,L3 h g⟩ else none
 |_,_=>none
theorem Ix{xs:List Expr}{g:String}{id:Str}{n:Nat}{p pos:Pos}(h:dO L sc m c (.call g n k) xs)(e:(id==Str.ofString g&&(n==xs.length&&(aS sc g&&(L.fH.contains g&&L.can m g))))=true):a_ L sc m c k (.Call (.Name id p) xs [] pos):=by
 refine oa (aQ e) λe1 e=>?_;refine oa (aQ e) λe2 e=>?_;refine oa (aQ e) λe3 e=>?_;rw[beq_iff_eq.mp e2] at h;rw[beq_iff_eq.mp e1];exact Ej e3 (aQ e).1 (aQ e).2 h
theorem L7{xs:List Expr}{d g:String}{id:Str}{n:Nat}{p pos:Pos}(h:dO L sc m c (.new d g n k) xs)(e:(id==Str.ofString d&&(n==xs.length&&(aS sc d&&(Nat.ble 1 m&&(L.can (m - 1) g&&L.qH.lookup d==some g)))))=true):a_ L sc m c k (.Call (.Name id p) xs [] pos):=by
 refine oa (aQ e) λe1 e=>?_;refine oa (aQ e) λe2 e=>?_;refine oa (aQ e) λe3 e=>?_;refine oa (aQ e) λe4 e=>?_;rw[beq_iff_eq.mp e2] at h;rw[beq_iff_eq.mp e1];exact H9 e3 (ZB e4) (aQ e).1 (beq_iff_eq.mp (aQ e).2) h
noncomputable def Gi(xs:List Expr)(id:Str)(p pos:Pos)(r:{k:C // dO L sc m c k xs}):tv L sc m c (.Call (.Name id p) xs [] pos):=
 ((EK r.1).bind λq=>if e:(id==Str.ofString q.1.1&&(q.1.2.1==xs.length&&(aS sc q.1.1&&(L.fH.contains q.1.1&&L.can m q.1.1))))=true then some ⟨q.1.2.2,Ix (vX r.2 q.2) e⟩ else none).or
 ((OZ r.1).bind λq=>if e:(id==Str.ofString q.1.1&&(q.1.2.2.1==xs.length&&(aS sc q.1.1&&(Nat.ble 1 m&&(L.can (m - 1) q.1.2.1&&L.qH.lookup q.1.1==some q.1.2.1)))))=true then some ⟨q.1.2.2.2,L7 (vX r.2 q.2) e⟩ else none)
theorem It{xs:List Expr}{d n g:String}{a:Str}{i:Nat}{apos pos:Pos}(ho:a_ L sc m c (.bM d k1) v)(h:dO L sc m k1 (.call g i k) xs)(q:L.meths.lookup g=some (d,n))(e:(a==Str.ofString n&&(i==xs.length+1&&(cq v&&(apos.endLine==pos.line&&(Nat.blt xs.length 29&&(L.can m g&&(!iA d n&& !(d== "list"||d== "dict"))))))))=true):a_ L sc m c k (.Call (.Attribute v a apos) xs [] pos):=by
 refine oa (aQ e) λe1 e=>?_;refine oa (aQ e) λe2 e=>?_;refine oa (aQ e) λe3 e=>?_;refine oa (aQ e) λe4 e=>?_;refine oa (aQ e) λe5 e=>?_;refine oa (aQ e) λe6 e=>?_;rw[beq_iff_eq.mp e2] at h;rw[beq_iff_eq.mp e1];exact Ef e3 e4 (ZB e5) q e6 (om (aQ e).1) (om (aQ e).2) ho h
theorem Iq{xs:List Expr}{pm:Pm}{d:String}{a:Str}{i:Nat}{apos pos:Pos}(ho:a_ L sc m c (.bM d k1) v)(h:dO L sc m k1 (.prim pm i k) xs)(e:(a==Str.ofString (tS pm)&&(i==xs.length&&(cq v&&(apos.endLine==pos.line&&(Nat.blt xs.length 29&&d==qG pm)))))=true):a_ L sc m c k (.Call (.Attribute v a apos) xs [] pos):=by
 refine oa (aQ e) λe1 e=>?_;refine oa (aQ e) λe2 e=>?_;refine oa (aQ e) λe3 e=>?_;refine oa (aQ e) λe4 e=>?_;refine oa (aQ e) λe5 e=>?_;rw[beq_iff_eq.mp e2] at h;rw[beq_iff_eq.mp e] at ho;rw[beq_iff_eq.mp e1];exact Ec e3 e4 (ZB e5) ho h
noncomputable def LB(L:Lv)(g:String):Option {p:String×String // L.meths.lookup g=some p}:=match L.meths.lookup g with
 |some p=>some ⟨p,rfl⟩
 |none=>none
theorem Cl{g d:String}{p:String×String}(h:L.meths.lookup g=some p)(e:(d==p.1)=true):L.meths.lookup g=some (d,p.2):=by rw[h,beq_iff_eq.mp e]
noncomputable def Hh(xs:List Expr)(a:Str)(apos pos:Pos){d:String}(ho:a_ L sc m c (.bM d k1) v)(r:{k:C // dO L sc m k1 k xs}):tv L sc m c (.Call (.Attribute v a apos) xs [] pos):=
 ((KF r.1).bind λq=>if e:(a==Str.ofString (tS q.1.1)&&(q.1.2.1==xs.length&&(cq v&&(apos.endLine==pos.line&&(Nat.blt xs.length 29&&d==qG q.1.1)))))=true then some ⟨q.1.2.2,Iq ho (vX r.2 q.2) e⟩ else none).or
 ((EK r.1).bind λq=>(LB L q.1.1).bind λl=>if e1:(d==l.1.1)=true then if e:(a==Str.ofString l.1.2&&(q.1.2.1==xs.length+1&&(cq v&&(apos.endLine==pos.line&&(Nat.blt xs.length 29&&(L.can m q.1.1&&(!iA d l.1.2&& !(d== "list"||d== "dict"))))))))=true then
  some ⟨q.1.2.2,It ho (vX r.2 q.2) (Cl l.2 e1) e⟩ else none else none)
theorem yH{o:U}{id:Str}{g:String}{p pos:Pos}(ev:aS sc g=true->notStar v=true->a_ L sc m c (.u o k) v->a_ L sc m c k (.Call (.Name (Str.ofString g) p) [v] [] pos))(h:a_ L sc m c (.u o k) v)(e:(id==Str.ofString g&&(aS sc g&&notStar v))=true):a_ L sc m c k (.Call (.Name id p) [v] [] pos):=by
 refine oa (aQ e) λe1 e=>?_;rw[beq_iff_eq.mp e1];exact ev (aQ e).1 (aQ e).2 h
noncomputable def O7(id:Str)(p pos:Pos):(o:U)->a_ L sc m c (.u o k) v->tv L sc m c (.Call (.Name id p) [v] [] pos)
 | .len,h=>if e:(id==Str.ofString "len"&&(aS sc "len"&&notStar v))=true then some ⟨k,yH Ia h e⟩ else none
 | .abs,h=>if e:(id==Str.ofString "abs"&&(aS sc "abs"&&notStar v))=true then some ⟨k,yH Ih h e⟩ else none
 | .sorted,h=>if e:(id==Str.ofString "sorted"&&(aS sc "sorted"&&notStar v))=true then some ⟨k,yH zE h e⟩ else none
 | .cO,h=>if e:(id==Str.ofString "list"&&(aS sc "list"&&notStar v))=true then some ⟨k,yH vt h e⟩ else none
 | .copyDict,h=>if e:(id==Str.ofString "dict"&&(aS sc "dict"&&notStar v))=true then some ⟨k,yH vw h e⟩ else none
 | .dictOf,h=>if e:(id==Str.ofString "dict"&&(aS sc "dict"&&notStar v))=true then some ⟨k,yH zH h e⟩ else none
 |_,_=>none
theorem CJ{id cn:Str}{p p' pos:Pos}(h:a_ L sc m c (.u .isBool k) v)(e:(id==Str.ofString "isinstance"&&(cn==Str.ofString "bool"&&(aS sc "isinstance"&&(aS sc "bool"&&notStar v))))=true):a_ L sc m c k (.Call (.Name id p) [v,.Name cn p'] [] pos):=by
 refine oa (aQ e) λe1 e=>?_;refine oa (aQ e) λe2 e=>?_;refine oa (aQ e) λe3 e=>?_;rw[beq_iff_eq.mp e1,beq_iff_eq.mp e2];exact zG e3 (aQ e).1 (aQ e).2 h
theorem CI{id cn:Str}{d:String}{p p' pos:Pos}(h:a_ L sc m c (.u (.cL d) k) v)(e:(id==Str.ofString "isinstance"&&(cn==Str.ofString d&&(aS sc "isinstance"&&(aS sc d&&(L.cls.contains d&&notStar v)))))=true):a_ L sc m c k (.Call (.Name id p) [v,.Name cn p'] [] pos):=by
 refine oa (aQ e) λe1 e=>?_;refine oa (aQ e) λe2 e=>?_;refine oa (aQ e) λe3 e=>?_;refine oa (aQ e) λe4 e=>?_;rw[beq_iff_eq.mp e1,beq_iff_eq.mp e2];exact zF e3 e4 (aQ e).1 (aQ e).2 h
noncomputable def Hi(id cn:Str)(p p' pos:Pos):(o:U)->a_ L sc m c (.u o k) v->tv L sc m c (.Call (.Name id p) [v,.Name cn p'] [] pos)
 | .isBool,h=>if e:(id==Str.ofString "isinstance"&&(cn==Str.ofString "bool"&&(aS sc "isinstance"&&(aS sc "bool"&&notStar v))))=true then some ⟨k,CJ h e⟩ else none
 | .cL d,h=>if e:(id==Str.ofString "isinstance"&&(cn==Str.ofString d&&(aS sc "isinstance"&&(aS sc d&&(L.cls.contains d&&notStar v)))))=true then some ⟨k,CI h e⟩ else none
 |_,_=>none
noncomputable abbrev Rec(L:Lv):Type:=∀(sc:Scope) (m:Nat) (c:C) (x:Expr),tv L sc m c x
section
variable (rec:Rec L)
noncomputable def vN(sc:Scope)(m:Nat):(c:C)->(xs:List Expr)->Option {k:C // dO L sc m c k xs}
 |c,[]=>some ⟨c,xQ⟩
 |c,x::xs=>(rec sc m c x).bind λr=>if h:notStar x=true then(vN sc m r.1 xs).bind λq=>some ⟨q.1,uF h r.2 q.2⟩ else none
noncomputable def Gj(sc:Scope)(m:Nat)(op:BoolOp):(c:C)->(xs:List Expr)->Option {k:C // vZ L sc m op c k xs}
 |_,[]=>none
 |c,[x]=>(rec sc m c x).bind λr=>some ⟨r.1,IA r.2⟩
 |c,x::y::xs=>(rec sc m c x).bind λr=>(Gf r.1).bind λq=>match op with
  | .And=>(yw q.1.2.1).bind λl=>match l.1.1,l.2 with
   | .bool false,e=>(eQ l.1.2).bind λd=>(Gj sc m .And q.1.1 (y::xs)).bind λb=>(eQ b.1).bind λd2=>some ⟨q.1.2.2,IB (qc r.2 (q.2.trans (by rw[e,d.1]))) (d2.1▸b.2)⟩
   |_,_=>none
  | .Or=>(yw q.1.1).bind λl=>match l.1.1,l.2 with
   | .bool true,e=>(eQ l.1.2).bind λd=>(Gj sc m .Or q.1.2.1 (y::xs)).bind λb=>(eQ b.1).bind λd2=>some ⟨q.1.2.2,Mg (qc r.2 (q.2.trans (by rw[e,d.1]))) (d2.1▸b.2)⟩
   |_,_=>none
theorem Qf{n:String}{ns:List String}{id:Str}{p:Pos}{es:List Expr}(h:(id==Str.ofString n&&cB sc n)=true)(r:Ac sc ns es):Ac sc (n::ns) (.Name id p::es):=by
 rw[beq_iff_eq.mp (aQ h).1];exact⟨p,es,rfl,(aQ h).2,r⟩
noncomputable def Gh(sc:Scope):(ns:List String)->(es:List Expr)->Option (PLift (Ac sc ns es))
 |[],[]=>some ⟨rfl⟩
 |n::ns,.Name id p::es=>if h:(id==Str.ofString n&&cB sc n)=true then(Gh sc ns es).bind λr=>some ⟨Qf h r.1⟩ else none
 |_,_=>none
theorem Qe{n:String}{id:Str}{p:Pos}(h:(id==Str.ofString n&&cB sc n)=true):vM sc [n] (.Name id p):=.inl ⟨n,p,rfl,by rw[beq_iff_eq.mp (aQ h).1],(aQ h).2⟩
noncomputable def Gg(sc:Scope)(t:List String)(tg:Expr):Option (PLift (vM sc t tg)):=match tg with
 | .Name id p=>(match t with
  |[n]=>if h:(id==Str.ofString n&&cB sc n)=true then some ⟨Qe h⟩ else none
  |_=>none)
 | .Tuple es k p=>if h:Nat.ble 2 t.length=true then(Gh sc t es).bind λr=>some ⟨.inr ⟨ZB h,es,k,p,rfl,r.1⟩⟩ else none
 |_=>none
noncomputable def AC:SK->List String->Bool
 | .enum,t=>t.length==2
 | .zip,t=>t.length==2
 |_,_=>true
noncomputable abbrev Sp(L:Lv)(sc:Scope)(m:Nat)(c:C)(x:Expr):Type:=Option {r:SK×C // ∀t,AC r.1 t=true->kI L sc m r.1 t c r.2 x}
theorem En{id:Str}{p pos:Pos}(h:a_ L sc m c k v)(e:(id==Str.ofString "range"&&(aS sc "range"&&notStar v))=true){t:List String}:kI L sc m .range t c k (.Call (.Name id p) [v] [] pos):=by
 refine oa (aQ e) λe1 e=>?_;rw[beq_iff_eq.mp e1];exact Co (aQ e).1 (aQ e).2 h
theorem Iv{id:Str}{p pos:Pos}(h:a_ L sc m c k v)(e:(id==Str.ofString "enumerate"&&(aS sc "enumerate"&&notStar v))=true){t:List String}(l:(t.length==2)=true):kI L sc m .enum t c k (.Call (.Name id p) [v] [] pos):=by
 refine oa (aQ e) λe1 e=>?_;rw[beq_iff_eq.mp e1];exact DR (aQ e).1 (aQ e).2 (beq_iff_eq.mp l) h
theorem LY{id:Str}{p pos:Pos}(h:a_ L sc m c k1 v)(h2:a_ L sc m k1 k w)(e:(id==Str.ofString "zip"&&(aS sc "zip"&&(notStar v&&notStar w)))=true){t:List String}(l:(t.length==2)=true):kI L sc m .zip t c k (.Call (.Name id p) [v,w] [] pos):=by
 refine oa (aQ e) λe1 e=>?_;refine oa (aQ e) λe2 e=>?_;rw[beq_iff_eq.mp e1];exact HM e2 (aQ e).1 (aQ e).2 (beq_iff_eq.mp l) h h2
noncomputable def Aw(sc:Scope)(m:Nat)(c:C)(x:Expr):Sp L sc m c x:=if h:v8 x=true then(rec sc m c x).bind λr=>some ⟨(.seq,r.1),λ_ _=>HN r.2 h⟩ else none
noncomputable def Qt(sc:Scope)(m:Nat)(c:C)(x:Expr):Sp L sc m c x:=match x with
 | .Call (.Name id p) [v] [] pos=>
  if e:(id==Str.ofString "range"&&(aS sc "range"&&notStar v))=true then(rec sc m c v).bind λr=>some ⟨(.range,r.1),λ_ _=>En r.2 e⟩
  else if e:(id==Str.ofString "enumerate"&&(aS sc "enumerate"&&notStar v))=true then(rec sc m c v).bind λr=>some ⟨(.enum,r.1),λ_ l=>Iv r.2 e l⟩
  else Aw rec sc m c _
 | .Call (.Name id p) [v,w] [] pos=>
  if e:(id==Str.ofString "zip"&&(aS sc "zip"&&(notStar v&&notStar w)))=true then(rec sc m c v).bind λr=>(rec sc m r.1 w).bind λq=>some ⟨(.zip,q.1),λ_ l=>LY r.2 q.2 e l⟩
  else Aw rec sc m c _
 |x=>Aw rec sc m c x
theorem Sb{s s':SK}{t:List String}{k k':C}{x:Expr}(h:kI L sc m s t c k x)(e:s=s')(e2:k=k'):kI L sc m s' t c k' x:=e▸e2▸h
theorem Iw{t:List String}{tg iter x:Expr}{ifs:List Expr}{bY:Scope}{sk:SK}{cc ce:C}(tp:vM (cf bY sc) t tg)(h:(okInner t bY sc&&gO (cf bY sc) t)=true)(hi:kI L sc m sk t c (.comp t sk cc ce k) iter)(he:a_ L (cf bY sc) m ce .done x)
 (hc:(ifs=[]/\cc= .az (.bool true) .done)\/∃z,ifs=[z]/\a_ L (cf bY sc) m cc .done z):kj L sc m c k t tg iter x ifs bY:=⟨(aQ h).1,tp,(aQ h).2,sk,cc,ce,hi,he,hc⟩
noncomputable def Hj(sc:Scope)(m:Nat)(cc:C):(ifs:List Expr)->Option (PLift ((ifs=[]/\cc= .az (.bool true) .done)\/∃z,ifs=[z]/\a_ L sc m cc .done z))
 |[]=>(yw cc).bind λl=>match l.1.1,l.2 with
  | .bool true,e=>(eQ l.1.2).bind λd=>some ⟨.inl ⟨rfl,e.trans (by rw[d.1])⟩⟩
  |_,_=>none
 |[z]=>(rec sc m cc z).bind λr=>(eQ r.1).bind λd=>some ⟨.inr ⟨z,rfl,qc r.2 d.1⟩⟩
 |_=>none
noncomputable def AS(sc:Scope)(m:Nat)(c:C)(tg iter x:Expr)(ifs:List Expr)(bY:Scope):Option {k:C // ∃t,kj L sc m c k t tg iter x ifs bY}:=
 (Qt rec sc m c iter).bind λr=>(KH r.1.2).bind λq=>(GP r.1.1 q.1.2.1).bind λes=>if l:AC r.1.1 q.1.1=true then
  (Gg (cf bY sc) q.1.1 tg).bind λtp=>if h:(okInner q.1.1 bY sc&&gO (cf bY sc) q.1.1)=true then
   (rec (cf bY sc) m q.1.2.2.2.1 x).bind λe=>(eQ e.1).bind λd=>(Hj rec (cf bY sc) m q.1.2.2.1 ifs).bind λcd=>
    some ⟨q.1.2.2.2.2,q.1.1,Iw tp.1 h (Sb (r.2 _ l) es.1 q.2) (qc e.2 d.1) cd.1⟩
  else none else none
noncomputable def Dx(sc:Scope)(m:Nat)(c:C)(id:Str)(p:Pos)(v:Expr)(pos:Pos):tv L sc m c (.Call (.Name id p) [v] [] pos):=
 (rec sc m c v).bind λr=>((vU r.1).bind λq=>O7 id p pos q.1.1 (qc r.2 q.2)).or (if h:notStar v=true then Gi [v] id p pos ⟨r.1,uF h r.2 xQ⟩ else none)
theorem L5{g:Comprehension}{k:C}{x:Expr}{bY:Scope}{p:Pos}(e:(g.is_async==0)=true)(h:∃t,kj L sc m c k t g.target g.iter x g.ifs bY):a_ L sc m c k (.ListComp x [g] bY p):=by
 refine oe h λt h=>?_;obtain ⟨tg,iter,ifs,a⟩:=g;obtain rfl:a=0:=beq_iff_eq.mp e;exact Ei h
theorem L_{t y n:Expr}{p:Pos}{a b:C}(hc:a_ L sc m c k1 t)(e:k1= .ite a b k){ka kb:C}(ha:a_ L sc m a ka y)(da:ka= .done)(hb:a_ L sc m b kb n)(db:kb= .done):a_ L sc m c k (.IfExp t y n p):=Ib (e▸hc) (da▸ha) (db▸hb)
noncomputable def O6(sc:Scope)(m:Nat)(c:C)(x:Expr):tv L sc m c x:=match x with
 | .Name id p=>v5 c id p
 | .Constant v u p=>(yw c).bind λq=>(KL q.1.1 q.1.2 v u p).bind λr=>some ⟨r.1,Ds r.2 q.2⟩
 | .List xs p=>(vN rec sc m c xs).bind λr=>(No r.1).bind λq=>(match q.1.1,q.2 with
  | .list,e=>if h:(q.1.2.1==xs.length&&Nat.ble xs.length 100)=true then some ⟨q.1.2.2,Eg (ZB (aQ h).2) (vX r.2 (e.trans (by rw[beq_iff_eq.mp (aQ h).1])))⟩ else none
  |_,_=>none)
 | .Tuple xs n p=>(vN rec sc m c xs).bind λr=>(No r.1).bind λq=>(match q.1.1,q.2 with
  | .tup,e=>if h:(q.1.2.1==xs.length&&Nat.ble xs.length 100)=true then some ⟨q.1.2.2,HY (ZB (aQ h).2) (vX r.2 (e.trans (by rw[beq_iff_eq.mp (aQ h).1])))⟩ else none
  |_,_=>none)
 | .Dict [] [] p=>(No c).bind λq=>(match q.1.1,q.1.2.1,q.2 with
  | .dict,0,e=>some ⟨q.1.2.2,Ds Cz e⟩
  |_,_,_=>none)
 | .Attribute v a p=>(rec sc m c v).bind λr=>(vU r.1).bind λq=>Hk a p q.1.1 (qc r.2 q.2)
 | .Subscript (.Name id p) (.Slice none (some (.Constant (.int i) k' p1)) none p2) p3=>(v5 c id p).bind λr=>(vU r.1).bind λq=>Hf i p1 p2 p3 k' q.1.1 (qc r.2 q.2)
 | .Subscript (.Name id p) (.Slice none none (some (.UnaryOp .USub (.Constant (.int i) k' p1) p4)) p2) p3=>(v5 c id p).bind λr=>(vU r.1).bind λq=>KJ i p1 p2 p3 p4 k' q.1.1 (qc r.2 q.2)
 | .Subscript v t p=>(rec sc m c v).bind λr=>(rec sc m r.1 t).bind λr2=>(vB r2.1).bind λq=>KM v t p r.2 q.1.1 (qc r2.2 q.2)
 | .BinOp (.Constant (.int a) u p) .Pow (.Constant (.int j) u' p') Mr=>(yw c).bind λq=>(vInt q.1.1).bind λi=>if g:(i.1==i.1&&(a==10&&(j==9&&i.1==10 ^ 9||j==60&&i.1==10 ^ 60)))=true then some ⟨q.1.2,Ds (L4 (aQ g).2) (q.2.trans (congrArg (λz=>C.az z q.1.2) i.2))⟩ else none
 | .BinOp l o r p=>(rec sc m c l).bind λr1=>(rec sc m r1.1 r).bind λr2=>(vB r2.1).bind λq=>KP o l r p r1.2 q.1.1 (qc r2.2 q.2)
 | .UnaryOp .Not v p=>(rec sc m c v).bind λr=>(vU r.1).bind λq=>KK p q.1.1 (qc r.2 q.2)
 | .UnaryOp .USub (.Constant (.int j) u p) p'=>(yw c).bind λq=>(vInt q.1.1).bind λi=>if g:(i.1== -j)=true then some ⟨q.1.2,Ds (L9 g) (q.2.trans (congrArg (λz=>C.az z q.1.2) i.2))⟩ else none
 | .Compare l [o] [.List [] p'] p=>(rec sc m c l).bind λr=>(vU r.1).bind λq=>Hg o l p p' q.1.1 (qc r.2 q.2)
 | .Compare l [o] [r] p=>(rec sc m c l).bind λr1=>(rec sc m r1.1 r).bind λr2=>(vB r2.1).bind λq=>KO o l r p r1.2 q.1.1 (qc r2.2 q.2)
 | .BoolOp op xs p=>(Gj rec sc m op c xs).bind λr=>some ⟨r.1,LU r.2⟩
 | .IfExp t y n p=>(rec sc m c t).bind λr=>(Gf r.1).bind λq=>(rec sc m q.1.1 y).bind λa=>(eQ a.1).bind λda=>(rec sc m q.1.2.1 n).bind λb=>(eQ b.1).bind λdb=>some ⟨q.1.2.2,L_ r.2 q.2 a.2 da.1 b.2 db.1⟩
 | .ListComp x [g] bY p=>if e:(g.is_async==0)=true then(AS rec sc m c g.target g.iter x g.ifs bY).bind λr=>some ⟨r.1,L5 e r.2⟩ else none
 | .Call (.Attribute v a apos) xs [] pos=>(rec sc m c v).bind λr=>(O1 r.1).bind λq=>(vN rec sc m q.1.2 xs).bind λs=>Hh xs a apos pos (qc r.2 q.2) s
 | .Call (.Name id p) [v] [] pos=>Dx rec sc m c id p v pos
 | .Call (.Name id p) [v,.Name cn p'] [] pos=>(rec sc m c v).bind λr=>((vU r.1).bind λq=>Hi id cn p p' pos q.1.1 (qc r.2 q.2)).or ((vN rec sc m c [v,.Name cn p']).bind λr=>Gi _ id p pos r)
 | .Call (.Name id p) xs [] pos=>(vN rec sc m c xs).bind λr=>Gi xs id p pos r
 |_=>none
end
noncomputable def Qu(L:Lv):Nat->Rec L
 |0=>λ_ _ _ _=>none
 |n+1=>O6 (Qu L n)
end
end
end
section
open PySem PySem.W PyProof.Rows PySem.Calls
noncomputable section
noncomputable def Gk{α:Type}:(t:Sem α)->Option {b:α // t=pure b}| .pure b=>some ⟨b,rfl⟩|_=>none
theorem xx{α:Type}{t:Sem α}{b:α}(h:(Gk t).map (·.1)=some b):t=pure b:=oea (Z5.mp h) λx _ e=>e▸x.2
noncomputable def xZ(sc:Scope)(tg x:Expr)(line:Nat):Option Bool:=(Gk (swapsWithSole [tg] x line (envOf sc))).map (·.1)
noncomputable def zX(sc:Scope)(tg x:Expr):Option (Option (List Str)):=(Gk (swappedStores [tg] x (envOf sc))).map (·.1)
theorem lL{sc:Scope}{tg x:Expr}{line:Nat}{b:Bool}(h:xZ sc tg x line=some b):swapsWithSole [tg] x line (envOf sc)=pure b:=xx h
theorem ou{sc:Scope}{tg x:Expr}{b:Option (List Str)}(h:zX sc tg x=some b):swappedStores [tg] x (envOf sc)=pure b:=xx h
noncomputable def xI:Expr->Bool
 | .ListComp _ _ _ _=>false
 | .SetComp _ _ _ _=>false
 | .DictComp _ _ _ _ _=>false
 |_=>true
theorem wu{x:Expr}(h:xI x=true)(line:Nat)(env:Env):swapsWith x none line env=pure false:=by
 cases x<;>first|rfl|cases h
section
variable {L:Lv}{sc:Scope}{m:Nat}{c k k1 k2:C}{x:Expr}{p p':Pos}
noncomputable abbrev Na(L:Lv)(sc:Scope)(m:Nat)(c:C)(y:Stmt):Type:=Option {k:C // dX L sc m c k y}
noncomputable abbrev OJ(L:Lv)(sc:Scope)(m:Nat)(c:C)(y:List Stmt):Type:=Option {k:C // dL L sc m c k y}
theorem GZ{c':C}{y:Stmt}(h:dX L sc m c k y)(e:c'=c):dX L sc m c' k y:=e▸h
theorem Qh{k':C}{ys:List Stmt}(h:dL L sc m c k ys)(e:k=k'):dL L sc m c k' ys:=e▸h
theorem BG{y:Stmt}:dX L sc m .raise k y:=λf ρ H ow s E Q a w=>w.elim
theorem Mf{n:String}{id:Str}(he:a_ L sc m c (.aY n k) x)(h:(id==Str.ofString n&&(cB sc n&&(xZ sc (.Name id p') x p.line==some false&&zX sc (.Name id p') x==some none)))=true):dX L sc m c k (.Assign [.Name id p'] x p):=by
 refine oa (aQ h) λh1 h=>?_;refine oa (aQ h) λh2 h=>?_;refine oa (aQ h) λh3 h4=>?_;rw[beq_iff_eq.mp h1] at h3 h4 ⊢;exact Hs h2 (lL (beq_iff_eq.mp h3)) (ou (beq_iff_eq.mp h4)) he
theorem Ip{n:String}{a:Str}{o:Expr}(he:a_ L sc m c k1 x)(ho:a_ L sc m k1 (.setA n k) o)(h:(a==Str.ofString n&&(xZ sc (.Attribute o a p') x p.line==some false&&zX sc (.Attribute o a p') x==some none))=true):dX L sc m c k (.Assign [.Attribute o a p'] x p):=by
 refine oa (aQ h) λh1 h=>?_;refine oa (aQ h) λh3 h4=>?_;rw[beq_iff_eq.mp h1] at h3 h4 ⊢;exact DB (lL (beq_iff_eq.mp h3)) (ou (beq_iff_eq.mp h4)) he ho
theorem Io{o i:Expr}(he:a_ L sc m c k1 x)(ho:a_ L sc m k1 k2 o)(hi:a_ L sc m k2 (.dq k) i)(h:(fP i&&(xZ sc (.Subscript o i p') x p.line==some false&&zX sc (.Subscript o i p') x==some none))=true):dX L sc m c k (.Assign [.Subscript o i p'] x p):=by
 refine oa (aQ h) λh1 h=>?_;refine oa (aQ h) λh3 h4=>?_;exact DA h1 (lL (beq_iff_eq.mp h3)) (ou (beq_iff_eq.mp h4)) he ho hi
theorem Qd{ns:List String}{es:List Expr}{n:Nat}(he:vY L sc m c k ns x)(ok:Ac sc ns es)(h:(xZ sc (.Tuple es n p') x p.line==some false&&zX sc (.Tuple es n p') x==some none)=true):dX L sc m c k (.Assign [.Tuple es n p'] x p):=
 KX ok (lL (beq_iff_eq.mp (aQ h).1)) (ou (beq_iff_eq.mp (aQ h).2)) he
theorem L1{ns:List String}{tg:Expr}(he:vY L sc m c k ns x)(h:(xZ sc tg x p.line==some false&&(zX sc tg x==some (some (ns.map Str.ofString))&&(decide ns.Nodup&&ns.all (cB sc))))=true):dX L sc m c k (.Assign [tg] x p):=by
 refine oa (aQ h) λh1 h=>?_;refine oa (aQ h) λh2 h=>?_;exact Hm (of_decide_eq_true (aQ h).1) (λn hn=>ZV.mp (aQ h).2 n hn) (lL (beq_iff_eq.mp h1)) (ou (beq_iff_eq.mp h2)) he
theorem L0{n:String}{id:Str}{tg iter x:Expr}{ifs:List Expr}{bY:Scope}{pos:Pos}(o:∃t,kj L sc m c k1 t tg iter x ifs bY)(e:k1= .aY n k)(h:(id==Str.ofString n&&(cB sc n&&xZ sc (.Name id p') (.ListComp x [⟨tg,iter,ifs,0⟩] bY pos) p.line==some true))=true):
 dX L sc m c k (.Assign [.Name id p'] (.ListComp x [⟨tg,iter,ifs,0⟩] bY pos) p):=by
 refine oe o λt o=>?_;refine oa (aQ h) λh1 h=>?_;rw[beq_iff_eq.mp h1] at h ⊢;exact Hl (e▸o) (aQ h).1 (lL (beq_iff_eq.mp (aQ h).2))
variable (rec:Rec L)
noncomputable def O4(sc:Scope)(m:Nat)(c:C)(x:Expr):Option {r:List String×C // vY L sc m c r.2 r.1 x}:=match x with
 | .Tuple xs n p=>(vN rec sc m c xs).bind λr=>(KI r.1).bind λq=>if h:(xs.length==q.1.1.length&&Nat.ble xs.length 100)=true then some ⟨(q.1.1,q.1.2),Dw (beq_iff_eq.mp (aQ h).1) (ZB (aQ h).2) (vX r.2 q.2)⟩ else none
 |x=>(rec sc m c x).bind λr=>(OW r.1).bind λq=>some ⟨(q.1.1,q.1.2),He (qc r.2 q.2)⟩
noncomputable def KQ(sc:Scope)(m:Nat)(c:C)(tg x:Expr)(p:Pos):Na L sc m c (.Assign [tg] x p):=match tg with
 | .Name id p'=>((rec sc m c x).bind λr=>(JW r.1).bind λq=>if h:(id==Str.ofString q.1.1&&(cB sc q.1.1&&(xZ sc (.Name id p') x p.line==some false&&zX sc (.Name id p') x==some none)))=true then some ⟨q.1.2,Mf (qc r.2 q.2) h⟩ else none).or
  (match x with
   | .ListComp y [⟨tg,iter,ifs,0⟩] bY pos=>(AS rec sc m c tg iter y ifs bY).bind λr=>(JW r.1).bind λq=>if h:(id==Str.ofString q.1.1&&(cB sc q.1.1&&xZ sc (.Name id p') (.ListComp y [⟨tg,iter,ifs,0⟩] bY pos) p.line==some true))=true then some ⟨q.1.2,L0 r.2 q.2 h⟩ else none
   |_=>none)
 | .Attribute o a p'=>(rec sc m c x).bind λr1=>(rec sc m r1.1 o).bind λr=>(KE r.1).bind λq=>if h:(a==Str.ofString q.1.1&&(xZ sc (.Attribute o a p') x p.line==some false&&zX sc (.Attribute o a p') x==some none))=true then some ⟨q.1.2,Ip r1.2 (qc r.2 q.2) h⟩ else none
 | .Subscript o i p'=>(rec sc m c x).bind λr1=>(rec sc m r1.1 o).bind λr2=>(rec sc m r2.1 i).bind λr=>(KD r.1).bind λq=>if h:(fP i&&(xZ sc (.Subscript o i p') x p.line==some false&&zX sc (.Subscript o i p') x==some none))=true then some ⟨q.1,Io r1.2 r2.2 (qc r.2 q.2) h⟩ else none
 | .Tuple es n p'=>(O4 rec sc m c x).bind λr=>if h:(xZ sc (.Tuple es n p') x p.line==some false&&zX sc (.Tuple es n p') x==some none)=true then(Gh sc r.1.1 es).bind λo=>some ⟨r.1.2,Qd r.2 o.1 h⟩
  else if h:(xZ sc (.Tuple es n p') x p.line==some false&&(zX sc (.Tuple es n p') x==some (some (r.1.1.map Str.ofString))&&(decide r.1.1.Nodup&&r.1.1.all (cB sc))))=true then some ⟨r.1.2,L1 r.2 h⟩ else none
 |_=>none
variable (aT:∀(sc:Scope)(m:Nat)(c:C)(ys:List Stmt),OJ L sc m c ys)
theorem Qg{t:Expr}{xs ys:List Stmt}{a b:C}(hc:a_ L sc m c k1 t)(e:k1= .ite a b k){ka kb:C}(ha:dL L sc m a ka xs)(da:ka= .done)(hb:dL L sc m b kb ys)(db:kb= .done):dX L sc m c k (.If t xs ys p):=Ho (e▸hc) (da▸ha) (db▸hb)
theorem Em{t:Expr}{xs:List Stmt}{a b:C}(e:c= .loop a b k){ka kb:C}(ha:a_ L sc m a ka t)(da:ka= .done)(hb:dL L sc m b kb xs)(db:kb= .done):dX L sc m c k (.While t xs [] p):=GZ (BF (da▸ha) (db▸hb)) e
theorem Mc{t:List String}{tg iter:Expr}{xs:List Stmt}{s s':SK}{b kb:C}(tp:vM sc t tg)(hi:kI L sc m s t c k1 iter)(es:s=s')(e:k1= .for t s' b k)(hb:dL L sc m b kb xs)(db:kb= .done):dX L sc m c k (.For tg iter xs [] p):=Hq tp (Sb hi es e) (db▸hb)
theorem Eo{v w tg:Expr}{xs:List Stmt}{b kb k2:C}{o:B}{t:List String}{sk:SK}{n:String}{id kn at':Str}{p pos q kp p0:Pos}(tp:vM sc t tg)(he:a_ L sc m c k1 v)(hd:a_ L sc m k1 k2 w)(ho:k2= .b o (.for t sk b k))(e1:o= .sortedBy)(e2:sk= .seq)(h:(id==Str.ofString "sorted"&&(kn==Str.ofString "key"&&(at'==Str.ofString "get"&&(aS sc "sorted"&&(sc.names.lookup (Str.ofString n)==some .local&&(notStar v&&cq w))))))=true)(hb:dL L sc m b kb xs)(db:kb= .done):
 dX L sc m c k (.For tg (.Call (.Name id p) [v] [⟨some kn,.Attribute w at' q,kp⟩] pos) xs [] p0):=by
 refine oa (aQ h) λe3 h=>?_;refine oa (aQ h) λe4 h=>?_;refine oa (aQ h) λe5 h=>?_;refine oa (aQ h) λe6 h=>?_;refine oa (aQ h) λe7 h=>?_;rw[beq_iff_eq.mp e3,beq_iff_eq.mp e4,beq_iff_eq.mp e5];exact BI e6 (aQ h).1 (aQ h).2 (beq_iff_eq.mp e7) tp he (qc hd (by rw[ho,e1,e2])) (db▸hb)
noncomputable def SX:(o:B)->Option (PLift (o= .sortedBy))| .sortedBy=>some ⟨rfl⟩|_=>none
noncomputable def KN(sc:Scope)(m:Nat)(c:C)(tg iter:Expr)(xs:List Stmt)(p:Pos):Na L sc m c (.For tg iter xs [] p):=match iter with
 | .Call (.Name id p') [v] [⟨some kn,.Attribute w at' q,kp⟩] pos=>(rec sc m c v).bind λr=>(rec sc m r.1 w).bind λr2=>(vB r2.1).bind λo=>(JV o.1.2).bind λg=>(Gg sc g.1.1 tg).bind λtp=>(aT sc m g.1.2.2.1 xs).bind λb=>(eQ b.1).bind λdb=>
  (SX o.1.1).bind λe1=>(GP g.1.2.1 .seq).bind λe2=>if h:(id==Str.ofString "sorted"&&(kn==Str.ofString "key"&&(at'==Str.ofString "get"&&(aS sc "sorted"&&(sc.names.lookup (Str.ofString (g.1.1.headD ""))==some .local&&(notStar v&&cq w))))))=true then some ⟨g.1.2.2.2,Eo tp.1 r.2 r2.2 (o.2.trans (congrArg _ g.2)) e1.1 e2.1 h b.2 db.1⟩ else none
 |iter=>(Qt rec sc m c iter).bind λr=>(JV r.1.2).bind λq=>(GP r.1.1 q.1.2.1).bind λes=>if l:AC r.1.1 q.1.1=true then(Gg sc q.1.1 tg).bind λtp=>(aT sc m q.1.2.2.1 xs).bind λb=>(eQ b.1).bind λdb=>
  some ⟨q.1.2.2.2,Mc tp.1 (r.2 _ l) es.1 q.2 b.2 db.1⟩ else none
noncomputable def O5(sc:Scope)(m:Nat)(c:C)(y:Stmt):Na L sc m c y:=((Hc c).bind λe=>some ⟨.done,GZ BG e.1⟩).or (match y with
 | .Assign [tg] x p=>KQ rec sc m c tg x p
 | .Expr x p=>(rec sc m c x).bind λr=>(OY r.1).bind λq=>if h:xI x=true then some ⟨q.1,DC (λenv=>wu h _ env) (qc r.2 q.2)⟩ else none
 | .If t xs ys p=>(rec sc m c t).bind λr=>(Gf r.1).bind λq=>(aT sc m q.1.1 xs).bind λa=>(eQ a.1).bind λda=>(aT sc m q.1.2.1 ys).bind λb=>(eQ b.1).bind λdb=>some ⟨q.1.2.2,Qg r.2 q.2 a.2 da.1 b.2 db.1⟩
 | .While t xs [] p=>(KG c).bind λq=>(rec sc m q.1.1 t).bind λa=>(eQ a.1).bind λda=>(aT sc m q.1.2.1 xs).bind λb=>(eQ b.1).bind λdb=>some ⟨q.1.2.2,Em q.2 a.2 da.1 b.2 db.1⟩
 | .For tg iter xs [] p=>KN rec aT sc m c tg iter xs p
 | .Return (some x) p=>(rec sc m c x).bind λr=>(OX r.1).bind λq=>some ⟨.done,Hn (qc r.2 q.1)⟩
 | .Break p=>(O2 c).bind λq=>some ⟨.done,GZ Hr q.1⟩
 |_=>none)
noncomputable def Qr(one:∀(c:C) (y:Stmt),Na L sc m c y):(c:C)->(ys:List Stmt)->OJ L sc m c ys
 |c,[]=>some ⟨c,Dy⟩
 |c,y::ys=>(one c y).bind λr=>(Qr one r.1 ys).bind λq=>some ⟨q.1,BE r.2 q.2⟩
noncomputable def Np(L:Lv):Nat->∀(sc:Scope) (m:Nat) (c:C) (ys:List Stmt),OJ L sc m c ys
 |0=>λ_ _ _ _=>none
 |n+1=>λsc m=>Qr (O5 (Qu L 40) (Np L n) sc m)
noncomputable def ry(L:Lv)(sc:Scope)(m:Nat)(c:C)(ys:List Stmt):Bool:=(Np L 20 sc m c ys).any λr=>(eQ r.1).isSome
theorem y6{ys:List Stmt}(h:ry L sc m c ys=true):dL L sc m c .done ys:=by
 unfold ry at h
 cases e:Np L 20 sc m c ys with
 |none=>rw[e] at h;cases h
 |some r=>
  rw[e] at h;refine oe (YJ.mp (show (eQ r.1).isSome=true from h)) λd _=>?_;exact Qh r.2 d.1
end
end
end
section
open PySem PySem.W PyProof.Rows PySem.Calls
noncomputable def lO(p:Arguments)(ps:List String):Bool:=p.posonlyargs.isEmpty&&p.vararg.isNone&&p.kwonlyargs.isEmpty&&p.kwarg.isNone&&p.args.map (·.arg)==ps.map Str.ofString&&decide (ps.map Str.ofString).Nodup
theorem uE{α γ:Type}{f g:α->Option γ}:∀{l:List α},(∀x∈l,f x=g x)->l.filterMap f=l.filterMap g
 |[],_=>rfl
 |x::l,h=>by rw[WI,WI,h x Ze,uE λy hy=>h y (Zh _ hy)]
theorem o7{α β:Type}[BEq α][LawfulBEq α]:∀{xs:List α} {vs:List β},xs.length=vs.length->xs.Nodup->xs.filterMap (λn=>((xs.zip vs).lookup n).map (n, ·))=xs.zip vs
 |[],[],_,_=>rfl
 |[],_::_,h,_=>by cases h
 |_::_,[],h,_=>by cases h
 |x::xs,v::vs,hl,nd=>by
  rw[ZC] at nd;rw[V0,WI,ZS,beq_self_eq_true];refine congrArg (List.cons (x,v)) (Uw ?_ (o7 (xs:=xs) (vs:=vs) (XC hl) nd.2));have:∀n∈xs,(((x,v)::xs.zip vs).lookup n).map (n, ·)=((xs.zip vs).lookup n).map (n, ·):=λn hn=>by
   have e:(n==x)=false:=beq_eq_false_iff_ne.mpr λe=>nd.1 (e▸hn);rw[ZS,e]
  exact uE this
theorem pB{α β:Type}[BEq α][LawfulBEq α]:∀{xs:List α} {vs:List β},xs.length=vs.length->∀n∈xs,((xs.zip vs).lookup n).isSome=true
 |[],_,_,n,h=>by cases h
 |x::xs,[],hl,_,_=>by cases hl
 |x::xs,v::vs,hl,n,h=>by
  rw[V0,ZS]
  by_cases e:n=x
  . subst e;simp
  . rw[beq_eq_false_iff_ne.mpr e];rcases Zp.mp h with h|h
    . exact absurd h e
    . exact pB (by simpa using hl) n h
theorem z0{α β:Type}{l:List α}{j:Nat}:l.zip (List.drop j ([]:List β))=[]:=by rw[List.drop_nil,List.zip_nil_right]
theorem fz{α β:Type}{l:List α}{s:β}{f:α->β->Sem (ForInStep β)}(h:l=[]):forIn l s f=pure s:=h▸rfl
theorem bz{α β:Type}{x:Sem α}{a:α}{k:α->Sem β}{r:Sem β}(h:x=pure a)(e:k a=r):x >>= k=r:=h▸e
theorem pW{fd:FuncData}{ps:List String}{vals:List Value}(h:lO fd.params ps=true)(hd:fd.defaults= .none)(hl:ps.length=vals.length):bindArgs fd ⟨vals,[]⟩=pure ((ps.map Str.ofString).zip vals):=by
 unfold lO at h;simp only[XB,Wq,XG,beq_iff_eq,decide_eq_true_eq] at h;refine oa h λbV h6=>?_;try clear h;refine oa bV λr_1 h5=>?_;try clear bV;obtain ⟨⟨⟨h1,h2⟩,h3⟩,h4⟩:=r_1
 obtain ⟨_,_,p,_,_,_,_,df,_,_,_,_,_,_,_⟩:=fd;obtain ⟨_,as,_,_,_,_,_⟩:=p;simp only at h1 h2 h3 h4 h5 hd;subst h1 h2 h3 h4 hd;generalize hn:ps.map Str.ofString=ns at h5 h6 ⊢;have NW:ns.length=vals.length:=by rw[<-hn,Za];exact hl
 subst h5;have c1:¬ (decide (vals.length>(as.map (·.arg)).length)&&true)=true:=by rw[NW];simp
 have c2:∀k,¬ (!(List.filter (λn=>(List.lookup n ((as.map (·.arg)).zip vals)).isNone) (List.take k (as.map (·.arg)))).isEmpty)=true:=λk=>by
  rewrite [List.filter_eq_nil_iff.mpr λn hn=>?_]
  . exact Bool.noConfusion
  . have:=pB NW n (Vs hn);exact V2.mp (Option.isNone_eq_false_iff.mpr this)
 exact Uw (if_neg c1) (Uw (if_neg (c2 _)) (bz (fz z0) (congrArg Sem.pure ((congrArg (List.filterMap _) (Zu _)).trans (o7 NW h6)))))
theorem jW:∀(names:List (Str×NameKind)) (n:Nat) (acc:List (Str×Addr)) (x:Str),((x,NameKind.cell)∈names\/(acc.lookup x).isSome=true)->((cellsFrom n names acc).lookup x).isSome=true:=by
 intro names
 induction names with
 |nil=>intro n acc x h;rcases h with h|h;cases h;exact h
 |cons y r ih=>
  intro n acc x h;obtain ⟨m,k⟩:=y;unfold cellsFrom
  by_cases hk:k= .cell
  . subst hk;simp only[beq_self_eq_true,if_true];refine ih _ _ x ?_;rcases h with h|h
    . rcases Zp.mp h with h|h
      . cases h;right;simp
      . exact .inl h
    . right;rw[ZS];split
      . rfl
      . exact h
  . have:(k==NameKind.cell)=false:=beq_eq_false_iff_ne.mpr hk;simp only[this,Xo,if_false];refine ih _ _ x ?_;rcases h with h|h
    . rcases Zp.mp h with h|h
      . cases h;exact absurd rfl hk
      . exact .inl h
    . exact .inr h
theorem zM{kd:Str->Option NameKind}:∀(l:List (Str×Value)) (m:Str->Option Value) (n:Str),n∉l.map (·.1)->bindL kd l m n=m n:=by
 intro l
 induction l with
 |nil=>intro m n _;rfl
 |cons p r ih=>
  intro m n h;obtain ⟨k,v⟩:=p;simp only[Zw,Zp,not_or] at h;unfold bindL;rw[ih _ _ h.2];split
  . show (if n=k then some v else m n)=m n;rw[if_neg h.1]
  . rfl
theorem CK{kd:Str->Option NameKind}:∀(l:List (Str×Value)) (m:Str->Option Value) (n:Str) (v:Value),(l.map (·.1)).Nodup->(n,v)∈l->kd n=some .local->bindL kd l m n=some v:=by
 intro l
 induction l with
 |nil=>intro m n v _ h;cases h
 |cons p r ih=>
  intro m n v nd h hk;obtain ⟨k,u⟩:=p;simp only[Zw,ZC] at nd;unfold bindL;rcases Zp.mp h with h|h
  . cases h
    rw[zM r _ _ nd.1,if_pos hk,if_pos rfl]
  . exact ih _ n v nd.2 h hk
theorem zN{kd:Str->Option NameKind}:∀(l:List (Str×Value)) (m:Str->Option Value) (n:Str),n∉l.map (·.1)->bindC kd l m n=m n:=by
 intro l
 induction l with
 |nil=>intro m n _;rfl
 |cons p r ih=>
  intro m n h;obtain ⟨k,v⟩:=p;simp only[Zw,Zp,not_or] at h;unfold bindC;rw[ih _ _ h.2];split
  . rfl
  . show (if n=k then some v else m n)=m n;rw[if_neg h.1]
theorem CM{kd:Str->Option NameKind}:∀(l:List (Str×Value)) (m:Str->Option Value) (n:Str) (v:Value),(l.map (·.1)).Nodup->(n,v)∈l->kd n≠some .local->bindC kd l m n=some v:=by
 intro l
 induction l with
 |nil=>intro m n v _ h;cases h
 |cons p r ih=>
  intro m n v nd h hk;obtain ⟨k,u⟩:=p;simp only[Zw,ZC] at nd;unfold bindC;rcases Zp.mp h with h|h
  . cases h
    rw[zN r _ _ nd.1,if_neg hk,if_pos rfl]
  . exact ih _ n v nd.2 h hk
theorem kC:∀{ps:List String} {vals:List Value} {x:String} {v:V},iI ps (vals.map aq) x=some v->∃v',(Str.ofString x,v')∈(ps.map Str.ofString).zip vals/\aq v'=v
 |[],_,_,_,h=>by cases h
 |_::_,[],_,_,h=>by cases h
 |p::ps,u::vals,x,v,h=>by
  simp only[Zw,iI,bf] at h
  by_cases e:x=p
  . subst e;rw[if_pos rfl] at h;cases h
    exact⟨u,by simp,rfl⟩
  . rw[if_neg e] at h;refine oea (kC h) λv' h1 h2=>?_;exact⟨v',Zh _ h1,h2⟩
structure FnAt(W:dF)(L:Lv)(f:String)(fn:Fn)(l:Nat)(a:Nat)(fd:FuncData):Prop where
 pl:W.fn f=some a
 lv:L.lv.lookup f=some l
 pos:1<=l
 obj:∃o,W.base.get? a=some o/\o.data= .func fd
 code:W.base.CodeRec fd.code fd.qualname
 clo:fd.closure=[]
 gl:fd.globals=mainGlobals
 bi:fd.builtins=builtinsNs
 kd:fd.scope.kind= .function
 co:fd.scope.isCoroutine=false
 gen:fd.scope.isGenerator=false
 ps:lO fd.params fn.ps=true
 df:fd.defaults= .none
 tg:∀n∈fn.ps,cB fd.scope n=true
 fr:∀x∈fd.scope.names,x.2≠ .free
 body:∃b,fd.body= .stmts b/\ry L fd.scope (l - 1) fn.body b=true
section
variable {W:dF}{L:Lv}{γ:String->Option V}
theorem wW{fd:FuncData}{a:Nat}{ps:List String}{vals:List Value}{s s₁:Shared}{H:Hp}{ow:Nat->Option Nat}(R:RH W H ow s.heap)(hk:fd.scope.kind= .function)(hg:fd.globals=mainGlobals)(hb:fd.builtins=builtinsNs)
 (Js:lO fd.params ps=true) (hl:ps.length=vals.length) (htg:∀n∈ps,cB fd.scope n=true) (hfr:∀x∈fd.scope.names,x.2≠ .free)
 (x:InCallC s (callEnvC fd s.heap.objs.size a).locals (bindL (callEnvC fd s.heap.objs.size a).kindOf ((ps.map Str.ofString).zip vals) λ_=>none) (callEnvC fd s.heap.objs.size a).cells
  (bindC (callEnvC fd s.heap.objs.size a).kindOf ((ps.map Str.ofString).zip vals) λ_=>none) s₁):
 b_ W (iI ps (vals.map aq)) (callEnvC fd s.heap.objs.size a) H ow s₁.heap:=by
 have nd:(((ps.map Str.ofString).zip vals).map (·.1)).Nodup:=by
  unfold lO at Js;simp only[XB,decide_eq_true_eq] at Js;rw[Um (by simpa using YI hl)];exact Js.2
 have LN:∀b,s.heap.objs.size<=b->s.heap.get? b=none:=λb hb=>by
  cases e:s.heap.get? b with
  |none=>rfl
  |some o=>exact absurd (Yg e) (Uz.mpr hb)
 have DT:∀n,(callEnvC fd s.heap.objs.size a).kindOf n≠some .free:=λn e=>hfr _ (Yv (show fd.scope.names.lookup n=some .free from e)) rfl;have Fb:∀n,gX (callEnvC fd s.heap.objs.size a) n->∃c,(callEnvC fd s.heap.objs.size a).cells.lookup n=some c:=λn hc=>by
  rcases hc with hc|hc
  . exact YJ.mp (jW fd.scope.names _ [] n (.inl (Yv (show fd.scope.names.lookup n=some .cell from hc))))
  . exact absurd hc (DT n)
 refine⟨hk,hg,hb,⟨_,x.toInCall.ns,λy v hy hy0 UY=>?_⟩,λy v hy hc=>?_,λn hc=>?_,λn c hc=>?_,λn n' c h1 h2=>?_,λb hb=>?_⟩
 . refine oea (kC hy) λv' h1 h2=>?_;exact⟨v',CK _ _ _ _ nd h1 UY,h2⟩
 . refine oea (kC hy) λv' h1 h2=>?_;refine oe (Fb _ hc) λc e=>?_;have hkl:(callEnvC fd s.heap.objs.size a).kindOf (Str.ofString y)≠some .local:=λq=>by
    rcases hc with hc|hc<;>rw[hc] at q<;>cases q
   have:=x.cell _ _ e;rw[CM _ _ _ _ nd h1 hkl] at this;exact⟨c,v',e,this,h2⟩
 . refine oe (Fb _ hc) λc e=>?_;exact⟨c,_,e,x.cell _ _ e⟩
 . exact Ud (x.above n c (Yv hc))
 . exact PySem.name_of_addr x.apart (Yv h1) (Yv h2)
 . have hd:s.heap.get? b=none:=LN b (by
    rcases hb with hb|⟨n,hb⟩
    . subst hb;exact Zs _
    . exact ZH (x.above n b (Yv hb)))
   refine⟨λo=>R.ie o hd,cD R.keep hd,?_⟩;rcases hb with hb|⟨n,hb⟩
   . subst hb;exact rC x.toInCall.ns
   . exact uL (x.cell n b hb)
theorem Cj(F:Full W L γ){f:String}{fn:Fn}{l a:Nat}{fd:FuncData}(N:FnAt W L f fn l a fd){vs:List V}{H:Hp}{Q:V->Hp->Prop}(w:JU (Meets W L) γ fn vs H Q):Meets W L f vs H Q:=by
 refine oa w λhl w=>?_;refine⟨a,l,N.pl,N.lv,λA s ow vals hA R hv=>?_⟩;subst hv;rw[Za] at hl;refine oea N.obj λo ho LO=>?_;refine oea N.body λbody LP W1=>?_;have qi:=N.pos;have Rt:=hA.dp;have U4:=hA.un;refine codeAny_call_cells (prog:=W.prog) (w:=W.w) (binds:=(fn.ps.map Str.ofString).zip vals) (by unfold recursionLimit;exact(aj 0x1103e8601403846110a40123120) _ _ Rt) (R.keep a o ho) LO (F.lim.keeps R.keep) (N.code.keeps R.keep) LP
  (pW N.ps N.df hl) N.clo (λx hx=>?_) (λs₁ x=>?_) N.co N.gen N.kd
 . have hm:=(List.of_mem_zip hx).1;refine oea (Zn.mp hm) λn hn e=>?_;have:=N.tg n hn;unfold cB at this;rw[e] at this;simp only[Bool.or_eq_true,beq_iff_eq] at this;rcases this with h|h
   . exact .inl h
   . exact .inr ⟨h,jW _ _ _ _ (.inl (Yv h))⟩
 . have X:=wW (W:=W) R N.kd N.gl N.bi N.ps hl N.tg N.fr x;have R₁:RH W H ow s₁.heap:=R.keeps x.toInCall.keep;have Oa:CY (l - 1) (A.deeper (callEnvC fd s.heap.objs.size a)):=⟨hA.hd,nU (VZ qi Nat.one_pos) Rt (by decide),nU (VZ qi Nat.one_pos) U4 (by decide)⟩;refine Zy (y6 W1 ⟨W,γ,F,A.deeper (callEnvC fd s.heap.objs.size a),callEnvC fd s.heap.objs.size a,rfl,Oa⟩ _ H ow s₁ _ _ ⟨X,R₁⟩ w) (λfw s₂ p=>?_) λ_ _ e=>e;refine oeeeaa p λρ' H' aP cw G q=>?_;try clear p;obtain ⟨X',R'⟩:=cw
   have G':=G.out x.toInCall.keep x.toInCall.same (λb hb=>by
    refine oe hb λn hb=>?_;have hb:=hb.ai
    cases e:s.heap.get? b with
    |none=>rfl
    |some o=>
     refine absurd (Yg e) (Uz.mpr ?_);rcases hb with hb|⟨n,hb⟩
     . subst hb;exact Zs _
     . exact ZH (x.above n b (Yv hb)))
   cases fw with
   |next=>exact⟨H',aP,q,R',G'⟩
   |brk=>exact q.elim
   |ret v=>exact⟨H',aP,q,R',G'⟩
   |cont=>exact q.elim
end
end
section
set_option tactic.hygienic true
open PySem PySem.W PyProof.Rows PySem.Calls
noncomputable def M_(_:Str->Option Value)(h:Heap):Prop:=∃K:Frag,K.In h/\Bn K=true/\oB K=oz
noncomputable def OH(s:Shared):Bool:=@decide (M_ (s.heap.nsMap mainGlobals) s.heap) (Classical.propDecidable _)
theorem Cp(w:World)(os:OsState):topGo treeTable pw w 11 (some (.ref 6)) 12 ⟨boot_heap w.params,Array.mk [],boot_drawn,boot_toks,os⟩ (topStub pw)=some ((wZ w os).abs,⟨denote treeTable mL,mL,default,[topFrame default]⟩):=by
 kernel_rfl!
theorem wI(w:World)(os:OsState):segRun treeTable pw w 11 (some (.ref 6)) 1 1 (wZ w os).abs (blockOf pw.main.body benv mL default [topFrame default])=some (.next,(wZ w os).abs,mL,default):=by
 kernel_rfl!
theorem Cq(w:World)(s:Shared)(p:Pos):topRun treeTable pw w 11 (some (.ref 6)) 2 s ⟨doneF .next,mL,p,[topFrame default]⟩=some s:=by
 kernel_rfl!
theorem zn:opening pw=plainProg pw.main.scope.names:=by kernel_rfl!
theorem wH(s:Shared):fenceModules? pw s=some s:=rfl
theorem zd(w:World):(((boot_heap w.params).isNs mainGlobals&&(#[]:Array GenState).size==0),(boot_heap w.params).objs.size,(boot_heap w.params).nsMap mainGlobals "__annotations__")=(true,11,some (.ref 6)):=by kernel_rfl!
theorem HW{t:BT}{n:Nat}{life:Life}(h:EW t n=true):(JI t).In (absHeap t n life):=by
 intro a o e;have key:∀l:List Nat,(∀a∈l,(Nat.blt a n&&match t.get a with|some o=>(alive o).isSome|none=>false)=true)->(l.map λa=>(a,(t.get a).getD default)).lookup a=some o->(absHeap t n life).get? a=some o:=by
  intro l
  induction l with
  |nil=>intro _ e;cases e
  |cons b r ih=>
   intro hl e;rw[Zw,ZS] at e
   cases q:a==b with
   |false=>rw[q] at e;exact ih (λa m=>hl a (Zh _ m)) e
   |true=>
    rw[q] at e;have:=hl b Ze;obtain rfl:=beq_iff_eq.mp q;rw[XB] at this;obtain ⟨h1,h2⟩:=this
    cases g:t.get a with
    |none=>rw[g] at h2;cases h2
    |some o'=>
     rw[g] at h2 e
     cases e
     rw[abs_get (ZB h1) g];obtain ⟨c,d,dt,sl⟩:=o'
     cases dt<;>first|rfl|cases h2
 exact key _ (ZV.mp h) e
end
section
set_option tactic.hygienic true
open PySem PySem.W PyProof.Rows PySem.Calls
theorem wt{p:Program}{w:World}{N n₀:Nat}{ann:Option Value}{s₀ s₁:Shared}(z1:(s₀.heap.isNs mainGlobals&&s₀.gens.size==0)=true)(z2:s₀.heap.objs.size=n₀)(z3:s₀.heap.nsMap mainGlobals "__annotations__"=ann)
 (R:topRun treeTable p w n₀ ann N s₀ (topStub p)=some s₁) (l:(staticsOk (importedModules p.main.body) s₀.heap s₁.heap&&namesBound p s₁.heap&&gensDone s₁&&laidKept s₀.heap s₁.heap)=true):topFrom treeTable p w N s₀=some s₁:=by
 unfold topFrom;rw[z1,z2,z3,R]
 dsimp only[Option.bind]
 rw[l]
theorem DQ{p q:Program}{loose:List Str}{Xt:Shared->Bool}{w:World}{N:Nat}{s₀ s₁:Shared}(f:fencedOpening treeTable p w N=some s₀)(t:topFrom treeTable p w N s₀=some s₁)(x:Xt s₁=true)
 (o:openSeen q loose (importedModules p.main.body) (λ_=>true) true s₁=openGood q loose):(openEnds treeTable p w N).map (λs=>(openSeen q loose (importedModules p.main.body) Xt true s,()))=some (openGood q loose,()):=by
 unfold openEnds;rw[f,Option.bind_some,t,Uv,<-o];unfold openSeen;rw[x]
theorem CG{p:Program}{w:World}{n₀:Nat}{ann:Option Value}{env:Env}{s₀ s₁ s₂:Shared}{c:Code}{p':Pos}{body:List Stmt}{a b:Nat}(A:topGo treeTable p w n₀ ann a s₀ (topStub p)=some (s₁,⟨denote treeTable (.body body env),c,default,[topFrame default]⟩))
 (B:segRun treeTable p w n₀ ann 1 1 s₁ (blockOf body env c default [topFrame default])=some (.next,s₁,c,default))
 (C:segRun treeTable p w n₀ ann 1 b s₁ (piecesOf body env c default [topFrame default])=some (.next,s₂,c,p')) (D:topRun treeTable p w n₀ ann 2 s₂ ⟨doneF .next,c,p',[topFrame default]⟩=some s₂) (k:Nat):
 topRun treeTable p w n₀ ann (a+(1+(b+2))+k) s₀ (topStub p)=some s₂:=by
 have E:=piece_app (rest:=[]) C (piece_nil D);rw[Zu] at E;exact topRun_mono k _ _ _ _ (go_top A (piece_block B E))
theorem Ep{p:Program}{w:World}{N:Nat}(h:(fencedOpening treeTable p w N).map (λs=>(s.heap,s.gens,s.drawn,s.toks))=some (boot_heap w.params,Array.mk [],boot_drawn,boot_toks)):
 ∃os,fencedOpening treeTable p w N=some ⟨boot_heap w.params,Array.mk [],boot_drawn,boot_toks,os⟩:=by
 refine oea (Z5.mp h) λr_1 e e'=>?_;obtain ⟨h0,gs,d,k,os⟩:=r_1
 cases e'
 exact⟨os,e⟩
theorem zm(w:World)(os:OsState):∃(s':SharedT) (p':Pos),segRunT treeTable pw w 11 (some (.ref 6)) 1 7425 (wZ w os) tQ=some (.next,s',mL,p')/\
 (staticsOk tU (boot_heap w.params) s'.abs.heap&&namesBound pw s'.abs.heap&&gensDone s'.abs&&laidKept (boot_heap w.params) s'.abs.heap)=true/\
 openSeen eN iF tU (λ_=>true) true s'.abs=openGood eN iF/\M_ (s'.abs.heap.nsMap mainGlobals) s'.abs.heap:=by
 have HA:=zj w os;have HB:=zi w os;have HC:=zh w os;generalize segRunT treeTable pw w 11 (some (.ref 6)) 1 7425 (wZ w os) tQ=r at HA HB HC ⊢;refine oea (Z5.mp HA) λr_2 r_3 e2=>?_;obtain ⟨f,s',c,p'⟩:=r_2;subst r_3;clear HA;refine oa (Xl e2) λr1 e2=>?_;refine oa (Xl e2) λr2 e2=>?_;refine oa (Xl e2) λr3 r4=>?_;refine oa (Xl (Z1 HB)) λb1 b2=>?_;refine oa (Xl (Z1 HC)) λc1 c2=>?_;subst r1 r2;exact⟨s',p',rfl,r3,r4,JI s'.tree,HW c2,Z0 b1 c1,b2⟩
theorem zp:LeftO pw eN iF OH (λ_=>()) (λ_=>()) 8000:=by
 intro w;refine oe (Ep (boot_open (p:=pw) (N:=8000) zn (by decide) wH w)) λos e=>?_;refine oeeaaa (zm w os) λs' p' e1 r3 r4 hX=>?_;have hXt:OH s'.abs=true:=@decide_eq_true _ (Classical.propDecidable _) hX;refine oa (Xl (zd w)) λz1 z2=>?_;refine oa (Xl z2) λz2 z3=>?_;exact DQ e (wt z1 z2 z3 (CG (Cp w os) (wI w os) (segRun_of e1) (Cq w _ p') 560) r3) hXt r4
end
section
set_option tactic.hygienic true
open PySem PySem.W PyProof.Rows PySem.Calls
noncomputable section
theorem iy{α β:Type}[BEq α][LawfulBEq α]{l:List (α×β)}{k:α}{v:β}(h:l.lookup k=some v):(k,v)∈l:=by
 induction l with
 |nil=>cases h
 |cons p r ih=>
  obtain ⟨a,b⟩:=p;rw[ZS] at h
  cases q:k==a with
  |true=>rw[q] at h;cases h;rw[beq_iff_eq.mp q];exact Ze
  |false=>rw[q] at h;exact Zh _ (ih h)
noncomputable def v7:FuncBody->Option (List Stmt)
 | .stmts b=>some b
 | .expr _=>none
noncomputable def Bu(l:Nat)(F:Fn)(p:Option (Arguments×FuncBody×Scope)):Bool:=p.any λp=>(v7 p.2.1).any λb=>
 Nat.ble 1 l&&p.2.2.kind== .function&& !p.2.2.isCoroutine&& !p.2.2.isGenerator&&lO p.1 F.ps&&F.ps.all (cB p.2.2)&&p.2.2.names.all (λx=>x.2 != .free)&&ry yy p.2.2 (l - 1) F.body b
noncomputable def lM(f:String)(F:Fn):Bool:=(kH.lookup f).any λr=>(QT.lookup f).any λl=>Bu l F (Af r.2.1 r.2.2)
theorem KW:(fns.take 20).all (λp=>lM p.1 p.2)=true:=by decide+kernel
theorem KV:((fns.drop 20).take 20).all (λp=>lM p.1 p.2)=true:=by decide+kernel
theorem KU:((fns.drop 40).take 20).all (λp=>lM p.1 p.2)=true:=by decide+kernel
theorem KT:(fns.drop 60).all (λp=>lM p.1 p.2)=true:=by decide+kernel
theorem Dz{f:String}{F:Fn}(h:fns.lookup f=some F):lM f F=true:=by
 have m:=iy h;have e:fns=fns.take 20++((fns.drop 20).take 20++((fns.drop 40).take 20++fns.drop 60)):=by
  rw[show fns.drop 60=(fns.drop 40).drop 20 by rw[UC],YX,show fns.drop 40=(fns.drop 20).drop 20 by rw[UC],YX,YX]
 rw[e] at m;rcases Zg.mp m with m|m
 . exact ZV.mp KW (f,F) m
 rcases Zg.mp m with m|m
 . exact ZV.mp KV (f,F) m
 rcases Zg.mp m with m|m
 . exact ZV.mp KU (f,F) m
 . exact ZV.mp KT (f,F) m
structure cQ(K:Frag):Prop where
 sm:(K.lookup sysModules).isSome=true
 atoms:uN K=true
 empty:uJ K=true
 glob:nW K=true
 fns:∀r∈kH,xn K r.2.1=true
 cls:∀p∈jL,lT K p.1 p.2=true
 qH:∀p∈AH,xN K p.1 p.2=true
 meths:∀p∈AE,xK K p.1 p.2.1 p.2.2=true
 get:specialIn K (.builtin "object.__class__") "__get__"=some (some (.builtin "getset_descriptor.__get__"))
 Mo:takesIn K (.builtin "object.__class__")=some true
 GH:kitOne K (.type "int") (.type "bool")=some false
theorem cQ.of{K:Frag}(h:Bn K=true):cQ K:=by
 refine oa (Zj.mp h) λh q=>?_;refine oa (Zj.mp h) λh h6=>?_;refine oa (Zj.mp h) λh h5=>?_;refine oa (Zj.mp h) λh h3=>?_;refine oa (Zj.mp h) λh1 h2=>?_;refine oa (Zj.mp q) λq ti=>?_;refine oa (Zj.mp q) λq iq=>?_;refine oa (Zj.mp q) λq h9=>?_;refine oa (Zj.mp q) λq h8=>?_;refine oa (Zj.mp q) λh4 h7=>?_;exact⟨h1,h2,h3,h4,ZV.mp h5,ZV.mp h6,ZV.mp h7,ZV.mp h8,beq_iff_eq.mp h9,beq_iff_eq.mp iq,beq_iff_eq.mp ti⟩
theorem za{v:V}{t:Str}(h:Bg t v=true):v= .str t:=by
 cases v<;>first|exact nft h|exact congrArg _ (beq_iff_eq.mp h)
theorem zb{v:V}{t:Nat}(h:Bh t v=true):v= .ref t:=by
 cases v<;>first|exact nft h|exact congrArg _ (beq_iff_eq.mp h)
theorem gJ{v:Value}{x:V}(h:mI v x=true):aq v=x:=by
 cases x<;>first|exact nft h|exact za h|exact zb h
theorem lY{v:Value}{a:Nat}(h:mI v (.ref a)=true):v= .ref a:=aO (gJ h)
theorem any_some{α:Type}{o:Option α}{f:α->Bool}(h:o.any f=true):∃v,o=some v/\f v=true:=by
 cases o with
 |none=>exact nft h
 |some v=>exact⟨v,rfl,h⟩
theorem CD{d:Data}{es:Array DictEntry}(h:xp d=some es):∃n,d= .dict es n:=by
 cases d<;>first|exact nns h|exact⟨_,congrArg (Data.dict · _) (Z1 h)⟩
theorem DW{d:Data}{f:FuncData}(h:GJ d=some f):d= .func f:=by
 cases d<;>first|exact nns h|exact congrArg Data.func (Z1 h)
theorem DE{d:Data}{es:Array Value}(h:JZ d=some es):∃n,d= .seq es n:=by
 cases d<;>first|exact nns h|exact⟨_,congrArg (Data.seq · _) (Z1 h)⟩
theorem wG{d:Data}(h:isPlain d=true):d= .plain:=by
 cases d<;>first|rfl|exact nft h
theorem rz{o:Obj}{c d t s}(h1:o.cls=c)(h2:o.dict=d)(h3:o.data=t)(h4:o.slots=s):o=⟨c,d,t,s⟩:=by
 subst h1 h2 h3 h4;rfl
theorem Ba{K:Frag}{h:Heap}{m:Str->Option Value}{a:Nat}(X:K.In h)(N:h.Ns a m){y:Str}{v:Value}(e:yi K a y=some v)(x:Str):yi K a x=m x:=by
 refine oeeeaaa N λo es ep h1 h2 _ h3=>?_;try clear N
 refine oea (Option.bind_eq_some_iff.mp e) λo' q e=>?_;have q2:=Z1 ((X _ _ q).symm.trans h1);subst q2;unfold yi;rw[q];show (xp o'.data).bind _=_;rw[h2];exact h3 x
theorem tT{K:Frag}{h:Heap}{m:Str->Option Value}{a:Nat}(X:K.In h)(N:h.Ns a m){x:Str}{v:Value}(e:yi K a x=some v):m x=some v:=(Ba X N e x).symm.trans e
theorem DN{K:Frag}{h:Heap}{m:Str->Option Value}{a:Nat}(X:K.In h)(N:h.Ns a m){x y:Str}{v:Value}(e':yi K a y=some v)(e:(yi K a x).isNone=true):m x=none:=(Ba X N e' x).symm.trans (XG.mp e)
section
variable {K:Frag}{W:dF}
theorem dT{C:String}{a:Nat}(h:lT K C a=true):nX K a=true/\rE K a=true/\(∀n∈(GL.lookup C).getD [],findIn K (.ref a) (Str.ofString n)=some none)/\kitOne K (.type "int") (.ref a)=some false/\
 kitOne K (.type "bool") (.ref a)=some false/\kitOne K (.ref a) (.type "bool")=some false/\(∀p∈jL,kitOne K (.ref a) (.ref p.2)=some (C==p.1))/\∃v,yi K mainGlobals (Str.ofString C)=some v/\v= .ref a:=by
 unfold lT at h;refine oa (Zj.mp h) λh h8=>?_;refine oa (Zj.mp h) λh h7=>?_;refine oa (Zj.mp h) λh h6=>?_;refine oa (Zj.mp h) λh h5=>?_;refine oa (Zj.mp h) λh h4=>?_;refine oa (Zj.mp h) λh h3=>?_;refine oa (Zj.mp h) λh1 h2=>?_;refine oea (any_some h8) λv x y=>?_;exact⟨h1,h2,λn m=>beq_iff_eq.mp (ZV.mp h3 n m),beq_iff_eq.mp h4,beq_iff_eq.mp h5,beq_iff_eq.mp h6,λp m=>beq_iff_eq.mp (ZV.mp h7 p m),v,x,lY y⟩
theorem HO(X:cQ K)(hK:W.K=K)(hc:∀C,W.cls C=jL.lookup C):W.Nc:=by
 subst hK;have c2:∀{C a},W.cls C=some a->lT W.K C a=true:=λ{C a} e=>X.cls (C,a) (iy ((hc _).symm.trans e));refine⟨λC a e=>?_,X.get,X.Mo,λC a C' a' e e'=>?_,λC a e=>?_,λC a e=>?_,λC a e=>?_,X.GH⟩
 . exact(dT (c2 e)).2.1
 . exact(dT (c2 e)).2.2.2.2.2.2.1 (C',a') (iy ((hc _).symm.trans e'))
 . exact(dT (c2 e)).2.2.2.1
 . exact(dT (c2 e)).2.2.2.2.1
 . exact(dT (c2 e)).2.2.2.2.2.1
theorem DU(X:cQ K)(hK:W.K=K)(hc:∀C,W.cls C=jL.lookup C)(I:K.In W.base):W.Good:=by
 subst hK;have c2:∀{C a},W.cls C=some a->lT W.K C a=true:=λ{C a} e=>X.cls (C,a) (iy ((hc _).symm.trans e));refine⟨I,λC a e=>(dT (c2 e)).1,λC a n e h=>(dT (c2 e)).2.2.1 n ?_⟩;unfold iA at h;refine oea (any_some h) λl hl hn=>?_;rw[hl];exact ZZ.mp hn
theorem D7{f:String}{a:Nat}(h:yj f=some a):∃r,(f,a,r)∈kH/\kH.lookup f=some (a,r):=by
 refine oea (Z5.mp h) λr_1 h1 r_2=>?_;obtain ⟨b,r⟩:=r_1;subst r_2;exact⟨r,iy h1,h1⟩
theorem uD{a:Nat}(h:xn K a=true):keepIn K (.ref a)=true/\∃d fd sl,K.lookup a=some ⟨.type "function",d,.func fd,sl⟩/\fd.closure=[]/\fd.globals=mainGlobals/\fd.builtins=builtinsNs/\fd.defaults= .none/\codeIn K fd.code fd.qualname=true:=by
 unfold xn at h;refine oa (Zj.mp h) λh0 h=>?_;refine⟨h0,?_⟩;refine oea (any_some h) λo q h=>?_;refine oa (Zj.mp h) λc h=>?_;refine oea (any_some h) λfd q2 h=>?_;refine oa (Zj.mp h) λh h5=>?_;refine oa (Zj.mp h) λh h4=>?_;refine oa (Zj.mp h) λh h3=>?_;refine oa (Zj.mp h) λh1 h2=>?_;exact⟨o.dict,fd,o.slots,q.trans (congrArg some (rz (beq_iff_eq.mp c) rfl (DW q2) rfl)),Wq.mp h1,beq_iff_eq.mp h2,beq_iff_eq.mp h3,beq_iff_eq.mp h4,h5⟩
theorem DX(X:cQ K)(hK:W.K=K)(hc:∀C,W.cls C=jL.lookup C)(hf:∀f,W.fn f=yj f)(I:K.In W.base)(lim:W.base.NoLimit)(g:W.base.Ns mainGlobals W.mg)(b:W.base.Ns builtinsNs W.mb):Full W yy λx=>Dq.lookup x:=by
 have Gd:=DU X hK hc I;have Is:=HO X hK hc;subst hK;have glob:=X.glob;unfold nW at glob;refine oa (Zj.mp glob) λglob g3=>?_;refine oa (Zj.mp glob) λg1 g2=>?_;have Fi:∀{C a},jL.lookup C=some a->W.mg (Str.ofString C)=some (.ref a):=λ{C a} e=>by
  refine oea ((dT (X.cls (C,a) (iy e))).2.2.2.2.2.2.2) λv h1 h2=>?_;exact tT I g (h1.trans (congrArg some h2))
 have Kj:∃v,yi W.K mainGlobals "FUN"=some v:=by
  refine oea (any_some (ZV.mp g2 ("FUN",sv "fun") Ze)) λv h1 h2=>?_;exact⟨v,h1⟩
 refine⟨Gd,Is,?_,lim,g,b,λC f e=>?_,λC e=>?_,λf a e=>?_,λf e=>?_,λf C m e=>?_,λx v e=>?_,?_,λp hp=>?_⟩
 . refine oe (YJ.mp X.sm) λo e=>?_;rw[I _ _ e];exact λq=>by cases q
 . have h:=X.qH (C,f) (iy e);refine oea (any_some h) λc e1 h=>?_;refine oea (any_some h) λa e2 h=>?_;refine oa (Zj.mp h) λh1 h2=>?_;exact⟨c,a,(hc _).trans e1,Fi e1,h1,(hf _).trans e2,beq_iff_eq.mp h2⟩
 . have h:(Kp.all λC=>(jL.lookup C).isSome)=true:=by decide+kernel
   refine oe (YJ.mp (ZV.mp h C (ZZ.mp e))) λc ir=>?_;exact⟨c,(hc _).trans ir,Fi ir⟩
 . refine oea (D7 ((hf _).symm.trans e)) λr m _=>?_;obtain ⟨h1,d,fd,sl,h2,_⟩:=uD (X.fns (f,a,r) m);refine⟨?_,h1⟩;show (W.K.lookup a).map (·.cls)=_;rw[show W.K.lookup a=_ from h2];rfl
 . have h:=ZV.mp g1 f (ZZ.mp e);refine oea (any_some h) λa e1 h=>?_;refine oea (any_some h) λv e2 h=>?_;exact⟨a,(hf _).trans e1,tT I g (e2.trans (congrArg some (lY h)))⟩
 . have h:=X.meths (f,C,m) (iy e);refine oea (any_some h) λc e1 h=>?_;refine oea (any_some h) λa e2 h=>?_;exact⟨c,a,(hc _).trans e1,(hf _).trans e2,beq_iff_eq.mp h⟩
 . refine oea (any_some (ZV.mp g2 (x,v) (iy e))) λv' h1 h2=>?_;exact⟨v',tT I g h1,gJ h2⟩
 . exact⟨(hc _).trans (by decide+kernel),(hc _).trans (by decide+kernel)⟩
 . refine oa (Zj.mp (ZV.mp g3 p hp)) λh1 h2=>?_;refine oe Kj λv hv=>?_;try clear Kj
   exact⟨DN I g hv h1,tT I b (beq_iff_eq.mp h2)⟩
theorem BX(h:oB K=oz):∀r∈kH,rH K r.2.1=Af r.2.2.1 r.2.2.2:=by
 have e:kH.map (λr=>rH K r.2.1)=kH.map (λr=>Af r.2.2.1 r.2.2.2):=h;exact List.map_inj_left.mp e
theorem yK{f:FuncBody}{b:List Stmt}(h:v7 f=some b):f= .stmts b:=by
 cases f with
 |stmts c=>exact congrArg _ (Z1 h)
 |expr c=>exact nns h
theorem DZ(X:cQ K)(P:oB K=oz)(hK:W.K=K)(hf:∀f,W.fn f=yj f)(I:K.In W.base){f:String}{F:Fn}(h:fns.lookup f=some F):∃l a fd,FnAt W yy f F l a fd:=by
 have s:=Dz h;unfold lM at s;refine oea (any_some s) λr e1 s=>?_;refine oea (any_some s) λl e2 s=>?_;have hp:=BX P (f,r) (iy e1);refine oa (uD (X.fns (f,r) (iy e1))) λ_ h=>?_;refine oeeeaaaaa h λd fd sl h2 h3 h4 h5 h6 h7=>?_;unfold rH at hp;rw[show K.lookup r.1=_ from h2] at hp;rw[<-(show some (fd.params,fd.body,fd.scope)=Af r.2.1 r.2.2 from hp)] at s;unfold Bu at s;refine oea (any_some (show (v7 fd.body).any _=true from s)) λb q2 s=>?_;refine oa (Zj.mp s) λs s8=>?_;refine oa (Zj.mp s) λs s7=>?_;refine oa (Zj.mp s) λs s6=>?_;refine oa (Zj.mp s) λs s5=>?_;refine oa (Zj.mp s) λs s4=>?_;refine oa (Zj.mp s) λs s3=>?_;refine oa (Zj.mp s) λs1 s2=>?_;exact⟨l,r.1,fd,(hf f).trans (by unfold yj;rw[e1];rfl),e2,ZB s1,⟨_,I _ _ h2,rfl⟩,codeRec_of I h7,h3,h4,h5,beq_iff_eq.mp s2,by simpa using s3,by simpa using s4,s5,h6,ZV.mp s6,
  λx m=>by simpa using ZV.mp s7 x m,b,yK q2,s8⟩
end
end
end
section
set_option tactic.hygienic true
open PySem PySem.W PyProof.Rows PySem.Calls
noncomputable section
noncomputable abbrev v6:=PySem.Challenge.rw_rg0282_01.row.toRowW
noncomputable def CS(s:Nat)(l:List Int):Hp:=λa=>if a=242 then some (.tup (wk.map sv)) else if a=44 then some (.c9 "Special" [("title",sv "empty")]) else if a=s then some (.eC (l.map .int)) else none
section
variable {K:Frag}{W:dF}
theorem BJ{l:List String}:∀{vs:List Value},Az l vs=true->vs.map aq=l.map sv:=by
 induction l with
 |nil=>exact λ{vs} h=>congrArg _ (Wq.mp h)
 |cons x l ih=>
  intro vs h;refine oa (Zj.mp h) λh1 h2=>?_
  cases vs with
  |nil=>exact nft h1
  |cons v vs=>rw[Zw,Zw,ih (vs:=vs) h2,gJ (x:=sv x) h1]
theorem uM(X:cQ K):∃d vs n sl,K.lookup 242=some ⟨.type "tuple",d,.seq vs n,sl⟩/\vs.toList.map aq=wk.map sv:=by
 refine oea (any_some X.atoms) λo q h=>?_;refine oa (Zj.mp h) λc h=>?_;refine oea (any_some h) λvs q2 h=>?_;refine oe (DE q2) λn e=>?_;exact⟨o.dict,vs,n,o.slots,q.trans (congrArg some (rz (beq_iff_eq.mp c) rfl e rfl)),BJ h⟩
theorem uI(X:cQ K):∃es n,K.lookup 44=some (instObj 38 43)/\K.lookup 43=some (dictOf es n)/\FR es [("title",sv "empty")]:=by
 refine oa (Zj.mp X.empty) λh h'=>?_;refine oea (any_some h) λo q h=>?_;refine oa (Zj.mp h) λh a4=>?_;refine oa (Zj.mp h) λh a3=>?_;refine oa (Zj.mp h) λa1 a2=>?_;refine oea (any_some h') λo' q' h=>?_;refine oa (Zj.mp h) λh h4=>?_;refine oa (Zj.mp h) λh b3=>?_;refine oa (Zj.mp h) λb1 b2=>?_;refine oea (any_some h4) λes c1 h=>?_;refine oa (Zj.mp h) λh c3=>?_;refine oea (any_some h) λe c2 h=>?_;refine oa (Zj.mp h) λd1 d2=>?_;refine oe (CD c1) λn c4=>?_;refine oe (fS (gJ d1)) λt ht=>?_;refine⟨es.toList,n,q.trans (congrArg some (rz (beq_iff_eq.mp a1) (beq_iff_eq.mp a2) (wG a3) (Ue.mp a4))),
  q'.trans (congrArg some (rz (beq_iff_eq.mp b1) (XG.mp b2) c4 (Ue.mp b3))),?_⟩
 revert c2 c3
 cases es.toList with
 |nil=>exact λ_ h=>nns h
 |cons x l=>
  intro h2 h1;rw[show l=[] from Wq.mp h2];refine oe (fS (gJ d2)) λt' U7=>?_;rw[Z1 h1];exact⟨⟨t,ht⟩,gJ d2,by rw[U7];rfl,trivial⟩
theorem Tf(X:cQ K)(hc:∀C,W.cls C=jL.lookup C)(I:K.In W.base){s:Nat}{l:List Int}(hs:∃vs,W.base.IsList s vs/\vs.toList.map aq=l.map .int/\l.length<=big):RH W (CS s l) (λ_=>none) W.base:=by
 obtain ⟨d,vs,n,sl,a1,a2⟩:=uM X;obtain ⟨es,n',b1,b2,b3⟩:=uI X;refine⟨λa o e=>?_,λa d e=>(by cases e),λa b d e=>(by cases e),λ_ _ e=>e,λb m=>?_⟩
 . unfold CS at e;split at e
   . rename_i q;subst q;cases e
     exact⟨vs,⟨_,I _ _ a1,rfl,n,rfl⟩,a2,by decide⟩
   split at e
   . rename_i q;subst q;cases e
     exact⟨38,43,es,n',(hc _).trans rfl,I _ _ b1,I _ _ b2,b3,by decide,λp hp=>by rw[Zc.mp hp];rfl⟩
   split at e
   . rename_i q;subst q;cases e
     obtain ⟨vs,c1,c2,c3⟩:=hs;exact⟨vs,c1,c2,by rw[Za];exact c3⟩
   . cases e
 . have no:∀o,CS s l b=some o->(∃xs,o= .tup xs)\/(∃C fs,o= .c9 C fs)\/∃xs,o= .eC xs:=λo e=>by
    unfold CS at e;split at e
    . cases e;exact .inl ⟨_,rfl⟩
    split at e
    . cases e;exact .inr (.inl ⟨_,_,rfl⟩)
    split at e
    . cases e;exact .inr (.inr ⟨_,rfl⟩)
    . cases e
   rcases m with ⟨xs,e⟩|⟨es,e|e⟩|⟨a,e⟩
   . rcases no _ e with ⟨_,q⟩|⟨_,_,q⟩|⟨_,q⟩<;>cases q
   . rcases no _ e with ⟨_,q⟩|⟨_,_,q⟩|⟨_,q⟩<;>cases q
   . rcases no _ e with ⟨_,q⟩|⟨_,_,q⟩|⟨_,q⟩<;>cases q
   . cases e
theorem KA{γ:String->Option V}(F:Full W yy γ)(hF:∀f F,fns.lookup f=some F->∃l a fd,FnAt W yy f F l a fd)(hg:∀x,γ x=Dq.lookup x):Wd (Meets W yy) γ:=by
 refine⟨?_,λf F' h vs H Q w=>?_,hg _,hg _,hg _,hg _,hg _,hg _,hg _,hg _,hg _,hg _⟩
 . intro f vs H Q Q' h q;obtain ⟨a,l,e1,e2,w⟩:=h;exact⟨a,l,e1,e2,λA s ow Et hA R hv=>WN (w A s ow Et hA R hv) λr s' p=>by
    revert p
    cases r with
    |error e=>exact id
    |ok f=>cases f<;>first|exact id|exact λp=>p.aW q⟩
 . obtain ⟨l,a,fd,N⟩:=hF f F' h;exact Cj F N w
theorem Cm(X:cQ K)(P:oB K=oz)(hK:W.K=K)(hc:∀C,W.cls C=jL.lookup C)(hf:∀f,W.fn f=yj f)(I:K.In W.base)(lim:W.base.NoLimit)(g:W.base.Ns mainGlobals W.mg)(b:W.base.Ns builtinsNs W.mb)
 {s:Nat} {l:List Int} (hs:∃vs,W.base.IsList s vs/\vs.toList.map aq=l.map .int/\l.length<=big) {s₁:Shared} (hb:s₁.heap=W.base):
 codeAny W.M callerA (.call (.ref 942) ⟨[.ref s],[]⟩) (λr s'=>match r with| .ok (.ret v)=>v= .bool true/\(∀b o,s₁.heap.get? b=some o->s'.heap.get? b=some o)/\s'.os=s₁.os/\s'.gens=s₁.gens|_=>False) s₁:=by
 have F:=DX X hK hc hf I lim g b;have D:=KA F (λf F' h=>DZ X P hK hf I h) λ_=>rfl;have R:=Tf X hc I hs;have B:ke (λx=>Dq.lookup x) (CS s l):=⟨⟨242,rfl,rfl⟩,44,rfl,rfl⟩;obtain ⟨d,vs,n,sl,a1,a2⟩:=uM X;obtain ⟨es,n',b1,b2,b3⟩:=uI X;have q:CS s l s=some (.eC (l.map .int)):=by
  obtain ⟨Et,⟨o,h1,h2,h3⟩,_⟩:=hs;unfold CS;rw[if_neg λe=>?_,if_neg λe=>?_,if_pos rfl]
  . subst e;rw[I _ _ b1] at h1;cases h1;cases h2
  . subst e;rw[I _ _ a1] at h1;cases h1;exact absurd (Value.type.inj h2) (by decide)
 obtain ⟨a,l',e1,e2,w⟩:=Lw D (qk D) B q;obtain rfl:942=a:=Z1 ((hf "law").symm.trans e1:some 942=some a);obtain rfl:10=l':=Z1 (e2:some 10=some l');refine WN (w callerA s₁ (λ_=>none) [.ref s] ⟨rfl,by decide,by decide⟩ (hb▸R) rfl) λr s' p=>?_
 revert p
 cases r with
 |error e=>exact id
 |ok f=>
  cases f<;>first|exact id|skip
  rintro ⟨H',aP,h1,h2,h3⟩;obtain ⟨h',t',e⟩:=h3.st;subst e;exact⟨eI h1,hb▸h2.keep,rfl,rfl⟩
end
end
end
section
set_option tactic.hygienic true
open PySem PySem.W PyProof.Rows PySem.Calls
noncomputable section
theorem pd{cl:Str->Option Addr}{h:Heap}:∀{xs:List WData} {vs:List Value} {as:List Addr},WShape.hasItems [] xs .int=true->ReadsAllW [] cl h vs xs as->∃l:List Int,vs.map aq=l.map .int/\l.length=xs.length
 |[],_,_,_,r=>(readsAllW_nil_inv r).1▸⟨[],rfl,rfl⟩
 |x::xs,_,_,hx,r=>by
  obtain ⟨h1,h2⟩:=Zj.mp hx;obtain ⟨i,rfl⟩:=hasW_int h1;obtain ⟨v,vs,_,_,rfl,_,r1,r2⟩:=readsAllW_cons_inv r;obtain ⟨t,rfl,_⟩:=readsW_int_inv r1;obtain ⟨l,e,n⟩:=pd h2 r2;exact⟨i::l,congrArg (V.int i:: ·) e,congrArg Nat.succ n⟩
theorem DI{xs:List WData}(h:(PySem.Challenge.rw_rg0282_01.row.pre.holds [] {args:=[.list xs]})=true):xs.length<=63:=by
 have e:PySem.Challenge.rw_rg0282_01.row.pre.holds [] {args:=[.list xs]}=(!(decide ((63:Int)<xs.length))):=by
  simp[OpenLaw.row,OpenLaw.pre,PySem.Challenge.rw_rg0282_01,WTm.holds,WTm.value];rw[show less? (.int 63) (.int xs.length)=some (decide ((63:Int)<xs.length)) by simp[less?];rfl]
  cases decide ((63:Int)<xs.length)<;>rfl
 rw[e] at h;simp at h
 omega
theorem DJ(xs:List WData):v6.claim.post [.list xs] (.bool true) [.list xs]=true:=by
 simp[v6,RowW.claim,OpenLaw.row,PySem.Challenge.rw_rg0282_01,WTm.holds,WTm.value,WShape.has,WShape.arms,same]
theorem DL{cl:Str->Option Addr}{h:Heap}{args:List WData}{vals:List Value}{as:List Addr}(p:WShape.hasAll [] args [.list .int]=true)(r:ReadsAllW [] cl h vals args as):
 ∃xs a vs bs,args=[.list xs]/\vals=[.ref a]/\h.IsList a vs/\ReadsAllW [] cl h vs.toList xs bs/\WShape.hasItems [] xs .int=true:=by
 obtain ⟨x,ys,rfl,p1,p2⟩:=hasAllW_cons p;obtain rfl:=hasAllW_nil p2;obtain ⟨xs,rfl,hi⟩:=hasW_list p1;obtain ⟨v,Et,_,_,rfl,_,r1,r2⟩:=readsAllW_cons_inv r;obtain ⟨rfl,_⟩:=readsAllW_nil_inv r2;obtain ⟨a,vs,bs,rfl,il,r3,_⟩:=readsW_list_inv r1;exact⟨xs,a,vs,bs,rfl,rfl,il,r3,hi⟩
theorem zq{d:DefRec}{UG:List (Str×Expr)}(hd:d.name=(Str.ofString "law")):WalkO eN iF M_ (λ_ _=>True) v6 d UG λf vs=>PySem.call f vs:=by
 intro w s₀ s₁ mg mb G _ a o pm cd doc dV kV h1 h2 h3 h4 Rj LM args vals as PL hlay U9 hwl hlo;obtain ⟨K,I,ok,P⟩:=G.X;have X:=cQ.of ok;have hA:942=a:=by
  have glob:=X.glob;unfold nW at glob;have h:=ZV.mp (Zj.mp (Zj.mp glob).1).1 "law" (by decide+kernel);refine oea (any_some h) λb e1 h=>?_;refine oea (any_some h) λv e2 h=>?_;have e3:=tT I G.T.g e2;rw[hd] at Rj;rw[Rj] at e3;rw[<-Z1 e3] at h;have e4:some 942=some b:=e1;rw[Z1 e4];exact(Value.ref.inj (lY h)).symm
 subst hA;obtain ⟨p1,p2⟩:=Zj.mp PL;obtain ⟨xs,a,vs,bs,rfl,rfl,il,q4,q5⟩:=DL p1 U9;obtain ⟨l,e,hn⟩:=pd q5 q4;have hl:=DI p2;have L:=Cm (W:=⟨pw,w,K,s₁.heap,mg,mb,λC=>jL.lookup C,λf=>yj f⟩) X P rfl (λ_=>rfl) (λ_=>rfl) I G.T.nolimit G.T.g G.T.b (l:=l) ⟨vs,il,e,by unfold big;omega⟩ (s₁:=s₁) rfl;refine Vg (WN L λr s' p=>?_)
 revert p
 cases r with
 |error e=>exact False.elim
 |ok f=>
  cases f<;>first|exact False.elim|skip
  rintro ⟨rfl,k,os,gs⟩;exact⟨.inl ⟨_,_,[],rfl,λ_=>rfl,.bool true,DJ xs,λ_=>⟨Yl,λ_ m=>by cases m⟩⟩,.of_keep k,os,.of_eq (gs.trans LM)⟩
noncomputable def theDef:Option (DefRec×List (Str×Expr)):=defOf eN (Str.ofString "law")
theorem qM:theDef.isSome=true:=by decide+kernel
noncomputable def rh:DefRec×List (Str×Expr):=theDef.get qM
theorem Ii:defOf eN PySem.Challenge.rw_rg0282_01.row.name=some (rh.1,rh.2):=(Option.some_get qM).symm
theorem Ik:PySem.Challenge.rw_rg0282_01.row.prog.theDef PySem.Challenge.rw_rg0282_01.row.name=some (rh.1.params,rh.1.body,rh.1.scope):=by kernel_rfl!
theorem Ij:kwWritten? rh.1.params.kwonlyargs rh.1.params.kw_defaults=some rh.2:=by kernel_rfl!
theorem CE:rh.1.name=Str.ofString "law":=by kernel_rfl!
theorem row_holds(O_:PySem.Challenge.rw_rg0282_01.row.wellSaid=true):PySem.Challenge.rw_rg0282_01.row.Holds:=
 holds_open (q:=eN) (loose:=iF) (Xt:=OH) (XP:=M_) (Yf:=λ_=>()) (Ya:=λ_=>()) (YP:=λ_ _=>True) (N:=8000) zp (λ_ _ _=>trivial) (λ_ _ _ _ _=>trivial)
  (λs h=>@of_decide_eq_true _ (Classical.propDecidable _) h) (λ_ _ _ ⟨K,I,r⟩ k=>⟨K,I.keeps k,r⟩) Ii Ik Ij (λs _=>recFacts_of (R:=[]) rfl) rfl O_ (by decide+kernel) ⟨rfl,rfl,rfl,rfl,rfl,by decide+kernel⟩ ⟨[.list []],by decide+kernel,by decide+kernel⟩ (zq CE)
end
end
end Mine
theorem PySem.Challenge.cw_rg0282_01_holds : PySem.Challenge.rw_rg0282_01.Holds :=
 PySem.W.holds_law Mine.law_said Mine.row_holds
