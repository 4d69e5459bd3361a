import PyProof.Rows.All
import PyProof.TableCode
import PyProof.Rows.CallKwBuiltin
import OpenK.KDescr
import Open.Head
import Open.Line
import Open.Boot
import Open.TreeImp
import Open.FastRun
import Open.FastT9
import KE.KSortKey
import Wide.FinOn
import OpenK.AllK
import Wide.All
import Lean
import PySem.Challenge.RW_rg0282_01
set_option Elab.async false
set_option tactic.hygienic false
set_option maxRecDepth 10000
set_option linter.unusedVariables false
set_option genInjectivity false
set_option genSizeOf false
set_option genSizeOfSpec false
set_option bootstrap.genMatcherCode false
namespace Mine
open List renaming length_map->Za,length_append->Zb,mem_singleton->Zc,mem_append_left->Zd,mem_cons_self->Ze,mem_append->Zg,mem_cons_of_mem->Zh,mem_append_right->Zi,mem_flatMap->Zm,mem_map->Zn,append_assoc->Zo,mem_cons->Zp,map_append->Zq,map_map->Zt,append_nil->Zu,getElem?_eq_getElem->Zv,map_cons->Zw,flatMap_append->Zx,nodup_cons->ZD,flatMap_singleton->ZF,mem_map_of_mem->ZG,mem_filter->ZH,nodup_append->ZJ,flatMap_cons->ZK,getElem?_eq_some_iff->ZN,getElem?_map->ZQ,lookup_cons->ZT,length_filter_le->ZU,all_eq_true->ZW,contains_iff_mem->Z0,length_range->Z3,mem_of_getElem?->Z4,pairwise_singleton->Z5,flatMap_nil->Yc,length_singleton->Yg,length_nil->Yj,filter_append->Yl,nodup_nil->Ym,length_cons->Yn,map_congr_left->Yo,not_mem_nil->Yt,getElem?_append_left->Yu,filter_eq_self->Yv,getElem?_eq_none->Yx,getElem_mem->Yz,getElem?_append_right->YA,getElem?_eq_none_iff->YE,pairwise_cons->YF,map_singleton->YI,mem_iff_getElem->YL,forall_mem_cons->YM,filter_cons_of_neg->YN,pairwise_map->YO,filter_sublist->YR,length_reverse->YS,take_append_drop->YW,find?_cons->YY,size_toArray->Xc,perm_middle->Xk,contains_cons->Xl,length_pos_of_mem->Xm,reverse_cons->Xr,mem_range->Xs,map_eq_cons_iff->Xv,take_length->Xy,pairwise_iff_getElem->XD,sublist_append_right->XE,map_eq_flatMap->XG,any_cons->XI,length_erase_of_mem->XJ,nil_append->XN,filter_cons_of_pos->XR,length_eq_zero_iff->XS,ext_getElem?->XZ,append_eq_nil_iff->Wa,filter_cons->Wm,map_reverse->Wn,isEmpty_iff->Wq,pairwise_append->Ww,mem_zipIdx_iff_getElem?->WC,mergeSort_perm->WG,zipIdx_map_fst->WH,filterMap_cons->WI,getElem?_concat_length->WM,take_zero->WO,getElem?_inj->WT,pairwise_mergeSort->WY,map_flatMap->WZ,mem_reverse->W0,any_eq_true->W4,take_of_length_le->Vc,map_nil->Vd,pairwise_lt_range->Ve,filter_nil->Vi,map_id->Vq,getElem?_zipIdx->Vr,mem_of_mem_take->Vs,length_take_le->VC,filter_flatMap->VD,length_pos_iff->VE,map_eq_nil_iff->VG,sum_cons->VJ,getElem_range->VM,find?_eq_none->VN,flatMap_assoc->VQ,length_zipIdx->VR,zip_cons_cons->V0,take_add_one->V3,foldl_append->V5,length_take->Uh,getElem_map->Ui,cons_append->Uk,map_fst_zip->Um,zipIdx_map->Up,range_succ->Uq,length_zip->Uu,drop_zero->UB,drop_drop->UC
open Nat renaming le_trans->Zf,lt_of_le_of_lt->Zk,le_refl->Zs,le_of_ble_eq_true->ZC,le_add_right->ZE,le_of_lt->ZI,lt_trans->ZL,add_le_add_left->ZO,add_le_add_right->ZP,add_le_add->ZR,zero_le->ZS,mul_le_mul_right->ZZ,le_succ->Yk,add_assoc->Yr,lt_sub_iff_add_lt'->YB,lt_succ_self->YG,succ_le_succ->YH,le_of_eq->YJ,le_antisymm->YQ,sub_add_cancel->YU,ne_of_lt->Xe,mul_le_mul_left->Xi,mul_lt_mul_of_pos_right->Xq,add_lt_add_right->Xu,zero_add->Xx,add_right_comm->XQ,lt_succ_of_lt->XU,le_of_lt_succ->XY,lt_irrefl->Ws,le_add_of_sub_le->Wu,succ_ne_self->W7,add_comm->Vb,min_le_left->Vh,sub_le_sub_left->VB,sub_lt->VZ,lt_or_ge->V6,le_succ_of_le->V7,succ_mul->V8,ne_of_gt->Ud,le_of_not_lt->Uj,not_lt_zero->Uo,not_lt->Uz
open Bool renaming and_eq_true_iff->Zj,false_ne_true->Ye,or_eq_true_iff->YC,false_eq_true->Xn,and_eq_true->XA,and_false->XX,and_eq_false_iff->Wh,not_not->WK,eq_false_iff->V2,false_and->UA
open PySem renaming wpAny_bind->Zl,wpAny_mono->Zy,wpAny_pure->Zz,wpAny_holding->ZX,wpAny_standAt->Z9,mem_of_lookup->Yw,wpAny_Constant_int->YV,wpAny_newObj_type->Xb,getMethod_builtin->Xd,wpAny_evalPart_none->XH,wpAny_pyNext_list_item->Wc,wpAny_truthy_bool->We,wpAny_pyNext_list_end->Wj,builtinLookup_eq_fast->Wk,sizeLine_eq->Wx,wpAny_letTemporaryGo->Wy,codeAny_mono->WN,wpAny_pyIter_list->WU,wpAny_list_append_plain->W5,wpAny_unpackItems_tuple->W6,wpAny_call->Vg,codeAny_builtin->Vl,wpAny_execs_nil->Vm,typeLookup_type->Vn,wpAny_isTrue_Compare1->Vp,wpAny_loadPart->Vu,isSubtype_type->Vz,codeAny_call_builtin->VA,list_getitem_lookup->VH,wpAny_evalPart_some->VI,wpAny_UnaryOp->VL,call_meets->VW
open Array renaming length_toList->Zr,getElem?_eq_getElem->YX,toList_eraseIdxIfInBounds->Xh,getElem?_eq_none->Xo,getElem?_eq_none_iff->Xw,getElem?_toList->Wi,any_toList->Wo,mem_toList_iff->Vw,toList_append->VF,isEmpty_iff->Ue,size_push->Us
open Int renaming le_antisymm->ZA,self_le_toNat->ZY,natCast_nonneg->Yb,ne_of_lt->Yd,add_zero->Yy,toNat_of_nonneg->YD,ofNat_lt->YT,toNat_natCast->YZ,le_of_lt->Xz,emod_nonneg->XO,le_refl->Wt,le_of_lt_add_one->Wv,ofNat_le->WJ,ne_of_gt->WL,eq_ofNat_of_zero_le->W2,zero_mul->W8,toNat_le->W9,lt_trans->Va,add_assoc->VK,toNat_le_toNat->VO,lt_of_lt_of_le->VP,emod_lt_of_pos->VS,lt_or_eq_of_le->VT,lt_of_le_of_lt->VU,zero_add->V1,le_trans->V4,neg_one_mul->Un,not_le->Ux,not_lt->Uy
open PySem.Heap renaming get?_push_of_some->ZM,get?_push_size->ZV,lt_size->Yi,get?_update_self->Xp,get?_update_other->Wg,get?_none_of_le->Vt,size_push->Vy,get?_push_ne->Ub
open PySem.W renaming look_both->Z1,callWith_of->WA,kia_one->Uc
open Option.some renaming inj->Z2
open Option renaming map_eq_some_iff->Z7,isSome_iff_exists->YK,isNone_iff_eq_none->XF,mem_toList->V9,map_some->Uv
open Ne renaming symm->Yq
open List.cons renaming inj->Ys,injEq->Vj
open Prod.mk renaming inj->Xa
open PySem.Calls renaming spliced_cons->Xf,spliced_nil->XT,Name_function_global->WS
open PySem.F renaming slot_dict_getattribute->Xg,slot_list_getattribute->XM,plainAttrs_list->Wb,slot_list_pop->WD,slot_dict_get->WE,type_dict_get->Vk,slot_list_extend->VX,slot_dict_update->VY,plainAttrs_dict->Ua
open PySem.Heap.SameBut renaming update->Xj,refl->WV
open Nat.succ renaming inj->XB
open Classical renaming byContradiction->XC,em->UD
open List.Pairwise renaming imp_of_mem->XK
open PySem.Around renaming under_plainId->Wz
open PySem.Str renaming ofString_eq_toList->WB,ofString_eq_toList->Vf
open List.Perm renaming eq_of_pairwise->WW,append_left->Vo
open String renaming toList_injective->WX
open PySem.SeqAt.RcAt renaming lists->W3
open PySem.MeetsSeq.EqGives renaming int->Vv
open PyProof.Rows renaming neg_int->Vx
open PySem.SeqAt.RcNeAt renaming lists->VV
open UInt32 renaming toNat_inj->Ug
open PySem.AutoIntOps renaming pow_4->Ul
open PySem.Heap.DictOf renaming new->Ur
open Eq renaming trans->Uw
section
def rp(a b s:String):String:=b.intercalate (s.splitOn a)
def syn(T:List Lean.Syntax)(q:Lean.Name->Lean.Name)(s:String):Lean.Syntax:=(((rp "$" "#1/_.Lean.binderIdent #0/. #2/caseArg #1/. '=>"<|rp "&" "#2/_.group"<|rp "~" "#2/_.Lean.Parser.Term.syntheticHole"<|rp "^" "#1/. #1/tacticSeq1Indented #1/tacticSeq" s).splitOn " ").foldl (λst t=>match t.toList,t.splitOn "/" with
 |'\''::r,_=>.atom .none (.ofList r)::st
 |'`'::r,_=>T.getD r.length .missing::st
 |'#'::r,[_,k]=>
  let n:=(String.ofList (r.takeWhile Char.isDigit)).toNat!
  .node .none (if k== "." then `null else match k.toList with|'_'::_::r=>(String.ofList r).toName|_=>("Lean.Parser.Tactic."++k).toName) (st.take n).reverse.toArray::st.drop n
 |'!'::r,_=>.ident .none default (q (String.ofList r).toName) []::st
 |_,_=>.ident .none default t.toName []::st) []).headD .missing
def wtb(k:String):String:=(("l@'first '| 'rfl #1/tacticRfl ^ & '| 'assumption #1/assumption ^ & #2/. #2/first%m@'assumption #1/assumption%a@'first '| 'assumption #1/assumption ^ & '| 'rfl #1/tacticRfl ^ & '| 'decide #0/. #1/optConfig #2/decide ^ & #3/. #2/first%f@'first '| 'assumption #1/assumption ^ & '| 'exact Alloc.at '( [anonymous] #1/_.hygieneInfo #2/_.Lean.Parser.Term.hygienicLParen 'by 'assumption #1/assumption ^ #2/_.Lean.Parser.Term.byTactic ') #3/_.Lean.Parser.Term.paren #1/. #2/_.Lean.Parser.Term.app #2/exact ^ & '| 'exact Put.at '( [anonymous] #1/_.hygieneInfo #2/_.Lean.Parser.Term.hygienicLParen 'by 'assumption #1/assumption ^ #2/_.Lean.Parser.Term.byTactic ') #3/_.Lean.Parser.Term.paren #1/. #2/_.Lean.Parser.Term.app #2/exact ^ & '| '( 'refine' Ext.at '? !e ~ '? !f ~ #2/. #2/_.Lean.Parser.Term.app #2/refine' '; '( 'case !e $ 'assumption #1/assumption ^ #4/case ^ ') #3/paren '; '( 'case !f $ 'walk_at '\"f\" #1/_.str #2/_.PyProof.Rows.tacticWalk_at_ ^ #4/case ^ ') #3/paren #5/. #1/tacticSeq1Indented #1/tacticSeq ') #3/paren ^ & '| '( 'refine' Ext.at '( [anonymous] #1/_.hygieneInfo #2/_.Lean.Parser.Term.hygienicLParen Alloc.ext '? !e ~ #1/. #2/_.Lean.Parser.Term.app ') #3/_.Lean.Parser.Term.paren '? !f ~ #2/. #2/_.Lean.Parser.Term.app #2/refine' '; '( 'case !e $ 'assumption #1/assumption ^ #4/case ^ ') #3/paren '; '( 'case !f $ 'walk_at '\"f\" #1/_.str #2/_.PyProof.Rows.tacticWalk_at_ ^ #4/case ^ ') #3/paren #5/. #1/tacticSeq1Indented #1/tacticSeq ') #3/paren ^ & #5/. #2/first%x@'first '| 'assumption #1/assumption ^ & '| 'exact Ext.refl #2/exact ^ & '| 'exact Alloc.ext '( [anonymous] #1/_.hygieneInfo #2/_.Lean.Parser.Term.hygienicLParen 'by 'assumption #1/assumption ^ #2/_.Lean.Parser.Term.byTactic ') #3/_.Lean.Parser.Term.paren #1/. #2/_.Lean.Parser.Term.app #2/exact ^ & '| '( 'refine' Ext.trans '? !e ~ '? !f ~ #2/. #2/_.Lean.Parser.Term.app #2/refine' '; '( 'case !f $ 'assumption #1/assumption ^ #4/case ^ ') #3/paren '; '( 'case !e $ 'walk_at '\"x\" #1/_.str #2/_.PyProof.Rows.tacticWalk_at_ ^ #4/case ^ ') #3/paren #5/. #1/tacticSeq1Indented #1/tacticSeq ') #3/paren ^ & '| '( 'refine' Ext.trans '? !e ~ '( [anonymous] #1/_.hygieneInfo #2/_.Lean.Parser.Term.hygienicLParen Alloc.ext '? !f ~ #1/. #2/_.Lean.Parser.Term.app ') #3/_.Lean.Parser.Term.paren #2/. #2/_.Lean.Parser.Term.app #2/refine' '; '( 'case !f $ 'assumption #1/assumption ^ #4/case ^ ') #3/paren '; '( 'case !e $ 'walk_at '\"x\" #1/_.str #2/_.PyProof.Rows.tacticWalk_at_ ^ #4/case ^ ') #3/paren #5/. #1/tacticSeq1Indented #1/tacticSeq ') #3/paren ^ & #5/. #2/first%pr@'first '| 'assumption #1/assumption ^ & '| '( 'refine' PR.ext '? !a ~ '? !b ~ #2/. #2/_.Lean.Parser.Term.app #2/refine' '; '( 'case !a $ 'assumption #1/assumption ^ #4/case ^ ') #3/paren '; '( 'case !b $ 'walk_at '\"x\" #1/_.str #2/_.PyProof.Rows.tacticWalk_at_ ^ #4/case ^ ') #3/paren #5/. #1/tacticSeq1Indented #1/tacticSeq ') #3/paren ^ & #2/. #2/first%c@'first '| '( '( 'with_reducible 'refine' p_closure_var '? !w ~ '? '_ ~ #2/. #2/_.Lean.Parser.Term.app #2/refine' ^ #2/withReducible ^ ') #3/paren '; '( 'case !w $ 'assumption #1/assumption ^ #4/case ^ ') #3/paren #3/. #1/tacticSeq1Indented #1/tacticSeq ') #3/paren ^ & '| '( '( 'with_reducible 'refine' p_block '? !w ~ '? !n ~ '? !y ~ '? !m ~ '? '_ ~ #5/. #2/_.Lean.Parser.Term.app #2/refine' ^ #2/withReducible ^ ') #3/paren '; '( 'case !w $ 'assumption #1/assumption ^ #4/case ^ ') #3/paren '; '( 'case !n $ 'assumption #1/assumption ^ #4/case ^ ') #3/paren '; '( 'case !y $ 'walk_at '\"pr\" #1/_.str #2/_.PyProof.Rows.tacticWalk_at_ ^ #4/case ^ ') #3/paren '; '( 'case !m $ 'assumption #1/assumption ^ #4/case ^ ') #3/paren #9/. #1/tacticSeq1Indented #1/tacticSeq ') #3/paren ^ & #2/. #2/first%w@'repeat '( 'first '| 'walk_at '\"s\" #1/_.str #2/_.PyProof.Rows.tacticWalk_at_ ^ & '| 'walk_at '\"c\" #1/_.str #2/_.PyProof.Rows.tacticWalk_at_ ^ & #2/. #2/first ^ ') #3/paren ^ #2/tacticRepeat_%P@'( '( 'first '| 'with_reducible_and_instances 'refine Mine.rwp ` '? '_ ~ #2/. #2/_.Lean.Parser.Term.app #2/refine ^ #2/withReducibleAndInstances ^ & '| 'with_reducible_and_instances 'refine Mine.rwp '( [anonymous] #1/_.hygieneInfo #2/_.Lean.Parser.Term.hygienicLParen ` '_ #1/_.Lean.Parser.Term.hole #1/. #2/_.Lean.Parser.Term.app ') #3/_.Lean.Parser.Term.paren '? '_ ~ #2/. #2/_.Lean.Parser.Term.app #2/refine ^ #2/withReducibleAndInstances ^ & '| 'with_reducible_and_instances 'refine Mine.rwp '( [anonymous] #1/_.hygieneInfo #2/_.Lean.Parser.Term.hygienicLParen ` '_ #1/_.Lean.Parser.Term.hole '_ #1/_.Lean.Parser.Term.hole #2/. #2/_.Lean.Parser.Term.app ') #3/_.Lean.Parser.Term.paren '? '_ ~ #2/. #2/_.Lean.Parser.Term.app #2/refine ^ #2/withReducibleAndInstances ^ & '| 'with_reducible_and_instances 'refine Mine.rwi ` '? '_ ~ #2/. #2/_.Lean.Parser.Term.app #2/refine ^ #2/withReducibleAndInstances ^ & '| 'rewrite #0/. #1/optConfig '[ #0/. ` #2/rwRule #1/. '] #3/rwRuleSeq #0/. #4/rewriteSeq ^ & #5/. #2/first ^ ') #3/paren '; `` #3/. #1/tacticSeq1Indented #1/tacticSeq ') #3/paren%N@'( '( 'first '| 'with_reducible_and_instances 'refine Mine.rwn ` '? '_ ~ #2/. #2/_.Lean.Parser.Term.app #2/refine ^ #2/withReducibleAndInstances ^ & '| 'with_reducible_and_instances 'refine Mine.rwn '( [anonymous] #1/_.hygieneInfo #2/_.Lean.Parser.Term.hygienicLParen ` '_ #1/_.Lean.Parser.Term.hole #1/. #2/_.Lean.Parser.Term.app ') #3/_.Lean.Parser.Term.paren '? '_ ~ #2/. #2/_.Lean.Parser.Term.app #2/refine ^ #2/withReducibleAndInstances ^ & '| 'with_reducible_and_instances 'refine Mine.rwn '( [anonymous] #1/_.hygieneInfo #2/_.Lean.Parser.Term.hygienicLParen ` '_ #1/_.Lean.Parser.Term.hole '_ #1/_.Lean.Parser.Term.hole #2/. #2/_.Lean.Parser.Term.app ') #3/_.Lean.Parser.Term.paren '? '_ ~ #2/. #2/_.Lean.Parser.Term.app #2/refine ^ #2/withReducibleAndInstances ^ & '| 'with_reducible_and_instances 'refine Mine.rwm ` '? '_ ~ #2/. #2/_.Lean.Parser.Term.app #2/refine ^ #2/withReducibleAndInstances ^ & '| 'rewrite #0/. #1/optConfig '[ '← #1/. ` #2/rwRule #1/. '] #3/rwRuleSeq #0/. #4/rewriteSeq ^ & #5/. #2/first ^ ') #3/paren '; `` #3/. #1/tacticSeq1Indented #1/tacticSeq ') #3/paren%R@'try 'with_reducible 'rfl #1/tacticRfl ^ #2/withReducible ^ #2/tacticTry_%O@'first '| '( '( 'refine Or.elim ` '? !l ~ '? r ~ #3/. #2/_.Lean.Parser.Term.app #2/refine ^ ') #3/paren '; '( 'case' r $ '( '( 'try 'clear ` #1/. #2/clear ^ #2/tacticTry_ ^ ') #3/paren '; 'rintro ``` #1/rintroPat.one #1/. #0/. #3/rintro #3/. #1/tacticSeq1Indented #1/tacticSeq ') #3/paren ^ #4/case' ^ ') #3/paren '; '( 'case' !l $ '( '( 'try 'clear ` #1/. #2/clear ^ #2/tacticTry_ ^ ') #3/paren '; 'rintro `` #1/rintroPat.one #1/. #0/. #3/rintro #3/. #1/tacticSeq1Indented #1/tacticSeq ') #3/paren ^ #4/case' ^ ') #3/paren #5/. #1/tacticSeq1Indented #1/tacticSeq ') #3/paren ^ & '| 'obtain '( `` '| ``` #3/. #1/rcasesPatMed #0/. #2/rcasesPatLo ') #3/rcasesPat.paren #1/. #1/rcasesPatMed #1/. #0/. ':= ` #1/. #2/. #4/obtain ^ & #2/. #2/first%C@'first '| 'exact Mine.nsn ` #1/. #2/_.Lean.Parser.Term.app #2/exact ^ & '| 'exact Mine.nns ` #1/. #2/_.Lean.Parser.Term.app #2/exact ^ & '| 'exact Mine.nft ` #1/. #2/_.Lean.Parser.Term.app #2/exact ^ & '| 'exact Mine.ntf ` #1/. #2/_.Lean.Parser.Term.app #2/exact ^ & '| '( 'refine Mine.sinj ` 'fun z #1/. #0/. '=> '? '_ ~ #4/_.Lean.Parser.Term.basicFun #2/_.Lean.Parser.Term.fun #2/. #2/_.Lean.Parser.Term.app #2/refine '; 'clear ` #1/. #2/clear '; 'subst z #1/. #2/subst #5/. #1/tacticSeq1Indented #1/tacticSeq ') #3/paren ^ & '| 'cases #0/. '( [anonymous] #1/_.hygieneInfo #2/_.Lean.Parser.Term.hygienicLParen ` ') #3/_.Lean.Parser.Term.paren #2/elimTarget #1/. #0/. #0/. #4/cases ^ & #6/. #2/first%1@'with_reducible 'refine Z '? '_ ~ #1/. #2/_.Lean.Parser.Term.app #2/refine ^ #2/withReducible ^ &%2@'( '( 'with_reducible 'refine' Z '_ #1/_.Lean.Parser.Term.hole '? !f ~ '? '_ ~ #3/. #2/_.Lean.Parser.Term.app #2/refine' ^ #2/withReducible ^ ') #3/paren '; '( 'case !f $ 'walk_at '\"l\" #1/_.str #2/_.PyProof.Rows.tacticWalk_at_ ^ #4/case ^ ') #3/paren #3/. #1/tacticSeq1Indented #1/tacticSeq ') #3/paren ^ &%3@'( '( 'with_reducible 'refine' Z '? !f ~ '? !g ~ '? !i ~ '? !j ~ '? '_ ~ #5/. #2/_.Lean.Parser.Term.app #2/refine' ^ #2/withReducible ^ ') #3/paren '; '( 'case !f $ 'walk_at '\"f\" #1/_.str #2/_.PyProof.Rows.tacticWalk_at_ ^ #4/case ^ ') #3/paren '; '( 'case !g $ 'rfl #1/tacticRfl ^ #4/case ^ ') #3/paren '; '( 'case !i $ 'rfl #1/tacticRfl ^ #4/case ^ ') #3/paren '; '( 'case !j $ 'walk_at '\"l\" #1/_.str #2/_.PyProof.Rows.tacticWalk_at_ ^ #4/case ^ ') #3/paren #9/. #1/tacticSeq1Indented #1/tacticSeq ') #3/paren ^ &%4@'( '( 'with_reducible 'refine' Z '? !f ~ '? !g ~ '? '_ ~ #3/. #2/_.Lean.Parser.Term.app #2/refine' ^ #2/withReducible ^ ') #3/paren '; '( 'case !f $ 'walk_at '\"A\" #1/_.str #2/_.PyProof.Rows.tacticWalk_at_ ^ #4/case ^ ') #3/paren '; '( 'case !g $ 'walk_at '\"B\" #1/_.str #2/_.PyProof.Rows.tacticWalk_at_ ^ #4/case ^ ') #3/paren #5/. #1/tacticSeq1Indented #1/tacticSeq ') #3/paren ^ &%5@'( '( 'with_reducible 'refine' Z '? !f ~ '? '_ ~ #2/. #2/_.Lean.Parser.Term.app #2/refine' ^ #2/withReducible ^ ') #3/paren '; '( 'case !f $ 'walk_at '\"A\" #1/_.str #2/_.PyProof.Rows.tacticWalk_at_ ^ #4/case ^ ') #3/paren #3/. #1/tacticSeq1Indented #1/tacticSeq ') #3/paren ^ &%6@'( '( 'with_reducible 'refine Z '? '_ ~ #1/. #2/_.Lean.Parser.Term.app #2/refine ^ #2/withReducible ^ ') #3/paren '; 'intro !l #1/. #2/intro #3/. #1/tacticSeq1Indented #1/tacticSeq ') #3/paren ^ &%7@'( '( 'with_reducible 'refine' Z '? !f ~ '? !g ~ '? !i ~ '? '_ ~ #4/. #2/_.Lean.Parser.Term.app #2/refine' ^ #2/withReducible ^ ') #3/paren '; '( 'case !f $ 'walk_at '\"l\" #1/_.str #2/_.PyProof.Rows.tacticWalk_at_ ^ #4/case ^ ') #3/paren '; '( 'case !g $ 'walk_at '\"f\" #1/_.str #2/_.PyProof.Rows.tacticWalk_at_ ^ #4/case ^ ') #3/paren '; '( 'case !i $ 'walk_at '\"l\" #1/_.str #2/_.PyProof.Rows.tacticWalk_at_ ^ #4/case ^ ') #3/paren #7/. #1/tacticSeq1Indented #1/tacticSeq ') #3/paren ^ &%s@va lfl,vv ll,var l,done_sq,done_val,ret_sq,ret,lit,asg v,asgs2 v,asgs3 v,pop,popi,not,add,sub,eq,ne,lt,gt,ge,eqs,call1,call2,glob m,attr fl,chk f,chkl f,chkd f,len f,lend f,nilq f,ins f,nins f,ink f,nink f,inl f,ninl f,idxd fm,idxl fa,idxt fa,isBi,isBb,isIi,isIb,isBr f,isBo f,isIr f,isIo f,attro fl,idxz fm,mod a,mul a,div a,isnt,mk0,mk1,mk2,dict0,copyl f,copyd f,rev f,sortd fm,sortl fm,appi fm,app fm,setId fm,setA flll,call l,tup _l,mk _l,no a,yes a".splitOn "%").findSome? λp=>match p.splitOn "@" with|[a,b]=>if a==k then some b else none|_=>none).getD ""
def rwl:List Lean.Syntax->Lean.Syntax
 |[]=>syn [] id (wtb "R")
 |r::rs=>if r.isAtom then rwl rs else syn [r.getArg 1,rwl rs] id (wtb (if (r.getArg 0).isNone then "P" else "N"))
def wal(s:String):String:=match s.splitOn " " with
 |[r]=>rp "Z" ("r_"++r) (wtb "1")
 |r::k::_=>rp "Z" ("r_"++r)<|rp "A\"" ((k.take 1).toString++ "\"")<|rp "B\"" ((k.drop 1).toString++ "\"")<|wtb (if k== "_l" then "2" else if k== "flll" then "3" else if k== "v" then "6" else if k.length==2 then "4" else if k== "lfl" then "7" else "5")
 |_=>""
end
section
universe u
@[elab_as_elim] theorem rwp {α:Sort u} {P:α->Prop} {a b:α} (h:a=b) (p:P b):P a:=h▸p
@[elab_as_elim] theorem rwn {α:Sort u} {P:α->Prop} {a b:α} (h:b=a) (p:P b):P a:=h▸p
@[elab_as_elim] theorem rwi {P:Prop->Prop} {a b:Prop} (h:a↔b) (p:P b):P a:=propext h▸p
@[elab_as_elim] theorem rwm {P:Prop->Prop} {a b:Prop} (h:b↔a) (p:P b):P a:=propext h▸p
theorem nsn{α:Type u}{x:α}{G:Prop}(h:some x=none):G:=by cases h
theorem nns{α:Type u}{x:α}{G:Prop}(h:none=some x):G:=by cases h
theorem nft{G:Prop}(h:false=true):G:=by cases h
theorem ntf{G:Prop}(h:true=false):G:=by cases h
theorem sinj{α:Type u}{a b:α}{G:Prop}(h:some a=some b)(k:a=b->G):G:=k (Option.some.inj h)
section
variable {α β δ ε ζ η:Type}{G:Prop}
variable {A B C D E F H I J K L:Prop}{A1 B1 C1 D1 E1 F1:α->Prop}{A2 B2 C2 D2 E2 F2 H2:α->β->Prop}{A3 B3 C3 D3 E3 F3 H3:α->β->δ->Prop}{A4 B4 C4 D4 E4 F4 H4:α->β->δ->ε->Prop}{A6 B6 C6 D6 E6 F6 H6 I6 J6:α->β->δ->ε->ζ->η->Prop}
theorem o(h:A)(k:A->G):G:=k h
theorem oa(h:A/\B)(k:A->B->G):G:=k h.1 h.2
theorem oaa(h:A/\B/\C)(k:A->B->C->G):G:=k h.1 h.2.1 h.2.2
theorem oaaa(h:A/\B/\C/\D)(k:A->B->C->D->G):G:=k h.1 h.2.1 h.2.2.1 h.2.2.2
theorem oaaaa(h:A/\B/\C/\D/\E)(k:A->B->C->D->E->G):G:=k h.1 h.2.1 h.2.2.1 h.2.2.2.1 h.2.2.2.2
theorem oaaaaa(h:A/\B/\C/\D/\E/\F)(k:A->B->C->D->E->F->G):G:=k h.1 h.2.1 h.2.2.1 h.2.2.2.1 h.2.2.2.2.1 h.2.2.2.2.2
theorem oaaaaaaaaaa(h:A/\B/\C/\D/\E/\F/\H/\I/\J/\K/\L)(k:A->B->C->D->E->F->H->I->J->K->L->G):G:=k h.1 h.2.1 h.2.2.1 h.2.2.2.1 h.2.2.2.2.1 h.2.2.2.2.2.1 h.2.2.2.2.2.2.1 h.2.2.2.2.2.2.2.1 h.2.2.2.2.2.2.2.2.1 h.2.2.2.2.2.2.2.2.2.1 h.2.2.2.2.2.2.2.2.2.2
theorem oaaeaaa(h:A/\B/\∃x0,C1 x0/\D1 x0/\E1 x0/\F1 x0)(k:A->B->∀x0,C1 x0->D1 x0->E1 x0->F1 x0->G):G:=h.2.2.elim λx0 q0=>k h.1 h.2.1 x0 q0.1 q0.2.1 q0.2.2.1 q0.2.2.2
theorem oaea(h:A/\∃x0,B1 x0/\C1 x0)(k:A->∀x0,B1 x0->C1 x0->G):G:=h.2.elim λx0 q0=>k h.1 x0 q0.1 q0.2
theorem oaeaa(h:A/\∃x0,B1 x0/\C1 x0/\D1 x0)(k:A->∀x0,B1 x0->C1 x0->D1 x0->G):G:=h.2.elim λx0 q0=>k h.1 x0 q0.1 q0.2.1 q0.2.2
theorem oaeaaa(h:A/\∃x0,B1 x0/\C1 x0/\D1 x0/\E1 x0)(k:A->∀x0,B1 x0->C1 x0->D1 x0->E1 x0->G):G:=h.2.elim λx0 q0=>k h.1 x0 q0.1 q0.2.1 q0.2.2.1 q0.2.2.2
theorem oaeaeaa(h:A/\∃x0,B1 x0/\∃x1,C2 x0 x1/\D2 x0 x1/\E2 x0 x1)(k:A->∀x0,B1 x0->∀x1,C2 x0 x1->D2 x0 x1->E2 x0 x1->G):G:=h.2.elim λx0 q0=>q0.2.elim λx1 q1=>k h.1 x0 q0.1 x1 q1.1 q1.2.1 q1.2.2
theorem oaee(h:A/\∃x0,∃x1,B2 x0 x1)(k:A->∀x0 x1,B2 x0 x1->G):G:=h.2.elim λx0 q0=>q0.elim λx1 q1=>k h.1 x0 x1 q1
theorem oaeea(h:A/\∃x0,∃x1,B2 x0 x1/\C2 x0 x1)(k:A->∀x0 x1,B2 x0 x1->C2 x0 x1->G):G:=h.2.elim λx0 q0=>q0.elim λx1 q1=>k h.1 x0 x1 q1.1 q1.2
theorem oaeeaa(h:A/\∃x0,∃x1,B2 x0 x1/\C2 x0 x1/\D2 x0 x1)(k:A->∀x0 x1,B2 x0 x1->C2 x0 x1->D2 x0 x1->G):G:=h.2.elim λx0 q0=>q0.elim λx1 q1=>k h.1 x0 x1 q1.1 q1.2.1 q1.2.2
theorem oe(h:∃x0,A1 x0)(k:∀x0,A1 x0->G):G:=h.elim λx0 q0=>k x0 q0
theorem oea(h:∃x0,A1 x0/\B1 x0)(k:∀x0,A1 x0->B1 x0->G):G:=h.elim λx0 q0=>k x0 q0.1 q0.2
theorem oeaa(h:∃x0,A1 x0/\B1 x0/\C1 x0)(k:∀x0,A1 x0->B1 x0->C1 x0->G):G:=h.elim λx0 q0=>k x0 q0.1 q0.2.1 q0.2.2
theorem oeaaa(h:∃x0,A1 x0/\B1 x0/\C1 x0/\D1 x0)(k:∀x0,A1 x0->B1 x0->C1 x0->D1 x0->G):G:=h.elim λx0 q0=>k x0 q0.1 q0.2.1 q0.2.2.1 q0.2.2.2
theorem oeaaaa(h:∃x0,A1 x0/\B1 x0/\C1 x0/\D1 x0/\E1 x0)(k:∀x0,A1 x0->B1 x0->C1 x0->D1 x0->E1 x0->G):G:=h.elim λx0 q0=>k x0 q0.1 q0.2.1 q0.2.2.1 q0.2.2.2.1 q0.2.2.2.2
theorem oeaaaaeaa(h:∃x0,A1 x0/\B1 x0/\C1 x0/\D1 x0/\∃x1,E2 x0 x1/\F2 x0 x1/\H2 x0 x1)(k:∀x0,A1 x0->B1 x0->C1 x0->D1 x0->∀x1,E2 x0 x1->F2 x0 x1->H2 x0 x1->G):G:=h.elim λx0 q0=>q0.2.2.2.2.elim λx1 q1=>k x0 q0.1 q0.2.1 q0.2.2.1 q0.2.2.2.1 x1 q1.1 q1.2.1 q1.2.2
theorem oeaae(h:∃x0,A1 x0/\B1 x0/\∃x1,C2 x0 x1)(k:∀x0,A1 x0->B1 x0->∀x1,C2 x0 x1->G):G:=h.elim λx0 q0=>q0.2.2.elim λx1 q1=>k x0 q0.1 q0.2.1 x1 q1
theorem oeae(h:∃x0,A1 x0/\∃x1,B2 x0 x1)(k:∀x0,A1 x0->∀x1,B2 x0 x1->G):G:=h.elim λx0 q0=>q0.2.elim λx1 q1=>k x0 q0.1 x1 q1
theorem oeaea(h:∃x0,A1 x0/\∃x1,B2 x0 x1/\C2 x0 x1)(k:∀x0,A1 x0->∀x1,B2 x0 x1->C2 x0 x1->G):G:=h.elim λx0 q0=>q0.2.elim λx1 q1=>k x0 q0.1 x1 q1.1 q1.2
theorem oeaeaa(h:∃x0,A1 x0/\∃x1,B2 x0 x1/\C2 x0 x1/\D2 x0 x1)(k:∀x0,A1 x0->∀x1,B2 x0 x1->C2 x0 x1->D2 x0 x1->G):G:=h.elim λx0 q0=>q0.2.elim λx1 q1=>k x0 q0.1 x1 q1.1 q1.2.1 q1.2.2
theorem oee(h:∃x0,∃x1,A2 x0 x1)(k:∀x0 x1,A2 x0 x1->G):G:=h.elim λx0 q0=>q0.elim λx1 q1=>k x0 x1 q1
theorem oeea(h:∃x0,∃x1,A2 x0 x1/\B2 x0 x1)(k:∀x0 x1,A2 x0 x1->B2 x0 x1->G):G:=h.elim λx0 q0=>q0.elim λx1 q1=>k x0 x1 q1.1 q1.2
theorem oeeaa(h:∃x0,∃x1,A2 x0 x1/\B2 x0 x1/\C2 x0 x1)(k:∀x0 x1,A2 x0 x1->B2 x0 x1->C2 x0 x1->G):G:=h.elim λx0 q0=>q0.elim λx1 q1=>k x0 x1 q1.1 q1.2.1 q1.2.2
theorem oeeaaa(h:∃x0,∃x1,A2 x0 x1/\B2 x0 x1/\C2 x0 x1/\D2 x0 x1)(k:∀x0 x1,A2 x0 x1->B2 x0 x1->C2 x0 x1->D2 x0 x1->G):G:=h.elim λx0 q0=>q0.elim λx1 q1=>k x0 x1 q1.1 q1.2.1 q1.2.2.1 q1.2.2.2
theorem oeeaaaa(h:∃x0,∃x1,A2 x0 x1/\B2 x0 x1/\C2 x0 x1/\D2 x0 x1/\E2 x0 x1)(k:∀x0 x1,A2 x0 x1->B2 x0 x1->C2 x0 x1->D2 x0 x1->E2 x0 x1->G):G:=h.elim λx0 q0=>q0.elim λx1 q1=>k x0 x1 q1.1 q1.2.1 q1.2.2.1 q1.2.2.2.1 q1.2.2.2.2
theorem oeeaaaaa(h:∃x0,∃x1,A2 x0 x1/\B2 x0 x1/\C2 x0 x1/\D2 x0 x1/\E2 x0 x1/\F2 x0 x1)(k:∀x0 x1,A2 x0 x1->B2 x0 x1->C2 x0 x1->D2 x0 x1->E2 x0 x1->F2 x0 x1->G):G:=h.elim λx0 q0=>q0.elim λx1 q1=>k x0 x1 q1.1 q1.2.1 q1.2.2.1 q1.2.2.2.1 q1.2.2.2.2.1 q1.2.2.2.2.2
theorem oeeaaeaa(h:∃x0,∃x1,A2 x0 x1/\B2 x0 x1/\∃x2,C3 x0 x1 x2/\D3 x0 x1 x2/\E3 x0 x1 x2)(k:∀x0 x1,A2 x0 x1->B2 x0 x1->∀x2,C3 x0 x1 x2->D3 x0 x1 x2->E3 x0 x1 x2->G):G:=h.elim λx0 q0=>q0.elim λx1 q1=>q1.2.2.elim λx2 q2=>k x0 x1 q1.1 q1.2.1 x2 q2.1 q2.2.1 q2.2.2
theorem oeeaeaa(h:∃x0,∃x1,A2 x0 x1/\∃x2,B3 x0 x1 x2/\C3 x0 x1 x2/\D3 x0 x1 x2)(k:∀x0 x1,A2 x0 x1->∀x2,B3 x0 x1 x2->C3 x0 x1 x2->D3 x0 x1 x2->G):G:=h.elim λx0 q0=>q0.elim λx1 q1=>q1.2.elim λx2 q2=>k x0 x1 q1.1 x2 q2.1 q2.2.1 q2.2.2
theorem oeee(h:∃x0,∃x1,∃x2,A3 x0 x1 x2)(k:∀x0 x1 x2,A3 x0 x1 x2->G):G:=h.elim λx0 q0=>q0.elim λx1 q1=>q1.elim λx2 q2=>k x0 x1 x2 q2
theorem oeeea(h:∃x0,∃x1,∃x2,A3 x0 x1 x2/\B3 x0 x1 x2)(k:∀x0 x1 x2,A3 x0 x1 x2->B3 x0 x1 x2->G):G:=h.elim λx0 q0=>q0.elim λx1 q1=>q1.elim λx2 q2=>k x0 x1 x2 q2.1 q2.2
theorem oeeeaa(h:∃x0,∃x1,∃x2,A3 x0 x1 x2/\B3 x0 x1 x2/\C3 x0 x1 x2)(k:∀x0 x1 x2,A3 x0 x1 x2->B3 x0 x1 x2->C3 x0 x1 x2->G):G:=h.elim λx0 q0=>q0.elim λx1 q1=>q1.elim λx2 q2=>k x0 x1 x2 q2.1 q2.2.1 q2.2.2
theorem oeeeaaa(h:∃x0,∃x1,∃x2,A3 x0 x1 x2/\B3 x0 x1 x2/\C3 x0 x1 x2/\D3 x0 x1 x2)(k:∀x0 x1 x2,A3 x0 x1 x2->B3 x0 x1 x2->C3 x0 x1 x2->D3 x0 x1 x2->G):G:=h.elim λx0 q0=>q0.elim λx1 q1=>q1.elim λx2 q2=>k x0 x1 x2 q2.1 q2.2.1 q2.2.2.1 q2.2.2.2
theorem oeeeaaaa(h:∃x0,∃x1,∃x2,A3 x0 x1 x2/\B3 x0 x1 x2/\C3 x0 x1 x2/\D3 x0 x1 x2/\E3 x0 x1 x2)(k:∀x0 x1 x2,A3 x0 x1 x2->B3 x0 x1 x2->C3 x0 x1 x2->D3 x0 x1 x2->E3 x0 x1 x2->G):G:=h.elim λx0 q0=>q0.elim λx1 q1=>q1.elim λx2 q2=>k x0 x1 x2 q2.1 q2.2.1 q2.2.2.1 q2.2.2.2.1 q2.2.2.2.2
theorem oeeeaaaaa(h:∃x0,∃x1,∃x2,A3 x0 x1 x2/\B3 x0 x1 x2/\C3 x0 x1 x2/\D3 x0 x1 x2/\E3 x0 x1 x2/\F3 x0 x1 x2)(k:∀x0 x1 x2,A3 x0 x1 x2->B3 x0 x1 x2->C3 x0 x1 x2->D3 x0 x1 x2->E3 x0 x1 x2->F3 x0 x1 x2->G):G:=h.elim λx0 q0=>q0.elim λx1 q1=>q1.elim λx2 q2=>k x0 x1 x2 q2.1 q2.2.1 q2.2.2.1 q2.2.2.2.1 q2.2.2.2.2.1 q2.2.2.2.2.2
theorem oeeeaaaaaa(h:∃x0,∃x1,∃x2,A3 x0 x1 x2/\B3 x0 x1 x2/\C3 x0 x1 x2/\D3 x0 x1 x2/\E3 x0 x1 x2/\F3 x0 x1 x2/\H3 x0 x1 x2)(k:∀x0 x1 x2,A3 x0 x1 x2->B3 x0 x1 x2->C3 x0 x1 x2->D3 x0 x1 x2->E3 x0 x1 x2->F3 x0 x1 x2->H3 x0 x1 x2->G):G:=h.elim λx0 q0=>q0.elim λx1 q1=>q1.elim λx2 q2=>k x0 x1 x2 q2.1 q2.2.1 q2.2.2.1 q2.2.2.2.1 q2.2.2.2.2.1 q2.2.2.2.2.2.1 q2.2.2.2.2.2.2
theorem oeeeea(h:∃x0,∃x1,∃x2,∃x3,A4 x0 x1 x2 x3/\B4 x0 x1 x2 x3)(k:∀x0 x1 x2 x3,A4 x0 x1 x2 x3->B4 x0 x1 x2 x3->G):G:=h.elim λx0 q0=>q0.elim λx1 q1=>q1.elim λx2 q2=>q2.elim λx3 q3=>k x0 x1 x2 x3 q3.1 q3.2
theorem oeeeeaa(h:∃x0,∃x1,∃x2,∃x3,A4 x0 x1 x2 x3/\B4 x0 x1 x2 x3/\C4 x0 x1 x2 x3)(k:∀x0 x1 x2 x3,A4 x0 x1 x2 x3->B4 x0 x1 x2 x3->C4 x0 x1 x2 x3->G):G:=h.elim λx0 q0=>q0.elim λx1 q1=>q1.elim λx2 q2=>q2.elim λx3 q3=>k x0 x1 x2 x3 q3.1 q3.2.1 q3.2.2
theorem oeeeeaaa(h:∃x0,∃x1,∃x2,∃x3,A4 x0 x1 x2 x3/\B4 x0 x1 x2 x3/\C4 x0 x1 x2 x3/\D4 x0 x1 x2 x3)(k:∀x0 x1 x2 x3,A4 x0 x1 x2 x3->B4 x0 x1 x2 x3->C4 x0 x1 x2 x3->D4 x0 x1 x2 x3->G):G:=h.elim λx0 q0=>q0.elim λx1 q1=>q1.elim λx2 q2=>q2.elim λx3 q3=>k x0 x1 x2 x3 q3.1 q3.2.1 q3.2.2.1 q3.2.2.2
theorem oeeeeaaaa(h:∃x0,∃x1,∃x2,∃x3,A4 x0 x1 x2 x3/\B4 x0 x1 x2 x3/\C4 x0 x1 x2 x3/\D4 x0 x1 x2 x3/\E4 x0 x1 x2 x3)(k:∀x0 x1 x2 x3,A4 x0 x1 x2 x3->B4 x0 x1 x2 x3->C4 x0 x1 x2 x3->D4 x0 x1 x2 x3->E4 x0 x1 x2 x3->G):G:=h.elim λx0 q0=>q0.elim λx1 q1=>q1.elim λx2 q2=>q2.elim λx3 q3=>k x0 x1 x2 x3 q3.1 q3.2.1 q3.2.2.1 q3.2.2.2.1 q3.2.2.2.2
theorem oeeeeaaaaa(h:∃x0,∃x1,∃x2,∃x3,A4 x0 x1 x2 x3/\B4 x0 x1 x2 x3/\C4 x0 x1 x2 x3/\D4 x0 x1 x2 x3/\E4 x0 x1 x2 x3/\F4 x0 x1 x2 x3)(k:∀x0 x1 x2 x3,A4 x0 x1 x2 x3->B4 x0 x1 x2 x3->C4 x0 x1 x2 x3->D4 x0 x1 x2 x3->E4 x0 x1 x2 x3->F4 x0 x1 x2 x3->G):G:=h.elim λx0 q0=>q0.elim λx1 q1=>q1.elim λx2 q2=>q2.elim λx3 q3=>k x0 x1 x2 x3 q3.1 q3.2.1 q3.2.2.1 q3.2.2.2.1 q3.2.2.2.2.1 q3.2.2.2.2.2
theorem oeeeeaaaaaa(h:∃x0,∃x1,∃x2,∃x3,A4 x0 x1 x2 x3/\B4 x0 x1 x2 x3/\C4 x0 x1 x2 x3/\D4 x0 x1 x2 x3/\E4 x0 x1 x2 x3/\F4 x0 x1 x2 x3/\H4 x0 x1 x2 x3)(k:∀x0 x1 x2 x3,A4 x0 x1 x2 x3->B4 x0 x1 x2 x3->C4 x0 x1 x2 x3->D4 x0 x1 x2 x3->E4 x0 x1 x2 x3->F4 x0 x1 x2 x3->H4 x0 x1 x2 x3->G):G:=h.elim λx0 q0=>q0.elim λx1 q1=>q1.elim λx2 q2=>q2.elim λx3 q3=>k x0 x1 x2 x3 q3.1 q3.2.1 q3.2.2.1 q3.2.2.2.1 q3.2.2.2.2.1 q3.2.2.2.2.2.1 q3.2.2.2.2.2.2
theorem oeeeeeeaaaaaaaa(h:∃x0,∃x1,∃x2,∃x3,∃x4,∃x5,A6 x0 x1 x2 x3 x4 x5/\B6 x0 x1 x2 x3 x4 x5/\C6 x0 x1 x2 x3 x4 x5/\D6 x0 x1 x2 x3 x4 x5/\E6 x0 x1 x2 x3 x4 x5/\F6 x0 x1 x2 x3 x4 x5/\H6 x0 x1 x2 x3 x4 x5/\I6 x0 x1 x2 x3 x4 x5/\J6 x0 x1 x2 x3 x4 x5)(k:∀x0 x1 x2 x3 x4 x5,A6 x0 x1 x2 x3 x4 x5->B6 x0 x1 x2 x3 x4 x5->C6 x0 x1 x2 x3 x4 x5->D6 x0 x1 x2 x3 x4 x5->E6 x0 x1 x2 x3 x4 x5->F6 x0 x1 x2 x3 x4 x5->H6 x0 x1 x2 x3 x4 x5->I6 x0 x1 x2 x3 x4 x5->J6 x0 x1 x2 x3 x4 x5->G):G:=h.elim λx0 q0=>q0.elim λx1 q1=>q1.elim λx2 q2=>q2.elim λx3 q3=>q3.elim λx4 q4=>q4.elim λx5 q5=>k x0 x1 x2 x3 x4 x5 q5.1 q5.2.1 q5.2.2.1 q5.2.2.2.1 q5.2.2.2.2.1 q5.2.2.2.2.2.1 q5.2.2.2.2.2.2.1 q5.2.2.2.2.2.2.2.1 q5.2.2.2.2.2.2.2.2
theorem oaaea(h:A/\B/\∃x0,C1 x0/\D1 x0)(k:A->B->∀x0,C1 x0->D1 x0->G):G:=h.2.2.elim λx0 q0=>k h.1 h.2.1 x0 q0.1 q0.2
theorem oaaee(h:A/\B/\∃x0,∃x1,C2 x0 x1)(k:A->B->∀x0 x1,C2 x0 x1->G):G:=h.2.2.elim λx0 q0=>q0.elim λx1 q1=>k h.1 h.2.1 x0 x1 q1
theorem oaeaaaeaa(h:A/\∃x0,B1 x0/\C1 x0/\D1 x0/\∃x1,E2 x0 x1/\F2 x0 x1/\H2 x0 x1)(k:A->∀x0,B1 x0->C1 x0->D1 x0->∀x1,E2 x0 x1->F2 x0 x1->H2 x0 x1->G):G:=h.2.elim λx0 q0=>q0.2.2.2.elim λx1 q1=>k h.1 x0 q0.1 q0.2.1 q0.2.2.1 x1 q1.1 q1.2.1 q1.2.2
end
end
local macro_rules
 | `(tactic| rw $s:rwRuleSeq) => return rwl (s.raw.getArg 1).getArgs.toList
local macro_rules
 | `(tactic| rcases $h:elimTarget with $p:rcasesPatLo) => do
  let m:=(p.raw.getArg 0).getArg 0
  if m.getNumArgs==3 then return syn [h.raw.getArg 1,m.getArg 0,m.getArg 2] id (wtb "O") else Lean.Macro.throwUnsupported
local macro_rules
 | `(tactic| cases $t:elimTarget) => if (t.raw.getArg 1).isIdent then return syn [t.raw.getArg 1] id (wtb "C") else Lean.Macro.throwUnsupported
section
namespace LA
set_option genCtorIdx false in
inductive Ax where
 |i (k:Nat)|c (k:Nat)|a (x y:Ax)|s (x y:Ax)|m (k:Nat) (x:Ax)|r (x:Ax) (k:Nat)|n (x:Ax)|g (k:Nat)
set_option genCtorIdx false in
inductive Hx where
 |le (b:Bool) (x y:Ax)|lt (b:Bool) (x y:Ax)|eq (b:Bool) (x y:Ax)|Fd (b:Bool) (x y:Ax)|Fc (b:Bool) (x y:Ax)|an (h g:Hx)
noncomputable def jW{α:Type}(d:α):List α->Nat->α
 |[],_=>d
 |x::l,n=>Nat.rec (motive:=λ_=>α) x (λn _=>jW d l n) n
noncomputable def dot:List Int->List Int->Int
 |[],_=>0
 |a::l,X=>a*jW 0 X 0+dot l X.tail
noncomputable def lH:List Int->List Int->List Int
 |[],r=>r
 |a::l,r=>(a+jW 0 r 0)::lH l r.tail
noncomputable def unit:Nat->List Int
 |0=>[1]
 |n+1=>0::unit n
section
variable (I:List Int)(N:List Nat)
noncomputable def Ax.t:Ax->Nat
 | .i k=>jW 0 N k
 | .c k=>k
 | .a x y=>x.t+y.t
 | .s _ _=>0
 | .m k x=>k*x.t
 | .r x k=>x.t*k
 | .n _=>0
 | .g _=>0
noncomputable def Ax.z:Ax->Int
 | .i k=>jW 0 I k
 | .c k=>(k:Nat)
 | .a x y=>x.z+y.z
 | .s x y=>x.z - y.z
 | .m k x=>(k:Nat)*x.z
 | .r x k=>x.z*(k:Nat)
 | .n x=>(x.t N:Nat)
 | .g k=>-(k:Nat)
noncomputable def cmp(b:Bool)(p:Nat->Nat->Prop)(q:Int->Int->Prop)(x y:Ax):Prop:=b.rec (q (x.z I N) (y.z I N)) (p (x.t N) (y.t N))
noncomputable def Hx.d:Hx->Prop
 | .le b x y=>cmp I N b (· <= ·) (· <= ·) x y
 | .lt b x y=>cmp I N b (· < ·) (· < ·) x y
 | .eq b x y=>cmp I N b (· = ·) (· = ·) x y
 | .Fd b x y=>cmp I N b (¬ · <= ·) (¬ · <= ·) x y
 | .Fc b x y=>cmp I N b (¬ · < ·) (¬ · < ·) x y
 | .an h g=>h.d/\g.d
end
noncomputable def mul(k:Int)(l:List Int):List Int:=l.map (k* ·)
noncomputable def Ax.l(n:Nat):Bool->Ax->List Int
 |b,.i k=>b.rec ((k.blt n).rec [] (unit (k+1))) (unit (n+1+k))
 |_,.c k=>[(k:Nat)]
 |b,.a x y=>lH (x.l n b) (y.l n b)
 |b,.s x y=>b.rec (lH (x.l n false) (mul (-1) (y.l n false))) []
 |b,.m k x=>mul (k:Nat) (x.l n b)
 |b,.r x k=>mul (k:Nat) (x.l n b)
 |b,.n x=>b.rec (x.l n true) []
 |b,.g k=>b.rec [-(k:Nat)] []
noncomputable def FC(n:Nat)(b:Bool)(e:Int)(x y:Ax):List Int:=lH (lH (y.l n b) (mul (-1) (x.l n b))) [e]
noncomputable def Hx.cs(n:Nat):Hx->List (List Int)
 | .le b x y=>[FC n b 0 x y]
 | .lt b x y=>[FC n b (-1) x y]
 | .eq b x y=>[FC n b 0 x y,FC n b 0 y x]
 | .Fd b x y=>[FC n b (-1) y x]
 | .Fc b x y=>[FC n b 0 y x]
 | .an h g=>h.cs n++g.cs n
noncomputable def comb:List Nat->List (List Int)->List Int
 |[],_=>[]
 |m::ms,ls=>lH (mul (m:Nat) (jW [] ls 0)) (comb ms ls.tail)
noncomputable def C_:Nat->List Int->Bool
 |0,l=>l.all (· <=0)
 |n+1,l=>jW 0 l 0==0&&C_ n l.tail
noncomputable def bL(ms:List Nat)(n:Nat)(hs:List Hx):Bool:=decide (jW 0 (comb ms (hs.flatMap (Hx.cs n))) 0<0)&&C_ n (comb ms (hs.flatMap (Hx.cs n))).tail
section
variable {I:List Int}{N:List Nat}
theorem MV{α:Type}{d:α}:∀{n:Nat},jW d [] n=d:=rfl
theorem LY{a:Int}{l X:List Int}:dot (a::l) X=a*jW 0 X 0+dot l X.tail:=rfl
theorem jq:∀{p q X:List Int},dot (lH p q) X=dot p X+dot q X
 |[],_,_=>(V1 _).symm
 |a::p,q,X=>by
  have e:dot q X=jW 0 q 0*jW 0 X 0+dot q.tail X.tail:=by
   cases q with
   |nil=>exact((Yy _).trans (W8 _)).symm
   |cons=>rfl
  show (a+jW 0 q 0)*jW 0 X 0+dot (lH p q.tail) X.tail=a*jW 0 X 0+dot p X.tail+dot q X;rw[jq,Int.add_mul,e];ac_rfl
theorem jp{k:Int}:∀{p X:List Int},dot (mul k p) X=k*dot p X
 |[],_=>(Int.mul_zero k).symm
 |a::p,X=>by
  show k*a*jW 0 X 0+dot (mul k p) X.tail=k*(a*jW 0 X 0+dot p X.tail);rw[jp,Int.mul_add,Int.mul_assoc]
theorem BQ{l:List Int}{n:Nat}:jW 0 l (n+1)=jW 0 l.tail n:=by cases l<;>rfl
theorem iR:∀{n:Nat} {X:List Int},dot (unit n) X=jW 0 X n
 |0,X=>(Yy _).trans (Int.one_mul _)
 |n+1,X=>by
  rw[BQ,<-iR (n:=n)];exact(congrArg (· +_) (W8 _)).trans (V1 _)
theorem EC:∀{A B:List Int} {n:Nat},jW 0 (A++B) (A.length+n)=jW 0 B n
 |[],_,n=>congrArg _ (Xx n)
 |_::A,B,n=>by rw[Yn,Nat.succ_add];exact EC (A:=A)
theorem oM:∀{N:List Nat} {n:Nat},jW 0 (N.map Int.ofNat) n=(jW 0 N n:Nat)
 |[],_=>rfl
 |_::_,0=>rfl
 |_::N,n+1=>oM (N:=N)
noncomputable abbrev yx(I:List Int)(N:List Nat):List Int:=1::(I++N.map Int.ofNat)
theorem AC{e:Int}:dot [e] (yx I N)=e:=(Yy _).trans (Int.mul_one e)
theorem ER:∀{A B:List Int} {k:Nat},dot ((k.blt A.length).rec [] (unit (k+1))) (1::(A++B))=jW 0 A k
 |[],_,_=>rfl
 |x::A,B,0=>iR (n:=1) (X:=1::x::(A++B))
 |x::A,B,k+1=>by
  refine Uw ?_ (ER (A:=A) (B:=B) (k:=k));show dot ((k.blt A.length).rec [] (unit (k+2))) _=_
  cases k.blt A.length
  . rfl
  . exact(iR (n:=k+2) (X:=1::x::(A++B))).trans (iR (n:=k+1) (X:=1::(A++B))).symm
noncomputable def Ax.v(I:List Int)(N:List Nat)(b:Bool)(x:Ax):Int:=b.rec (x.z I N) (x.t N:Nat)
theorem Ax.rg:∀{x:Ax} {b:Bool},dot (x.l I.length b) (yx I N)=x.v I N b
 | .i k,false=>ER
 | .i k,true=>by
  show dot (unit (I.length+1+k)) _=_;rw[iR,XQ];exact EC.trans oM
 | .c k,b=>AC.trans (by cases b<;>rfl)
 | .a x y,b=>by
  show dot (lH _ _) _=_;rw[jq,rg,rg];cases b<;>rfl
 | .s x y,false=>by
  show dot (lH _ (mul _ _)) _=_;rw[jq,jp,rg,rg,Un];rfl
 | .s x y,true=>rfl
 | .m k x,b=>by
  show dot (mul _ _) _=_;rw[jp,rg];cases b<;>rfl
 | .r x k,b=>by
  show dot (mul _ _) _=_;rw[jp,rg,Int.mul_comm];cases b<;>rfl
 | .n x,false=>rg (b:=true)
 | .n x,true=>rfl
 | .g _,false=>AC
 | .g _,true=>rfl
theorem lP{b:Bool}{e:Int}{x y:Ax}(h:0<=y.v I N b - x.v I N b+e):0<=dot (FC I.length b e x y) (yx I N):=by
 show 0<=dot (lH (lH _ (mul _ _)) _) _;rw[jq,jq,jp,Ax.rg,Ax.rg,AC,Un];exact h
theorem Mi{a b:Int}(h:a<=b):0<=b - a+0:=by rw[Yy];exact Int.sub_nonneg_of_le h
theorem Qu{a b:Int}(h:a<b):0<=b - a+ -1:=Int.le_sub_one_of_lt (Int.sub_pos_of_lt h)
noncomputable abbrev Pos(I:List Int)(N:List Nat)(ls:List (List Int)):Prop:=∀l∈ls,0<=dot l (yx I N)
theorem jg{v:List Int}(k:0<=dot v (yx I N)):Pos I N [v]:=λ_ m=>Zc.mp m▸k
theorem xu{v w:List (List Int)}(k:Pos I N v)(k2:Pos I N w):Pos I N (v++w):=λl m=>(Zg.mp m).elim (k l) (k2 l)
theorem Ow{b:Bool}{x y:Ax}(h:cmp I N b (· <= ·) (· <= ·) x y):x.v I N b<=y.v I N b:=by
 cases b
 . exact h
 . exact WJ.mpr h
theorem v_lt{b:Bool}{x y:Ax}(h:cmp I N b (· < ·) (· < ·) x y):x.v I N b<y.v I N b:=by
 cases b
 . exact h
 . exact YT.mpr h
theorem v_eq{b:Bool}{x y:Ax}(h:cmp I N b (· = ·) (· = ·) x y):x.v I N b=y.v I N b:=by
 cases b
 . exact h
 . exact congrArg Int.ofNat h
theorem Kh{b:Bool}{x y:Ax}(h:cmp I N b (¬ · <= ·) (¬ · <= ·) x y):y.v I N b<x.v I N b:=by
 cases b
 . exact Ux.mp h
 . exact YT.mpr (Nat.not_le.mp h)
theorem Kg{b:Bool}{x y:Ax}(h:cmp I N b (¬ · < ·) (¬ · < ·) x y):y.v I N b<=x.v I N b:=by
 cases b
 . exact Uy.mp h
 . exact WJ.mpr (Uz.mp h)
theorem Hx.ok:∀{h:Hx},h.d I N->Pos I N (h.cs I.length)
 | .le b x y,d=>jg (lP (Mi (Ow d)))
 | .lt b x y,d=>jg (lP (Qu (v_lt d)))
 | .eq b x y,d=>xu (jg (lP (Mi (Int.le_of_eq (v_eq d))))) (jg (lP (Mi (Int.le_of_eq (v_eq d).symm))))
 | .Fd b x y,d=>jg (lP (Qu (Kh d)))
 | .Fc b x y,d=>jg (lP (Mi (Kg d)))
 | .an g k,d=>xu (ok d.1) (ok d.2)
theorem rS:∀{ms:List Nat} {ls:List (List Int)},Pos I N ls->0<=dot (comb ms ls) (yx I N)
 |[],_,_=>Wt 0
 |m::ms,ls,h=>by
  show 0<=dot (lH (mul _ _) _) _;rw[jq,jp]
  cases ls with
  |nil=>exact Int.add_nonneg (Int.mul_nonneg (Yb m) (Wt 0)) (rS (ls:=[]) h)
  |cons l ls=>exact Int.add_nonneg (Int.mul_nonneg (Yb m) (h l (.head _))) (rS λl m=>h l (.tail _ m))
theorem JO:∀{l:List Int} {N:List Nat},C_ 0 l=true->dot l (N.map Int.ofNat)<=0
 |[],_,_=>Wt 0
 |a::l,N,h=>by
  have h:=Zj.mp h;have n0:0<=jW 0 (N.map Int.ofNat) 0:=oM▸Yb _;show _+dot l (N.map Int.ofNat).tail<=0;rw[<-List.map_tail];exact Int.add_nonpos (Int.mul_nonpos_of_nonpos_of_nonneg (of_decide_eq_true h.1) n0) (JO h.2)
theorem Be{l X:List Int}:dot l X=jW 0 l 0*jW 0 X 0+dot l.tail X.tail:=by
 cases l with
 |nil=>exact((Yy _).trans (W8 _)).symm
 |cons=>rfl
theorem JP:∀{I l:List Int},C_ I.length l=true->dot l (I++N.map Int.ofNat)<=0
 |[],_,h=>JO h
 |x::I,l,h=>by
  have h:=Zj.mp h;rw[Be,beq_iff_eq.mp h.1,W8,V1];exact JP h.2
theorem Bf{ms:List Nat}{hs:List Hx}(h:bL ms I.length hs=true)(d:∀h∈hs,h.d I N):False:=by
 have p:=rS (ms:=ms) (I:=I) (N:=N) (ls:=hs.flatMap (Hx.cs I.length)) λl m=>by
  obtain ⟨g,hg,hl⟩:=Zm.mp m;exact Hx.ok (d g hg) l hl
 have h:=Zj.mp h;rw[Be] at p;refine Ux.mpr ?_ p;exact Int.add_neg_of_neg_of_nonpos ((Int.mul_one _).symm▸of_decide_eq_true h.1) (JP h.2)
end
noncomputable def dA{α:Type}(e:α):Nat->Nat->(Ax->Nat->α)->α
 |0,_,_=>e
 |f+1,c,k=>jW e [k (.c (c / 16 % 16)) (c / 256),k (.i (c / 16 % 16)) (c / 256),
  dA e f (c / 16) λx c=>dA e f c λy c=>k (.a x y) c,dA e f (c / 16) λx c=>dA e f c λy c=>k (.s x y) c,
  dA e f (c / 4096) λx d=>k (.m (c / 16 % 256) x) d,dA e f (c / 16) λx c=>k (.n x) c,
  k (.c (c / 16 % 65536)) (c / 1048576),dA e f (c / 4096) λx d=>k (.r x (c / 16 % 256)) d,k (.c (c / 16 % 4294967296)) (c / 68719476736),k (.g (c / 16 % 16)) (c / 256)] (c % 16)
noncomputable def dH{α:Type}(e:α):Nat->Nat->(Hx->Nat->α)->α
 |0,_,_=>e
 |f+1,c,k=>jW (dH e f (c / 16) λx c=>dH e f c λy c=>k (.an x y) c) ([Hx.le false,Hx.lt false,Hx.eq false,Hx.le true,Hx.lt true,Hx.eq true,Hx.Fd false,Hx.Fc false,Hx.Fd true,Hx.Fc true].map λt=>dA e 30 (c / 16) λx c=>dA e 30 c λy c=>k (t x y) c) (c % 16)
noncomputable def dM:Nat->Nat->List Nat
 |0,_=>[]
 |f+1,c=>c % 16::dM f (c / 16)
noncomputable def Rr{α:Type}(e:α):Nat->Nat->(List Hx->Nat->α)->α
 |0,c,k=>k [] c
 |n+1,c,k=>dH e 30 c λh c=>Rr e n c λhs c=>k (h::hs) c
noncomputable def imp(I:List Int)(N:List Nat)(g:Prop):List Hx->Prop
 |[]=>g
 |h::hs=>h.d I N->imp I N g hs
noncomputable def Hx.ng:Hx->Hx
 | .le b x y=>.Fd b x y
 | .lt b x y=>.Fc b x y
 |_=>.eq true (.c 0) (.c 0)
noncomputable abbrev Pk:=List Hx×Option Hx×List Nat
noncomputable def dec(c:Nat):Pk:=Rr ([],none,[]) (c % 16) (c / 16) λhs c=>jW (hs,none,dM 24 (c / 16)) [dH ([],none,[]) 30 c λg c=>(hs,some g,dM 24 c)] (c % 16 - 10)
noncomputable def all{α:Type}:Nat->(List α->Prop)->Prop
 |0,P=>P []
 |n+1,P=>∀x,all n λl=>P (x::l)
noncomputable def RQ(n m:Nat)(p:Pk):Prop:=all n λI=>all m λN=>imp I N (p.2.1.rec False (·.d I N)) p.1
noncomputable def ok(n:Nat)(p:Pk):Bool:=bL p.2.2 n (p.2.1.rec p.1 λg=>g.ng::p.1)
theorem oE{α:Type}:∀{n:Nat} {P:List α->Prop},(∀l,l.length=n->P l)->all n P
 |0,_,h=>h [] rfl
 |n+1,_,h=>λx=>oE λl e=>h (x::l) (congrArg Nat.succ e)
section
variable {I:List Int}{N:List Nat}
theorem ET{α:Type}{P:α->Prop}{x:α}{l:List α}(a:P x)(b:∀y∈l,P y):∀y∈x::l,P y:=λy m=>(Zp.mp m).elim (λz=>z▸a) (b y)
theorem v6{g:Prop}:∀{hs:List Hx},((∀h∈hs,h.d I N)->g)->imp I N g hs
 |[],k=>k λ_ m=>nomatch m
 |_::_,k=>λd=>v6 λe=>k (ET d e)
theorem KX:∀{g:Hx},¬ g.d I N->g.ng.d I N
 | .le b x y,h=>by cases b<;>exact h
 | .lt b x y,h=>by cases b<;>exact h
 | .eq ..,_=>rfl
 | .Fd ..,_=>rfl
 | .Fc ..,_=>rfl
 | .an ..,_=>rfl
end
theorem TG(n m:Nat):∀p:Pk,ok n p=true->RQ n m p
 |(_,none,_),h=>oE λ_ e=>oE λ_ _=>v6 λd=>Bf (e▸h) d
 |(_,some _,_),h=>oE λ_ e=>oE λ_ _=>v6 λd=>XC λk=>Bf (e▸h) (ET (KX k) d)
end LA
theorem aj(c:Nat)(h:LA.ok (c % 16) (LA.dec (c / 256))=true:=by kernel_rfl):LA.RQ (c % 16) (c / 16 % 16) (LA.dec (c / 256)):=LA.TG _ _ _ h
end
section
noncomputable section
open PySem
inductive V where
 |none
 |bool (b:Bool)
 |int (i:Int)
 |str (s:Str)
 |ref (a:Nat)
 |other
noncomputable abbrev sv(s:String):V:=.str (Str.ofString s)
inductive O where
 |list (xs:List V)
 |tup (xs:List V)
 |dict (es:List (Int×V))
 |inst (C:String) (fs:List (String×V))
 |er (es:List (Int×V))
 |eA (xs:List V)
 |cZ (C:String) (fs:List (String×V))
noncomputable abbrev Hp:=Nat->Option O
noncomputable abbrev Lo:=String->Option V
noncomputable def bc{α β:Type}[DecidableEq α](f:α->Option β)(a:α)(b:β):α->Option β:=λx=>if x=a then some b else f x
inductive FK where|add|sub|mul|mod|fdiv
inductive FJ where|eq|ne|lt|gt|le|ge|isin|dw|isNone|isNotNone
inductive Pm where|append|extend|pop|yo|update|get
inductive Mk where|list|tup|dict
inductive SK where|seq|range|enum|zip
set_option genCtorIdx false in
inductive U where
 |attr (n:String)|len|abs|sorted|cN|copyDict|dictOf|isBool|cK (C:String)|x_ (k:Nat)|rev|not|nilq (ne:Bool)
set_option genCtorIdx false in
inductive B where
 |idx|bin (o:FK)|cmp (o:FJ)|sortedBy
set_option genCtorIdx false in
inductive C where
 |done
 |az (v:V) (k:C)
 |ae (x:String) (k:C)
 |glob (x:String) (k:C)
 |mk (o:Mk) (n:Nat) (k:C)
 |u (o:U) (k:C)
 |b (o:B) (k:C)
 |call (f:String) (n:Nat) (k:C)
 |new (c f:String) (n:Nat) (k:C)
 |bL (c:String) (k:C)
 |prim (m:Pm) (n:Nat) (k:C)
 |ite (a b k:C)
 |comp (t:List String) (s:SK) (c e k:C)
 |aX (x:String) (k:C)
 |ir (xs:List String) (k:C)
 |setA (n:String) (k:C)
 |dj (k:C)
 |zJ (xs:List String) (k:C)
 |pop (k:C)
 |loop (c b k:C)
 |for (t:List String) (s:SK) (b k:C)
 |ret
 |brk
 |raise
inductive Fl where
 |next
 |brk
 |ret (v:V)
noncomputable abbrev Po:=Fl->Lo->List V->Hp->Prop
noncomputable def big:Nat:=1000000
noncomputable def Kc(h:Hp)(v:V)(n:String)(w:V):Prop:=∃a c fs,v= .ref a/\(h a=some (.inst c fs)\/h a=some (.cZ c fs))/\fs.lookup n=some w
noncomputable def dm(xs:List V)(i:Int):Option V:=if 0<=i then xs[i.toNat]? else if 0<=i+xs.length then xs[(i+xs.length).toNat]? else Option.none
noncomputable def GM(h:Hp)(v k w:V):Prop:=∃a i,v= .ref a/\k= .int i/\
 ((∃xs,(h a=some (.list xs)\/h a=some (.tup xs))/\dm xs i=some w)\/∃es,(h a=some (.dict es)\/h a=some (.er es))/\es.lookup i=some w)
noncomputable def nz(fs:List (String×V))(n:String)(v:V):List (String×V):=match fs with
 |[]=>[(n,v)]
 |(m,w)::r=>if m=n then(n,v)::r else(m,w)::nz r n v
noncomputable def putD(es:List (Int×V))(k:Int)(v:V):List (Int×V):=match es with
 |[]=>[(k,v)]
 |(m,w)::r=>if m=k then(k,v)::r else(m,w)::putD r k v
noncomputable def Gv:List (String×List String):=[
 ("Special",["title"]),("Pair",["car","cdr","mark"]),
 ("KOp",["result","word","number","args","datum","results","labels"]),
 ("KLast",["word","fun","args","to","other","var"]),
 ("KBlock",["label","sort","params","rest","var","home","parent","title","ops","last"]),
 ("KProgram",["table","entry"]),
 ("COp",["slot","op","data","args"]),("CLast",["sort","head","args","k","blocks"]),("CBlock",["number","params","ops","last"]),
 ("CUnit",["number","sort","params","rest","takes_any","captured","slots","blocks","name"]),("CProgram",["units","start"]),
 ("Layout",["program","roots","atoms","numbers","free"]),("UnitMaker",["layout","root","unit","slots","places","captured","spots","extra"])]
noncomputable def iy(c n:String):Bool:=(Gv.lookup c).any (·.contains n)
noncomputable def cH:V->Bool
 | .other=>true
 |_=>false
noncomputable def Kb(h:Hp)(v:V)(n:String)(w:V)(a:Nat)(o:O):Prop:=∃c fs,v= .ref a/\h a=some (.inst c fs)/\fs.length<100/\iy c n=true/\cH w=false/\o= .inst c (nz fs n w)
noncomputable def Ka(h:Hp)(v k w:V)(a:Nat)(o:O):Prop:=∃i,v= .ref a/\k= .int i/\
 ((∃xs,h a=some (.list xs)/\0<=i/\i.toNat<xs.length/\o= .list (xs.set i.toNat w))\/∃es,h a=some (.dict es)/\es.length<big/\o= .dict (putD es i w))
noncomputable def tJ(h:Hp):Nat->V->V->Prop
 |0,x,y=>∃i,x= .int i/\y= .int i
 |n+1,x,y=>(∃i,x= .int i/\y= .int i)\/∃a b xs ys,x= .ref a/\y= .ref b/\h a=some (.list xs)/\h b=some (.list ys)/\xs.length=ys.length/\∀(i:Nat) (x y:V),xs[i]?=some x->ys[i]?=some y->tJ h n x y
noncomputable def rV(h:Hp)(a b:Nat):Prop:=tJ h 6 (.ref a) (.ref b)\/
 ∃es ds,h a=some (.dict es)/\h b=some (.dict ds)/\es.map (·.1)=ds.map (·.1)/\∀(i:Nat) (x y:Int×V),es[i]?=some x->ds[i]?=some y->tJ h 6 x.2 y.2
noncomputable def Iv:V->Bool
 | .none=>true
 |_=>false
noncomputable def GL(h:Hp)(x y:V)(r:Bool):Prop:=
 (∃i a,x= .int i/\y= .ref a/\((∃es,(h a=some (.dict es)\/h a=some (.er es))/\r=es.any (·.1==i))\/∃l:List Int,h a=some (.list (l.map .int))/\r=l.contains i))\/
 ∃s a,∃l:List Str,x= .str s/\y= .ref a/\h a=some (.tup (l.map .str))/\r=l.contains s
noncomputable def Ol(h:Hp)(x y:V)(r:Bool):Prop:=(∃a b:Int,x= .int a/\y= .int b/\r=(a==b))\/(∃a b:Str,x= .str a/\y= .str b/\r=decide (a=b))\/∃a b,x= .ref a/\y= .ref b/\rV h a b/\r=true
noncomputable def Gh:FJ->Int->Int->Bool
 | .lt,a,b=>decide (a<b)
 | .gt,a,b=>decide (b<a)
 | .le,a,b=>decide (a<=b)
 |_,a,b=>decide (b<=a)
noncomputable def Ii(op:FK)(a b r:Int):Prop:=match op with
 | .add=>r=a+b
 | .sub=>r=a - b
 | .mul=>0<=b/\b<1073741824/\r=a*b
 | .mod=>0<b/\r=a % b
 | .fdiv=>0<b/\b<1073741824/\r=a / b
noncomputable def bD(l:List Int):List Int:=l.mergeSort (λa b=>decide (a<=b))
set_option genCtorIdx false in
inductive Src where
 |list (a:Nat) (xs:List V)
 |tup (a:Nat) (xs:List V)
 |keys (a:Nat) (es:List (Int×V))
 |range (n:Nat)
 |enum (a:Nat) (xs:List V)
 |zip (a b:Nat) (xs ys:List V)
noncomputable def Src.items:Src->List (List V)
 | .list _ xs=>xs.map ([·])
 | .tup _ xs=>xs.map ([·])
 | .keys _ es=>es.map λe=>[.int e.1]
 | .range n=>(List.range n).map λ(i:Nat)=>[.int i]
 | .enum _ xs=>xs.zipIdx.map λp=>[.int p.2,p.1]
 | .zip _ _ xs ys=>(xs.zip ys).map λp=>[p.1,p.2]
noncomputable def Src.stays(h:Hp):Src->Prop
 | .list a xs=>h a=some (.list xs)
 | .tup a xs=>h a=some (.tup xs)
 | .keys a es=>h a=some (.er es)
 | .range _=>True
 | .enum a xs=>h a=some (.list xs)
 | .zip a b xs ys=>h a=some (.list xs)/\h b=some (.list ys)
noncomputable def Src.fz:Src->Hp->Hp
 | .keys a es,h=>bc h a (.er es)
 |_,h=>h
noncomputable def Src.th:Src->Hp->Hp
 | .keys a es,h=>bc h a (.dict es)
 |_,h=>h
noncomputable def Src.plain:Src->Bool
 | .keys _ _=>false
 |_=>true
noncomputable def binds(ρ:Lo):List String->List V->Lo
 |x::xs,v::vs=>binds (bc ρ x v) xs vs
 |_,_=>ρ
noncomputable def di(h:Hp)(ρ:Lo)(t:List String)(item:List V)(ρ':Lo):Prop:=(t.length=item.length/\ρ'=binds ρ t item)\/
 ∃a vs,item=[.ref a]/\2<=t.length/\t.length=vs.length/\(h a=some (.tup vs)\/h a=some (.list vs))/\ρ'=binds ρ t vs
noncomputable abbrev Calls:=String->List V->Hp->(V->Hp->Prop)->Prop
noncomputable def tE:Nat->List V->List V->Option (List V×List V)
 |0,acc,st=>some (acc,st)
 |n+1,acc,v::st=>tE n (v::acc) st
 |_+1,_,[]=>none
inductive Rs where
 |val (w:V)
 |new (o:O)
noncomputable def Rs.post(r:Rs)(h:Hp)(Q:V->Hp->Prop):Prop:=match r with
 | .val w=>Q w h
 | .new o=>∀c,h c=none->Q (.ref c) (bc h c o)
noncomputable def InstAt(h:Hp)(v:V)(c:String):Prop:=∃a fs,v= .ref a/\(h a=some (.inst c fs)\/h a=some (.cZ c fs))
noncomputable def UR(o:U)(v:V)(h:Hp)(r:Rs):Prop:=match o with
 | .attr n=>∃w,Kc h v n w/\r= .val w
 | .len=>∃a n,v= .ref a/\((∃xs,(h a=some (.list xs)\/h a=some (.eA xs))/\n=xs.length)\/∃es,(h a=some (.dict es)\/h a=some (.er es))/\n=es.length)/\r= .val (.int (n:Nat))
 | .abs=>∃i,v= .int i/\r= .val (.int i.natAbs)
 | .sorted=>∃a l,v= .ref a/\(h a=some (.list (l.map .int))\/∃es,h a=some (.dict es)/\l=es.map (·.1))/\l.length<64/\r= .new (.list ((bD l).map .int))
 | .cN=>∃a xs,v= .ref a/\h a=some (.list xs)/\r= .new (.list xs)
 | .copyDict=>∃a es,v= .ref a/\h a=some (.dict es)/\r= .new (.dict es)
 | .dictOf=>∃(a:Nat) (xs:List V) (ps:List (Int×V)),v= .ref a/\h a=some (.list xs)/\xs.length=ps.length/\(ps.map (·.1)).Nodup/\
  (∀(i:Nat) (p:Int×V) (x:V),ps[i]?=some p->xs[i]?=some x->∃t,x= .ref t/\h t=some (.tup [.int p.1,p.2]))/\r= .new (.dict ps)
 | .isBool=>∃b,r= .val (.bool b)/\((∃i,v= .int i/\b=false)\/(∃b',v= .bool b'/\b=true)\/∃c,InstAt h v c/\b=false)
 | .cK d=>∃b,r= .val (.bool b)/\((∃i,v= .int i/\b=false)\/(∃b',v= .bool b'/\b=false)\/∃c,InstAt h v c/\b=(c==d))
 | .x_ k=>∃a xs,v= .ref a/\(h a=some (.list xs)\/h a=some (.eA xs))/\r= .new (.list (xs.take k))
 | .rev=>∃a xs,v= .ref a/\h a=some (.list xs)/\r= .new (.list xs.reverse)
 | .not=>∃b,v= .bool b/\r= .val (.bool (!b))
 | .nilq ne=>∃a xs,v= .ref a/\h a=some (.list xs)/\r= .val (.bool (xs.isEmpty != ne))
noncomputable def BR(o:B)(x y:V)(h:Hp)(r:Rs):Prop:=match o with
 | .idx=>∃w,GM h x y w/\r= .val w
 | .bin op=>(∃a b c,x= .int a/\y= .int b/\Ii op a b c/\r= .val (.int c))\/
  ∃a b xs ys,op= .add/\x= .ref a/\y= .ref b/\h a=some (.list xs)/\h b=some (.list ys)/\xs.length+ys.length<=big/\r= .new (.list (xs++ys))
 | .cmp op=>∃b,r= .val (.bool b)/\(match op with
  | .eq=>Ol h x y b
  | .ne=>Ol h x y (!b)
  | .isin=>GL h x y b
  | .dw=>GL h x y (!b)
  | .isNone=>y= .none/\b=Iv x
  | .isNotNone=>y= .none/\b= !Iv x
  |op=>∃i j,x= .int i/\y= .int j/\b=Gh op i j)
 | .sortedBy=>∃a es ns,x= .ref a/\y=x/\h a=some (.dict es)/\es.map (·.2)=ns.map V.int/\(List.Pairwise (· < ·) ns)/\ns.length<64/\r= .new (.list (es.map λp=>.int p.1))
noncomputable def RP(m:Pm)(a:Nat)(vs:List V)(h:Hp)(w:V)(o:Option O):Prop:=match m with
 | .append=>∃xs v,h a=some (.list xs)/\vs=[v]/\xs.length<big/\w= .none/\o=some (.list (xs++[v]))
 | .extend=>∃xs b ys,h a=some (.list xs)/\vs=[.ref b]/\a≠b/\h b=some (.list ys)/\xs.length+ys.length<=big/\w= .none/\o=some (.list (xs++ys))
 | .pop=>∃xs,h a=some (.list (xs++[w]))/\vs=[]/\o=some (.list xs)
 | .yo=>∃xs,h a=some (.list (w::xs))/\vs=[.int 0]/\o=some (.list xs)
 | .update=>∃es b ds,h a=some (.dict es)/\vs=[.ref b]/\a≠b/\h b=some (.dict ds)/\es.length+ds.length<=big/\w= .none/\o=some (.dict (ds.foldl (λes p=>putD es p.1 p.2) es))
 | .get=>∃es k d,h a=some (.dict es)/\vs=[.int k,d]/\w=(es.lookup k).getD d/\o=none
noncomputable def JF(h:Hp)(a:Nat):Option O->Hp
 |some o=>bc h a o
 |none=>h
noncomputable def Kind(h:Hp)(v:V)(c:String):Prop:=∃a,v= .ref a/\((∃fs,h a=some (.inst c fs))\/(c="list"/\∃xs,h a=some (.list xs))\/(c="dict"/\∃es,h a=some (.dict es)))
noncomputable def SrcR(s:SK)(st:List V)(h:Hp)(aJ:Src)(bG:List V):Prop:=match s with
 | .seq=>∃a,st= .ref a::bG/\((∃xs,h a=some (.list xs)/\aJ= .list a xs)\/(∃xs,h a=some (.tup xs)/\aJ= .tup a xs)\/∃es,h a=some (.dict es)/\aJ= .keys a es)
 | .range=>∃n:Nat,st= .int n::bG/\n<=big/\aJ= .range n
 | .enum=>∃a xs,st= .ref a::bG/\h a=some (.list xs)/\aJ= .enum a xs
 | .zip=>∃a b xs ys,st= .ref b:: .ref a::bG/\h a=some (.list xs)/\h b=some (.list ys)/\xs.length=ys.length/\aJ= .zip a b xs ys
noncomputable def sq(W:Lo->List V->Hp->Prop)(Q:Po):Po:=λfl ρ st h=>match fl with
 | .next=>W ρ st h
 | .brk=>Q .brk ρ st h
 | .ret v=>Q (.ret v) ρ st h
noncomputable def It(I B:Lo->Hp->Prop)(R:V->Lo->Hp->Prop):Po:=λfl ρ _ h=>match fl with
 | .next=>I ρ h
 | .brk=>B ρ h
 | .ret v=>R v ρ h
noncomputable def gF(R:V->Hp->Prop):Po:=λfl _ st h=>fl= .next/\∃v,st=[v]/\R v h
noncomputable def tv(R:V->Hp->Prop):Po:=λfl _ _ h=>match fl with
 | .next=>R .none h
 | .brk=>False
 | .ret v=>R v h
noncomputable def top(W:V->List V->Prop):List V->Prop
 |v::st=>W v st
 |[]=>False
noncomputable def top2(W:V->V->List V->Prop):List V->Prop
 |y::x::st=>W x y st
 |_=>False
noncomputable def fF(n:Nat)(st:List V)(W:List V->List V->Prop):Prop:=match tE n [] st with
 |some (vs,bG)=>W vs bG
 |none=>False
noncomputable def TC:Mk->List V->O
 | .list,vs=>.list vs
 | .tup,vs=>.tup vs
 | .dict,_=>.dict []
section
variable (Φ:Calls)(γ:String->Option V)
noncomputable def wp:C->Lo->List V->Hp->Po->Prop
 | .done,ρ,st,h,Q=>Q .next ρ st h
 | .az v k,ρ,st,h,Q=>wp k ρ (v::st) h Q
 | .ae x k,ρ,st,h,Q=>∃v,ρ x=some v/\wp k ρ (v::st) h Q
 | .glob x k,ρ,st,h,Q=>∃v,γ x=some v/\wp k ρ (v::st) h Q
 | .mk o n k,ρ,st,h,Q=>fF n st λvs bG=>∀a,h a=none->wp k ρ (.ref a::bG) (bc h a (TC o vs)) Q
 | .u o k,ρ,st,h,Q=>top (λv bG=>∃r,UR o v h r/\r.post h λw h'=>wp k ρ (w::bG) h' Q) st
 | .b o k,ρ,st,h,Q=>top2 (λx y bG=>∃r,BR o x y h r/\r.post h λw h'=>wp k ρ (w::bG) h' Q) st
 | .call f n k,ρ,st,h,Q=>fF n st λvs bG=>Φ f vs h λv h'=>wp k ρ (v::bG) h' Q
 | .new c f n k,ρ,st,h,Q=>fF n st λvs bG=>∀a,h a=none->Φ f (.ref a::vs) (bc h a (.inst c [])) λr h'=>r= .none/\wp k ρ (.ref a::bG) h' Q
 | .bL c k,ρ,st,h,Q=>top (λv _=>Kind h v c) st/\wp k ρ st h Q
 | .prim m n k,ρ,st,h,Q=>fF n st λvs bG=>top (λv bG=>∃a w o,v= .ref a/\RP m a vs h w o/\wp k ρ (w::bG) (JF h a o) Q) bG
 | .ite a b k,ρ,st,h,Q=>top (λv bG=>∃t,v= .bool t/\(t=true->wp a ρ bG h (sq (λρ st h=>wp k ρ st h Q) Q))/\(t=false->wp b ρ bG h (sq (λρ st h=>wp k ρ st h Q) Q))) st
 | .comp t s c e k,ρ,st,h,Q=>∃aJ bG,SrcR s st h aJ bG/\aJ.plain=true/\∃bw:Nat->List V->Hp->Prop,bw 0 [] h/\
  (∀i vs h' item,bw i vs h'->aJ.items[i]?=some item->aJ.stays h'/\∃ρ',di h' ρ t item ρ'/\
   wp c ρ' [] h' (gF λv cR=>∃b,v= .bool b/\(b=true->wp e ρ' [] cR (gF λv h3=>bw (i+1) (vs++[v]) h3))/\(b=false->bw (i+1) vs cR)))/\
  ∀vs h',bw aJ.items.length vs h'->aJ.stays h'/\∀a,h' a=none->wp k ρ (.ref a::bG) (bc h' a (.list vs)) Q
 | .aX x k,ρ,st,h,Q=>top (λv bG=>wp k (bc ρ x v) bG h Q) st
 | .ir xs k,ρ,st,h,Q=>fF xs.length st λvs bG=>wp k (binds ρ xs vs) bG h Q
 | .setA n k,ρ,st,h,Q=>top2 (λv o bG=>∃a ob,Kb h o n v a ob/\wp k ρ bG (bc h a ob) Q) st
 | .dj k,ρ,st,h,Q=>top2 (λo i bG=>top (λv bG=>∃a ob,Ka h o i v a ob/\wp k ρ bG (bc h a ob) Q) bG) st
 | .zJ xs k,ρ,st,h,Q=>top (λv bG=>∃ρ',2<=xs.length/\di h ρ xs [v] ρ'/\wp k ρ' bG h Q) st
 | .pop k,ρ,st,h,Q=>top (λv bG=>(∀a,v≠ .ref a)/\wp k ρ bG h Q) st
 | .loop c b k,ρ,st,h,Q=>∃bw:Nat->Lo->Hp->Prop,(∃n,bw n ρ h)/\∀n ρ' h',bw n ρ' h'->wp c ρ' [] h' (gF λv cR=>∃t,v= .bool t/\
  (t=true->wp b ρ' [] cR (It (λρ3 h3=>∃m,m<n/\bw m ρ3 h3) (λρ3 h3=>wp k ρ3 st h3 Q) (λv ρ3 h3=>Q (.ret v) ρ3 st h3)))/\(t=false->wp k ρ' st cR Q))
 | .for t s b k,ρ,st,h,Q=>∃aJ bG,SrcR s st h aJ bG/\∃bw:Nat->Lo->Hp->Prop,bw 0 ρ (aJ.fz h)/\
  (∀i ρ' h' item,bw i ρ' h'->aJ.items[i]?=some item->aJ.stays h'/\∃fE,di h' ρ' t item fE/\
   wp b fE [] h' (It (bw (i+1)) (λρ3 h3=>wp k ρ3 bG (aJ.th h3) Q) (λv ρ3 h3=>Q (.ret v) ρ3 bG (aJ.th h3))))/\
  ∀ρ' h',bw aJ.items.length ρ' h'->aJ.stays h'/\wp k ρ' bG (aJ.th h') Q
 | .ret,ρ,st,h,Q=>top (λv _=>Q (.ret v) ρ [] h) st
 | .brk,ρ,st,h,Q=>Q .brk ρ st h
 | .raise,_,_,_,_=>False
end
structure Fn where
 ps:List String
 body:C
noncomputable def iG:List String->List V->Lo
 |x::xs,v::vs=>bc (iG xs vs) x v
 |_,_=>λ_=>none
noncomputable def Jz(Φ:Calls)(γ:String->Option V)(f:Fn)(vs:List V)(h:Hp)(Q:V->Hp->Prop):Prop:=
 f.ps.length=vs.length/\wp Φ γ f.body (iG f.ps vs) [] h (tv Q)
end
end
section
open PySem PySem.W PyProof.Rows PySem.Calls
noncomputable def aq:Value->V
 | .none=>.none
 | .bool b=>.bool b
 | .int i _=>.int i
 | .str x _=>.str x
 | .ref a=>.ref a
 |_=>.other
noncomputable def nU(K:Frag)(a:Nat):Bool:=makesIn K a&&hasDictIn K a&&plainOver K a&&findIn K (.ref a) "__getattribute__"==some (some (.builtin "object.__getattribute__"))&&
 findIn K (.ref a) "__setattr__"==some (some (.builtin "object.__setattr__"))&&findIn K (.ref a) "__getattr__"==some none
noncomputable def ry(K:Frag)(D:Nat):Bool:=plainGet K D "__class__"&&hasDictIn K D&&findIn K (.ref D) "__class__"==some (some (.builtin "object.__class__"))&&mroIn K D (.type "object")==some true
structure Lv where
 lv:List (String×Nat)
 fF:List String
 meths:List (String×String×String)
 qD:List (String×String)
 cls:List String
noncomputable def Js:List (String×Value):=[("len",.builtin "len"),("abs",.builtin "abs"),("sorted",.builtin "sorted"),("isinstance",.builtin "isinstance"),("list",.type "list"),("dict",.type "dict"),("range",.type "range"),
 ("enumerate",.type "enumerate"),("zip",.type "zip"),("bool",.type "bool")]
end
section
set_option maxRecDepth 100000
set_option maxHeartbeats 0
open PySem PySem.W PySem.W.Fast
theorem Hj:(["vars","dir","locals"]:List Str).filter (readsOut PySem.Challenge.rw_rg0282_01.row.prog PySem.Challenge.rw_rg0282_01.row.prog.main.body)=[]:=by
 rewrite [te13343964577679436407]
 kernel_rfl
theorem Bv:(!(importedModules PySem.Challenge.rw_rg0282_01.row.prog.main.body).all cThrough.contains)=false:=by kernel_rfl
theorem He:noRoadLSs {strict:=false,foot:=none,bare:=[]} PySem.Challenge.rw_rg0282_01.row.prog.main.body=true:=by
 rewrite [te8326940854005059898]
 kernel_rfl
theorem Hg:(namesMeet PySem.Challenge.rw_rg0282_01.row.prog PySem.Challenge.rw_rg0282_01.row.prog.main.body λ_ n=>attrL n)=true:=by
 rewrite [te17119622794617984870]
 kernel_rfl
theorem KH:namesResolve PySem.Challenge.rw_rg0282_01.row.prog=true:=by
 rewrite [te8377067652309620493]
 kernel_rfl
theorem Hh:looksOpen PySem.Challenge.rw_rg0282_01.row.prog=true:=by
 unfold looksOpen;refine Z1 (Z1 (Z1 (Z1 (Z1 ?_ ?_) KH) ?_) ?_) Hg
 . as_aux_lemma=>kernel_rfl
 . as_aux_lemma=>kernel_rfl
 . as_aux_lemma=>kernel_rfl
 . rewrite [Bv,Hj]
   exact He
theorem s_row:PySem.Challenge.rw_rg0282_01.row.wellSaid=true:=by
 unfold OpenRow.wellSaid;refine Z1 (Z1 ?_ (by as_aux_lemma=>kernel_rfl)) (by as_aux_lemma=>kernel_rfl);unfold OpenRow.partSaid;refine Z1 (Z1 (Z1 (Z1 (Z1 (Z1 (Z1 (Z1 (Z1 (Z1 (Z1 (Z1 (Z1 Hh ?_) ?_) ?_) ?_) ?_) ?_) ?_) ?_) ?_) ?_) ?_) ?_) ?_<;>as_aux_lemma=>kernel_rfl
theorem law_said:PySem.Challenge.rw_rg0282_01.wellSaid=true:=by
 unfold OpenLaw.wellSaid;refine Z1 (Z1 (Z1 (Z1 (Z1 (Z1 (Z1 (Z1 (Z1 (Z1 (Z1 (Z1 (Z1 (Z1 (Z1 (Z1 (Z1 (Z1 s_row ?_) ?_) ?_) ?_) ?_) ?_) ?_) ?_) ?_) ?_) ?_) ?_) ?_) ?_) ?_) ?_) ?_) ?_
 . as_aux_lemma=>kernel_rfl
 . as_aux_lemma=>rewrite [te10501279942588096481];kernel_rfl
 . as_aux_lemma=>rewrite [te8179353310426384613];kernel_rfl
 . as_aux_lemma=>kernel_rfl
 . as_aux_lemma=>kernel_rfl
 . as_aux_lemma=>rewrite [te8326940854005059898];kernel_rfl
 . as_aux_lemma=>rewrite [te9558739934217749035];kernel_rfl
 . as_aux_lemma=>rewrite [te16286561074155671207];kernel_rfl
 . as_aux_lemma=>kernel_rfl
 . as_aux_lemma=>rewrite [named_eq];kernel_rfl
 . as_aux_lemma=>kernel_rfl
 . as_aux_lemma=>kernel_rfl
 . as_aux_lemma=>rewrite [te17119622794617984870];kernel_rfl
 . as_aux_lemma=>kernel_rfl
 . as_aux_lemma=>kernel_rfl
 . as_aux_lemma=>rewrite [named_eq];kernel_rfl
 . as_aux_lemma=>rewrite [te17119622794617984870];kernel_rfl
 . as_aux_lemma=>rewrite [te17119622794617984870];kernel_rfl
end
section
set_option maxRecDepth 100000
set_option maxHeartbeats 0
open PySem PySem.W PyProof.Rows PySem.Calls
noncomputable def Qt:List (String×Nat):=[("Pair.__init__",1),("kind_word",1),("is_atom",2),("KOp.__init__",1),("KOp.given",1),("fun_op",3),("fix_op",3),("KLast.__init__",1),("KLast.reads",1),("KLast.targets",1),("call_last",3),("jump_last",3),("give_last",3),("branch_last",3),("KBlock.__init__",1),("KBlock.binders",1),("KBlock.given",2),("KBlock.takes_any",1),("KProgram.__init__",1),("KProgram.labels",1),("KProgram.block",1),("KProgram.put",1),("makers",2),("COp.__init__",1),("CLast.__init__",1),("CBlock.__init__",1),("CUnit.__init__",1),("CProgram.__init__",1),("closure_var",1),("Layout.__init__",1),("Layout.is_root",1),("Layout.unit_of",2),("Layout.members",3),("Layout.made_at",2),("find_roots",3),("find_atoms",3),("last_reads",2),("own_reads",4),("own_given",4),("inner_units",4),("find_free",5),("UnitMaker.__init__",1),("UnitMaker.slot",1),("UnitMaker.arg",1),("UnitMaker.args",2),("UnitMaker.captured_args",3),("begin_unit",2),("give_slots",4),("made_op",5),("fix_rows",4),("made_conts",5),("way_block",3),("made_last",4),("made_block",6),("made_unit",7),("laid_out",6),("closed",8),("_law_deck",1),("_law_draw",1),("_law_one",2),("_law_new",1),("_law_block",3),("_law_const",3),("_law_procedures",4),("_law_op",5),("_law_choice",4),("_law_end",5),("_law_program",6),("_law_leads",1),("_law_unit",2),("_law_units",3),("_law_facts",3),("_law_is_needed",1),("_law_simple",2),("_law_wanted",3),("_law_handed",1),("_law_are_units_right",9),("law",10)]
noncomputable def Aq:List (String×String×String):=[("KOp.given","KOp","given"),("KLast.reads","KLast","reads"),("KLast.targets","KLast","targets"),("KBlock.binders","KBlock","binders"),("KBlock.given","KBlock","given"),("KBlock.takes_any","KBlock","takes_any"),("KProgram.labels","KProgram","labels"),("KProgram.block","KProgram","block"),("KProgram.put","KProgram","put"),("Layout.is_root","Layout","is_root"),("Layout.unit_of","Layout","unit_of"),("Layout.members","Layout","members"),("Layout.made_at","Layout","made_at"),("UnitMaker.slot","UnitMaker","slot"),("UnitMaker.arg","UnitMaker","arg"),("UnitMaker.args","UnitMaker","args"),("UnitMaker.captured_args","UnitMaker","captured_args")]
noncomputable def Au:List (String×String):=[("Pair","Pair.__init__"),("KOp","KOp.__init__"),("KLast","KLast.__init__"),("KBlock","KBlock.__init__"),("KProgram","KProgram.__init__"),("COp","COp.__init__"),("CLast","CLast.__init__"),("CBlock","CBlock.__init__"),("CUnit","CUnit.__init__"),("CProgram","CProgram.__init__"),("Layout","Layout.__init__"),("UnitMaker","UnitMaker.__init__")]
noncomputable def kE:List (String×Nat×Nat×Option Nat):=[("Pair.__init__",80,5,some 0),("kind_word",241,13,none),("is_atom",249,16,none),("KOp.__init__",263,24,some 0),("KOp.given",270,24,some 1),("fun_op",291,25,none),("fix_op",298,26,none),("KLast.__init__",312,27,some 0),("KLast.reads",319,27,some 1),("KLast.targets",326,27,some 2),("call_last",347,28,none),("jump_last",354,29,none),("give_last",361,30,none),("branch_last",368,31,none),("KBlock.__init__",382,32,some 0),("KBlock.binders",389,32,some 1),("KBlock.given",396,32,some 2),("KBlock.takes_any",410,32,some 4),("KProgram.__init__",431,33,some 0),("KProgram.labels",438,33,some 1),("KProgram.block",445,33,some 2),("KProgram.put",452,33,some 3),("makers",473,34,none),("COp.__init__",507,42,some 0),("CLast.__init__",528,43,some 0),("CBlock.__init__",549,44,some 0),("CUnit.__init__",570,45,some 0),("CProgram.__init__",591,46,some 0),("closure_var",605,47,none),("Layout.__init__",619,48,some 0),("Layout.is_root",626,48,some 1),("Layout.unit_of",633,48,some 2),("Layout.members",638,48,some 3),("Layout.made_at",645,48,some 4),("find_roots",659,49,none),("find_atoms",666,50,none),("last_reads",673,51,none),("own_reads",680,52,none),("own_given",687,53,none),("inner_units",694,54,none),("find_free",701,55,none),("UnitMaker.__init__",713,56,some 0),("UnitMaker.slot",720,56,some 1),("UnitMaker.arg",727,56,some 2),("UnitMaker.args",732,56,some 3),("UnitMaker.captured_args",739,56,some 4),("begin_unit",753,57,none),("give_slots",760,58,none),("made_op",767,59,none),("fix_rows",774,60,none),("made_conts",779,61,none),("way_block",786,62,none),("made_last",793,63,none),("made_block",798,64,none),("made_unit",805,65,none),("laid_out",810,66,none),("closed",817,67,none),("_law_deck",822,69,none),("_law_draw",829,70,none),("_law_one",836,71,none),("_law_new",843,72,none),("_law_block",848,73,none),("_law_const",855,74,none),("_law_procedures",860,75,none),("_law_op",867,76,none),("_law_choice",872,77,none),("_law_end",879,78,none),("_law_program",886,79,none),("_law_leads",891,80,none),("_law_unit",898,81,none),("_law_units",903,82,none),("_law_facts",908,83,none),("_law_is_needed",913,84,none),("_law_simple",920,85,none),("_law_wanted",927,86,none),("_law_handed",932,87,none),("_law_are_units_right",937,88,none),("law",942,89,none)]
noncomputable def jJ:List (String×Nat):=[("Special",38),("Symbol",62),("Pair",83),("Char",104),("Text",125),("Vector",146),("Box",167),("Promise",188),("PortRef",209),("Procedure",230),("KOp",280),("KLast",336),("KBlock",413),("KProgram",462),("COp",510),("CLast",531),("CBlock",552),("CUnit",573),("CProgram",594),("Layout",648),("UnitMaker",742)]
noncomputable def JC:List String:=(kE.filter (·.2.2.2.isNone)).map (·.1)
noncomputable def J4:List String:=jJ.map (·.1)
noncomputable def yi:Lv:=⟨Qt,JC,Aq,Au,J4⟩
noncomputable def J_:List Nat:=[3,0,1,242,44,43]++(jJ.flatMap (λp=>[p.2,p.2 - 1])++(kE.map (·.2.1)++kE.map (·.2.1 - 1)))
noncomputable def Dc:List (String×V):=[("FUN",sv "fun"),("CONT",sv "cont"),("CALL",sv "call"),("JUMP",sv "jump"),("GIVE",sv "give"),("BRANCH",sv "if"),("PROC",sv "proc"),("SLOT",sv "slot"),("FREE",sv "free"),("CONSTANT",sv "const"),("ATOMS",.ref 242),("EMPTY",.ref 44)]
noncomputable def v8:List String:=["boolean","number","symbol","char","empty","unspecified"]
noncomputable def xT(f:String):Option Nat:=(kE.lookup f).map (·.1)
noncomputable def JZ:Stmt->Option (Arguments×FuncBody×Scope)
 | .FunctionDef _ a b _ _ _ sc _ _ _=>some (a,.stmts b,sc)
 |_=>none
noncomputable def PE:Stmt->List Stmt
 | .ClassDef _ _ _ cb _ _ _ _ _ _ _=>cb
 |_=>[]
noncomputable def zW(i:Nat)(j:Option Nat):Option (Arguments×FuncBody×Scope):=
 (PySem.Challenge.pw_rg0282_01.main.body[i]?).bind λs=>match j with
 |none=>JZ s
 |some j=>((PE s)[j]?).bind JZ
noncomputable def xc:Data->Option (Array DictEntry)
 | .dict es _=>some es
 |_=>none
noncomputable def Gs:Data->Option FuncData
 | .func fd=>some fd
 |_=>none
noncomputable def JE:Data->Option (Array Value)
 | .seq vs _=>some vs
 |_=>none
noncomputable def isPlain:Data->Bool
 | .plain=>true
 |_=>false
noncomputable def rE(K:Frag)(a:Nat):Option (Arguments×FuncBody×Scope):=(K.lookup a).bind λo=>(Gs o.data).map λfd=>(fd.params,fd.body,fd.scope)
noncomputable def xS(K:Frag)(a:Nat)(x:Str):Option Value:=(K.lookup a).bind λo=>(xc o.data).bind λes=>nsFind es x
noncomputable def AW(t:Str):V->Bool
 | .str s=>s==t
 |_=>false
noncomputable def AX(b:Nat):V->Bool
 | .ref a=>a==b
 |_=>false
noncomputable def mF(v:Value):V->Bool
 | .str t=>AW t (aq v)
 | .ref b=>AX b (aq v)
 |_=>false
noncomputable def w_(K:Frag)(a:Nat):Bool:=keepIn K (.ref a)&&(K.lookup a).any λo=>o.cls== .type "function"&&(Gs o.data).any λfd=>
 fd.closure.isEmpty&&fd.globals==mainGlobals&&fd.builtins==builtinsNs&&fd.defaults== .none&&codeIn K fd.code fd.qualname
noncomputable def lQ(K:Frag)(C:String)(a:Nat):Bool:=nU K a&&ry K a&&((Gv.lookup C).getD []).all (λn=>findIn K (.ref a) (Str.ofString n)==some none)&&
 kitOne K (.type "int") (.ref a)==some false&&kitOne K (.type "bool") (.ref a)==some false&&kitOne K (.ref a) (.type "bool")==some false&&
 jJ.all (λp=>kitOne K (.ref a) (.ref p.2)==some (C==p.1))&&(xS K mainGlobals (Str.ofString C)).any (mF · (.ref a))
noncomputable def xE(K:Frag)(C f:String):Bool:=(jJ.lookup C).any λc=>(xT f).any λa=>keepIn K (.ref c)&&findIn K (.ref c) "__init__"==some (some (.ref a))
noncomputable def xB(K:Frag)(f C m:String):Bool:=(jJ.lookup C).any λc=>(xT f).any λa=>findIn K (.ref c) (Str.ofString m)==some (some (.ref a))
noncomputable def Am:List String->List Value->Bool
 |[],vs=>vs.isEmpty
 |s::ss,vs=>vs.head?.any (mF · (sv s))&&Am ss vs.tail
noncomputable def uH(K:Frag):Bool:=(K.lookup 242).any λo=>o.cls== .type "tuple"&&(JE o.data).any λvs=>Am v8 vs.toList
noncomputable def uD(K:Frag):Bool:=((K.lookup 44).any λo=>o.cls== .ref 38&&o.dict==some 43&&isPlain o.data&&o.slots.isEmpty)&&
 (K.lookup 43).any λo=>o.cls== .type "dict"&&o.dict.isNone&&o.slots.isEmpty&&(xc o.data).any λes=>
  es.toList.head?.any (λe=>mF e.key (sv "title")&&mF e.val (sv "empty"))&&es.toList.tail.isEmpty
noncomputable def nT(K:Frag):Bool:=JC.all (λf=>(xT f).any λa=>(xS K mainGlobals (Str.ofString f)).any λv=>mF v (.ref a))&&
 Dc.all (λp=>(xS K mainGlobals (Str.ofString p.1)).any (mF · p.2))&&Js.all (λp=>(xS K mainGlobals (Str.ofString p.1)).isNone&&xS K builtinsNs (Str.ofString p.1)==some p.2)
noncomputable def rD(K:Frag):Bool:=(K.lookup sysModules).isSome&&uH K&&uD K&&nT K&&kE.all (λr=>w_ K r.2.1)&&jJ.all (λp=>lQ K p.1 p.2)&&Au.all (λp=>xE K p.1 p.2)&&
 Aq.all (λp=>xB K p.1 p.2.1 p.2.2)&&specialIn K (.builtin "object.__class__") "__get__"==some (some (.builtin "getset_descriptor.__get__"))&&takesIn K (.builtin "object.__class__")==some true&&
 kitOne K (.type "int") (.type "bool")==some false
noncomputable def ou(K:Frag):List (Option (Arguments×FuncBody×Scope)):=kE.map λr=>rE K r.2.1
noncomputable def oq:List (Option (Arguments×FuncBody×Scope)):=kE.map λr=>zW r.2.2.1 r.2.2.2
end
section
set_option maxRecDepth 100000
set_option maxHeartbeats 0
open PySem PySem.W PyProof.Rows PySem.Calls
noncomputable section
noncomputable abbrev pw:=PySem.Challenge.pw_rg0282_01
noncomputable abbrev S_(P:Params):Obj:=boot_o_0 P
noncomputable abbrev S9(P:Params):Obj:=boot_o_1 P
noncomputable abbrev S8(P:Params):Obj:=boot_o_2 P
noncomputable abbrev S7(P:Params):Obj:=boot_o_3 P
noncomputable abbrev S6(P:Params):Obj:=boot_o_4 P
noncomputable abbrev S3(P:Params):Obj:=boot_o_5 P
noncomputable abbrev SZ(P:Params):Obj:=boot_o_6 P
noncomputable abbrev SY(P:Params):Obj:=boot_o_7 P
noncomputable abbrev SX(P:Params):Obj:=boot_o_8 P
noncomputable abbrev SW(P:Params):Obj:=boot_o_9 P
noncomputable abbrev O7(P:Params):Obj:=boot_o_10 P
noncomputable abbrev O6(_:Params):Obj:={cls:=.type "tuple",data:=.seq #[]}
noncomputable abbrev O5(_:Params):Obj:={cls:=.none,data:=.fields #[]}
noncomputable abbrev O4(_:Params):Obj:={cls:=.type "code",data:=.fields #[.str (Str.ofString "<module>") 182,.str (Str.ofString "<module>") 183,.str (Str.ofString "/claim/cut.py") 184,.int 1 0,.int 0 0,.int 0 0,.int 0 0,.int 0 0,.ref 11,.bool false,.int 181 0,.ref 12,.none,.none,.none,.none,.int 185 0,.int 1 0,.str (Str.ofString "/claim/cut.py") 186]}
noncomputable abbrev O3(_:Params):Obj:={cls:=.type "frame",slots:= #[some (.ref 13),some (.ref 3),some (.ref 3),none,some (.str (Str.ofString "__main__") 164),none,some (.ref 0)]}
noncomputable def OD(P:Params):BT:=(BT.node (S_ P) (BT.node (S9 P) (BT.node (S7 P) (BT.node (SY P) BT.nil BT.nil) (BT.node (O6 P) BT.nil BT.nil)) (BT.node (S3 P) (BT.node (SW P) BT.nil BT.nil) (BT.node (O4 P) BT.nil BT.nil))) (BT.node (S8 P) (BT.node (S6 P) (BT.node (SX P) BT.nil BT.nil) (BT.node (O5 P) BT.nil BT.nil)) (BT.node (SZ P) (BT.node (O7 P) BT.nil BT.nil) (BT.node (O3 P) BT.nil BT.nil))))
noncomputable def iD:List Str:=(["_wall","Special","EMPTY","Symbol","Pair","Char","Text","Vector","Box","Promise","PortRef","Procedure","kind_word","ATOMS","is_atom","FUN","CONT","CALL","JUMP","GIVE","BRANCH","KOp","fun_op","fix_op","KLast","call_last","jump_last","give_last","branch_last","KBlock","KProgram","makers","CoreError","PROC","SLOT","FREE","CONSTANT","COp","CLast","CBlock","CUnit","CProgram","closure_var","Layout","find_roots","find_atoms","last_reads","own_reads","own_given","inner_units","find_free","UnitMaker","begin_unit","give_slots","made_op","fix_rows","made_conts","way_block","made_last","made_block","made_unit","laid_out","closed","_law_deck","_law_draw","_law_one","_law_new","_law_block","_law_const","_law_procedures","_law_op","_law_choice","_law_end","_law_program","_law_leads","_law_unit","_law_units","_law_facts","_law_is_needed","_law_simple","_law_wanted","_law_handed","_law_are_units_right"]).map Str.ofString
noncomputable abbrev tO:List Str:=importedModules pw.main.body
noncomputable def eL:Program:=view pw [89]
noncomputable abbrev zC(w:World)(os:OsState):SharedT:={tree:=OD w.params,n:=15,life:={},gens:= #[],drawn:={},toks:=187,os:=os}
noncomputable abbrev benv:Env:={scope:=pw.main.scope,locals:=mainNs,globals:=mainNs,cells:=[],code:=.ref 13,frame:=some 14}
noncomputable abbrev mI:Code:=.body pw.main.body benv
noncomputable abbrev Ak:Thread:=piecesOf pw.main.body benv mI default [topFrame default]
noncomputable def ME(t:BT):Frag:=J_.map λa=>(a,(t.get a).getD default)
noncomputable def EH(t:BT)(n:Nat):Bool:=J_.all λa=>Nat.blt a n&&match t.get a with
 |some o=>(alive o).isSome
 |none=>false
noncomputable abbrev Sa(s:Shared):=openSeen eL iD tO (λ_=>true) true s
theorem Cc(w:World)(os:OsState):(segRunT treeTable pw w 11 (some (.ref 6)) 1 7425 (zC w os) Ak).map (λr=>(r.1,r.2.2.1,(staticsOk tO (boot_heap w.params) r.2.1.abs.heap&&namesBound pw r.2.1.abs.heap&&gensDone r.2.1.abs&&laidKept (boot_heap w.params) r.2.1.abs.heap),openSeen eL iD tO (λ_=>true) true r.2.1.abs,rD (ME r.2.1.tree),EH r.2.1.tree r.2.1.n,ou (ME r.2.1.tree)))=some (Flow.next,mI,true,openGood eL iD,true,true,oq):=by
 revert w os
 rw[PySem.W.Fast.te4187177175401517315];rw[PySem.W.Fast.te10110043849684766642,PySem.W.Fast.te14364793385576792824];intro w os
 kernel_rfl
end
end
section
noncomputable def dS(Φ:Calls):Prop:=∀f vs h (Q Q':V->Hp->Prop),Φ f vs h Q->(∀v h',Q v h'->Q' v h')->Φ f vs h Q'
section
variable {Φ:Calls}{γ:String->Option V}{h:Hp}
theorem kM{n:Nat}{st:List V}{W W':List V->List V->Prop}(w:fF n st W)(q:∀vs bG,W vs bG->W' vs bG):fF n st W':=by
 unfold fF at*
 revert w
 cases tE n [] st with
 |none=>exact id
 |some p=>exact q _ _
theorem iA{st:List V}{W W':V->List V->Prop}(w:top W st)(q:∀v bG,W v bG->W' v bG):top W' st:=by
 cases st with
 |nil=>exact w
 |cons=>exact q _ _ w
theorem rM{st:List V}{W W':V->V->List V->Prop}(w:top2 W st)(q:∀x y bG,W x y bG->W' x y bG):top2 W' st:=by
 cases st with
 |nil=>exact w
 |cons _ st=>cases st with
  |nil=>exact w
  |cons=>exact q _ _ _ w
theorem Rs.mn{r:Rs}{Q Q':V->Hp->Prop}(w:r.post h Q)(q:∀v h',Q v h'->Q' v h'):r.post h Q':=by
 cases r with
 |val=>exact q _ _ w
 |new=>exact λc n=>q _ _ (w c n)
noncomputable def aX:C->List String
 | .az _ k=>aX k| .ae _ k=>aX k| .glob _ k=>aX k| .mk _ _ k=>aX k| .u _ k=>aX k| .b _ k=>aX k
 | .call _ _ k=>aX k| .new _ _ _ k=>aX k| .bL _ k=>aX k| .prim _ _ k=>aX k
 | .ite a b k=>aX a++(aX b++aX k)
 | .comp _ _ _ _ k=>aX k
 | .aX x k=>x::aX k
 | .ir xs k=>xs++aX k
 | .setA _ k=>aX k| .dj k=>aX k
 | .zJ xs k=>xs++aX k
 | .pop k=>aX k
 | .loop _ b k=>aX b++aX k
 | .for t _ b k=>t++(aX b++aX k)
 |_=>[]
noncomputable abbrev cQ(A:List String)(ρ ρ':Lo):Prop:=∀x,x∉A->ρ' x=ρ x
theorem cQ.l{A B:List String}{ρ ρ1 ρ2:Lo}(x:cQ A ρ ρ1)(y:cQ B ρ1 ρ2):cQ (A++B) ρ ρ2:=λz n=>(y z λm=>n (Zi _ m)).trans (x z λm=>n (Zd _ m))
theorem cQ.r{A B:List String}{ρ ρ1:Lo}(x:cQ A ρ ρ1):cQ (B++A) ρ ρ1:=λz n=>x z λm=>n (Zi _ m)
theorem cQ.ll{A B:List String}{ρ ρ1:Lo}(x:cQ A ρ ρ1):cQ (A++B) ρ ρ1:=λz n=>x z λm=>n (Zd _ m)
theorem kr:∀{xs:List String} {vs:List V} {ρ:Lo},cQ xs ρ (binds ρ xs vs)
 |[],[],_,_,_=>rfl
 |[],_::_,_,_,_=>rfl
 |_::_,[],_,_,_=>rfl
 |x::xs,v::vs,ρ,y,n=>(kr (xs:=xs) y λm=>n (Zh _ m)).trans (if_neg λ(e:y=x)=>n (e▸Ze))
theorem di.same{t:List String}{it:List V}{ρ ρ':Lo}(b:di h ρ t it ρ'):cQ t ρ ρ':=by
 rcases b with ⟨_,e⟩|⟨_,_,_,_,_,_,e⟩<;>exact e▸kr
theorem tK(M:dS Φ):∀(c:C) (ρ:Lo) (st:List V) (h:Hp) (Q Q':Po),wp Φ γ c ρ st h Q->(∀fl ρ' bG h',cQ (aX c) ρ ρ'->Q fl ρ' bG h'->Q' fl ρ' bG h')->wp Φ γ c ρ st h Q':=by
 intro c
 induction c with
 |done=>exact λρ st h Q Q' w q=>q _ _ _ _ (λ_ _=>rfl) w
 |az v k ih=>exact λρ st h Q Q' w q=>ih _ _ _ _ _ w q
 |ae x k ih=>exact λρ st h Q Q' lF q=>oea lF λv e w=>⟨v,e,ih _ _ _ _ _ w q⟩
 |glob x k ih=>exact λρ st h Q Q' lE q=>oea lE λv e w=>⟨v,e,ih _ _ _ _ _ w q⟩
 |mk o n k ih=>exact λρ st h Q Q' w q=>kM w λvs bG w a n=>ih _ _ _ _ _ (w a n) q
 |u o k ih=>exact λρ st h Q Q' w q=>iA w λv bG w=>w.imp λr w=>⟨w.1,Rs.mn w.2 λ_ _ w=>ih _ _ _ _ _ w q⟩
 |b o k ih=>exact λρ st h Q Q' w q=>rM w λx y bG w=>w.imp λr w=>⟨w.1,Rs.mn w.2 λ_ _ w=>ih _ _ _ _ _ w q⟩
 |call f n k ih=>exact λρ st h Q Q' w q=>kM w λvs bG w=>M _ _ _ _ _ w λ_ _ w=>ih _ _ _ _ _ w q
 |new c f n k ih=>exact λρ st h Q Q' w q=>kM w λvs bG w a n=>M _ _ _ _ _ (w a n) λ_ _ w=>⟨w.1,ih _ _ _ _ _ w.2 q⟩
 |bL c k ih=>exact λρ st h Q Q' w q=>⟨w.1,ih _ _ _ _ _ w.2 q⟩
 |prim m n k ih=>exact λρ st h Q Q' w q=>kM w λvs bG w=>iA w λv bG q7=>oeeeaa q7 λa w' o e r w=>⟨a,w',o,e,r,ih _ _ _ _ _ w q⟩
 |ite a b k TS IZ ih=>
  intro ρ st h Q Q' w q;refine iA w λv bG xP=>oeaa xP λt e w1 w2=>⟨t,e,λz=>TS _ _ _ _ _ (w1 z) λfl ρ1 zC h1 s p=>?_,λz=>IZ _ _ _ _ _ (w2 z) λfl ρ1 zC h1 s p=>?_⟩
  . cases fl with
    |next=>exact ih _ _ _ _ _ p λfl ρ' bG h' s' p=>q _ _ _ _ (cQ.l s s'.r) p
    |brk=>exact q _ _ _ _ s.ll p
    |ret=>exact q _ _ _ _ s.ll p
  . cases fl with
    |next=>exact ih _ _ _ _ _ p λfl ρ' bG h' s' p=>q _ _ _ _ (cQ.l s s').r p
    |brk=>exact q _ _ _ _ s.ll.r p
    |ret=>exact q _ _ _ _ s.ll.r p
 |comp t s c e k QE ihe ih=>
  intro ρ st h Q Q' w q;refine oeeaaeaa w λaJ bG x0 x bw i0 step fin=>?_;try clear w
  refine⟨aJ,bG,x0,x,bw,i0,step,λvs h' i=>⟨(fin vs h' i).1,λa n=>ih _ _ _ _ _ ((fin vs h' i).2 a n) q⟩⟩
 |aX x k ih=>exact λρ st h Q Q' w q=>iA w λv bG w=>ih _ _ _ _ _ w λfl ρ' bG h' s p=>q _ _ _ _ (λy n=>(s y λm=>n (Zh _ m)).trans (if_neg λ(e:y=x)=>n (e▸Ze))) p
 |ir xs k ih=>exact λρ st h Q Q' w q=>kM w λvs bG w=>ih _ _ _ _ _ w λfl ρ' bG h' s p=>q _ _ _ _ (kr.l s) p
 |setA n k ih=>exact λρ st h Q Q' w q=>rM w λx y bG xO=>oeea xO λa o r w=>⟨a,o,r,ih _ _ _ _ _ w q⟩
 |dj k ih=>exact λρ st h Q Q' w q=>rM w λx y bG w=>iA w λv bG IR=>oeea IR λa o r w=>⟨a,o,r,ih _ _ _ _ _ w q⟩
 |zJ xs k ih=>exact λρ st h Q Q' w q=>iA w λv bG MX=>oeaa MX λρ' l b w=>⟨ρ',l,b,ih _ _ _ _ _ w λfl ρ' bG h' s p=>q _ _ _ _ (b.same.l s) p⟩
 |pop k ih=>exact λρ st h Q Q' w q=>iA w λv bG w=>⟨w.1,ih _ _ _ _ _ w.2 q⟩
 |loop c b k QE IZ ih=>
  intro ρ st h Q Q' ⟨bw,⟨n,i0⟩,step⟩ q;refine⟨λn ρ' h'=>bw n ρ' h'/\cQ (aX b) ρ ρ',⟨n,i0,λ_ _=>rfl⟩,λn ρ' h' i=>QE _ _ _ _ _ (step n ρ' h' i.1) λfl ρ1 zC h1 _ IQ=>oaeaeaa IQ λe v e2 t e3 w1 w2=>⟨e,v,e2,t,e3,λz=>IZ _ _ _ _ _ (w1 z) λfl ρ3 zM h3 s p=>?_,λz=>ih _ _ _ _ _ (w2 z) λfl ρ3 zM h3 s p=>q _ _ _ _ (i.2.l s) p⟩⟩;have s2:cQ (aX b) ρ ρ3:=λx m=>(s x m).trans (i.2 x m)
  cases fl with
  |next=>refine oea p λm l p=>?_;exact⟨m,l,p,s2⟩
  |brk=>exact ih _ _ _ _ _ p λfl ρ' bG h' s' p=>q _ _ _ _ (s2.l s') p
  |ret=>exact q _ _ _ _ s2.ll p
 |«for» t s b k IZ ih=>
  intro ρ st h Q Q' w q;refine oeeaeaa w λaJ bG x0 bw i0 step fin=>?_;try clear w
  refine⟨aJ,bG,x0,λn ρ' h'=>bw n ρ' h'/\cQ (t++aX b) ρ ρ',⟨i0,λ_ _=>rfl⟩,λi ρ' h' item iv e=>?_,λρ' h' iv=>⟨(fin ρ' h' iv.1).1,ih _ _ _ _ _ (fin ρ' h' iv.1).2 λfl ρ3 zM h3 s p=>q _ _ _ _ (λx n=>(iv.2.l s) x (by rwa [Zo])) p⟩⟩;refine oaea (step i ρ' h' item iv.1 e) λsy fE bt w=>?_;refine⟨sy,fE,bt,IZ _ _ _ _ _ w λfl ρ3 zM h3 s p=>?_⟩;have s2:cQ (t++aX b) ρ ρ3:=λx m=>((bt.same.l s) x m).trans (iv.2 x m)
  cases fl with
  |next=>exact⟨p,s2⟩
  |brk=>exact ih _ _ _ _ _ p λfl ρ' bG h' s' p=>q _ _ _ _ (λx n=>(s2.l s') x (by rwa [Zo])) p
  |ret=>exact q _ _ _ _ (λx n=>s2.ll x (by rwa [Zo])) p
 |ret=>exact λρ st h Q Q' w q=>iA w λv _ w=>q _ _ _ _ (λ_ _=>rfl) w
 |brk=>exact λρ st h Q Q' w q=>q _ _ _ _ (λ_ _=>rfl) w
 |raise=>exact λρ st h Q Q' w q=>w
theorem Ke(M:dS Φ){c:C}{ρ:Lo}{st:List V}{Q Q':Po}(w:wp Φ γ c ρ st h Q)(q:∀fl ρ' bG h',Q fl ρ' bG h'->Q' fl ρ' bG h'):wp Φ γ c ρ st h Q':=tK M c ρ st h Q Q' w λ_ _ _ _ _ p=>q _ _ _ _ p
end
end
section
noncomputable def vi:Fn:=⟨["self","car","cdr"],
 .ae "car"<|.ae "self"<|.setA "car"<|.ae "cdr"<|.ae "self"<|.setA "cdr"<|.az .none<|.ae "self"<|.setA "mark"<|.done⟩
noncomputable def ve:Fn:=⟨["datum"],
 .ae "datum"<|.u .isBool<|.ite (.az (sv "boolean")<|.ret) .done<|.ae "datum"<|.u (.cK "Pair")<|.ite (.az (sv "pair")<|.ret) .done<|.ae "datum"<|.u (.cK "Symbol")<|.ite (.az (sv "symbol")<|.ret) .done<|.ae "datum"<|.u (.cK "Special")<|.ite (.ae "datum"<|.u (.attr "title")<|.ret) .done<|.ae "datum"<|.u (.cK "Char")<|.ite (.az (sv "char")<|.ret) .done<|.ae "datum"<|.u (.cK "Text")<|.ite (.az (sv "string")<|.ret) .done<|.ae "datum"<|.u (.cK "Vector")<|.ite (.az (sv "vector")<|.ret) .done<|.ae "datum"<|.u (.cK "Procedure")<|.ite (.az (sv "procedure")<|.ret) .done<|.ae "datum"<|.u (.cK "Promise")<|.ite (.az (sv "promise")<|.ret) .done<|.ae "datum"<|.u (.cK "Box")<|.ite (.az (sv "box")<|.ret) .done<|.ae "datum"<|.u (.cK "PortRef")<|.ite (.az (sv "port")<|.done) (.az (sv "number")<|.done)<|.ret⟩
noncomputable def zm:Fn:=⟨["datum"],
 .ae "datum"<|.call "kind_word" 1<|.glob "ATOMS"<|.b (.cmp .isin)<|.ret⟩
noncomputable def wJ:Fn:=⟨["self","result","word","number","args"],
 .ae "result"<|.ae "self"<|.setA "result"<|.ae "word"<|.ae "self"<|.setA "word"<|.ae "number"<|.ae "self"<|.setA "number"<|.ae "args"<|.ae "self"<|.setA "args"<|.az .none<|.ae "self"<|.setA "datum"<|.mk .list 0<|.ae "self"<|.setA "results"<|.mk .list 0<|.ae "self"<|.setA "labels"<|.done⟩
noncomputable def vj:Fn:=⟨["self"],
 .ae "self"<|.u (.attr "word")<|.az (sv "fix")<|.b (.cmp .eq)<|.ite (.ae "self"<|.u (.attr "results")<|.u .cN<|.ret) .done<|.ae "self"<|.u (.attr "result")<|.az (.int 0)<|.b (.cmp .ge)<|.ite (.ae "self"<|.u (.attr "result")<|.mk .list 1<|.done) (.mk .list 0<|.done)<|.ret⟩
noncomputable def Ck:Fn:=⟨["result","label"],
 .ae "result"<|.az (sv "fun")<|.az (.int (-1))<|.mk .list 0<|.new "KOp" "KOp.__init__" 4<|.aX "found"<|.ae "label"<|.mk .list 1<|.ae "found"<|.setA "labels"<|.ae "found"<|.ret⟩
noncomputable def Cl:Fn:=⟨["results","labels"],
 .az (.int (-1))<|.az (sv "fix")<|.az (.int (-1))<|.mk .list 0<|.new "KOp" "KOp.__init__" 4<|.aX "found"<|.ae "results"<|.u .cN<|.ae "found"<|.setA "results"<|.ae "labels"<|.u .cN<|.ae "found"<|.setA "labels"<|.ae "found"<|.ret⟩
noncomputable def sS:Fn:=⟨["self","word"],
 .ae "word"<|.ae "self"<|.setA "word"<|.az (.int (-1))<|.ae "self"<|.setA "fun"<|.mk .list 0<|.ae "self"<|.setA "args"<|.az (.int (-1))<|.ae "self"<|.setA "to"<|.az (.int (-1))<|.ae "self"<|.setA "other"<|.az (.int (-1))<|.ae "self"<|.setA "var"<|.done⟩
noncomputable def qv:Fn:=⟨["self"],
 .ae "self"<|.u (.attr "args")<|.u .cN<|.aX "found"<|.ae "self"<|.u (.attr "fun")<|.az (.int 0)<|.b (.cmp .ge)<|.ite (.ae "found"<|.bL "list"<|.ae "self"<|.u (.attr "fun")<|.prim .append 1<|.pop<|.done) .done<|.ae "self"<|.u (.attr "var")<|.az (.int 0)<|.b (.cmp .ge)<|.ite (.ae "found"<|.bL "list"<|.ae "self"<|.u (.attr "var")<|.prim .append 1<|.pop<|.done) .done<|.ae "found"<|.ret⟩
noncomputable def nJ:Fn:=⟨["self"],
 .mk .list 0<|.aX "found"<|.ae "self"<|.u (.attr "to")<|.az (.int 0)<|.b (.cmp .ge)<|.ite (.ae "found"<|.bL "list"<|.ae "self"<|.u (.attr "to")<|.prim .append 1<|.pop<|.done) .done<|.ae "self"<|.u (.attr "other")<|.az (.int 0)<|.b (.cmp .ge)<|.ite (.ae "found"<|.bL "list"<|.ae "self"<|.u (.attr "other")<|.prim .append 1<|.pop<|.done) .done<|.ae "found"<|.ret⟩
noncomputable def vh:Fn:=⟨["fun","args","to","var"],
 .glob "CALL"<|.new "KLast" "KLast.__init__" 1<|.aX "found"<|.ae "fun"<|.ae "found"<|.setA "fun"<|.ae "args"<|.u .cN<|.ae "found"<|.setA "args"<|.ae "to"<|.ae "found"<|.setA "to"<|.ae "var"<|.ae "found"<|.setA "var"<|.ae "found"<|.ret⟩
noncomputable def vf:Fn:=⟨["to","args"],
 .glob "JUMP"<|.new "KLast" "KLast.__init__" 1<|.aX "found"<|.ae "to"<|.ae "found"<|.setA "to"<|.ae "args"<|.u .cN<|.ae "found"<|.setA "args"<|.ae "found"<|.ret⟩
noncomputable def vg:Fn:=⟨["var","args"],
 .glob "GIVE"<|.new "KLast" "KLast.__init__" 1<|.aX "found"<|.ae "var"<|.ae "found"<|.setA "var"<|.ae "args"<|.u .cN<|.ae "found"<|.setA "args"<|.ae "found"<|.ret⟩
noncomputable def qt:Fn:=⟨["test","yes","no"],
 .glob "BRANCH"<|.new "KLast" "KLast.__init__" 1<|.aX "found"<|.ae "test"<|.ae "found"<|.setA "fun"<|.ae "yes"<|.ae "found"<|.setA "to"<|.ae "no"<|.ae "found"<|.setA "other"<|.ae "found"<|.ret⟩
noncomputable def qw:Fn:=⟨["self","label","sort","params","rest"],
 .ae "label"<|.ae "self"<|.setA "label"<|.ae "sort"<|.ae "self"<|.setA "sort"<|.ae "params"<|.ae "self"<|.setA "params"<|.ae "rest"<|.ae "self"<|.setA "rest"<|.az (.int (-1))<|.ae "self"<|.setA "var"<|.ae "label"<|.ae "self"<|.setA "home"<|.az (.int (-1))<|.ae "self"<|.setA "parent"<|.az (sv "")<|.ae "self"<|.setA "title"<|.mk .list 0<|.ae "self"<|.setA "ops"<|.az .none<|.ae "self"<|.setA "last"<|.done⟩
noncomputable def mE:Fn:=⟨["self"],
 .ae "self"<|.u (.attr "params")<|.u .cN<|.aX "found"<|.ae "self"<|.u (.attr "rest")<|.az (.int 0)<|.b (.cmp .ge)<|.ite (.ae "found"<|.bL "list"<|.ae "self"<|.u (.attr "rest")<|.prim .append 1<|.pop<|.done) .done<|.ae "self"<|.u (.attr "var")<|.az (.int 0)<|.b (.cmp .ge)<|.ite (.ae "found"<|.bL "list"<|.ae "self"<|.u (.attr "var")<|.prim .append 1<|.pop<|.done) .done<|.ae "found"<|.ret⟩
noncomputable def pQ:Fn:=⟨["self"],
 .ae "self"<|.bL "KBlock"<|.call "KBlock.binders" 1<|.aX "found"<|.ae "self"<|.u (.attr "ops")<|.for ["op"] .seq (.ae "found"<|.bL "list"<|.ae "op"<|.bL "KOp"<|.call "KOp.given" 1<|.prim .extend 1<|.pop<|.done)<|.ae "found"<|.ret⟩
noncomputable def ku:Fn:=⟨["self"],
 .ae "self"<|.u (.attr "params")<|.u .len<|.az (.int 0)<|.b (.cmp .eq)<|.ite (.ae "self"<|.u (.attr "rest")<|.az (.int 0)<|.b (.cmp .ge)<|.done) (.az (.bool false) .done)<|.ret⟩
noncomputable def nI:Fn:=⟨["self","entry"],
 .mk .dict 0<|.ae "self"<|.setA "table"<|.ae "entry"<|.ae "self"<|.setA "entry"<|.done⟩
noncomputable def lj:Fn:=⟨["self"],
 .ae "self"<|.u (.attr "table")<|.u .sorted<|.ret⟩
noncomputable def mD:Fn:=⟨["self","label"],
 .ae "self"<|.u (.attr "table")<|.ae "label"<|.b .idx<|.ret⟩
noncomputable def pP:Fn:=⟨["self","block"],
 .ae "block"<|.ae "self"<|.u (.attr "table")<|.ae "block"<|.u (.attr "label")<|.dj<|.done⟩
noncomputable def Ci:Fn:=⟨["program"],
 .mk .dict 0<|.aX "found"<|.ae "program"<|.bL "KProgram"<|.call "KProgram.labels" 1<|.for ["label"] .seq (.ae "program"<|.bL "KProgram"<|.ae "label"<|.call "KProgram.block" 2<|.u (.attr "ops")<|.for ["op"] .seq (.ae "op"<|.bL "KOp"<|.call "KOp.given" 1<|.for ["var"] .seq (.ae "op"<|.ae "found"<|.ae "var"<|.dj<|.done)<|.done)<|.done)<|.ae "found"<|.ret⟩
noncomputable def wK:Fn:=⟨["self","slot","op","data","args"],
 .ae "slot"<|.ae "self"<|.setA "slot"<|.ae "op"<|.ae "self"<|.setA "op"<|.ae "data"<|.ae "self"<|.setA "data"<|.ae "args"<|.ae "self"<|.setA "args"<|.done⟩
noncomputable def sU:Fn:=⟨["self","sort","head","args","k","blocks"],
 .ae "sort"<|.ae "self"<|.setA "sort"<|.ae "head"<|.ae "self"<|.setA "head"<|.ae "args"<|.ae "self"<|.setA "args"<|.ae "k"<|.ae "self"<|.setA "k"<|.ae "blocks"<|.ae "self"<|.setA "blocks"<|.done⟩
noncomputable def qx:Fn:=⟨["self","number","params"],
 .ae "number"<|.ae "self"<|.setA "number"<|.ae "params"<|.ae "self"<|.setA "params"<|.mk .list 0<|.ae "self"<|.setA "ops"<|.az .none<|.ae "self"<|.setA "last"<|.done⟩
noncomputable def sT:Fn:=⟨["self","number","sort"],
 .ae "number"<|.ae "self"<|.setA "number"<|.ae "sort"<|.ae "self"<|.setA "sort"<|.mk .list 0<|.ae "self"<|.setA "params"<|.az (.int (-1))<|.ae "self"<|.setA "rest"<|.az (.bool false)<|.ae "self"<|.setA "takes_any"<|.az (.int 0)<|.ae "self"<|.setA "captured"<|.az (.int 0)<|.ae "self"<|.setA "slots"<|.mk .list 0<|.ae "self"<|.setA "blocks"<|.az (sv "")<|.ae "self"<|.setA "name"<|.done⟩
noncomputable def nK:Fn:=⟨["self"],
 .mk .list 0<|.ae "self"<|.setA "units"<|.az (.int 0)<|.ae "self"<|.setA "start"<|.done⟩
noncomputable def qr:Fn:=⟨["label"],
 .az (.int 0)<|.ae "label"<|.b (.bin .sub)<|.az (.int 2)<|.b (.bin .sub)<|.ret⟩
noncomputable def qu:Fn:=⟨["self","program"],
 .ae "program"<|.ae "self"<|.setA "program"<|.mk .dict 0<|.ae "self"<|.setA "roots"<|.mk .dict 0<|.ae "self"<|.setA "atoms"<|.mk .dict 0<|.ae "self"<|.setA "numbers"<|.mk .dict 0<|.ae "self"<|.setA "free"<|.done⟩
noncomputable def mC:Fn:=⟨["self","label"],
 .ae "label"<|.ae "self"<|.u (.attr "roots")<|.b (.cmp .isin)<|.ret⟩
noncomputable def mz:Fn:=⟨["self","label"],
 .loop (.ae "label"<|.ae "self"<|.u (.attr "roots")<|.b (.cmp .dw)<|.done) (.ae "self"<|.u (.attr "program")<|.bL "KProgram"<|.ae "label"<|.call "KProgram.block" 2<|.u (.attr "parent")<|.aX "label"<|.done)<|.ae "label"<|.ret⟩
noncomputable def mA:Fn:=⟨["self","root"],
 .ae "self"<|.u (.attr "program")<|.bL "KProgram"<|.call "KProgram.labels" 1<|.comp ["label"] .seq (.ae "label"<|.ae "root"<|.b (.cmp .ne)<|.ite (.ae "self"<|.bL "Layout"<|.ae "label"<|.call "Layout.unit_of" 2<|.ae "root"<|.b (.cmp .eq)<|.done) (.az (.bool false) .done)<|.done) (.ae "label"<|.done)<|.aX "others"<|.ae "root"<|.mk .list 1<|.ae "others"<|.b (.bin .add)<|.ret⟩
noncomputable def mB:Fn:=⟨["self","label"],
 .mk .list 0<|.aX "found"<|.ae "self"<|.u (.attr "program")<|.bL "KProgram"<|.call "KProgram.labels" 1<|.for ["own"] .seq (.ae "own"<|.ae "self"<|.u (.attr "roots")<|.b (.cmp .isin)<|.ite (.ae "self"<|.u (.attr "program")<|.bL "KProgram"<|.ae "own"<|.call "KProgram.block" 2<|.u (.attr "sort")<|.glob "CONT"<|.b (.cmp .eq)<|.ite (.ae "self"<|.u (.attr "program")<|.bL "KProgram"<|.ae "own"<|.call "KProgram.block" 2<|.u (.attr "parent")<|.ae "label"<|.b (.cmp .eq)<|.done) (.az (.bool false) .done) .done) (.az (.bool false) .done)<|.ite (.ae "found"<|.bL "list"<|.ae "own"<|.prim .append 1<|.pop<|.done) .done<|.done)<|.ae "found"<|.ret⟩
noncomputable def sP:Fn:=⟨["layout"],
 .ae "layout"<|.u (.attr "program")<|.aX "program"<|.ae "program"<|.bL "KProgram"<|.call "KProgram.labels" 1<|.for ["label"] .seq (.ae "program"<|.bL "KProgram"<|.ae "label"<|.call "KProgram.block" 2<|.aX "block"<|.ae "block"<|.u (.attr "sort")<|.glob "FUN"<|.b (.cmp .eq)<|.ite (.az (.bool true)<|.ae "layout"<|.u (.attr "roots")<|.ae "label"<|.dj<|.done) .done<|.ae "block"<|.u (.attr "last")<|.u (.attr "word")<|.glob "CALL"<|.b (.cmp .eq)<|.ite (.ae "block"<|.u (.attr "last")<|.u (.attr "to")<|.az (.int 0)<|.b (.cmp .ge)<|.done) (.az (.bool false) .done)<|.ite (.az (.bool true)<|.ae "layout"<|.u (.attr "roots")<|.ae "block"<|.u (.attr "last")<|.u (.attr "to")<|.dj<|.done) .done<|.done)<|.az (.bool true)<|.aX "grows"<|.loop (.ae "grows"<|.done) (.az (.bool false)<|.aX "grows"<|.ae "program"<|.bL "KProgram"<|.call "KProgram.labels" 1<|.for ["label"] .seq (.ae "program"<|.bL "KProgram"<|.ae "label"<|.call "KProgram.block" 2<|.u (.attr "last")<|.bL "KLast"<|.call "KLast.targets" 1<|.for ["target"] .seq (.ae "target"<|.ae "layout"<|.u (.attr "roots")<|.b (.cmp .dw)<|.ite (.ae "layout"<|.bL "Layout"<|.ae "target"<|.call "Layout.unit_of" 2<|.ae "layout"<|.bL "Layout"<|.ae "label"<|.call "Layout.unit_of" 2<|.b (.cmp .ne)<|.done) (.az (.bool false) .done)<|.ite (.az (.bool true)<|.ae "layout"<|.u (.attr "roots")<|.ae "target"<|.dj<|.az (.bool true)<|.aX "grows"<|.done) .done<|.done)<|.done)<|.done)<|.done⟩
noncomputable def sQ:Fn:=⟨["layout"],
 .ae "layout"<|.u (.attr "program")<|.call "makers" 1<|.aX "made"<|.ae "made"<|.for ["var"] .seq (.ae "made"<|.ae "var"<|.b .idx<|.u (.attr "word")<|.az (sv "const")<|.b (.cmp .eq)<|.ite (.ae "made"<|.ae "var"<|.b .idx<|.u (.attr "datum")<|.call "is_atom" 1<|.done) (.az (.bool false) .done)<|.ite (.ae "made"<|.ae "var"<|.b .idx<|.u (.attr "datum")<|.ae "layout"<|.u (.attr "atoms")<|.ae "var"<|.dj<|.done) .done<|.done)<|.done⟩
noncomputable def sN:Fn:=⟨["layout","block"],
 .ae "block"<|.u (.attr "last")<|.bL "KLast"<|.call "KLast.reads" 1<|.aX "found"<|.ae "block"<|.u (.attr "last")<|.bL "KLast"<|.call "KLast.targets" 1<|.for ["target"] .seq (.ae "layout"<|.bL "Layout"<|.ae "target"<|.call "Layout.is_root" 2<|.ite (.ae "found"<|.bL "list"<|.ae "target"<|.call "closure_var" 1<|.prim .append 1<|.pop<|.done) .done<|.done)<|.ae "found"<|.ret⟩
noncomputable def u5:Fn:=⟨["layout","root"],
 .mk .dict 0<|.aX "found"<|.ae "layout"<|.bL "Layout"<|.ae "root"<|.call "Layout.members" 2<|.for ["label"] .seq (.ae "layout"<|.u (.attr "program")<|.bL "KProgram"<|.ae "label"<|.call "KProgram.block" 2<|.aX "block"<|.ae "block"<|.u (.attr "ops")<|.for ["op"] .seq (.ae "op"<|.u (.attr "args")<|.for ["var"] .seq (.az (.bool true)<|.ae "found"<|.ae "var"<|.dj<|.done)<|.done)<|.ae "layout"<|.ae "block"<|.call "last_reads" 2<|.for ["var"] .seq (.az (.bool true)<|.ae "found"<|.ae "var"<|.dj<|.done)<|.done)<|.ae "found"<|.ret⟩
noncomputable def u6:Fn:=⟨["layout","root"],
 .mk .dict 0<|.aX "found"<|.ae "layout"<|.bL "Layout"<|.ae "root"<|.call "Layout.members" 2<|.for ["label"] .seq (.ae "layout"<|.u (.attr "program")<|.bL "KProgram"<|.ae "label"<|.call "KProgram.block" 2<|.bL "KBlock"<|.call "KBlock.given" 1<|.for ["var"] .seq (.az (.bool true)<|.ae "found"<|.ae "var"<|.dj<|.done)<|.ae "layout"<|.bL "Layout"<|.ae "label"<|.call "Layout.made_at" 2<|.for ["own"] .seq (.az (.bool true)<|.ae "found"<|.ae "own"<|.call "closure_var" 1<|.dj<|.done)<|.done)<|.ae "found"<|.ret⟩
noncomputable def qq:Fn:=⟨["layout","root"],
 .mk .list 0<|.aX "found"<|.ae "layout"<|.bL "Layout"<|.ae "root"<|.call "Layout.members" 2<|.for ["label"] .seq (.ae "layout"<|.u (.attr "program")<|.bL "KProgram"<|.ae "label"<|.call "KProgram.block" 2<|.u (.attr "ops")<|.for ["op"] .seq (.ae "found"<|.bL "list"<|.ae "op"<|.u (.attr "labels")<|.prim .extend 1<|.pop<|.done)<|.ae "found"<|.bL "list"<|.ae "layout"<|.bL "Layout"<|.ae "label"<|.call "Layout.made_at" 2<|.prim .extend 1<|.pop<|.done)<|.ae "found"<|.ret⟩
noncomputable def i4:Fn:=⟨["layout"],
 .ae "layout"<|.u (.attr "roots")<|.u .sorted<|.aX "roots"<|.mk .dict 0<|.aX "reads"<|.mk .dict 0<|.aX "given"<|.mk .dict 0<|.aX "inner"<|.ae "roots"<|.for ["root"] .seq (.ae "layout"<|.ae "root"<|.call "own_reads" 2<|.ae "reads"<|.ae "root"<|.dj<|.ae "layout"<|.ae "root"<|.call "own_given" 2<|.ae "given"<|.ae "root"<|.dj<|.ae "layout"<|.ae "root"<|.call "inner_units" 2<|.ae "inner"<|.ae "root"<|.dj<|.mk .dict 0<|.ae "layout"<|.u (.attr "free")<|.ae "root"<|.dj<|.done)<|.az (.bool true)<|.aX "grows"<|.loop (.ae "grows"<|.done) (.az (.bool false)<|.aX "grows"<|.ae "roots"<|.u .rev<|.for ["root"] .seq (.ae "reads"<|.ae "root"<|.b .idx<|.u .copyDict<|.aX "wanted"<|.ae "inner"<|.ae "root"<|.b .idx<|.for ["own"] .seq (.ae "wanted"<|.bL "dict"<|.ae "layout"<|.u (.attr "free")<|.ae "own"<|.b .idx<|.prim .update 1<|.pop<|.done)<|.ae "wanted"<|.for ["var"] .seq (.ae "var"<|.ae "given"<|.ae "root"<|.b .idx<|.b (.cmp .dw)<|.ite (.ae "var"<|.ae "layout"<|.u (.attr "atoms")<|.b (.cmp .dw)<|.ite (.ae "var"<|.ae "layout"<|.u (.attr "free")<|.ae "root"<|.b .idx<|.b (.cmp .dw)<|.done) (.az (.bool false) .done) .done) (.az (.bool false) .done)<|.ite (.az (.bool true)<|.ae "layout"<|.u (.attr "free")<|.ae "root"<|.b .idx<|.ae "var"<|.dj<|.az (.bool true)<|.aX "grows"<|.done) .done<|.done)<|.done)<|.done)<|.done⟩
noncomputable def mx:Fn:=⟨["self","layout","root","unit"],
 .ae "layout"<|.ae "self"<|.setA "layout"<|.ae "root"<|.ae "self"<|.setA "root"<|.ae "unit"<|.ae "self"<|.setA "unit"<|.mk .dict 0<|.ae "self"<|.setA "slots"<|.mk .dict 0<|.ae "self"<|.setA "places"<|.ae "layout"<|.u (.attr "free")<|.ae "root"<|.b .idx<|.u .sorted<|.ae "self"<|.setA "captured"<|.ae "self"<|.u (.attr "captured")<|.comp ["at","var"] .enum (.az (.bool true) .done) (.ae "var"<|.ae "at"<|.mk .tup 2<|.done)<|.u .dictOf<|.ae "self"<|.setA "spots"<|.mk .list 0<|.ae "self"<|.setA "extra"<|.done⟩
noncomputable def mw:Fn:=⟨["self","var"],
 .ae "self"<|.u (.attr "unit")<|.u (.attr "slots")<|.ae "self"<|.u (.attr "slots")<|.ae "var"<|.dj<|.ae "self"<|.u (.attr "unit")<|.u (.attr "slots")<|.az (.int 1)<|.b (.bin .add)<|.ae "self"<|.u (.attr "unit")<|.setA "slots"<|.ae "self"<|.u (.attr "slots")<|.ae "var"<|.b .idx<|.ret⟩
noncomputable def nH:Fn:=⟨["self","var"],
 .ae "var"<|.ae "self"<|.u (.attr "layout")<|.u (.attr "atoms")<|.b (.cmp .isin)<|.ite (.glob "CONSTANT"<|.ae "self"<|.u (.attr "layout")<|.u (.attr "atoms")<|.ae "var"<|.b .idx<|.mk .tup 2<|.ret) .done<|.ae "var"<|.ae "self"<|.u (.attr "slots")<|.b (.cmp .isin)<|.ite (.glob "SLOT"<|.ae "self"<|.u (.attr "slots")<|.ae "var"<|.b .idx<|.mk .tup 2<|.ret) .done<|.ae "var"<|.ae "self"<|.u (.attr "spots")<|.b (.cmp .dw)<|.ite (.raise) .done<|.glob "FREE"<|.ae "self"<|.u (.attr "spots")<|.ae "var"<|.b .idx<|.mk .tup 2<|.ret⟩
noncomputable def my:Fn:=⟨["self","numbers"],
 .ae "numbers"<|.comp ["var"] .seq (.az (.bool true) .done) (.ae "self"<|.bL "UnitMaker"<|.ae "var"<|.call "UnitMaker.arg" 2<|.done)<|.ret⟩
noncomputable def fZ:Fn:=⟨["self","label"],
 .ae "self"<|.bL "UnitMaker"<|.ae "self"<|.u (.attr "layout")<|.u (.attr "free")<|.ae "label"<|.b .idx<|.u .sorted<|.call "UnitMaker.args" 2<|.ret⟩
noncomputable def sR:Fn:=⟨["maker"],
 .ae "maker"<|.u (.attr "layout")<|.u (.attr "program")<|.bL "KProgram"<|.ae "maker"<|.u (.attr "root")<|.call "KProgram.block" 2<|.aX "block"<|.ae "maker"<|.u (.attr "unit")<|.aX "unit"<|.ae "block"<|.u (.attr "sort")<|.glob "FUN"<|.b (.cmp .eq)<|.ite (.ae "unit"<|.u (.attr "params")<|.bL "list"<|.ae "maker"<|.bL "UnitMaker"<|.ae "block"<|.u (.attr "var")<|.call "UnitMaker.slot" 2<|.prim .append 1<|.pop<|.done) .done<|.ae "block"<|.u (.attr "params")<|.for ["var"] .seq (.ae "unit"<|.u (.attr "params")<|.bL "list"<|.ae "maker"<|.bL "UnitMaker"<|.ae "var"<|.call "UnitMaker.slot" 2<|.prim .append 1<|.pop<|.done)<|.ae "block"<|.u (.attr "sort")<|.glob "CONT"<|.b (.cmp .eq)<|.ite (.ae "block"<|.bL "KBlock"<|.call "KBlock.takes_any" 1<|.done) (.az (.bool false) .done)<|.ite (.az (.bool true)<|.ae "unit"<|.setA "takes_any"<|.done) (.ae "block"<|.u (.attr "rest")<|.az (.int 0)<|.b (.cmp .ge)<|.ite (.ae "maker"<|.bL "UnitMaker"<|.ae "block"<|.u (.attr "rest")<|.call "UnitMaker.slot" 2<|.ae "unit"<|.setA "rest"<|.done) .done<|.done)<|.done⟩
noncomputable def sO:Fn:=⟨["maker"],
 .ae "maker"<|.u (.attr "layout")<|.u (.attr "program")<|.aX "program"<|.ae "maker"<|.u (.attr "layout")<|.bL "Layout"<|.ae "maker"<|.u (.attr "root")<|.call "Layout.members" 2<|.aX "members"<|.ae "members"<|.u .len<|.for ["at"] .range (.ae "program"<|.bL "KProgram"<|.ae "members"<|.ae "at"<|.b .idx<|.call "KProgram.block" 2<|.aX "block"<|.ae "at"<|.ae "maker"<|.u (.attr "places")<|.ae "members"<|.ae "at"<|.b .idx<|.dj<|.ae "members"<|.ae "at"<|.b .idx<|.ae "maker"<|.u (.attr "root")<|.b (.cmp .ne)<|.ite (.ae "block"<|.u (.attr "params")<|.for ["var"] .seq (.ae "maker"<|.bL "UnitMaker"<|.ae "var"<|.call "UnitMaker.slot" 2<|.pop<|.done)<|.done) .done<|.ae "block"<|.u (.attr "ops")<|.for ["op"] .seq (.ae "op"<|.bL "KOp"<|.call "KOp.given" 1<|.for ["var"] .seq (.ae "var"<|.ae "maker"<|.u (.attr "layout")<|.u (.attr "atoms")<|.b (.cmp .dw)<|.ite (.ae "maker"<|.bL "UnitMaker"<|.ae "var"<|.call "UnitMaker.slot" 2<|.pop<|.done) .done<|.done)<|.done)<|.ae "maker"<|.u (.attr "layout")<|.bL "Layout"<|.ae "members"<|.ae "at"<|.b .idx<|.call "Layout.made_at" 2<|.for ["own"] .seq (.ae "maker"<|.bL "UnitMaker"<|.ae "own"<|.call "closure_var" 1<|.call "UnitMaker.slot" 2<|.pop<|.done)<|.done)<|.ae "members"<|.ret⟩
noncomputable def zd:Fn:=⟨["maker","op"],
 .ae "maker"<|.u (.attr "slots")<|.bL "dict"<|.ae "op"<|.u (.attr "result")<|.az (.int (-1))<|.prim .get 2<|.aX "slot"<|.ae "op"<|.u (.attr "word")<|.az (sv "const")<|.b (.cmp .eq)<|.ite (.ae "op"<|.u (.attr "result")<|.ae "maker"<|.u (.attr "layout")<|.u (.attr "atoms")<|.b (.cmp .isin)<|.ite (.az .none<|.ret) .done<|.ae "slot"<|.az (sv "const")<|.ae "op"<|.u (.attr "datum")<|.mk .list 0<|.new "COp" "COp.__init__" 4<|.ret) .done<|.ae "op"<|.u (.attr "word")<|.az (sv "fun")<|.b (.cmp .eq)<|.ite (.ae "op"<|.u (.attr "labels")<|.az (.int 0)<|.b .idx<|.aX "label"<|.ae "slot"<|.az (sv "close")<|.ae "maker"<|.u (.attr "layout")<|.u (.attr "numbers")<|.ae "label"<|.b .idx<|.ae "maker"<|.bL "UnitMaker"<|.ae "label"<|.call "UnitMaker.captured_args" 2<|.new "COp" "COp.__init__" 4<|.ret) .done<|.ae "op"<|.u (.attr "word")<|.az (sv "fix")<|.b (.cmp .eq)<|.ite (.az (.int (-1))<|.az (sv "closefix")<|.ae "maker"<|.ae "op"<|.u (.attr "results")<|.ae "op"<|.u (.attr "labels")<|.call "fix_rows" 3<|.mk .list 0<|.new "COp" "COp.__init__" 4<|.ret) .done<|.ae "slot"<|.ae "op"<|.u (.attr "word")<|.ae "op"<|.u (.attr "number")<|.ae "maker"<|.bL "UnitMaker"<|.ae "op"<|.u (.attr "args")<|.call "UnitMaker.args" 2<|.new "COp" "COp.__init__" 4<|.ret⟩
noncomputable def wI:Fn:=⟨["maker","variables","labels"],
 .mk .list 0<|.aX "found"<|.ae "variables"<|.ae "labels"<|.for ["var","label"] .zip (.ae "found"<|.bL "list"<|.ae "maker"<|.u (.attr "slots")<|.ae "var"<|.b .idx<|.ae "maker"<|.u (.attr "layout")<|.u (.attr "numbers")<|.ae "label"<|.b .idx<|.ae "maker"<|.bL "UnitMaker"<|.ae "label"<|.call "UnitMaker.captured_args" 2<|.mk .tup 3<|.prim .append 1<|.pop<|.done)<|.ae "found"<|.ret⟩
noncomputable def sH:Fn:=⟨["maker","label"],
 .ae "maker"<|.u (.attr "layout")<|.bL "Layout"<|.ae "label"<|.call "Layout.made_at" 2<|.aX "labels"<|.ae "labels"<|.comp ["own"] .seq (.az (.bool true) .done) (.ae "own"<|.call "closure_var" 1<|.done)<|.aX "variables"<|.ae "labels"<|.u .len<|.az (.int 0)<|.b (.cmp .eq)<|.ite (.mk .list 0<|.ret) .done<|.ae "labels"<|.u .len<|.az (.int 1)<|.b (.cmp .eq)<|.ite (.ae "variables"<|.az (.int 0)<|.b .idx<|.ae "maker"<|.u (.attr "layout")<|.u (.attr "free")<|.ae "labels"<|.az (.int 0)<|.b .idx<|.b .idx<|.b (.cmp .dw)<|.done) (.az (.bool false) .done)<|.ite (.ae "labels"<|.az (.int 0)<|.b .idx<|.aX "own"<|.ae "maker"<|.u (.attr "slots")<|.ae "variables"<|.az (.int 0)<|.b .idx<|.b .idx<|.az (sv "close")<|.ae "maker"<|.u (.attr "layout")<|.u (.attr "numbers")<|.ae "own"<|.b .idx<|.ae "maker"<|.bL "UnitMaker"<|.ae "own"<|.call "UnitMaker.captured_args" 2<|.new "COp" "COp.__init__" 4<|.mk .list 1<|.ret) .done<|.az (.int (-1))<|.az (sv "closefix")<|.ae "maker"<|.ae "variables"<|.ae "labels"<|.call "fix_rows" 3<|.mk .list 0<|.new "COp" "COp.__init__" 4<|.mk .list 1<|.ret⟩
noncomputable def uZ:Fn:=⟨["maker","target"],
 .ae "maker"<|.u (.attr "layout")<|.bL "Layout"<|.ae "target"<|.call "Layout.is_root" 2<|.u .not<|.ite (.ae "maker"<|.u (.attr "places")<|.ae "target"<|.b .idx<|.ret) .done<|.ae "maker"<|.u (.attr "places")<|.u .len<|.ae "maker"<|.u (.attr "extra")<|.u .len<|.b (.bin .add)<|.mk .list 0<|.new "CBlock" "CBlock.__init__" 2<|.aX "found"<|.az (sv "give")<|.az .none<|.mk .list 0<|.ae "maker"<|.bL "UnitMaker"<|.ae "target"<|.call "closure_var" 1<|.call "UnitMaker.arg" 2<|.mk .list 0<|.new "CLast" "CLast.__init__" 5<|.ae "found"<|.setA "last"<|.ae "maker"<|.u (.attr "extra")<|.bL "list"<|.ae "found"<|.prim .append 1<|.pop<|.ae "found"<|.u (.attr "number")<|.ret⟩
noncomputable def u8:Fn:=⟨["maker","last"],
 .ae "last"<|.u (.attr "word")<|.glob "BRANCH"<|.b (.cmp .eq)<|.ite (.ae "maker"<|.ae "last"<|.u (.attr "to")<|.call "way_block" 2<|.ae "maker"<|.ae "last"<|.u (.attr "other")<|.call "way_block" 2<|.mk .list 2<|.aX "ways"<|.az (sv "if")<|.ae "maker"<|.bL "UnitMaker"<|.ae "last"<|.u (.attr "fun")<|.call "UnitMaker.arg" 2<|.mk .list 0<|.az .none<|.ae "ways"<|.new "CLast" "CLast.__init__" 5<|.ret) .done<|.ae "last"<|.u (.attr "word")<|.glob "JUMP"<|.b (.cmp .eq)<|.ite (.ae "maker"<|.u (.attr "layout")<|.bL "Layout"<|.ae "last"<|.u (.attr "to")<|.call "Layout.is_root" 2<|.ite (.az (sv "give")<|.az .none<|.ae "maker"<|.bL "UnitMaker"<|.ae "last"<|.u (.attr "args")<|.call "UnitMaker.args" 2<|.ae "maker"<|.bL "UnitMaker"<|.ae "last"<|.u (.attr "to")<|.call "closure_var" 1<|.call "UnitMaker.arg" 2<|.mk .list 0<|.new "CLast" "CLast.__init__" 5<|.ret) .done<|.az (sv "goto")<|.az .none<|.ae "maker"<|.bL "UnitMaker"<|.ae "last"<|.u (.attr "args")<|.call "UnitMaker.args" 2<|.az .none<|.ae "maker"<|.u (.attr "places")<|.ae "last"<|.u (.attr "to")<|.b .idx<|.mk .list 1<|.new "CLast" "CLast.__init__" 5<|.ret) .done<|.ae "last"<|.u (.attr "word")<|.glob "GIVE"<|.b (.cmp .eq)<|.ite (.az (sv "give")<|.az .none<|.ae "maker"<|.bL "UnitMaker"<|.ae "last"<|.u (.attr "args")<|.call "UnitMaker.args" 2<|.ae "maker"<|.bL "UnitMaker"<|.ae "last"<|.u (.attr "var")<|.call "UnitMaker.arg" 2<|.mk .list 0<|.new "CLast" "CLast.__init__" 5<|.ret) .done<|.ae "last"<|.u (.attr "to")<|.az (.int 0)<|.b (.cmp .ge)<|.ite (.ae "last"<|.u (.attr "to")<|.call "closure_var" 1<|.done) (.ae "last"<|.u (.attr "var")<|.done)<|.aX "var"<|.az (sv "call")<|.ae "maker"<|.bL "UnitMaker"<|.ae "last"<|.u (.attr "fun")<|.call "UnitMaker.arg" 2<|.ae "maker"<|.bL "UnitMaker"<|.ae "last"<|.u (.attr "args")<|.call "UnitMaker.args" 2<|.ae "maker"<|.bL "UnitMaker"<|.ae "var"<|.call "UnitMaker.arg" 2<|.mk .list 0<|.new "CLast" "CLast.__init__" 5<|.ret⟩
noncomputable def sI:Fn:=⟨["maker","label","number"],
 .ae "maker"<|.u (.attr "layout")<|.u (.attr "program")<|.bL "KProgram"<|.ae "label"<|.call "KProgram.block" 2<|.aX "block"<|.ae "label"<|.ae "maker"<|.u (.attr "root")<|.b (.cmp .ne)<|.ite (.ae "block"<|.u (.attr "params")<|.comp ["var"] .seq (.az (.bool true) .done) (.ae "maker"<|.u (.attr "slots")<|.ae "var"<|.b .idx<|.done)<|.done) (.mk .list 0<|.done)<|.aX "params"<|.ae "number"<|.ae "params"<|.new "CBlock" "CBlock.__init__" 2<|.aX "found"<|.ae "block"<|.u (.attr "ops")<|.for ["op"] .seq (.ae "maker"<|.ae "op"<|.call "made_op" 2<|.aX "own"<|.ae "own"<|.az .none<|.b (.cmp .isNotNone)<|.ite (.ae "found"<|.u (.attr "ops")<|.bL "list"<|.ae "own"<|.prim .append 1<|.pop<|.done) .done<|.done)<|.ae "found"<|.u (.attr "ops")<|.bL "list"<|.ae "maker"<|.ae "label"<|.call "made_conts" 2<|.prim .extend 1<|.pop<|.ae "maker"<|.ae "block"<|.u (.attr "last")<|.call "made_last" 2<|.ae "found"<|.setA "last"<|.ae "found"<|.ret⟩
noncomputable def u7:Fn:=⟨["layout","root"],
 .ae "layout"<|.u (.attr "program")<|.bL "KProgram"<|.ae "root"<|.call "KProgram.block" 2<|.aX "block"<|.ae "layout"<|.u (.attr "numbers")<|.ae "root"<|.b .idx<|.ae "block"<|.u (.attr "sort")<|.glob "FUN"<|.b (.cmp .eq)<|.ite (.glob "PROC"<|.done) (.glob "CONT"<|.done)<|.new "CUnit" "CUnit.__init__" 2<|.aX "unit"<|.ae "block"<|.u (.attr "title")<|.ae "unit"<|.setA "name"<|.ae "layout"<|.ae "root"<|.ae "unit"<|.new "UnitMaker" "UnitMaker.__init__" 3<|.aX "maker"<|.ae "maker"<|.u (.attr "captured")<|.u .len<|.ae "unit"<|.setA "captured"<|.ae "maker"<|.call "begin_unit" 1<|.pop<|.ae "maker"<|.call "give_slots" 1<|.aX "members"<|.ae "members"<|.u .len<|.for ["at"] .range (.ae "unit"<|.u (.attr "blocks")<|.bL "list"<|.ae "maker"<|.ae "members"<|.ae "at"<|.b .idx<|.ae "at"<|.call "made_block" 3<|.prim .append 1<|.pop<|.done)<|.ae "unit"<|.u (.attr "blocks")<|.bL "list"<|.ae "maker"<|.u (.attr "extra")<|.prim .extend 1<|.pop<|.ae "unit"<|.ret⟩
noncomputable def wH:Fn:=⟨["program"],
 .ae "program"<|.new "Layout" "Layout.__init__" 1<|.aX "layout"<|.ae "layout"<|.call "find_roots" 1<|.pop<|.ae "layout"<|.call "find_atoms" 1<|.pop<|.ae "layout"<|.call "find_free" 1<|.pop<|.ae "program"<|.u (.attr "entry")<|.mk .list 1<|.ae "layout"<|.u (.attr "roots")<|.u .sorted<|.comp ["label"] .seq (.ae "label"<|.ae "program"<|.u (.attr "entry")<|.b (.cmp .ne)<|.done) (.ae "label"<|.done)<|.b (.bin .add)<|.aX "roots"<|.ae "roots"<|.u .len<|.for ["at"] .range (.ae "at"<|.ae "layout"<|.u (.attr "numbers")<|.ae "roots"<|.ae "at"<|.b .idx<|.dj<|.done)<|.ae "layout"<|.ret⟩
noncomputable def Cm:Fn:=⟨["program"],
 .ae "program"<|.call "laid_out" 1<|.aX "layout"<|.new "CProgram" "CProgram.__init__" 0<|.aX "found"<|.ae "layout"<|.u (.attr "numbers")<|.ae "layout"<|.u (.attr "numbers")<|.b .sortedBy<|.for ["root"] .seq (.ae "found"<|.u (.attr "units")<|.bL "list"<|.ae "layout"<|.ae "root"<|.call "made_unit" 2<|.prim .append 1<|.pop<|.done)<|.ae "found"<|.ret⟩
noncomputable def wG:Fn:=⟨["script"],
 .ae "script"<|.u (.x_ 24)<|.comp ["cell"] .seq (.az (.bool true) .done) (.ae "cell"<|.u .abs<|.az (.int (10 ^ 60))<|.b (.bin .mod)<|.done)<|.az (.int 7)<|.ir ["cells","mixed"]<|.ae "cells"<|.for ["cell"] .seq (.ae "mixed"<|.az (.int 31)<|.b (.bin .mul)<|.ae "cell"<|.b (.bin .add)<|.az (.int 3)<|.b (.bin .add)<|.az (.int 2147483647)<|.b (.bin .mod)<|.aX "mixed"<|.done)<|.ae "cells"<|.comp ["cell"] .seq (.ae "cell"<|.az (.int (10 ^ 9))<|.b (.cmp .ge)<|.done) (.ae "cell"<|.done)<|.ae "mixed"<|.mk .list 2<|.ret⟩
noncomputable def wF:Fn:=⟨["deck","many"],
 .loop (.ae "deck"<|.az (.int 0)<|.b .idx<|.u (.nilq true)<|.ite (.ae "deck"<|.az (.int 0)<|.b .idx<|.az (.int 0)<|.b .idx<|.az (.int 0)<|.b (.cmp .eq)<|.done) (.az (.bool false) .done)<|.done) (.ae "deck"<|.az (.int 0)<|.b .idx<|.bL "list"<|.az (.int 0)<|.prim .yo 1<|.pop<|.done)<|.ae "deck"<|.az (.int 0)<|.b .idx<|.u (.nilq true)<|.ite (.ae "deck"<|.az (.int 0)<|.b .idx<|.az (.int 0)<|.b .idx<|.ae "many"<|.b (.bin .mod)<|.aX "digit"<|.ae "deck"<|.az (.int 0)<|.b .idx<|.az (.int 0)<|.b .idx<|.ae "many"<|.b (.bin .fdiv)<|.ae "deck"<|.az (.int 0)<|.b .idx<|.az (.int 0)<|.dj<|.ae "digit"<|.ret) .done<|.ae "deck"<|.az (.int 1)<|.b .idx<|.az (.int 48271)<|.b (.bin .mul)<|.az (.int 11)<|.b (.bin .add)<|.az (.int 2147483647)<|.b (.bin .mod)<|.ae "deck"<|.az (.int 1)<|.dj<|.ae "deck"<|.az (.int 1)<|.b .idx<|.az (.int 64)<|.b (.bin .fdiv)<|.ae "many"<|.b (.bin .mod)<|.ret⟩
noncomputable def zh:Fn:=⟨["deck","items"],
 .ae "items"<|.ae "deck"<|.ae "items"<|.u .len<|.call "_law_draw" 2<|.b .idx<|.ret⟩
noncomputable def zi:Fn:=⟨["grown"],
 .ae "grown"<|.az (.int 1)<|.b .idx<|.az (.int 1)<|.b (.bin .add)<|.ae "grown"<|.az (.int 1)<|.dj<|.ae "grown"<|.az (.int 1)<|.b .idx<|.ret⟩
noncomputable def vd:Fn:=⟨["grown","sort","many","home","parent"],
 .ae "grown"<|.call "_law_new" 1<|.aX "label"<|.ae "label"<|.ae "sort"<|.ae "many"<|.comp ["turn"] .range (.az (.bool true) .done) (.ae "grown"<|.call "_law_new" 1<|.done)<|.az (.int (-1))<|.new "KBlock" "KBlock.__init__" 4<|.aX "own"<|.ae "parent"<|.ae "own"<|.setA "parent"<|.ae "sort"<|.az (sv "fun")<|.b (.cmp .eq)<|.ite (.ae "label"<|.done) (.ae "home"<|.done)<|.ae "own"<|.setA "home"<|.ae "sort"<|.az (sv "fun")<|.b (.cmp .eq)<|.ite (.ae "grown"<|.call "_law_new" 1<|.ae "own"<|.setA "var"<|.done) .done<|.ae "grown"<|.az (.int 0)<|.b .idx<|.bL "KProgram"<|.ae "own"<|.call "KProgram.put" 2<|.pop<|.ae "own"<|.ret⟩
noncomputable def vc:Fn:=⟨["grown","own","datum"],
 .ae "grown"<|.call "_law_new" 1<|.az (sv "const")<|.az (.int (-1))<|.mk .list 0<|.new "KOp" "KOp.__init__" 4<|.aX "op"<|.ae "datum"<|.ae "op"<|.setA "datum"<|.ae "own"<|.u (.attr "ops")<|.bL "list"<|.ae "op"<|.prim .append 1<|.pop<|.ae "op"<|.u (.attr "result")<|.mk .list 1<|.ret⟩
noncomputable def mv:Fn:=⟨["deck","grown","own","seen","todo","deep"],
 .ae "deck"<|.az (.int 2)<|.call "_law_draw" 2<|.az (.int 0)<|.b (.cmp .eq)<|.ite (.ae "grown"<|.az (sv "fun")<|.ae "deck"<|.az (.int 2)<|.call "_law_draw" 2<|.az (.int (-1))<|.ae "own"<|.u (.attr "label")<|.call "_law_block" 5<|.ae "grown"<|.call "_law_new" 1<|.ir ["child","result"]<|.ae "own"<|.u (.attr "ops")<|.bL "list"<|.ae "result"<|.ae "child"<|.u (.attr "label")<|.call "fun_op" 2<|.prim .append 1<|.pop<|.ae "todo"<|.bL "list"<|.ae "child"<|.ae "seen"<|.ae "child"<|.u (.attr "params")<|.b (.bin .add)<|.mk .list 0<|.ae "deep"<|.az (.int 1)<|.b (.bin .add)<|.mk .list 4<|.prim .append 1<|.pop<|.ae "result"<|.mk .list 1<|.ret) .done<|.az (.int 2)<|.comp ["turn"] .range (.az (.bool true) .done) (.ae "grown"<|.az (sv "fun")<|.az (.int 1)<|.az (.int (-1))<|.ae "own"<|.u (.attr "label")<|.call "_law_block" 5<|.done)<|.aX "pair"<|.ae "grown"<|.call "_law_new" 1<|.ae "grown"<|.call "_law_new" 1<|.mk .list 2<|.aX "results"<|.ae "own"<|.u (.attr "ops")<|.bL "list"<|.ae "results"<|.ae "pair"<|.comp ["child"] .seq (.az (.bool true) .done) (.ae "child"<|.u (.attr "label")<|.done)<|.call "fix_op" 2<|.prim .append 1<|.pop<|.ae "pair"<|.for ["child"] .seq (.ae "todo"<|.bL "list"<|.ae "child"<|.ae "seen"<|.ae "results"<|.b (.bin .add)<|.ae "child"<|.u (.attr "params")<|.b (.bin .add)<|.mk .list 0<|.ae "deep"<|.az (.int 1)<|.b (.bin .add)<|.mk .list 4<|.prim .append 1<|.pop<|.done)<|.ae "results"<|.ret⟩
noncomputable def Cj:Fn:=⟨["deck","grown","own","seen","todo","deep"],
 .ae "deck"<|.az (.int 8)<|.call "_law_draw" 2<|.aX "way"<|.ae "way"<|.az (.int 3)<|.b (.cmp .lt)<|.ite (.ae "grown"<|.ae "own"<|.az (.bool true)<|.az (.int 5)<|.glob "EMPTY"<|.mk .list 3<|.ae "way"<|.b .idx<|.call "_law_const" 3<|.ret) .done<|.ae "way"<|.az (.int 3)<|.b (.cmp .eq)<|.ite (.ae "grown"<|.ae "own"<|.az (.int 1)<|.glob "EMPTY"<|.new "Pair" "Pair.__init__" 2<|.call "_law_const" 3<|.ret) .done<|.ae "way"<|.az (.int 5)<|.b (.cmp .gt)<|.ite (.ae "grown"<|.az (.int 1)<|.b .idx<|.az (.int 60)<|.b (.cmp .lt)<|.done) (.az (.bool false) .done)<|.ite (.ae "deck"<|.ae "grown"<|.ae "own"<|.ae "seen"<|.ae "todo"<|.ae "deep"<|.call "_law_procedures" 6<|.ret) .done<|.ae "way"<|.az (.int 4)<|.b (.cmp .eq)<|.ite (.ae "own"<|.u (.attr "ops")<|.bL "list"<|.az (.int (-1))<|.az (sv "setglobal")<|.az (.int 3)<|.ae "deck"<|.ae "seen"<|.call "_law_one" 2<|.mk .list 1<|.new "KOp" "KOp.__init__" 4<|.prim .append 1<|.pop<|.mk .list 0<|.ret) .done<|.ae "grown"<|.call "_law_new" 1<|.az (sv "prim")<|.az (.int 9)<|.ae "deck"<|.ae "seen"<|.call "_law_one" 2<|.ae "deck"<|.ae "seen"<|.call "_law_one" 2<|.mk .list 2<|.new "KOp" "KOp.__init__" 4<|.aX "op"<|.ae "own"<|.u (.attr "ops")<|.bL "list"<|.ae "op"<|.prim .append 1<|.pop<|.ae "op"<|.u (.attr "result")<|.mk .list 1<|.ret⟩
noncomputable def sM:Fn:=⟨["deck","grown","own","seen","joins","todo","deep","is_joined"],
 .ae "joins"<|.u .cN<|.aX "known"<|.ae "is_joined"<|.ite (.ae "grown"<|.az (sv "cont")<|.az (.int 1)<|.ae "own"<|.u (.attr "home")<|.ae "own"<|.u (.attr "label")<|.call "_law_block" 5<|.aX "join"<|.ae "todo"<|.bL "list"<|.ae "join"<|.ae "seen"<|.ae "join"<|.u (.attr "params")<|.b (.bin .add)<|.ae "deck"<|.az (.int 3)<|.call "_law_draw" 2<|.az (.int 2)<|.b (.cmp .eq)<|.ite (.ae "joins"<|.ae "join"<|.mk .list 1<|.b (.bin .add)<|.done) (.ae "joins"<|.done)<|.ae "deep"<|.az (.int 1)<|.b (.bin .add)<|.mk .list 4<|.prim .append 1<|.pop<|.ae "known"<|.bL "list"<|.ae "join"<|.prim .append 1<|.pop<|.done) .done<|.az (.int 2)<|.comp ["turn"] .range (.az (.bool true) .done) (.ae "grown"<|.az (sv "cont")<|.az (.int 0)<|.ae "own"<|.u (.attr "home")<|.ae "own"<|.u (.attr "label")<|.call "_law_block" 5<|.done)<|.aX "ways"<|.ae "ways"<|.for ["child"] .seq (.ae "todo"<|.bL "list"<|.ae "child"<|.ae "seen"<|.ae "known"<|.ae "deep"<|.az (.int 1)<|.b (.bin .add)<|.mk .list 4<|.prim .append 1<|.pop<|.done)<|.ae "deck"<|.ae "seen"<|.call "_law_one" 2<|.ae "ways"<|.az (.int 0)<|.b .idx<|.u (.attr "label")<|.ae "ways"<|.az (.int 1)<|.b .idx<|.u (.attr "label")<|.call "branch_last" 3<|.ae "own"<|.setA "last"<|.done⟩
noncomputable def zj:Fn:=⟨["deck","grown","own","seen","joins","todo","deep"],
 .ae "deck"<|.ae "grown"<|.az (.int 1)<|.b .idx<|.az (.int 60)<|.b (.cmp .lt)<|.ite (.ae "deep"<|.az (.int 6)<|.b (.cmp .lt)<|.done) (.az (.bool false) .done)<|.ite (.az (.int 6)<|.done) (.az (.int 3)<|.done)<|.call "_law_draw" 2<|.aX "way"<|.ae "grown"<|.az (.int 0)<|.b .idx<|.bL "KProgram"<|.ae "own"<|.u (.attr "home")<|.call "KProgram.block" 2<|.u (.attr "var")<|.aX "k"<|.ae "way"<|.az (.int 1)<|.b (.cmp .eq)<|.ite (.ae "deck"<|.ae "seen"<|.call "_law_one" 2<|.ae "deck"<|.ae "seen"<|.call "_law_one" 2<|.mk .list 1<|.az (.int (-1))<|.ae "k"<|.call "call_last" 4<|.ae "own"<|.setA "last"<|.done) (.ae "way"<|.az (.int 2)<|.b (.cmp .eq)<|.ite (.ae "joins"<|.u (.nilq true)<|.done) (.az (.bool false) .done)<|.ite (.ae "joins"<|.az (.int (-1))<|.ae "deck"<|.ae "joins"<|.u .len<|.call "_law_draw" 2<|.b (.bin .sub)<|.b .idx<|.u (.attr "label")<|.ae "deck"<|.ae "seen"<|.call "_law_one" 2<|.mk .list 1<|.call "jump_last" 2<|.ae "own"<|.setA "last"<|.done) (.ae "way"<|.az (.int 3)<|.b (.cmp .eq)<|.ite (.ae "grown"<|.az (sv "cont")<|.az (.int 1)<|.ae "own"<|.u (.attr "home")<|.ae "own"<|.u (.attr "label")<|.call "_law_block" 5<|.aX "child"<|.ae "todo"<|.bL "list"<|.ae "child"<|.ae "seen"<|.ae "child"<|.u (.attr "params")<|.b (.bin .add)<|.ae "joins"<|.ae "deep"<|.az (.int 1)<|.b (.bin .add)<|.mk .list 4<|.prim .append 1<|.pop<|.ae "deck"<|.ae "seen"<|.call "_law_one" 2<|.ae "deck"<|.ae "seen"<|.call "_law_one" 2<|.mk .list 1<|.ae "child"<|.u (.attr "label")<|.az (.int (-1))<|.call "call_last" 4<|.ae "own"<|.setA "last"<|.done) (.ae "way"<|.az (.int 3)<|.b (.cmp .gt)<|.ite (.ae "deck"<|.ae "grown"<|.ae "own"<|.ae "seen"<|.ae "joins"<|.ae "todo"<|.ae "deep"<|.ae "way"<|.az (.int 5)<|.b (.cmp .eq)<|.call "_law_choice" 8<|.pop<|.done) (.ae "k"<|.ae "deck"<|.ae "seen"<|.call "_law_one" 2<|.mk .list 1<|.call "give_last" 2<|.ae "own"<|.setA "last"<|.done)<|.done)<|.done)<|.done)<|.done⟩
noncomputable def qp:Fn:=⟨["deck"],
 .az (.int 1)<|.new "KProgram" "KProgram.__init__" 1<|.az (.int 0)<|.mk .list 2<|.aX "grown"<|.ae "grown"<|.az (sv "fun")<|.az (.int 0)<|.az (.int (-1))<|.az (.int (-1))<|.call "_law_block" 5<|.mk .list 0<|.ir ["entry","todo"]<|.ae "todo"<|.bL "list"<|.ae "entry"<|.ae "grown"<|.ae "entry"<|.az (.int 5)<|.call "_law_const" 3<|.mk .list 0<|.az (.int 0)<|.mk .list 4<|.prim .append 1<|.pop<|.az (.int 120)<|.for ["turn"] .range (.ae "todo"<|.u (.nilq false)<|.ite (.brk) .done<|.ae "todo"<|.bL "list"<|.prim .pop 0<|.zJ ["own","seen","joins","deep"]<|.ae "deck"<|.az (.int 3)<|.call "_law_draw" 2<|.for ["step"] .range (.ae "seen"<|.ae "deck"<|.ae "grown"<|.ae "own"<|.ae "seen"<|.ae "todo"<|.ae "deep"<|.call "_law_op" 6<|.b (.bin .add)<|.aX "seen"<|.done)<|.ae "deck"<|.ae "grown"<|.ae "own"<|.ae "seen"<|.ae "joins"<|.ae "todo"<|.ae "deep"<|.call "_law_end" 7<|.pop<|.done)<|.ae "grown"<|.az (.int 0)<|.b .idx<|.ret⟩
noncomputable def u_:Fn:=⟨["own"],
 .ae "own"<|.u (.attr "last")<|.u (.attr "to")<|.ae "own"<|.u (.attr "last")<|.u (.attr "other")<|.mk .tup 2<|.comp ["label"] .seq (.ae "label"<|.az (.int 0)<|.b (.cmp .ge)<|.done) (.ae "label"<|.done)<|.ret⟩
noncomputable def wE:Fn:=⟨["program","units","label"],
 .ae "label"<|.aX "here"<|.ae "program"<|.u (.attr "table")<|.u .len<|.for ["turn"] .range (.ae "here"<|.ae "units"<|.b (.cmp .isin)<|.ite (.ae "here"<|.ret) .done<|.ae "program"<|.bL "KProgram"<|.ae "here"<|.call "KProgram.block" 2<|.u (.attr "parent")<|.aX "here"<|.done)<|.ae "here"<|.ret⟩
noncomputable def u9:Fn:=⟨["program"],
 .ae "program"<|.bL "KProgram"<|.call "KProgram.labels" 1<|.comp ["label"] .seq (.az (.bool true) .done) (.ae "program"<|.bL "KProgram"<|.ae "label"<|.call "KProgram.block" 2<|.done)<|.aX "rows"<|.ae "rows"<|.comp ["own"] .seq (.ae "own"<|.u (.attr "sort")<|.az (sv "fun")<|.b (.cmp .eq)<|.done) (.ae "own"<|.u (.attr "label")<|.done)<|.aX "units"<|.ae "units"<|.ae "rows"<|.comp ["own"] .seq (.ae "own"<|.u (.attr "last")<|.u (.attr "word")<|.az (sv "call")<|.b (.cmp .eq)<|.ite (.ae "own"<|.u (.attr "last")<|.u (.attr "to")<|.az (.int 0)<|.b (.cmp .ge)<|.done) (.az (.bool false) .done)<|.done) (.ae "own"<|.u (.attr "last")<|.u (.attr "to")<|.done)<|.b (.bin .add)<|.aX "units"<|.ae "rows"<|.u .len<|.for ["turn"] .range (.mk .list 0<|.aX "more"<|.ae "rows"<|.for ["own"] .seq (.ae "own"<|.call "_law_leads" 1<|.for ["label"] .seq (.ae "label"<|.ae "units"<|.b (.cmp .dw)<|.ite (.ae "program"<|.ae "units"<|.ae "label"<|.call "_law_unit" 3<|.ae "program"<|.ae "units"<|.ae "own"<|.u (.attr "label")<|.call "_law_unit" 3<|.b (.cmp .ne)<|.done) (.az (.bool false) .done)<|.ite (.ae "more"<|.bL "list"<|.ae "label"<|.prim .append 1<|.pop<|.done) .done<|.done)<|.done)<|.ae "more"<|.u (.nilq false)<|.ite (.ae "units"<|.u .sorted<|.ret) .done<|.ae "units"<|.bL "list"<|.ae "more"<|.ae "turn"<|.ae "more"<|.u .len<|.b (.bin .mod)<|.b .idx<|.prim .append 1<|.pop<|.done)<|.ae "units"<|.u .sorted<|.ret⟩
noncomputable def vb:Fn:=⟨["program","units"],
 .ae "program"<|.bL "KProgram"<|.call "KProgram.labels" 1<|.comp ["label"] .seq (.az (.bool true) .done) (.ae "program"<|.bL "KProgram"<|.ae "label"<|.call "KProgram.block" 2<|.done)<|.mk .dict 0<|.ir ["rows","found"]<|.ae "units"<|.for ["root"] .seq (.mk .list 0<|.mk .list 0<|.mk .list 0<|.ir ["reads","gives","makes"]<|.ae "rows"<|.comp ["one"] .seq (.ae "program"<|.ae "units"<|.ae "one"<|.u (.attr "label")<|.call "_law_unit" 3<|.ae "root"<|.b (.cmp .eq)<|.done) (.ae "one"<|.done)<|.for ["own"] .seq (.ae "rows"<|.comp ["one"] .seq (.ae "one"<|.u (.attr "label")<|.ae "units"<|.b (.cmp .isin)<|.ite (.ae "one"<|.u (.attr "sort")<|.az (sv "cont")<|.b (.cmp .eq)<|.ite (.ae "one"<|.u (.attr "parent")<|.ae "own"<|.u (.attr "label")<|.b (.cmp .eq)<|.done) (.az (.bool false) .done) .done) (.az (.bool false) .done)<|.done) (.ae "one"<|.u (.attr "label")<|.done)<|.aX "conts"<|.ae "gives"<|.ae "own"<|.u (.attr "params")<|.b (.bin .add)<|.ae "own"<|.u (.attr "var")<|.mk .list 1<|.b (.bin .add)<|.ae "conts"<|.comp ["label"] .seq (.az (.bool true) .done) (.ae "label"<|.call "closure_var" 1<|.done)<|.b (.bin .add)<|.aX "gives"<|.ae "makes"<|.ae "conts"<|.b (.bin .add)<|.aX "makes"<|.ae "own"<|.u (.attr "ops")<|.for ["op"] .seq (.ae "reads"<|.ae "op"<|.u (.attr "args")<|.b (.bin .add)<|.ae "makes"<|.ae "op"<|.u (.attr "labels")<|.b (.bin .add)<|.ae "gives"<|.ae "op"<|.u (.attr "result")<|.mk .list 1<|.b (.bin .add)<|.ae "op"<|.u (.attr "results")<|.b (.bin .add)<|.ir ["reads","makes","gives"]<|.done)<|.ae "reads"<|.ae "own"<|.u (.attr "last")<|.u (.attr "args")<|.b (.bin .add)<|.ae "own"<|.u (.attr "last")<|.u (.attr "fun")<|.ae "own"<|.u (.attr "last")<|.u (.attr "var")<|.mk .list 2<|.b (.bin .add)<|.aX "reads"<|.ae "reads"<|.ae "own"<|.call "_law_leads" 1<|.comp ["label"] .seq (.ae "label"<|.ae "units"<|.b (.cmp .isin)<|.done) (.ae "label"<|.call "closure_var" 1<|.done)<|.b (.bin .add)<|.aX "reads"<|.done)<|.ae "reads"<|.comp ["var"] .seq (.ae "var"<|.az (.int (-1))<|.b (.cmp .ne)<|.done) (.ae "var"<|.done)<|.ae "gives"<|.ae "makes"<|.mk .list 3<|.ae "found"<|.ae "root"<|.dj<|.done)<|.ae "found"<|.ret⟩
noncomputable def nG:Fn:=⟨["facts","root","var"],
 .ae "root"<|.mk .list 1<|.aX "met"<|.ae "facts"<|.u .len<|.for ["turn"] .range (.ae "turn"<|.ae "met"<|.u .len<|.b (.cmp .lt)<|.ite (.ae "facts"<|.ae "met"<|.ae "turn"<|.b .idx<|.b .idx<|.zJ ["reads","gives","makes"]<|.ae "var"<|.ae "gives"<|.b (.cmp .dw)<|.ite (.ae "var"<|.ae "reads"<|.b (.cmp .isin)<|.ite (.az (.bool true)<|.ret) .done<|.ae "met"<|.ae "makes"<|.comp ["label"] .seq (.ae "label"<|.ae "met"<|.b (.cmp .dw)<|.done) (.ae "label"<|.done)<|.b (.bin .add)<|.aX "met"<|.done) .done<|.done) .done<|.done)<|.az (.bool false)<|.ret⟩
noncomputable def sK:Fn:=⟨["program"],
 .mk .list 0<|.aX "found"<|.ae "program"<|.bL "KProgram"<|.call "KProgram.labels" 1<|.for ["label"] .seq (.ae "program"<|.bL "KProgram"<|.ae "label"<|.call "KProgram.block" 2<|.u (.attr "ops")<|.for ["op"] .seq (.ae "op"<|.u (.attr "word")<|.az (sv "const")<|.b (.cmp .eq)<|.ite (.ae "op"<|.u (.attr "datum")<|.u (.cK "Pair")<|.u .not<|.done) (.az (.bool false) .done)<|.ite (.ae "found"<|.bL "list"<|.ae "op"<|.u (.attr "result")<|.prim .append 1<|.pop<|.done) .done<|.done)<|.done)<|.ae "found"<|.u .sorted<|.ret⟩
noncomputable def sJ:Fn:=⟨["program","facts","root"],
 .ae "program"<|.call "_law_simple" 1<|.mk .list 0<|.ir ["simple","wanted"]<|.ae "facts"<|.for ["own"] .seq (.ae "facts"<|.ae "own"<|.b .idx<|.az (.int 0)<|.b .idx<|.for ["var"] .seq (.ae "var"<|.ae "simple"<|.b (.cmp .dw)<|.ite (.ae "var"<|.ae "wanted"<|.b (.cmp .dw)<|.ite (.ae "facts"<|.ae "root"<|.ae "var"<|.call "_law_is_needed" 3<|.done) (.az (.bool false) .done) .done) (.az (.bool false) .done)<|.ite (.ae "wanted"<|.bL "list"<|.ae "var"<|.prim .append 1<|.pop<|.done) .done<|.done)<|.done)<|.ae "wanted"<|.u .sorted<|.ret⟩
noncomputable def sL:Fn:=⟨["unit"],
 .mk .list 0<|.mk .list 0<|.ir ["reads","making"]<|.ae "unit"<|.u (.attr "blocks")<|.for ["own"] .seq (.ae "own"<|.u (.attr "ops")<|.for ["op"] .seq (.ae "op"<|.u (.attr "op")<|.az (sv "closefix")<|.b (.cmp .eq)<|.ite (.ae "op"<|.u (.attr "data")<|.done) (.ae "op"<|.u (.attr "slot")<|.ae "op"<|.u (.attr "data")<|.ae "op"<|.u (.attr "args")<|.mk .tup 3<|.mk .list 1<|.done)<|.aX "lines"<|.ae "lines"<|.for ["slot","number","args"] .seq (.ae "reads"<|.ae "args"<|.b (.bin .add)<|.aX "reads"<|.ae "op"<|.u (.attr "op")<|.az (sv "close")<|.az (sv "closefix")<|.mk .tup 2<|.b (.cmp .isin)<|.ite (.ae "making"<|.bL "list"<|.ae "number"<|.ae "args"<|.u .len<|.mk .list 2<|.prim .append 1<|.pop<|.done) .done<|.done)<|.done)<|.ae "reads"<|.ae "own"<|.u (.attr "last")<|.u (.attr "args")<|.b (.bin .add)<|.ae "own"<|.u (.attr "last")<|.u (.attr "head")<|.ae "own"<|.u (.attr "last")<|.u (.attr "k")<|.mk .tup 2<|.comp ["arg"] .seq (.ae "arg"<|.az .none<|.b (.cmp .isNotNone)<|.done) (.ae "arg"<|.done)<|.b (.bin .add)<|.aX "reads"<|.done)<|.ae "reads"<|.ae "making"<|.mk .tup 2<|.ret⟩
noncomputable def ij:Fn:=⟨["program","order","wanted"],
 .ae "program"<|.call "closed" 1<|.aX "answer"<|.ae "answer"<|.u (.attr "start")<|.az (.int 0)<|.b (.cmp .ne)<|.ite (.az (.bool true) .done) (.ae "answer"<|.u (.attr "units")<|.comp ["unit"] .seq (.az (.bool true) .done) (.ae "unit"<|.u (.attr "captured")<|.done)<|.ae "order"<|.comp ["root"] .seq (.az (.bool true) .done) (.ae "wanted"<|.ae "root"<|.b .idx<|.u .len<|.done)<|.b (.cmp .ne)<|.done)<|.ite (.az (.bool false)<|.ret) .done<|.ae "answer"<|.u (.attr "units")<|.az (.int 0)<|.b .idx<|.u (.attr "captured")<|.az (.int 0)<|.b (.cmp .ne)<|.ite (.az (.bool false)<|.ret) .done<|.ae "answer"<|.u (.attr "units")<|.for ["unit"] .seq (.ae "unit"<|.call "_law_handed" 1<|.zJ ["reads","making"]<|.ae "reads"<|.comp ["arg"] .seq (.ae "arg"<|.az (.int 0)<|.b .idx<|.az (sv "free")<|.b (.cmp .eq)<|.done) (.ae "arg"<|.az (.int 1)<|.b .idx<|.done)<|.aX "spots"<|.ae "unit"<|.u (.attr "captured")<|.comp ["at"] .range (.ae "at"<|.ae "spots"<|.b (.cmp .dw)<|.done) (.ae "at"<|.done)<|.u (.nilq true)<|.ite (.az (.bool false)<|.ret) .done<|.ae "spots"<|.comp ["at"] .seq (.ae "at"<|.ae "unit"<|.u (.attr "captured")<|.b (.cmp .ge)<|.done) (.ae "at"<|.done)<|.u (.nilq true)<|.ite (.az (.bool false)<|.ret) .done<|.ae "making"<|.comp ["number","many"] .seq (.ae "answer"<|.u (.attr "units")<|.ae "number"<|.b .idx<|.u (.attr "captured")<|.ae "many"<|.b (.cmp .ne)<|.done) (.az (.int 1)<|.done)<|.u (.nilq true)<|.ite (.az (.bool false)<|.ret) .done<|.done)<|.az (.bool true)<|.ret⟩
noncomputable def Lq:Fn:=⟨["script"],
 .ae "script"<|.call "_law_deck" 1<|.aX "deck"<|.az (.int 2)<|.for ["turn"] .range (.ae "deck"<|.call "_law_program" 1<|.aX "program"<|.ae "program"<|.call "_law_units" 1<|.aX "units"<|.ae "program"<|.ae "units"<|.call "_law_facts" 2<|.ae "program"<|.call "laid_out" 1<|.ir ["facts","plan"]<|.ae "units"<|.comp ["root"] .seq (.az (.bool true) .done) (.ae "root"<|.ae "program"<|.ae "facts"<|.ae "root"<|.call "_law_wanted" 3<|.mk .tup 2<|.done)<|.u .dictOf<|.aX "wanted"<|.ae "plan"<|.u (.attr "roots")<|.u .sorted<|.ae "units"<|.b (.cmp .ne)<|.ite (.az (.bool true) .done) (.ae "plan"<|.u (.attr "atoms")<|.u .sorted<|.ae "program"<|.call "_law_simple" 1<|.b (.cmp .ne)<|.done)<|.ite (.az (.bool false)<|.ret) .done<|.ae "units"<|.comp ["root"] .seq (.az (.bool true) .done) (.ae "plan"<|.u (.attr "free")<|.ae "root"<|.b .idx<|.u .sorted<|.done)<|.ae "units"<|.comp ["root"] .seq (.az (.bool true) .done) (.ae "wanted"<|.ae "root"<|.b .idx<|.done)<|.b (.cmp .ne)<|.ite (.az (.bool false)<|.ret) .done<|.az (.int 1)<|.mk .list 1<|.ae "units"<|.comp ["root"] .seq (.ae "root"<|.az (.int 1)<|.b (.cmp .ne)<|.done) (.ae "root"<|.done)<|.b (.bin .add)<|.aX "order"<|.ae "plan"<|.u (.attr "numbers")<|.ae "order"<|.comp ["at","root"] .enum (.az (.bool true) .done) (.ae "root"<|.ae "at"<|.mk .tup 2<|.done)<|.u .dictOf<|.b (.cmp .ne)<|.ite (.az (.bool false)<|.ret) .done<|.ae "program"<|.ae "order"<|.ae "wanted"<|.call "_law_are_units_right" 3<|.u .not<|.ite (.az (.bool true) .done) (.ae "program"<|.ae "units"<|.call "_law_facts" 2<|.ae "facts"<|.b (.cmp .ne)<|.done)<|.ite (.az (.bool false)<|.ret) .done<|.done)<|.az (.bool true)<|.ret⟩
noncomputable def fns:List (String×Fn):=[("Pair.__init__",vi),
 ("kind_word",ve),
 ("is_atom",zm),
 ("KOp.__init__",wJ),
 ("KOp.given",vj),
 ("fun_op",Ck),
 ("fix_op",Cl),
 ("KLast.__init__",sS),
 ("KLast.reads",qv),
 ("KLast.targets",nJ),
 ("call_last",vh),
 ("jump_last",vf),
 ("give_last",vg),
 ("branch_last",qt),
 ("KBlock.__init__",qw),
 ("KBlock.binders",mE),
 ("KBlock.given",pQ),
 ("KBlock.takes_any",ku),
 ("KProgram.__init__",nI),
 ("KProgram.labels",lj),
 ("KProgram.block",mD),
 ("KProgram.put",pP),
 ("makers",Ci),
 ("COp.__init__",wK),
 ("CLast.__init__",sU),
 ("CBlock.__init__",qx),
 ("CUnit.__init__",sT),
 ("CProgram.__init__",nK),
 ("closure_var",qr),
 ("Layout.__init__",qu),
 ("Layout.is_root",mC),
 ("Layout.unit_of",mz),
 ("Layout.members",mA),
 ("Layout.made_at",mB),
 ("find_roots",sP),
 ("find_atoms",sQ),
 ("last_reads",sN),
 ("own_reads",u5),
 ("own_given",u6),
 ("inner_units",qq),
 ("find_free",i4),
 ("UnitMaker.__init__",mx),
 ("UnitMaker.slot",mw),
 ("UnitMaker.arg",nH),
 ("UnitMaker.args",my),
 ("UnitMaker.captured_args",fZ),
 ("begin_unit",sR),
 ("give_slots",sO),
 ("made_op",zd),
 ("fix_rows",wI),
 ("made_conts",sH),
 ("way_block",uZ),
 ("made_last",u8),
 ("made_block",sI),
 ("made_unit",u7),
 ("laid_out",wH),
 ("closed",Cm),
 ("_law_deck",wG),
 ("_law_draw",wF),
 ("_law_one",zh),
 ("_law_new",zi),
 ("_law_block",vd),
 ("_law_const",vc),
 ("_law_procedures",mv),
 ("_law_op",Cj),
 ("_law_choice",sM),
 ("_law_end",zj),
 ("_law_program",qp),
 ("_law_leads",u_),
 ("_law_unit",wE),
 ("_law_units",u9),
 ("_law_facts",vb),
 ("_law_is_needed",nG),
 ("_law_simple",sK),
 ("_law_wanted",sJ),
 ("_law_handed",sL),
 ("_law_are_units_right",ij),
 ("law",Lq)]
end
section
noncomputable abbrev Ext(h h':Hp):Prop:=∀a,h a≠none->h' a=h a
structure Alloc(h:Hp)(a:Nat)(o:O)(h':Hp):Prop where
 new:h a=none
 eq:h'=bc h a o
structure Put(h:Hp)(a:Nat)(o:O)(h':Hp):Prop where
 eq:h'=bc h a o
theorem iI{α β:Type}[DecidableEq α]{f:α->Option β}{a:α}{b:β}:bc f a b a=some b:=if_pos rfl
theorem fH{α β:Type}[DecidableEq α]{f:α->Option β}{a x:α}{b:β}(h:x≠a):bc f a b x=f x:=if_neg h
theorem aF{α:Type}{o:Option α}{x:α}(e:o=some x):o≠none:=λn=>nomatch e.symm.trans n
theorem Ext.refl{h:Hp}:Ext h h:=λ_ _=>rfl
theorem Ext.at{h h':Hp}(x:Ext h h'){a:Nat}{o:O}(e:h a=some o):h' a=some o:=(x a (aF e)).trans e
theorem Ext.trans{h h' cR:Hp}(x:Ext h h')(y:Ext h' cR):Ext h cR:=λa n=>(y a (x a n▸n)).trans (x a n)
theorem Ext.none{h h':Hp}(x:Ext h h'){a:Nat}(e:h' a=Option.none):h a=Option.none:=XC λn=>n ((x a n).symm.trans e)
theorem aB{h:Hp}{a x:Nat}{o:O}(n:h a=none)(f:h x=some o):x≠a:=λe=>aF f (e▸n)
theorem Alloc.at{h h':Hp}{a:Nat}{o:O}(x:Alloc h a o h'):h' a=some o:=x.eq▸iI
theorem Alloc.ext{h h':Hp}{a:Nat}{o:O}(x:Alloc h a o h'):Ext h h':=λb n=>x.eq▸fH λe=>n (e▸x.new)
theorem Alloc.im{j h h':Hp}{a:Nat}{o:O}(x:Alloc h a o h')(e:Ext j h):Ext j h':=e.trans x.ext
theorem Alloc.ne{h h':Hp}{a x:Nat}{o o':O}(A:Alloc h a o h')(f:h x=some o'):x≠a:=aB A.new f
theorem Put.at{h h':Hp}{a:Nat}{o:O}(x:Put h a o h'):h' a=some o:=x.eq▸iI
theorem Put.ne{h h':Hp}{a:Nat}{o:O}(x:Put h a o h'){b:Nat}(n:b≠a):h' b=h b:=x.eq▸fH n
theorem Put.to{h h':Hp}{a b:Nat}{o o':O}(x:Put h a o h')(n:b≠a)(e:h b=some o'):h' b=some o':=(x.ne n).trans e
theorem Put.im{j h h':Hp}{a:Nat}{o:O}(x:Put h a o h')(e:Ext j h)(n:j a=none):Ext j h':=λb m=>(x.ne λ(z:b=a)=>m (z▸n)).trans (e b m)
noncomputable def aG(a:Nat)(h:Hp):Hp:=λx=>if x=a then none else h x
section
variable {h:Hp}
theorem ao{a:Nat}:aG a h a=none:=if_pos rfl
theorem hide_ne{a x:Nat}(n:x≠a):aG a h x=h x:=if_neg n
theorem aE{a x:Nat}{o:O}(n:x≠a)(e:h x=some o):aG a h x=some o:=(hide_ne n).trans e
theorem aU{a:Nat}:Ext (aG a h) h:=λx hx=>(hide_ne λ(z:x=a)=>hx (z▸ao)).symm
theorem bg{j:Hp}{a:Nat}(e:Ext j h)(n:j a=none):Ext j (aG a h):=λx hx=>(hide_ne λ(z:x=a)=>hx (z▸n)).trans (e x hx)
end
section
variable {Φ:Calls}{γ:String->Option V}{k b c:C}{ρ:Lo}{st:List V}{h:Hp}{Q:Po}{a:Nat}{v w:V}{i:Int}{xs:List V}{es:List (Int×V)}
noncomputable def tt(Φ:Calls)(γ:String->Option V)(k:C)(Q:Po):Po:=sq (λρ st h=>wp Φ γ k ρ st h Q) Q
theorem r_done_sq(q:wp Φ γ k ρ st h Q):wp Φ γ .done ρ st h (tt Φ γ k Q):=q
theorem r_done_val{R:V->Hp->Prop}(q:R v h):wp Φ γ .done ρ [v] h (gF R):=⟨rfl,v,rfl,q⟩
theorem r_done_ret{R:V->Hp->Prop}(q:R .none h):wp Φ γ .done ρ st h (tv R):=q
theorem r_ret_sq(q:wp Φ γ .ret ρ (v::st) h Q):wp Φ γ .ret ρ (v::st) h (tt Φ γ k Q):=q
theorem r_ret{R:V->Hp->Prop}(q:R v h):wp Φ γ .ret ρ (v::st) h (tv R):=q
theorem r_lit(q:wp Φ γ k ρ (v::st) h Q):wp Φ γ (.az v k) ρ st h Q:=q
theorem r_var{x:String}(e:ρ x=some v)(q:wp Φ γ k ρ (v::st) h Q):wp Φ γ (.ae x k) ρ st h Q:=⟨v,e,q⟩
theorem r_glob{x:String}(e:γ x=some v)(q:wp Φ γ k ρ (v::st) h Q):wp Φ γ (.glob x k) ρ st h Q:=⟨v,e,q⟩
theorem r_asg{x:String}(q:let ρ:=bc ρ x v;wp Φ γ k ρ st h Q):wp Φ γ (.aX x k) ρ (v::st) h Q:=q
theorem r_asgs2{x y:String}(q:let ρ:=bc (bc ρ x v) y w;wp Φ γ k ρ st h Q):wp Φ γ (.ir [x,y] k) ρ (w::v::st) h Q:=q
theorem r_asgs3{x y z:String}{u:V}(q:let ρ:=bc (bc (bc ρ x v) y w) z u;wp Φ γ k ρ st h Q):wp Φ γ (.ir [x,y,z] k) ρ (u::w::v::st) h Q:=q
theorem r_al{o:O}(q:∀a h',Alloc h a o h'->wp Φ γ k ρ (.ref a::st) h' Q):∀a,h a=none->wp Φ γ k ρ (.ref a::st) (bc h a o) Q:=λa n=>q a _ ⟨n,rfl⟩
theorem r_mk0(q:∀a h',Alloc h a (.list []) h'->wp Φ γ k ρ (.ref a::st) h' Q):wp Φ γ (.mk .list 0 k) ρ st h Q:=r_al q
theorem r_mk1(q:∀a h',Alloc h a (.list [v]) h'->wp Φ γ k ρ (.ref a::st) h' Q):wp Φ γ (.mk .list 1 k) ρ (v::st) h Q:=r_al q
theorem r_mk2(q:∀a h',Alloc h a (.list [v,w]) h'->wp Φ γ k ρ (.ref a::st) h' Q):wp Φ γ (.mk .list 2 k) ρ (w::v::st) h Q:=r_al q
theorem r_mk(n:Nat){vs bG:List V}(e:tE n [] st=some (vs,bG))(q:∀a h',Alloc h a (.list vs) h'->wp Φ γ k ρ (.ref a::bG) h' Q):wp Φ γ (.mk .list n k) ρ st h Q:=by
 show fF _ _ _;unfold fF;rw[e];exact r_al q
theorem r_tup(n:Nat){vs bG:List V}(e:tE n [] st=some (vs,bG))(q:∀a h',Alloc h a (.tup vs) h'->wp Φ γ k ρ (.ref a::bG) h' Q):wp Φ γ (.mk .tup n k) ρ st h Q:=by
 show fF _ _ _;unfold fF;rw[e];exact r_al q
theorem r_dict0(q:∀a h',Alloc h a (.dict []) h'->wp Φ γ k ρ (.ref a::st) h' Q):wp Φ γ (.mk .dict 0 k) ρ st h Q:=r_al q
theorem r_attr{n c:String}{fs:List (String×V)}(e:h a=some (.inst c fs))(g:fs.lookup n=some w)(q:wp Φ γ k ρ (w::st) h Q):wp Φ γ (.u (.attr n) k) ρ (.ref a::st) h Q:=⟨_,⟨w,⟨a,c,fs,rfl,.inl e,g⟩,rfl⟩,q⟩
theorem r_va{n c x:String}{fs:List (String×V)}(f:ρ x=some (.ref a))(e:h a=some (.inst c fs))(g:fs.lookup n=some w)(q:wp Φ γ k ρ (w::st) h Q):wp Φ γ (.ae x (.u (.attr n) k)) ρ st h Q:=r_var f (r_attr e g q)
theorem r_vv{x y:String}(e:ρ x=some v)(f:ρ y=some w)(q:wp Φ γ k ρ (w::v::st) h Q):wp Φ γ (.ae x (.ae y k)) ρ st h Q:=r_var e (r_var f q)
theorem r_attro{n c:String}{fs:List (String×V)}(e:h a=some (.cZ c fs))(g:fs.lookup n=some w)(q:wp Φ γ k ρ (w::st) h Q):wp Φ γ (.u (.attr n) k) ρ (.ref a::st) h Q:=⟨_,⟨w,⟨a,c,fs,rfl,.inr e,g⟩,rfl⟩,q⟩
theorem r_len(e:h a=some (.list xs))(q:wp Φ γ k ρ (.int xs.length::st) h Q):wp Φ γ (.u .len k) ρ (.ref a::st) h Q:=⟨_,⟨a,_,rfl,.inl ⟨xs,.inl e,rfl⟩,rfl⟩,q⟩
theorem r_lend(e:h a=some (.dict es))(q:wp Φ γ k ρ (.int es.length::st) h Q):wp Φ γ (.u .len k) ρ (.ref a::st) h Q:=⟨_,⟨a,_,rfl,.inr ⟨es,.inl e,rfl⟩,rfl⟩,q⟩
theorem r_not{t:Bool}(q:wp Φ γ k ρ (.bool (!t)::st) h Q):wp Φ γ (.u .not k) ρ (.bool t::st) h Q:=⟨_,⟨t,rfl,rfl⟩,q⟩
theorem r_sortd(e:h a=some (.dict es))(l:es.length<64)(q:∀c h',Alloc h c (.list ((bD (es.map (·.1))).map .int)) h'->wp Φ γ k ρ (.ref c::st) h' Q):wp Φ γ (.u .sorted k) ρ (.ref a::st) h Q:=
 ⟨_,⟨a,_,rfl,.inr ⟨es,e,rfl⟩,by rwa [Za],rfl⟩,r_al q⟩
theorem r_sortl{l:List Int}(e:h a=some (.list (l.map .int)))(z:l.length<64)(q:∀c h',Alloc h c (.list ((bD l).map .int)) h'->wp Φ γ k ρ (.ref c::st) h' Q):wp Φ γ (.u .sorted k) ρ (.ref a::st) h Q:=
 ⟨_,⟨a,l,rfl,.inl e,z,rfl⟩,r_al q⟩
theorem r_copyl(e:h a=some (.list xs))(q:∀c h',Alloc h c (.list xs) h'->wp Φ γ k ρ (.ref c::st) h' Q):wp Φ γ (.u .cN k) ρ (.ref a::st) h Q:=⟨_,⟨a,xs,rfl,e,rfl⟩,r_al q⟩
theorem r_copyd(e:h a=some (.dict es))(q:∀c h',Alloc h c (.dict es) h'->wp Φ γ k ρ (.ref c::st) h' Q):wp Φ γ (.u .copyDict k) ρ (.ref a::st) h Q:=⟨_,⟨a,es,rfl,e,rfl⟩,r_al q⟩
theorem r_rev(e:h a=some (.list xs))(q:∀c h',Alloc h c (.list xs.reverse) h'->wp Φ γ k ρ (.ref c::st) h' Q):wp Φ γ (.u .rev k) ρ (.ref a::st) h Q:=⟨_,⟨a,xs,rfl,e,rfl⟩,r_al q⟩
theorem r_nilq{ne:Bool}(e:h a=some (.list xs))(q:wp Φ γ k ρ (.bool (xs.isEmpty != ne)::st) h Q):wp Φ γ (.u (.nilq ne) k) ρ (.ref a::st) h Q:=⟨_,⟨a,xs,rfl,e,rfl⟩,q⟩
theorem r_isBi(q:wp Φ γ k ρ (.bool false::st) h Q):wp Φ γ (.u .isBool k) ρ (.int i::st) h Q:=⟨_,⟨_,rfl,.inl ⟨i,rfl,rfl⟩⟩,q⟩
theorem r_isBb{t:Bool}(q:wp Φ γ k ρ (.bool true::st) h Q):wp Φ γ (.u .isBool k) ρ (.bool t::st) h Q:=⟨_,⟨_,rfl,.inr (.inl ⟨t,rfl,rfl⟩)⟩,q⟩
theorem r_isBr{c:String}{fs:List (String×V)}(e:h a=some (.inst c fs))(q:wp Φ γ k ρ (.bool false::st) h Q):wp Φ γ (.u .isBool k) ρ (.ref a::st) h Q:=⟨_,⟨_,rfl,.inr (.inr ⟨c,⟨a,fs,rfl,.inl e⟩,rfl⟩)⟩,q⟩
theorem r_isBo{c:String}{fs:List (String×V)}(e:h a=some (.cZ c fs))(q:wp Φ γ k ρ (.bool false::st) h Q):wp Φ γ (.u .isBool k) ρ (.ref a::st) h Q:=⟨_,⟨_,rfl,.inr (.inr ⟨c,⟨a,fs,rfl,.inr e⟩,rfl⟩)⟩,q⟩
theorem r_isIi{d:String}(q:wp Φ γ k ρ (.bool false::st) h Q):wp Φ γ (.u (.cK d) k) ρ (.int i::st) h Q:=⟨_,⟨_,rfl,.inl ⟨i,rfl,rfl⟩⟩,q⟩
theorem r_isIb{d:String}{t:Bool}(q:wp Φ γ k ρ (.bool false::st) h Q):wp Φ γ (.u (.cK d) k) ρ (.bool t::st) h Q:=⟨_,⟨_,rfl,.inr (.inl ⟨t,rfl,rfl⟩)⟩,q⟩
theorem r_isIr{c d:String}{fs:List (String×V)}(e:h a=some (.inst c fs))(q:wp Φ γ k ρ (.bool (c==d)::st) h Q):wp Φ γ (.u (.cK d) k) ρ (.ref a::st) h Q:=⟨_,⟨_,rfl,.inr (.inr ⟨c,⟨a,fs,rfl,.inl e⟩,rfl⟩)⟩,q⟩
theorem r_isIo{c d:String}{fs:List (String×V)}(e:h a=some (.cZ c fs))(q:wp Φ γ k ρ (.bool (c==d)::st) h Q):wp Φ γ (.u (.cK d) k) ρ (.ref a::st) h Q:=⟨_,⟨_,rfl,.inr (.inr ⟨c,⟨a,fs,rfl,.inr e⟩,rfl⟩)⟩,q⟩
theorem r_idxl(e:h a=some (.list xs))(g:dm xs i=some w)(q:wp Φ γ k ρ (w::st) h Q):wp Φ γ (.b .idx k) ρ (.int i:: .ref a::st) h Q:=⟨_,⟨w,⟨a,i,rfl,rfl,.inl ⟨xs,.inl e,g⟩⟩,rfl⟩,q⟩
theorem r_idxt(e:h a=some (.tup xs))(g:dm xs i=some w)(q:wp Φ γ k ρ (w::st) h Q):wp Φ γ (.b .idx k) ρ (.int i:: .ref a::st) h Q:=⟨_,⟨w,⟨a,i,rfl,rfl,.inl ⟨xs,.inr e,g⟩⟩,rfl⟩,q⟩
theorem r_idxd(e:h a=some (.dict es))(g:es.lookup i=some w)(q:wp Φ γ k ρ (w::st) h Q):wp Φ γ (.b .idx k) ρ (.int i:: .ref a::st) h Q:=⟨_,⟨w,⟨a,i,rfl,rfl,.inr ⟨es,.inl e,g⟩⟩,rfl⟩,q⟩
theorem r_idxz(e:h a=some (.er es))(g:es.lookup i=some w)(q:wp Φ γ k ρ (w::st) h Q):wp Φ γ (.b .idx k) ρ (.int i:: .ref a::st) h Q:=⟨_,⟨w,⟨a,i,rfl,rfl,.inr ⟨es,.inr e,g⟩⟩,rfl⟩,q⟩
theorem r_idxD(e:h a=some (.dict es)\/h a=some (.er es))(g:es.lookup i=some w)(q:wp Φ γ k ρ (w::st) h Q):wp Φ γ (.b .idx k) ρ (.int i:: .ref a::st) h Q:=⟨_,⟨w,⟨a,i,rfl,rfl,.inr ⟨es,e,g⟩⟩,rfl⟩,q⟩
theorem r_lenD(e:h a=some (.dict es)\/h a=some (.er es))(q:wp Φ γ k ρ (.int es.length::st) h Q):wp Φ γ (.u .len k) ρ (.ref a::st) h Q:=⟨_,⟨a,_,rfl,.inr ⟨es,e,rfl⟩,rfl⟩,q⟩
theorem r_add{x y:Int}(q:wp Φ γ k ρ (.int (x+y)::st) h Q):wp Φ γ (.b (.bin .add) k) ρ (.int y:: .int x::st) h Q:=⟨_,.inl ⟨x,y,_,rfl,rfl,rfl,rfl⟩,q⟩
theorem r_sub{x y:Int}(q:wp Φ γ k ρ (.int (x - y)::st) h Q):wp Φ γ (.b (.bin .sub) k) ρ (.int y:: .int x::st) h Q:=⟨_,.inl ⟨x,y,_,rfl,rfl,rfl,rfl⟩,q⟩
theorem r_mul{x y:Int}(l:0<=y/\y<1073741824)(q:wp Φ γ k ρ (.int (x*y)::st) h Q):wp Φ γ (.b (.bin .mul) k) ρ (.int y:: .int x::st) h Q:=⟨_,.inl ⟨x,y,_,rfl,rfl,⟨l.1,l.2,rfl⟩,rfl⟩,q⟩
theorem r_mod{x y:Int}(l:0<y)(q:wp Φ γ k ρ (.int (x % y)::st) h Q):wp Φ γ (.b (.bin .mod) k) ρ (.int y:: .int x::st) h Q:=⟨_,.inl ⟨x,y,_,rfl,rfl,⟨l,rfl⟩,rfl⟩,q⟩
theorem r_div{x y:Int}(l:0<y/\y<1073741824)(q:wp Φ γ k ρ (.int (x / y)::st) h Q):wp Φ γ (.b (.bin .fdiv) k) ρ (.int y:: .int x::st) h Q:=⟨_,.inl ⟨x,y,_,rfl,rfl,⟨l.1,l.2,rfl⟩,rfl⟩,q⟩
theorem r_cat{a':Nat}{ys:List V}(e:h a=some (.list xs))(f:h a'=some (.list ys))(l:xs.length+ys.length<=big)(q:∀c h',Alloc h c (.list (xs++ys)) h'->wp Φ γ k ρ (.ref c::st) h' Q):wp Φ γ (.b (.bin .add) k) ρ (.ref a':: .ref a::st) h Q:=
 ⟨_,.inr ⟨a,a',xs,ys,rfl,rfl,rfl,e,f,l,rfl⟩,r_al q⟩
theorem r_cati{a':Nat}{l m:List Int}(e:h a=some (.list (l.map .int)))(f:h a'=some (.list (m.map .int)))(z:l.length+m.length<=big)(q:∀c h',Alloc h c (.list ((l++m).map .int)) h'->wp Φ γ k ρ (.ref c::st) h' Q):wp Φ γ (.b (.bin .add) k) ρ (.ref a':: .ref a::st) h Q:=
 r_cat e f (by rwa [Za,Za]) λc h' A=>q c h' (by rw[Zq];exact A)
theorem r_eq{x y:Int}(q:wp Φ γ k ρ (.bool (x==y)::st) h Q):wp Φ γ (.b (.cmp .eq) k) ρ (.int y:: .int x::st) h Q:=⟨_,⟨_,rfl,.inl ⟨x,y,rfl,rfl,rfl⟩⟩,q⟩
theorem r_ne{x y:Int}(q:wp Φ γ k ρ (.bool (x != y)::st) h Q):wp Φ γ (.b (.cmp .ne) k) ρ (.int y:: .int x::st) h Q:=⟨_,⟨_,rfl,.inl ⟨x,y,rfl,rfl,WK _⟩⟩,q⟩
theorem r_lt{x y:Int}(q:wp Φ γ k ρ (.bool (decide (x<y))::st) h Q):wp Φ γ (.b (.cmp .lt) k) ρ (.int y:: .int x::st) h Q:=⟨_,⟨_,rfl,x,y,rfl,rfl,rfl⟩,q⟩
theorem r_gt{x y:Int}(q:wp Φ γ k ρ (.bool (decide (y<x))::st) h Q):wp Φ γ (.b (.cmp .gt) k) ρ (.int y:: .int x::st) h Q:=⟨_,⟨_,rfl,x,y,rfl,rfl,rfl⟩,q⟩
theorem r_ge{x y:Int}(q:wp Φ γ k ρ (.bool (decide (y<=x))::st) h Q):wp Φ γ (.b (.cmp .ge) k) ρ (.int y:: .int x::st) h Q:=⟨_,⟨_,rfl,x,y,rfl,rfl,rfl⟩,q⟩
theorem rQ{x y:String}(e:PySem.Str.ofString x=PySem.Str.ofString y):x=y:=by
 rw[WB,WB] at e;have e1:x.toList.map Char.toNat=y.toList.map Char.toNat:=by simpa using e
 exact WX ((List.map_inj_right λa b h=>Char.ext (Ug.mp h)).mp e1)
theorem AO{x y:String}:decide (PySem.Str.ofString x=PySem.Str.ofString y)=(x==y):=by
 by_cases e:x=y
 . subst e;simp
 . rw[decide_eq_false λz=>e (rQ z),beq_eq_false_iff_ne.mpr e]
theorem r_eqs{x y:String}(q:wp Φ γ k ρ (.bool (x==y)::st) h Q):wp Φ γ (.b (.cmp .eq) k) ρ (sv y::sv x::st) h Q:=⟨_,⟨_,rfl,.inr (.inl ⟨_,_,rfl,rfl,AO.symm⟩)⟩,q⟩
theorem r_ind(e:h a=some (.dict es))(q:wp Φ γ k ρ (.bool (es.any (·.1==i))::st) h Q):wp Φ γ (.b (.cmp .isin) k) ρ (.ref a:: .int i::st) h Q:=⟨_,⟨_,rfl,.inl ⟨i,a,rfl,rfl,.inl ⟨es,.inl e,rfl⟩⟩⟩,q⟩
theorem r_nind(e:h a=some (.dict es))(q:wp Φ γ k ρ (.bool (!es.any (·.1==i))::st) h Q):wp Φ γ (.b (.cmp .dw) k) ρ (.ref a:: .int i::st) h Q:=⟨_,⟨_,rfl,.inl ⟨i,a,rfl,rfl,.inl ⟨es,.inl e,WK _⟩⟩⟩,q⟩
theorem r_inl{l:List Int}(e:h a=some (.list (l.map .int)))(q:wp Φ γ k ρ (.bool (l.contains i)::st) h Q):wp Φ γ (.b (.cmp .isin) k) ρ (.ref a:: .int i::st) h Q:=⟨_,⟨_,rfl,.inl ⟨i,a,rfl,rfl,.inr ⟨l,e,rfl⟩⟩⟩,q⟩
theorem r_ninl{l:List Int}(e:h a=some (.list (l.map .int)))(q:wp Φ γ k ρ (.bool (!l.contains i)::st) h Q):wp Φ γ (.b (.cmp .dw) k) ρ (.ref a:: .int i::st) h Q:=⟨_,⟨_,rfl,.inl ⟨i,a,rfl,rfl,.inr ⟨l,e,WK _⟩⟩⟩,q⟩
theorem any_keys{es:List (Int×V)}:es.any (λp=>p.1==i)=(es.map (·.1)).contains i:=by
 induction es with
 |nil=>rfl
 |cons x es ih=>rw[XI,Zw,Xl,ih,Bool.beq_comm]
theorem r_ink(e:h a=some (.dict es))(q:wp Φ γ k ρ (.bool ((es.map (·.1)).contains i)::st) h Q):wp Φ γ (.b (.cmp .isin) k) ρ (.ref a:: .int i::st) h Q:=r_ind e (any_keys▸q)
theorem r_nink(e:h a=some (.dict es))(q:wp Φ γ k ρ (.bool (!(es.map (·.1)).contains i)::st) h Q):wp Φ γ (.b (.cmp .dw) k) ρ (.ref a:: .int i::st) h Q:=r_nind e (any_keys▸q)
noncomputable def cy(R:List Int):List (Int×V):=R.map λl=>(l,.bool true)
theorem oW{i:Int}:∀{R:List Int},(cy R).any (λp=>p.1==i)=R.contains i
 |[]=>rfl
 |x::R=>by
  show (x==i||(cy R).any _)=_;rw[oW,Xl,Bool.beq_comm]
theorem r_ins{R:List Int}(e:h a=some (.dict (cy R)))(q:wp Φ γ k ρ (.bool (R.contains i)::st) h Q):wp Φ γ (.b (.cmp .isin) k) ρ (.ref a:: .int i::st) h Q:=r_ind e (oW▸q)
theorem r_nins{R:List Int}(e:h a=some (.dict (cy R)))(q:wp Φ γ k ρ (.bool (!R.contains i)::st) h Q):wp Φ γ (.b (.cmp .dw) k) ρ (.ref a:: .int i::st) h Q:=r_nind e (oW▸q)
theorem k8{x:String}:∀{l:List String},l.contains x=(l.map PySem.Str.ofString).contains (PySem.Str.ofString x)
 |[]=>rfl
 |y::l=>by rw[Zw,Xl,Xl,k8];congr 1;exact AO.symm
theorem r_ints{l:List String}{x:String}(e:h a=some (.tup (l.map sv)))(q:wp Φ γ k ρ (.bool (l.contains x)::st) h Q):wp Φ γ (.b (.cmp .isin) k) ρ (.ref a::sv x::st) h Q:=
 ⟨_,⟨_,rfl,.inr ⟨_,a,l.map PySem.Str.ofString,rfl,rfl,by rw[Zt];exact e,k8⟩⟩,q⟩
theorem r_isnt{v:V}(q:wp Φ γ k ρ (.bool (!Iv v)::st) h Q):wp Φ γ (.b (.cmp .isNotNone) k) ρ (.none::v::st) h Q:=⟨_,⟨_,rfl,rfl,rfl⟩,q⟩
theorem r_call1{f:String}(q:Φ f [v] h λr h'=>wp Φ γ k ρ (r::st) h' Q):wp Φ γ (.call f 1 k) ρ (v::st) h Q:=q
theorem r_call2{f:String}(q:Φ f [v,w] h λr h'=>wp Φ γ k ρ (r::st) h' Q):wp Φ γ (.call f 2 k) ρ (w::v::st) h Q:=q
theorem r_call{f:String}{n:Nat}{vs bG:List V}(e:tE n [] st=some (vs,bG))(q:Φ f vs h λr h'=>wp Φ γ k ρ (r::bG) h' Q):wp Φ γ (.call f n k) ρ st h Q:=by
 show fF _ _ _;unfold fF;rw[e];exact q
theorem r_new{c f:String}{n:Nat}{vs bG:List V}(e:tE n [] st=some (vs,bG))(q:∀a h',Alloc h a (.inst c []) h'->Φ f (.ref a::vs) h' λr h'=>r= .none/\wp Φ γ k ρ (.ref a::bG) h' Q):wp Φ γ (.new c f n k) ρ st h Q:=by
 show fF _ _ _;unfold fF;rw[e];exact λa n=>q a _ ⟨n,rfl⟩
theorem r_chk{c:String}{fs:List (String×V)}(e:h a=some (.inst c fs))(q:wp Φ γ k ρ (.ref a::st) h Q):wp Φ γ (.bL c k) ρ (.ref a::st) h Q:=⟨⟨a,rfl,.inl ⟨fs,e⟩⟩,q⟩
theorem r_chkl(e:h a=some (.list xs))(q:wp Φ γ k ρ (.ref a::st) h Q):wp Φ γ (.bL "list" k) ρ (.ref a::st) h Q:=⟨⟨a,rfl,.inr (.inl ⟨rfl,xs,e⟩)⟩,q⟩
theorem r_chkd(e:h a=some (.dict es))(q:wp Φ γ k ρ (.ref a::st) h Q):wp Φ γ (.bL "dict" k) ρ (.ref a::st) h Q:=⟨⟨a,rfl,.inr (.inr ⟨rfl,es,e⟩)⟩,q⟩
theorem r_pu{P:Hp->Prop}{o:O}(q:∀h',Put h a o h'->P h'):P (bc h a o):=q _ ⟨rfl⟩
theorem r_update{a':Nat}{ds:List (Int×V)}(e:h a=some (.dict es))(f:h a'=some (.dict ds))(n:a≠a')(l:es.length+ds.length<=big)(q:∀h',Put h a (.dict (ds.foldl (λes p=>putD es p.1 p.2) es)) h'->wp Φ γ k ρ st h' Q):wp Φ γ (.prim .update 1 (.pop k)) ρ (.ref a':: .ref a::st) h Q:=
 ⟨a,_,_,rfl,⟨es,a',ds,e,rfl,n,f,l,rfl,rfl⟩,λ_=>V.noConfusion,r_pu (P:=λh'=>wp Φ γ k ρ st h' Q) q⟩
theorem r_app(e:h a=some (.list xs))(l:xs.length<big)(q:∀h',Put h a (.list (xs++[v])) h'->wp Φ γ k ρ st h' Q):wp Φ γ (.prim .append 1 (.pop k)) ρ (v:: .ref a::st) h Q:=
 ⟨a,_,_,rfl,⟨xs,v,e,rfl,l,rfl,rfl⟩,λ_=>V.noConfusion,r_pu (P:=λh'=>wp Φ γ k ρ st h' Q) q⟩
theorem r_appi{l:List Int}(e:h a=some (.list (l.map .int)))(z:l.length<big)(q:∀h',Put h a (.list ((l++[i]).map .int)) h'->wp Φ γ k ρ st h' Q):wp Φ γ (.prim .append 1 (.pop k)) ρ (.int i:: .ref a::st) h Q:=
 r_app e (by rwa [Za]) λh' p=>q h' (by rw[Zq];exact p)
theorem r_get{d:V}(e:h a=some (.dict es))(q:wp Φ γ k ρ ((es.lookup i).getD d::st) h Q):wp Φ γ (.prim .get 2 k) ρ (d:: .int i:: .ref a::st) h Q:=⟨a,_,_,rfl,⟨es,i,d,e,rfl,rfl,rfl⟩,q⟩
theorem r_extend{a':Nat}{ys:List V}(e:h a=some (.list xs))(f:h a'=some (.list ys))(n:a≠a')(l:xs.length+ys.length<=big)(q:∀h',Put h a (.list (xs++ys)) h'->wp Φ γ k ρ st h' Q):wp Φ γ (.prim .extend 1 (.pop k)) ρ (.ref a':: .ref a::st) h Q:=
 ⟨a,_,_,rfl,⟨xs,a',ys,e,rfl,n,f,l,rfl,rfl⟩,λ_=>V.noConfusion,r_pu (P:=λh'=>wp Φ γ k ρ st h' Q) q⟩
theorem r_extendi{a':Nat}{l m:List Int}(e:h a=some (.list (l.map .int)))(f:h a'=some (.list (m.map .int)))(n:a≠a')(z:l.length+m.length<=big)(q:∀h',Put h a (.list ((l++m).map .int)) h'->wp Φ γ k ρ st h' Q):wp Φ γ (.prim .extend 1 (.pop k)) ρ (.ref a':: .ref a::st) h Q:=
 r_extend e f n (by rwa [Za,Za]) λh' p=>q h' (by rw[Zq];exact p)
theorem r_setA{n c:String}{fs:List (String×V)}(e:h a=some (.inst c fs))(l:Nat.blt fs.length 100=true)(f:iy c n=true)(o:cH v=false)(q:∀h',Put h a (.inst c (nz fs n v)) h'->wp Φ γ k ρ st h' Q):wp Φ γ (.setA n k) ρ (.ref a::v::st) h Q:=
 ⟨a,_,⟨c,fs,rfl,e,Nat.blt_eq.mp l,f,o,rfl⟩,r_pu (P:=λh'=>wp Φ γ k ρ st h' Q) q⟩
theorem r_setId(e:h a=some (.dict es))(l:es.length<big)(q:∀h',Put h a (.dict (putD es i v)) h'->wp Φ γ k ρ st h' Q):wp Φ γ (.dj k) ρ (.int i:: .ref a::v::st) h Q:=
 ⟨a,_,⟨i,rfl,rfl,.inr ⟨es,e,l,rfl⟩⟩,r_pu (P:=λh'=>wp Φ γ k ρ st h' Q) q⟩
theorem r_unpl{ns:List String}(g:Nat.ble 2 ns.length=true)(l:ns.length=xs.length)(e:h a=some (.list xs))(q:wp Φ γ k (binds ρ ns xs) st h Q):wp Φ γ (.zJ ns k) ρ (.ref a::st) h Q:=⟨_,ZC g,.inr ⟨a,xs,rfl,ZC g,l,.inr e,rfl⟩,q⟩
theorem r_unpt{ns:List String}(g:Nat.ble 2 ns.length=true)(l:ns.length=xs.length)(e:h a=some (.tup xs))(q:wp Φ γ k (binds ρ ns xs) st h Q):wp Φ γ (.zJ ns k) ρ (.ref a::st) h Q:=⟨_,ZC g,.inr ⟨a,xs,rfl,ZC g,l,.inl e,rfl⟩,q⟩
theorem r_pop(q:wp Φ γ k ρ st h Q):wp Φ γ (.pop k) ρ (.none::st) h Q:=⟨λ_=>V.noConfusion,q⟩
theorem r_popi(q:wp Φ γ k ρ st h Q):wp Φ γ (.pop k) ρ (.int i::st) h Q:=⟨λ_=>V.noConfusion,q⟩
theorem r_ite{t:Bool}(qa:t=true->wp Φ γ b ρ st h (tt Φ γ k Q))(qb:t=false->wp Φ γ c ρ st h (tt Φ γ k Q)):wp Φ γ (.ite b c k) ρ (.bool t::st) h Q:=⟨t,rfl,qa,qb⟩
theorem r_yes{t:Bool}(e:t=true)(q:wp Φ γ b ρ st h (tt Φ γ k Q)):wp Φ γ (.ite b c k) ρ (.bool t::st) h Q:=⟨t,rfl,λ_=>q,λz=>Bool.noConfusion (e.symm.trans z)⟩
theorem r_no{t:Bool}(e:t=false)(q:wp Φ γ c ρ st h (tt Φ γ k Q)):wp Φ γ (.ite b c k) ρ (.bool t::st) h Q:=⟨t,rfl,λz=>Bool.noConfusion (z.symm.trans e),λ_=>q⟩
theorem r_dec{p:Prop}[Decidable p](qa:p->wp Φ γ b ρ st h (tt Φ γ k Q))(qb:¬ p->wp Φ γ c ρ st h (tt Φ γ k Q)):wp Φ γ (.ite b c k) ρ (.bool (decide p)::st) h Q:=⟨_,rfl,λz=>qa (of_decide_eq_true z),λz=>qb (of_decide_eq_false z)⟩
theorem r_pushM{α:Type}(y:α){f:α->V}{e:C}{x:String}{t:Bool}{j:Hp}{l:List α}(hx:ρ x=some (.ref a))(g:h a=some (.list (l.map f)))(n:j a=none)(E:Ext j h)(hl:l.length<big)
 (he:∀K:Po,wp Φ γ (.prim .append 1 (.pop .done)) ρ (f y:: .ref a::st) h K->wp Φ γ e ρ (.ref a::st) h K)
 (q:∀h',Ext j h'->h' a=some (.list ((l++if t then [y] else []).map f))->wp Φ γ k ρ st h' Q):wp Φ γ (.ite (.ae x (.bL "list" e)) .done k) ρ (.bool t::st) h Q:=
 r_ite (λc=>r_var hx (r_chkl g (he _ (r_app g (by rwa [Za]) λh' p=>q h' (p.im E n) (by rw[if_pos c,Zq];exact p.at))))) λc=>q h E (by rw[c,if_neg Ye,Zu];exact g)
theorem r_push(i:Int){e:C}{x:String}{p:Prop}[Decidable p]{j:Hp}{l:List Int}(hx:ρ x=some (.ref a))(f:h a=some (.list (l.map .int)))(n:j a=none)(E:Ext j h)(hl:l.length<big)
 (he:∀K:Po,wp Φ γ (.prim .append 1 (.pop .done)) ρ (.int i:: .ref a::st) h K->wp Φ γ e ρ (.ref a::st) h K)
 (q:∀h',Ext j h'->h' a=some (.list ((l++if p then [i] else []).map .int))->wp Φ γ k ρ st h' Q):wp Φ γ (.ite (.ae x (.bL "list" e)) .done k) ρ (.bool (decide p)::st) h Q:=
 r_pushM i hx f n E hl he λh' E' f'=>q h' E' (by simpa only[decide_eq_true_eq] using f')
theorem r_and{x:Bool}(y:Bool)(hb:x=true->∀K:Po,K .next ρ (.bool y::st) h->wp Φ γ b ρ st h K)(q:wp Φ γ k ρ (.bool (x&&y)::st) h Q):wp Φ γ (.ite b (.az (.bool false) .done) k) ρ (.bool x::st) h Q:=by
 cases x with
 |true=>exact r_yes rfl (hb rfl _ q)
 |false=>exact r_no rfl q
theorem r_retK{K:Po}(q:K (.ret v) ρ [] h):wp Φ γ .ret ρ (v::st) h K:=q
theorem r_done{K:Po}(q:K .next ρ st h):wp Φ γ .done ρ st h K:=q
end
end
section
noncomputable def mix(A:List String)(σ ρ:Lo):Lo:=λx=>bif A.contains x then σ x else ρ x
theorem oz{A:List String}{σ ρ:Lo}(e:cQ A ρ σ):mix A σ ρ=σ:=funext λx=>by
 unfold mix
 cases z:A.contains x with
 |true=>rfl
 |false=>exact(e x λm=>by rw[Z0.mpr m] at z;cases z).symm
theorem BV{A:List String}{σ ρ:Lo}:cQ A ρ (mix A σ ρ):=λx n=>by
 unfold mix;rw[show A.contains x=false from V2.mpr λz=>n (Z0.mp z)]
 rfl
structure Wd(Φ:Calls)(γ:String->Option V):Prop where
 aV:dS Φ
 call:∀f F,fns.lookup f=some F->∀vs h Q,Jz Φ γ F vs h Q->Φ f vs h Q
 AB:γ "FUN"=some (sv "fun")
 v7:γ "CONT"=some (sv "cont")
 Bb:γ "CALL"=some (sv "call")
 A_:γ "JUMP"=some (sv "jump")
 Ba:γ "GIVE"=some (sv "give")
 uq:γ "BRANCH"=some (sv "if")
 HA:γ "PROC"=some (sv "proc")
 Hz:γ "SLOT"=some (sv "slot")
 HB:γ "FREE"=some (sv "free")
 wB:γ "CONSTANT"=some (sv "const")
section
variable {Φ:Calls}{γ:String->Option V}{k b:C}{ρ:Lo}{st:List V}{h:Hp}{Q:Po}{a:Nat}{v w:V}{α:Type}
theorem Wd.cl(W:Wd Φ γ){f:String}{ps:List String}{vs:List V}{Q:V->Hp->Prop}(e:fns.lookup f=some ⟨ps,b⟩)(l:ps.length=vs.length)(q:wp Φ γ b (iG ps vs) [] h (tv Q)):Φ f vs h Q:=W.call _ _ e _ _ _ ⟨l,q⟩
theorem qS{xs:List α}{i:Nat}{x:α}(e:xs[i]?=some x):xs.take i++x::xs.drop (i+1)=xs:=by
 obtain ⟨hi,rfl⟩:=ZN.mp e;rw[List.getElem_cons_drop,YW]
theorem fT{xs:List α}{i:Nat}{x:α}(e:xs[i]?=some x):xs.take (i+1)=xs.take i++[x]:=by rw[V3,e];rfl
theorem dF{β:Type}{f:α->β}{xs:List α}{i:Nat}{y:β}(e:(xs.map f)[i]?=some y):∃x,xs[i]?=some x/\f x=y:=by
 rw[ZQ] at e;exact Z7.mp e
variable (M:dS Φ)
include M
theorem iP{t:List String}{aJ:Src}(xs:List α)(f:α->List V)(it:aJ.items=xs.map f)(bw:List α->Lo->Hp->Prop)(i0:bw [] ρ (aJ.fz h))(sZ:∀d ρ' h',bw d ρ' h'->aJ.stays h')
 (step:∀d x r σ h',d++x::r=xs->x∈xs->bw d (mix (t++aX b) σ ρ) h'->∀K:Po,(∀ρ h,bw (d++[x]) ρ h->K .next ρ [] h)->(∀v ρ h,Q (.ret v) ρ st (aJ.th h)->K (.ret v) ρ [] h)->(∀σ h',wp Φ γ k (mix (t++aX b) σ ρ) st (aJ.th h') Q->K .brk (mix (t++aX b) σ ρ) [] h')->∃fE,di h' (mix (t++aX b) σ ρ) t (f x) fE/\wp Φ γ b fE [] h' K)
 (fin:∀σ h',bw xs (mix (t++aX b) σ ρ) h'->wp Φ γ k (mix (t++aX b) σ ρ) st (aJ.th h') Q):∃bw:Nat->Lo->Hp->Prop,bw 0 ρ (aJ.fz h)/\(∀i ρ' h' item,bw i ρ' h'->aJ.items[i]?=some item->aJ.stays h'/\∃fE,di h' ρ' t item fE/\
  wp Φ γ b fE [] h' (It (bw (i+1)) (λρ3 h3=>wp Φ γ k ρ3 st (aJ.th h3) Q) (λv ρ3 h3=>Q (.ret v) ρ3 st (aJ.th h3))))/\
  ∀ρ' h',bw aJ.items.length ρ' h'->aJ.stays h'/\wp Φ γ k ρ' st (aJ.th h') Q:=by
 refine⟨λi ρ' h'=>bw (xs.take i) ρ' h'/\cQ (t++aX b) ρ ρ',⟨i0,λ_ _=>rfl⟩,λi ρ' h' item I e=>⟨sZ _ _ _ I.1,?_⟩,λρ' h' I=>?_⟩
 . rw[it] at e;refine oea (dF e) λx e' bU=>?_;subst bU;have S:=step _ x _ ρ' h' (qS e') (Z4 e');rw[oz I.2,<-fT e'] at S;have ⟨fE,bt,w⟩:=S I.1 (λfl ρ3 _ h3=>cQ (t++aX b) ρ ρ3->It (bw (xs.take (i+1))) (λρ3 h3=>wp Φ γ k ρ3 st (aJ.th h3) Q) (λv ρ3 h3=>Q (.ret v) ρ3 st (aJ.th h3)) fl ρ3 [] h3) (λρ3 h3 j _=>j) (λv ρ3 h3 j _=>j) λσ h3 j _=>j;refine⟨fE,bt,tK M _ _ _ _ _ _ w λfl ρ3 zM h3 s p=>?_⟩;have s3:cQ (t++aX b) ρ ρ3:=λy n=>((bt.same.l s) y n).trans (I.2 y n)
   cases fl with
   |next=>exact⟨p s3,s3⟩
   |brk=>exact p s3
   |ret=>exact p s3
 . have e:xs.take aJ.items.length=xs:=by rw[it,Za,Xy]
   have F:=fin ρ' h';rw[oz I.2] at F;have I:=I.1;rw[e] at I;exact⟨sZ _ _ _ I,F I⟩
omit M in
theorem rI{h:Hp}{ρ:Lo}{x:String}:di h ρ [x] [v] (bc ρ x v):=.inl ⟨rfl,rfl⟩
theorem bN{t:String}(f:α->V)(xs:List α)(bw:List α->Lo->Hp->Prop)(ha:h a=some (.list (xs.map f)))(i0:bw [] ρ h)(sZ:∀d ρ' h',bw d ρ' h'->h' a=some (.list (xs.map f)))
 (step:∀d x r σ h',d++x::r=xs->x∈xs->bw d (mix (t::aX b) σ ρ) h'->∀K:Po,(∀ρ h,bw (d++[x]) ρ h->K .next ρ [] h)->(∀v ρ h,Q (.ret v) ρ st h->K (.ret v) ρ [] h)->wp Φ γ b (bc (mix (t::aX b) σ ρ) t (f x)) [] h' K)
 (fin:∀σ h',bw xs (mix (t::aX b) σ ρ) h'->wp Φ γ k (mix (t::aX b) σ ρ) st h' Q):wp Φ γ (.for [t] .seq b k) ρ (.ref a::st) h Q:=
 ⟨.list a (xs.map f),st,⟨a,rfl,.inl ⟨_,ha,rfl⟩⟩,iP M xs (λx=>[f x]) (Zt ..) bw i0 sZ (λd x r σ h' e m I K hK hr _=>⟨_,rI,step d x r σ h' e m I K hK hr⟩) fin⟩
theorem oT{t:String}{es:List (Int×V)}(he:h a=some (.dict es))(bw:List (Int×V)->Lo->Hp->Prop)(i0:∀h',Put h a (.er es) h'->bw [] ρ h')(sZ:∀d ρ' h',bw d ρ' h'->h' a=some (.er es))
 (step:∀d x r σ h',d++x::r=es->x∈es->bw d (mix (t::aX b) σ ρ) h'->∀K:Po,(∀ρ h,bw (d++[x]) ρ h->K .next ρ [] h)->wp Φ γ b (bc (mix (t::aX b) σ ρ) t (.int x.1)) [] h' K)
 (fin:∀σ h' cR,bw es (mix (t::aX b) σ ρ) h'->Put h' a (.dict es) cR->wp Φ γ k (mix (t::aX b) σ ρ) st cR Q):wp Φ γ (.for [t] .seq b k) ρ (.ref a::st) h Q:=
 ⟨.keys a es,st,⟨a,rfl,.inr (.inr ⟨_,he,rfl⟩)⟩,iP M es (λx=>[.int x.1]) rfl bw (i0 _ ⟨rfl⟩) sZ (λd x r σ h' e m I K hK hr _=>⟨_,rI,step d x r σ h' e m I K hK⟩) λσ h' I=>fin σ h' _ I ⟨rfl⟩⟩
omit M in
theorem iV{n x:Nat}{d r:List Nat}(e:d++x::r=List.range n):x=d.length/\x<n:=by
 have h1:(List.range n)[d.length]?=some x:=by rw[<-e,YA (Zs _),Nat.sub_self];rfl
 have h2:=ZN.mp h1;obtain ⟨h3,h4⟩:=h2;rw[VM] at h4;rw[Z3] at h3;exact⟨h4.symm,h4▸h3⟩
theorem fj{t:String}{n:Nat}(hn:n<=big)(bw:Nat->Lo->Hp->Prop)(i0:bw 0 ρ h)
 (step:∀i σ h',i<n->bw i (mix (t::aX b) σ ρ) h'->∀K:Po,(∀ρ h,bw (i+1) ρ h->K .next ρ [] h)->(∀v ρ h,Q (.ret v) ρ st h->K (.ret v) ρ [] h)->(∀σ h',wp Φ γ k (mix (t::aX b) σ ρ) st h' Q->K .brk (mix (t::aX b) σ ρ) [] h')->wp Φ γ b (bc (mix (t::aX b) σ ρ) t (.int i)) [] h' K)
 (fin:∀σ h',bw n (mix (t::aX b) σ ρ) h'->wp Φ γ k (mix (t::aX b) σ ρ) st h' Q):wp Φ γ (.for [t] .range b k) ρ (.int n::st) h Q:=
 ⟨.range n,st,⟨n,rfl,hn,rfl⟩,iP M (List.range n) (λ(i:Nat)=>[.int i]) rfl (λd=>bw d.length) i0 (λ_ _ _ _=>trivial)
  (λd x r σ h' e m I K hK hr hb=>by
   refine oa (iV e) λcu l=>?_;subst cu;exact⟨_,rI,step _ σ h' l I K (λρ h i=>hK ρ h (by rw[Zb];exact i)) hr hb⟩)
  λσ h' I=>fin σ h' (by rw[Z3] at I;exact I)⟩
theorem DL{t u:String}{c:Nat}(f g:α->V)(xs:List α)(bw:List α->Lo->Hp->Prop)(ha:h a=some (.list (xs.map f)))(hc:h c=some (.list (xs.map g)))(i0:bw [] ρ h)(sZ:∀d ρ' h',bw d ρ' h'->h' a=some (.list (xs.map f))/\h' c=some (.list (xs.map g)))
 (step:∀d x r σ h',d++x::r=xs->x∈xs->bw d (mix (t::u::aX b) σ ρ) h'->∀K:Po,(∀ρ h,bw (d++[x]) ρ h->K .next ρ [] h)->wp Φ γ b (bc (bc (mix (t::u::aX b) σ ρ) t (f x)) u (g x)) [] h' K)
 (fin:∀σ h',bw xs (mix (t::u::aX b) σ ρ) h'->wp Φ γ k (mix (t::u::aX b) σ ρ) st h' Q):wp Φ γ (.for [t,u] .zip b k) ρ (.ref c:: .ref a::st) h Q:=
 ⟨.zip a c (xs.map f) (xs.map g),st,⟨a,c,_,_,rfl,ha,hc,by rw[Za,Za],rfl⟩,iP M xs (λx=>[f x,g x]) (by
  show ((xs.map f).zip (xs.map g)).map _=_;rw[List.zip_map',Zt];rfl) bw i0 sZ (λd x r σ h' e m I K hK _ _=>⟨_,.inl ⟨rfl,rfl⟩,step d x r σ h' e m I K hK⟩) fin⟩
theorem uv{β:Type}{t:String}{a':Nat}{j:Hp}(mk:List β->O){ys:List β}(f:α->V)(xs:List α)(g:α->List β)(E:Ext j h)(n:j a'=none)(ha:h a=some (.list (xs.map f)))(hc:h a'=some (mk ys))(ne:a≠a')
 (step:∀d x r σ h' zs,d++x::r=xs->x∈xs->zs=ys++d.flatMap g->Ext (aG a' h) h'->Ext j h'->h' a'=some (mk zs)->∀K:Po,(∀ρ cR,Ext (aG a' h) cR->cR a'=some (mk (zs++g x))->K .next ρ [] cR)->(∀v ρ h,Q (.ret v) ρ st h->K (.ret v) ρ [] h)->wp Φ γ b (bc (mix (t::aX b) σ ρ) t (f x)) [] h' K)
 (fin:∀σ h',Ext (aG a' h) h'->Ext j h'->h' a'=some (mk (ys++xs.flatMap g))->wp Φ γ k (mix (t::aX b) σ ρ) st h' Q):wp Φ γ (.for [t] .seq b k) ρ (.ref a::st) h Q:=by
 have X:=bg E n;refine bN M f xs (λd _ h'=>Ext (aG a' h) h'/\h' a'=some (mk (ys++d.flatMap g))) ha ⟨aU,by rw[Yc,Zu];exact hc⟩ (λd ρ' h' I=>I.1.at (aE ne ha)) (λd x r σ h' e m I K hK hr=>?_) λσ h' I=>fin σ h' I.1 (X.trans I.1) I.2;exact step d x r σ h' _ e m rfl I.1 (X.trans I.1) I.2 K (λρ cR e1 e2=>hK ρ cR ⟨e1,by rw[e2,Zx,ZK,Yc,Zu,Zo]⟩) hr
theorem cw{β:Type}{t:String}{a':Nat}{j:Hp}(mk:List β->O){ys:List β}(f:α->V)(xs:List α)(g:α->List β)(E:Ext j h)(n:j a'=none)(ha:h a=some (.list (xs.map f)))(hc:h a'=some (mk ys))(ne:a≠a')(lim:(ys++xs.flatMap g).length<big)
 (step:∀x σ h' zs,x∈xs->Ext (aG a' h) h'->Ext j h'->h' a'=some (mk zs)->zs.length+(g x).length<big->∀K:Po,(∀ρ cR,Ext (aG a' h) cR->cR a'=some (mk (zs++g x))->K .next ρ [] cR)->(∀v ρ h,Q (.ret v) ρ st h->K (.ret v) ρ [] h)->wp Φ γ b (bc (mix (t::aX b) σ ρ) t (f x)) [] h' K)
 (fin:∀σ h',Ext (aG a' h) h'->Ext j h'->h' a'=some (mk (ys++xs.flatMap g))->wp Φ γ k (mix (t::aX b) σ ρ) st h' Q):wp Φ γ (.for [t] .seq b k) ρ (.ref a::st) h Q:=
 uv M mk f xs g E n ha hc ne (λd x r σ h' zs e m z E1 E2 G K hK hr=>step x σ h' zs m E1 E2 G (by
  rw[<-e,Zx,ZK,<-Zo,<-Zo,Zb,<-z,Zb] at lim;exact Zk (ZE _ _) lim) K hK hr) fin
theorem fC{t:List String}{s:SK}{c e:C}{bG:List V}{aJ:Src}(hs:SrcR s st h aJ bG)(pl:aJ.plain=true)(xs:List α)(f:α->List V)(it:aJ.items=xs.map f)(bw:List α->List V->Hp->Prop)(i0:bw [] [] h)(sZ:∀d vs h',bw d vs h'->aJ.stays h')
 (step:∀d x r vs h',d++x::r=xs->x∈xs->bw d vs h'->∃ρ',di h' ρ t (f x) ρ'/\∃p:Bool,wp Φ γ c ρ' [] h' (gF λv h2=>v= .bool p/\if p then wp Φ γ e ρ' [] h2 (gF λv h3=>bw (d++[x]) (vs++[v]) h3) else bw (d++[x]) vs h2))
 (fin:∀vs h' a cR,bw xs vs h'->Alloc h' a (.list vs) cR->wp Φ γ k ρ (.ref a::bG) cR Q):wp Φ γ (.comp t s c e k) ρ st h Q:=by
 refine⟨aJ,bG,hs,pl,λi vs h'=>bw (xs.take i) vs h',i0,λi vs h' item I e=>⟨sZ _ _ _ I,?_⟩,λvs h' I=>?_⟩
 . rw[it] at e;refine oea (dF e) λx e' cY=>?_;subst cY;have S:=step _ x _ vs h' (qS e') (Z4 e') I;rw[<-fT e'] at S;refine oeae S λρ' bt p w=>?_;try clear S
   refine⟨ρ',bt,Ke M w λfl _ EY h2 q=>?_⟩;refine oaeaa q λe1 v e2 e3 q=>?_;refine⟨e1,v,e2,p,e3,λz=>?_,λz=>?_⟩
   . rw[if_pos z] at q;exact q
   . rw[z] at q;exact q
 . have e:xs.take aJ.items.length=xs:=by rw[it,Za,Xy]
   have I:bw (xs.take aJ.items.length) vs h':=I;rw[e] at I;exact⟨sZ _ _ _ I,λa n=>fin _ _ a _ I ⟨n,rfl⟩⟩
theorem mi{t:List String}{s:SK}{c e:C}{bG:List V}{aJ:Src}(hs:SrcR s st h aJ bG)(pl:aJ.plain=true)(xs:List α)(f:α->List V)(it:aJ.items=xs.map f)(hl:∀x,t.length=(f x).length)(sZ:∀h',Ext h h'->aJ.stays h')(g:α->V)(p:α->Bool)
 (cond:∀x h',x∈xs->Ext h h'->∀K:V->Hp->Prop,(∀cR,Ext h cR->K (.bool (p x)) cR)->wp Φ γ c (binds ρ t (f x)) [] h' (gF K))
 (elt:∀x h',x∈xs->p x=true->Ext h h'->∀K:V->Hp->Prop,(∀cR,Ext h cR->K (g x) cR)->wp Φ γ e (binds ρ t (f x)) [] h' (gF K))
 (fin:∀a h',Ext h h'->h a=none->h' a=some (.list ((xs.filter p).map g))->wp Φ γ k ρ (.ref a::bG) h' Q):wp Φ γ (.comp t s c e k) ρ st h Q:=by
 refine fC M hs pl xs f it (λd vs h'=>Ext h h'/\vs=(d.filter p).map g) ⟨.refl,rfl⟩ (λd vs h' I=>sZ _ I.1) (λd x r vs h' e m I=>⟨_,.inl ⟨hl x,rfl⟩,p x,cond x h' m I.1 _ λh2 E2=>⟨rfl,?_⟩⟩) λvs h' a cR I A=>fin a cR (A.im I.1) (I.1.none A.new) (I.2▸A.at)
 cases z:p x with
 |true=>exact elt x h2 m z E2 _ λh3 E3=>⟨E3,by rw[I.2,Yl,Wm,if_pos z,Zq];rfl⟩
 |false=>exact⟨E2,by rw[I.2,Yl,Wm,if_neg (by rw[z];exact Ye),Zq];exact(Zu _).symm⟩
theorem cO{t:String}{c e:C}(f g:α->V)(p:α->Bool)(xs:List α)(ha:h a=some (.list (xs.map f)))
 (cond:∀x h',x∈xs->Ext h h'->∀K:V->Hp->Prop,(∀cR,Ext h cR->K (.bool (p x)) cR)->wp Φ γ c (bc ρ t (f x)) [] h' (gF K))
 (elt:∀x h',x∈xs->p x=true->Ext h h'->∀K:V->Hp->Prop,(∀cR,Ext h cR->K (g x) cR)->wp Φ γ e (bc ρ t (f x)) [] h' (gF K))
 (fin:∀a h',Ext h h'->h a=none->h' a=some (.list ((xs.filter p).map g))->wp Φ γ k ρ (.ref a::st) h' Q):wp Φ γ (.comp [t] .seq c e k) ρ (.ref a::st) h Q:=
 mi M (aJ:=.list a (xs.map f)) ⟨a,rfl,.inl ⟨_,ha,rfl⟩⟩ rfl xs (λx=>[f x]) (Zt ..) (λ_=>rfl) (λh' E=>E.at ha) g p cond elt fin
theorem comp_map{t:String}{e:C}(f g:α->V)(xs:List α)(ha:h a=some (.list (xs.map f)))
 (elt:∀x h',x∈xs->Ext h h'->∀K:V->Hp->Prop,(∀cR,Ext h cR->K (g x) cR)->wp Φ γ e (bc ρ t (f x)) [] h' (gF K))
 (fin:∀a h',Ext h h'->h a=none->h' a=some (.list (xs.map g))->wp Φ γ k ρ (.ref a::st) h' Q):wp Φ γ (.comp [t] .seq (.az (.bool true) .done) e k) ρ (.ref a::st) h Q:=
 cO M f g (λ_=>true) xs ha (λx h' m E K hK=>⟨rfl,_,rfl,hK h' E⟩) (λx h' m _=>elt x h' m) λa h' E n z=>fin a h' E n (by rwa [Yv.mpr λ_ _=>rfl] at z)
theorem kQ{c:C}(bw:Nat->Lo->Hp->Prop)(n:Nat)(i0:bw n ρ h)
 (step:∀n σ h',bw n (mix (aX b) σ ρ) h'->∃t:Bool,(∀K:V->Hp->Prop,K (.bool t) h'->wp Φ γ c (mix (aX b) σ ρ) [] h' (gF K))/\
  (t=true->∀K:Po,(∀m ρ h,m<n->bw m ρ h->K .next ρ [] h)->wp Φ γ b (mix (aX b) σ ρ) [] h' K)/\(t=false->wp Φ γ k (mix (aX b) σ ρ) st h' Q)):wp Φ γ (.loop c b k) ρ st h Q:=by
 refine⟨λn ρ' h'=>bw n ρ' h'/\cQ (aX b) ρ ρ',⟨n,i0,λ_ _=>rfl⟩,λn ρ' h' I=>?_⟩;have S:=step n ρ' h';rw[oz I.2] at S;refine oeaa (S I.1) λt w1 w2 w3=>?_;refine w1 _ ⟨t,rfl,λz=>?_,w3⟩;refine tK M _ _ _ _ _ _ (w2 z (λfl ρ3 _ h3=>fl= .next/\∃m,m<n/\bw m ρ3 h3) λm ρ h l j=>⟨rfl,m,l,j⟩) λfl ρ3 zM h3 s p=>?_;refine oaea p λdT m l j=>?_;try clear p;subst dT
 exact⟨m,l,j,λy n=>(s y n).trans (I.2 y n)⟩
omit M in
theorem nf{b:Bool}(z:(!b)=false):b=true:=by cases b;exact z.symm;rfl
omit M in
theorem nt{b:Bool}(z:(!b)=true):b=false:=by cases b;rfl;exact z.symm
omit M in
theorem ii{l:List Int}{x:Int}(z:l.contains x=true):x∈l:=Z0.mp z
omit M in
theorem jZ{l:List Int}{x:Int}(z:l.contains x=false):x∉l:=λm=>Bool.noConfusion ((Z0.mpr m).symm.trans z)
omit M in
theorem fB{p:α->Bool}:∀{l:List α},(l.flatMap λx=>if p x then [x] else [])=l.filter p
 |[]=>rfl
 |x::l=>by rw[ZK,Wm,fB];split<;>rfl
omit M in
theorem qo{p:α->Bool}{l:List α}{n:Nat}(h:l.length<n):(l.flatMap λx=>if p x then [x] else []).length<n:=by
 rw[fB];exact Zk (ZU _ _) h
omit M in
theorem iE{β:Type}{f:α->β}:∀{l:List α},(l.map f).Nodup->∀{x y:α},x∈l->y∈l->f x=f y->x=y
 |z::l,nd,x,y,hx,hy,e=>by
  rw[Zw,ZD] at nd;rcases Zp.mp hx with rfl|kx<;>rcases Zp.mp hy with rfl|ky
  . rfl
  . exact absurd (e▸ZG ky) nd.1
  . exact absurd (e▸ZG kx) nd.1
  . exact iE nd.2 kx ky e
omit M in
theorem xA{l:List α}{x:α}(h:l.Nodup)(n:x∉l):(l++[x]).Nodup:=ZJ.mpr ⟨h,Z5 _ _,λa ha b hb e=>n (Zc.mp hb▸e▸ha)⟩
noncomputable abbrev iL(l:List Int):O:=.list (l.map .int)
end
end
section
structure Base(γ:String->Option V)(h:Hp):Prop where
 atoms:∃t,γ "ATOMS"=some (.ref t)/\h t=some (.tup [sv "boolean",sv "number",sv "symbol",sv "char",sv "empty",sv "unspecified"])
 empty:∃t,γ "EMPTY"=some (.ref t)/\h t=some (.cZ "Special" [("title",sv "empty")])
theorem Base.ext{γ:String->Option V}{h h':Hp}(x:Base γ h)(e:Ext h h'):Base γ h':=by
 obtain ⟨⟨t,a,b⟩,u,c,d⟩:=x;exact⟨⟨t,a,e.at b⟩,u,c,e.at d⟩
structure Op where
 (ad:Nat) (result:Int) (bC:String) (number:Int) (args:List Int) (aA:Nat) (tS:V) (bO:List Int) (rA:Nat) (aT:List Int) (lA:Nat) (pair:Bool)
structure Last where
 (ad:Nat) (bC:String) (fn:Int) (args:List Int) (aA:Nat) (to other ae:Int)
structure ax where
 (ad:Nat) (aa:Int) (aH:String) (params:List Int) (pA:Nat) (ae bK aw:Int) (aM:List Op) (oA:Nat) (ag:Last)
structure aI where
 (ad tA:Nat) (ap:List ax)
noncomputable def JM(o:Op):List (String×V):=[("result",.int o.result),("word",sv o.bC),("number",.int o.number),("args",.ref o.aA),("datum",o.tS),("results",.ref o.rA),("labels",.ref o.lA)]
noncomputable def v5(l:Last):List (String×V):=[("word",sv l.bC),("fun",.int l.fn),("args",.ref l.aA),("to",.int l.to),("other",.int l.other),("var",.int l.ae)]
noncomputable def mK(b:ax)(l:V):List (String×V):=[("label",.int b.aa),("sort",sv b.aH),("params",.ref b.pA),("rest",.int (-1)),("var",.int b.ae),("home",.int b.bK),("parent",.int b.aw),("title",sv ""),("ops",.ref b.oA),("last",l)]
noncomputable def Dat(h:Hp)(v:V):Bool->Prop
 |true=>∃a fs,v= .ref a/\h a=some (.inst "Pair" fs)
 |false=>v= .bool true\/v= .int 5\/∃a,v= .ref a/\h a=some (.cZ "Special" [("title",sv "empty")])
theorem Dat.ext{h h':Hp}{v:V}{p:Bool}(x:Dat h v p)(e:Ext h h'):Dat h' v p:=by
 cases p with
 |true=>obtain ⟨a,fs,rfl,x⟩:=x;exact⟨a,fs,rfl,e.at x⟩
 |false=>
  rcases x with x|x|⟨a,rfl,x⟩
  . exact .inl x
  . exact .inr (.inl x)
  . exact .inr (.inr ⟨a,rfl,e.at x⟩)
structure xX(im:Hp)(o:Op):Prop where
 self:im o.ad=some (.inst "KOp" (JM o))
 args:im o.aA=some (.list (o.args.map .int))
 bO:im o.rA=some (.list (o.bO.map .int))
 aT:im o.lA=some (.list (o.aT.map .int))
 dat:o.bC="const"->Dat im o.tS o.pair
structure f_(im:Hp)(l:Last):Prop where
 self:im l.ad=some (.inst "KLast" (v5 l))
 args:im l.aA=some (.list (l.args.map .int))
structure vS(im:Hp)(b:ax):Prop where
 self:im b.ad=some (.inst "KBlock" (mK b (.ref b.ag.ad)))
 params:im b.pA=some (.list (b.params.map .int))
 aM:im b.oA=some (.list (b.aM.map λo=>.ref o.ad))
 op:∀o∈b.aM,xX im o
 ag:f_ im b.ag
structure PR(im:Hp)(P:aI):Prop where
 self:im P.ad=some (.inst "KProgram" [("table",.ref P.tA),("entry",.int 1)])
 table:im P.tA=some (.dict (P.ap.map λb=>(b.aa,.ref b.ad)))
 aS:∀b∈P.ap,vS im b
theorem xX.ext{im h:Hp}{o:Op}(R:xX im o)(e:Ext im h):xX h o:=⟨e.at R.self,e.at R.args,e.at R.bO,e.at R.aT,λc=>(R.dat c).ext e⟩
theorem f_.ext{im h:Hp}{o:Last}(R:f_ im o)(e:Ext im h):f_ h o:=⟨e.at R.self,e.at R.args⟩
theorem vS.ext{im h:Hp}{b:ax}(R:vS im b)(e:Ext im h):vS h b:=⟨e.at R.self,e.at R.params,e.at R.aM,λo m=>(R.op o m).ext e,R.ag.ext e⟩
theorem PR.ext{im h:Hp}{P:aI}(R:PR im P)(e:Ext im h):PR h P:=⟨e.at R.self,e.at R.table,λb m=>(R.aS b m).ext e⟩
end
local macro_rules
 | `(tactic| walk_at $s) => do
  let g<-Lean.MonadQuotation.addMacroScope `x
  let t:=wtb s.getString
  let l:=t.splitOn ","
  return (syn [] (λn=>{Lean.extractMacroScopes g with name:=n}.review) (if s.getString== "s" then "'first '| "++ " '| ".intercalate (l.map λr=>wal r)++ " #73/. #2/first" else t))
local macro_rules
 | `(tactic| nofun) => `(tactic| walk_at "w")
section
section
variable {Φ:Calls}{γ:String->Option V}{h:Hp}{Q:V->Hp->Prop}{P:aI}
theorem EO:100<big:=by decide
theorem fP{p:Prop}[Decidable p](i:Int):(if p then [i] else []).length<=1:=by split;exact Zs 1;exact ZS 1
noncomputable def Op.aC(o:Op):List Int:=if o.bC="fix" then o.bO else if 0<=o.result then [o.result] else []
noncomputable def Last.aQ(l:Last):List Int:=l.args++((if 0<=l.fn then [l.fn] else [])++(if 0<=l.ae then [l.ae] else []))
noncomputable def Last.bf(l:Last):List Int:=(if 0<=l.to then [l.to] else [])++(if 0<=l.other then [l.other] else [])
noncomputable def ax.binders(b:ax):List Int:=b.params++(if 0<=b.ae then [b.ae] else [])
noncomputable def ax.aC(b:ax):List Int:=b.binders++b.aM.flatMap Op.aC
theorem iX(W:Wd Φ γ){o:Op}(R:xX h o)(q:∀a h',Ext h h'->h a=none->h' a=some (.list (o.aC.map .int))->Q (.ref a) h'):Φ "KOp.given" [.ref o.ad] h Q:=by
 refine W.cl rfl rfl ?_;have s:=R.self;have r:=R.bO;unfold Op.aC at q;nofun;refine r_ite (λc=>?_) λc=>?_
 . nofun;intro a h' A;nofun;exact q _ _ A.ext A.new (by rw[if_pos (beq_iff_eq.mp c)];exact A.at)
 . rw[if_neg (beq_eq_false_iff_ne.mp c)] at q;nofun;refine r_dec (λc=>?_) λc=>?_
   . nofun;intro a h' A;nofun;exact q _ _ A.ext A.new (by rw[if_pos c];exact A.at)
   . nofun;intro a h' A;nofun;exact q _ _ A.ext A.new (by rw[if_neg c];exact A.at)
theorem ql(W:Wd Φ γ){l:Last}(R:f_ h l)(hl:l.args.length<100)(q:∀a h',Ext h h'->h a=none->h' a=some (.list (l.aQ.map .int))->Q (.ref a) h'):Φ "KLast.reads" [.ref l.ad] h Q:=by
 refine W.cl rfl rfl ?_;have s:=R.self;have r:=R.args;nofun;intro a h1 A;nofun;refine r_push l.fn rfl A.at A.new A.ext (ZL hl EO) (λK hK=>?_) λh2 E2 f2=>?_
 . nofun;exact hK
 nofun;refine r_push l.ae rfl f2 A.new E2 ?_ (λK hK=>?_) λh3 E3 f3=>?_
 . rw[Zb];exact Zk (ZR (ZI hl) (fP _)) (by decide)
 . nofun;exact hK
 nofun;exact q _ _ E3 A.new (by unfold Last.aQ;rw[<-Zo];exact f3)
theorem ib(W:Wd Φ γ){l:Last}(R:f_ h l)(q:∀a h',Ext h h'->h a=none->h' a=some (.list (l.bf.map .int))->Q (.ref a) h'):Φ "KLast.targets" [.ref l.ad] h Q:=by
 refine W.cl rfl rfl ?_;have s:=R.self;nofun;intro a h1 A;nofun;refine r_push (l:=[]) l.to rfl A.at A.new A.ext (by decide) (λK hK=>?_) λh2 E2 f2=>?_
 . nofun;exact hK
 nofun;refine r_push l.other rfl f2 A.new E2 (Zk (fP _) (by decide)) (λK hK=>?_) λh3 E3 f3=>?_
 . nofun;exact hK
 nofun;exact q _ _ E3 A.new f3
theorem mt(W:Wd Φ γ){b:ax}(R:vS h b)(hl:b.params.length<100)(q:∀a h',Ext h h'->h a=none->h' a=some (.list (b.binders.map .int))->Q (.ref a) h'):Φ "KBlock.binders" [.ref b.ad] h Q:=by
 refine W.cl rfl rfl ?_;have s:=R.self;have r:=R.params;nofun;intro a h1 A;nofun;refine r_push b.ae rfl A.at A.new A.ext (ZL hl EO) (λK hK=>?_) λh2 E2 f2=>?_
 . nofun;exact hK
 nofun;exact q _ _ E2 A.new f2
theorem pK(W:Wd Φ γ){b:ax}(R:vS h b)(hl:b.params.length<100)(hg:b.aC.length<1000)(q:∀a h',Ext h h'->h a=none->h' a=some (.list (b.aC.map .int))->Q (.ref a) h'):Φ "KBlock.given" [.ref b.ad] h Q:=by
 refine W.cl rfl rfl ?_;have s:=R.self;have r:=R.aM;nofun;refine mt W R hl λa h1 e1 n1 f1=>?_;nofun;refine cw W.aV iL (λo:Op=>.ref o.ad) b.aM Op.aC e1 n1 (e1.at r) f1 (λz=>aB n1 r z) (ZL hg (by decide)) (λo σ h2 zs hx E2 B g2 hz K hK hr=>?_) λσ h2 E2 B g2=>?_
 . have s2:=(R.op o hx).self;nofun;refine iX W ((R.op o hx).ext B) λc h3 e3 n3 f3=>?_;have g3:=e3.at g2;refine r_extendi g3 f3 (aB n3 g2) (ZI hz) λh4 p=>?_;nofun;exact hK _ _ (p.im (E2.trans e3) ao) p.at
 . nofun;exact q _ _ B n1 g2
end
end
section
noncomputable def aI.aM(P:aI):List Op:=P.ap.flatMap (·.aM)
noncomputable def aK(o:Op):Bool:=o.bC== "const"&& !o.pair
noncomputable def simple(P:aI):List Int:=(P.aM.filter aK).map (·.result)
structure aL(P:aI):Prop where
 asc:(P.ap.map (·.aa)).Pairwise (· < ·)
 cG:P.ap.length<64
 pos:∀b∈P.ap,1<=b.aa
 aH:∀b∈P.ap,b.aH="fun"\/b.aH="cont"
 ent:∃b∈P.ap,b.aa=1/\b.aH="fun"/\b.aw= -1
 par:∀b∈P.ap,b.aa≠1->∃p∈P.ap,p.aa=b.aw/\p.aa<b.aa
 vp:∀b∈P.ap,∀t∈b.ag.bf,∃c∈P.ap,c.aa=t/\c.aH="cont"
 dq:∀b∈P.ap,b.aM.length<=3
 gf:∀b∈P.ap,b.params.length<=1
 mG:∀b∈P.ap,b.ag.args.length<=1
 CR:∀b∈P.ap,∀o∈b.aM,o.args.length<=2/\o.bO.length<=2/\o.aT.length<=2
 Re:∀b∈P.ap,∀o∈b.aM,∀c∈P.ap,∀o'∈c.aM,∀v,v∈o.aC->v∈o'.aC->o=o'
 yu:(simple P).length<64
 J3:∀b∈P.ap,b.ag.bC="call"->0<=b.ag.to->∃c∈P.ap,c.aa=b.ag.to/\c.aw=b.aa
 Da:∀b∈P.ap,(b.ag.fn= -1\/0<=b.ag.fn)/\(b.ag.ae= -1\/0<=b.ag.ae)/\(b.ae= -1\/0<=b.ae)
 JN:∀b∈P.ap,∀o∈b.aM,(o.bC="fix"->o.result= -1)/\(o.bC≠ "fix"->o.bO=[])/\(o.result= -1\/0<=o.result)
 J9:∀b∈P.ap,(∀o∈b.aM,∀x∈o.args,0<=x)/\∀x∈b.ag.args,0<=x
 cvar:∀b∈P.ap,b.aH="cont"->b.ae= -1
 Qg:∀b∈P.ap,∀o∈b.aM,(o.bC="const"/\o.args=[]/\o.aT=[])\/(o.bC="fun"/\o.args=[]/\∃l,o.aT=[l])\/(o.bC="fix"/\o.args=[]/\o.bO.length=o.aT.length)\/((o.bC="prim"\/o.bC="setglobal")/\o.aT=[])
 lw:∀b∈P.ap,(b.ag.bC="if"/\0<=b.ag.fn/\0<=b.ag.to/\0<=b.ag.other/\b.ag.args=[]/\b.ag.ae= -1)\/(b.ag.bC="jump"/\0<=b.ag.to/\b.ag.other= -1/\b.ag.fn= -1/\b.ag.ae= -1)\/
  (b.ag.bC="give"/\0<=b.ag.ae/\b.ag.fn= -1/\b.ag.to= -1/\b.ag.other= -1)\/(b.ag.bC="call"/\0<=b.ag.fn/\b.ag.other= -1/\((0<=b.ag.to/\b.ag.ae= -1)\/(b.ag.to= -1/\0<=b.ag.ae)))
 lpar:∀b∈P.ap,∀o∈b.aM,∀t∈o.aT,∃c∈P.ap,c.aa=t/\c.aw=b.aa
 Cz:∀b∈P.ap,(b.aM.flatMap (·.aT)).Nodup
 cst:∀b∈P.ap,∀o∈b.aM,o.bC="const"->0<=o.result
 rest:∀b∈P.ap,∀o∈b.aM,∀t∈o.aT,∃c∈P.ap,c.aa=t/\c.aH="fun"
variable {P:aI}{R:List Int}
noncomputable def aI.par(P:aI)(l:Int):Int:=((P.ap.find? (λb=>b.aa==l)).map (·.aw)).getD 0
theorem aL.uniq(N:aL P){b c:ax}(hb:b∈P.ap)(hc:c∈P.ap)(e:b.aa=c.aa):b=c:=by
 have:∀{l:List ax},(l.map (·.aa)).Pairwise (· < ·)->b∈l->c∈l->b=c:=by
  intro l
  induction l with
  |nil=>intro _ h;cases h
  |cons x l ih=>
   intro p hb hc;simp only[Zw,YF,Zn,forall_exists_index,and_imp,forall_apply_eq_imp_iff₂] at p;rcases Zp.mp hb with rfl|kb<;>rcases Zp.mp hc with rfl|kc
   . rfl
   . exact absurd e (Yd (p.1 _ kc))
   . exact absurd e (WL (p.1 _ kb))
   . exact ih p.2 kb kc
 exact this N.asc hb hc
theorem aL.find(N:aL P){b:ax}(hb:b∈P.ap):P.ap.find? (λc=>c.aa==b.aa)=some b:=by
 cases e:P.ap.find? (λc=>c.aa==b.aa) with
 |none=>have:=VN.mp e b hb;simp at this
 |some c=>
  have h1:=List.mem_of_find?_eq_some e;have h2:=List.find?_some e;rw[N.uniq h1 hb (by simpa using h2)]
theorem aL.AM(N:aL P){b:ax}(hb:b∈P.ap):P.par b.aa=b.aw:=by unfold aI.par;rw[N.find hb];rfl
noncomputable def jP(P:aI)(R:List Int):Nat->Int->Int
 |0,l=>l
 |n+1,l=>if l∈R then l else jP P R n (P.par l)
theorem nP{P:aI}{R:List Int}{n:Nat}{l:Int}:jP P R (n+1) l=if l∈R then l else jP P R n (P.par l):=rfl
noncomputable def bB(P:aI)(R:List Int)(l:Int):Int:=jP P R l.toNat l
theorem kX(N:aL P)(r1:1∈R):∀(n m:Nat) (b:ax),b∈P.ap->b.aa.toNat<=n->b.aa.toNat<=m->jP P R n b.aa=jP P R m b.aa
 |0,m,b,hb,h1,h2=>by have:=N.pos b hb;exact ZA ((aj 0x1110211100150100110000013313) _ _ _ _ h1 this (ZY _)) ((aj 0x1110211100150100110000013313) _ _ _ _ h1 this (ZY _))
 |n,0,b,hb,h1,h2=>by have:=N.pos b hb;exact ZA ((aj 0x1110211100150100110000013313) _ _ _ _ h2 this (ZY _)) ((aj 0x1110211100150100110000013313) _ _ _ _ h2 this (ZY _))
 |n+1,m+1,b,hb,h1,h2=>by
  rw[nP,nP];split
  . rfl
  . rename_i hn;have:b.aa≠1:=by intro e;rw[e] at hn;exact hn r1
    refine oeaa (N.par b hb this) λp hp e lt=>?_;rw[N.AM hb,<-e];exact kX N r1 n m p hp (by exact W9.mpr ((aj 0x11111150100151101101110112013322) _ _ _ _ h1 lt (ZY _))) (by exact W9.mpr ((aj 0x11111150100151101101110112013322) _ _ _ _ h2 lt (ZY _)))
theorem jd{l:Int}(hl:1<=l)(h:l∈R):bB P R l=l:=by
 unfold bB;obtain ⟨n,e⟩:∃n,l.toNat=n+1:=⟨l.toNat - 1,(YU (VO hl)).symm⟩;rw[e,jP,if_pos h]
theorem iJ(N:aL P)(r1:1∈R){b:ax}(hb:b∈P.ap)(h:b.aa∉R):∃p∈P.ap,p.aa=b.aw/\p.aa<b.aa/\bB P R b.aa=bB P R p.aa:=by
 have ne:b.aa≠1:=by intro e;rw[e] at h;exact h r1
 refine oeaa (N.par b hb ne) λp hp e lt=>?_;refine⟨p,hp,e,lt,?_⟩;unfold bB;obtain ⟨n,e'⟩:∃n,b.aa.toNat=n+1:=⟨b.aa.toNat - 1,(YU (VO (N.pos b hb))).symm⟩;rw[e',jP,if_neg h,N.AM hb,<-e];exact kX N r1 _ _ p hp (by exact W9.mpr ((aj 0x101111150100151101011201511011322) _ _ _ _ lt e' (ZY _))) (by exact(aj 0x101013010) _)
noncomputable def bM(P:aI)(R:List Int)(rb:ax):List ax:=rb::P.ap.filter λb=>b.aa != rb.aa&&bB P R b.aa==rb.aa
noncomputable def bm(P:aI)(R:List Int)(l:Int):List ax:=P.ap.filter λb=>R.contains b.aa&&(b.aH== "cont"&&b.aw==l)
theorem cq{rb b:ax}(hr:rb∈P.ap)(h:b∈bM P R rb):b∈P.ap:=by
 rcases Zp.mp h with rfl|h
 . exact hr
 . exact(ZH.mp h).1
theorem gK(N:aL P)(r1:1∈R){rb b:ax}(hr:rb∈P.ap)(hR:rb.aa∈R):b∈bM P R rb↔b∈P.ap/\bB P R b.aa=rb.aa:=by
 unfold bM;rw[Zp,ZH];constructor
 . rintro (rfl|⟨h,x⟩)
   . exact⟨hr,jd (N.pos _ hr) hR⟩
   . simp at x;exact⟨h,x.2⟩
 . intro z_;refine oa z_ λh x=>?_
   by_cases e:b.aa=rb.aa
   . exact .inl (N.uniq h hr e)
   . exact .inr ⟨h,by simp[e,x]⟩
theorem oN(N:aL P){rb:ax}:(bM P R rb).length<=64:=Zk (ZU _ _) N.cG
theorem eH(N:aL P){l:Int}:(bm P R l).length<=64:=ZI (Zk (ZU _ _) N.cG)
end
section
section
variable {Φ:Calls}{γ:String->Option V}{h:Hp}{Q:V->Hp->Prop}{P:aI}{R:List Int}
noncomputable abbrev ch(b:ax):V:=.int b.aa
theorem hW{l:List Int}(h:l.Pairwise (· < ·)):bD l=l:=
 List.mergeSort_of_pairwise (h.imp λh=>decide_eq_true (Xz h))
theorem fL(W:Wd Φ γ)(N:aL P)(R:PR h P)(q:∀a h',Ext h h'->h a=none->h' a=some (.list (P.ap.map ch))->Q (.ref a) h'):Φ "KProgram.labels" [.ref P.ad] h Q:=by
 refine W.cl rfl rfl ?_;have s:=R.self;have l:(P.ap.map λb=>(b.aa,V.ref b.ad)).length<64:=by rw[Za];exact N.cG
 have r:=R.table;nofun;intro a h1 A;nofun;refine q a h1 A.ext A.new ?_;rw[A.at,Zt,show ((λx:Int×V=>x.1)∘λb:ax=>(b.aa,V.ref b.ad))=(·.aa) from rfl,hW N.asc,Zt]
 rfl
theorem wx(N:aL P){b:ax}(hb:b∈P.ap):(P.ap.map λb=>(b.aa,V.ref b.ad)).lookup b.aa=some (.ref b.ad):=by
 have:∀{l:List ax},(l.map (·.aa)).Pairwise (· < ·)->b∈l->(l.map λb=>(b.aa,V.ref b.ad)).lookup b.aa=some (.ref b.ad):=by
  intro l
  induction l with
  |nil=>intro _ h;cases h
  |cons x l ih=>
   intro p m;rw[Zw,ZT];rcases Zp.mp m with rfl|m
   . rw[beq_self_eq_true]
   . rw[Zw,YF] at p;rw[beq_eq_false_iff_ne.mpr (WL (p.1 _ (ZG m)))];exact ih p.2 m
 exact this N.asc hb
theorem p_block(W:Wd Φ γ)(N:aL P)(R:PR h P){b:ax}(hb:b∈P.ap)(q:Q (.ref b.ad) h):Φ "KProgram.block" [.ref P.ad,.int b.aa] h Q:=by
 refine W.cl rfl rfl ?_;have s:=R.self;have r:=R.table;have l:=wx N hb;nofun;exact q
structure Lay where
 (ad rA aA nA fA:Nat)
noncomputable def tP(P:aI)(y:Lay):List (String×V):=[("program",.ref P.ad),("roots",.ref y.rA),("atoms",.ref y.aA),("numbers",.ref y.nA),("free",.ref y.fA)]
structure jM(h:Hp)(P:aI)(y:Lay)(R:List Int):Prop where
 prog:PR h P
 self:h y.ad=some (.inst "Layout" (tP P y))
 roots:h y.rA=some (.dict (cy R))
theorem jM.ext{h h':Hp}{y:Lay}(x:jM h P y R)(e:Ext h h'):jM h' P y R:=⟨x.prog.ext e,e.at x.self,e.at x.roots⟩
variable {y:Lay}
theorem lX(W:Wd Φ γ)(Y:jM h P y R){l:Int}(q:Q (.bool (R.contains l)) h):Φ "Layout.is_root" [.ref y.ad,.int l] h Q:=by
 refine W.cl rfl rfl ?_;have s:=Y.self;have r:=Y.roots;nofun;exact q
theorem p_closure_var(W:Wd Φ γ){l:Int}(q:Q (.int (0 - l - 2)) h):Φ "closure_var" [.int l] h Q:=by
 refine W.cl rfl rfl ?_;nofun;exact q
theorem lV(W:Wd Φ γ)(N:aL P)(Y:jM h P y R)(r1:1∈R){b:ax}(hb:b∈P.ap)(q:Q (.int (bB P R b.aa)) h):Φ "Layout.unit_of" [.ref y.ad,.int b.aa] h Q:=by
 refine W.cl rfl rfl ?_;have s:=Y.self;have r:=Y.roots;have P1:=Y.prog.self;refine kQ W.aV (λn ρ h'=>h'=h/\∃c∈P.ap,ρ "label"=some (.int c.aa)/\bB P R c.aa=bB P R b.aa/\n=c.aa.toNat) b.aa.toNat ⟨rfl,b,hb,rfl,rfl,rfl⟩ ?_;intro n σ h1 z_;refine oaeaaa z_ λnM c hc l2 u wQ=>?_;subst nM;subst wQ;refine⟨!R.contains c.aa,λK hK=>?_,λz K hK=>?_,λz=>?_⟩
 . nofun;exact hK
 . have z:c.aa∉R:=jZ (nt z);have P2:=(Y.prog.aS c hc).self;refine oeaaa (iJ N r1 hc z) λp hp e lt u'=>?_;have qf:=N.pos p hp;nofun;refine p_block W N Y.prog hc ?_;nofun;exact hK _ _ _ ((Int.toNat_lt_toNat (Va (VP Int.zero_lt_one qf) lt)).mpr lt) ⟨rfl,p,hp,congrArg (λx=>some (V.int x)) e.symm,u'.symm.trans u,rfl⟩
 . nofun;rw[jd (N.pos c hc) (ii (nf z))] at u;rw[u];exact q
theorem BY(N:aL P){rb:ax}:(P.ap.filter λb=>b.aa != rb.aa&&bB P R b.aa==rb.aa).length<64:=Zk (ZU _ _) N.cG
theorem jy(W:Wd Φ γ)(N:aL P)(Y:jM h P y R)(r1:1∈R){b:ax}(hb:b∈P.ap)(q:∀a h',Ext h h'->h a=none->h' a=some (.list ((bM P R b).map ch))->Q (.ref a) h'):Φ "Layout.members" [.ref y.ad,.int b.aa] h Q:=by
 refine W.cl rfl rfl ?_;have s:=Y.self;have s2:=Y.prog.self;nofun;refine fL W N Y.prog λa h1 e1 n1 f1=>?_;refine cO W.aV ch ch (λc=>c.aa != b.aa&&bB P R c.aa==b.aa) P.ap f1 (λc h2 hc e2 K hK=>?_) (λc h2 hc _ e2 K hK=>?_) λa2 h2 e2 n2 f2=>?_
 . nofun;refine r_and (bB P R c.aa==b.aa) (λ_ K hK=>?_) ?_
   . have s3:=(e1.trans e2).at s;nofun;refine lV W N (Y.ext (e1.trans e2)) r1 hc ?_;nofun;exact hK
   . nofun;exact hK h2 e2
 . nofun;exact hK h2 e2
 . nofun;intro a3 h3 A;have f3:=A.ext.at f2;nofun;refine r_cat A.at f3 ?_ λa4 h4 B=>?_
   . rw[Za];exact Zf (ZO (ZI (BY N)) _) (show 1+64<=big by decide)
   . have e4:=B.im (A.im (e1.trans e2));nofun;exact q a4 h4 e4 ((A.im (e1.trans e2)).none B.new) B.at
theorem jz(W:Wd Φ γ)(N:aL P)(Y:jM h P y R){l:Int}(q:∀a h',Ext h h'->h a=none->h' a=some (.list ((bm P R l).map ch))->Q (.ref a) h'):Φ "Layout.made_at" [.ref y.ad,.int l] h Q:=by
 refine W.cl rfl rfl ?_;have s:=Y.self;have s2:=Y.prog.self;have s3:=Y.roots;have gc:=W.v7;nofun;intro a h1 A;have E1:=A.ext;nofun;refine fL W N (Y.prog.ext A.ext) λb h2 e2 n2 f2=>?_;refine cw W.aV (λl:List ax=>.list (l.map ch)) ch P.ap (λb=>if R.contains b.aa&&(b.aH== "cont"&&b.aw==l) then [b] else []) (A.ext.trans e2) A.new f2 (ys:=[]) (e2.at A.at) (λz=>aB n2 A.at z.symm) (qo (ZL N.cG (by decide))) (λx σ h3 zs hx E3 X g3 hz K hK hr=>?_) λσ h3 E3 X g3=>?_
 . have P2:=(Y.prog.aS x hx).self;nofun;refine r_and (x.aH== "cont"&&x.aw==l) (λ_ K hK=>?_) ?_
   . nofun;refine p_block W N (Y.prog.ext X) hx ?_;nofun;refine r_and (x.aw==l) (λ_ K hK=>?_) ?_
     . nofun;refine p_block W N (Y.prog.ext X) hx ?_;nofun;exact hK
     . nofun;exact hK
   . refine r_pushM x rfl g3 ao E3 (Zk (ZE _ _) hz) (λK hK=>?_) λh4 E4 g4=>?_
     . nofun;exact hK
     . nofun;exact hK _ _ E4 g4
 . rw[fB] at g3;nofun;exact q _ _ X A.new g3
end
end
section
variable {P:aI}{R S:List Int}
theorem dy{α:Type}[DecidableEq α]:∀{l m:List α},l.Nodup->(∀x∈l,x∈m)->l.length<=m.length
 |[],m,_,_=>ZS _
 |x::l,m,nd,s=>by
  have hx:=s x Ze;rw[ZD] at nd;have:=dy (m:=m.erase x) nd.2 (λy hy=>(List.mem_erase_of_ne (by rintro rfl;exact nd.1 hy)).mpr (s y (Zh _ hy)));rw[XJ hx] at this;exact Nat.add_le_of_le_sub (Xm hx) this
noncomputable def ins(R:List Int)(l:Int):List Int:=if l∈R then R else R++[l]
theorem gh{l x:Int}:x∈ins R l↔x∈R\/x=l:=by
 unfold ins;split
 . constructor
   . exact .inl
   . rintro (h|rfl)<;>assumption
 . simp
theorem jC{l:Int}(h:R.Nodup):(ins R l).Nodup:=by
 unfold ins;split
 . exact h
 . rw[ZJ];exact⟨h,by simp,λa ha b hb e=>by simp at hb;subst hb;subst e;contradiction⟩
theorem xD{l:Int}(h:l∉R):(ins R l).length=R.length+1:=by unfold ins;rw[if_neg h];simp
noncomputable def Sub(P:aI)(R:List Int):Prop:=R.Nodup/\∀l∈R,∃b∈P.ap,b.aa=l
theorem Sub.len(N:aL P)(h:Sub P R):R.length<=P.ap.length:=by
 have:=dy (m:=P.ap.map (·.aa)) h.1 (λx hx=>by refine oea (h.2 x hx) λb hb e=>?_;exact Zn.mpr ⟨b,hb,e⟩)
 simpa using this
theorem Sub.ins(h:Sub P R){b:ax}(hb:b∈P.ap):Sub P (ins R b.aa):=
 ⟨jC h.1,λl hl=>by rcases gh.mp hl with hl|rfl;exact h.2 l hl;exact⟨b,hb,rfl⟩⟩
noncomputable def Df(b:ax)(l:Int):Prop:=(b.aH="fun"/\l=b.aa)\/(b.ag.bC="call"/\0<=b.ag.to/\l=b.ag.to)
noncomputable def eO(P:aI)(R:List Int):Prop:=∀b∈P.ap,∀l,Df b l->l∈R
noncomputable def oF(P:aI)(R:List Int):Prop:=∀b∈P.ap,∀t∈b.ag.bf,t∉R->bB P R t=bB P R b.aa
noncomputable def Below(P:aI)(R:List Int):Prop:=∀S,eO P S->oF P S->∀l∈R,l∈S
structure dK(P:aI)(R:List Int):Prop where
 sub:Sub P R
 cg:eO P R
 closed:oF P R
 below:Below P R
theorem eO.one(N:aL P)(h:eO P R):1∈R:=by
 refine oeaaa N.ent λb hb e s _=>?_;exact h b hb 1 (.inl ⟨s,e.symm⟩)
theorem eO.fun(h:eO P R){b:ax}(hb:b∈P.ap)(s:b.aH="fun"):b.aa∈R:=h b hb _ (.inl ⟨s,rfl⟩)
theorem lS(N:aL P)(r1:1∈R)(s1:1∈S)(sub:∀l∈R,l∈S):∀(n:Nat) (b:ax),b∈P.ap->b.aa.toNat<=n->bB P R b.aa=bB P R (bB P S b.aa)
 |0,b,hb,h=>by have:=N.pos b hb;exact ZA ((aj 0x1110211100150100110000013313) _ _ _ _ h this (ZY _)) ((aj 0x1110211100150100110000013313) _ _ _ _ h this (ZY _))
 |n+1,b,hb,h=>by
  by_cases m:b.aa∈S
  . rw[jd (R:=S) (N.pos b hb) m]
  . refine oeaaa (iJ N s1 hb m) λp hp e lt u=>?_;refine oeaaa (iJ N r1 hb (λh=>m (sub _ h))) λp' kC e' lt' u'=>?_;have:p=p':=N.uniq hp kC (by rw[e,e']);subst this;rw[u,u'];have:=N.pos b hb;exact lS N r1 s1 sub n p hp (by exact W9.mpr ((aj 0x11111150100151101101110112013322) _ _ _ _ h lt (ZY _)))
theorem Below.step(N:aL P)(h:Below P R)(s:eO P R){b c:ax}(hb:b∈P.ap)(hc:c∈P.ap)(ht:c.aa∈b.ag.bf)(hn:c.aa∉R)(ne:bB P R c.aa≠bB P R b.aa):Below P (ins R c.aa):=by
 intro S hS hC l hl;rcases gh.mp hl with hl|rfl
 . exact h S hS hC l hl
 . by_cases m:c.aa∈S
   . exact m
   . exfalso;apply ne;have k:=hC b hb _ ht m;have r1:=s.one N;have s1:=hS.one N;rw[lS N r1 s1 (h S hS hC) _ c hc (Zs _),lS N r1 s1 (h S hS hC) _ b hb (Zs _),k]
theorem eO.ins(h:eO P R){l:Int}:eO P (ins R l):=λb hb x hx=>gh.mpr (.inl (h b hb x hx))
theorem dK.same(x:dK P R)(y:dK P S):∀l,l∈R↔l∈S:=λl=>⟨x.below S y.cg y.closed l,y.below R x.cg x.closed l⟩
theorem eJ(l:List Int):(bD l).Perm l:=WG l _
theorem hV(l:List Int):(bD l).Pairwise (· <= ·):=
 (WY (le:=λa b:Int=>decide (a<=b)) (λ_ _ _ g h=>decide_eq_true (V4 (of_decide_eq_true g) (of_decide_eq_true h))) (λa b=>YC.mpr ((Int.le_total a b).imp decide_eq_true decide_eq_true)) l).imp of_decide_eq_true
theorem qJ:∀{l m:List Int},l.Pairwise (· <= ·)->m.Pairwise (· <= ·)->l.Perm m->l=m:=λh1 h2 p=>p.eq_of_pairwise (λa b _ _ h1 h2=>by exact ZA ((aj 0x111101011010102) _ _ h1) ((aj 0x111101011010102) _ _ h2)) h1 h2
theorem hU:∀{l m:List Int},l.Nodup->m.Nodup->(∀x,x∈l↔x∈m)->l.Perm m:=λh1 h2 h=>(List.perm_ext_iff_of_nodup h1 h2).mpr h
theorem pE{l m:List Int}(h1:l.Nodup)(h2:m.Nodup)(h:∀x,x∈l↔x∈m):bD l=bD m:=
 qJ (hV _) (hV _) ((eJ l).trans ((hU h1 h2 h).trans (eJ m).symm))
theorem cU{l:List Int}{x:Int}:x∈bD l↔x∈l:=(eJ l).mem_iff
theorem mY{l:List Int}(h:l.Nodup):(bD l).Nodup:=(eJ l).nodup_iff.mpr h
theorem jD{l:List Int}:(bD l).length=l.length:=(eJ l).length_eq
end
section
variable {P:aI}{R:List Int}
theorem dP{k:Int}{v:V}:∀{es:List (Int×V)},(putD es k v).map (·.1)=ins (es.map (·.1)) k
 |[]=>by simp[putD,ins]
 |(m,w)::r=>by
  have ih:=dP (k:=k) (v:=v) (es:=r);rw[putD]
  by_cases e:m=k
  . subst e;simp[ins]
  . rw[if_neg e,Zw,ih];unfold ins
    by_cases z:k∈r.map (·.1)
    . rw[if_pos z,if_pos (by simp[z])];rfl
    . rw[if_neg z,if_neg (by simp only[Zw,Zp,not_or];exact⟨Yq e,z⟩)];rfl
theorem eV{k j:Int}{v:V}:∀{es:List (Int×V)},(putD es k v).lookup j=if j=k then some v else es.lookup j
 |[]=>by
  simp only[putD,ZT,List.lookup_nil]
  by_cases e:j=k
  . simp[e]
  . rw[beq_false_of_ne e,if_neg e]
 |(m,w)::r=>by
  have ih:=eV (k:=k) (j:=j) (v:=v) (es:=r);rw[putD]
  by_cases e:m=k
  . subst e;simp only[if_true,ZT]
    by_cases z:j=m
    . simp[z]
    . rw[beq_false_of_ne z,if_neg z]
  . rw[if_neg e];simp only[ZT,ih]
    by_cases z:j=m
    . subst z;simp[e]
    . rw[beq_false_of_ne z]
theorem bv{α β:Type}{f:α->List β}{k:Nat}:∀{l:List α},(∀x∈l,(f x).length<=k)->(l.flatMap f).length<=l.length*k
 |[],_=>by simp
 |x::l,h=>by
  rw[ZK,Zb,Yn,Nat.add_mul,Nat.one_mul,Vb];exact ZR (bv λy hy=>h y (Zh _ hy)) (h x Ze)
theorem cW{es:List (Int×V)}(nd:(es.map (·.1)).Nodup){p:Int×V}(h:p∈es):es.lookup p.1=some p.2:=by
 induction es with
 |nil=>cases h
 |cons x es ih=>
  simp only[Zw,ZD] at nd;rw[ZT];rcases Zp.mp h with rfl|h
  . simp
  . have:p.1≠x.1:=by intro e;exact nd.1 (by rw[<-e];exact Zn.mpr ⟨p,h,rfl⟩)
    rw[beq_false_of_ne this];exact ih nd.2 h
theorem pM{es:List (Int×V)}{k:Int}{v:V}(h:es.lookup k=some v):(k,v)∈es:=by
 induction es with
 |nil=>cases h
 |cons x es ih=>
  rw[ZT] at h
  by_cases e:k=x.1
  . rw[e] at h;simp at h;subst e;subst h;exact Ze
  . rw[beq_false_of_ne e] at h;exact Zh _ (ih h)
noncomputable def bV(R l:List Int):List Int:=l.foldl ins R
theorem eS{l:List Int}:∀{R:List Int} {x:Int},x∈bV R l↔x∈R\/x∈l:=by
 induction l with
 |nil=>intro R x;simp[bV]
 |cons y l ih=>
  intro R x;show x∈bV (ins R y) l↔_;rw[ih,gh,Zp,or_assoc]
theorem kj{l:List Int}:∀{R:List Int},R.Nodup->(bV R l).Nodup:=by
 induction l with
 |nil=>intro R h;exact h
 |cons y l ih=>intro R h;exact ih (jC h)
theorem AY{l:Int}:(ins R l).length<=R.length+1:=by unfold ins;split<;>simp
theorem uk{l:List Int}:∀{R:List Int},(bV R l).length<=R.length+l.length:=by
 induction l with
 |nil=>intro R;simp[bV]
 |cons y l ih=>
  intro R;show (bV (ins R y) l).length<=_;exact Zf (ih (R:=ins R y)) (Zf (ZP AY _) (YJ (XQ ..)))
theorem m9{l m:List Int}:bV R (l++m)=bV (bV R l) m:=by simp[bV]
theorem gO{l:List Int}{v:Int}:ins (bV R l) v=bV R (l++[v]):=by rw[m9];rfl
noncomputable def cv(l:Int):Int:=0 - l - 2
noncomputable def bS(R:List Int)(b:ax):List Int:=b.ag.aQ++(b.ag.bf.filter λt=>R.contains t).map cv
noncomputable def bZ(R:List Int)(b:ax):List Int:=b.aM.flatMap (·.args)++bS R b
noncomputable def bF(P:aI)(R:List Int)(rb:ax):List Int:=(bM P R rb).flatMap (bZ R)
noncomputable def b0(P:aI)(R:List Int)(b:ax):List Int:=b.aC++(bm P R b.aa).map λc=>cv c.aa
noncomputable def br(P:aI)(R:List Int)(rb:ax):List Int:=(bM P R rb).flatMap (b0 P R)
noncomputable def ct(P:aI)(R:List Int)(b:ax):List Int:=b.aM.flatMap (·.aT)++(bm P R b.aa).map (·.aa)
noncomputable def inner(P:aI)(R:List Int)(rb:ax):List Int:=(bM P R rb).flatMap (ct P R)
theorem gi{l:Last}:l.bf.length<=2:=by unfold Last.bf;split<;>split<;>simp
theorem qN(N:aL P){b:ax}(hb:b∈P.ap):b.ag.aQ.length<=3:=by
 have:=N.mG b hb;unfold Last.aQ;split<;>split<;>simp<;>exact Zf this (by decide)
theorem qn(N:aL P){b:ax}(hb:b∈P.ap):(bS R b).length<=5:=by
 unfold bS;rw[Zb,Za];exact ZR (qN N hb) (Zf (ZU _ _) gi)
theorem jE(N:aL P){b:ax}(hb:b∈P.ap){o:Op}(ho:o∈b.aM):o.aC.length<=2:=by
 have:=(N.CR b hb o ho).2.1;unfold Op.aC;split
 . exact(aj 0x112001320013110) _ this
 . split<;>simp
theorem pJ(N:aL P){b:ax}(hb:b∈P.ap):b.aC.length<=8:=by
 have h1:=N.gf b hb;have h2:=N.dq b hb;have h3:=bv (f:=Op.aC) (k:=2) (l:=b.aM) (λo ho=>jE N hb ho);have h4:=ZZ 2 h2;unfold ax.aC ax.binders;split<;>simp only[Zb,Yn,Yj]<;>first|exact(aj 0x121180211000201223110272133011310013330) b.params.length b.aM.length ((List.flatMap Op.aC b.aM).length) h1 h2 h3|exact(aj 0x121180210001223110272133011310013330) b.params.length b.aM.length ((List.flatMap Op.aC b.aM).length) h1 h2 h3
theorem lf(N:aL P){b:ax}(hb:b∈P.ap):(bZ R b).length<=11:=by
 have h1:=qn (R:=R) N hb;have h2:=N.dq b hb;have h3:=bv (f:=λo:Op=>o.args) (k:=2) (l:=b.aM) (λo ho=>(N.CR b hb o ho).1);have h4:=ZZ 2 h2;unfold bZ;simp only[Zb];exact(aj 0x1211b0012123110272133011350013330) _ _ _ h1 h2 h3
theorem sX(N:aL P){b:ax}(hb:b∈P.ap):(b0 P R b).length<=72:=by
 have h1:=pJ N hb;have h2:=eH (R:=R) (l:=b.aa) N;unfold b0;simp only[Zb,Za];exact(aj 0x111004861101230040611380013220) _ _ h1 h2
theorem sW(N:aL P){b:ax}(hb:b∈P.ap):(ct P R b).length<=70:=by
 have h2:=N.dq b hb;have h3:=bv (f:=λo:Op=>o.aT) (k:=2) (l:=b.aM) (λo ho=>(N.CR b hb o ho).2.2);have h4:=ZZ 2 h2;have h5:=eH (R:=R) (l:=b.aa) N;unfold ct;simp only[Zb,Za];exact(aj 0x112100466211123004062130102711330013330) _ _ _ h2 h3 h5
theorem xy{f:ax->List Int}(N:aL P){rb:ax}(hr:rb∈P.ap){k:Nat}(h:∀b∈P.ap,(f b).length<=k):((bM P R rb).flatMap f).length<=64*k:=by
 have h1:=bv (f:=f) (k:=k) (l:=bM P R rb) (λb hb=>h b (cq hr hb));have h2:=oN (R:=R) (rb:=rb) N;have h3:=ZZ k h2;exact(aj 0x111214040132140411311013230) _ _ _ h1 h3
end
section
section
variable {Φ:Calls}{γ:String->Option V}{h:Hp}{Q:V->Hp->Prop}{P:aI}{R:List Int}{y:Lay}
theorem gN{l:Int}:∀{R:List Int},putD (cy R) l (.bool true)=cy (ins R l)
 |[]=>by simp[cy,ins,putD]
 |x::R=>by
  have ih:=gN (l:=l) (R:=R);simp only[cy,Zw,putD] at ih ⊢
  by_cases e:x=l
  . subst e;simp[ins]
  . rw[if_neg e,ih];unfold ins
    by_cases m:l∈R
    . simp[m]
    . simp[m,Yq e]
theorem c8:(cy R).length=R.length:=Za ..
theorem sh(W:Wd Φ γ)(N:aL P)(Y:jM h P y R){b:ax}(hb:b∈P.ap)(q:∀a h',Ext h h'->h a=none->h' a=some (.list ((bS R b).map .int))->Q (.ref a) h'):Φ "last_reads" [.ref y.ad,.ref b.ad] h Q:=by
 refine W.cl rfl rfl ?_;have B:=Y.prog.aS b hb;have bs:=B.self;have ls:=B.ag.self;have ys:=Y.self;have len:(b.ag.aQ++b.ag.bf.flatMap λt=>(if R.contains t then [t] else []).map cv).length<big:=by
  rw[<-WZ,fB,Zb,Za];exact Zk (ZR (qN N hb) (Zf (ZU _ _) (gi (l:=b.ag)))) (by decide)
 nofun;refine ql W B.ag (Zk (N.mG b hb) (by decide)) λa h1 e1 n1 f1=>?_;nofun;refine ib W (B.ag.ext e1) λc h2 e2 n2 f2=>?_;refine cw W.aV iL V.int b.ag.bf (λt=>(if R.contains t then [t] else []).map cv) (e1.trans e2) n1 f2 (e2.at f1) (λz=>aB n2 f1 z.symm) len (λt σ h3 zs ht E3 X g3 hz K hK hr=>?_) λσ h3 E3 X g3=>?_
 . nofun;refine lX W (Y.ext X) ?_;refine r_pushM (cv t) rfl g3 ao E3 (Zk (ZE _ _) hz) (λK hK=>?_) λh4 E4 g4=>?_
   . nofun;exact hK
   . nofun;exact hK _ _ E4 (by rw[g4];split<;>rfl)
 . rw[<-WZ,fB] at g3;nofun;exact q _ _ X n1 g3
noncomputable abbrev mark(l:List Int):O:=.dict (cy (bV [] l))
theorem oO{l:List Int}{i:Int}:O.dict (putD (cy (bV [] l)) i (.bool true))=mark (l++[i]):=by rw[gN,gO]
theorem oP{l:List Int}{n:Nat}(h:l.length<n):(cy (bV [] l)).length<n:=by
 rw[c8];exact Zk uk (by rwa [Yj,Xx])
theorem r_mark{k:C}{ρ:Lo}{st:List V}{Q:Po}{a a':Nat}{j:Hp}{l:List Int}(W:Wd Φ γ)(xs:List Int)(hx:ρ "found"=some (.ref a'))(E:Ext j h)(n:j a'=none)(ha:h a=some (iL xs))(hc:h a'=some (mark l))(ne:a≠a')(lim:(l++xs).length<big)
 (q:∀σ h',Ext (aG a' h) h'->Ext j h'->h' a'=some (mark (l++xs))->wp Φ γ k (mix ["var"] σ ρ) st h' Q):wp Φ γ (.for ["var"] .seq (.az (.bool true)<|.ae "found"<|.ae "var"<|.dj .done) k) ρ (.ref a::st) h Q:=by
 have e:(xs.flatMap λx=>[x])=xs:=(List.flatMap_singleton' xs);refine cw W.aV mark V.int xs (λx=>[x]) E n ha hc ne (by rwa [e]) (λx σ h' zs CA E1 X g hz K hK hr=>?_) λσ h' E1 X g=>q σ h' E1 X (by rw[e] at g;exact g);refine r_lit (r_var hx (r_var rfl (r_setId g (oP (Zk (ZE _ _) hz)) λh2 p=>?_)));exact hK _ _ (p.im E1 ao) (p.at.trans (congrArg some oO))
theorem rP{f:ax->List Int}{k:Nat}(N:aL P){rb:ax}(hr:rb∈P.ap)(hf:∀b∈P.ap,(f b).length<=k)(hk:64*k<big):([]++(bM P R rb).flatMap f).length<big:=Zk (xy N hr hf) hk
theorem jH{α:Type}{l m:List α}{z n:Nat}(h:z+(l++m).length<n):z+l.length<n:=Zk (ZO (by rw[Zb];exact ZE _ _) _) h
theorem gW{α:Type}{l m:List α}{n:Nat}(h:l.length+m.length<n):(l++m).length<n:=by rwa [Zb]
theorem rU{α:Type}{l m o:List α}{n:Nat}(h:l.length+(m++o).length<n):(l++m++o).length<n:=by rwa [Zo,Zb]
theorem uM(W:Wd Φ γ)(N:aL P)(Y:jM h P y R)(r1:1∈R){rb:ax}(hr:rb∈P.ap)(q:∀a h',Ext h h'->h a=none->h' a=some (.dict (cy (bV [] (bF P R rb))))->Q (.ref a) h'):Φ "own_reads" [.ref y.ad,.int rb.aa] h Q:=by
 refine W.cl rfl rfl ?_;have ys:=Y.self;have Yp:=Y.prog;have ps:=Yp.self;nofun;intro a h1 A;have E1:=A.ext;nofun;refine jy W N (Y.ext E1) r1 hr λc h2 e2 n2 f2=>?_;have Z:=bg (E1.trans e2) A.new;refine cw W.aV mark ch (bM P R rb) (bZ R) (ys:=[]) (E1.trans e2) A.new f2 (e2.at A.at) (λz=>aB n2 A.at z.symm) (rP N hr (λb hb=>lf N hb) (by decide)) (λb σ h3 zs hb E3 X g3 hz K hK Mr=>?_) λσ h3 E3 X g3=>?_
 . have cE:=cq hr hb;have B:=Yp.aS b cE;have bs:=B.self;rw[show bZ R b=b.aM.flatMap (·.args)++bS R b from rfl] at hz hK;nofun;refine cw W.aV mark (λo:Op=>.ref o.ad) b.aM (·.args) E3 ao (X.at B.aM) g3 (λz=>aB A.new B.aM z) (gW (jH hz)) (λo σ h4 IO ho E4 X4 g4 Fg K4 CH I8=>?_) λσ h4 E4 X4 g4=>?_
   . have os:=(B.op o ho).self;have oa:=(B.op o ho).args;nofun;refine r_mark W o.args rfl E4 ao ((Z.trans X4).at oa) g4 (λz=>aB A.new oa z) (gW Fg) λσ h5 E5 X5 g5=>?_;exact r_done (CH _ _ X5 g5)
   . nofun;refine sh W N (Y.ext (Z.trans X4)) cE λu h5 e5 n5 f5=>?_;refine r_mark W (bS R b) rfl (X4.trans e5) ao f5 (e5.at g4) (λz=>aB n5 g4 z.symm) (rU hz) λσ h6 E6 X6 g6=>?_;exact r_done (hK _ _ X6 (by rwa [Zo] at g6))
 . nofun;exact q _ _ X A.new g3
theorem uN(W:Wd Φ γ)(N:aL P)(Y:jM h P y R)(r1:1∈R){rb:ax}(hr:rb∈P.ap)(q:∀a h',Ext h h'->h a=none->h' a=some (.dict (cy (bV [] (br P R rb))))->Q (.ref a) h'):Φ "own_given" [.ref y.ad,.int rb.aa] h Q:=by
 refine W.cl rfl rfl ?_;have ys:=Y.self;have Yp:=Y.prog;have ps:=Yp.self;nofun;intro a h1 A;have E1:=A.ext;nofun;refine jy W N (Y.ext E1) r1 hr λc h2 e2 n2 f2=>?_;have Z:=bg (E1.trans e2) A.new;refine cw W.aV mark ch (bM P R rb) (b0 P R) (ys:=[]) (E1.trans e2) A.new f2 (e2.at A.at) (λz=>aB n2 A.at z.symm) (rP N hr (λb hb=>sX N hb) (by decide)) (λb σ h3 zs hb E3 X g3 hz K hK Mr=>?_) λσ h3 E3 X g3=>?_
 . have cE:=cq hr hb;have B:=Yp.aS b cE;have bs:=B.self;rw[show b0 P R b=b.aC++(bm P R b.aa).map (λc=>cv c.aa) from rfl] at hz hK;nofun;refine pK W (B.ext X) (Zk (N.gf b cE) (by decide)) (Zk (pJ N cE) (by decide)) λu h5 e5 n5 f5=>?_;refine r_mark W b.aC rfl (E3.trans e5) ao f5 (e5.at g3) (λz=>aB n5 g3 z.symm) (gW (jH hz)) λσ h6 E6 X6 g6=>?_;nofun;refine jz W N (Y.ext (Z.trans X6)) λw h7 e7 n7 f7=>?_;refine cw W.aV mark ch (bm P R b.aa) (λc=>[cv c.aa]) (X6.trans e7) ao f7 (e7.at g6) (λz=>aB n7 g6 z.symm) (by rw[<-XG];exact rU hz) (λo σ h8 IO ho E8 X8 g8 TX K8 ZB hr8=>?_) λσ h8 E8 X8 g8=>?_
   . nofun;refine r_setId g8 (oP (Zk (ZE _ _) TX)) λh9 p=>?_;exact r_done (ZB _ _ (p.im E8 ao) (p.at.trans (congrArg some oO)))
   . exact r_done (hK _ _ X8 (by rwa [<-XG,Zo] at g8))
 . nofun;exact q _ _ X A.new g3
theorem qi(W:Wd Φ γ)(N:aL P)(Y:jM h P y R)(r1:1∈R){rb:ax}(hr:rb∈P.ap)(q:∀a h',Ext h h'->h a=none->h' a=some (.list ((inner P R rb).map .int))->Q (.ref a) h'):Φ "inner_units" [.ref y.ad,.int rb.aa] h Q:=by
 refine W.cl rfl rfl ?_;have ys:=Y.self;have Yp:=Y.prog;have ps:=Yp.self;nofun;intro a h1 A;have E1:=A.ext;nofun;refine jy W N (Y.ext E1) r1 hr λc h2 e2 n2 f2=>?_;have Z:=bg (E1.trans e2) A.new;refine cw W.aV iL ch (bM P R rb) (ct P R) (ys:=[]) (E1.trans e2) A.new f2 (e2.at A.at) (λz=>aB n2 A.at z.symm) (rP N hr (λb hb=>sW N hb) (by decide)) (λb σ h3 zs hb E3 X g3 hz K hK Mr=>?_) λσ h3 E3 X g3=>?_
 . have cE:=cq hr hb;have B:=Yp.aS b cE;have bs:=B.self;rw[show ct P R b=b.aM.flatMap (·.aT)++(bm P R b.aa).map (·.aa) from rfl] at hz hK;nofun;refine cw W.aV iL (λo:Op=>.ref o.ad) b.aM (·.aT) E3 ao (X.at B.aM) g3 (λz=>aB A.new B.aM z) (gW (jH hz)) (λo σ h4 IO ho E4 X4 g4 Fg K4 CH I8=>?_) λσ h4 E4 X4 g4=>?_
   . have os:=(B.op o ho).self;have oa:=(B.op o ho).aT;nofun;refine r_extendi g4 ((Z.trans X4).at oa) (λz=>aB A.new oa z.symm) (ZI Fg) λh5 p=>?_;exact r_done (CH _ _ (p.im E4 ao) p.at)
   . nofun;refine jz W N (Y.ext (Z.trans X4)) λu h5 e5 n5 f5=>?_;have g5:=e5.at g4;have f5:h5 u=some (iL ((bm P R b.aa).map (·.aa))):=by rw[f5,iL,Zt];rfl
     refine r_extendi g5 f5 (aB n5 g4) (by rw[<-Zb];exact ZI (rU hz)) λh6 p=>?_;exact r_done (hK _ _ (p.im (X4.trans e5) ao) (by rw[<-Zo];exact p.at))
 . nofun;exact q _ _ X A.new g3
end
end
section
section
variable {Φ:Calls}{γ:String->Option V}{h:Hp}{Q:V->Hp->Prop}{P:aI}{R:List Int}{y:Lay}
theorem r_setIf(i:Int){k e:C}{ρ:Lo}{st:List V}{Q:Po}{t:Bool}{a:Nat}{j:Hp}{l:List Int}(g:h a=some (mark l))(n:j a=none)(E:Ext j h)(hl:l.length<big)
 (he:∀K:Po,wp Φ γ (.dj .done) ρ (.int i:: .ref a:: .bool true::st) h K->wp Φ γ e ρ (.bool true::st) h K)
 (q:∀h',Ext j h'->h' a=some (mark (l++if t then [i] else []))->wp Φ γ k ρ st h' Q):wp Φ γ (.ite (.az (.bool true) e) .done k) ρ (.bool t::st) h Q:=
 r_ite (λc=>r_lit (he _ (r_setId g (oP hl) λh' p=>q h' (p.im E n) (by rw[if_pos c];exact p.at.trans (congrArg some oO))))) λc=>q h E (by rw[c,if_neg Ye,Zu];exact g)
noncomputable def fg(b:ax):List Int:=(if b.aH== "fun" then [b.aa] else [])++if b.ag.bC== "call"&&decide (0<=b.ag.to) then [b.ag.to] else []
theorem uW{b:ax}{l:Int}:l∈fg b↔Df b l:=by
 unfold fg Df;rw[Zg]
 by_cases c:b.aH="fun"<;>by_cases c2:b.ag.bC="call"<;>by_cases c3:0<=b.ag.to<;>simp[c,c2,c3]
theorem uK{b:ax}:(fg b).length<=2:=by
 unfold fg;rw[Zb];exact ZR (fP _) (fP _)
structure mL(P:aI)(R:List Int):Prop where
 sub:Sub P R
 cg:eO P R
 below:Below P R
theorem mL.start(N:aL P):mL P (bV [] (P.ap.flatMap fg)):=by
 have mm:∀l,l∈bV [] (P.ap.flatMap fg)↔∃b∈P.ap,Df b l:=λl=>by rw[eS,Zm];simp only[uW,Yt,false_or]
 refine⟨⟨kj Ym,λl hl=>?_⟩,λb hb l s=>(mm l).mpr ⟨b,hb,s⟩,λS hS _ l hl=>?_⟩
 . obtain ⟨b,hb,⟨_,e⟩|⟨_,z,e⟩⟩:=(mm l).mp hl
   . exact⟨b,hb,e.symm⟩
   . obtain ⟨c,hc,ec,-⟩:=N.vp b hb b.ag.to (by unfold Last.bf;rw[if_pos z];exact Ze);exact⟨c,hc,ec.trans e.symm⟩
 . refine oea ((mm l).mp hl) λb hb s=>?_;exact hS b hb l s
noncomputable def Os(P:aI)(R:List Int)(b:ax)(t:Int):Prop:=t∉R->bB P R t=bB P R b.aa
structure FG(P:aI)(y:Lay)(H:Hp)(R:List Int)(D:Prop)(ρ:Lo)(h':Hp)(R':List Int)(g':Bool):Prop where
 ext:Ext H h'
 roots:h' y.rA=some (.dict (cy R'))
 ok:mL P R'
 gr:ρ "grows"=some (.bool g')
 more:g'=true->R.length<R'.length
 same:g'=false->R'=R/\D
theorem sr(W:Wd Φ γ)(N:aL P)(Y:PR (aG y.rA h) P)(sl:aG y.rA h y.ad=some (.inst "Layout" (tP P y)))(r:h y.rA=some (.dict []))
 (q:∀h' R,Ext (aG y.rA h) h'->h' y.rA=some (.dict (cy R))->dK P R->Q .none h'):Φ "find_roots" [.ref y.ad] h Q:=by
 refine W.cl rfl rfl ?_;have g1:=W.AB;have g2:=W.Bb;have ps:=Y.self;have X0:Ext (aG y.rA h) h:=aU;nofun;refine fL W N (Y.ext X0) λa h2 e2 n2 f2=>?_;have Z:=bg (X0.trans e2) ao;have fl:([]++P.ap.flatMap fg).length<big:=Zk (bv λb _=>uK) (ZL (Xq N.cG (by decide)) (show 64*2<big by decide));refine cw W.aV mark ch P.ap fg (ys:=[]) (X0.trans e2) ao f2 (e2.at r) (λz=>aB n2 r z.symm) fl (λb σ h3 zs hb E3 X g3 hz K hK hr=>?_) λσ h3 E3 X g3=>?_
 . have bs:=(Y.aS b hb).self;have ls:=(Y.aS b hb).ag.self;have ys:=X.at sl;unfold fg at hz hK;nofun;refine r_setIf b.aa g3 ao E3 (Zk (ZE _ _) hz) (λK hK=>?_) λh4 E4 g4=>?_
   . nofun;exact hK
   have X4:=Z.trans E4;nofun;refine r_and (decide (0<=b.ag.to)) (λ_ K hK=>?_) ?_
   . nofun;exact hK
   refine r_setIf b.ag.to g4 ao E4 (gW (jH hz)) (λK hK=>?_) λh5 E5 g5=>?_
   . nofun;exact hK
   . nofun;exact hK _ _ E5 (by rw[<-Zo];exact g5)
 nofun;obtain ⟨R0,g3,S0⟩:∃R0,h3 y.rA=some (.dict (cy R0))/\mL P R0:=⟨_,g3,mL.start N⟩;refine kQ W.aV (λn ρ h'=>∃R g,Ext (aG y.rA h) h'/\h' y.rA=some (.dict (cy R))/\mL P R/\ρ "grows"=some (.bool g)/\(g=false->oF P R)/\n=2*(64 - R.length)+(if g=true then 1 else 0)) (2*(64 - R0.length)+1) ⟨R0,true,X,g3,S0,rfl,λz=>Bool.noConfusion z,rfl⟩ ?_;intro n σ4 h4 z_;refine oeeaaaaa z_ λR g X4 r4 S lg cl nM=>?_;subst nM;refine⟨g,λK hK=>?_,?_,λz=>?_⟩
 . nofun;exact hK
 . rintro rfl K hK;have r1:=S.cg.one N;nofun;refine fL W N (Y.ext X4) λa h6 e6 n6 f6=>?_;have Fe:a≠y.rA:=λz=>aB n6 r4 z.symm;have Z6:=bg (X4.trans e6) ao;refine bN W.aV ch P.ap (λd ρ h'=>∃R' g',FG P y (aG y.rA h6) R (∀b∈d,∀t∈b.ag.bf,Os P R b t) ρ h' R' g') f6 ⟨R,false,aU,e6.at r4,S,rfl,λz=>Bool.noConfusion z,λ_=>⟨rfl,λ_ z=>nomatch z⟩⟩ (λd ρ h' lF=>oee lF λR' g' I=>I.ext.at (aE Fe f6)) ?_ ?_
   . intro d b rr σ h7 hd hb z_ K2 q8 _;refine oee z_ λR' g' I=>?_;have X7:=Z6.trans I.ext;have bs:=(Y.aS b hb).self;have ls:=(Y.aS b hb).ag.self;nofun;refine ib W ((Y.aS b hb).ag.ext X7) λa2 h8 e8 n8 f8=>?_;have O9:a2≠y.rA:=λz=>aB n8 I.roots z.symm;have Z8:=bg (I.ext.trans e8) ao;refine bN W.aV V.int b.ag.bf (λd2 ρ h'=>∃R' g',FG P y (aG y.rA h8) R ((∀b∈d,∀t∈b.ag.bf,Os P R b t)/\∀t∈d2,Os P R b t) ρ h' R' g') f8 ⟨R',g',aU,e8.at I.roots,I.ok,I.gr,I.more,λz=>⟨(I.same z).1,(I.same z).2,λ_ z=>nomatch z⟩⟩ (λd ρ h' lE=>oee lE λR' g' I=>I.ext.at (aE O9 f8)) ?_ ?_
     . intro d2 t IV σ h9 hd2 ht z_ K3 Em _;refine oee z_ λR9 g9 J=>?_;have X9:=Z6.trans (Z8.trans J.ext);have r9:=J.roots;have l9:=J.gr;have Qe:=J.ok.cg.one N;have ys:=X9.at sl;have Y9:jM h9 P y R9:=⟨Y.ext X9,ys,r9⟩;refine oeaa (N.vp b hb t ht) λc hc bU IB=>?_;subst bU;nofun;refine r_and (bB P R9 c.aa != bB P R9 b.aa) (λ_ K hK=>?_) ?_
       . nofun;refine lV W N Y9 Qe hc ?_;nofun;refine lV W N Y9 Qe hb ?_;nofun;exact hK
       refine r_ite (λz=>?_) λz=>?_
       . refine oa (Zj.mp z) λL5 ne=>?_;have L5:=jZ (nt L5);nofun;refine r_setId r9 ?_ λio p=>?_
         . rw[c8];exact Zk (J.ok.sub.len N) (ZL N.cG (by decide))
         nofun;refine Em _ _ ⟨ins R9 c.aa,true,p.im J.ext ao,p.at.trans (congrArg (λz=>some (O.dict z)) gN),⟨J.ok.sub.ins hc,J.ok.cg.ins,J.ok.below.step N J.ok.cg hb hc ht L5 (bne_iff_ne.mp ne)⟩,rfl,λ_=>?_,λz=>Bool.noConfusion z⟩;rw[xD L5]
         cases g9 with
         |true=>exact XU (J.more rfl)
         |false=>rw[(J.same rfl).1];exact YG _
       . nofun;refine Em _ _ ⟨R9,g9,J.ext,r9,J.ok,l9,J.more,λzg=>⟨(J.same zg).1,(J.same zg).2.1,λu hu=>?_⟩⟩;rcases Zg.mp hu with hu|hu
         . exact(J.same zg).2.2 u hu
         . rw[Zc.mp hu];intro nu;rw[<-(J.same zg).1] at nu ⊢;rcases Wh.mp z with z|z
           . exact absurd (ii (nf z)) nu
           . exact bne_eq_false_iff_eq.mp z
     . intro σ h9 z_;refine oee z_ λR9 g9 J=>?_;refine r_done (q8 _ _ ⟨R9,g9,Z8.trans J.ext,J.roots,J.ok,J.gr,J.more,λzg=>⟨(J.same zg).1,λc hc=>?_⟩⟩);rcases Zg.mp hc with hc|hc
       . exact(J.same zg).2.1 c hc
       . rw[Zc.mp hc];exact(J.same zg).2.2
   . intro σ h7 z_;refine oee z_ λR' g' I=>?_;refine r_done (hK _ _ _ ?_ ⟨R',g',Z6.trans I.ext,I.roots,I.ok,I.gr,λzg=>?_,rfl⟩)
     . have h1:=I.ok.sub.len N;have h2:=N.cG
       cases g' with
       |true=>have:=I.more rfl;simp only[if_true];exact(aj 0x2022110310242102102424013120040630040611212511014340) _ _ _ _ this (YU ((aj 0x111004060130040611411013220) _ _ h1 h2)) (Wu (Zs _))
       |false=>rw[(I.same rfl).1];exact YG _
     . refine oa (I.same zg) λcu k=>?_;subst cu;exact k
 . subst z;exact r_done (q _ _ X4 r4 ⟨S.sub,S.cg,cl rfl,S.below⟩)
end
end
section
variable {P:aI}{R:List Int}
theorem jk{o:Op}:o∈P.aM↔∃b∈P.ap,o∈b.aM:=Zm
structure Made(os:List Op)(es:List (Int×V)):Prop where
 nd:(es.map (·.1)).Nodup
 val:∀p∈es,∃o∈os,p.1∈o.aC/\p.2= .ref o.ad
 has:∀o∈os,∀v∈o.aC,v∈es.map (·.1)
theorem Made.nil:Made [] []:=⟨by simp,by simp,by simp⟩
theorem mem_putD{k:Int}{v:V}{p:Int×V}:∀{es:List (Int×V)},p∈putD es k v->p=(k,v)\/p∈es
 |[],h=>by simp[putD] at h;exact .inl h
 |(m,w)::r,h=>by
  rw[putD] at h;split at h
  . rename_i e;rcases Zp.mp h with h|h
    . exact .inl h
    . exact .inr (Zh _ h)
  . rcases Zp.mp h with h|h
    . exact .inr (by rw[h];exact Ze)
    . rcases mem_putD h with h|h
      . exact .inl h
      . exact .inr (Zh _ h)
structure kf(os:List Op)(o:Op)(vs:List Int)(es:List (Int×V)):Prop where
 nd:(es.map (·.1)).Nodup
 val:∀p∈es,∃o'∈os++[o],p.1∈o'.aC/\p.2= .ref o'.ad
 has:∀o∈os,∀v∈o.aC,v∈es.map (·.1)
 now:∀v∈vs,v∈es.map (·.1)
theorem Made.start{os:List Op}{es:List (Int×V)}{o:Op}(m:Made os es):kf os o [] es:=
 ⟨m.nd,λp h=>by refine oea (m.val p h) λo' h1 h2=>?_;exact⟨o',Zd _ h1,h2⟩,m.has,by simp⟩
theorem kf.put{os:List Op}{es:List (Int×V)}{o:Op}{vs:List Int}{v:Int}(m:kf os o vs es)(hv:v∈o.aC):kf os o (vs++[v]) (putD es v (.ref o.ad)):=by
 refine⟨by rw[dP];exact jC m.nd,λp h=>?_,λo' ho u hu=>by rw[dP];exact gh.mpr (.inl (m.has o' ho u hu)),λu hu=>?_⟩
 . rcases mem_putD h with rfl|h
   . exact⟨o,by simp,hv,rfl⟩
   . exact m.val p h
 . rw[dP];rcases Zg.mp hu with hu|hu
   . exact gh.mpr (.inl (m.now u hu))
   . simp at hu;exact gh.mpr (.inr hu)
theorem kf.fin{os:List Op}{es:List (Int×V)}{o:Op}(m:kf os o o.aC es):Made (os++[o]) es:=
 ⟨m.nd,m.val,λo' ho v hv=>by
  rcases Zg.mp ho with ho|ho
  . exact m.has o' ho v hv
  . simp at ho;subst ho;exact m.now v hv⟩
theorem Dx(N:aL P):P.aM.length<=64*3:=by
 have h1:=bv (f:=λb:ax=>b.aM) (k:=3) (l:=P.ap) (λb hb=>N.dq b hb);have h2:=N.cG;unfold aI.aM;exact(aj 0x311304040130040611411037013220) _ _ h1 h2
theorem BZ(N:aL P){es:List (Int×V)}(nd:(es.map (·.1)).Nodup)(val:∀p∈es,∃o∈P.aM,p.1∈o.aC):es.length<=64*3*2:=by
 have h1:=dy (m:=P.aM.flatMap Op.aC) nd (λx hx=>by
  refine oea (Zn.mp hx) λp hp bU=>?_;subst bU;refine oea (val p hp) λo ho h=>?_;exact Zm.mpr ⟨o,ho,h⟩)
 have h2:=bv (f:=Op.aC) (k:=2) (l:=P.aM) (λo ho=>by refine oea (jk.mp ho) λb hb ho=>?_;exact jE N hb ho);have h3:=Dx N;rw[Za] at h1;have:=ZZ 2 h3;exact(aj 0x211130404027013304042132102711311013330) _ _ _ h1 h2 h3
theorem aL.JX(N:aL P){o o':Op}(ho:o∈P.aM)(i_:o'∈P.aM){v:Int}(h:v∈o.aC)(h':v∈o'.aC):o=o':=by
 refine oea (jk.mp ho) λb hb ho=>?_;refine oea (jk.mp i_) λc hc i_=>?_;exact N.Re b hb o ho c hc o' i_ v h h'
theorem i3(N:aL P){o:Op}(ho:o∈P.aM)(w:o.bC="const"):o.aC=[o.result]:=by
 refine oea (jk.mp ho) λb hb ho=>?_;unfold Op.aC;rw[w,if_neg (by decide),if_pos (N.cst b hb o ho w)]
structure kK(P:aI)(ks:List Int)(es:List (Int×V)):Prop where
 nd:(es.map (·.1)).Nodup
 iff:∀v,v∈es.map (·.1)↔v∈ks/\∃o∈P.aM,v∈o.aC/\aK o=true
theorem kK.put{ks:List Int}{es:List (Int×V)}{o:Op}{v:Int}{u:V}(a:kK P ks es)(ho:o∈P.aM)(hv:v∈o.aC)(s:aK o=true):kK P (ks++[v]) (putD es v u):=by
 refine⟨by rw[dP];exact jC a.nd,λw=>?_⟩;rw[dP,gh,a.iff];constructor
 . rintro (⟨h1,h2⟩|rfl)
   . exact⟨Zd _ h1,h2⟩
   . exact⟨by simp,o,ho,hv,s⟩
 . intro z_;refine oa z_ λh1 h2=>?_;rcases Zg.mp h1 with h1|h1
   . exact .inl ⟨h1,h2⟩
   . simp at h1;exact .inr h1
theorem kK.skip(N:aL P){ks:List Int}{es:List (Int×V)}{o:Op}{v:Int}(a:kK P ks es)(ho:o∈P.aM)(hv:v∈o.aC)(s:aK o≠true):kK P (ks++[v]) es:=by
 refine⟨a.nd,λw=>?_⟩;rw[a.iff];constructor
 . intro z_;refine oa z_ λh1 h2=>?_;exact⟨Zd _ h1,h2⟩
 . intro z_;refine oaeaa z_ λh1 o' h2 h3 h4=>?_;rcases Zg.mp h1 with h1|h1
   . exact⟨h1,o',h2,h3,h4⟩
   . simp at h1;subst h1;rw[N.JX ho h2 hv h3] at s;exact absurd h4 s
noncomputable def tU(P:aI)(es:List (Int×V)):Prop:=(es.map (·.1)).Nodup/\∀v,v∈es.map (·.1)↔v∈simple P
theorem pi(N:aL P){v:Int}:v∈simple P↔∃o∈P.aM,v∈o.aC/\aK o=true:=by
 unfold simple;simp only[Zn,ZH];constructor
 . intro z_;refine oea z_ λo nM wQ=>?_;refine oa nM λh1 h2=>?_;try clear nM;subst wQ
   have w:o.bC="const":=by unfold aK at h2;simp at h2;exact h2.1
   exact⟨o,h1,by rw[i3 N h1 w];simp,h2⟩
 . intro z_;refine oeaa z_ λo h1 h2 h3=>?_;have w:o.bC="const":=by unfold aK at h3;simp at h3;exact h3.1
   rw[i3 N h1 w] at h2;simp at h2;exact⟨o,⟨h1,h3⟩,h2.symm⟩
theorem kK.fin(N:aL P){ms es:List (Int×V)}(m:Made P.aM ms)(a:kK P (ms.map (·.1)) es):tU P es:=
 ⟨a.nd,λv=>by
  rw[a.iff,pi N];constructor
  . intro z_;refine oa z_ λ_ h=>?_;exact h
  . intro z_;refine oeaa z_ λo h1 h2 h3=>?_;exact⟨m.has o h1 v h2,o,h1,h2,h3⟩⟩
end
section
section
variable {Φ:Calls}{γ:String->Option V}{h:Hp}{Q:V->Hp->Prop}{P:aI}{R:List Int}{y:Lay}
theorem qQ{a x:Nat}(n:h x=none):aG a h x=none:=by unfold aG;split;rfl;exact n
theorem yS(W:Wd Φ γ)(B:Base γ h){v:V}{p:Bool}(d:Dat h v p)(q:Q (.bool (!p)) h):Φ "is_atom" [v] h Q:=by
 refine W.cl rfl rfl ?_;refine oea B.atoms λt gt ht=>?_;have ht:h t=some (.tup (["boolean","number","symbol","char","empty","unspecified"].map sv)):=ht;nofun;refine W.cl rfl rfl ?_
 cases p with
 |true=>
  refine oeea d λa fs bU f=>?_;try clear d;subst bU
  nofun;exact r_ints ht (r_ret q)
 |false=>
  rcases d with rfl|rfl|⟨a,rfl,f⟩
  . nofun;exact r_ints ht (r_ret q)
  . nofun;exact r_ints ht (r_ret q)
  . nofun;exact r_ints ht (r_ret q)
noncomputable def tL(ps:List (Int×V)):List (Int×V):=ps.foldl (λes p=>putD es p.1 p.2) []
noncomputable abbrev tR(ps:List (Int×V)):O:=.dict (tL ps)
theorem wt{ps:List (Int×V)}{k:Int}{v:V}:O.dict (putD (tL ps) k v)=tR (ps++[(k,v)]):=by rw[tR,tL,tL,V5];rfl
theorem BG{es:List (Int×V)}{k:Int}{v:V}:(putD es k v).length<=es.length+1:=by
 induction es with
 |nil=>exact Zs _
 |cons p r ih=>obtain ⟨a,u⟩:=p;rw[putD];split;exact Yk _;exact YH ih
theorem yN{ps es:List (Int×V)}:(ps.foldl (λes p=>putD es p.1 p.2) es).length<=es.length+ps.length:=by
 induction ps generalizing es with
 |nil=>exact Zs _
 |cons p ps ih=>exact Zf ih (by rw[Yn,Vb ps.length,<-Yr];exact ZP BG _)
theorem BF{ps:List (Int×V)}{n:Nat}(h:ps.length<n):(tL ps).length<n:=Zk yN (by rwa [Yj,Xx])
noncomputable def ji(o:Op):List (Int×V):=o.aC.map λv=>(v,V.ref o.ad)
theorem xC{o:Op}{os:List Op}:∀(vs done:List Int) (es:List (Int×V)),done++vs=o.aC->kf os o done es->Made (os++[o]) ((vs.map λv=>(v,V.ref o.ad)).foldl (λes p=>putD es p.1 p.2) es)
 |[],done,es,e,m=>by rw[Zu] at e;subst e;exact m.fin
 |v::vs,done,es,e,m=>xC vs (done++[v]) _ (by rw[Zo];exact e) (m.put (e▸Zi _ Ze))
theorem ue:∀(os done:List Op) (es:List (Int×V)),Made done es->Made (done++os) ((os.flatMap ji).foldl (λes p=>putD es p.1 p.2) es)
 |[],done,es,m=>by rw[Zu];exact m
 |o::os,done,es,m=>by
  rw[ZK,V5,show done++o::os=(done++[o])++os from(List.append_cons ..)];exact ue os _ _ (xC o.aC [] es rfl m.start)
theorem BJ(W:Wd Φ γ)(N:aL P)(Y:PR h P)(q:∀a h' es,Ext h h'->h a=none->h' a=some (.dict es)->Made P.aM es->Q (.ref a) h'):Φ "makers" [.ref P.ad] h Q:=by
 refine W.cl rfl rfl ?_;have ps:=Y.self;have pl:∀b∈P.ap,(b.aM.flatMap ji).length<=6:=λb hb=>Zf (bv (k:=2) λo ho=>by rw[ji,Za];exact jE N hb ho) (ZZ 2 (N.dq b hb));have lim:([]++P.ap.flatMap λb:ax=>b.aM.flatMap ji).length<big:=Zk (bv pl) (ZL (Xq N.cG (by decide)) (show 64*6<big by decide));nofun;intro a h1 A;have E1:=A.ext;nofun;refine fL W N (Y.ext E1) λc h2 e2 n2 f2=>?_;have Z:=bg (E1.trans e2) A.new;refine cw W.aV tR ch P.ap (λb=>b.aM.flatMap ji) (ys:=[]) (E1.trans e2) A.new f2 (e2.at A.at) (λz=>aB n2 A.at z.symm) lim (λb σ h3 zs hb E3 X g3 hz K hK hr=>?_) λσ h3 E3 X g3=>?_
 . have B:=Y.aS b hb;have bs:=B.self;nofun;refine cw W.aV tR (λo:Op=>.ref o.ad) b.aM ji E3 ao (X.at B.aM) g3 (λz=>aB A.new B.aM z) (gW hz) (λo σ h4 IO ho E4 X4 g4 Fg K4 CH I8=>?_) λσ h4 E4 X4 g4=>?_
   . have O:=B.op o ho;have os:=O.self;nofun;refine iX W (O.ext (Z.trans X4)) λu h5 e5 n5 f5=>?_;refine cw W.aV tR V.int o.aC (λv=>[(v,V.ref o.ad)]) (E4.trans e5) ao f5 (e5.at g4) (λz=>aB n5 g4 z.symm) (by rw[<-XG];exact gW Fg) (λv σ h6 zs3 hv E6 X6 g6 TY K6 Z_ hr6=>?_) λσ h6 E6 X6 g6=>?_
     . nofun;refine r_setId g6 (BF (Zk (ZE _ _) TY)) λh7 p=>?_;exact r_done (Z_ _ _ (p.im E6 ao) (p.at.trans (congrArg some wt)))
     . exact r_done (CH _ _ X6 (by rwa [<-XG] at g6))
   . exact r_done (hK _ _ X4 g4)
 . nofun;refine q _ _ _ X A.new g3 ?_;have:=ue P.aM [] [] Made.nil;rw[XN,aI.aM,VQ] at this;exact this
theorem sC(W:Wd Φ γ)(N:aL P)(Y:PR (aG y.aA h) P)(sl:aG y.aA h y.ad=some (.inst "Layout" (tP P y)))(B:Base γ (aG y.aA h))(r:h y.aA=some (.dict []))
 (q:∀h' es,Ext (aG y.aA h) h'->h' y.aA=some (.dict es)->tU P es->Q .none h'):Φ "find_atoms" [.ref y.ad] h Q:=by
 refine W.cl rfl rfl ?_;have X0:Ext (aG y.aA h) h:=aU;nofun;refine BJ W N (Y.ext X0) λa h1 ms e1 n1 f1 M=>?_;have Fe:a≠y.aA:=λz=>aB n1 r z.symm;have Z:Ext (aG y.aA h) (aG a (aG y.aA h1)):=bg (bg (X0.trans e1) ao) ((hide_ne Fe).trans n1);have na:aG a (aG y.aA h1) y.aA=none:=(hide_ne Fe.symm).trans ao;nofun;refine oT W.aV f1 (λd ρ h'=>Ext (aG a (aG y.aA h1)) h'/\h' a=some (.er ms)/\∃es,h' y.aA=some (.dict es)/\kK P (d.map (·.1)) es) (λh2 p=>⟨p.im (aU.trans aU) ao,p.at,[],p.to Fe.symm (e1.at r),⟨Ym,λv=>by simp⟩⟩) (λd ρ h' I=>I.2.1) ?_ ?_
 . intro d x rr σ h3 hd hx z_ K hK;refine oaaea z_ λE3 f3 es g3 a3=>?_;have X:=Z.trans E3;refine oeaa (M.val x hx) λo ho hv eo=>?_;refine oea (jk.mp ho) λb hb UM=>?_;have O:=(Y.aS b hb).op o UM;have os:=O.self;have lk:=cW M.nd hx;rw[eo] at lk;have hlen:es.length<big:=Zk (BZ N a3.nd λp hp=>by
    refine oaeaa ((a3.iff p.1).mp (Zn.mpr ⟨p,hp,rfl⟩)) λ_ o h1 h2 _=>?_;exact⟨o,h1,h2⟩) (by decide)
   have ys:=X.at sl;rw[Zq] at hK;nofun;refine r_ite (λw=>?_) λw=>?_
   . have w:=beq_iff_eq.mp w;nofun;refine yS W (B.ext X) ((O.dat w).ext X) ?_;nofun
     cases hp:o.pair with
     |true=>
      nofun;refine r_done (hK _ _ ⟨E3,f3,es,g3,a3.skip N ho hv ?_⟩);rw[aK,hp,Bool.not_true,XX];exact Ye
     |false=>
      nofun;intro h4 p;nofun;refine r_done (hK _ _ ⟨p.im E3 na,p.to Fe f3,_,p.at,a3.put ho hv ?_⟩);rw[aK,hp,w];rfl
   . nofun;refine r_done (hK _ _ ⟨E3,f3,es,g3,a3.skip N ho hv ?_⟩);rw[aK,w,UA];exact Ye
 . intro σ h3 h4 z_ p;refine oaaea z_ λE3 f3 es g3 a3=>?_;exact r_done (q h4 es (p.im (Z.trans E3) (qQ n1)) (p.to Fe.symm g3) (a3.fin N M))
end
end
section
variable {P:aI}{R A:List Int}
noncomputable def af(P:aI)(R:List Int):List ax:=P.ap.filter λb=>R.contains b.aa
theorem ay{b:ax}:b∈af P R↔b∈P.ap/\b.aa∈R:=by unfold af;rw[ZH];simp
theorem c9(N:aL P):((af P R).map (·.aa)).Pairwise (· < ·):=N.asc.sublist (YR.map _)
theorem gj(N:aL P)(S:Sub P R):bD R=(af P R).map (·.aa):=by
 refine qJ (hV _) ((c9 N).imp λh=>by exact(aj 0x111101011011102) _ _ h) ((eJ R).trans (hU S.1 ((c9 N).imp λh=>by exact λcx=>(aj 0x101b1101211011202) _ _ h cx) λx=>?_));rw[Zn];constructor
 . intro h;refine oea (S.2 x h) λb hb bU=>?_;subst bU;exact⟨b,ay.mpr ⟨hb,h⟩,rfl⟩
 . intro z_;refine oea z_ λb hb nM=>?_;subst nM;exact(ay.mp hb).2
theorem dI(N:aL P):(af P R).length<64:=Zk (ZU _ _) N.cG
theorem fW(N:aL P)(S:eO P R){rb:ax}(hr:rb∈P.ap){o:Int}(h:o∈inner P R rb):∃c∈af P R,c.aa=o:=by
 refine oea (Zm.mp h) λb hb h=>?_;have cE:=cq hr hb;rcases Zg.mp h with h|h
 . refine oea (Zm.mp h) λp hp h=>?_;refine oeaa (N.rest b cE p hp o h) λc hc e s=>?_;exact⟨c,ay.mpr ⟨hc,S.fun hc s⟩,e⟩
 . refine oea (Zn.mp h) λc hc cu=>?_;subst cu;refine oa (ZH.mp hc) λh1 h2=>?_;simp at h2;exact⟨c,ay.mpr ⟨h1,h2.1⟩,rfl⟩
inductive bH (P:aI) (R:List Int):ax->Int->Prop
 |here {b:ax} {x:Int}:x∈bF P R b->x∉br P R b->bH P R b x
 |there {b c:ax} {x:Int}:c.aa∈inner P R b->c∈af P R->bH P R c x->x∉br P R b->bH P R b x
noncomputable def kW(P:aI)(R:List Int):List Int:=P.ap.flatMap (bF P R)
noncomputable def K:Nat:=64*(64*11)
theorem lh(N:aL P):(kW P R).length<=K:=by
 have h1:=bv (f:=bF P R) (k:=64*11) (l:=P.ap) (λb hb=>xy N hb λc hc=>lf N hc);exact Zf h1 (ZZ _ (ZI N.cG))
theorem bH.read{b:ax}{x:Int}(hb:b∈P.ap)(n:bH P R b x):x∈kW P R:=by
 induction n with
 |here h _=>exact Zm.mpr ⟨_,hb,h⟩
 |there _ hc _ _ ih=>exact ih (ay.mp hc).1
noncomputable def Good(P:aI)(R A:List Int)(F:Int->List Int):Prop:=∀b∈af P R,(F b.aa).Nodup/\∀x∈F b.aa,bH P R b x/\x∉A
noncomputable def oX(P:aI)(R A:List Int)(F:Int->List Int)(b:ax):Prop:=∀x,(x∈bF P R b\/∃o∈inner P R b,x∈F o)->x∉br P R b->x∉A->x∈F b.aa
structure gX(P:aI)(R A:List Int)(F:Int->List Int):Prop where
 good:Good P R A F
 closed:∀b∈af P R,oX P R A F b
theorem gX.iff{F:Int->List Int}(f:gX P R A F){b:ax}(hb:b∈af P R){x:Int}:x∈F b.aa↔bH P R b x/\x∉A:=by
 constructor
 . exact(f.good b hb).2 x
 . rintro ⟨n,a⟩
   induction n with
   |here h g=>exact f.closed _ hb _ (.inl h) g a
   |there h hc _ g ih=>exact f.closed _ hb _ (.inr ⟨_,h,ih hc a⟩) g a
theorem Good.len(N:aL P){F:Int->List Int}(g:Good P R A F){b:ax}(hb:b∈af P R):(F b.aa).length<=K:=by
 have:=dy (m:=kW P R) (g b hb).1 (λx hx=>((g b hb).2 x hx).1.read (ay.mp hb).1);exact Zf this (lh N)
noncomputable def vH(F:Int->List Int)(l:Int)(xs:List Int):Int->List Int:=λk=>if k=l then xs else F k
theorem fq{F:Int->List Int}{l:Int}{xs:List Int}:vH F l xs l=xs:=by simp[vH]
theorem rO{F:Int->List Int}{l k:Int}{xs:List Int}(h:k≠l):vH F l xs k=F k:=by simp[vH,h]
noncomputable def room(xR:List ax)(F:Int->List Int):Nat:=(xR.map λb=>K - (F b.aa).length).sum
theorem xr{F G:Int->List Int}:∀{xR:List ax},(∀b∈xR,(F b.aa).length<=(G b.aa).length)->room xR G<=room xR F
 |[],_=>by simp[room]
 |x::r,h=>by
  have h1:=h x Ze;have h2:=xr (xR:=r) (λb hb=>h b (Zh _ hb));unfold room at h2 ⊢;rw[Zw,VJ,Zw,VJ];exact ZR (VB h1 K) h2
theorem xq{F G:Int->List Int}:∀{xR:List ax},(∀b∈xR,(F b.aa).length<=(G b.aa).length)->(∃b∈xR,(F b.aa).length<(G b.aa).length/\(G b.aa).length<=K)->room xR G<room xR F
 |[],_,h=>by refine oea h λb hb _=>?_;try clear h;cases hb
 |x::r,h,hx=>by
  have h1:=h x Ze;refine oeaa hx λb hb h3 h4=>?_;try clear hx
  unfold room;simp only[Zw,VJ];rcases Zp.mp hb with rfl|hb
  . have h2:=xr (xR:=r) (λb hb=>h b (Zh _ hb));unfold room at h2;exact(aj 0x1011113161221412401612513511141253121311014470) _ _ _ _ _ _ _ h3 h2 (YU ((aj 0x111101311013120) _ _ h4)) (Wu (Zs _))
  . have h2:=xq (xR:=r) (λb hb=>h b (Zh _ hb)) ⟨b,hb,h3,h4⟩;unfold room at h2;exact Nat.add_lt_add_of_le_of_lt (VB h1 K) h2
theorem Good.add{F:Int->List Int}(g:Good P R A F)(N:aL P){b:ax}(hb:b∈af P R){x:Int}(n:bH P R b x)(a:x∉A)(m:x∉F b.aa):Good P R A (vH F b.aa (F b.aa++[x])):=by
 intro c hc
 by_cases e:c.aa=b.aa
 . have:=N.uniq (ay.mp hc).1 (ay.mp hb).1 e;subst this;rw[fq];refine⟨?_,λy hy=>?_⟩
   . rw[ZJ];exact⟨(g c hb).1,by simp,λa ha b hb e=>by simp at hb;subst hb;subst e;contradiction⟩
   . rcases Zg.mp hy with hy|hy
     . exact(g c hb).2 y hy
     . simp at hy;subst hy;exact⟨n,a⟩
 . rw[rO e];exact g c hc
theorem Good.room{F:Int->List Int}(g:Good P R A F)(N:aL P){b:ax}(hb:b∈af P R){x:Int}(n:bH P R b x)(a:x∉A)(m:x∉F b.aa):Mine.room (af P R) (vH F b.aa (F b.aa++[x]))<Mine.room (af P R) F:=by
 have g':=(g.add N hb n a m).len N hb;rw[fq] at g';refine xq (λc hc=>?_) ⟨b,hb,by rw[fq];simp,by rw[fq];exact g'⟩
 by_cases e:c.aa=b.aa
 . rw[e,fq];simp
 . rw[rO e];exact Zs _
end
section
section
variable {Φ:Calls}{γ:String->Option V}{h:Hp}{Q:V->Hp->Prop}{P:aI}{R A:List Int}{y:Lay}
noncomputable def aY(S:List Nat)(h:Hp):Hp:=λx=>if x∈S then none else h x
theorem cB{S:List Nat}{x:Nat}(m:x∈S):aY S h x=none:=if_pos m
theorem aW{S:List Nat}{x:Nat}(m:x∉S):aY S h x=h x:=if_neg m
theorem bj{S:List Nat}:Ext (aY S h) h:=λx n=>(aW λm=>n (cB m)).symm
theorem bu{S S':List Nat}{h1:Hp}(sub:∀x∈S',x∈S\/h x=none)(e:Ext h h1):Ext (aY S h) (aY S' h1):=λx n=>by
 have nS:x∉S:=λm=>n (cB m);rw[aW nS] at n ⊢;rw[aW λm=>(sub x m).elim nS n,e x n]
theorem fh{S:List Nat}{a:Nat}{o:O}{h1:Hp}(m:a∈S)(p:Put h a o h1):aY S h1=aY S h:=funext λx=>by
 by_cases z:x∈S
 . rw[cB z,cB z]
 . rw[aW z,aW z,p.ne λ(e:x=a)=>z (e▸m)]
theorem oS{S:List Nat}{a:Nat}{o:O}{h1 h2:Hp}(m:a∈S)(e:Ext h h1)(p:Put h1 a o h2):Ext (aY S h) (aY S h2):=fh m p▸bu (λ_=>.inl) e
noncomputable def jL(S:List Nat)(h:Hp):Prop:=∀x∈S,h x≠none
theorem jL.ext{S:List Nat}{h1:Hp}(l:jL S h)(e:Ext h h1):jL S h1:=λx m=>by rw[e x (l x m)];exact l x m
theorem jL.put{S:List Nat}{a:Nat}{o:O}{h1:Hp}(l:jL S h)(p:Put h a o h1):jL S h1:=λx m=>by
 by_cases z:x=a
 . rw[z,p.at];exact λe=>nomatch e
 . rw[p.ne z];exact l x m
theorem jL.out{S:List Nat}{x:Nat}(l:jL S h)(n:h x=none):x∉S:=λm=>l x m n
structure Row where
 (aS:ax) (r g i f:Nat)
structure Ah(P:aI)(R:List Int)(im:Hp)(w:Row):Prop where
 r:im w.r=some (.dict (cy (bV [] (bF P R w.aS))))
 g:im w.g=some (.dict (cy (bV [] (br P R w.aS))))
 i:im w.i=some (.list ((inner P R w.aS).map .int))
theorem Ah.ext{im h:Hp}{w:Row}(x:Ah P R im w)(e:Ext im h):Ah P R h w:=⟨e.at x.r,e.at x.g,e.at x.i⟩
noncomputable def gn(f:Row->Nat)(ds:List Row):List (Int×V):=ds.map λw=>(w.aS.aa,.ref (f w))
theorem qM{f:Row->Nat}{ds:List Row}:(gn f ds).map (·.1)=(ds.map (·.aS)).map (·.aa):=by rw[gn,Zt,Zt];rfl
theorem iM{k:Int}{v:V}:∀{es:List (Int×V)},k∉es.map (·.1)->putD es k v=es++[(k,v)]
 |[],_=>rfl
 |(m,w)::r,h=>by
  rw[Zw,Zp,not_or] at h;rw[putD];rw[if_neg (Yq h.1),iM h.2];rfl
theorem BD{f:Row->Nat}{ds:List Row}{w:Row}(n:w.aS.aa∉(ds.map (·.aS)).map (·.aa)):putD (gn f ds) w.aS.aa (.ref (f w))=gn f (ds++[w]):=by
 rw[iM (by rw[qM];exact n),gn,gn,Zq];rfl
theorem gI(N:aL P):((af P R).map (·.aa)).Nodup:=(c9 N).imp Yd
theorem dY{f:Row->Nat}{ds:List Row}(N:aL P)(e:ds.map (·.aS)=af P R){w:Row}(hw:w∈ds):(gn f ds).lookup w.aS.aa=some (.ref (f w)):=
 cW (p:=(w.aS.aa,V.ref (f w))) (by rw[qM,e];exact gI N) (Zn.mpr ⟨w,hw,rfl⟩)
theorem Dt{ds:List Row}(N:aL P)(e:ds.map (·.aS)=af P R):(ds.map λw=>w.aS.aa).Nodup:=by have:=gI (R:=R) N;rw[<-e,Zt] at this;exact this
theorem oo{ds:List Row}(e:ds.map (·.aS)=af P R){b:ax}(hb:b∈af P R):∃w∈ds,w.aS=b:=Zn.mp (e▸hb)
structure FI(P:aI)(R:List Int)(J:Hp)(S:List Nat)(rd gv ly fA:Nat)(ds:List Row)(h':Hp):Prop where
 sub:S=rd::gv::ly::fA::ds.map (·.f)
 ext:Ext J (aY S h')
 d1:h' rd=some (.dict (gn (·.r) ds))
 d2:h' gv=some (.dict (gn (·.g) ds))
 d3:h' ly=some (.dict (gn (·.i) ds))
 d4:h' fA=some (.dict (gn (·.f) ds))
 st:∀w∈ds,Ah P R (aY S h') w
 fr:∀w∈ds,h' w.f=some (.dict [])
 nd:S.Nodup
theorem FI.live{J h':Hp}{S:List Nat}{rd gv ly fA:Nat}{ds:List Row}(x:FI P R J S rd gv ly fA ds h'):jL S h':=λz m=>by
 rw[x.sub] at m;simp only[Zp,Zn] at m;rcases m with rfl|rfl|rfl|rfl|⟨w,hw,rfl⟩
 . exact aF x.d1
 . exact aF x.d2
 . exact aF x.d3
 . exact aF x.d4
 . exact aF (x.fr w hw)
structure FS(im:Hp)(ds:List Row)(F:Int->List Int)(h':Hp):Prop where
 ext:Ext im h'
 at_:∀w∈ds,h' w.f=some (.dict (cy (F w.aS.aa)))
theorem FS.more{im h' cR:Hp}{ds:List Row}{F:Int->List Int}(x:FS im ds F h')(e:Ext h' cR):FS im ds F cR:=⟨x.ext.trans e,λw hw=>e.at (x.at_ w hw)⟩
theorem FS.put{im h' cR:Hp}{ds:List Row}{F:Int->List Int}(N:aL P)(eq:ds.map (·.aS)=af P R)(nd:(ds.map (·.f)).Nodup)(x:FS im ds F h'){w:Row}(hw:w∈ds)(n:im w.f=none){v:Int}(hv:v∉F w.aS.aa)
 (p:Put h' w.f (.dict (putD (cy (F w.aS.aa)) v (.bool true))) cR):FS im ds (vH F w.aS.aa (F w.aS.aa++[v])) cR:=by
 refine⟨p.im x.ext n,λu hu=>?_⟩
 by_cases z:u.f=w.f
 . have:=iE nd hu hw z;subst this;rw[p.at,gN,fq,ins,if_neg hv]
 . have zz:u.aS.aa≠w.aS.aa:=λe=>z (by rw[iE (Dt N eq) hu hw e]);rw[p.ne z,x.at_ u hu,rO zz]
theorem FS.other{im h' cR:Hp}{ds:List Row}{F:Int->List Int}(x:FS im ds F h'){a:Nat}{o:O}(n:im a=none)(ne:∀w∈ds,a≠w.f)(p:Put h' a o cR):FS im ds F cR:=
 ⟨p.im x.ext n,λw hw=>p.to (ne w hw).symm (x.at_ w hw)⟩
theorem wC{l:List Int}:∀{R:List Int},(cy l).foldl (λes p=>putD es p.1 p.2) (cy R)=cy (bV R l):=by
 induction l with
 |nil=>intro R;rfl
 |cons x l ih=>
  intro R;show (cy l).foldl _ (putD (cy R) x (.bool true))=_;rw[gN];exact ih
structure FP(P:aI)(R A:List Int)(im:Hp)(ds:List Row)(F:Int->List Int)(D:Prop)(ρ:Lo)(h':Hp)(F2:Int->List Int)(g:Bool):Prop where
 fs:FS im ds F2 h'
 good:Good P R A F2
 gr:ρ "grows"=some (.bool g)
 more:g=true->room (af P R) F2<room (af P R) F
 same:g=false->F2=F/\D
noncomputable def C.nx:C->C
 | .az _ k=>k| .ae _ k=>k| .mk _ _ k=>k| .u _ k=>k| .aX _ k=>k| .for _ _ _ k=>k|k=>k
noncomputable def EQ:C:=i4.body.nx.nx.nx.nx.nx.nx.nx.nx.nx.nx.nx.nx
theorem zb(W:Wd Φ γ)(N:aL P)(LR:dK P R){im:Hp}{ds:List Row}{rd gv ly ra:Nat}{ad:List (Int×V)}{ρ:Lo}{Qc:Po}(ys:im y.ad=some (.inst "Layout" (tP P y)))(hA:im y.aA=some (.dict ad))
 (eq:ds.map Row.aS=af P R) (nd:(ds.map (·.f)).Nodup) (st:∀w∈ds,Ah P R im w) (nf:∀w∈ds,im w.f=none)
 (u1:im rd=some (.dict (gn (·.r) ds))) (u2:im gv=some (.dict (gn (·.g) ds))) (u3:im ly=some (.dict (gn (·.i) ds))) (u4:im y.fA=some (.dict (gn (·.f) ds))) (ra2:im ra=some (.list ((af P R).map ch)))
 (start:FS im ds (λ_=>[]) h) (l1:ρ "layout"=some (.ref y.ad)) (l2:ρ "roots"=some (.ref ra)) (l3:ρ "reads"=some (.ref rd)) (l4:ρ "given"=some (.ref gv)) (l5:ρ "inner"=some (.ref ly))
 (q:∀h' F,Ext im h'->(∀w∈ds,h' w.f=some (.dict (cy (F w.aS.aa))))->gX P R (ad.map (·.1)) F->∀ρ',Qc .next ρ' [] h'):wp Φ γ EQ ρ [] h Qc:=by
 have X_:K+K<big:=by decide
 dsimp only[EQ,i4,C.nx]
 nofun;refine kQ W.aV (λn ρ h'=>∃F g,FS im ds F h'/\Good P R (ad.map (·.1)) F/\ρ "grows"=some (.bool g)/\(g=false->∀b∈af P R,oX P R (ad.map (·.1)) F b)/\n=2*room (af P R) F+(if g=true then 1 else 0))
  (2*room (af P R) (λ_=>[])+1) ⟨λ_=>[],true,start,λb hb=>⟨Ym,λ_ z=>nomatch z⟩,rfl,λz=>Bool.noConfusion z,rfl⟩ ?_
 intro n σ h6 z_;refine oeeaaaa z_ λF g S G lg cl nM=>?_;subst nM;have X6:=S.ext;refine⟨g,λK hK=>?_,?_,λz=>?_⟩
 . nofun;exact hK
 . rintro rfl K hK;nofun;intro rr h8 A8;rw[<-Wn] at A8;have f8:=A8.at;refine bN W.aV ch (af P R).reverse (λd ρ h'=>h' rr=some (.list ((af P R).reverse.map ch))/\∃F' g',FP P R (ad.map (·.1)) im ds F (∀b∈d,oX P R (ad.map (·.1)) F b) ρ h' F' g')
    f8 ⟨f8,F,false,S.more A8.ext,G,rfl,λz=>Bool.noConfusion z,λ_=>⟨rfl,λ_ z=>nomatch z⟩⟩ (λd ρ h' I=>I.1) ?_ ?_
   . intro d b rl σ h9 hd hb z_ K2 q8 _;refine oaee z_ λf9 F' g' I=>?_;have X9:=I.fs.ext;have hb:b∈af P R:=W0.mp hb;have cE:=(ay.mp hb).1;refine oea (oo eq hb) λw hw bU=>?_;subst bU;have lk1:=dY (f:=(·.r)) N eq hw;have lk2:=dY (f:=(·.g)) N eq hw;have lk3:=dY (f:=(·.i)) N eq hw;have lk4:=dY (f:=(·.f)) N eq hw;have s1:=(st w hw).r;have s2:=(st w hw).g;have s3:=(st w hw).i;have TF:=I.gr;nofun;intro wa io tn;have wU:=tn.im X9;have L3:im wa=none:=X9.none tn.new;have zO:∀u∈ds,wa≠u.f:=λu hu=>(tn.ne (I.fs.at_ u hu)).symm;have Nc:rr≠wa:=tn.ne f9;nofun;refine uv W.aV (λl=>O.dict (cy (bV (bV [] (bF P R w.aS)) l))) (ys:=[]) V.int (inner P R w.aS) F' wU L3 (wU.at s3) tn.at (λz=>aB L3 s3 z) (λd2 o rl2 σ q9 zs hd2 ho TU Jx RM Fu K3 Em _=>?_) λσ q9 Jx RM Fu=>?_
     . refine oea (fW N LR.cg cE ho) λc hc cu=>?_;subst cu;refine oea (oo eq hc) λu hu cY=>?_;subst cY;have lk5:=dY (f:=(·.f)) N eq hu;have s5:=Jx.at (aE (zO u hu).symm (tn.ext.at (I.fs.at_ u hu)));have lW:=dy (m:=kW P R) (kj (l:=zs) (kj (l:=bF P R w.aS) Ym)) λx hx=>by
        rcases eS.mp hx with hx|hx
        . exact Zm.mpr ⟨_,cE,(eS.mp hx).resolve_left λz=>nomatch z⟩
        . rw[TU,XN] at hx;refine oea (Zm.mp hx) λo ho hx=>?_;refine oea (fW N LR.cg cE (show o∈inner P R w.aS by rw[<-hd2];exact Zd _ ho)) λc' ip dT=>?_;subst dT;exact((I.good c' ip).2 x hx).1.read (ay.mp ip).1
       nofun;refine r_update Fu s5 (zO u hu) ?_ λEp p=>?_
       . rw[c8,c8];exact ZI (Zk (ZR (Zf lW (lh N)) (I.good.len N hc)) X_)
       . exact r_done (Em _ _ (p.im Jx ao) (by rw[p.at,wC,m9]))
     have mem:∀x,x∈bV (bV [] (bF P R w.aS)) ([]++(inner P R w.aS).flatMap F')↔(x∈bF P R w.aS\/∃o∈inner P R w.aS,x∈F' o):=λx=>by
      rw[eS,eS,XN,Zm];simp only[Yt,false_or]
     revert Fu mem
     generalize bV (bV [] (bF P R w.aS)) ([]++(inner P R w.aS).flatMap F')=Wl;intro Fu mem;have need:∀x∈Wl,x∉br P R w.aS->bH P R w.aS x:=λx hx hg=>by
      rcases (mem x).mp hx with hx|⟨o,ho,hx⟩
      . exact .here hx hg
      . refine oea (fW N LR.cg cE ho) λc hc gU=>?_;subst gU;exact .there ho hc ((I.good c hc).2 x hx).1 hg
     have S12:FS im ds F' q9:=⟨RM,λu hu=>Jx.at (aE (zO u hu).symm (tn.ext.at (I.fs.at_ u hu)))⟩;have xU:q9 rr=some _:=Jx.at (aE Nc (tn.ext.at f9));nofun;refine oT W.aV Fu (λd3 ρ h'=>h' wa=some (.er (cy Wl))/\h' rr=some (.list ((af P R).reverse.map ch))/\∃F2 g2,FP P R (ad.map (·.1)) im ds F (g'=false/\∀p∈d3,p.1∉br P R w.aS->p.1∉ad.map (·.1)->p.1∈F w.aS.aa) ρ h' F2 g2)
      (λEp p=>⟨p.at,p.to Nc xU,F',g',S12.other L3 zO p,I.good,TF,I.more,λz=>⟨(I.same z).1,z,λ_ z=>nomatch z⟩⟩) (λd ρ h' J=>J.1) ?_ ?_
     . intro d3 v M6 σ Ep Fq hv z_ K4 CH;refine oaaee z_ λNW Dd F2 g2 J=>?_;have X13:=J.fs.ext;have s4:=J.fs.at_ w hw;have TE:=J.gr;have QN:v.1∈Wl:=by
        refine oea (Zn.mp hv) λx hx gC=>?_;subst gC;exact hx
       nofun;refine r_and (!(ad.map (·.1)).contains v.1&& !(F2 w.aS.aa).contains v.1) (λ_ K hK=>?_) ?_
       . nofun;refine r_and (!(F2 w.aS.aa).contains v.1) (λ_ K hK=>?_) ?_
         . nofun;exact hK
         . nofun;exact hK
       refine r_ite (λz=>?_) λz=>?_
       . refine oa (Zj.mp z) λm1 m2=>?_;refine oa (Zj.mp m2) λm2 m3=>?_;have m1:v.1∉br P R w.aS:=λm=>jZ (nt m1) (eS.mpr (.inr m));have m2:=jZ (nt m2);have m3:=jZ (nt m3);nofun;refine r_setId s4 ?_ λzE p=>?_
         . rw[c8];exact Zk (J.good.len N hb) (by decide)
         nofun;have r1:=J.good.room N hb (need _ QN m1) m2 m3;refine r_done (CH _ _ ⟨p.to (zO w hw) NW,p.to (A8.ne (S.at_ w hw)).symm Dd,_,true,J.fs.put N eq nd hw (nf w hw) m3 p,J.good.add N hb (need _ QN m1) m2 m3,rfl,λ_=>?_,λz=>Bool.noConfusion z⟩)
         cases g2 with
         |true=>exact ZL r1 (J.more rfl)
         |false=>rw[(J.same rfl).1] at r1 ⊢;exact r1
       . nofun;refine r_done (CH _ _ ⟨NW,Dd,F2,g2,J.fs,J.good,TE,J.more,λzg=>?_⟩);refine oaa (J.same zg) λz1 z2 z3=>?_;refine⟨z1,z2,λp hp hg ha=>?_⟩;rcases Zg.mp hp with hp|hp
         . exact z3 p hp hg ha
         . rw[Zc.mp hp] at hg ha ⊢;rcases Wh.mp z with z|z
           . exact absurd ((eS.mp (ii (Mine.nf z))).resolve_left λz=>nomatch z) hg
           . rcases Wh.mp z with z|z
             . exact absurd (ii (Mine.nf z)) ha
             . rw[<-z1];exact ii (Mine.nf z)
     . intro σ Ep zE z_ p;refine oaaee z_ λNW Dd F2 g2 J=>?_;refine r_done (q8 _ _ ⟨p.to Nc Dd,F2,g2,J.fs.other L3 zO p,J.good,J.gr,J.more,λzg=>?_⟩);refine oaa (J.same zg) λz1 z2 z3=>?_;refine oa (I.same z2) λy1 y2=>?_;refine⟨z1,λb hb=>?_⟩;rcases Zg.mp hb with hb|hb
       . exact y2 b hb
       . rw[Zc.mp hb];intro x hx hg ha;rw[y1] at mem;exact z3 (x,.bool true) (Zn.mpr ⟨x,(mem x).mpr hx,rfl⟩) hg ha
   . intro σ h9 z_;refine oaee z_ λf9 F' g' I=>?_;refine r_done (hK _ _ _ ?_ ⟨F',g',I.fs,I.good,I.gr,λz b hb=>?_,rfl⟩)
     . cases g' with
       |true=>have:=I.more rfl;simp only[if_true];exact(aj 0x211011024210010242411014120) _ _ this
       |false=>rw[(I.same rfl).1];exact YG _
     . rw[(I.same z).1];exact(I.same z).2 b (W0.mpr hb)
 . exact r_done (q _ F S.ext S.at_ ⟨G,cl z⟩ _)
theorem uU(W:Wd Φ γ)(N:aL P)(Y:jM (aG y.fA h) P y R)(LR:dK P R){ad:List (Int×V)}(hA:aG y.fA h y.aA=some (.dict ad))(r:h y.fA=some (.dict []))
 (q:∀h' ds F,Ext (aG y.fA h) h'->ds.map Row.aS=af P R->h' y.fA=some (.dict (gn (·.f) ds))->(∀w∈ds,h w.f=none/\h' w.f=some (.dict (cy (F w.aS.aa))))->gX P R (ad.map (·.1)) F->Q .none h'):Φ "find_free" [.ref y.ad] h Q:=by
 refine W.cl rfl rfl ?_;have r1:=LR.cg.one N;have ys:=Y.self;have hR:=Y.roots;have X0:Ext (aG y.fA h) h:=aU;have Pd:(cy R).length<64:=by rw[c8];exact Zk (LR.sub.len N) N.cG
 nofun;intro ra h1 A1;have X1:=A1.im X0;rw[show (cy R).map (·.1)=R by rw[cy,Zt];exact Vq R,gj N LR.sub,Zt] at A1;nofun;intro rd h2 A2;have X2:=A2.im X1;nofun;intro gv h3 A3;have X3:=A3.im X2;nofun;intro ly h4 A4;have X4:=A4.im X3;have b1:=(A2.ext.trans (A3.ext.trans A4.ext)).at A1.at;have b2:=(A3.ext.trans A4.ext).at A2.at;have b3:=A4.ext.at A3.at;have b4:=(A1.ext.trans (A2.ext.trans (A3.ext.trans A4.ext))).at r;have Ma:rd≠gv:=A3.ne A2.at;have Nl:rd≠ly:=A4.ne (A3.ext.at A2.at);have Nk:gv≠ly:=A4.ne A3.at;have L_:rd≠y.fA:=(A2.ne (A1.ext.at r)).symm;have Nj:gv≠y.fA:=(A3.ne ((A1.ext.trans A2.ext).at r)).symm;have Nh:ly≠y.fA:=(A4.ne ((A1.ext.trans (A2.ext.trans A3.ext)).at r)).symm;have Ts:(rd::gv::ly::y.fA::([]:List Row).map (·.f)).Nodup:=by simp[Ma,Nl,Nk,L_,Nj,Nh]
 have c1:ra∉[rd,gv,ly,y.fA]:=by
  have k1:ra≠rd:=A2.ne A1.at;have k2:ra≠gv:=A3.ne (A2.ext.at A1.at);have k3:ra≠ly:=A4.ne ((A2.ext.trans A3.ext).at A1.at);have k4:ra≠y.fA:=(A1.ne r).symm;simp[k1,k2,k3,k4]
 have Z:Ext (aG y.fA h) (aY [rd,gv,ly,y.fA] h4):=λx n=>by
  have e:=X4 x n;have e0:x≠y.fA:=λz=>n (z▸ao);have e1:h x≠none:=by rw[hide_ne e0] at n;exact n
  have k1:x≠rd:=λz=>by rw[z] at e1;exact e1 (A1.ext.none A2.new)
  have k2:x≠gv:=λz=>by rw[z] at e1;exact e1 ((A1.ext.trans A2.ext).none A3.new)
  have k3:x≠ly:=λz=>by rw[z] at e1;exact e1 ((A1.ext.trans (A2.ext.trans A3.ext)).none A4.new)
  rw[aW (by simp[k1,k2,k3,e0]),e]
 have Qb:aY [rd,gv,ly,y.fA] h4 ra=some (.list ((af P R).map ch)):=(aW c1).trans b1;have jn:∀x∈[rd,gv,ly,y.fA],aY [rd,gv,ly,y.fA] h4 x=none:=λx m=>cB m;have j1:=jn rd (by simp);have j2:=jn gv (by simp);have j3:=jn ly (by simp);have j4:=jn y.fA (by simp);nofun;refine bN W.aV ch (af P R) (λd ρ h'=>∃ds S,ds.map Row.aS=d/\FI P R (aY [rd,gv,ly,y.fA] h4) S rd gv ly y.fA ds h'/\∀w∈ds,h w.f=none) b1
  ⟨[],_,rfl,⟨rfl,λ_ _=>rfl,b2,b3,A4.at,b4,(λ_ z=>nomatch z),(λ_ z=>nomatch z),Ts⟩,λ_ z=>nomatch z⟩ (λd ρ h' I=>?_) ?_ ?_
 . refine oeeaa I λds S _ I _=>?_;exact(I.ext.trans bj).at Qb
 . intro d b rr σ h' hd hb z_ K hK _;refine oeeaa z_ λds S eq I fr=>?_;have X':=I.ext.trans bj;have cE:=(ay.mp hb).1;have L:=I.live;have m1:rd∈S:=by rw[I.sub];exact Ze
   have m2:gv∈S:=by rw[I.sub];exact Zh _ Ze
   have m3:ly∈S:=by rw[I.sub];exact Zh _ (Zh _ Ze)
   have m4:y.fA∈S:=by rw[I.sub];exact Zh _ (Zh _ (Zh _ Ze))
   have len:∀f:Row->Nat,(gn f ds).length<big:=λf=>by
    have h1:=congrArg List.length hd;rw[<-eq,Zb,Za] at h1;rw[gn,Za];exact Zk (h1▸ZE _ _) (ZL (dI N) (by decide))
   have l1:=len (·.r);have l2:=len (·.g);have l3:=len (·.i);have l4:=len (·.f);have nb:b.aa∉(ds.map (·.aS)).map (·.aa):=by
    have:=gI (R:=R) N;rw[<-hd,Zq,Zw] at this;rw[eq];exact λm=>(ZJ.mp this).2.2 _ m _ Ze rfl
   nofun;refine uM W N (Y.ext (Z.trans X')) r1 cE λr h5 e5 n5 f5=>?_;have X5:=X'.trans e5;have nr:=L.out n5;have d5:=e5.at I.d1;nofun;intro h6 p6;have X6:=p6.im X5 j1;have L6:=(L.ext e5).put p6;nofun;refine uN W N (Y.ext (Z.trans X6)) r1 cE λg h7 e7 n7 f7=>?_;have X7:=X6.trans e7;have ng:=L6.out n7;have d7:=e7.at (p6.to Ma.symm (e5.at I.d2));nofun;intro h8 p8;have X8:=p8.im X7 j2;have L8:=(L6.ext e7).put p8;nofun;refine qi W N (Y.ext (Z.trans X8)) r1 cE λi h9 e9 n9 f9=>?_;have X9:=X8.trans e9;have ni:=L8.out n9;have d9:=e9.at (p8.to Nk.symm (e7.at (p6.to Nl.symm (e5.at I.d3))));nofun;intro io nN;have wU:=nN.im X9 j3;have L10:=(L8.ext e9).put nN;nofun;intro f s_ hZ;have X11:=hZ.im wU;have nf:=L10.out hZ.new;have d11:=hZ.ext.at (nN.to Nh.symm (e9.at (p8.to Nj.symm (e7.at (p6.to L_.symm (e5.at I.d4))))));nofun;intro q9 CP
   -- the base of each step
   have c1:=oS m1 e5 p6;have c2:=oS m2 e7 p8;have c3:=oS m3 e9 nN;have c4:Ext (aY S io) (aY (S++[f]) q9):=fh (Zd _ m4) CP▸bu (λx m=>(Zg.mp m).imp id λm=>by rw[Zc.mp m];exact hZ.new) hZ.ext;have o1:∀x,x∉S->x≠rd/\x≠gv/\x≠ly/\x≠y.fA:=λx n=>⟨λe=>n (e▸m1),λe=>n (e▸m2),λe=>n (e▸m3),λe=>n (e▸m4)⟩;have IX:=o1 f nf;have bk:=(((e5.at (I.d1)):h5 rd=_));have row:∀{w:Row} (z:w.aS=b) {f:Row->Nat} {ds:List Row},b.aa∉(ds.map (·.aS)).map (·.aa)->putD (gn f ds) b.aa (.ref (f w))=gn f (ds++[w]):=λ{w} z {f ds} n=>by subst z;exact BD n
   refine r_done (hK _ _ ⟨ds++[⟨b,r,g,i,f⟩],S++[f],by rw[Zq,eq];rfl,⟨by rw[I.sub,Zq];rfl,I.ext.trans (c1.trans (c2.trans (c3.trans c4))),?_,?_,?_,?_,λw hw=>?_,λw hw=>?_,xA I.nd nf⟩,λw hw=>?_⟩)
   . rw[CP.to L_ (hZ.ext.at (nN.to Nl (e9.at (p8.to Ma (e7.at p6.at)))))];exact congrArg (λz=>some (O.dict z)) (row (w:=⟨b,r,g,i,f⟩) rfl nb)
   . rw[CP.to Nj (hZ.ext.at (nN.to Nk (e9.at p8.at)))];exact congrArg (λz=>some (O.dict z)) (row (w:=⟨b,r,g,i,f⟩) rfl nb)
   . rw[CP.to Nh (hZ.ext.at nN.at)];exact congrArg (λz=>some (O.dict z)) (row (w:=⟨b,r,g,i,f⟩) rfl nb)
   . rw[CP.at];exact congrArg (λz=>some (O.dict z)) (row (w:=⟨b,r,g,i,f⟩) rfl nb)
   . rcases Zg.mp hw with hw|hw
     . exact(I.st w hw).ext (c1.trans (c2.trans (c3.trans c4)))
     . rw[Zc.mp hw];exact⟨(c2.trans (c3.trans c4)).at ((aW nr).trans (p6.to (o1 r nr).1 f5)),(c3.trans c4).at ((aW ng).trans (p8.to (o1 g ng).2.1 f7)),c4.at ((aW ni).trans (nN.to (o1 i ni).2.2.1 f9))⟩
   . rcases Zg.mp hw with hw|hw
     . have nw:w.f∉[rd,gv,ly,y.fA]:=by
        have:=I.nd;rw[I.sub] at this;have k:=ZJ.mp (show ([rd,gv,ly,y.fA]++ds.map (·.f)).Nodup from this);exact λm=>k.2.2 _ m _ (ZG hw) rfl
       simp only[Zp,Yt,or_false,not_or] at nw;exact CP.to nw.2.2.2 (hZ.ext.at (nN.to nw.2.2.1 (e9.at (p8.to nw.2.1 (e7.at (p6.to nw.1 (e5.at (I.fr w hw))))))))
     . rw[Zc.mp hw];exact CP.to IX.2.2.2 hZ.at
   . rcases Zg.mp hw with hw|hw
     . exact fr w hw
     . rw[Zc.mp hw];have z:=wU.none hZ.new;rw[aW λm=>(by simp only[Zp,Yt,or_false] at m;rcases m with m|m|m|m;exact IX.1 m;exact IX.2.1 m;exact IX.2.2.1 m;exact IX.2.2.2 m)] at z;exact(A1.ext.trans (A2.ext.trans (A3.ext.trans A4.ext))).none z
 . intro σ h' z_;refine oeeaa z_ λds S eq I fr=>?_;have e0:∀x,x∈S\/aY (ds.map (·.f)) h' x=h' x:=λx=>by
    by_cases m:x∈S
    . exact .inl m
    . exact .inr (aW λk=>m (by rw[I.sub];exact Zh _ (Zh _ (Zh _ (Zh _ k)))))
   have nd:=I.nd;rw[I.sub] at nd;have k:=ZJ.mp (show ([rd,gv,ly,y.fA]++ds.map (·.f)).Nodup from nd);have o:∀x∈[rd,gv,ly,y.fA],aY (ds.map (·.f)) h' x=h' x:=λx m=>aW λn=>k.2.2 _ m _ n rfl;have T:Ext (aY S h') (aY (ds.map (·.f)) h'):=bu (λx m=>.inl (by rw[I.sub];exact Zh _ (Zh _ (Zh _ (Zh _ m))))) .refl;have U:=Z.trans (I.ext.trans T);exact zb W N LR (U.at ys) (U.at hA) eq k.2.1 (λw hw=>(I.st w hw).ext T) (λw hw=>cB (ZG hw)) ((o _ (by simp)).trans I.d1) ((o _ (by simp)).trans I.d2) ((o _ (by simp)).trans I.d3) ((o _ (by simp)).trans I.d4) ((I.ext.trans T).at Qb)
    ⟨bj,λw hw=>I.fr w hw⟩ rfl rfl rfl rfl rfl λcR F e a c _=>q cR ds F (U.trans e) eq (e.at ((o _ (by simp)).trans I.d4)) (λw hw=>⟨fr w hw,a w hw⟩) c
end
end
section
section
variable {Φ:Calls}{γ:String->Option V}{h:Hp}{Q:V->Hp->Prop}{P:aI}{R:List Int}
theorem qk(W:Wd Φ γ){a:Nat}{h0:Hp}(A:Alloc h0 a (.inst "Layout" []) h)
 (q:∀(y:Lay) h',y.ad=a->Ext h0 h'->h' y.ad=some (.inst "Layout" (tP P y))->h' y.rA=some (.dict [])->h' y.aA=some (.dict [])->h' y.nA=some (.dict [])->h' y.fA=some (.dict [])->
  h0 y.ad=none->h0 y.rA=none->h0 y.aA=none->h0 y.nA=none->h0 y.fA=none->[y.ad,y.rA,y.aA,y.nA,y.fA].Nodup->Q .none h'):Φ "Layout.__init__" [.ref a,.ref P.ad] h Q:=by
 refine W.cl rfl rfl ?_;have E:=A.ext;have n:=A.new;nofun;intro h1 p1;have E1:=p1.im E n;nofun;intro r h2 A2;have ra:r≠a:=(A2.ne p1.at).symm;have E2:=A2.im E1;have nr:=E1.none A2.new;nofun;intro h3 p3;have r3:=p3.to ra A2.at;have E3:=p3.im E2 n;nofun;intro s h4 A4;have sa:s≠a:=(A4.ne p3.at).symm;have rs:=A4.ne r3;have E4:=A4.im E3;have ns:=E3.none A4.new;nofun;intro h5 p5;have r5:=p5.to ra (A4.ext.at r3);have s5:=p5.to sa A4.at;have E5:=p5.im E4 n;nofun;intro t h6 A6;have ta:t≠a:=(A6.ne p5.at).symm;have rt:=A6.ne r5;have st:=A6.ne s5;have E6:=A6.im E5;have nt:=E5.none A6.new;nofun;intro h7 p7;have r7:=p7.to ra (A6.ext.at r5);have s7:=p7.to sa (A6.ext.at s5);have t7:=p7.to ta A6.at;have E7:=p7.im E6 n;nofun;intro u h8 A8;have ua:u≠a:=(A8.ne p7.at).symm;have ru:=A8.ne r7;have su:=A8.ne s7;have tu:=A8.ne t7;have nu:=E7.none A8.new;nofun;intro h9 p9;nofun;refine r_done (q ⟨a,r,s,t,u⟩ h9 rfl (p9.im (A8.im E7) n) p9.at (p9.to ra (A8.ext.at r7)) (p9.to sa (A8.ext.at s7)) (p9.to ta (A8.ext.at t7)) (p9.to ua A8.at) n nr ns nt nu ?_);simp[rs,rt,ru,st,su,tu,ra.symm,sa.symm,ta.symm,ua.symm]
structure gz(P:aI)(h:Hp)(y:Lay)(R:List Int)(ad:List (Int×V))(ds:List Row)(F:Int->List Int):Prop where
 lay:jM h P y R
 least:dK P R
 aD:h y.aA=some (.dict ad)
 atoms:tU P ad
 eq:ds.map Row.aS=af P R
 fD:h y.fA=some (.dict (gn (·.f) ds))
 at_:∀w∈ds,h w.f=some (.dict (cy (F w.aS.aa)))
 free:gX P R (ad.map (·.1)) F
noncomputable def nB(P:aI)(R:List Int):List (Int×V):=(af P R).zipIdx.map λp=>(p.1.aa,.int p.2)
theorem gz.ext{h h':Hp}{y:Lay}{ad:List (Int×V)}{ds:List Row}{F:Int->List Int}(x:gz P h y R ad ds F)(e:Ext h h'):gz P h' y R ad ds F:=
 ⟨x.lay.ext e,x.least,e.at x.aD,x.atoms,x.eq,e.at x.fD,λw hw=>e.at (x.at_ w hw),x.free⟩
theorem iU(N:aL P)(S:eO P R):∃eb∈P.ap,eb.aa=1/\af P R=eb::(af P R).filter (λb=>b.aa != 1):=by
 refine oeaaa N.ent λeb Fo e1 s1 _=>?_;have hm:eb∈af P R:=ay.mpr ⟨Fo,by rw[e1];exact S.one N⟩;have asc:=c9 (R:=R) N
 cases z:af P R with
 |nil=>rw[z] at hm;cases hm
 |cons x r=>
  rw[z] at hm asc;rw[Zw,YF] at asc;have hx:x∈P.ap:=(ay.mp (by rw[z];exact Ze)).1;have lt:∀b∈r,x.aa<b.aa:=λb hb=>asc.1 _ (ZG hb);have:eb=x:=by
   rcases Zp.mp hm with h|h
   . exact h
   . have:=lt _ h;have:=N.pos x hx
     (rename_i jF;exact False.elim ((aj 0x1101b011111110010012302) eb.aa x.aa e1 this jF))
  subst this;refine⟨eb,Fo,e1,?_⟩;rw[YN (by simp[e1])]
  congr 1
  symm;rw[Yv];intro b hb;exact bne_iff_ne.mpr (WL (e1▸lt b hb))
theorem o7(W:Wd Φ γ)(N:aL P)(Y:PR h P)(B:Base γ h)
 (q:∀y h' R ad ds F,Ext h h'->gz P h' y R ad ds F->h' y.nA=some (.dict (nB P R))->h y.ad=none->Q (.ref y.ad) h'):Φ "laid_out" [.ref P.ad] h Q:=by
 refine W.cl rfl rfl ?_;have EB:=Y.self;nofun;refine r_new rfl λa h1 A1=>?_;refine qk W A1 λy h2 ya e2 ys hr ha hn hf m0 m1 m2 m3 m4 nd=>?_;subst ya;simp only[ZD,Zp,Yt,or_false,not_or,Ym,and_true,not_false_eq_true] at nd;refine oaaa nd λbU cu cY Rt=>?_;try clear nd;refine oaaa bU λOa Rw Rv Ru=>?_;try clear bU;refine oaa cu λN_ N9 N8=>?_;try clear cu;refine oa cY λN7 N6=>?_;try clear cY
 refine⟨rfl,?_⟩;nofun;refine sr W N (Y.ext (bg e2 m1)) (aE Oa ys) hr λh3 R e3 r3 LR=>?_;have X3:=(bg e2 m1).trans e3;have k3:∀{x o},x≠y.rA->h2 x=some o->h3 x=some o:=λn e=>e3.at (aE n e);nofun;refine sC W N (Y.ext (bg X3 m2)) (aE Rw (k3 Oa ys)) (B.ext (bg X3 m2)) (k3 (Yq N_) ha) λh4 ad e4 r4 AD=>?_;have X4:=(bg X3 m2).trans e4;have k4:∀{x o},x≠y.aA->h3 x=some o->h4 x=some o:=λn e=>e4.at (aE n e);have PY:=k4 Rw (k3 Oa ys);nofun;refine uU W N ⟨Y.ext (bg X4 m4),aE Ru PY,aE N8 (k4 N_ r3)⟩ LR (aE N6 r4) (k4 (Yq N6) (k3 (Yq N8) hf)) λh5 ds F e5 eq fD Ri FO=>?_;have X5:=(bg X4 m4).trans e5;have k5:∀{x o},x≠y.fA->h4 x=some o->h5 x=some o:=λn e=>e5.at (aE n e);have PX:=k5 Ru PY;have UG:=k5 N8 (k4 N_ r3);have Jb:=k5 Rt (k4 (Yq N7) (k3 (Yq N9) hn));have Pd:(cy R).length<64:=by rw[c8];exact Zk (LR.sub.len N) N.cG
 nofun;intro a6 h6 A6;have X6:=A6.im X5;nofun;intro a7 h7 A7;rw[show (cy R).map (·.1)=R by rw[cy,Zt];exact Vq R,gj N LR.sub,Zt] at A7;have X7:=A7.im X6;refine cO W.aV ch ch (λb=>b.aa != 1) (af P R) A7.at (λx h8 hx E8 K hK=>?_) (λx h8 hx _ E8 K hK=>?_) λa8 h8 E8 n8 f8=>?_
 . have X8:=X7.trans E8;nofun;exact hK h8 E8
 . nofun;exact hK h8 E8
 refine oeaa (iU N LR.cg) λeb Fo el hh=>?_;have rl:=dI (R:=R) N;have Jf:[V.int 1]++((af P R).filter (λb=>b.aa != 1)).map ch=(af P R).map ch:=by
  conv=>rhs;rw[hh]
  rw[Zw,ch,el];rfl
 refine r_cat ((A7.ext.trans E8).at A6.at) f8 ?_ λa9 h9 A9=>?_
 . rw[<-Zb,Jf,Za];exact ZI (ZL rl (by decide))
 rw[Jf] at A9;have f9:=A9.at;have X9:=A9.im (X7.trans E8);have EW:Ext h5 h9:=A6.ext.trans (A7.ext.trans (E8.trans A9.ext));have Z:=bg X9 m3;have Tp:a9≠y.nA:=(A9.ne ((A6.ext.trans (A7.ext.trans E8)).at Jb)).symm;nofun;refine fj W.aV (by rw[Za];exact ZI (ZL rl (by decide))) (λi ρ h'=>Ext (aG y.nA h9) h'/\h' y.nA=some (.dict (((af P R).zipIdx.take i).map λp=>(p.1.aa,.int p.2)))) ⟨aU,by rw[EW.at Jb];rfl⟩ ?_ ?_
 . intro i σ io hi z_ K hK _ _;refine oa z_ λjG Fv=>?_;rw[Za] at hi;have ys10:=jG.at (aE Rv (EW.at PX));have f9':=jG.at (aE Tp f9);have ln:dm ((af P R).map ch) (i:Int)=some (ch (af P R)[i]):=by
    unfold dm;rw[if_pos (Yb _),YZ,ZQ,Zv hi];rfl
   have hlen:(((af P R).zipIdx.take i).map λp=>(p.1.aa,V.int p.2)).length<big:=by rw[Za];exact Zk (VC _ _) (ZL hi (ZL rl (by decide)))
   nofun;intro s_ p;nofun;refine r_done (hK _ _ ⟨p.im jG ao,p.at.trans ?_⟩);have hg:(af P R).zipIdx[i]?=some ((af P R)[i],i):=by rw[Vr,Zv hi];simp
   rw[fT hg,Zq];refine congrArg (λz=>some (O.dict z)) (iM λhm=>?_);rw[Zt] at hm;refine oea (Zn.mp hm) λdT hk e=>?_;obtain ⟨b,k⟩:=dT;obtain ⟨m,hm,e2⟩:=YL.mp hk;rw[Uh] at hm;rw[List.getElem_take,List.getElem_zipIdx] at e2;have asc:=c9 (R:=R) N;rw[XD] at asc;have lt:=asc m i (by rw[Za];exact(aj 0x111111214013133121411014340) _ _ _ _ hi hm (Vh _ _)) (by rw[Za];exact hi) (by exact(aj 0x111210142111311014230) _ _ _ hm (Vh _ _));rw[Ui,Ui] at lt;rw[<-(Xa e2).1] at e;exact Yd lt e
 . intro σ io z_;refine oa z_ λjG Fv=>?_;nofun;refine q y io R ad ds F (Z.trans jG) ?_ ?_ m0
   . refine gz.ext (h:=aG y.nA h9) ⟨⟨Y.ext Z,aE Rv (EW.at PX),aE N9 (EW.at UG)⟩,LR,aE N7 (EW.at (k5 N6 r4)),AD,eq,aE (Yq Rt) (EW.at fD),λw hw=>aE ?_ (EW.at (Ri w hw).2),FO⟩ jG;exact(aB (Ri w hw).1 (k4 (Yq N7) (k3 (Yq N9) hn))).symm
   . rw[Fv,Vc (by rw[VR,Za];exact Zs _)];rfl
end
end
section
section
variable {Φ:Calls}{γ:String->Option V}{h:Hp}{Q:V->Hp->Prop}{P:aI}{R:List Int}
theorem xx(W:Wd Φ γ){b:ax}(B:vS h b)(q:∀a h',Ext h h'->h a=none->h' a=some (.list (b.ag.bf.map .int))->Q (.ref a) h'):Φ "_law_leads" [.ref b.ad] h Q:=by
 refine W.cl rfl rfl ?_;have bs:=B.self;have ls:=B.ag.self;nofun;intro a h1 A;refine mi W.aV (aJ:=.tup a _) ⟨a,rfl,.inr (.inl ⟨_,A.at,rfl⟩)⟩ rfl [b.ag.to,b.ag.other] (λt=>[V.int t]) rfl (λ_=>rfl) (λh' E=>E.at A.at) V.int (λt=>decide (0<=t)) (λx h2 hx e2 K hK=>?_) (λx h2 hx _ e2 K hK=>?_) λa2 h2 e2 n2 f2=>?_
 . nofun;exact hK h2 e2
 . nofun;exact hK h2 e2
 nofun;refine q _ _ (A.ext.trans e2) (A.ext.none n2) ?_;rw[f2];unfold Last.bf
 by_cases h1:0<=b.ag.to<;>by_cases h2:0<=b.ag.other<;>simp[h1,h2]
theorem ki(W:Wd Φ γ)(N:aL P)(Y:PR h P)(r1:1∈R){u:Nat}(hu:h u=some (.list (R.map .int))){b:ax}(hb:b∈P.ap)(q:Q (.int (bB P R b.aa)) h):Φ "_law_unit" [.ref P.ad,.ref u,.int b.aa] h Q:=by
 refine W.cl rfl rfl ?_;have EB:=Y.self;have ptab:=Y.table;have cG:=N.cG;nofun;rw[Za];refine fj W.aV (ZI (ZL cG (by decide))) (λi ρ h'=>h'=h/\∃c∈P.ap,ρ "here"=some (.int c.aa)/\bB P R c.aa=bB P R b.aa/\∃vs:List Int,vs.length=i/\vs.Nodup/\∀x∈vs,c.aa<x/\x∈P.ap.map (·.aa))
  ⟨rfl,b,hb,rfl,rfl,[],rfl,Ym,λ_ z=>nomatch z⟩ ?_ ?_
 . intro i σ h1 hi z_ K hK hr _;refine oaeaaaeaa z_ λnM c hc l3 un vs v1 v2 v3=>?_;subst nM;nofun;refine r_ite (λm=>?_) λm=>?_
   . nofun;rw[jd (N.pos c hc) (ii m)] at un;exact r_retK (hr _ _ _ (un▸q))
   . have m':=jZ m;have cs:=(Y.aS c hc).self;refine oeaaa (iJ N r1 hc m') λp hp e lt u'=>?_;nofun;refine r_done (hK _ _ ⟨rfl,p,hp,congrArg (λz=>some (V.int z)) e.symm,u'.symm.trans un,c.aa::vs,congrArg (· +1) v1,?_,?_⟩)
     . exact ZD.mpr ⟨λhm=>Int.lt_irrefl _ (v3 _ hm).1,v2⟩
     . intro x hx;rcases Zp.mp hx with rfl|hx
       . exact⟨lt,ZG hc⟩
       . exact⟨Va lt (v3 x hx).1,(v3 x hx).2⟩
 . intro σ h1 z_;refine oaeaaaeaa z_ λwQ c hc l3 un vs v1 v2 v3=>?_;subst wQ;have:=dy (l:=c.aa::vs) (m:=P.ap.map (·.aa)) (ZD.mpr ⟨λhm=>Int.lt_irrefl _ (v3 _ hm).1,v2⟩) (λx hx=>by
    rcases Zp.mp hx with rfl|hx
    . exact ZG hc
    . exact(v3 x hx).2)
   rw[Yn,v1,Za] at this;exact absurd this (Nat.not_succ_le_self _)
noncomputable abbrev fK(b:ax):V:=.ref b.ad
theorem AN{k:C}{ρ:Lo}{st:List V}{Q:Po}(W:Wd Φ γ)(N:aL P)(Y:PR h P)(lp:ρ "program"=some (.ref P.ad))(q:∀a h',Ext h h'->h a=none->h' a=some (.list (P.ap.map fK))->wp Φ γ k ρ (.ref a::st) h' Q):
 wp Φ γ (.ae "program"<|.bL "KProgram"<|.call "KProgram.labels" 1<|.comp ["label"] .seq (.az (.bool true) .done) (.ae "program"<|.bL "KProgram"<|.ae "label"<|.call "KProgram.block" 2<|.done) k) ρ st h Q:=by
 have EB:=Y.self;nofun;refine fL W N Y λa h1 e1 n1 f1=>?_;refine comp_map W.aV ch fK P.ap f1 (λb h2 hb e2 K hK=>?_) λa2 h2 e2 n2 f2=>q a2 h2 (e1.trans e2) (e1.none n2) f2;have lp:bc ρ "label" (ch b) "program"=some (.ref P.ad):=lp;nofun;exact hK h2 e2
noncomputable def iF(b:ax):Bool:=b.ag.bC== "call"&&decide (0<=b.ag.to)
noncomputable def fS(P:aI):List Int:=(P.ap.filter λb=>b.aH== "fun").map (·.aa)++(P.ap.filter iF).map (·.ag.to)
theorem kl{b:ax}:iF b=true↔b.ag.bC="call"/\0<=b.ag.to:=by unfold iF;rw[XA,beq_iff_eq,decide_eq_true_eq]
theorem uI(N:aL P):mL P (fS P):=by
 have rH:∀b∈P.ap,iF b=true->∃c∈P.ap,c.aa=b.ag.to/\c.aw=b.aa/\c.aH="cont":=λb hb w=>by
  refine oa (kl.mp w) λw t=>?_;refine oeaa (N.J3 b hb w t) λc hc e p=>?_;refine oeaa (N.vp b hb b.ag.to (by unfold Last.bf;rw[if_pos t];exact Ze)) λc' ip e' s=>?_;have:=N.uniq hc ip (e.trans e'.symm);subst this;exact⟨c,hc,e,p,s⟩
 have fm:∀{b:ax},b∈P.ap.filter iF↔b∈P.ap/\iF b=true:=ZH;have fs:∀{b:ax},b∈P.ap.filter (λb=>b.aH== "fun")↔b∈P.ap/\b.aH="fun":=by intro b;rw[ZH,beq_iff_eq]
 refine⟨⟨?_,λl hl=>?_⟩,λb hb l hl=>?_,λS hS _ l hl=>?_⟩
 . refine ZJ.mpr ⟨(N.asc.imp Yd).sublist (YR.map _),?_,?_⟩
   . rw[List.Nodup,YO];refine XK (λ{b c} hb hc h e=>?_) ((YO.mp N.asc).sublist YR);refine oeaaa (rH b (fm.mp hb).1 (fm.mp hb).2) λx hx x1 x2 _=>?_;refine oeaaa (rH c (fm.mp hc).1 (fm.mp hc).2) λz hz z1 z2 _=>?_;have:=N.uniq hx hz (x1.trans (e.trans z1.symm));subst this;exact Yd h (x2.symm.trans z2)
   . intro a ha b hb e;refine oea (Zn.mp ha) λx hx bU=>?_;subst bU;refine oea (Zn.mp hb) λz hz cu=>?_;subst cu;refine oeaaa (rH z (fm.mp hz).1 (fm.mp hz).2) λc hc c1 c2 c3=>?_;have:=N.uniq hc (fs.mp hx).1 (c1.trans e.symm);subst this;rw[(fs.mp hx).2] at c3;exact absurd c3 (by decide)
 . rcases Zg.mp hl with hl|hl<;>obtain ⟨x,hx,rfl⟩:=Zn.mp hl
   . exact⟨x,(fs.mp hx).1,rfl⟩
   . obtain ⟨c,hc,c1,_⟩:=rH x (fm.mp hx).1 (fm.mp hx).2;exact⟨c,hc,c1⟩
 . rcases hl with ⟨h1,rfl⟩|⟨h1,h2,rfl⟩
   . exact Zd _ (Zn.mpr ⟨b,fs.mpr ⟨hb,h1⟩,rfl⟩)
   . exact Zi _ (Zn.mpr ⟨b,fm.mpr ⟨hb,kl.mpr ⟨h1,h2⟩⟩,rfl⟩)
 . rcases Zg.mp hl with hl|hl<;>obtain ⟨x,hx,rfl⟩:=Zn.mp hl
   . exact hS x (fs.mp hx).1 _ (.inl ⟨(fs.mp hx).2,rfl⟩)
   . have c:=kl.mp (fm.mp hx).2;exact hS x (fm.mp hx).1 _ (.inr ⟨c.1,c.2,rfl⟩)
noncomputable def wY(P:aI)(R:List Int)(b:ax)(t:Int):Bool:= !R.contains t&&bB P R t != bB P R b.aa
noncomputable def more(P:aI)(R:List Int):List Int:=P.ap.flatMap λb=>b.ag.bf.filter (wY P R b)
theorem uc{t:Int}:t∈more P R↔∃b∈P.ap,t∈b.ag.bf/\t∉R/\bB P R t≠bB P R b.aa:=by
 unfold more wY;rw[Zm];simp only[ZH,XA,Bool.not_eq_true',bne_iff_ne,List.contains_eq_mem,decide_eq_false_iff_not]
theorem BU(N:aL P):([]++more P R).length<big:=Zk (bv λb _=>Zf (ZU _ _) (gi (l:=b.ag))) (ZL (Xq N.cG (by decide)) (show 64*2<big by decide))
theorem uQ(W:Wd Φ γ)(N:aL P)(Y:PR h P)(q:∀a h' R,Ext h h'->h a=none->h' a=some (.list ((af P R).map ch))->dK P R->Q (.ref a) h'):Φ "_law_units" [.ref P.ad] h Q:=by
 refine W.cl rfl rfl ?_;have cG:=N.cG;refine AN W N Y rfl λar h1 e1 n1 f1=>?_;nofun;refine cO W.aV fK ch (λb=>b.aH== "fun") P.ap f1 (λb h2 hb e2 K hK=>?_) (λb h2 hb _ e2 K hK=>?_) λau h2 e2 n2 f2=>?_
 . have bs:=((Y.aS b hb).ext (e1.trans e2)).self;nofun;exact hK h2 e2
 . have bs:=((Y.aS b hb).ext (e1.trans e2)).self;nofun;exact hK h2 e2
 have xU:=e2.at f1;have tc:=e1.trans e2;nofun;refine cO W.aV fK (λb=>V.int b.ag.to) iF P.ap xU (λb h3 hb e3 K hK=>?_) (λb h3 hb _ e3 K hK=>?_) λac h3 e3 n3 f3=>?_
 . have bs:=((Y.aS b hb).ext (tc.trans e3)).self;have ls:=((Y.aS b hb).ext (tc.trans e3)).ag.self;nofun;refine r_and (decide (0<=b.ag.to)) (λ_ K hK=>?_) ?_
   . nofun;exact hK
   . nofun;exact hK h3 e3
 . have bs:=((Y.aS b hb).ext (tc.trans e3)).self;have ls:=((Y.aS b hb).ext (tc.trans e3)).ag.self;nofun;exact hK h3 e3
 have lG:=tc.trans e3;refine r_cat (e3.at f2) f3 ?_ λa4 h4 A4=>?_
 . rw[Za,Za];exact ZI (Zk (ZR (Zf (ZU _ _) (ZI cG)) (Zf (ZU _ _) (ZI cG))) (show 64+64<big by decide))
 have XV:List.map ch (P.ap.filter (λb=>b.aH== "fun"))++List.map (λb=>V.int b.ag.to) (P.ap.filter iF)=(fS P).map .int:=by rw[fS,Zq,Zt,Zt];rfl
 rw[XV] at A4;have S0:=uI N;have far:h4 ar=some (.list (P.ap.map fK)):=A4.ext.at (e3.at xU);have na:ar≠a4:=A4.ne (e3.at xU);have n4:=lG.none A4.new;have Z:=bg (A4.im lG) n4;have QG:=aE na far;nofun;rw[Za];refine fj W.aV (ZI (ZL cG (by decide))) (λi ρ h'=>Ext (aG a4 h4) h'/\∃R,h' a4=some (.list (R.map .int))/\mL P R/\(fS P).length+i<=R.length) ⟨aU,_,A4.at,S0,Zs _⟩ ?_ ?_
 . intro i σ h5 hi z_ K hK hr _;refine oaeaa z_ λe5 R f5 S Gp=>?_;have r1:=S.cg.one N;have sl:=S.sub.len N;nofun;intro am h6 A6;have Tv:=A6.ne f5;have Nf:=e5.none A6.new;have e6:=A6.im e5;have f6:=aE Tv (A6.ext.at f5);nofun;refine cw W.aV iL fK P.ap (λb=>b.ag.bf.filter (wY P R b)) e6 Nf (e6.at QG) (ys:=[]) A6.at (λz=>aB Nf QG z) (BU N) (λb σ h7 zs hb E7 X7 g7 hz K7 Q9 _=>?_) λσ h7 E7 X7 g7=>?_
   . nofun;refine xx W ((Y.aS b hb).ext (Z.trans X7)) λal h8 e8 n8 f8=>?_;rw[<-fB] at hz Q9;refine cw W.aV iL V.int b.ag.bf (λt=>if wY P R b t then [t] else []) (E7.trans e8) ao f8 (e8.at g7) (λz=>aB n8 g7 z.symm) (gW hz) (λt σ h9 IO ht E9 X9 g9 TW K9 Y_ _=>?_) λσ h9 E9 X9 g9=>r_done (Q9 _ _ X9 g9);refine oeaa (N.vp b hb t ht) λc hc cY IB=>?_;subst cY;have f9:=X9.at f6;have e9:Ext (aG a4 h4) h9:=(bg e6 Nf).trans X9;have bs:=((Y.aS b hb).ext (Z.trans e9)).self;nofun;refine r_and (bB P R c.aa != bB P R b.aa) (λ_ K hK=>?_) ?_
     . nofun;refine ki W N (Y.ext (Z.trans e9)) r1 f9 hc ?_;nofun;refine ki W N (Y.ext (Z.trans e9)) r1 f9 hb ?_;nofun;exact hK
     refine r_pushM c.aa rfl g9 ao E9 (Zk (ZE _ _) TW) (λK hK=>?_) λio MR IG=>?_
     . nofun;exact hK
     . nofun;exact Y_ _ _ MR IG
   have f7:=E7.at f6;have g7:h7 am=some (.list ((more P R).map .int)):=g7;nofun;refine r_ite (λz=>?_) λz=>?_
   . nofun;refine r_sortl f7 (Zk sl cG) λa8 h8 A8=>?_;refine r_ret_sq (r_retK (hr _ _ _ (q a8 h8 R (Z.trans (A8.im X7)) ((Z.trans X7).none A8.new) ?_ ⟨S.sub,S.cg,λb hb t ht hn=>XC λne=>?_,S.below⟩)))
     . rw[A8.at,gj N S.sub,Zt];rfl
     . have:=uc.mpr ⟨b,hb,ht,hn,ne⟩
       cases e:more P R with
       |nil=>rw[e] at this;cases this
       |cons=>rw[e] at z;cases z
   . have hlen:0<(more P R).length:=by
      cases e:more P R with
      |nil=>rw[e] at z;cases z
      |cons=>exact Nat.succ_pos _
     have lD:i % (more P R).length<(more P R).length:=Nat.mod_lt _ hlen;have hs:dm ((more P R).map V.int) ((i:Int) % ((more P R).length:Int))=some (.int (more P R)[i % (more P R).length]):=by
      rw[show ((i:Int) % ((more P R).length:Int))=((i % (more P R).length:Nat):Int) from rfl];unfold dm;rw[if_pos (Yb _),YZ,ZQ,Zv lD];rfl
     refine oeaaa (uc.mp (Yz lD)) λb hb ht hn ne=>?_
     revert hs ht hn ne
     generalize (more P R)[i % (more P R).length]=t;intro hs ht hn ne;refine oeaa (N.vp b hb t ht) λc hc dT IB=>?_;subst dT;nofun;rw[Za];refine r_mod (Int.natCast_pos.mpr hlen) ?_;refine r_idxl g7 hs ?_;refine r_appi f7 (Zk sl (ZL cG (by decide))) λh8 p=>?_;exact r_done (hK _ _ ⟨p.im X7 ao,ins R c.aa,by rw[p.at,ins,if_neg hn],⟨S.sub.ins hc,S.cg.ins,S.below.step N S.cg hb hc ht hn ne⟩,by rw[xD hn];exact YH Gp⟩)
 . intro σ h5 z_;refine oaeaa z_ λe5 R f5 S Gp=>?_;have h1:=S.sub.len N;have h2:=Xm (S0.cg.one N);exact False.elim ((aj 0x111b010041121321110123330) ((fS P).length) P.ap.length R.length Gp h1 h2)
end
end
section
variable {P:aI}{R S:List Int}
theorem v_(h:∀l,l∈R↔l∈S):jP P R=jP P S:=by
 funext n
 induction n with
 |zero=>rfl
 |succ n ih=>
  funext l;rw[nP,nP,ih]
  by_cases m:l∈R
  . rw[if_pos m,if_pos ((h l).mp m)]
  . rw[if_neg m,if_neg (λz=>m ((h l).mpr z))]
theorem mN(h:∀l,l∈R↔l∈S):bB P R=bB P S:=by funext l;unfold bB;rw[v_ h]
theorem jT(h:∀l,l∈R↔l∈S):(λl=>R.contains l)=λl=>S.contains l:=by
 funext l;rw[Bool.eq_iff_iff];simp[h l]
theorem i8(h:∀l,l∈R↔l∈S)(l:Int):R.contains l=S.contains l:=congrFun (jT h) l
theorem lY(h:∀l,l∈R↔l∈S):bM P R=bM P S:=by funext b;unfold bM;rw[mN h]
theorem mZ(h:∀l,l∈R↔l∈S):bm P R=bm P S:=by funext b;unfold bm;simp only[i8 h]
theorem pO(h:∀l,l∈R↔l∈S):bS R=bS S:=by funext b;unfold bS;rw[jT h]
theorem jQ(h:∀l,l∈R↔l∈S):bF P R=bF P S:=by funext b;unfold bF;rw[lY h,show bZ R=bZ S by funext b;unfold bZ;rw[pO h]]
theorem gA(h:∀l,l∈R↔l∈S):br P R=br P S:=by funext b;unfold br;rw[lY h,show b0 P R=b0 P S by funext b;unfold b0;rw[mZ h]]
theorem pF(h:∀l,l∈R↔l∈S):inner P R=inner P S:=by funext b;unfold inner;rw[lY h,show ct P R=ct P S by funext b;unfold ct;rw[mZ h]]
theorem cD(h:∀l,l∈R↔l∈S):af P R=af P S:=by unfold af;simp only[i8 h]
theorem uV(h:∀l,l∈R↔l∈S){b:ax}{x:Int}(n:bH P R b x):bH P S b x:=by
 induction n with
 |here a c=>exact .here (by rw[<-jQ h];exact a) (by rw[<-gA h];exact c)
 |there a b c d ih=>exact .there (by rw[<-pF h];exact a) (by rw[<-cD h];exact b) ih (by rw[<-gA h];exact d)
theorem vo(h:∀l,l∈R↔l∈S)(c:oF P R):oF P S:=λb hb t ht hn=>by rw[<-mN h];exact c b hb t ht (λz=>hn ((h t).mp z))
theorem pj{l:Int}(s:Sub P R):l∈(af P R).map (·.aa)↔l∈R:=by
 rw[Zn];constructor
 . intro z_;refine oea z_ λb hb nM=>?_;subst nM;exact(ay.mp hb).2
 . intro h;refine oea (s.2 l h) λb hb bU=>?_;subst bU;exact⟨b,ay.mpr ⟨hb,h⟩,rfl⟩
theorem dK.sorted(N:aL P)(x:dK P R):dK P ((af P R).map (·.aa)):=by
 have h:∀l,l∈R↔l∈(af P R).map (·.aa):=λl=>(pj x.sub).symm;refine⟨⟨(c9 N).imp λh=>by exact λcx=>(aj 0x101b1101211011202) _ _ h cx,λl hl=>x.sub.2 l ((h l).mpr hl)⟩,λb hb l hl=>(h l).mp (x.cg b hb l hl),vo h x.closed,λS hS hC l hl=>x.below S hS hC l ((h l).mpr hl)⟩
theorem qT{A B:List Int}(h:∀l,l∈R↔l∈S)(a:∀v,v∈A↔v∈B){F:Int->List Int}(f:gX P R A F):gX P S B F:=by
 refine⟨λb hb=>?_,λb hb x hx hg ha=>?_⟩
 . rw[<-cD h] at hb;exact⟨(f.good b hb).1,λx hx=>⟨uV h ((f.good b hb).2 x hx).1,λz=>((f.good b hb).2 x hx).2 ((a x).mpr z)⟩⟩
 . rw[<-cD h] at hb;refine f.closed b hb x ?_ (by rw[gA h];exact hg) (λz=>ha ((a x).mp z));rw[jQ h,pF h];exact hx
noncomputable def nD(P:aI)(R:List Int)(rb:ax):List ax:=P.ap.filter λb=>bB P R b.aa==rb.aa
theorem gJ(N:aL P)(r1:1∈R){rb b:ax}(hr:rb∈P.ap)(hR:rb.aa∈R):b∈nD P R rb↔b∈bM P R rb:=by
 rw[gK N r1 hr hR];unfold nD;rw[ZH];simp
noncomputable def fI(R:List Int)(b:ax):List Int:=b.aM.flatMap (·.args)++((b.ag.args++[b.ag.fn,b.ag.ae])++(b.ag.bf.filter λt=>R.contains t).map cv)
noncomputable def gy(P:aI)(R:List Int)(b:ax):List Int:=b.params++[b.ae]++(bm P R b.aa).map (λc=>cv c.aa)++b.aM.flatMap λo=>[o.result]++o.bO
noncomputable def fJ(P:aI)(R:List Int)(b:ax):List Int:=(bm P R b.aa).map (·.aa)++b.aM.flatMap (·.aT)
noncomputable def eE(P:aI)(R:List Int)(rb:ax):List Int:=((nD P R rb).flatMap (fI R)).filter λx=>x != -1
noncomputable def mf(P:aI)(R:List Int)(rb:ax):List Int:=(nD P R rb).flatMap (gy P R)
noncomputable def eF(P:aI)(R:List Int)(rb:ax):List Int:=(nD P R rb).flatMap (fJ P R)
theorem BX(N:aL P){rb:ax}:(nD P R rb).length<=64:=ZI (Zk (ZU _ _) N.cG)
theorem dZ{rb b:ax}(h:b∈nD P R rb):b∈P.ap:=(ZH.mp h).1
theorem wL(N:aL P){b:ax}(hb:b∈P.ap):(fI R b).length<=11:=by
 have h0:=N.mG b hb;have h1:=ZU (λt=>R.contains t) b.ag.bf;have h2:=N.dq b hb;have h3:=bv (f:=λo:Op=>o.args) (k:=2) (l:=b.aM) (λo ho=>(N.CR b hb o ho).1);have h4:=ZZ 2 h2;have h5:=gi (l:=b.ag);unfold fI;simp only[Zb,Za,Yn,Yj];exact(aj 0x112111b01110100022012241232021331027413303132111310013550) _ _ _ _ _ h0 h1 h2 h3 h5
theorem wM(N:aL P){b:ax}(hb:b∈P.ap):(gy P R b).length<=75:=by
 have h0:=N.gf b hb;have h2:=N.dq b hb;have h3:=bv (f:=λo:Op=>[o.result]++o.bO) (k:=3) (l:=b.aM) (λo ho=>by have:=(N.CR b hb o ho).2.1;simp;exact(aj 0x112001320013110) _ this);have h4:=ZZ 3 h2;have h5:=eH (R:=R) (l:=b.aa) N;unfold gy;simp only[Zb,Za,Yn,Yj] at*;exact(aj 0x11311004b621311000201222300406313110372133011310013440) _ _ _ _ h0 h2 h3 h5
theorem pH(N:aL P){b:ax}(hb:b∈P.ap):(fJ P R b).length<=70:=by
 have h2:=N.dq b hb;have h3:=bv (f:=λo:Op=>o.aT) (k:=2) (l:=b.aM) (λo ho=>(N.CR b hb o ho).2.2);have h4:=ZZ 2 h2;have h5:=eH (R:=R) (l:=b.aa) N;unfold fJ;simp only[Zb,Za];exact(aj 0x112100466112123004062130102711330013330) _ _ _ h2 h3 h5
theorem kU{f:ax->List Int}(N:aL P){rb:ax}{k:Nat}(h:∀b∈P.ap,(f b).length<=k):((nD P R rb).flatMap f).length<=64*k:=by
 have h1:=bv (f:=f) (k:=k) (l:=nD P R rb) (λb hb=>h b (dZ hb));have h2:=BX (R:=R) (rb:=rb) N;have h3:=ZZ k h2;exact(aj 0x111214040132140411311013230) _ _ _ h1 h3
theorem rR{x v:Int}(hx:x≠ -1)(h:v= -1\/0<=v):x=v↔x∈(if 0<=v then [v] else []):=by
 by_cases k:0<=v
 . rw[if_pos k,Zc]
 . rw[if_neg k];exact⟨λe=>absurd (e.trans (h.resolve_right k)) hx,λe=>nomatch e⟩
theorem po(N:aL P){b:ax}(hb:b∈P.ap){x:Int}(hx:x≠ -1):x∈fI R b↔x∈bZ R b:=by
 refine oaa (N.Da b hb) λh1 h2 _=>?_;unfold fI bZ bS Last.aQ;simp only[Zg,Zp,Yt,or_false];have e1:=rR hx h1;have e2:=rR hx h2;rw[<-e1,<-e2]
theorem pq(N:aL P){b:ax}(hb:b∈P.ap){x:Int}(hx:x≠ -1):x∈gy P R b↔x∈b0 P R b:=by
 refine oaa (N.Da b hb) λ_ _ h3=>?_;unfold gy b0 ax.aC ax.binders;simp only[Zg,Zp,Yt,or_false,Zm];have e1:=rR hx h3;have e2:(∃o∈b.aM,x=o.result\/x∈o.bO)↔∃o∈b.aM,x∈o.aC:=by
  constructor
  . intro z_;refine oea z_ λo ho h=>?_;refine⟨o,ho,?_⟩;refine oaa (N.JN b hb o ho) λk1 k2 k3=>?_;unfold Op.aC
    by_cases w:o.bC="fix"
    . rw[if_pos w];rcases h with h|h
      . rw[k1 w] at h;exact absurd h hx
      . exact h
    . rw[if_neg w];rcases h with h|h
      . rw[if_pos (k3.resolve_left λk=>hx (h.trans k)),h];exact .head _
      . rw[k2 w] at h;simp at h
  . intro z_;refine oea z_ λo ho h=>?_;refine⟨o,ho,?_⟩;unfold Op.aC at h;split at h
    . exact .inr h
    . split at h
      . simp at h;exact .inl h
      . simp at h
 rw[e2,<-e1];constructor
 . rintro (((h|h)|h)|h)
   . exact .inl (.inl (.inl h))
   . exact .inl (.inl (.inr h))
   . exact .inr h
   . exact .inl (.inr h)
 . rintro (((h|h)|h)|h)
   . exact .inl (.inl (.inl h))
   . exact .inl (.inl (.inr h))
   . exact .inr h
   . exact .inl (.inr h)
theorem hG{b:ax}{x:Int}:x∈fJ P R b↔x∈ct P R b:=by
 unfold fJ ct;simp only[Zg];exact Or.comm
theorem jS(N:aL P)(r1:1∈R){rb:ax}(hr:rb∈P.ap)(hR:rb.aa∈R){x:Int}(hx:x≠ -1):x∈eE P R rb↔x∈bF P R rb:=by
 unfold eE bF;simp only[ZH,Zm,bne_iff_ne,ne_eq];constructor
 . intro z_;refine oa z_ λwQ _=>?_;refine oea wQ λb hb h=>?_;try clear wQ
   exact⟨b,(gJ N r1 hr hR).mp hb,(po N (dZ hb) hx).mp h⟩
 . intro z_;refine oea z_ λb hb h=>?_;have cE:=(gJ N r1 hr hR).mpr hb;exact⟨⟨b,cE,(po N (dZ cE) hx).mpr h⟩,hx⟩
theorem qm(N:aL P)(r1:1∈R){rb:ax}(hr:rb∈P.ap)(hR:rb.aa∈R){x:Int}(hx:x≠ -1):x∈mf P R rb↔x∈br P R rb:=by
 unfold mf br;simp only[Zm];constructor
 . intro z_;refine oea z_ λb hb h=>?_;exact⟨b,(gJ N r1 hr hR).mp hb,(pq N (dZ hb) hx).mp h⟩
 . intro z_;refine oea z_ λb hb h=>?_;have cE:=(gJ N r1 hr hR).mpr hb;exact⟨b,cE,(pq N (dZ cE) hx).mpr h⟩
theorem gB(N:aL P)(r1:1∈R){rb:ax}(hr:rb∈P.ap)(hR:rb.aa∈R){x:Int}:x∈eF P R rb↔x∈inner P R rb:=by
 unfold eF inner;simp only[Zm];constructor
 . intro z_;refine oea z_ λb hb h=>?_;exact⟨b,(gJ N r1 hr hR).mp hb,hG.mp h⟩
 . intro z_;refine oea z_ λb hb h=>?_;exact⟨b,(gJ N r1 hr hR).mpr hb,hG.mpr h⟩
theorem l_(N:aL P){b:ax}(hb:b∈P.ap){t:Int}(h:t∈ct P R b):∃c∈P.ap,c.aa=t/\c.aw=b.aa:=by
 rcases Zg.mp h with h|h
 . refine oea (Zm.mp h) λo ho h=>?_;exact N.lpar b hb o ho t h
 . refine oea (Zn.mp h) λc hc cu=>?_;subst cu;refine oa (ZH.mp hc) λh1 h2=>?_;simp at h2;exact⟨c,h1,rfl,h2.2.2⟩
theorem i6{α β:Type}{f:α->List β}:∀{l:List α},(∀x∈l,(f x).Nodup)->l.Pairwise (λx y=>∀a∈f x,a∉f y)->(l.flatMap f).Nodup
 |[],_,_=>by simp
 |x::l,h,p=>by
  rw[YF] at p;rw[ZK,ZJ];refine⟨h x Ze,i6 (λy hy=>h y (Zh _ hy)) p.2,λa ha b hb e=>?_⟩;subst e;refine oea (Zm.mp hb) λy hy hb=>?_;exact p.1 y hy a ha hb
theorem nF(N:aL P){rb:ax}:(eF P R rb).Nodup:=by
 refine i6 (λb hb=>?_) ?_
 . have cE:=dZ hb;unfold fJ;rw[ZJ];refine⟨?_,N.Cz b cE,λa ha c hc e=>?_⟩
   . exact((N.asc.imp λh=>by exact λcx=>(aj 0x101b1101211011202) _ _ h cx:(P.ap.map (·.aa)).Nodup)).sublist (YR.map _)
   . subst e;refine oea (Zn.mp ha) λx hx cY=>?_;subst cY;refine oa (ZH.mp hx) λh1 h2=>?_;simp at h2;refine oea (Zm.mp hc) λo ho h=>?_;refine oeaa (N.rest b cE o ho _ h) λz hz e s=>?_;have:=N.uniq h1 hz e.symm;subst this;rw[h2.2.1] at s;exact absurd s (by decide)
 . have:(nD P R rb).Pairwise (λb c=>b.aa<c.aa):=(YO.mp N.asc).sublist YR;refine XK (λ{b c} hb hc h a ha ip=>?_) this;refine oeaa (l_ N (dZ hb) (hG.mp ha)) λx hx e1 e2=>?_;refine oeaa (l_ N (dZ hc) (hG.mp ip)) λz hz e3 e4=>?_;have:=N.uniq hx hz (by rw[e1,e3]);subst this;exact(aj 0x10011b112120121211011303) _ _ _ h e2 e4
theorem t0(N:aL P){rb:ax}(hr:rb∈P.ap){x:Int}(h:x∈bF P R rb):x≠ -1:=by
 refine oea (Zm.mp h) λb hb h=>?_;have cE:=cq hr hb;refine oa (N.J9 b cE) λa1 a2=>?_;unfold bZ bS Last.aQ at h;simp only[Zg,Zm,Zn,ZH] at h;rcases h with ⟨o,ho,h⟩|((h|(h|h))|⟨t,⟨ht,_⟩,rfl⟩)
 . have:=a1 o ho x h;exact λcx=>(aj 0x11b1901201000201) _ this cx
 . have:=a2 x h;exact λcx=>(aj 0x11b1901201000201) _ this cx
 . split at h
   . simp at h;(rename_i jF;exact λcx=>(aj 0x10110b110001901211012302) x b.ag.fn h cx jF)
   . simp at h
 . split at h
   . simp at h;(rename_i jF;exact λcx=>(aj 0x10110b110001901211012302) x b.ag.ae h cx jF)
   . simp at h
 . refine oeaa (N.vp b cE t ht) λc hc dT _=>?_;subst dT;have:=N.pos c hc;unfold cv;exact λcx=>(aj 0x101b1920010033201100201) _ this cx
end
section
section
variable {Φ:Calls}{γ:String->Option V}{h:Hp}{Q:V->Hp->Prop}{P:aI}{R:List Int}
theorem mP:(P.ap.flatMap λb=>b.aM.flatMap λo=>if aK o then [o.result] else [])=simple P:=by
 rw[simple,aI.aM,VD,WZ]
 congr 1
 funext b
 induction b.aM with
 |nil=>rfl
 |cons o l ih=>rw[ZK,ih,Wm];split<;>rfl
theorem kY(W:Wd Φ γ)(N:aL P)(Y:PR h P)(q:∀a h',Ext h h'->h a=none->h' a=some (.list ((bD (simple P)).map .int))->Q (.ref a) h'):Φ "_law_simple" [.ref P.ad] h Q:=by
 refine W.cl rfl rfl ?_;have ps:=Y.self;nofun;intro a h1 A;have E1:=A.ext;nofun;refine fL W N (Y.ext E1) λc h2 e2 n2 f2=>?_;have Z:=bg (E1.trans e2) A.new;refine cw W.aV iL ch P.ap (λb=>b.aM.flatMap λo=>if aK o then [o.result] else []) (ys:=[]) (E1.trans e2) A.new f2 (e2.at A.at) (λz=>aB n2 A.at z.symm) (by rw[mP];exact ZL N.yu (by decide)) (λb σ h3 zs hb E3 X g3 hz K hK hr=>?_) λσ h3 E3 X g3=>?_
 . have B:=Y.aS b hb;have bs:=B.self;nofun;refine cw W.aV iL (λo:Op=>.ref o.ad) b.aM (λo=>if aK o then [o.result] else []) E3 ao (X.at B.aM) g3 (λz=>aB A.new B.aM z) (gW hz) (λo σ h4 IO ho E4 X4 g4 Fg K4 CH I8=>?_) λσ h4 E4 X4 g4=>r_done (hK _ _ X4 g4);have O:=(B.op o ho).ext (Z.trans X4);have os:=O.self;nofun;refine r_and (!o.pair) (λw K hK=>?_) ?_
   . have dat:=O.dat (beq_iff_eq.mp w)
     cases hp:o.pair with
     |true=>
      rw[hp] at dat hK;refine oeea dat λz fs ez fz=>?_;try clear dat
      nofun;rw[ez];nofun;exact hK
     |false=>
      rw[hp] at dat hK;nofun;rcases dat with ez|ez|⟨z,ez,fz⟩<;>rw[ez]<;>nofun<;>exact hK
   refine r_pushM o.result (t:=aK o) rfl g4 ao E4 (Zk (ZE _ _) Fg) (λK hK=>?_) λh5 E5 g5=>?_
   . nofun;exact hK
   . nofun;exact CH _ _ E5 g5
 . rw[XN,mP] at g3;nofun;refine r_sortl g3 N.yu λa4 h4 A4=>?_;nofun;exact q _ _ (X.trans A4.ext) (X.none A4.new) A4.at
structure gG where
 (aS:ax) (a r g m:Nat)
structure mM(P:aI)(R:List Int)(h:Hp)(w:gG):Prop where
 a:h w.a=some (.list [.ref w.r,.ref w.g,.ref w.m])
 r:h w.r=some (.list ((eE P R w.aS).map .int))
 g:h w.g=some (.list ((mf P R w.aS).map .int))
 m:h w.m=some (.list ((eF P R w.aS).map .int))
theorem mM.ext{h':Hp}{w:gG}(x:mM P R h w)(e:Ext h h'):mM P R h' w:=⟨e.at x.a,e.at x.r,e.at x.g,e.at x.m⟩
noncomputable def fe(ws:List gG):List (Int×V):=ws.map λw=>(w.aS.aa,.ref w.a)
theorem hJ{ws:List gG}:(fe ws).map (·.1)=(ws.map (·.aS)).map (·.aa):=by rw[fe,Zt,Zt];rfl
theorem qU{ws:List gG}(N:aL P)(e:ws.map (·.aS)=af P R){w:gG}(hw:w∈ws):(fe ws).lookup w.aS.aa=some (.ref w.a):=
 cW (p:=(w.aS.aa,V.ref w.a)) (by rw[hJ,e];exact gI N) (Zn.mpr ⟨w,hw,rfl⟩)
theorem xF{ds:List gG}(e:ds.map (·.aS)=af P R){b:ax}(hb:b∈af P R):∃w∈ds,w.aS=b:=Zn.mp (e▸hb)
theorem ut{ds:List gG}(e:ds.map (·.aS)=af P R){w:gG}(hw:w∈ds):w.aS∈af P R:=e▸ZG hw
structure C8(h:Hp)(ρ:Lo)(n:String)(l:List Int):Prop where
 ex:∃a,ρ n=some (.ref a)/\h a=some (iL l)
theorem jf{α:Type}{f:α->List Int}{d r xs:List α}{x:α}{n:Nat}(e:d++x::r=xs)(h:(xs.flatMap f).length<n):(d.flatMap f).length+(f x).length<n:=by
 rw[<-e,Zx,ZK,Zb,Zb] at h;exact Zk (ZO (ZE _ _) _) h
theorem ix{α:Type}{z l m:List α}{n:Nat}(h:z.length+(l++m).length<n):(z++l).length+m.length<n:=by
 rwa [Zb,Yr,<-Zb]
structure FB(P:aI)(R:List Int)(j:Hp)(d:List ax)(ρ:Lo)(h':Hp):Prop where
 ext:Ext j h'
 r:C8 h' ρ "reads" (d.flatMap (fI R))
 g:C8 h' ρ "gives" (d.flatMap (gy P R))
 m:C8 h' ρ "makes" (d.flatMap (fJ P R))
structure FF(P:aI)(R:List Int)(a:Nat)(j:Hp)(ws:List gG)(h':Hp):Prop where
 ext:Ext j (aG a h')
 fd:h' a=some (.dict (fe ws))
 row:∀w∈ws,mM P R (aG a h') w
theorem fy{a:Nat}{h1:Hp}(e:Ext h h1):Ext (aG a h) (aG a h1):=bg (aU.trans e) ao
theorem iO{a:Nat}{o:O}{h1:Hp}(p:Put h a o h1):aG a h1=aG a h:=funext λx=>by
 by_cases z:x=a
 . rw[z,ao,ao]
 . rw[hide_ne z,hide_ne z,p.ne z]
theorem mV(W:Wd Φ γ)(N:aL P)(Y:PR h P)(LR:dK P R)(hR:R=(af P R).map (·.aa)){u:Nat}(hu:h u=some (.list (R.map .int)))
 (q:∀a h' ws,Ext h h'->h a=none->ws.map gG.aS=af P R->h' a=some (.dict (fe ws))->(∀w∈ws,mM P R h' w)->Q (.ref a) h'):Φ "_law_facts" [.ref P.ad,.ref u] h Q:=by
 refine W.cl rfl rfl ?_;have cG:=N.cG;have r1:=LR.cg.one N;have Q8:h u=some (.list ((af P R).map ch)):=by rw[hu,hR];rw[Zt,<-hR];rfl
 refine AN W N Y rfl λar h1 e1 n1 f1=>?_;nofun;intro fd h2 A2;have E2:=A2.im e1;have n2:=e1.none A2.new;have Z:=bg E2 n2;have QD:aG fd h2 ar=some (.list (P.ap.map fK)):=aE (A2.ne f1) (A2.ext.at f1);have CD:=Z.at hu;nofun;refine bN W.aV ch (af P R) (λd ρ h'=>∃ws,ws.map gG.aS=d/\FF P R fd (aG fd h2) ws h') (E2.at Q8) ⟨[],rfl,.refl,A2.at,λ_ z=>nomatch z⟩ (λd ρ h' lE=>oea lE λws _ I=>(I.ext.trans aU).at (Z.at Q8)) ?_ ?_
 . intro d rb rr σ h4 hd lC z_ K hK _;refine oea z_ λws eq I=>?_;have X4:=I.ext.trans aU;have f4:=I.fd;have Q0:=Zk (kU (f:=fI R) (rb:=rb) (R:=R) N (λb hb=>wL (R:=R) N hb)) (show 64*11<big by decide);have QZ:=Zk (kU (f:=gy P R) (rb:=rb) (R:=R) N (λb hb=>wM (R:=R) N hb)) (show 64*75<big by decide);have QY:=Zk (kU (f:=fJ P R) (rb:=rb) (R:=R) N (λb hb=>pH (R:=R) N hb)) (show 64*70<big by decide);have nb:rb.aa∉(ws.map (·.aS)).map (·.aa):=by
    have:=gI (R:=R) N;rw[<-hd,Zq,Zw] at this;rw[eq];exact λm=>(ZJ.mp this).2.2 _ m _ Ze rfl
   nofun;intro a5 h5 A5;nofun;intro a6 h6 A6;nofun;intro a7 h7 A7;have Er:=A5.ext.trans (A6.ext.trans A7.ext);have X7:=X4.trans Er;nofun;refine cO W.aV fK fK (λb=>bB P R b.aa==rb.aa) P.ap (X7.at QD) (λb h8 hb e8 K hK=>?_) (λb h8 hb _ e8 K hK=>?_) λam h8 e8 n8 f8=>?_
   . have X8:=X7.trans e8;have bs:=((Y.aS b hb).ext (Z.trans X8)).self;nofun;refine ki W N (Y.ext (Z.trans X8)) r1 (X8.at CD) hb ?_;nofun;exact hK h8 e8
   . nofun;exact hK h8 e8
   have Fy:=Er.trans e8;refine bN W.aV fK (nD P R rb) (FB P R h8) f8 ⟨.refl,⟨a5,rfl,(A6.ext.trans (A7.ext.trans e8)).at A5.at⟩,⟨a6,rfl,(A7.ext.trans e8).at A6.at⟩,⟨a7,rfl,e8.at A7.at⟩⟩ (λd ρ h' I=>I.ext.at f8) ?_ ?_
   . rintro d2 b IV σ h9 hd2 hb J K2 q8 -;have cE:=dZ hb;have X9:=X7.trans (e8.trans J.ext);have B:=Y.aS b cE;have bs:=B.self;have ls:=B.ag.self;have bp:=B.params;have bo:=B.aM;have la:=B.ag.args;have z1:(d2.flatMap (fI R)).length+(b.aM.flatMap (·.args)++((b.ag.args++[b.ag.fn,b.ag.ae])++(b.ag.bf.filter λt=>R.contains t).map cv)).length<big:=jf hd2 Q0;have z2:(d2.flatMap (gy P R)).length+(b.params++[b.ae]++(bm P R b.aa).map (λc=>cv c.aa)++b.aM.flatMap (λo=>[o.result]++o.bO)).length<big:=jf hd2 QZ;have z3:(d2.flatMap (fJ P R)).length+((bm P R b.aa).map (·.aa)++b.aM.flatMap (·.aT)).length<big:=jf hd2 QY;have fin:∀ρ h',Ext h9 h'->C8 h' ρ "reads" (d2.flatMap (fI R)++(b.aM.flatMap (·.args)++((b.ag.args++[b.ag.fn,b.ag.ae])++(b.ag.bf.filter λt=>R.contains t).map cv)))->C8 h' ρ "gives" (d2.flatMap (gy P R)++(b.params++[b.ae]++(bm P R b.aa).map (λc=>cv c.aa)++b.aM.flatMap (λo=>[o.result]++o.bO)))->C8 h' ρ "makes" (d2.flatMap (fJ P R)++((bm P R b.aa).map (·.aa)++b.aM.flatMap (·.aT)))->K2 .next ρ [] h':=λρ h' e x y z=>q8 _ _ ⟨J.ext.trans e,by rw[Zx,ZK,Yc,Zu];exact x,by rw[Zx,ZK,Yc,Zu];exact y,by rw[Zx,ZK,Yc,Zu];exact z⟩
     refine o J.r λbU=>?_;obtain ⟨ya,lr,gr⟩:=bU;refine o J.g λcu=>?_;obtain ⟨yb,lg,gg⟩:=cu;refine o J.m λcY=>?_;obtain ⟨yc,lm,gm⟩:=cY;clear Q0 QZ QY q8
     revert z1 z2 z3 fin gr gg gm
     generalize d2.flatMap (fI R)=D1;generalize d2.flatMap (gy P R)=D2;generalize d2.flatMap (fJ P R)=D3;intro z1 z2 z3 fin gr gg gm;have Pf:=X9.at QD;nofun;refine cO W.aV fK ch (λc=>R.contains c.aa&&(c.aH== "cont"&&c.aw==b.aa)) P.ap Pf (λc io hc jG K hK=>?_) (λc io hc _ jG K hK=>?_) λyd io jG Mb IG=>?_
     . have wU:=X9.trans jG;have cs:=((Y.aS c hc).ext (Z.trans wU)).self;have bs:=(B.ext (Z.trans wU)).self;have vt:=wU.at CD;nofun;refine r_and (c.aH== "cont"&&c.aw==b.aa) (λ_ K hK=>?_) ?_
       . nofun;refine r_and (c.aw==b.aa) (λ_ K hK=>?_) ?_
         . nofun;exact hK
         . nofun;exact hK
       . nofun;exact hK io jG
     . have cs:=((Y.aS c hc).ext (Z.trans (X9.trans jG))).self;nofun;exact hK io jG
     have wU:=X9.trans jG;have PS:=(B.ext (Z.trans wU)).self;nofun;refine r_cati (jG.at gg) ((Z.trans wU).at bp) (ZI (jH (jH (jH z2)))) λa11 s_ hZ=>?_;have bs11:=hZ.ext.at PS;nofun;intro a12 q9 CN;refine r_cati (l:=D2++b.params) (m:=[b.ae]) (CN.ext.at hZ.at) CN.at (ZI (ix (jH (jH z2)))) λa13 Ep zV=>?_;have lG:=hZ.ext.trans (CN.ext.trans zV.ext);nofun;refine comp_map W.aV ch (λc=>V.int (cv c.aa)) (bm P R b.aa) (lG.at IG) (λc zE hc xV K hK=>?_) λa14 zE xV L_ NO=>?_
     . nofun;exact hK zE xV
     have NO:zE a14=some (iL ((bm P R b.aa).map λc=>cv c.aa)):=by rw[NO,iL,Zt];rfl
     refine r_cati (xV.at zV.at) NO (ZI (by rw[Zo];exact ix (jH z2))) λa15 NN R7=>?_;have qA:=lG.trans (xV.trans R7.ext);have Pv:io yd=some (iL ((bm P R b.aa).map (·.aa))):=by rw[IG,iL,Zt];rfl
     nofun;refine r_cati ((jG.trans qA).at gm) (qA.at Pv) (ZI (jH z3)) λa16 Rd Ou=>?_;have Jr:=jG.trans (qA.trans Ou.ext);have Jt:=X9.trans Jr;have bs16:=(B.ext (Z.trans Jt)).self;nofun;refine bN W.aV (λo:Op=>.ref o.ad) b.aM (λd3 ρ h'=>Ext Rd h'/\C8 h' ρ "reads" (D1++d3.flatMap (·.args))/\C8 h' ρ "gives" (D2++(b.params++[b.ae]++(bm P R b.aa).map (λc=>cv c.aa))++d3.flatMap (λo=>[o.result]++o.bO))/\C8 h' ρ "makes" (D3++(bm P R b.aa).map (·.aa)++d3.flatMap (·.aT))) ((Z.trans Jt).at bo)
      ⟨.refl,⟨ya,lr,by rw[Yc,Zu];exact Jr.at gr⟩,⟨a15,rfl,by rw[Yc,Zu,<-Zo,<-Zo];exact Ou.ext.at R7.at⟩,⟨a16,rfl,by rw[Yc,Zu];exact Ou.at⟩⟩ (λd ρ h' I=>I.1.at ((Z.trans Jt).at bo)) ?_ ?_
     . intro d3 o P_ σ h17 Fq ho z_ K3 Em _;refine oaaa z_ λJq nM wQ Sm=>?_;obtain ⟨⟨yr,lr,gr⟩⟩:=nM;obtain ⟨⟨yg,lg,gg⟩⟩:=wQ;obtain ⟨⟨ym,lm,gm⟩⟩:=Sm;have OO:=(B.op o ho).ext (Z.trans (Jt.trans Jq));have os:=OO.self;have y1:=jf (n:=big - D1.length) Fq (f:=λo:Op=>o.args) (YB.mpr (jH z1));have y2:=jf (n:=big - (D2++(b.params++[b.ae]++(bm P R b.aa).map (λc=>cv c.aa))).length) Fq (f:=λo:Op=>[o.result]++o.bO) (YB.mpr (ix z2));have y3:=jf (n:=big - (D3++(bm P R b.aa).map (·.aa)).length) Fq (f:=λo:Op=>o.aT) (YB.mpr (ix z3));have y1:=ix (by rw[<-Zb] at y1;exact YB.mp y1);have y2:=ix (by rw[<-Zb] at y2;exact YB.mp y2);have y3:=ix (by rw[<-Zb] at y3;exact YB.mp y3);nofun;refine r_cati gr OO.args (ZI y1) λb1 j1 B1=>?_;have os:=B1.ext.at os;nofun;refine r_cati (B1.ext.at gm) (B1.ext.at OO.aT) (ZI y3) λb2 j2 B2=>?_;have os:=B2.ext.at os;nofun;intro b3 j3 B3;have os:=B3.ext.at os;have k3:=B1.ext.trans (B2.ext.trans B3.ext);refine r_cati (m:=[o.result]) (k3.at gg) B3.at (ZI (jH y2)) λb4 j4 B4=>?_;have os:=B4.ext.at os;nofun;refine r_cati B4.at ((k3.trans B4.ext).at OO.bO) (ZI (ix y2)) λb5 j5 B5=>?_;have k5:=k3.trans (B4.ext.trans B5.ext);nofun;have fl:∀(f:Op->List Int),(d3++[o]).flatMap f=d3.flatMap f++f o:=λf=>by rw[Zx,ZK,Yc,Zu]
       refine r_done (Em _ _ ⟨Jq.trans k5,⟨b1,rfl,?_⟩,⟨b5,rfl,?_⟩,⟨b2,rfl,?_⟩⟩)
       . rw[fl,<-Zo];exact(B2.ext.trans (B3.ext.trans (B4.ext.trans B5.ext))).at B1.at
       . rw[fl,<-Zo,<-Zo];exact B5.at
       . rw[fl,<-Zo];exact(B3.ext.trans (B4.ext.trans B5.ext)).at B2.at
     . intro σ h17 z_;refine oaaa z_ λJq Sl Sk Sj=>?_;obtain ⟨⟨yr,lr,gr⟩⟩:=Sl;obtain ⟨⟨yg,lg,gg⟩⟩:=Sk;obtain ⟨⟨ym,lm,gm⟩⟩:=Sj;have RK:=Jt.trans Jq;have BB:=B.ext (Z.trans RK);have bs:=BB.self;have ls:=BB.ag.self;have x1:=ix z1;nofun;refine r_cati gr BB.ag.args (ZI (jH (jH x1))) λb1 j1 B1=>?_;have bs:=B1.ext.at bs;have ls:=B1.ext.at ls;nofun;intro b2 j2 B2;refine r_cati (m:=[b.ag.fn,b.ag.ae]) (B2.ext.at B1.at) B2.at (ZI (ix (jH x1))) λb3 j3 B3=>?_;have k3:=B1.ext.trans (B2.ext.trans B3.ext);nofun;refine xx W (BB.ext k3) λal j4 e4 n4 g4=>?_;refine cO W.aV V.int (λt=>V.int (cv t)) (λt=>R.contains t) b.ag.bf g4 (λt j5 ht e5 K hK=>?_) (λt j5 ht _ e5 K hK=>?_) λb5 j5 e5 n5 g5=>?_
       . have vt:=(RK.trans (k3.trans (e4.trans e5))).at CD;nofun;exact hK j5 e5
       . nofun;exact hK j5 e5
       have g5:j5 b5=some (iL ((b.ag.bf.filter λt=>R.contains t).map cv)):=by rw[g5,iL,Zt];rfl
       refine r_cati ((e4.trans e5).at B3.at) g5 (ZI (by rw[Zo];exact ix x1)) λb6 j6 B6=>?_;have k6:=k3.trans (e4.trans (e5.trans B6.ext));nofun;refine r_done (fin _ _ (Jr.trans (Jq.trans k6)) ⟨b6,rfl,?_⟩ ⟨yg,lg,?_⟩ ⟨ym,lm,?_⟩)
       . rw[<-Zo,<-Zo,<-Zo];exact B6.at
       . rw[<-Zo];exact k6.at gg
       . rw[<-Zo];exact k6.at gm
   . rintro σ h9 ⟨E9,⟨⟨ya,lr,gr⟩⟩,⟨⟨yb,lg,gg⟩⟩,⟨⟨yc,lm,gm⟩⟩⟩;have MH:=Fy.trans E9;nofun;refine cO W.aV V.int V.int (λx=>x != -1) ((nD P R rb).flatMap (fI R)) gr (λx io hx jG K hK=>?_) (λx io hx _ jG K hK=>?_) λyd io jG Mb IG=>?_
     . nofun;exact hK io jG
     . nofun;exact hK io jG
     nofun;intro ye s_ hZ;have GC:=MH.trans (jG.trans hZ.ext);have f11:=GC.at f4;nofun;refine r_setId f11 ?_ λq9 p=>?_
     . have h1:=congrArg List.length hd;rw[<-eq,Zb,Za] at h1;rw[fe,Za];exact Zk (h1▸ZE _ _) (ZL (dI N) (by decide))
     have out:∀x o,h4 x=none\/x≠fd->s_ x=some o->aG fd q9 x=some o:=λx o n e=>by
      have ne:x≠fd:=n.elim (λn z=>by rw[z,f4] at n;cases n) id;rw[iO p,aE ne e]
     have n9:∀x o,h9 x=some o->x≠fd->aG fd q9 x=some o:=λx o e n=>out x o (.inr n) ((jG.trans hZ.ext).at e);have f9:=MH.at f4;have ne1:∀{x l},h9 x=some (iL l)->x≠fd:=λe z=>by rw[z,f9] at e;cases e
     refine r_done (hK _ _ ⟨ws++[⟨rb,ye,yd,yb,yc⟩],by rw[Zq,eq];rfl,?_,?_,λw hw=>?_⟩)
     . rw[iO p];exact I.ext.trans (fy GC)
     . rw[p.at,iM (by rw[hJ];exact nb),fe,fe,Zq];rfl
     . rcases Zg.mp hw with hw|hw
       . rw[iO p];exact(I.row w hw).ext (fy GC)
       . rw[Zc.mp hw];exact⟨out _ _ (.inl ((MH.trans jG).none hZ.new)) hZ.at,out _ _ (.inl (MH.none Mb)) (hZ.ext.at IG),n9 _ _ gg (ne1 gg),n9 _ _ gm (ne1 gm)⟩
 . intro σ h4 z_;refine oea z_ λws eq I=>?_;nofun;exact q fd h4 ws (Z.trans (I.ext.trans aU)) n2 eq I.fd λw hw=>(I.row w hw).ext aU
end
end
section
section
variable {Φ:Calls}{γ:String->Option V}{h:Hp}{Q:V->Hp->Prop}{P:aI}{R:List Int}
structure rL(P:aI)(R:List Int)(h:Hp)(fd:Nat)(ws:List gG):Prop where
 eq:ws.map gG.aS=af P R
 d:h fd=some (.dict (fe ws))\/h fd=some (.er (fe ws))
 rows:∀w∈ws,mM P R h w
theorem rL.ext{h':Hp}{fd:Nat}{ws:List gG}(x:rL P R h fd ws)(e:Ext h h'):rL P R h' fd ws:=
 ⟨x.eq,x.d.imp e.at e.at,λw hw=>(x.rows w hw).ext e⟩
theorem pf{rb:ax}{x:Int}(n:bH P R rb x):x∉br P R rb/\(x∈bF P R rb\/∃c∈af P R,c.aa∈inner P R rb/\bH P R c x):=by
 cases n with
 |here a b=>exact⟨b,.inl a⟩
 |there a b c d=>exact⟨d,.inr ⟨_,b,a,c⟩⟩
theorem xL{p:ax->Prop}:∀{l:List Int},(∀t∈l,∃c,p c/\c.aa=t)->∃cs:List ax,(∀c∈cs,p c)/\cs.map (·.aa)=l
 |[],_=>⟨[],λ_ z=>(nomatch z),rfl⟩
 |t::l,hl=>by
  refine oea (xL (l:=l) λt ht=>hl t (Zh _ ht)) λcs h1 h2=>?_;refine oea (hl t Ze) λc hc e=>?_;exact⟨c::cs,λd hd=>(Zp.mp hd).elim (λz=>z▸hc) (h1 d),by rw[Zw,e,h2]⟩
structure Met(P:aI)(R:List Int)(rb:ax)(x:Int)(i:Nat)(ms:List ax):Prop where
 has:rb∈ms
 nd:(ms.map (·.aa)).Nodup
 ok:∀m∈ms,m∈af P R/\(bH P R m x->bH P R rb x)
 done:∀(k:Nat) m,k<i->ms[k]?=some m->x∈br P R m\/(x∉bF P R m/\∀c∈af P R,c.aa∈inner P R m->c∈ms)
theorem Met.len{rb:ax}{x:Int}{i:Nat}{ms:List ax}(M:Met P R rb x i ms):ms.length<=(af P R).length:=by
 have:=dy (m:=(af P R).map (·.aa)) M.nd λy hy=>by refine oea (Zn.mp hy) λb hb bU=>?_;subst bU;exact ZG (M.ok b hb).1
 rwa [Za,Za] at this
theorem Met.step{rb:ax}{x:Int}{i:Nat}{ms cs:List ax}(M:Met P R rb x i ms)(nd:((ms++cs).map (·.aa)).Nodup)(ok:∀m∈cs,m∈af P R/\(bH P R m x->bH P R rb x))
 (now:∀m,ms[i]?=some m->x∈br P R m\/(x∉bF P R m/\∀c∈af P R,c.aa∈inner P R m->c∈ms++cs)) (hc:i<ms.length\/cs=[]):Met P R rb x (i+1) (ms++cs):=by
 refine⟨Zd _ M.has,nd,λm hm=>(Zg.mp hm).elim (M.ok m) (ok m),λk m hk hm=>?_⟩;have e:ms[k]?=some m:=by
  rcases hc with hc|rfl
  . rwa [Yu (Zk (XY hk) hc)] at hm
  . rwa [Zu] at hm
 rcases Nat.lt_or_eq_of_le (XY hk) with z|z
 . exact(M.done k m z e).imp id λw=>⟨w.1,λc h1 h2=>Zd _ (w.2 c h1 h2)⟩
 . exact now m (z▸e)
theorem Met.end{rb:ax}{x:Int}{i:Nat}{ms:List ax}(M:Met P R rb x i ms)(hi:ms.length<=i):¬ bH P R rb x:=by
 have all:∀m∈ms,x∈br P R m\/(x∉bF P R m/\∀c∈af P R,c.aa∈inner P R m->c∈ms):=λm hm=>by
  obtain ⟨k,hk,e⟩:=YL.mp hm;exact M.done k m (Nat.lt_of_lt_of_le hk hi) (by rw[Zv hk,e])
 have none:∀{m y},bH P R m y->y=x->m∉ms:=λ{m y} n=>by
  induction n with
  |here a b=>rintro rfl hm;rcases all _ hm with z|⟨z,_⟩;exact b z;exact z a
  |there a b c d ih=>rintro rfl hm;rcases all _ hm with z|⟨_,z⟩;exact d z;exact ih rfl (z _ b a)
 exact λn=>none n rfl M.has
theorem uS(W:Wd Φ γ)(N:aL P)(LR:dK P R){fd:Nat}{ws:List gG}(FR:rL P R h fd ws){rb:ax}(lC:rb∈af P R){x:Int}(hx:x≠ -1)
 (q:∀h' b,Ext h h'->(b=true↔bH P R rb x)->Q (.bool b) h'):Φ "_law_is_needed" [.ref fd,.int rb.aa,.int x] h Q:=by
 refine W.cl rfl rfl ?_;have r1:=LR.cg.one N;have rl:=dI (R:=R) N;have wl:(fe ws).length=(af P R).length:=by rw[<-FR.eq,fe,Za,Za]
 nofun;intro m0 h1 A1;have RU:=FR.ext A1.ext;nofun;refine r_lenD RU.d ?_;rw[wl];refine fj W.aV (ZI (ZL rl (by decide))) (λi ρ h'=>Ext h1 h'/\∃am,∃ms:List ax,ρ "met"=some (.ref am)/\h' am=some (.list (ms.map ch))/\Met P R rb x i ms)
  ⟨.refl,m0,[rb],rfl,A1.at,Ze,Z5 _ _,λm hm=>by rw[Zc.mp hm];exact⟨lC,id⟩,λk m hk=>absurd hk (Uo _)⟩ ?_ ?_
 . intro i σ h2 hi z_ K hK hr _;refine oaeeaa z_ λe2 am ms l3 f2 M=>?_;have RT:=RU.ext e2;have ml:=M.len;nofun;rw[Za];refine r_dec (λlD=>?_) λlD=>?_
   . have lD:=YT.mp lD;have e0:ms[i]?=some ms[i]:=Zv lD;have hm:=M.ok ms[i] (Yz _);refine oea (xF FR.eq hm.1) λw hw ew=>?_;have QP:dm (ms.map ch) (i:Int)=some (.int ms[i].aa):=by
      unfold dm;rw[if_pos (Yb _),YZ,ZQ,e0];rfl
     have lk:=qU N FR.eq hw;have F:=RT.rows w hw
     revert hm e0 ew QP
     generalize ms[i]=m;rintro e0 hm rfl QP;have CU:=(ay.mp hm.1).1;have Je:=(ay.mp hm.1).2;have wr:=F.r;have wg:=F.g;have g1:=jS N r1 CU Je hx;have g2:=qm N r1 CU Je hx;nofun;refine r_idxD RT.d lk (r_unpl rfl rfl F.a ?_);nofun;refine r_ite (λc1=>?_) λc1=>?_
     . have c1:x∉br P R w.aS:=λz=>jZ (nt c1) (g2.mpr z);nofun;refine r_ite (λc2=>?_) λc2=>?_
       . nofun;exact r_retK (hr _ _ _ (q _ _ (A1.ext.trans e2) ⟨λ_=>hm.2 (.here (g1.mp (ii c2)) c1),λ_=>rfl⟩))
       . have c2:x∉bF P R w.aS:=λz=>jZ c2 (g1.mpr z);have wm:=F.m;nofun;refine cO W.aV V.int V.int (λt=> !(ms.map (·.aa)).contains t) (eF P R w.aS) wm (λt h3 ht e3 K hK=>?_) (λt h3 ht _ e3 K hK=>?_) λa3 h3 e3 n3 f3=>?_
         . have f3:h3 am=some (iL (ms.map (·.aa))):=by rw[iL,Zt];exact e3.at f2
           nofun;exact hK h3 e3
         . nofun;exact hK h3 e3
         have Rk:h3 am=some (iL (ms.map (·.aa))):=by rw[iL,Zt];exact e3.at f2
         refine r_cati Rk (m:=(eF P R w.aS).filter λt=> !(ms.map (·.aa)).contains t) f3 ?_ λa4 h4 A4=>?_
         . rw[Za];exact ZI (Zk (ZR (Zf ml (ZI rl)) (Zf (ZU _ _) (kU N λb hb=>pH N hb))) (show 64+64*70<big by decide))
         refine oea (xL (p:=(· ∈af P R)) (l:=(eF P R w.aS).filter λt=> !(ms.map (·.aa)).contains t) λt ht=>fW N LR.cg CU ((gB N r1 CU Je).mp (ZH.mp ht).1)) λcs IB hcl=>?_;nofun;refine r_done (hK _ _ ⟨(e2.trans e3).trans A4.ext,a4,ms++cs,rfl,?_,M.step ?_ (λm CF=>⟨IB m CF,λn=>hm.2 (.there ?_ (IB m CF) n c1)⟩) (λm CF=>?_) (.inl lD)⟩)
         . rw[A4.at,<-hcl,<-Zq,Zt];rfl
         . rw[Zq,hcl];refine ZJ.mpr ⟨M.nd,(nF N).sublist YR,λy hy z hz e=>?_⟩;exact jZ (nt (ZH.mp hz).2) (e▸hy)
         . have:m.aa∈cs.map (·.aa):=ZG CF;rw[hcl] at this;exact(gB N r1 CU Je).mp (ZH.mp this).1
         . cases e0.symm.trans CF
           refine .inr ⟨c2,λc hc NH=>?_⟩
           by_cases Ji:c∈ms
           . exact Zd _ Ji
           . refine Zi _ ?_;have:c.aa∈cs.map (·.aa):=by
              rw[hcl,ZH];refine⟨(gB N r1 CU Je).mpr NH,?_⟩
              cases z:(ms.map (·.aa)).contains c.aa with
              |false=>rfl
              |true=>
               refine oea (Zn.mp (ii z)) λb hb e=>?_;exact absurd (N.uniq (ay.mp hc).1 (ay.mp (M.ok b hb).1).1 e.symm▸hb) Ji
             refine oea (Zn.mp this) λd hd e=>?_;exact N.uniq (ay.mp hc).1 (ay.mp (IB d hd)).1 e.symm▸hd
     . nofun;have c1:x∈br P R w.aS:=g2.mp (ii (Mine.nf c1));refine r_done (hK _ _ ⟨e2,am,ms,l3,f2,?_⟩);have:=M.step (cs:=[]) (by rw[Zu];exact M.nd) (λ_ z=>nomatch z) (λm CF=>by cases e0.symm.trans CF;exact .inl c1) (.inr rfl)
       rwa [Zu] at this
   . have lD:ms.length<=i:=Uj λz=>lD (YT.mpr z);nofun;refine r_done (hK _ _ ⟨e2,am,ms,l3,f2,?_⟩);have:=M.step (cs:=[]) (by rw[Zu];exact M.nd) (λ_ z=>nomatch z) (λm CF=>by rw[Yx lD] at CF;cases CF) (.inr rfl)
     rwa [Zu] at this
 . intro σ h2 z_;refine oaeeaa z_ λe2 am ms l3 f2 M=>?_;nofun;exact q _ _ (A1.ext.trans e2) ⟨λz=>Bool.noConfusion z,λn=>absurd n (M.end M.len)⟩
end
end
section
section
variable {Φ:Calls}{γ:String->Option V}{h:Hp}{Q:V->Hp->Prop}{P:aI}{R:List Int}
structure Oh(P:aI)(R:List Int)(rb:ax)(D:Int->Prop)(l:List Int):Prop where
 nd:l.Nodup
 ok:∀x∈l,bH P R rb x/\x∉simple P
 all:∀x,D x->bH P R rb x->x∉simple P->x∈l
theorem se(W:Wd Φ γ)(N:aL P)(Y:PR h P)(LR:dK P R){fd:Nat}{ws:List gG}(eq:ws.map gG.aS=af P R)(Jk:h fd=some (.dict (fe ws)))(rows:∀w∈ws,mM P R h w){rb:ax}(lC:rb∈af P R)
 (ff:∀l:List Int,l.Nodup->(∀x∈l,bH P R rb x/\x∉simple P)->l.length<64)
 (q:∀a h' l,Ext h h'->h a=none->l.Nodup->(∀x,x∈l↔bH P R rb x/\x∉simple P)->h' a=some (.list ((bD l).map .int))->Q (.ref a) h'):Φ "_law_wanted" [.ref P.ad,.ref fd,.int rb.aa] h Q:=by
 refine W.cl rfl rfl ?_;have r1:=LR.cg.one N;nofun;refine kY W N Y λsa h1 e1 n1 f1=>?_;nofun;intro wa h2 A2;have e2:=A2.im e1;have Tg:sa≠fd:=(aB n1 Jk).symm;have zO:wa≠fd:=(A2.ne (e1.at Jk)).symm;have Tc:sa≠wa:=A2.ne f1;have wn:=e1.none A2.new;have js:aG fd (aG wa h2) sa=some (iL (bD (simple P))):=aE Tg (aE Tc (A2.ext.at f1));have jw:aG fd (aG wa h2) wa=none:=(hide_ne zO).trans ao;have Z:Ext (aG fd h) (aG fd (aG wa h2)):=bg (bg (aU.trans e2) (qQ wn)) ao;have An:∀w∈ws,mM P R (aG fd (aG wa h2)) w:=λw hw=>by
  obtain ⟨a1,a2,a3,a4⟩:=rows w hw;have ne:∀{x l},h x=some (.list l)->x≠fd:=λe z=>by rw[z,Jk] at e;cases e
  exact⟨Z.at (aE (ne a1) a1),Z.at (aE (ne a2) a2),Z.at (aE (ne a3) a3),Z.at (aE (ne a4) a4)⟩
 have back:∀{h'},Ext (aG fd (aG wa h2)) h'->h' fd=some (.dict (fe ws))->Ext h h':=λ{h'} e z x hx=>by
  by_cases k:x=fd
  . rw[k,z,Jk]
  . exact(Z.trans e) x (by rw[hide_ne k];exact hx) |>.trans (hide_ne k)
 nofun;refine oT W.aV (e2.at Jk) (λd ρ h'=>Ext (aG fd (aG wa h2)) h'/\h' fd=some (.er (fe ws))/\∃l,h' wa=some (iL l)/\Oh P R rb (λx=>∃w∈ws,(w.aS.aa,V.ref w.a)∈d/\x∈eE P R w.aS) l)
  (λh3 p=>⟨p.im (aU.trans aU) ao,p.at,[],p.to zO A2.at,Ym,λ_ z=>(nomatch z),λx lF=>oeaa lF λw _ z _=>nomatch z⟩) (λd ρ h' I=>I.2.1) ?_ ?_
 . intro d p rr σ h4 hd hp z_ K hK;refine oaaea z_ λe4 f4 l g4 I=>?_;refine oea (Zn.mp hp) λw hw bU=>?_;subst bU;have lk:=qU N eq hw;have F:=(An w hw).ext e4;have Fa:=F.a;have s0:dm [V.ref w.r,.ref w.g,.ref w.m] 0=some (.ref w.r):=rfl;nofun;refine bN W.aV V.int (eE P R w.aS) (λd2 ρ h'=>Ext (aG fd (aG wa h2)) h'/\h' fd=some (.er (fe ws))/\∃l,h' wa=some (iL l)/\Oh P R rb (λx=>(∃w∈ws,(w.aS.aa,V.ref w.a)∈d/\x∈eE P R w.aS)\/x∈d2) l)
    F.r ⟨e4,f4,l,g4,I.nd,I.ok,λx hx=>I.all x (hx.resolve_right λz=>nomatch z)⟩ (λd ρ h' J=>J.1.at (An w hw).r) ?_ ?_
   . intro d2 x IV σ h5 hd2 hx z_ K2 q8 _;refine oaaea z_ λe5 f5 l g5 J=>?_;have s5:=e5.at js;have CT:x≠ -1:=bne_iff_ne.mp (ZH.mp hx).2;have cI:(bH P R rb x->x∉simple P->x∈l)->Oh P R rb (λy=>(∃w∈ws,(w.aS.aa,V.ref w.a)∈d/\y∈eE P R w.aS)\/y∈d2++[x]) l:=λhs=>⟨J.nd,J.ok,λy hy=>by
      rcases hy with hy|hy
      . exact J.all y (.inl hy)
      . rcases Zg.mp hy with hy|hy
        . exact J.all y (.inr hy)
        . rw[Zc.mp hy];exact hs⟩
     nofun;refine r_ite (λc1=>?_) λc1=>?_
     . have c1:x∉simple P:=λz=>jZ (nt c1) (cU.mpr z);nofun;refine r_ite (λc2=>?_) λc2=>?_
       . have c2:=jZ (nt c2);nofun;refine uS W N LR ⟨eq,.inr f5,λw hw=>(An w hw).ext e5⟩ lC CT λh6 b e6 hb=>?_;have g6:=e6.at g5;have f6:=e6.at f5;have e6:=e5.trans e6;nofun;refine r_ite (λc3=>?_) λc3=>?_
         . have nx:=hb.mp c3;nofun;refine r_appi g6 (ZL (ff l J.nd J.ok) (by decide)) λh7 p=>?_;refine r_done_sq (r_done (q8 _ _ ⟨p.im e6 jw,p.to zO.symm f6,l++[x],p.at,xA J.nd c2,λy hy=>?_,λy hy h1 h2=>?_⟩))
           . rcases Zg.mp hy with hy|hy
             . exact J.ok y hy
             . rw[Zc.mp hy];exact⟨nx,c1⟩
           . rcases hy with hy|hy
             . exact Zd _ (J.all y (.inl hy) h1 h2)
             . rcases Zg.mp hy with hy|hy
               . exact Zd _ (J.all y (.inr hy) h1 h2)
               . exact Zi _ hy
         . nofun;exact r_done (q8 _ _ ⟨e6,f6,l,g6,cI λz=>absurd (hb.mpr z) (by rw[c3];exact Ye)⟩)
       . nofun;exact r_done (q8 _ _ ⟨e5,f5,l,g5,cI λ_ _=>ii (Mine.nf c2)⟩)
     . nofun;exact r_done (q8 _ _ ⟨e5,f5,l,g5,cI λ_ z=>absurd (cU.mp (ii (Mine.nf c1))) z⟩)
   . intro σ h5 z_;refine oaaea z_ λe5 f5 l g5 J=>?_;refine r_done (hK _ _ ⟨e5,f5,l,g5,J.nd,J.ok,λx lE=>oeaa lE λw' QM hm hx=>J.all x ?_⟩);rcases Zg.mp hm with hm|hm
     . exact .inl ⟨w',QM,hm,hx⟩
     . have e:w'.aS.aa=w.aS.aa:=congrArg Prod.fst (Zc.mp hm);rw[N.uniq (ay.mp (ut eq QM)).1 (ay.mp (ut eq hw)).1 e] at hx;exact .inr hx
 . intro σ h4 h5 z_ p;refine oaaea z_ λe4 f4 l g4 I=>?_;have e5:=p.im e4 ao;have eh:=back e5 p.at;nofun;refine r_sortl (p.to zO g4) (ff l I.nd I.ok) λa6 h6 A6=>?_;nofun;refine q _ _ l (eh.trans A6.ext) (eh.none A6.new) I.nd (λx=>⟨I.ok x,λq7=>oa q7 λn s=>?_⟩) A6.at;have:∀{b:ax} {y:Int},bH P R b y->b∈af P R->∃c∈af P R,y∈bF P R c:=λ{b y} n=>by
    induction n with
    |here a _=>intro hb;exact⟨_,hb,a⟩
    |there _ b' _ _ ih=>intro _;exact ih b'
   refine oea (this n lC) λc hc hr=>?_;refine oea (xF eq hc) λw hw cu=>?_;subst cu;exact I.all x ⟨w,hw,Zn.mpr ⟨w,hw,rfl⟩,(jS N r1 (ay.mp hc).1 (ay.mp hc).2 (t0 N (ay.mp hc).1 hr)).mpr hr⟩ n s
end
end
section
variable {P:aI}{R:List Int}
structure Arg where
 (kind:String) (val:V)
structure Z where
 (ae:Int) (ad:Nat) (arg:Arg)
noncomputable abbrev qc(z:Z):V:=.ref z.ad
noncomputable def LW(bq:List Int)(v:Int)(a:Arg):Prop:=(v∈bq/\a.kind="free"/\∃i:Nat,bq[i]?=some v/\a.val= .int i)\/(v∉bq/\(a.kind="const"\/a.kind="slot"))
structure wT(h:Hp)(bq:List Int)(z:Z):Prop where
 at_:h z.ad=some (.tup [sv z.arg.kind,z.arg.val])
 ok:LW bq z.ae z.arg
theorem wT.ext{h h':Hp}{bq:List Int}{z:Z}(x:wT h bq z)(e:Ext h h'):wT h' bq z:=⟨e.at x.at_,x.ok⟩
structure C5(h:Hp)(bq:List Int)(a:Nat)(zs:List Z):Prop where
 l:h a=some (.list (zs.map qc))
 ok:∀z∈zs,wT h bq z
theorem C5.ext{h h':Hp}{bq:List Int}{a:Nat}{zs:List Z}(x:C5 h bq a zs)(e:Ext h h'):C5 h' bq a zs:=⟨e.at x.l,λz hz=>(x.ok z hz).ext e⟩
structure Line where
 (ta:Nat) (slot num:V) (la:Nat) (zs:List Z)
structure CO where
 (ad:Nat) (bC:String) (slot data:V) (ga da:Nat) (lines:List Line)
noncomputable def ke(P:aI)(R:List Int)(F:Int->List Int)(l:Line):Prop:=∃(i:Nat) (c:ax),(af P R)[i]?=some c/\l.num= .int i/\l.zs.length=(F c.aa).length
structure zH(P:aI)(R:List Int)(F:Int->List Int)(bq:List Int)(h:Hp)(c:CO):Prop where
 self:h c.ad=some (.inst "COp" [("slot",c.slot),("op",sv c.bC),("data",c.data),("args",.ref c.ga)])
 fix:c.bC="closefix"->c.data= .ref c.da/\h c.da=some (.list (c.lines.map λl=>.ref l.ta))/\∀l∈c.lines,h l.ta=some (.tup [l.slot,l.num,.ref l.la])
 ED:c.bC≠ "closefix"->∃zs,c.lines=[⟨0,c.slot,c.data,c.ga,zs⟩]
 lines:∀l∈c.lines,C5 h bq l.la l.zs
 made:(c.bC="close"\/c.bC="closefix")->∀l∈c.lines,ke P R F l
theorem zH.ext{F:Int->List Int}{bq:List Int}{h h':Hp}{c:CO}(x:zH P R F bq h c)(e:Ext h h'):zH P R F bq h' c:=
 ⟨e.at x.self,λw=>⟨(x.fix w).1,e.at (x.fix w).2.1,λl hl=>e.at ((x.fix w).2.2 l hl)⟩,x.ED,λl hl=>(x.lines l hl).ext e,x.made⟩
noncomputable def CO.aQ(c:CO):List Z:=c.lines.flatMap (·.zs)
structure CL where
 (ad:Nat) (aH:String) (aA bA:Nat) (args:List Z) (head k:Option Z)
noncomputable def tH(z:Option Z):V:=match z with|some z=>qc z|none=>.none
structure Jy(bq:List Int)(h:Hp)(c:CL):Prop where
 self:h c.ad=some (.inst "CLast" [("sort",sv c.aH),("head",tH c.head),("args",.ref c.aA),("k",tH c.k),("blocks",.ref c.bA)])
 args:C5 h bq c.aA c.args
 head:∀z,c.head=some z->wT h bq z
 k:∀z,c.k=some z->wT h bq z
theorem Jy.ext{bq:List Int}{h h':Hp}{c:CL}(x:Jy bq h c)(e:Ext h h'):Jy bq h' c:=⟨e.at x.self,x.args.ext e,λz hz=>(x.head z hz).ext e,λz hz=>(x.k z hz).ext e⟩
noncomputable def CL.aQ(c:CL):List Z:=c.args++(c.head.toList++c.k.toList)
structure CB where
 (ad:Nat) (num OW:V) (oA:Nat) (aM:List CO) (ag:CL)
structure Eu(P:aI)(R:List Int)(F:Int->List Int)(bq:List Int)(h:Hp)(b:CB):Prop where
 self:h b.ad=some (.inst "CBlock" [("number",b.num),("params",b.OW),("ops",.ref b.oA),("last",.ref b.ag.ad)])
 aM:h b.oA=some (.list (b.aM.map λc=>.ref c.ad))
 op:∀c∈b.aM,zH P R F bq h c
 ag:Jy bq h b.ag
 cG:(b.aM.flatMap CO.aQ++b.ag.aQ).length<=5000
 lines:(b.aM.flatMap (·.lines)).length<=100
theorem Eu.ext{F:Int->List Int}{bq:List Int}{h h':Hp}{c:CB}(x:Eu P R F bq h c)(e:Ext h h'):Eu P R F bq h' c:=
 ⟨e.at x.self,e.at x.aM,λo ho=>(x.op o ho).ext e,x.ag.ext e,x.cG,x.lines⟩
noncomputable def CB.aQ(b:CB):List Z:=b.aM.flatMap CO.aQ++b.ag.aQ
noncomputable abbrev oh(b:CB):V:=.ref b.ad
end
section
section
variable {Φ:Calls}{γ:String->Option V}{h:Hp}{Q:V->Hp->Prop}{P:aI}{R:List Int}
noncomputable def news(h h':Hp):Hp:=λa=>if h a=none then h' a else none
theorem news_at{h h':Hp}{a:Nat}{o:O}(n:h a=none)(e:h' a=some o):news h h' a=some o:=(if_pos n).trans e
theorem cT{h h':Hp}{a:Nat}{o:O}(e:news h h' a=some o):h a=none/\h' a=some o:=by
 unfold news at e;split at e
 . exact⟨by assumption,e⟩
 . cases e
theorem Ext.mk{h h':Hp}(x:∀{a o},h a=some o->h' a=some o):Ext h h':=λa n=>by
 cases z:h a with
 |none=>exact absurd z n
 |some o=>exact x z
theorem bQ{h h1 h2:Hp}(e:Ext h1 h2):Ext (news h h1) (news h h2):=.mk λz=>oa (cT z) λa1 a2=>news_at a1 (e.at a2)
theorem dO{h h1 h2:Hp}(e:Ext h h1):Ext (news h1 h2) (news h h2):=.mk λz=>oa (cT z) λa1 a2=>news_at (e.none a1) a2
structure tj where
 (ad u pA bA sl pl cA sp ex:Nat)
noncomputable def vM(y:Lay)(m:tj)(root:Int):List (String×V):=[("layout",.ref y.ad),("root",.int root),("unit",.ref m.u),("slots",.ref m.sl),("places",.ref m.pl),("captured",.ref m.cA),("spots",.ref m.sp),("extra",.ref m.ex)]
noncomputable def om(num:Int)(aH:String)(m:tj)(bq n:Int):List (String×V):=[("number",.int num),("sort",sv aH),("params",.ref m.pA),("rest",.int (-1)),("takes_any",.bool false),("captured",.int bq),("slots",.int n),("blocks",.ref m.bA),("name",sv "")]
noncomputable def zN(bq:List Int):List (Int×V):=bq.zipIdx.map λp=>(p.1,.int p.2)
structure xY(h:Hp)(P:aI)(y:Lay)(R:List Int)(ad:List (Int×V))(ds:List Row)(F:Int->List Int)(m:tj)(rb:ax)(bq:List Int):Prop where
 all:gz P h y R ad ds F
 num:h y.nA=some (.dict (nB P R))
 self:h m.ad=some (.inst "UnitMaker" (vM y m rb.aa))
 GD:h m.cA=some (.list (bq.map .int))
 sp:h m.sp=some (.dict (zN bq))
 root:rb∈af P R
 PG:bq=bD (F rb.aa)
 cG:∀c∈af P R,(F c.aa).length<64
theorem xY.ext{h':Hp}{y:Lay}{ad:List (Int×V)}{ds:List Row}{F:Int->List Int}{m:tj}{rb:ax}{bq:List Int}(x:xY h P y R ad ds F m rb bq)(e:Ext h h'):xY h' P y R ad ds F m rb bq:=
 ⟨x.all.ext e,e.at x.num,e.at x.self,e.at x.GD,e.at x.sp,x.root,x.PG,x.cG⟩
noncomputable def du(h:Hp)(sl:Nat)(ks:List Int):Prop:=∃es,h sl=some (.dict es)/\es.map (·.1)=ks/\∀p∈es,∃n:Int,p.2= .int n
theorem du.ext{h':Hp}{sl:Nat}{ks:List Int}(x:du h sl ks)(e:Ext h h'):du h' sl ks:=oea x λes a b=>⟨es,e.at a,b⟩
theorem eI{v:Int}{es:List (Int×V)}(m:v∈es.map (·.1)):∃u,es.lookup v=some u/\(v,u)∈es:=by
 induction es with
 |nil=>cases m
 |cons x es ih=>
  rw[ZT]
  by_cases e:v=x.1
  . subst e;exact⟨_,by rw[beq_self_eq_true],Ze⟩
  . rw[beq_false_of_ne e];refine oea (ih ((Zp.mp m).resolve_left e)) λu h1 h2=>?_;exact⟨u,h1,Zh _ h2⟩
variable {y:Lay}{ad:List (Int×V)}{ds:List Row}{F:Int->List Int}{m:tj}{rb:ax}{bq ks:List Int}
theorem Hm(W:Wd Φ γ){num c n:Int}{aH:String}(self:h m.ad=some (.inst "UnitMaker" (vM y m rb.aa)))(hu:h m.u=some (.inst "CUnit" (om num aH m c n)))(hs:du h m.sl ks)(hk:ks.length<big)(ne:m.u≠m.sl)(n1:m.ad≠m.u)(n2:m.ad≠m.sl){v:Int}
 (q:∀h' k,(∀x,x≠m.u->x≠m.sl->h' x=h x)->h' m.u=some (.inst "CUnit" (om num aH m c (n+1)))->du h' m.sl (ins ks v)->Q (.int k) h'):Φ "UnitMaker.slot" [.ref m.ad,.int v] h Q:=by
 refine W.cl rfl rfl ?_;refine oeaa hs λes h1 h2 h3=>?_;try clear hs
 have hl:es.length<big:=by rwa [<-h2,Za] at hk
 nofun;intro h4 p4;have KE:=p4.to n2 self;have u4:=p4.to ne hu;nofun;intro h5 p5;have R_:=p5.to n1 KE;have s5:=p5.to (Yq ne) p4.at;have lk:(putD es v (.int n)).lookup v=some (.int n):=by rw[eV,if_pos rfl]
 nofun;refine q _ _ (λx a b=>(p5.ne a).trans (p4.ne b)) p5.at ⟨_,s5,by rw[dP,h2],λp hp=>?_⟩;rcases mem_putD hp with rfl|hp
 . exact⟨n,rfl⟩
 . exact h3 p hp
theorem oI:(zN bq).map (·.1)=bq:=by rw[zN,Zt];exact WH _ _
structure Named(ad:List (Int×V))(ks bq:List Int)(v:Int):Prop where
 some:v∈ad.map (·.1)\/v∈ks\/v∈bq
 apart:v∈bq->v∉ad.map (·.1)/\v∉ks
theorem n_(W:Wd Φ γ)(M:xY h P y R ad ds F m rb bq)(hs:du h m.sl ks){v:Int}(nm:Named ad ks bq v)
 (q:∀h' z,Ext h h'->h z.ad=none->z.ae=v->wT (news h h') bq z->Q (qc z) h'):Φ "UnitMaker.arg" [.ref m.ad,.int v] h Q:=by
 refine W.cl rfl rfl ?_;refine oeaa hs λes h1 bU h3=>?_;try clear hs;subst bU
 have self:=M.self;have ys:=M.all.lay.self;have ya:=M.all.aD;have sp:=M.sp;have g1:=W.wB;have g2:=W.Hz;have g3:=W.HB;nofun;refine r_ite (λc1=>?_) λc1=>?_
 . refine oea (eI (ii c1)) λu lk _=>?_;nofun;intro a h4 A4;nofun;exact q h4 ⟨v,a,"const",u⟩ A4.ext A4.new rfl ⟨news_at A4.new A4.at,.inr ⟨λz=>(nm.apart z).1 (ii c1),.inl rfl⟩⟩
 . have c1:=jZ c1;nofun;refine r_ite (λc2=>?_) λc2=>?_
   . refine oea (eI (ii c2)) λu lk _=>?_;nofun;intro a h4 A4;nofun;exact q h4 ⟨v,a,"slot",u⟩ A4.ext A4.new rfl ⟨news_at A4.new A4.at,.inr ⟨λz=>(nm.apart z).2 (ii c2),.inr rfl⟩⟩
   . have c2:=jZ c2;have c3:v∈bq:=(nm.some.resolve_left c1).resolve_left c2;refine oea (eI (es:=zN bq) (by rw[oI];exact c3)) λu lk hm=>?_;nofun;refine r_no (by rw[oI,Z0.mpr c3];rfl) ?_;nofun;intro a h4 A4;nofun;refine oea (Zn.mp hm) λcu hw e=>?_;obtain ⟨w,i⟩:=cu;refine oa (Xa e) λcY dT=>?_;subst cY;subst dT;exact q h4 ⟨w,a,"free",.int i⟩ A4.ext A4.new rfl ⟨news_at A4.new A4.at,.inl ⟨c3,rfl,i,WC.mp hw,rfl⟩⟩
theorem gP{α β:Type}{k e:C}{ρ:Lo}{st:List V}{Q:Po}{t:String}{a:Nat}(W:Wd Φ γ)(f:α->V)(g:β->V)(Ok:Hp->α->β->Prop)(aV:∀{h1 h2 x z},Ext h h1->Ext h1 h2->Ok h1 x z->Ok h2 x z)(xs:List α)(ha:h a=some (.list (xs.map f)))
 (elt:∀x h1,x∈xs->Ext h h1->∀K:V->Hp->Prop,(∀h2 z,Ext h1 h2->Ok h2 x z->K (g z) h2)->wp Φ γ e (bc ρ t (f x)) [] h1 (gF K))
 (fin:∀b h' (zs:List β),Ext h h'->h b=none->h' b=some (.list (zs.map g))->zs.length=xs.length->(∀(i:Nat) (x:α) (z:β),xs[i]?=some x->zs[i]?=some z->Ok h' x z)->wp Φ γ k ρ (.ref b::st) h' Q):wp Φ γ (.comp [t] .seq (.az (.bool true) .done) e k) ρ (.ref a::st) h Q:=by
 refine fC W.aV (aJ:=.list a (xs.map f)) ⟨a,rfl,.inl ⟨_,ha,rfl⟩⟩ rfl xs (λx=>[f x]) (Zt ..) (λd vs h'=>Ext h h'/\∃zs:List β,vs=zs.map g/\zs.length=d.length/\∀(i:Nat) (x:α) (z:β),d[i]?=some x->zs[i]?=some z->Ok h' x z) ⟨.refl,[],rfl,rfl,λi x z e=>by cases e⟩ (λd vs h' I=>I.1.at ha) (λd x r vs h' eq m xP=>oaeaa xP λE zs k1 k2 k3=>⟨_,rI,true,rfl,_,rfl,rfl,?_⟩) λvs h' b cR xO A=>oaeaa xO λE zs k1 k2 k3=>fin b cR zs (A.im E) (E.none A.new) (k1▸A.at) k2 λi x z h1 h2=>aV E A.ext (k3 i x z h1 h2);refine elt x h' m E _ λh2 z E2 ok=>⟨E.trans E2,zs++[z],by rw[k1,Zq];rfl,by rw[Zb,Zb,k2];rfl,λi x' z' h1 h2=>?_⟩;rcases V6 i d.length with l|l
 . rw[Yu l] at h1;rw[Yu (k2▸l)] at h2;exact aV E E2 (k3 i x' z' h1 h2)
 . rw[YA l] at h1;rw[YA (k2▸l),k2] at h2
   cases n:i - d.length with
   |zero=>rw[n] at h1 h2;cases h1;cases h2;exact ok
   |succ n=>rw[n] at h1;cases h1
theorem lM(W:Wd Φ γ)(M:xY h P y R ad ds F m rb bq)(hs:du h m.sl ks){xs:List Int}{a:Nat}(ha:h a=some (.list (xs.map .int)))(nm:∀v∈xs,Named ad ks bq v)
 (q:∀h' b zs,Ext h h'->h b=none->zs.map Z.ae=xs->C5 (news h h') bq b zs->Q (.ref b) h'):Φ "UnitMaker.args" [.ref m.ad,.ref a] h Q:=by
 refine W.cl rfl rfl ?_;nofun;refine gP W V.int qc (λh' v z=>z.ae=v/\wT (news h h') bq z) (λ_ e x=>⟨x.1,x.2.ext (bQ e)⟩) xs ha (λx h1 hx e1 K hK=>?_) λb h' zs e n f l ok=>?_
 . have self:=e1.at M.self;nofun;refine n_ W (M.ext e1) (hs.ext e1) (nm x hx) λh2 z e2 n2 zv zo=>?_;nofun;exact hK h2 z e2 ⟨zv,zo.ext (dO e1)⟩
 . nofun;refine q h' b zs e n (XZ λi=>?_) ⟨news_at n f,λz hz=>?_⟩
   . rw[ZQ];rcases V6 i xs.length with l1|l1
     . rw[Zv l1,Zv (l▸l1)];exact congrArg some (ok i _ _ (Zv l1) (Zv (l▸l1))).1
     . rw[Yx l1,Yx (l▸l1)];rfl
   . obtain ⟨i,hi,e⟩:=YL.mp hz;exact e▸(ok i _ _ (Zv (l▸hi)) (Zv hi)).2
theorem jt{l:List Int}:(cy l).map (·.1)=l:=by rw[cy,Zt];exact Vq l
theorem eZ(W:Wd Φ γ)(N:aL P)(M:xY h P y R ad ds F m rb bq)(hs:du h m.sl ks){c:ax}(hc:c∈af P R)(nm:∀v∈F c.aa,Named ad ks bq v)
 (q:∀h' b zs,Ext h h'->h b=none->zs.map Z.ae=bD (F c.aa)->C5 (news h h') bq b zs->Q (.ref b) h'):Φ "UnitMaker.captured_args" [.ref m.ad,.int c.aa] h Q:=by
 refine W.cl rfl rfl ?_;have self:=M.self;have ys:=M.all.lay.self;have yf:=M.all.fD;refine oea (oo M.all.eq hc) λw hw gU=>?_;subst gU;have lk:=dY (f:=(·.f)) N M.all.eq hw;have fw:=M.all.at_ w hw;have cG:(cy (F w.aS.aa)).length<64:=by rw[c8];exact M.cG _ hc
 nofun;intro a h1 A;rw[jt] at A;nofun;refine lM W (M.ext A.ext) (hs.ext A.ext) A.at (λv hv=>nm v (cU.mp hv)) λh2 b zs e2 n2 k1 k2=>?_;nofun;exact q h2 b zs (A.ext.trans e2) (A.ext.none n2) k1 (k2.ext (dO A.ext))
end
end
section
section
variable {Φ:Calls}{γ:String->Option V}{h:Hp}{Q:V->Hp->Prop}{P:aI}{R:List Int}
variable {y:Lay}{ad:List (Int×V)}{ds:List Row}{F:Int->List Int}{m:tj}{rb:ax}{bq ks:List Int}
theorem yU:(nB P R).map (·.1)=(af P R).map (·.aa):=by
 rw[nB,Zt,show ((λp:Int×V=>p.1)∘λp:ax×Nat=>(p.1.aa,V.int p.2))=(λb:ax=>b.aa)∘Prod.fst from rfl,<-Zt,WH]
theorem kS(N:aL P){c:ax}(hc:c∈af P R):∃i:Nat,(af P R)[i]?=some c/\(nB P R).lookup c.aa=some (.int i):=by
 obtain ⟨i,hi,e⟩:=YL.mp hc;have e:(af P R)[i]?=some c:=by rw[Zv hi,e]
 exact⟨i,e,cW (by rw[yU];exact gI N) (p:=(c.aa,.int i)) (Zn.mpr ⟨(c,i),WC.mpr e,rfl⟩)⟩
theorem r_newCOp{k:C}{ρ:Lo}{st:List V}{Q:Po}(W:Wd Φ γ){s o d g:V}(ns:cH s=false)(no:cH o=false)(nd:cH d=false)(ng:cH g=false)
 (q:∀a h',Ext h h'->h a=none->h' a=some (.inst "COp" [("slot",s),("op",o),("data",d),("args",g)])->wp Φ γ k ρ (.ref a::st) h' Q):wp Φ γ (.new "COp" "COp.__init__" 4 k) ρ (g::d::o::s::st) h Q:=by
 refine r_new rfl λa h0 A=>W.cl rfl rfl ?_;have n:=A.new;nofun;intro h1 p1;nofun;intro h2 p2;nofun;intro h3 p3;nofun;intro h4 p4;exact r_done ⟨rfl,q a h4 (p4.im (p3.im (p2.im (p1.im A.ext n) n) n) n) n p4.at⟩
theorem yV{b:Nat}{h2 h3 h4:Hp}(l:h2 b≠none)(e:Ext h h2)(e':Ext h3 h4):Ext (news h2 h3) (news h (aG b h4)):=
 .mk λz=>oa (cT z) λa1 a2=>news_at (e.none a1) (aE (λk=>l (k▸a1)) (e'.at a2))
structure qG(P:aI)(R:List Int)(F:Int->List Int)(bq:List Int)(h:Hp)(l:Line):Prop where
 ta:h l.ta=some (.tup [l.slot,l.num,.ref l.la])
 zs:C5 h bq l.la l.zs
 made:ke P R F l
 cG:l.zs.length<=63
theorem qG.ext{h':Hp}{l:Line}(x:qG P R F bq h l)(e:Ext h h'):qG P R F bq h' l:=⟨e.at x.ta,x.zs.ext e,x.made,x.cG⟩
theorem rT{zs:List Z}{l:List Int}(e:zs.map Z.ae=bD l):zs.length=l.length:=by
 have:=congrArg List.length e
 rwa [Za,jD] at this
theorem o_(W:Wd Φ γ)(N:aL P)(M:xY h P y R ad ds F m rb bq)(hs:du h m.sl ks){rows:List (Int×ax)}{va la:Nat}(hv:h va=some (.list (rows.map λp=>.int p.1)))(hl:h la=some (.list (rows.map λp=>ch p.2)))
 (cG:rows.length<=64) (k:∀p∈rows,p.1∈ks/\p.2∈af P R/\∀v∈F p.2.aa,Named ad ks bq v)
 (q:∀h' b (ls:List Line),Ext h h'->h b=none->news h h' b=some (.list (ls.map λl=>.ref l.ta))->(∀l∈ls,qG P R F bq (news h h') l)->ls.length=rows.length->
  (∀p∈rows,∃l∈ls,l.zs.map Z.ae=bD (F p.2.aa))->Q (.ref b) h'):Φ "fix_rows" [.ref m.ad,.ref va,.ref la] h Q:=by
 refine W.cl rfl rfl ?_;nofun;intro b h1 A1;have e1:=A1.ext;have n1:=A1.new;nofun;refine DL W.aV (λp:Int×ax=>V.int p.1) (λp=>ch p.2) rows (λd ρ h'=>Ext h h'/\∃ls:List Line,h' b=some (.list (ls.map λl=>.ref l.ta))/\(∀l∈ls,qG P R F bq (news h (aG b h')) l)/\ls.length=d.length/\∀p∈d,∃l∈ls,l.zs.map Z.ae=bD (F p.2.aa))
  (e1.at hv) (e1.at hl) ⟨e1,[],A1.at,λ_ z=>(nomatch z),rfl,λ_ z=>nomatch z⟩ (λd ρ h' I=>⟨I.1.at hv,I.1.at hl⟩) ?_ ?_
 . intro d p rr σ h2 hd hp z_ K hK;refine oaeaaa z_ λe2 ls g2 k1 k2 k3=>?_;refine oaa (k p hp) λx1 x2 x3=>?_;have self:=e2.at M.self;have ys:=e2.at M.all.lay.self;have yn:=e2.at M.num;refine oeaa (hs.ext e2) λes s1 s2 s3=>?_;refine oea (eI (es:=es) (by rw[s2];exact x1)) λu lk hm=>?_;refine oea (kS (R:=R) N x2) λi hi ln=>?_;nofun;refine eZ W N (M.ext e2) (hs.ext e2) x2 x3 λh3 c zs e3 n3 z1 z2=>?_;nofun;intro t h4 A4;have FA:=e3.trans A4.ext;have g4:=FA.at g2;have b2:=aF g2;refine r_app g4 ?_ λh5 p5=>?_
   . rw[Za,k2];have:=congrArg List.length hd;rw[Zb] at this;exact Zk (Zf (this▸ZE _ _) cG) (by decide)
   have tb:t≠b:=λz=>b2 (e3.none (z▸A4.new));have Nv:=iO p5;have up:Ext (news h (aG b h2)) (news h (aG b h5)):=Nv▸bQ (fy FA);have zl:=rT z1;refine r_done (hK _ _ ⟨p5.im (e2.trans FA) n1,ls++[(⟨t,u,.int i,c,zs⟩:Line)],by rw[p5.at,Zq];rfl,λl hl=>?_,by rw[Zb,Zb,k2];rfl,λp' kC=>?_⟩)
   . rcases Zg.mp hl with hl|hl
     . exact(k1 l hl).ext up
     . rw[Zc.mp hl];exact⟨Nv▸news_at ((e2.trans e3).none A4.new) (aE tb A4.at),(z2.ext (yV b2 e2 A4.ext)).ext (Nv▸.refl),⟨i,p.2,hi,rfl,zl⟩,by rw[zl];exact XY (M.cG _ x2)⟩
   . rcases Zg.mp kC with kC|kC
     . refine oea (k3 p' kC) λl h1 h2=>?_;exact⟨l,Zd _ h1,h2⟩
     . rw[Zc.mp kC];exact⟨(⟨t,u,.int i,c,zs⟩:Line),Zi _ Ze,z1⟩
 . intro σ h2 z_;refine oaeaaa z_ λe2 ls g2 k1 k2 k3=>?_;nofun;exact q _ _ ls e2 n1 (news_at n1 g2) (λl hl=>(k1 l hl).ext (bQ aU)) k2 k3
noncomputable def Et(F:Int->List Int)(o:Op)(zs:List Z):Prop:=(∀v∈o.args,∃z∈zs,z.ae=v)/\∀l∈o.aT,∀v∈F l,∃z∈zs,z.ae=v
theorem dX{zs:List Z}{l:List Int}(e:zs.map Z.ae=l){v:Int}(h:v∈l):∃z∈zs,z.ae=v:=Zn.mp (e▸h)
theorem gL{α β:Type}{f:α->List β}{k n:Nat}{l:List α}(h:∀x∈l,(f x).length<=k)(hl:l.length<=n):(l.flatMap f).length<=n*k:=
 Zf (bv h) (ZZ k hl)
theorem zH.one{h:Hp}{a g:Nat}{w:String}{s d:V}{zs:List Z}(f:h a=some (.inst "COp" [("slot",s),("op",sv w),("data",d),("args",.ref g)]))(nf:w≠ "closefix")(z:C5 h bq g zs)(mk:w="close"->ke P R F ⟨0,s,d,g,zs⟩):zH P R F bq h ⟨a,w,s,d,g,0,[⟨0,s,d,g,zs⟩]⟩:=
 ⟨f,λe=>absurd e nf,λ_=>⟨zs,rfl⟩,λl hl=>Zc.mp hl▸z,λe l hl=>Zc.mp hl▸mk (e.resolve_right nf)⟩
theorem zH.many{h:Hp}{a g d:Nat}{s:V}{ls:List Line}(f:h a=some (.inst "COp" [("slot",s),("op",sv "closefix"),("data",.ref d),("args",.ref g)]))(fd:h d=some (.list (ls.map λl=>.ref l.ta)))(z:∀l∈ls,qG P R F bq h l):zH P R F bq h ⟨a,"closefix",s,.ref d,g,d,ls⟩:=
 ⟨f,λ_=>⟨rfl,fd,λl hl=>(z l hl).ta⟩,λe=>absurd rfl e,λl hl=>(z l hl).zs,λ_ l hl=>(z l hl).made⟩
theorem fx{a g:Nat}{w:String}{s d:V}{zs:List Z}:CO.aQ ⟨a,w,s,d,g,0,[⟨0,s,d,g,zs⟩]⟩=zs:=Zu _
theorem xp:∀{rs ls:List Int},rs.length=ls.length->(∀l∈ls,∃c∈af P R,c.aa=l)->∃rows:List (Int×ax),rows.map (·.1)=rs/\rows.map (λp=>p.2.aa)=ls/\∀p∈rows,p.2∈af P R
 |[],[],_,_=>⟨[],rfl,rfl,λ_ z=>nomatch z⟩
 |r::rs,l::ls,hl,hc=>by
  refine oeaa (xp (XB hl) λl hl=>hc l (Zh _ hl)) λrows h1 h2 h3=>?_;refine oea (hc l Ze) λc hc e=>?_;exact⟨(r,c)::rows,by rw[Zw,h1],by rw[Zw,h2,e],λp hp=>(Zp.mp hp).elim (λz=>z▸hc) (h3 p)⟩
theorem yP(W:Wd Φ γ)(N:aL P)(M:xY h P y R ad ds F m rb bq)(hs:du h m.sl ks){b:ax}(hb:b∈P.ap){o:Op}(ho:o∈b.aM)(na:∀v∈o.args,Named ad ks bq v)(nl:∀l∈o.aT,∃c∈af P R,c.aa=l/\∀v∈F l,Named ad ks bq v)(nr:o.bC="fix"->∀v∈o.bO,v∈ks)
 (q0:∀h',Ext h h'->Et F o []->Q .none h') (q1:∀h' c,Ext h h'->zH P R F bq (news h h') c->Et F o c.aQ->c.aQ.length<=126->c.lines.length<=2->Q (.ref c.ad) h'):Φ "made_op" [.ref m.ad,.ref o.ad] h Q:=by
 refine W.cl rfl rfl ?_;have self:=M.self;have ys:=M.all.lay.self;have ya:=M.all.aD;have yn:=M.num;have O:=(M.all.lay.prog.aS b hb).op o ho;have os:=O.self;refine oeaa (id hs) λes s1 s2 s3=>?_;obtain ⟨n0,Jd⟩:∃n:Int,(es.lookup o.result).getD (.int (-1))= .int n:=by
  cases z:es.lookup o.result with
  |none=>exact⟨-1,rfl⟩
  |some u=>exact s3 _ (pM z)
 nofun;refine r_get s1 ?_;rw[Jd];unfold JM at os;rcases N.Qg b hb o ho with ⟨w,a1,a2⟩|⟨w,a1,l,a2⟩|⟨w,a1,a2⟩|⟨w,a1⟩
 . -- const
   rw[w] at os;have vE:Et F o []:=⟨by rw[a1];exact λ_ z=>(nomatch z),by rw[a2];exact λ_ z=>nomatch z⟩;nofun;refine r_ite (λc1=>?_) λc1=>?_
   . nofun;exact q0 h .refl vE
   . have dat:cH o.tS=false:=by
      have:=O.dat w
      cases hp:o.pair with
      |true=>rw[hp] at this;refine oeea this λa fs e _=>?_;try clear this;rw[e];rfl
      |false=>rw[hp] at this;rcases this with e|e|⟨a,e,_⟩<;>rw[e]<;>rfl
     nofun;intro g h1 A1;have os:=A1.ext.at os;nofun;refine r_newCOp W rfl rfl dat rfl λa h2 e2 n2 f2=>?_;nofun;exact q1 h2 ⟨a,"const",.int n0,o.tS,g,0,[⟨0,.int n0,o.tS,g,[]⟩]⟩ (A1.ext.trans e2) (.one (news_at (A1.ext.none n2) f2) (by decide) ⟨news_at A1.new (e2.at A1.at),λ_ z=>nomatch z⟩ λe=>absurd e (by decide)) vE (ZS _) (ZC rfl)
 . -- fun
   rw[w] at os;refine oeaa (nl l (by rw[a2];exact Ze)) λc hc e nm=>?_;subst e;refine oea (kS (R:=R) N hc) λi hi ln=>?_;have ol:=O.aT;rw[a2] at ol;have sq:dm (List.map V.int [c.aa]) 0=some (.int c.aa):=rfl;nofun;refine eZ W N M hs hc nm λh1 g zs e1 n1 z1 z2=>?_;nofun;refine r_newCOp W rfl rfl rfl rfl λa h2 e2 n2 f2=>?_;nofun;have zl:=rT z1;refine q1 h2 ⟨a,"close",.int n0,.int i,g,0,[⟨0,.int n0,.int i,g,zs⟩]⟩ (e1.trans e2) (.one (news_at (e1.none n2) f2) (by decide) (z2.ext (bQ e2)) λ_=>⟨i,c,hi,rfl,zl⟩) ?_ (by rw[fx,zl];exact Zf (ZI (M.cG _ hc)) (by decide)) (ZC rfl);rw[fx];refine⟨by rw[a1];exact λ_ z=>(nomatch z),λl hl v hv=>?_⟩;rw[a2] at hl;rw[Zc.mp hl] at hv;exact dX z1 (cU.mpr hv)
 . -- fix
   rw[w] at os;have oa:=O.bO;have ol:=O.aT;refine oeaa (xp a2 λl hl=>oeaa (nl l hl) λc hc e _=>⟨c,hc,e⟩) λrows k1 k2 k3=>?_;have rl:rows.length<=2:=by have:=congrArg List.length k1;rw[Za] at this;exact this▸(N.CR b hb o ho).2.1
   have Ta:h o.rA=some (.list (rows.map λp=>.int p.1)):=by rw[oa,<-k1,Zt];rfl
   have ST:h o.lA=some (.list (rows.map λp=>ch p.2)):=by rw[ol,<-k2,Zt];rfl
   nofun;refine o_ W N M hs Ta ST (Zf rl (by decide)) (λp hp=>⟨nr w _ (by rw[<-k1];exact ZG hp),k3 p hp,?_⟩) λh1 d ls e1 n1 z1 z2 z3 z4=>?_
   . refine oeaa (nl p.2.aa (by rw[<-k2];exact Zn.mpr ⟨p,hp,rfl⟩)) λc hc e nm=>?_;exact nm
   nofun;intro g h2 A2;refine r_newCOp W rfl rfl rfl rfl λa h3 e3 n3 f3=>?_;nofun;have lG:=A2.ext.trans e3;refine q1 h3 ⟨a,"closefix",.int (-1),.ref d,g,d,ls⟩ (e1.trans lG) (.many (news_at (e1.none (A2.ext.none n3)) f3) ((bQ lG).at z1) λl hl=>(z2 l hl).ext (bQ lG)) ⟨by rw[a1];exact λ_ z=>(nomatch z),λl hl v hv=>?_⟩ (gL (n:=2) (λl hl=>(z2 l hl).cG) (z3▸rl)) (z3▸rl);rw[<-k2] at hl;refine oea (Zn.mp hl) λp hp bU=>?_;subst bU;refine oea (z4 p hp) λl hl zv=>?_;refine oea (dX zv (cU.mpr hv)) λz hz e=>?_;exact⟨z,Zm.mpr ⟨l,hl,hz⟩,e⟩
 . -- the rest
   have wn:∀s,s≠ "prim"->s≠ "setglobal"->o.bC≠s:=λs h1 h2 e=>w.elim (λz=>h1 (e.symm.trans z)) λz=>h2 (e.symm.trans z);have w1:=beq_eq_false_iff_ne.mpr (wn "const" (by decide) (by decide));have w2:=beq_eq_false_iff_ne.mpr (wn "fun" (by decide) (by decide));have w3:=beq_eq_false_iff_ne.mpr (wn "fix" (by decide) (by decide));have oa:=O.args;nofun;refine lM W M hs oa na λh1 g zs e1 n1 z1 z2=>?_;nofun;refine r_newCOp W rfl rfl rfl rfl λa h2 e2 n2 f2=>?_;nofun;have zl:zs.length=o.args.length:=by rw[<-z1,Za]
   refine q1 h2 ⟨a,o.bC,.int n0,.int o.number,g,0,[⟨0,.int n0,.int o.number,g,zs⟩]⟩ (e1.trans e2) (.one (news_at (e1.none n2) f2) (wn _ (by decide) (by decide)) (z2.ext (bQ e2)) λe=>absurd e (wn _ (by decide) (by decide))) ?_ (by rw[fx,zl];exact Zf (N.CR b hb o ho).1 (by decide)) (ZC rfl);rw[fx];exact⟨λv hv=>dX z1 hv,by rw[a1];exact λ_ z=>nomatch z⟩
theorem uX{l:Int}{c:ax}(hc:c∈bm P R l):c∈af P R:=
 oa (ZH.mp hc) λh1 h2=>ay.mpr ⟨h1,ii (Zj.mp h2).1⟩
theorem r0(W:Wd Φ γ)(N:aL P)(M:xY h P y R ad ds F m rb bq)(hs:du h m.sl ks){l:Int}(k:∀c∈bm P R l,cv c.aa∈ks/\∀v∈F c.aa,Named ad ks bq v)
 (q:∀h' a (cs:List CO),Ext h h'->h a=none->h' a=some (.list (cs.map λc=>.ref c.ad))->(∀c∈cs,zH P R F bq (news h h') c)->(∀c∈bm P R l,∀v∈F c.aa,∃z∈cs.flatMap CO.aQ,z.ae=v)->(cs.flatMap CO.aQ).length<=64*63->(cs.flatMap (·.lines)).length<=64->cs.length<=1->Q (.ref a) h'):
 Φ "made_conts" [.ref m.ad,.int l] h Q:=by
 refine W.cl rfl rfl ?_;have self:=M.self;have ys:=M.all.lay.self;have ml:=eH (R:=R) (l:=l) N;nofun;refine jz W N M.all.lay λal h1 e1 n1 f1=>?_;nofun;refine comp_map W.aV ch (λc=>V.int (cv c.aa)) (bm P R l) f1 (λc h2 hc e2 K hK=>?_) λav h2 e2 n2 f2=>?_
 . nofun;exact hK h2 e2
 have xU:=e2.at f1;have kD:=e1.trans e2;have M2:=M.ext kD;have I4:=hs.ext kD;have KF:=M2.self;have ys2:=M2.all.lay.self;have yf2:=M2.all.fD;have yn2:=M2.num;have Ez:∀c∈bm P R l,c∈af P R:=λc=>uX
 cases z:bm P R l with
 |nil=>
  rw[z] at xU;nofun;intro a3 h3 A3;nofun;refine q h3 a3 [] (kD.trans A3.ext) (kD.none A3.new) A3.at (λ_ z=>nomatch z) (by rw[z];exact λ_ z=>nomatch z) (ZS _) (ZS _) (ZS _)
 |cons c r=>
  have hc:c∈bm P R l:=by rw[z];exact Ze
  have IC:=Ez c hc;refine oea (oo M.all.eq IC) λw hw ew=>?_;have lk:=dY (f:=(·.f)) N M.all.eq hw;have fw:=M2.all.at_ w hw;rw[ew] at lk fw;refine oea (kS (R:=R) N IC) λi hi ln=>?_;refine oeaa (id I4) λes s1 s2 s3=>?_;refine oea (eI (es:=es) (by rw[s2];exact(k c hc).1)) λu lu hm=>?_;refine oe (s3 _ hm) λn0 Jd=>?_;have Jd:u= .int n0:=Jd;subst Jd;have IT:dm (List.map (λc:ax=>V.int (cv c.aa)) (c::r)) 0=some (.int (cv c.aa)):=rfl;have SF:dm (List.map ch (c::r)) 0=some (.int c.aa):=rfl;rw[z] at f2 xU;have fixed:wp Φ γ (.az (.int (-1))<|.az (sv "closefix")<|.ae "maker"<|.ae "variables"<|.ae "labels"<|.call "fix_rows" 3<|.mk .list 0<|.new "COp" "COp.__init__" 4<|.mk .list 1<|.ret) (bc (bc (iG ["maker","label"] [V.ref m.ad,V.int l]) "labels" (.ref al)) "variables" (.ref av)) [] h2 (tv Q):=by
   nofun;refine o_ W N M2 I4 (rows:=(c::r).map λc=>(cv c.aa,c)) (by rw[f2,Zt];rfl) (by rw[xU,Zt];rfl) (by rw[<-z,Za];exact ml) (λp hp=>?_) λh4 d ls e4 n4 z1 z2 z3 z4=>?_
   . rw[<-z] at hp;refine oea (Zn.mp hp) λc hc cu=>?_;subst cu;exact⟨(k c hc).1,Ez c hc,(k c hc).2⟩
   nofun;intro g h5 A5;refine r_newCOp W rfl rfl rfl rfl λa h6 e6 n6 f6=>?_;nofun;intro a7 h7 A7;nofun;have Er:=A5.ext.trans (e6.trans A7.ext);rw[<-z] at z3 z4;rw[Za] at z3;have e':Ext (news h2 h4) (news h h7):=(dO kD).trans (bQ Er);refine q h7 a7 [⟨a,"closefix",.int (-1),.ref d,g,d,ls⟩] (kD.trans (e4.trans Er)) (kD.none (e4.none (A5.ext.none (e6.none A7.new)))) A7.at (λc hc=>?_) (λc hc v hv=>?_) ?_ (by rw[ZF];exact z3▸ml) (Zs _)
   . rw[Zc.mp hc];exact .many (news_at (kD.none (e4.none (A5.ext.none n6))) (A7.ext.at f6)) (e'.at z1) λl hl=>(z2 l hl).ext e'
   . refine oea (z4 (cv c.aa,c) (Zn.mpr ⟨c,hc,rfl⟩)) λl hl zv=>?_;refine oea (dX zv (cU.mpr hv)) λz hz e=>?_;rw[ZF];exact⟨z,Zm.mpr ⟨l,hl,hz⟩,e⟩
   . rw[ZF];exact gL (λl hl=>(z2 l hl).cG) (z3▸ml)
  nofun;refine r_and (!(F c.aa).contains (cv c.aa)) (λ_ K hK=>?_) ?_
  . nofun;exact hK
  refine r_ite (λRx=>?_) λRx=>?_
  . have c1:=beq_iff_eq.mp (Zj.mp Rx).1;rw[Za] at c1;have hr:r=[]:=by
     cases r with
     |nil=>rfl
     |cons _ _=>simp only[Yn] at c1;exact False.elim ((aj 0x1b101010012252110) _ c1)
    subst hr;nofun;refine eZ W N M2 I4 IC (k c hc).2 λh3 g zs e3 n3 z1 z2=>?_;nofun;refine r_newCOp W rfl rfl rfl rfl λa h5 e5 n5 f5=>?_;nofun;intro a6 h6 A6;nofun;have zl:=rT z1;refine q h6 a6 [⟨a,"close",.int n0,.int i,g,0,[⟨0,.int n0,.int i,g,zs⟩]⟩] (kD.trans (e3.trans (e5.trans A6.ext))) (kD.none (e3.none (e5.none A6.new))) A6.at (λc' ip=>?_) (λc' ip v hv=>?_) (by rw[ZF,fx,zl];exact Zf (ZI (M.cG _ IC)) (by decide)) (ZC rfl) (Zs _)
    . rw[Zc.mp ip];exact .one (news_at (kD.none (e3.none n5)) (A6.ext.at f5)) (by decide) (z2.ext ((dO kD).trans (bQ (e5.trans A6.ext)))) λ_=>⟨i,c,hi,rfl,zl⟩
    . rw[z] at ip;rw[Zc.mp ip] at hv;rw[ZF,fx];exact dX z1 (cU.mpr hv)
  . exact r_done_sq fixed
end
end
section
section
variable {Φ:Calls}{γ:String->Option V}{im h:Hp}{Q:V->Hp->Prop}{P:aI}{R:List Int}
variable {y:Lay}{ad:List (Int×V)}{ds:List Row}{F:Int->List Int}{m:tj}{rb:ax}{bq ks:List Int}{av:List Nat}
theorem r_newCL{k':C}{ρ:Lo}{st:List V}{Q:Po}(W:Wd Φ γ){s hd g k b:V}(n1:cH s=false)(n2:cH hd=false)(n3:cH g=false)(n4:cH k=false)(n5:cH b=false)
 (q:∀a h',Ext h h'->h a=none->h' a=some (.inst "CLast" [("sort",s),("head",hd),("args",g),("k",k),("blocks",b)])->wp Φ γ k' ρ (.ref a::st) h' Q):wp Φ γ (.new "CLast" "CLast.__init__" 5 k') ρ (b::k::g::hd::s::st) h Q:=by
 refine r_new rfl λa h0 A=>W.cl rfl rfl ?_;have n:=A.new;nofun;intro h1 p1;nofun;intro h2 p2;nofun;intro h3 p3;nofun;intro h4 p4;nofun;intro h5 p5;exact r_done ⟨rfl,q a h5 (p5.im (p4.im (p3.im (p2.im (p1.im A.ext n) n) n) n) n) n p5.at⟩
theorem r_newCB{k':C}{ρ:Lo}{st:List V}{Q:Po}(W:Wd Φ γ){s g:V}(n1:cH s=false)(n2:cH g=false)
 (q:∀a h' o,Ext h h'->h a=none->h o=none->o≠a->h' a=some (.inst "CBlock" [("number",s),("params",g),("ops",.ref o),("last",.none)])->h' o=some (.list [])->wp Φ γ k' ρ (.ref a::st) h' Q):wp Φ γ (.new "CBlock" "CBlock.__init__" 2 k') ρ (g::s::st) h Q:=by
 refine r_new rfl λa h0 A=>W.cl rfl rfl ?_;have n:=A.new;nofun;intro h1 p1;nofun;intro h2 p2;have e2:=p2.im (p1.im A.ext n) n;nofun;intro o h3 A3;have oa:o≠a:=(A3.ne p2.at).symm;have f3:=A3.ext.at p2.at;nofun;intro h4 p4;nofun;intro h5 p5;exact r_done ⟨rfl,q a h5 o (p5.im (p4.im (A3.im e2) n) n) n (e2.none A3.new) oa p5.at (p5.to oa (p4.to oa A3.at))⟩
theorem hH{a:Nat}{h1 h2:Hp}(e:Ext (aG a h) h1)(e':Ext (aG a h1) h2):Ext (aG a h) h2:=(bg e ao).trans e'
theorem gZ{a:Nat}{h':Hp}(e:Ext h h'):Ext (aG a h) h':=aU.trans e
theorem oK{a:Nat}{o:O}{h':Hp}(p:Put h a o h'):Ext (aG a h) h':=p.im aU ao
structure iq(P:aI)(R:List Int)(F:Int->List Int)(bq:List Int)(im:Hp)(ex:Nat)(av:List Nat)(h:Hp)(xs:List CB):Prop where
 ext:Ext im (aY (ex::av) h)
 live:jL (ex::av) h
 at_:h ex=some (.list (xs.map oh))
 ok:∀b∈xs,Eu P R F bq (news im (aY (ex::av) h)) b
theorem iq.to{ex:Nat}{xs:List CB}{Oe:List Nat}{h':Hp}(x:iq P R F bq im ex av h xs)(e:Ext (aY (ex::av) h) (aY (ex::Oe) h'))(l:jL (ex::Oe) h')(f:h' ex=some (.list (xs.map oh))):iq P R F bq im ex Oe h' xs:=
 ⟨x.ext.trans e,l,f,λb hb=>(x.ok b hb).ext (bQ e)⟩
theorem iq.old{ex:Nat}{xs:List CB}(x:iq P R F bq im ex av h xs):Ext im h:=x.ext.trans bj
theorem iq.none{ex:Nat}{xs:List CB}(x:iq P R F bq im ex av h xs):im ex=Option.none:=x.ext.none (cB Ze)
theorem iq.more{ex:Nat}{xs:List CB}{h':Hp}(x:iq P R F bq im ex av h xs)(e:Ext h h'):iq P R F bq im ex av h' xs:=x.to (bu (λ_=>.inl) e) (x.live.ext e) (e.at x.at_)
theorem iq.avoid{ex:Nat}{xs:List CB}{h':Hp}(x:iq P R F bq im ex av h xs)(e:Ext h h'){a:Nat}(n:h a=Option.none)(n':h' a≠Option.none):iq P R F bq im ex (a::av) h' xs:=
 x.to (bu (λz m=>by
  rcases Zp.mp m with rfl|m
  . exact .inl Ze
  . rcases Zp.mp m with rfl|m
    . exact .inr n
    . exact .inl (Zh _ m)) e) (λz m=>by
  rcases Zp.mp m with rfl|m
  . exact x.live.ext e z Ze
  . rcases Zp.mp m with rfl|m
    . exact n'
    . exact x.live.ext e z (Zh _ m)) (e.at x.at_)
theorem iq.put{ex:Nat}{xs:List CB}{h':Hp}{a:Nat}{o:O}(x:iq P R F bq im ex (a::av) h xs)(ne:a≠ex)(p:Put h a o h'):iq P R F bq im ex av h' xs:=by
 have e:aY (ex::a::av) h'=aY (ex::a::av) h:=fh (Zh _ Ze) p;refine x.to (e▸bu (λz m=>.inl ?_) .refl) (λz m=>x.live.put p z ?_) (p.to (Yq ne) x.at_)<;>
 . rcases Zp.mp m with rfl|m
   . exact Ze
   . exact Zh _ (Zh _ m)
theorem iq.frame{ex e:Nat}{xs:List CB}{h':Hp}(x:iq P R F bq im ex av h xs)(he:e∈av)(ne:e≠ex)(fr:Ext (aG e h) h')(n:h' e≠Option.none):iq P R F bq im ex av h' xs:=by
 have st:∀z,z≠e->h z≠Option.none->h' z=h z:=λz hz ho=>(fr z (by rwa [hide_ne hz])).trans (hide_ne hz);refine x.to (λz hz=>?_) (λz m=>?_) ((st ex (Yq ne) (aF x.at_)).trans x.at_)
 . have nS:z∉ex::av:=λm=>hz (cB m);rw[aW nS] at hz ⊢;rw[aW nS,st z (λk=>nS (k▸Zh _ he)) hz]
 . by_cases ze:z=e
   . exact ze▸n
   . rw[st z ze (x.live z m)];exact x.live z m
theorem iq.push{ex:Nat}{xs:List CB}{b:CB}{h' cR:Hp}(x:iq P R F bq im ex av h' xs)(l:jL (ex::av) h)(e:Ext im h)(B:Eu P R F bq (news h h') b)(p:Put h' ex (.list (xs.map oh++[oh b])) cR):iq P R F bq im ex av cR (xs++[b]):=by
 have eq:aY (ex::av) cR=aY (ex::av) h':=fh Ze p;refine⟨eq▸x.ext,x.live.put p,by rw[p.at,Zq];rfl,λc hc=>?_⟩;rw[eq];rcases Zg.mp hc with hc|hc
 . exact x.ok c hc
 . rw[Zc.mp hc];exact B.ext (.mk λz=>oa (cT z) λa1 a2=>news_at (e.none a1) ((aW λm=>l _ m a1).trans a2))
theorem iq.KV{ex a:Nat}{xs:List CB}{h':Hp}{o:O}(x:iq P R F bq im ex av h xs)(ha:a∈av)(ne:a≠ex)(p:Put h a o h'):iq P R F bq im ex av h' xs:=
 x.frame ha ne (oK p) (aF p.at)
structure Ready(P:aI)(R:List Int)(F:Int->List Int)(ad:List (Int×V))(ks bq:List Int)(rb:ax):Prop where
 aQ:∀b∈bM P R rb,∀v∈bZ R b,Named ad ks bq v
 inner:∀b∈bM P R rb,∀l∈ct P R b,∀v∈F l,Named ad ks bq v
 Lp:∀b∈bM P R rb,∀o∈b.aM,o.bC="fix"->∀v∈o.bO,v∈ks
 Lz:∀b∈bM P R rb,∀c∈bm P R b.aa,cv c.aa∈ks
 params:∀b∈bM P R rb,b.aa≠rb.aa->∀v∈b.params,v∈ks
noncomputable def nV(P:aI)(R:List Int)(rb:ax)(h:Hp)(pl:Nat):Prop:=∃i9,h pl=some (.dict i9)/\∀b∈bM P R rb,∃i:Int,i9.lookup b.aa=some (.int i)
noncomputable def Jw(zs:List Z)(v:Int):Prop:=∃z∈zs,z.ae=v
noncomputable def kG(xs:List CB)(v:Int):Prop:=∃b∈xs,Jw b.aQ v
theorem kG.more{xs ys:List CB}{v:Int}(x:kG xs v)(e:∀b∈xs,b∈ys):kG ys v:=oea x λb hb z=>⟨b,e b hb,z⟩
theorem lK{bq:List Int}{H:Hp}{z:Z}(x:wT H bq z):∀z',some z=some z'->wT H bq z':=λ_ e=>Z2 e▸x
theorem lN{bq:List Int}{H:Hp}:∀z',(none:Option Z)=some z'->wT H bq z':=λ_ e=>nomatch e
theorem mU(W:Wd Φ γ)(M:xY im P y R ad ds F m rb bq)(hs:du im m.sl ks)(hp:nV P R rb im m.pl){xs:List CB}(X:iq P R F bq im m.ex av h xs){t:ax}(nm:t.aa∈R->Named ad ks bq (cv t.aa))(hm:t.aa∉R->t∈bM P R rb)(hx:xs.length<1000)
 (q:∀h' k pV,Ext (aG m.ex h) h'->h' m.ex≠none->iq P R F bq im m.ex av h' pV->(t.aa∈R->kG pV (cv t.aa))->(∀b∈xs,b∈pV)->pV.length<=xs.length+1->Q (.int k) h'):Φ "way_block" [.ref m.ad,.int t.aa] h Q:=by
 refine W.cl rfl rfl ?_;have e:=X.old;have self:=M.self;have ys:=M.all.lay.self;refine oea hp λi9 p1 p2=>?_;try clear hp
 have NU:=X.at_;nofun;refine lX W (M.all.lay.ext e) ?_;nofun;refine r_ite (λc=>?_) λc=>?_
 . have c:=jZ (nt c);refine oe (p2 t (hm c)) λi hi=>?_;nofun;exact q h i xs aU (aF NU) X (λz=>absurd z c) (λ_ h=>h) (Yk _)
 . have c:=ii (nf c);nofun;intro g h1 A1;refine r_newCB W rfl rfl λf h3 o e3 Tm Tl of f3 o3=>?_;have lG:=A1.ext.trans e3;have C0:=e.trans lG;nofun;intro g2 h4 A4;have CJ:=A4.im C0;nofun;refine n_ W (M.ext CJ) (hs.ext CJ) (nm c) λh5 z e5 n5 zv zo=>?_;nofun;intro g3 h6 A6;refine r_newCL W rfl rfl rfl rfl rfl λcl h8 e8 n8 f8=>?_;have N3:=A4.ext.trans (e5.trans (A6.ext.trans e8));have f38:=N3.at f3;nofun;intro h9 p9;have fr:h f=none:=A1.ext.none Tm;have z7:f≠m.ex:=(aB fr NU).symm;have MA:Ext h h9:=p9.im (lG.trans N3) fr;have x9:=MA.at NU;have im9:=e.trans MA;nofun;refine r_app x9 (by rw[Za];exact ZL hx (by decide)) λio nN=>?_;have Fv:=nN.to z7 p9.at
   let b:CB:=⟨f,.int (i9.length+xs.length),.ref g,o,[],⟨cl,"give",g2,g3,[],none,some z⟩⟩
   have v9:∀{x ob},x≠f->h8 x=some ob->h9 x=some ob:=λn e=>p9.to n e;have B:Eu P R F bq (news h h9) b:=by
    refine⟨news_at fr ?_,news_at (A1.ext.none Tl) (v9 of (N3.at o3)),(λ_ z=>nomatch z),⟨news_at (lG.none (A4.ext.none (e5.none (A6.ext.none n8)))) (v9 ?_ f8),⟨news_at (lG.none A4.new) (v9 (A4.ne f3).symm ((e5.trans (A6.ext.trans e8)).at A4.at)),λ_ z=>nomatch z⟩,lN,lK ?_⟩,ZC rfl,ZS _⟩
    . have:=p9.at;rw[Za] at this;exact this
    . exact(aB n8 ((A4.ext.trans (e5.trans A6.ext)).at f3)).symm
    . have:=cT zo.at_;exact⟨news_at ((lG.trans A4.ext).none this.1) (v9 (aB this.1 (A4.ext.at f3)).symm ((A6.ext.trans e8).at this.2)),zo.ok⟩
   nofun;exact q io _ (xs++[b]) (hH (gZ MA) (oK nN)) (aF nN.at) ((X.more MA).push X.live e B nN) (λ_=>⟨b,Zi _ Ze,z,Ze,zv⟩) (λc hc=>Zd _ hc) (by rw[Zb];exact Zs _)
end
end
section
section
variable {Φ:Calls}{γ:String->Option V}{im h:Hp}{Q:V->Hp->Prop}{P:aI}{R:List Int}
variable {y:Lay}{ad:List (Int×V)}{ds:List Row}{F:Int->List Int}{m:tj}{rb:ax}{bq ks:List Int}{av:List Nat}
theorem BW{b:ax}{v:Int}(h:v∈b.ag.aQ):v∈bZ R b:=Zi _ (Zd _ h)
theorem wv{b:ax}{t:Int}(h:t∈b.ag.bf)(r:t∈R):cv t∈bZ R b:=Zi _ (Zi _ (Zn.mpr ⟨t,ZH.mpr ⟨h,Z0.mpr r⟩,rfl⟩))
theorem oB{p:Prop}[Decidable p]{i v:Int}:v∈(if p then [i] else [])↔p/\v=i:=by split<;>simp[*]
theorem cV{b:ax}{v:Int}:v∈bS R b↔v∈b.ag.args\/(0<=b.ag.fn/\v=b.ag.fn)\/(0<=b.ag.ae/\v=b.ag.ae)\/(0<=b.ag.to/\b.ag.to∈R/\v=cv b.ag.to)\/(0<=b.ag.other/\b.ag.other∈R/\v=cv b.ag.other):=by
 unfold bS Last.aQ Last.bf;simp only[Zg,Zn,ZH,oB,Z0];constructor
 . rintro ((h|h|h)|⟨t,⟨⟨a,rfl⟩|⟨a,rfl⟩,r⟩,rfl⟩)
   . exact .inl h
   . exact .inr (.inl h)
   . exact .inr (.inr (.inl h))
   . exact .inr (.inr (.inr (.inl ⟨a,r,rfl⟩)))
   . exact .inr (.inr (.inr (.inr ⟨a,r,rfl⟩)))
 . rintro (h|h|h|⟨a,r,h⟩|⟨a,r,h⟩)
   . exact .inl (.inl h)
   . exact .inl (.inr (.inl h))
   . exact .inl (.inr (.inr h))
   . exact .inr ⟨_,⟨.inl ⟨a,rfl⟩,r⟩,h.symm⟩
   . exact .inr ⟨_,⟨.inr ⟨a,rfl⟩,r⟩,h.symm⟩
theorem dW{x:Int}(e:x= -1):¬ 0<=x:=by rw[e];decide
theorem uP(W:Wd Φ γ)(N:aL P)(M:xY im P y R ad ds F m rb bq)(hs:du im m.sl ks)(hp:nV P R rb im m.pl)(RD:Ready P R F ad ks bq rb){xs:List CB}(X:iq P R F bq im m.ex av h xs){b:ax}(hb:b∈bM P R rb)(hx:xs.length<900)
 (q:∀h' c pV,Ext (aG m.ex h) h'->h' m.ex≠none->iq P R F bq im m.ex av h' pV->Jy bq (news h h') c->(∀b∈xs,b∈pV)->pV.length<=xs.length+2->(∀v∈bS R b,Jw c.aQ v\/kG pV v)->c.aQ.length<=4->Q (.ref c.ad) h'):
 Φ "made_last" [.ref m.ad,.ref b.ag.ad] h Q:=by
 refine W.cl rfl rfl ?_;have e:=X.old;have g1:=W.uq;have g2:=W.A_;have g3:=W.Ba;have LR:=M.all.least;have r1:=LR.cg.one N;have lC:=ay.mp M.root;have cE:=cq lC.1 hb;have self:=M.self;have ys:=M.all.lay.self;have ls:=(M.all.lay.prog.aS b cE).ag.self;have la:=(M.all.lay.prog.aS b cE).ag.args;have mG:=N.mG b cE;have Nd:∀v∈b.ag.aQ,Named ad ks bq v:=λv hv=>RD.aQ b hb v (BW hv);have L4:∀v∈b.ag.args,Named ad ks bq v:=λv hv=>Nd v (Zd _ hv);have Qm:0<=b.ag.fn->Named ad ks bq b.ag.fn:=λz=>Nd _ (Zi _ (Zd _ (oB.mpr ⟨z,rfl⟩)));have Ql:0<=b.ag.ae->Named ad ks bq b.ag.ae:=λz=>Nd _ (Zi _ (Zi _ (oB.mpr ⟨z,rfl⟩)));have M3:0<=b.ag.to->b.ag.to∈b.ag.bf:=λz=>Zd _ (oB.mpr ⟨z,rfl⟩);have tg:∀t∈b.ag.bf,∃c∈P.ap,c.aa=t/\(c.aa∈R->Named ad ks bq (cv c.aa))/\(c.aa∉R->c∈bM P R rb):=λt ht=>by
  refine oeaa (N.vp b cE t ht) λc hc bU _=>?_;subst bU;refine⟨c,hc,rfl,λr=>RD.aQ b hb _ (wv ht r),λr=>(gK N r1 lC.1 lC.2).mpr ⟨hc,?_⟩⟩;rw[LR.closed b cE _ ht r];exact((gK N r1 lC.1 lC.2).mp hb).2
 have zl:∀{zs:List Z},zs.map Z.ae=b.ag.args->zs.length<=1:=λz=>by rw[<-z,Za] at mG;exact mG
 unfold v5 at ls;rcases N.lw b cE with ⟨w,k1,k2,k3,k4,k5⟩|⟨w,k1,k2,k3,k4⟩|⟨w,k1,k2,k3,k4⟩|⟨w,k1,k2,k3⟩<;>rw[w] at ls
 . -- if
   refine oeaaa (tg b.ag.to (M3 k2)) λt1 QO CI Ip Mc=>?_;refine oeaaa (tg b.ag.other (Zi _ (oB.mpr ⟨k3,rfl⟩))) λt2 ht2 NY Te TA=>?_;rw[<-CI,<-NY] at ls;nofun;refine mU W M hs hp X Ip Mc (ZL hx (by decide)) λh1 i1 xs1 e1 o1 X1 c1 s1 l1=>?_;have ti:=X1.old;nofun;refine mU W M hs hp X1 Te TA (Zk l1 (ZL (Nat.succ_lt_succ hx) (by decide))) λh2 i2 Sn e2 o2 X2 c2 s2 l2=>?_;have kD:=X2.old;nofun;intro a3 h3 A3;have C0:=A3.im kD;nofun;refine n_ W (M.ext C0) (hs.ext C0) (Qm k1) λh4 z e4 n4 zv zo=>?_;nofun;intro a5 h5 A5;nofun;refine r_newCL W rfl rfl rfl rfl rfl λa6 h7 e7 n6 f7=>?_;nofun;have N4:=A3.ext.trans (e4.trans (A5.ext.trans e7));have Rn:=hH e1 e2;have fresh:∀x,h2 x=none->h x=none:=λx hx=>by
    have:=Rn.none hx
    rwa [hide_ne λ(zz:x=m.ex)=>o2 (zz▸hx)] at this
   refine q h7 ⟨a6,"if",a5,a3,[],some z,none⟩ Sn (hH Rn (gZ N4)) (by rw[N4 _ o2];exact o2) (X2.more N4) ⟨news_at (fresh _ (A3.ext.none (e4.none (A5.ext.none n6)))) f7,⟨news_at (fresh _ (A3.ext.none (e4.none A5.new))) (e7.at A5.at),λ_ z=>nomatch z⟩,lK ?_,lN⟩ (λb hb=>s2 b (s1 b hb)) (Zf l2 (YH l1)) (λv hv=>?_) (ZC rfl)
   . have:=cT zo.at_;exact⟨news_at (fresh _ (A3.ext.none this.1)) ((A5.ext.trans e7).at this.2),zo.ok⟩
   . rcases cV.mp hv with h|⟨_,h⟩|⟨z,_⟩|⟨_,r,h⟩|⟨_,r,h⟩
     . rw[k4] at h;cases h
     . exact .inl ⟨z,Ze,by rw[zv,h]⟩
     . exact absurd z (dW k5)
     . rw[h,<-CI];exact .inr ((c1 (by rw[CI];exact r)).more s2)
     . rw[h,<-NY];exact .inr (c2 (by rw[NY];exact r))
 . -- jump
   refine oeaaa (tg b.ag.to (M3 k1)) λt1 QO CI Ip Mc=>?_;rw[CI] at Ip;nofun;refine lX W (M.all.lay.ext e) ?_;refine r_ite (λc=>?_) λc=>?_
   . have c:=ii c;nofun;refine lM W (M.ext e) (hs.ext e) (e.at la) L4 λh1 g zs e1 n1 z1 z2=>?_;have ti:=e.trans e1;nofun;refine n_ W (M.ext ti) (hs.ext ti) (Ip c) λh2 z e2 n2 zv zo=>?_;nofun;intro a3 h3 A3;refine r_newCL W rfl rfl rfl rfl rfl λa4 h5 e5 n4 f5=>?_;nofun;have qA:=e2.trans (A3.ext.trans e5);have tf:=e1.trans qA;refine q h5 ⟨a4,"give",g,a3,zs,none,some z⟩ xs (gZ tf) (aF (tf.at X.at_)) (X.more tf) ⟨news_at (e1.none (e2.none (A3.ext.none n4))) f5,z2.ext (bQ qA),lN,lK (zo.ext ((dO e1).trans (bQ (A3.ext.trans e5))))⟩ (λb hb=>hb) (ZE _ _) (λv hv=>?_) (by rw[CL.aQ,Zb];exact Zf (ZP (zl z1) _) (ZC rfl));rcases cV.mp hv with h|⟨z,_⟩|⟨z,_⟩|⟨_,r,h⟩|⟨z,_⟩
     . refine oea (dX z1 h) λx hx ev=>?_;exact .inl ⟨x,Zd _ hx,ev⟩
     . exact absurd z (dW k3)
     . exact absurd z (dW k4)
     . exact .inl ⟨z,Zi _ Ze,by rw[zv,h];rfl⟩
     . exact absurd z (dW k2)
   . have c:=jZ c;refine oea hp λi9 p1 p2=>?_;try clear hp
     refine oe (p2 t1 (Mc (by rw[CI];exact c))) λi hi=>?_;rw[CI] at hi;nofun;refine lM W (M.ext e) (hs.ext e) (e.at la) L4 λh1 g zs e1 n1 z1 z2=>?_;have ti:=e.trans e1;have Qv:=ti.at ls;nofun;intro a3 h3 A3;refine r_newCL W rfl rfl rfl rfl rfl λa4 h5 e5 n4 f5=>?_;nofun;have qA:=A3.ext.trans e5;have tf:=e1.trans qA;refine q h5 ⟨a4,"goto",g,a3,zs,none,none⟩ xs (gZ tf) (aF (tf.at X.at_)) (X.more tf) ⟨news_at (e1.none (A3.ext.none n4)) f5,z2.ext (bQ qA),lN,lN⟩ (λb hb=>hb) (ZE _ _) (λv hv=>?_) (by rw[CL.aQ,Zb];exact Zf (ZP (zl z1) _) (ZC rfl));rcases cV.mp hv with h|⟨z,_⟩|⟨z,_⟩|⟨_,r,h⟩|⟨z,_⟩
     . refine oea (dX z1 h) λx hx ev=>?_;exact .inl ⟨x,Zd _ hx,ev⟩
     . exact absurd z (dW k3)
     . exact absurd z (dW k4)
     . exact absurd r c
     . exact absurd z (dW k2)
 . -- give
   nofun;refine lM W (M.ext e) (hs.ext e) (e.at la) L4 λh1 g zs e1 n1 z1 z2=>?_;have ti:=e.trans e1;have Qv:=ti.at ls;nofun;refine n_ W (M.ext ti) (hs.ext ti) (Ql k1) λh2 z e2 n2 zv zo=>?_;nofun;intro a3 h3 A3;refine r_newCL W rfl rfl rfl rfl rfl λa4 h5 e5 n4 f5=>?_;nofun;have qA:=e2.trans (A3.ext.trans e5);have tf:=e1.trans qA;refine q h5 ⟨a4,"give",g,a3,zs,none,some z⟩ xs (gZ tf) (aF (tf.at X.at_)) (X.more tf) ⟨news_at (e1.none (e2.none (A3.ext.none n4))) f5,z2.ext (bQ qA),lN,lK (zo.ext ((dO e1).trans (bQ (A3.ext.trans e5))))⟩ (λb hb=>hb) (ZE _ _) (λv hv=>?_) (by rw[CL.aQ,Zb];exact Zf (ZP (zl z1) _) (ZC rfl));rcases cV.mp hv with h|⟨z,_⟩|⟨_,h⟩|⟨z,_⟩|⟨z,_⟩
   . refine oea (dX z1 h) λx hx ev=>?_;exact .inl ⟨x,Zd _ hx,ev⟩
   . exact absurd z (dW k2)
   . exact .inl ⟨z,Zi _ Ze,by rw[zv,h]⟩
   . exact absurd z (dW k3)
   . exact absurd z (dW k4)
 . -- call
   have go:∀kv,Named ad ks bq kv->(∀v∈bS R b,v∈b.ag.args\/v=b.ag.fn\/v=kv)->wp Φ γ (.az (sv "call")<|.ae "maker"<|.bL "UnitMaker"<|.ae "last"<|.u (.attr "fun")<|.call "UnitMaker.arg" 2<|.ae "maker"<|.bL "UnitMaker"<|.ae "last"<|.u (.attr "args")<|.call "UnitMaker.args" 2<|.ae "maker"<|.bL "UnitMaker"<|.ae "var"<|.call "UnitMaker.arg" 2<|.mk .list 0<|.new "CLast" "CLast.__init__" 5<|.ret) (bc (iG ["maker","last"] [.ref m.ad,.ref b.ag.ad]) "var" (.int kv)) [] h (tv Q):=λkv nk ek=>by
    nofun;refine n_ W (M.ext e) (hs.ext e) (Qm k1) λh1 zf e1 n1 Sh Si=>?_;have ti:=e.trans e1;have Qv:=ti.at ls;have wW:=ti.at self;nofun;refine lM W (M.ext ti) (hs.ext ti) (ti.at la) L4 λh2 g zs e2 n2 z1 z2=>?_;have kD:=ti.trans e2;have KF:=kD.at self;nofun;refine n_ W (M.ext kD) (hs.ext kD) nk λh3 z e3 n3 zv zo=>?_;nofun;intro a4 h4 A4;refine r_newCL W rfl rfl rfl rfl rfl λa5 h6 e6 n5 f6=>?_;nofun;have Fz:=e3.trans (A4.ext.trans e6);have N5:=e1.trans (e2.trans Fz);refine q h6 ⟨a5,"call",g,a4,zs,some zf,some z⟩ xs (gZ N5) (aF (N5.at X.at_)) (X.more N5) ⟨news_at (e1.none (e2.none (e3.none (A4.ext.none n5)))) f6,z2.ext ((dO e1).trans (bQ Fz)),lK (Si.ext (bQ (e2.trans Fz))),lK (zo.ext ((dO (e1.trans e2)).trans (bQ (A4.ext.trans e6))))⟩ (λb hb=>hb) (ZE _ _) (λv hv=>?_) (by rw[CL.aQ,Zb];exact Zf (ZP (zl z1) _) (ZC rfl));rcases ek v hv with h|h|h
    . refine oea (dX z1 h) λx hx ev=>?_;exact .inl ⟨x,Zd _ hx,ev⟩
    . exact .inl ⟨zf,Zi _ Ze,by rw[Sh,h]⟩
    . exact .inl ⟨z,Zi _ (Zh _ Ze),by rw[zv,h]⟩
   nofun;refine r_dec (λa1=>?_) λa1=>?_
   . refine oeaaa (tg b.ag.to (M3 a1)) λt1 QO CI Ip Mc=>?_;have c':b.ag.to∈R:=LR.cg b cE _ (.inr ⟨w,a1,rfl⟩);refine r_var rfl (r_attr (e.at ls) rfl (r_call1 (p_closure_var W (r_done_sq (r_asg ?_)))));refine go (cv b.ag.to) (by rw[<-CI];exact Ip (by rw[CI];exact c')) λv hv=>?_;rcases cV.mp hv with h|⟨_,h⟩|⟨z,_⟩|⟨_,r,h⟩|⟨z,_⟩
     . exact .inl h
     . exact .inr (.inl h)
     . rcases k3 with ⟨_,a2⟩|⟨a2,_⟩
       . exact absurd z (dW a2)
       . exact absurd a1 (dW a2)
     . exact .inr (.inr h)
     . exact absurd z (dW k2)
   . have a2:=(k3.resolve_left λz=>a1 z.1).2;refine r_var rfl (r_attr (e.at ls) rfl (r_done_sq (r_asg ?_)));refine go b.ag.ae (Ql a2) λv hv=>?_;rcases cV.mp hv with h|⟨_,h⟩|⟨_,h⟩|⟨z,_⟩|⟨z,_⟩
     . exact .inl h
     . exact .inr (.inl h)
     . exact .inr (.inr h)
     . exact absurd z a1
     . exact absurd z (dW k2)
end
end
section
section
variable {Φ:Calls}{γ:String->Option V}{im h:Hp}{Q:V->Hp->Prop}{P:aI}{R:List Int}
variable {y:Lay}{ad:List (Int×V)}{ds:List Row}{F:Int->List Int}{m:tj}{rb:ax}{bq ks:List Int}{av:List Nat}
theorem r_join{a b k:C}{ρ:Lo}{st:List V}{Q:Po}{t:Bool}(J:Hp->V->Prop)(qa:t=true->∀K:Po,(∀h' v,J h' v->K .next ρ (v::st) h')->wp Φ γ a ρ st h K)(qb:t=false->∀K:Po,(∀h' v,J h' v->K .next ρ (v::st) h')->wp Φ γ b ρ st h K)
 (q:∀h' v,J h' v->wp Φ γ k ρ (v::st) h' Q):wp Φ γ (.ite a b k) ρ (.bool t::st) h Q:=r_ite (λz=>qa z _ q) λz=>qb z _ q
noncomputable abbrev AE(c:CO):V:=.ref c.ad
theorem Et.more{o:Op}{zs IP:List Z}(x:Et F o zs)(s:∀z∈zs,z∈IP):Et F o IP:=
 ⟨λv hv=>oea (x.1 v hv) λz hz e=>⟨z,s z hz,e⟩,λl hl v hv=>oea (x.2 l hl v hv) λz hz e=>⟨z,s z hz,e⟩⟩
structure MB(P:aI)(R:List Int)(F:Int->List Int)(bq:List Int)(h h2:Hp)(f o:Nat)(bl:O)(nc nr nl:Nat)(h':Hp)(cs:List CO):Prop where
 ext:Ext h2 h'
 fb:h' f=some bl
 ol:h' o=some (.list (cs.map AE))
 ok:∀c∈cs,zH P R F bq (news h (aY [o,f] h')) c
 len:cs.length<=nc
 rd:(cs.flatMap CO.aQ).length<=nr
 ln:(cs.flatMap (·.lines)).length<=nl
theorem MB.more{h2 h' cR:Hp}{f o nc nr nl L9 Qj Qn:Nat}{bl:O}{cs:List CO}(x:MB P R F bq h h2 f o bl nc nr nl h' cs)(e:Ext h' cR)(a:nc<=L9)(b:nr<=Qj)(c:nl<=Qn):MB P R F bq h h2 f o bl L9 Qj Qn cR cs:=
 ⟨x.ext.trans e,e.at x.fb,e.at x.ol,λc hc=>(x.ok c hc).ext (bQ (bu (λ_=>.inl) e)),Zf x.len a,Zf x.rd b,Zf x.ln c⟩
theorem MB.push{h2 h5 h6 h7:Hp}{f o nc nr nl a b c:Nat}{bl:O}{cs zT:List CO}(x:MB P R F bq h h2 f o bl nc nr nl h5 cs)(e0:Ext h h2)(of:o≠f)(no:h2 o=none)(e:Ext h5 h6)(ok:∀c∈zT,zH P R F bq (news h5 h6) c)(p:Put h6 o (.list (cs.map AE++zT.map AE)) h7)
 (la:zT.length<=a) (lb:(zT.flatMap CO.aQ).length<=b) (lc:(zT.flatMap (·.lines)).length<=c):MB P R F bq h h2 f o bl (nc+a) (nr+b) (nl+c) h7 (cs++zT):=by
 have eq:aY [o,f] h7=aY [o,f] h6:=fh Ze p;have l:jL [o,f] h5:=λz m=>by
  rcases Zp.mp m with rfl|m
  . exact aF x.ol
  . rw[Zc.mp m];exact aF x.fb
 refine⟨p.im (x.ext.trans e) no,p.to (Yq of) (e.at x.fb),by rw[p.at,Zq],λc hc=>?_,?_,?_,?_⟩
 . rw[eq];rcases Zg.mp hc with hc|hc
   . exact(x.ok c hc).ext (bQ (bu (λ_=>.inl) e))
   . exact(ok c hc).ext (.mk λz=>oa (cT z) λa1 a2=>news_at ((e0.trans x.ext).none a1) ((aW (l.out a1)).trans a2))
 . rw[Zb];exact ZR x.len la
 . rw[Zx,Zb];exact ZR x.rd lb
 . rw[Zx,Zb];exact ZR x.ln lc
theorem sd(W:Wd Φ γ)(N:aL P)(M:xY im P y R ad ds F m rb bq)(hs:du im m.sl ks)(hp:nV P R rb im m.pl)(RD:Ready P R F ad ks bq rb){xs:List CB}(X:iq P R F bq im m.ex av h xs){b:ax}(hb:b∈bM P R rb)(hx:xs.length<900){n:Int}
 (q:∀h' c pV,Ext (aG m.ex h) h'->h' m.ex≠none->iq P R F bq im m.ex av h' pV->Eu P R F bq (news h h') c->(∀b∈xs,b∈pV)->pV.length<=xs.length+2->(∀v∈bZ R b,Jw c.aQ v\/kG pV v)->(∀l∈ct P R b,∀v∈F l,Jw c.aQ v\/kG pV v)->Q (oh c) h'):
 Φ "made_block" [.ref m.ad,.int b.aa,.int n] h Q:=by
 refine W.cl rfl rfl ?_;have e:=X.old;have lC:=ay.mp M.root;have cE:=cq lC.1 hb;have self:=M.self;have ys:=M.all.lay.self;have Yp:=M.all.lay.prog;have ps:=Yp.self;have B:=Yp.aS b cE;have bs:=B.self;have bp:=B.params;have bo:=B.aM;have dq:=N.dq b cE;nofun;refine r_join (λh' v=>Ext h h'/\∃pa,v= .ref pa) (λne K hK=>?_) (λ_ K hK=>?_) λh2 v ⟨e2,pa,hv⟩=>?_
 . refine oeaa hs λes s1 s2 s3=>?_;try clear hs
   nofun;refine gP W V.int id (λ_ _ _=>True) (λ_ _ x=>x) b.params (e.at bp) (λv h1 hv e1 K hK=>?_) λa h' zs e1 n1 f1 _ _=>?_
   . have ti:=e.trans e1;refine oea (eI (es:=es) (by rw[s2];exact RD.params b hb (bne_iff_ne.mp ne) v hv)) λu lk _=>?_;nofun;exact hK h1 u .refl trivial
   . exact r_done (hK _ _ ⟨e1,a,rfl⟩)
 . nofun;intro a h' A;exact r_done (hK _ _ ⟨A.ext,a,rfl⟩)
 subst hv;have kD:=e.trans e2;nofun;refine r_newCB W rfl rfl λf h4 o e4 nf no of f4 o4=>?_;have Mx:h f=none:=e2.none nf;have QU:h o=none:=e2.none no;nofun;refine bN W.aV (λo:Op=>.ref o.ad) b.aM (λd _ h'=>∃cs,MB P R F bq h h2 f o (.inst "CBlock" [("number",.int n),("params",.ref pa),("ops",.ref o),("last",.none)]) d.length (d.length*126) (d.length*2) h' cs/\∀op∈d,Et F op (cs.flatMap CO.aQ))
  ((kD.trans e4).at bo) ⟨[],⟨e4,f4,o4,λ_ z=>(nomatch z),Zs _,Zs _,Zs _⟩,λ_ z=>nomatch z⟩ (λd ρ h' xO=>oea xO λcs I _=>(kD.trans I.ext).at bo) ?_ ?_
 . intro d op rr σ h5 hd El z_ K hK _;refine oea z_ λcs I cv=>?_;have tf:=kD.trans I.ext;have f5:=I.fb;have dl:∀{k:Nat},d.length*k+k=(d++[op]).length*k:=λ{k}=>by rw[Zb,Nat.add_mul];rw[Yg,Nat.one_mul]
   nofun;refine yP W N (M.ext tf) (hs.ext tf) cE El (λv hv=>RD.aQ b hb v (Zd _ (Zm.mpr ⟨op,El,hv⟩))) (λl hl=>?_) (RD.Lp b hb op El) (λh6 e6 cv'=>?_) (λh6 c e6 cok vE cr cl=>?_)
   . have hi:l∈ct P R b:=Zd _ (Zm.mpr ⟨op,El,hl⟩);refine oea (fW N M.all.least.cg lC.1 (Zm.mpr ⟨b,hb,hi⟩)) λc hc ec=>?_;exact⟨c,hc,ec,RD.inner b hb l hi⟩
   . nofun;refine r_done (hK _ _ ⟨cs,I.more e6 (by rw[Zb];exact Yk _) (dl▸ZE _ _) (dl▸ZE _ _),λM_ i_=>?_⟩);rcases Zg.mp i_ with i_|i_
     . exact cv M_ i_
     . rw[Zc.mp i_];exact cv'.more λ_ z=>nomatch z
   . have f6:=e6.at f5;have o6:=e6.at I.ol;nofun;refine r_app o6 ?_ λh7 p=>?_
     . rw[Za];have:=congrArg List.length hd;rw[Zb] at this;exact Zk (Zf I.len (Zf (this▸ZE _ _) dq)) (by decide)
     refine r_done_sq (r_done (hK _ _ ⟨cs++[c],?_,λM_ i_=>?_⟩))
     . have:=I.push e2 of no e6 (zT:=[c]) (λc' ip=>Zc.mp ip▸cok) p (Zs _) (by rw[ZF];exact cr) (by rw[ZF];exact cl);rw[dl,dl,show d.length+[c].length=(d++[op]).length from by rw[Zb];rfl] at this;exact this
     . rw[Zx];rcases Zg.mp i_ with i_|i_
       . exact(cv M_ i_).more λz hz=>Zd _ hz
       . rw[Zc.mp i_];exact vE.more λz hz=>Zi _ (by rwa [ZF])
 intro σ h5 z_;refine oea z_ λcs I cv=>?_;have tf:=kD.trans I.ext;have f5:=I.fb;have o5:=I.ol;nofun;refine r0 W N (M.ext tf) (hs.ext tf) (l:=b.aa) (λc hc=>⟨RD.Lz b hb c hc,RD.inner b hb c.aa (Zi _ (Zn.mpr ⟨c,hc,rfl⟩))⟩) λh6 a zT e6 n6 f6 PD PC r2 ln2 Qx=>?_;refine r_extend (e6.at I.ol) f6 (aB n6 I.ol) ?_ λh7 p=>?_
 . rw[Za,Za];exact Zf (ZR (Zf I.len dq) Qx) (by decide)
 have I7:=I.push e2 of no e6 PD p Qx r2 ln2;have MJ:∀op∈b.aM,Et F op ((cs++zT).flatMap CO.aQ):=λop ho=>(cv op ho).more λz hz=>by rw[Zx];exact Zd _ hz
 have Ob:∀c∈bm P R b.aa,∀v∈F c.aa,∃z∈(cs++zT).flatMap CO.aQ,z.ae=v:=λc hc v hv=>oea (PC c hc v hv) λz hz e=>⟨z,by rw[Zx];exact Zi _ hz,e⟩
 revert I7 MJ Ob
 generalize cs++zT=cs';intro I7 MJ Ob;have e07:=kD.trans I7.ext;have e0:Ext h h7:=e2.trans I7.ext;have bs7:=e07.at bs;have f7:=I7.fb;have X7:=X.avoid e0 Mx (aF f7);nofun;refine uP W N M hs hp RD X7 hb hx λh8 cl pV e8 o8 X8 clr sub lx vE lr=>?_;have z7:f≠m.ex:=(aB Mx X.at_).symm;have O8:o≠m.ex:=(aB QU X.at_).symm;have f8:=e8.at (aE z7 f7);have Tb:=e8.at (aE O8 I7.ol);nofun;intro h9 p9;nofun;have v9:∀{x ob},x≠f->h8 x=some ob->h9 x=some ob:=λn e=>p9.to n e;have fr:Ext (aG m.ex h) h9:=λx hx=>by
  have x1:x≠m.ex:=λz=>hx (z▸ao);have x2:x≠f:=λz=>hx (by rw[hide_ne x1,z];exact Mx);rw[p9.ne x2];exact(hH (gZ e0) e8) x hx
 have en1:Ext (news h (aY [o,f] h7)) (news h h9):=.mk λ{x ob} z=>by
  refine oa (cT z) λb1 b2=>?_;have nm:x∉[o,f]:=λm=>aF b2 (cB m);have x2:x≠f:=λk=>nm (k▸Zh _ Ze);have x1:x≠m.ex:=λk=>aF X.at_ (k▸b1);exact news_at b1 (v9 x2 (e8.at (aE x1 ((aW nm).symm.trans b2))))
 have en2:Ext (news h7 h8) (news h h9):=.mk λ{x ob} z=>by
  refine oa (cT z) λb1 b2=>?_;exact news_at (e0.none b1) (v9 (λk=>aF f7 (k▸b1)) b2)
 refine q h9 ⟨f,.int n,.ref pa,o,cs',cl⟩ pV fr (by rw[p9.ne z7.symm];exact o8) (X8.put z7 p9) ⟨news_at Mx p9.at,news_at QU (v9 of Tb),λc hc=>(I7.ok c hc).ext en1,clr.ext en2,?_,?_⟩ sub lx (λv hv=>?_) (λl hl v hv=>?_)
 . rw[Zb];exact Zf (ZR (Zf I7.rd (ZP (ZZ _ dq) _)) lr) (by decide)
 . exact Zf I7.ln (Zf (ZP (ZZ _ dq) _) (by decide))
 . rcases Zg.mp hv with hv|hv
   . refine oea (Zm.mp hv) λop El hv=>?_;refine oea ((MJ op El).1 v hv) λz hz e=>?_;exact .inl ⟨z,Zd _ hz,e⟩
   . exact(vE v hv).imp (λMX=>oea MX λz hz e=>⟨z,Zi _ hz,e⟩) id
 . rcases Zg.mp hl with hl|hl
   . refine oea (Zm.mp hl) λop El hl=>?_;refine oea ((MJ op El).2 l hl v hv) λz hz e=>?_;exact .inl ⟨z,Zd _ hz,e⟩
   . refine oea (Zn.mp hl) λc hc bU=>?_;subst bU;refine oea (Ob c hc v hv) λz hz e=>?_;exact .inl ⟨z,Zd _ hz,e⟩
end
end
section
structure Fr(l:List Nat)(h:Hp):Prop where
 live:jL l h
 nd:l.Nodup
section
variable {l:List Nat}{h h':Hp}{a:Nat}{o:O}
theorem Fr.ext(x:Fr l h)(e:Ext h h'):Fr l h':=⟨x.live.ext e,x.nd⟩
theorem Fr.put(x:Fr l h)(p:Put h a o h'):Fr l h':=⟨x.live.put p,x.nd⟩
theorem Fr.al(x:Fr l h)(A:Alloc h a o h'):Fr (a::l) h':=
 ⟨λz m=>by rcases Zp.mp m with rfl|m;exact aF A.at;exact x.live.ext A.ext z m,ZD.mpr ⟨λm=>x.live a m A.new,x.nd⟩⟩
theorem fG(n:l.Nodup)(i j:Nat){x y:Nat}(hi:l[i]?=some x)(hj:l[j]?=some y)(ne:i≠j):x≠y:=λe=>ne ((WT (ZN.mp hi).1 n).mp (hi.trans (e▸hj.symm)))
theorem Fr.nil:Fr [] h:=.mk (λ_ m=>nomatch m) Ym
end
section
variable {Φ:Calls}{γ:String->Option V}{im h:Hp}{Q:Po}{P:aI}{R:List Int}{k:C}{ρ:Lo}{st:List V}
variable {y:Lay}{ad:List (Int×V)}{ds:List Row}{F:Int->List Int}{m:tj}{rb:ax}{bq ks:List Int}{av l:List Nat}
theorem r_dictOf{a:Nat}{xs:List V}{ps:List (Int×V)}(e:h a=some (.list xs))(l:xs.length=ps.length)(n:(ps.map (·.1)).Nodup)(s:∀(i:Nat) (p:Int×V) (x:V),ps[i]?=some p->xs[i]?=some x->∃t,x= .ref t/\h t=some (.tup [.int p.1,p.2]))(q:∀c h',Alloc h c (.dict ps) h'->wp Φ γ k ρ (.ref c::st) h' Q):wp Φ γ (.u .dictOf k) ρ (.ref a::st) h Q:=⟨_,⟨a,xs,ps,rfl,e,l,n,s,rfl⟩,r_al q⟩
theorem r_enumD(M:dS Φ){x:String}(nx:x≠ "at"){l:List Int}(nd:l.Nodup){a:Nat}(f:h a=some (iL l))(q:∀c t h',Ext h h'->Fr [c,t] h'->h t=none->h c=none->h' c=some (.dict (zN l))->wp Φ γ k ρ (.ref c::st) h' Q):
 wp Φ γ (.comp ["at",x] .enum (.az (.bool true) .done) (.ae x (.ae "at" (.mk .tup 2 .done))) (.u .dictOf k)) ρ (.ref a::st) h Q:=by
 refine fC M (aJ:=.enum a (l.map .int)) ⟨a,_,rfl,f,rfl⟩ rfl l.zipIdx (λp=>[.int p.2,.int p.1]) ?_ (λd vs h'=>Ext h h'/\vs.length=d.length/\∀(i:Nat) (p:Int×Nat) (x:V),d[i]?=some p->vs[i]?=some x->∃t,x= .ref t/\h' t=some (.tup [.int p.1,.int p.2]))
  ⟨.refl,rfl,λi p x e=>nomatch e⟩ (λd vs h' I=>I.1.at f) (λd x' r vs h' e m I=>⟨_,.inl ⟨rfl,rfl⟩,true,?_⟩) λvs io ta s_ I hZ=>?_
 . show (l.map V.int).zipIdx.map _=_;rw[Up,Zt];rfl
 . refine oaa I λE vl vk=>?_;try clear I
   refine r_lit (r_done_val ⟨rfl,?_⟩);show wp _ _ _ _ _ _ _;refine r_var iI (r_var ((fH (Yq nx)).trans iI) (r_tup 2 rfl ?_));intro t s_ hZ;refine r_done_val ⟨hZ.im E,by rw[Zb,Zb,vl];rfl,λi p v hp hv=>?_⟩
   by_cases z:i<d.length
   . rw[Yu z] at hp;rw[Yu (vl▸z)] at hv;refine oea (vk i p v hp hv) λt a1 a2=>?_;exact⟨t,a1,hZ.ext.at a2⟩
   . have z:=Uj z;rw[YA z] at hp;rw[YA (vl▸z),vl] at hv
     cases w:i - d.length with
     |zero=>rw[w] at hp hv;cases hp;cases hv;exact⟨t,rfl,hZ.at⟩
     |succ=>rw[w] at hp;cases hp
 refine oaa I λE vl vk=>?_;try clear I
 refine r_dictOf (ps:=zN l) hZ.at (by rw[vl,zN,Za]) (by rw[oI];exact nd) (λi p x hp hx=>?_) λsp q9 CN=>?_
 . rw[zN,ZQ] at hp;refine oea (Z7.mp hp) λp' e1 bU=>?_;subst bU;refine oea (vk i p' x e1 hx) λt a1 a2=>?_;exact⟨t,a1,hZ.ext.at a2⟩
 exact q sp ta q9 (E.trans (hZ.ext.trans CN.ext)) ((Fr.nil.al hZ).al CN) (E.none hZ.new) (E.none (hZ.ext.none CN.new)) CN.at
theorem r_newCU(W:Wd Φ γ){num:Int}{s:String}(F0:Fr l h)
 (q:∀a p b h',Ext h h'->Fr (b::p::a::l) h'->h a=none->h p=none->h b=none->h' a=some (.inst "CUnit" (om num s ⟨0,a,p,b,0,0,0,0,0⟩ 0 0))->h' p=some (.list [])->h' b=some (.list [])->wp Φ γ k ρ (.ref a::st) h' Q):wp Φ γ (.new "CUnit" "CUnit.__init__" 2 k) ρ (sv s:: .int num::st) h Q:=by
 refine r_new rfl λa h0 A=>W.cl rfl rfl ?_;have n:=A.new;have f0:=F0.al A;nofun;intro h1 p1;nofun;intro h2 p2;have e2:=p2.im (p1.im A.ext n) n;nofun;intro p h3 A3;have e3:=A3.im e2;have pa:p≠a:=(A3.ne p2.at).symm;have f3:=A3.ext.at p2.at;have g3:=((f0.put p1).put p2).al A3;have np:=e2.none A3.new;nofun;intro h4 p4;nofun;intro h5 p5;nofun;intro h6 p6;nofun;intro h7 p7;nofun;intro h8 p8;have l8:=p8.to pa (p7.to pa (p6.to pa (p5.to pa (p4.to pa A3.at))));have e8:=p8.im (p7.im (p6.im (p5.im (p4.im e3 n) n) n) n) n;have g8:=((((g3.put p4).put p5).put p6).put p7).put p8;nofun;intro b h9 A9;have ba:b≠a:=(A9.ne p8.at).symm;have l9:=A9.ext.at l8;have f9:=A9.ext.at p8.at;have nb:=e8.none A9.new;nofun;intro io nN;nofun;intro s_ CQ;exact r_done ⟨rfl,q a p b s_ (CQ.im (nN.im (A9.im e8) n) n) (((g8.al A9).put nN).put CQ) n np nb CQ.at (CQ.to pa (nN.to pa l9)) (CQ.to ba (nN.to ba A9.at))⟩
theorem r_newUM(W:Wd Φ γ)(N:aL P)(LA:gz P h y R ad ds F)(root:rb∈af P R)(cG:(F rb.aa).length<64)(nd:(F rb.aa).Nodup){u pA bA:Nat}(F0:Fr l h)
 (q:∀a sl pl ca ta sp ex h',Ext h h'->Fr (ex::sp::ta::ca::pl::sl::a::l) h'->h a=none->h sl=none->h pl=none->h ex=none->h' a=some (.inst "UnitMaker" (vM y ⟨a,u,pA,bA,sl,pl,ca,sp,ex⟩ rb.aa))->h' ca=some (iL (bD (F rb.aa)))->h' sp=some (.dict (zN (bD (F rb.aa))))->h' sl=some (.dict [])->h' pl=some (.dict [])->h' ex=some (.list [])->wp Φ γ k ρ (.ref a::st) h' Q):
 wp Φ γ (.new "UnitMaker" "UnitMaker.__init__" 3 k) ρ (.ref u:: .int rb.aa:: .ref y.ad::st) h Q:=by
 refine r_new rfl λa h0 A=>W.cl rfl rfl ?_;have n:=A.new;have f0:=F0.al A;refine oea (oo LA.eq root) λw hw ew=>?_;have lk:=dY (f:=(·.f)) N LA.eq hw;have fw:=LA.at_ w hw;rw[ew] at lk fw;have ys:=LA.lay.self;have yf:=LA.fD;nofun;intro h1 p1;nofun;intro h2 p2;nofun;intro h3 p3;have e3:=p3.im (p2.im (p1.im A.ext n) n) n;have g3:=((f0.put p1).put p2).put p3;nofun;intro sl h4 A4;have IU:sl≠a:=(A4.ne p3.at).symm;have f4:=A4.ext.at p3.at;have Tf:=e3.none A4.new;nofun;intro h5 p5;have e5:=p5.im (A4.im e3) n;have SH:=p5.to IU A4.at;have g5:=(g3.al A4).put p5;nofun;intro pl h6 A6;have L1:pl≠a:=(A6.ne p5.at).symm;have f6:=A6.ext.at p5.at;have Tj:=e5.none A6.new;nofun;intro h7 p7;have e7:=p7.im (A6.im e5) n;have SG:=p7.to IU (A6.ext.at SH);have SP:=p7.to L1 A6.at;have g7:=(g5.al A6).put p7;have ys7:=e7.at ys;have yf7:=e7.at yf;have fw7:=e7.at fw;have few':(cy (F rb.aa)).length<64:=by rw[c8];exact cG
 nofun;rw[jt];intro ca h8 A8;have Oc:ca≠a:=(A8.ne p7.at).symm;have f8:=A8.ext.at p7.at;nofun;intro h9 p9;have e9:=p9.im (A8.im e7) n;have M5:=p9.to IU (A8.ext.at SG);have SO:=p9.to L1 (A8.ext.at SP);have Rz:=p9.to Oc A8.at;have g9:=(g7.al A8).put p9;nofun;refine r_enumD W.aV (by decide) (mY nd) Rz λsp ta q9 yw NS Td Qi Pz=>?_;have xU:=yw.at p9.at;have P8:sp≠a:=(aB Qi p9.at).symm;have Fu:Fr (sp::ta::ca::pl::sl::a::l) q9:=⟨λz m=>by
  rcases Zp.mp m with rfl|m
  . exact NS.live _ Ze
  rcases Zp.mp m with rfl|m
  . exact NS.live _ (Zh _ Ze)
  . exact(g9.ext yw).live z m,ZD.mpr ⟨λm=>by
  rcases Zp.mp m with rfl|m
  . exact(ZD.mp NS.nd).1 Ze
  . exact g9.live _ m Qi,ZD.mpr ⟨λm=>g9.live _ m Td,g9.nd⟩⟩⟩
 nofun;intro Ep Ei;have lG:=Ei.im (e9.trans yw) n;have OJ:=Ei.to IU (yw.at M5);have OV:=Ei.to L1 (yw.at SO);have PH:=Ei.to Oc (yw.at Rz);have OI:=Ei.to P8 Pz;nofun;intro ex zE CM;have exa:ex≠a:=(CM.ne Ei.at).symm;have Rl:=CM.ext.at Ei.at;have To:=lG.none CM.new;nofun;intro NN Eh;exact r_done ⟨rfl,q a sl pl ca ta sp ex NN (Eh.im (CM.im lG) n) (((Fu.put Ei).al CM).put Eh) n Tf Tj To Eh.at (Eh.to Oc (CM.ext.at PH)) (Eh.to P8 (CM.ext.at OI)) (Eh.to IU (CM.ext.at OJ)) (Eh.to L1 (CM.ext.at OV)) (Eh.to exa CM.at)⟩
end
end
section
section
variable {Φ:Calls}{γ:String->Option V}{im h:Hp}{Q:V->Hp->Prop}{P:aI}{R:List Int}
variable {y:Lay}{ad:List (Int×V)}{ds:List Row}{F:Int->List Int}{m:tj}{rb:ax}{bq ks:List Int}{av:List Nat}
theorem r_if{a b k:C}{ρ:Lo}{st:List V}{Q:Po}{t:Bool}(J:Hp->Prop)(qa:t=true->∀K:Po,(∀h',J h'->K .next ρ st h')->wp Φ γ a ρ st h K)(qb:t=false->∀K:Po,(∀h',J h'->K .next ρ st h')->wp Φ γ b ρ st h K)
 (q:∀h',J h'->wp Φ γ k ρ st h' Q):wp Φ γ (.ite a b k) ρ (.bool t::st) h Q:=r_ite (λz=>qa z _ q) λz=>qb z _ q
theorem r_ifl(M:dS Φ){a b k:C}{ρ:Lo}{st:List V}{Q:Po}{t:Bool}(J:Hp->Prop)(qa:t=true->∀K:Po,(∀ρ' h',J h'->K .next ρ' st h')->wp Φ γ a ρ st h K)(qb:t=false->∀K:Po,(∀ρ' h',J h'->K .next ρ' st h')->wp Φ γ b ρ st h K)
 (q:∀σ h',J h'->wp Φ γ k (mix (aX a++aX b) σ ρ) st h' Q):wp Φ γ (.ite a b k) ρ (.bool t::st) h Q:=by
 have fin:∀ρ' h',cQ (aX a++aX b) ρ ρ'->J h'->wp Φ γ k ρ' st h' Q:=λρ' h' s j=>by
  have:=q ρ' h' j
  rwa [oz s] at this
 refine r_ite (λz=>tK M _ _ _ _ _ _ (qa z (λfl _ bG h'=>fl= .next/\bG=st/\J h') λ_ _ j=>⟨rfl,rfl,j⟩) λfl ρ' bG h' s p=>?_) λz=>tK M _ _ _ _ _ _ (qb z (λfl _ bG h'=>fl= .next/\bG=st/\J h') λ_ _ j=>⟨rfl,rfl,j⟩) λfl ρ' bG h' s p=>?_
 . refine oaa p λbU cu j=>?_;try clear p;subst bU;subst cu
   exact fin ρ' h' (λx n=>s x λm=>n (Zd _ m)) j
 . refine oaa p λcY dT j=>?_;try clear p;subst cY;subst dT
   exact fin ρ' h' (λx n=>s x λm=>n (Zi _ m)) j
structure US(im:Hp)(m:tj)(num:Int)(aH:String)(c:Int)(np:Nat)(ks:List Int)(i9:List (Int×V))(h:Hp):Prop where
 ext:Ext im h
 u:∃n,h m.u=some (.inst "CUnit" (om num aH m c n))
 p:∃ps,h m.pA=some (.list ps)/\ps.length<=np
 sl:du h m.sl ks
 pl:h m.pl=some (.dict i9)
 b:h m.bA=some (.list [])
 ex:h m.ex=some (.list [])
structure Apart(im:Hp)(m:tj):Prop where
 (nu:im m.u=none) (np:im m.pA=none) (nb:im m.bA=none) (ns:im m.sl=none) (nl:im m.pl=none) (nx:im m.ex=none)
 (up:m.u≠m.pA) (ub:m.u≠m.bA) (us:m.u≠m.sl) (ul:m.u≠m.pl) (ux:m.u≠m.ex)
 (pb:m.pA≠m.bA) (ps:m.pA≠m.sl) (pl:m.pA≠m.pl) (px:m.pA≠m.ex)
 (bs:m.bA≠m.sl) (bl:m.bA≠m.pl) (bx:m.bA≠m.ex) (sl:m.sl≠m.pl) (sx:m.sl≠m.ex) (lx:m.pl≠m.ex)
section
variable {num c:Int}{np:Nat}{aH:String}{i9 JH:List (Int×V)}{h':Hp}
theorem US.more(x:US im m num aH c np ks i9 h)(e:Ext h h'):US im m num aH c np ks i9 h':=
 oe x.u λn b=>oea x.p λps c1 c2=>⟨x.ext.trans e,⟨n,e.at b⟩,⟨ps,e.at c1,c2⟩,x.sl.ext e,e.at x.pl,e.at x.b,e.at x.ex⟩
theorem US.KU(A:Apart im m)(x:US im m num aH c np ks i9 h)(p:Put h m.pl (.dict JH) h'):US im m num aH c np ks JH h':=
 oe x.u λn b=>oea x.p λps c1 c2=>oea x.sl λes d1 d2=>⟨p.im x.ext A.nl,⟨n,p.to A.ul b⟩,⟨ps,p.to A.pl c1,c2⟩,⟨es,p.to A.sl d1,d2⟩,p.at,p.to A.bl x.b,p.to A.lx.symm x.ex⟩
theorem US.JG(A:Apart im m)(x:US im m num aH c np ks i9 h){ps:List V}{n':Nat}(p:Put h m.pA (.list ps) h')(l:ps.length<=n'):US im m num aH c n' ks i9 h':=
 oe x.u λn b=>oea x.sl λes d1 d2=>⟨p.im x.ext A.np,⟨n,p.to A.up b⟩,⟨ps,p.at,l⟩,⟨es,p.to A.ps.symm d1,d2⟩,p.to A.pl.symm x.pl,p.to A.pb.symm x.b,p.to A.px.symm x.ex⟩
theorem kL(W:Wd Φ γ)(A:Apart im m)(self:im m.ad=some (.inst "UnitMaker" (vM y m rb.aa)))(x:US im m num aH c np ks i9 h)(hk:ks.length<big){v:Int}
 (q:∀h' k,(∀x o,h x=some o->x≠m.u->x≠m.sl->h' x=some o)->US im m num aH c np (ins ks v) i9 h'->Q (.int k) h'):Φ "UnitMaker.slot" [.ref m.ad,.int v] h Q:=by
 refine oe x.u λn hu=>?_;refine Hm W (x.ext.at self) hu x.sl hk A.us (aB A.nu self) (aB A.ns self) λh' k a1 a2 a3=>?_;have al:∀x o,h x=some o->x≠m.u->x≠m.sl->h' x=some o:=λx o ho b1 b2=>(a1 x b1 b2).trans ho;refine oea x.p λps p1 p2=>?_;exact q h' k al ⟨λz hz=>(a1 z (λ(k:z=m.u)=>hz (k▸A.nu)) λ(k:z=m.sl)=>hz (k▸A.ns)).trans (x.ext z hz),⟨_,a2⟩,⟨ps,al _ _ p1 A.up.symm A.ps,p2⟩,a3,al _ _ x.pl A.ul.symm A.sl.symm,al _ _ x.b A.ub.symm A.bs,al _ _ x.ex A.ux.symm A.sx.symm⟩
end
noncomputable def B1(b:ax):List Int:=(if b.aH="fun" then [b.ae] else [])++b.params
theorem uj{l:List Int}{n:Nat}(h:l.length<=n)(z:Nat.blt n big=true):(bV [] l).length<big:=
 Zk (Zf uk ((Xx _).symm▸h:([]:List Int).length+l.length<=n)) (ZC z)
theorem sD(W:Wd Φ γ)(N:aL P)(A:Apart im m)(Y:jM im P y R)(self:im m.ad=some (.inst "UnitMaker" (vM y m rb.aa)))(hb:rb∈P.ap){num c:Int}{aH:String}(x:US im m num aH c 0 [] [] h)
 (q:∀h',US im m num aH c 2 (bV [] (B1 rb)) [] h'->Q .none h'):Φ "begin_unit" [.ref m.ad] h Q:=by
 refine W.cl rfl rfl ?_;have e:=x.ext;have ys:=Y.self;have g1:=W.AB;have g2:=W.v7;have Yp:=Y.prog;have ps:=Yp.self;have B:=Yp.aS rb hb;have bs:=B.self;have bp:=B.params;refine oe x.u λn hu=>?_
 let K0:List Int:=if rb.aH="fun" then [rb.ae] else []
 have K1:K0.length<=1:=fP rb.ae;nofun;refine r_if (US im m num aH c 1 (bV [] K0) []) (λw K hK=>?_) (λw K hK=>?_) λh3 x3=>?_
 . refine oea x.p λE_ p0 p2=>?_;nofun;refine kL W A self x (by decide) λh' k a1 x'=>?_;refine oea x'.p λE_ p1 p2=>?_;nofun;refine r_app p1 (Zk p2 (by decide)) λcR p=>?_;refine r_done (hK cR ?_);have eK:K0=[rb.ae]:=if_pos (beq_iff_eq.mp w);rw[eK];exact x'.JG A p (by rw[Zb];exact ZP p2 1)
 . have eK:K0=[]:=if_neg (λz=>Bool.noConfusion ((beq_iff_eq.mpr z).symm.trans w));rw[eK] at hK;refine oea x.p λE_ p1 p2=>?_;exact r_done (hK h ⟨x.ext,x.u,⟨E_,p1,V7 p2⟩,x.sl,x.pl,x.b,x.ex⟩)
 have e3:=x3.ext;nofun;have Sp:US im m num aH c (1+([]:List Int).length) (bV [] (K0++[])) [] h3:=by rw[Zu];exact x3
 refine bN W.aV V.int rb.params (λd _ h'=>US im m num aH c (1+d.length) (bV [] (K0++d)) [] h') (e3.at bp) Sp (λd ρ h' I=>I.ext.at bp) (λd v rr σ h4 hd hv x4 K hK _=>?_) λσ h4 x4=>?_
 . have e4:=x4.ext;refine oe x4.u λn hu4=>?_;have dl:d.length<=1:=Zf (hd▸(Zb (as:=d) (bs:=v::rr)).symm▸ZE _ _) (N.gf rb hb);have SV:(bV [] (K0++d)).length<big:=uj (n:=2) (by rw[Zb];exact ZR K1 dl) rfl;refine oea x4.p λE_ p0 p2=>?_;nofun;refine kL W A self x4 SV λh' k a1 x'=>?_;refine oea x'.p λE_ p1 p2=>?_;nofun;refine r_app p1 (Zk (Zf p2 (ZO dl 1)) (by decide)) λcR p=>?_;refine r_done (hK _ cR ?_);rw[<-Zo,<-gO];exact x'.JG A p (by rw[Zb,Zb,<-Yr];exact ZP p2 1)
 have e4:=x4.ext;refine oea x4.p λE_ p1 p2=>?_;have fin:=q h4 ⟨x4.ext,x4.u,⟨E_,p1,Zf p2 (ZO (N.gf rb hb) 1)⟩,x4.sl,x4.pl,x4.b,x4.ex⟩;have tk:∀(Q':V->Hp->Prop),Q' (.bool false) h4->Φ "KBlock.takes_any" [.ref rb.ad] h4 Q':=λQ' hq=>by
  refine W.cl rfl rfl ?_;nofun;refine r_and false (λ_ K hK=>?_) ?_
  . nofun;exact r_done hK
  . rw[XX];exact hq
 nofun;refine r_and false (λ_ K hK=>?_) ?_
 . nofun;exact tk _ (r_done hK)
 rw[XX];refine r_no rfl ?_;nofun;exact fin
noncomputable def S1(P:aI)(R:List Int)(A:List Int)(rb b:ax):List Int:=(if b.aa≠rb.aa then b.params else [])++((b.aM.flatMap Op.aC).filter (λv=> !A.contains v)++(bm P R b.aa).map λc=>cv c.aa)
theorem Bj(N:aL P){A:List Int}{b:ax}(hb:b∈P.ap):(S1 P R A rb b).length<=71:=by
 have h3:(b.aM.flatMap Op.aC).length<=3*2:=gL (λo ho=>jE N hb ho) (N.dq b hb);have h6:=Zf (ZU (λv=> !A.contains v) (b.aM.flatMap Op.aC)) h3;have h5:=eH (R:=R) (l:=b.aa) N;rw[S1,Zb,Zb,Za];refine ZR (?_:_<=1) (ZR h6 h5);split
 . exact N.gf b hb
 . exact ZS 1
theorem DF{p:Int->Bool}{D E l:List Int}{v:Int}(h:p v=true):bV [] (D++(E++(l++[v]).filter p))=ins (bV [] (D++(E++l.filter p))) v:=by
 rw[Yl,XR h,Vi,<-Zo,<-Zo,<-Zo,<-gO]
theorem Hu{p:Int->Bool}{D E l:List Int}{v:Int}(h:p v=false):bV [] (D++(E++(l++[v]).filter p))=bV [] (D++(E++l.filter p)):=by
 rw[Yl,YN (by rw[h];exact Ye),Vi,Zu]
theorem si(W:Wd Φ γ)(N:aL P)(A:Apart im m)(Y:jM im P y R)(ya:im y.aA=some (.dict ad))(r1:1∈R)(self:im m.ad=some (.inst "UnitMaker" (vM y m rb.aa)))(hb:rb∈P.ap){num c:Int}{aH:String}(x:US im m num aH c 2 (bV [] (B1 rb)) [] h)
 (q:∀h' a i9,US im m num aH c 2 (bV [] (B1 rb++(bM P R rb).flatMap (S1 P R (ad.map (·.1)) rb))) i9 h'->(∀b∈bM P R rb,∃i:Int,i9.lookup b.aa=some (.int i))->h' a=some (.list ((bM P R rb).map ch))->h a=none->Q (.ref a) h'):Φ "give_slots" [.ref m.ad] h Q:=by
 refine W.cl rfl rfl ?_;have e:=x.ext;have ys:=Y.self;have Yp:=Y.prog;have ps:=Yp.self;have ml:=oN (R:=R) (rb:=rb) N;nofun;refine jy W N (Y.ext e) r1 hb λa h2 e2 na fa=>?_;have x2:=x.more e2;refine oe x.u λn0 CD=>?_;refine oea x.p λSN CE _=>?_;refine oea x.sl λRm Iw _=>?_;have au:a≠m.u:=(aB na CD).symm;have asl:a≠m.sl:=(aB na Iw).symm;have apl:a≠m.pl:=(aB na x.pl).symm;have apA:a≠m.pA:=(aB na CE).symm;have ab:a≠m.bA:=(aB na x.b).symm;have aex:a≠m.ex:=(aB na x.ex).symm;clear CD CE Iw
 -- the base with the members
 let i0:=bc im a (.list ((bM P R rb).map ch))
 have TQ:im a=none:=e.none na;have xi:Ext im i0:=λz hz=>fH λ(k:z=a)=>hz (k▸TQ);have QH:i0 a=some (.list ((bM P R rb).map ch)):=iI;have A0:Apart i0 m:={A with
  nu:=(fH au.symm).trans A.nu,np:=(fH apA.symm).trans A.np,nb:=(fH ab.symm).trans A.nb,ns:=(fH asl.symm).trans A.ns,nl:=(fH apl.symm).trans A.nl,nx:=(fH aex.symm).trans A.nx}
 have Sq:Ext i0 h2:=λz hz=>by
  by_cases k:z=a
  . rw[k,fa,QH]
  . have ez:i0 z=im z:=fH k;rw[ez] at hz ⊢;exact x2.ext z hz
 have Sr:US i0 m num aH c 2 (bV [] (B1 rb)) [] h2:=⟨Sq,x2.u,x2.p,x2.sl,x2.pl,x2.b,x2.ex⟩;have Y0:=Y.ext xi;have wW:=xi.at self;have ya0:=xi.at ya;have ys0:=xi.at ys;have RI:=Y0.prog;have SN:=RI.self;have back:∀{ks i9 h'},US i0 m num aH c 2 ks i9 h'->US im m num aH c 2 ks i9 h':=λz=>⟨xi.trans z.ext,z.u,z.p,z.sl,z.pl,z.b,z.ex⟩
 clear_value i0
 have Tz:(B1 rb).length<=2:=by
  rw[B1,Zb];exact ZR (fP _) (N.gf rb hb)
 nofun;rw[Za];refine fj W.aV (Zf ml (by decide)) (λi _ h'=>∃i9,US i0 m num aH c 2 (bV [] (B1 rb++((bM P R rb).take i).flatMap (S1 P R (ad.map (·.1)) rb))) i9 h'/\i9.length<=i/\∀b∈(bM P R rb).take i,∃i:Int,i9.lookup b.aa=some (.int i))
  ⟨[],by rw[WO,Yc,Zu];exact Sr,Zs _,λb hb=>by rw[WO] at hb;cases hb⟩ (λi σ h3 hi IQ K hK _ _=>oeaa IQ λi9 x3 M9 pk=>?_) λσ h3 MW=>oeaa MW λi9 x3 _ pk=>?_
 . have e3:=x3.ext;have hg:(bM P R rb)[i]?=some (bM P R rb)[i]:=Zv hi;have Jl:(bM P R rb)[i]∈bM P R rb:=Yz _;have sq:dm ((bM P R rb).map ch) (i:Int)=some (.int (bM P R rb)[i].aa):=by
    unfold dm;rw[if_pos (Yb _),YZ,ZQ,hg];rfl
   have hlen:(B1 rb++((bM P R rb).take i).flatMap (S1 P R (ad.map (·.1)) rb)).length<=2+64*71:=by
    rw[Zb];exact ZR Tz (gL (λb cE=>Bj N (cq hb (Vs cE))) (Zf (VC ..) (Zf (ZI hi) ml)))
   rw[fT hg,Zx,ZF,<-Zo] at hK
   revert hg Jl sq hlen x3 hK
   generalize B1 rb++((bM P R rb).take i).flatMap (S1 P R (ad.map (·.1)) rb)=D;generalize (bM P R rb)[i]=b;intro hK x3 hg Jl sq hlen;have ID:=cq hb Jl;have B:=RI.aS b ID;have bs:=B.self;have RB:=B.params;have RC:=B.aM
   let P1:List Int:=if b.aa≠rb.aa then b.params else []
   let P2:List Int:=(b.aM.flatMap Op.aC).filter (λv=> !(ad.map (·.1)).contains v)
   have sl:P1.length+(P2.length+(bm P R b.aa).length)<=71:=by
    have:=Bj (R:=R) (A:=ad.map (·.1)) (rb:=rb) N ID
    rwa [S1,Zb,Zb,Za] at this
   have lim:∀l:List Int,l.length<=P1.length+(P2.length+(bm P R b.aa).length)->(bV [] (D++l)).length<big:=λl hl=>uj (n:=2+64*71+71) (by rw[Zb];exact ZR hlen (Zf hl sl)) rfl;nofun;refine r_setId x3.pl (Zk (Zf M9 (Zf (ZI hi) ml)) (by decide)) λh4 p4=>?_;have x4:=x3.KU A0 p4;have JI:(putD i9 b.aa (V.int i)).length<=i+1:=by
    rw[<-Za (f:=λp:Int×V=>p.1),dP];exact Zf AY (YH ((Za ..).symm▸M9))
   have JJ:∀b'∈(bM P R rb).take i++[b],∃j:Int,(putD i9 b.aa (V.int i)).lookup b'.aa=some (.int j):=λb' cE=>by
    rcases Zg.mp cE with cE|cE
    . refine oe (pk b' cE) λj hj=>?_
      by_cases z:b'.aa=b.aa
      . exact⟨i,by rw[eV,if_pos z]⟩
      . exact⟨j,by rw[eV,if_neg z];exact hj⟩
    . exact⟨i,by rw[eV,if_pos (by rw[Zc.mp cE])]⟩
   have fin:∀h' ρ,US i0 m num aH c 2 (bV [] (D++(P1++(P2++(bm P R b.aa).map λc=>cv c.aa)))) (putD i9 b.aa (V.int i)) h'->K .next ρ [] h':=λh' ρ x'=>hK ρ h' ⟨_,x',JI,JJ⟩
   revert x4 fin
   generalize putD i9 b.aa (V.int i)=z5;intro x4 fin;clear JI JJ x3 e3 p4 pk M9 hK;have e4:=x4.ext;nofun;refine r_ifl W.aV (US i0 m num aH c 2 (bV [] (D++P1)) z5) (λw K hK=>?_) (λw K hK=>?_) λσ h5 x5=>?_
   . have eP:P1=b.params:=if_pos (bne_iff_ne.mp w);rw[eP] at hK;nofun;refine bN W.aV V.int b.params (λd _ h'=>US i0 m num aH c 2 (bV [] (D++d)) z5 h') (e4.at RB) (by rw[Zu];exact x4) (λd ρ h' I=>I.ext.at RB) (λd v rr σ h5 hd hv x5 K' zS _=>?_) λσ h5 x5=>?_
     . have e5:=x5.ext;nofun;refine kL W A0 wW x5 (lim d (by rw[eP,<-hd,Zb,Yr];exact ZE _ _)) λh' k a1 x'=>?_;nofun;refine r_done (zS _ _ ?_);rw[<-Zo,<-gO];exact x'
     . exact r_done (hK _ _ x5)
   . have eP:P1=[]:=if_neg (λz=>Bool.noConfusion ((bne_iff_ne.mpr z).symm.trans w));rw[eP,Zu] at hK;exact r_done (hK _ _ x4)
   have e5:=x5.ext;nofun;refine bN W.aV (λo:Op=>.ref o.ad) b.aM (λd _ h'=>US i0 m num aH c 2 (bV [] (D++(P1++(d.flatMap Op.aC).filter (λv=> !(ad.map (·.1)).contains v)))) z5 h') (e5.at RC) (by rw[Yc,Vi,Zu];exact x5) (λd ρ h' I=>I.ext.at RC) (λd o rr σ h6 hd ho x6 K' zS _=>?_) λσ h6 x6=>?_
   . have e6:=x6.ext;have OO:=B.op o ho;have os:=OO.self;nofun;refine iX W (OO.ext e6) λg h7 e7 n7 f7=>?_;refine oe x6.u λn0 CD=>?_;refine oea x6.sl λRm Iw _=>?_;have gu:g≠m.u:=(aB n7 CD).symm;have gs:g≠m.sl:=(aB n7 Iw).symm;have x7:=x6.more e7;nofun;refine bN W.aV V.int o.aC (λd2 _ h'=>h' g=some (.list (o.aC.map .int))/\US i0 m num aH c 2 (bV [] (D++(P1++(d.flatMap Op.aC++d2).filter (λv=> !(ad.map (·.1)).contains v)))) z5 h') f7 ⟨f7,by rw[Zu];exact x7⟩ (λd ρ h' I=>I.1) (λd2 v IV σ h8 hd2 hv FQ K2 q8 _=>oa FQ λf8 x8=>?_) λσ h8 FN=>oa FN λ_ x8=>?_
     . have e8:=x8.ext;nofun;refine r_ite (λw=>?_) λw=>?_
       . nofun;refine kL W A0 wW x8 (lim _ ?_) λh' k a1 x'=>?_
         . rw[Zb];refine ZO (Zf ?_ (ZE _ _)) _;have h1:d.flatMap Op.aC++d2<+:b.aM.flatMap Op.aC:=by
            rw[<-hd,Zx,ZK,<-hd2];exact⟨v::IV++rr.flatMap Op.aC,by rw[Zo,Zo]⟩
           exact(h1.filter _).length_le
         nofun;refine r_done (q8 _ _ ⟨a1 _ _ f8 gu gs,?_⟩);rw[<-Zo (d.flatMap Op.aC),DF w];exact x'
       . refine r_done_sq (r_done (q8 _ _ ⟨f8,?_⟩));rw[<-Zo (d.flatMap Op.aC),Hu w];exact x8
     . refine r_done (zS _ _ ?_);rw[Zx,ZF];exact x8
   have e6:=x6.ext;nofun;refine jz W N (Y0.ext e6) λg h7 e7 n7 f7=>?_;refine oe x6.u λn0 CD=>?_;refine oea x6.sl λRm Iw _=>?_;have gu:g≠m.u:=(aB n7 CD).symm;have gs:g≠m.sl:=(aB n7 Iw).symm;have x7:=x6.more e7;nofun;refine bN W.aV ch (bm P R b.aa) (λd _ h'=>h' g=some (.list ((bm P R b.aa).map ch))/\US i0 m num aH c 2 (bV [] (D++(P1++(P2++d.map λc=>cv c.aa)))) z5 h') f7 ⟨f7,by rw[Vd,Zu];exact x7⟩ (λd ρ h' I=>I.1) (λd v rr σ h8 hd hv FM K' zS _=>oa FM λf8 x8=>?_) λσ h8 FL=>oa FL λ_ x8=>?_
   . have e8:=x8.ext;nofun;refine kL W A0 wW x8 (lim _ ?_) λh' k a1 x'=>?_
     . rw[Zb,Zb,Za];exact ZO (ZO (hd▸(Zb (as:=d) (bs:=v::rr)).symm▸ZE _ _) _) _
     nofun;refine r_done (zS _ _ ⟨a1 _ _ f8 gu gs,?_⟩);rw[Zq,<-Zo P2,<-Zo P1,<-Zo D,YI,<-gO];exact x'
   . exact r_done (fin _ _ x8)
 . rw[Xy] at x3 pk;have e3:=x3.ext;nofun;exact q h3 a i9 (back x3) pk (e3.at QH) na
end
end
section
section
variable {Φ:Calls}{γ:String->Option V}{im h:Hp}{Q:V->Hp->Prop}{P:aI}{R:List Int}
variable {y:Lay}{ad:List (Int×V)}{ds:List Row}{F:Int->List Int}{m:tj}{rb:ax}{bq ks:List Int}{av:List Nat}
theorem BE(N:aL P)(LR:dK P R)(AD:tU P ad)(FO:gX P R (ad.map (·.1)) F)(lC:rb∈af P R):
 Ready P R F ad (bV [] (B1 rb++(bM P R rb).flatMap (S1 P R (ad.map (·.1)) rb))) (bD (F rb.aa)) rb:=by
 have r1:=LR.cg.one N;refine oa (ay.mp lC) λhr hR=>?_;have Mh:∀v,v∈bV [] (B1 rb++(bM P R rb).flatMap (S1 P R (ad.map (·.1)) rb))↔v∈B1 rb\/∃b∈bM P R rb,v∈S1 P R (ad.map (·.1)) rb b:=λv=>by
  rw[eS,Zg,Zm];simp
 have Ir:∀b v,v∈S1 P R (ad.map (·.1)) rb b↔(b.aa≠rb.aa/\v∈b.params)\/((∃o∈b.aM,v∈o.aC)/\v∉ad.map (·.1))\/∃c∈bm P R b.aa,cv c.aa=v:=λb v=>by
  unfold S1;rw[Zg,Zg,ZH,Zm,Zn]
  by_cases z:b.aa≠rb.aa
  . rw[if_pos z];simp[z]
  . rw[if_neg z];simp[z]
 have KR:∀b∈bM P R rb,b.aH="fun"->b=rb:=λb hb s=>by
  refine oa ((gK N r1 hr hR).mp hb) λh1 h2=>?_;rw[jd (N.pos b h1) (LR.cg.fun h1 s)] at h2;exact N.uniq h1 hr h2
 have Qa:rb∈bM P R rb:=Ze
 -- Ov is aC has a slot
 have a1:∀v,v∈br P R rb->v∉ad.map (·.1)->v∈bV [] (B1 rb++(bM P R rb).flatMap (S1 P R (ad.map (·.1)) rb)):=λv hv ha=>by
  refine oea (Zm.mp hv) λb hb hv=>?_;have ID:=cq hr hb;rw[Mh];rcases Zg.mp hv with v1|v1
  . rcases Zg.mp v1 with v2|v2
    . rcases Zg.mp v2 with v3|v3
      . by_cases z:b.aa=rb.aa
        . have:=N.uniq ID hr z;subst this;exact .inl (Zi _ v3)
        . exact .inr ⟨b,hb,(Ir b v).mpr (.inl ⟨z,v3⟩)⟩
      . split at v3
        . simp at v3;subst v3;rcases N.aH b ID with s|s
          . have:=KR b hb s;subst this;exact .inl (Zd _ (by rw[if_pos s];simp))
          . have:=N.cvar b ID s;(rename_i Sg _;exact False.elim ((aj 0x101b0100019012201) b.ae this Sg))
        . simp at v3
    . exact .inr ⟨b,hb,(Ir b v).mpr (.inr (.inl ⟨Zm.mp v2,ha⟩))⟩
  . exact .inr ⟨b,hb,(Ir b v).mpr (.inr (.inr (Zn.mp v1)))⟩
 have a2:∀v,v∈bV [] (B1 rb++(bM P R rb).flatMap (S1 P R (ad.map (·.1)) rb))->v∈br P R rb\/v= -1:=λv hv=>by
  rcases (Mh v).mp hv with h|⟨b,hb,h⟩
  . rcases Zg.mp h with h|h
    . split at h
      . simp at h;subst h;rcases (N.Da rb hr).2.2 with z|z
        . exact .inr z
        . exact .inl (Zm.mpr ⟨rb,Qa,Zd _ (Zd _ (Zi _ (by rw[if_pos z];simp)))⟩)
      . simp at h
    . exact .inl (Zm.mpr ⟨rb,Qa,Zd _ (Zd _ (Zd _ h))⟩)
  . rcases (Ir b v).mp h with ⟨_,h⟩|⟨h,_⟩|h
    . exact .inl (Zm.mpr ⟨b,hb,Zd _ (Zd _ (Zd _ h))⟩)
    . exact .inl (Zm.mpr ⟨b,hb,Zd _ (Zi _ (Zm.mpr h))⟩)
    . exact .inl (Zm.mpr ⟨b,hb,Zi _ (Zn.mpr h)⟩)
 have rd:∀{b:ax} {v:Int},bH P R b v->b∈af P R->v≠ -1:=λ{b v} n=>by
  induction n with
  |here a _=>intro hb;exact t0 N (ay.mp hb).1 a
  |there _ b' _ _ ih=>intro _;exact ih b'
 have apart:∀v,v∈bD (F rb.aa)->v∉ad.map (·.1)/\v∉bV [] (B1 rb++(bM P R rb).flatMap (S1 P R (ad.map (·.1)) rb)):=λv hv=>by
  refine oa ((FO.good rb lC).2 v (cU.mp hv)) λn na=>?_;refine⟨na,λh=>?_⟩;rcases a2 v h with z|z
  . exact(pf n).1 z
  . exact rd n lC z
 have named:∀v,(v∈bF P R rb\/∃o∈inner P R rb,v∈F o)->Named ad (bV [] (B1 rb++(bM P R rb).flatMap (S1 P R (ad.map (·.1)) rb))) (bD (F rb.aa)) v:=λv hv=>by
  refine⟨?_,apart v⟩
  by_cases z:v∈ad.map (·.1)
  . exact .inl z
  . by_cases g:v∈br P R rb
    . exact .inr (.inl (a1 v g z))
    . exact .inr (.inr (cU.mpr (FO.closed rb lC v hv g z)))
 refine⟨λb hb v hv=>named v (.inl (Zm.mpr ⟨b,hb,hv⟩)),λb hb l hl v hv=>named v (.inr ⟨l,Zm.mpr ⟨b,hb,hl⟩,hv⟩),λb hb o ho w v hv=>?_,λb hb c hc=>(Mh _).mpr (.inr ⟨b,hb,(Ir b _).mpr (.inr (.inr ⟨c,hc,rfl⟩))⟩),λb hb ne v hv=>(Mh _).mpr (.inr ⟨b,hb,(Ir b _).mpr (.inl ⟨ne,hv⟩)⟩)⟩;have hg:v∈o.aC:=by unfold Op.aC;rw[if_pos w];exact hv
 refine a1 v (Zm.mpr ⟨b,hb,Zd _ (Zi _ (Zm.mpr ⟨o,ho,hg⟩))⟩) λz=>?_;refine oeaa ((pi N).mp ((AD.2 v).mp z)) λo' i_ CC s=>?_;have:=N.JX (jk.mpr ⟨b,cq hr hb,ho⟩) i_ hg CC;subst this;unfold aK at s;simp[w] at s
structure Ut where
 (m:tj) (rb:ax) (num n:Int) (aH:String) (bs:List CB)
structure oj(P:aI)(R:List Int)(F:Int->List Int)(h:Hp)(u:Ut):Prop where
 self:h u.m.u=some (.inst "CUnit" (om u.num u.aH u.m ((F u.rb.aa).length:Int) u.n))
 blocks:h u.m.bA=some (.list (u.bs.map oh))
 cb:∀b∈u.bs,Eu P R F (bD (F u.rb.aa)) h b
 cover:∀v∈F u.rb.aa,kG u.bs v
 cG:u.bs.length<=192
theorem oj.ext{h':Hp}{u:Ut}(x:oj P R F h u)(e:Ext h h'):oj P R F h' u:=⟨e.at x.self,e.at x.blocks,λb hb=>(x.cb b hb).ext e,x.cover,x.cG⟩
theorem EI{a b:Nat}{o o':O}(x:h a=some o)(y:h b=some o'):jL [a,b] h:=λz m=>by
 rcases Zp.mp m with rfl|m
 . exact aF x
 . rw[Zc.mp m];exact aF y
theorem OZ{a b x:Nat}(n:x≠a)(m:x≠b):x∉[a,b]:=λz=>(Zp.mp z).elim n λz=>m (Zc.mp z)
theorem BS{b:Nat}{i2 h8 h9:Hp}{o:O}(hi:Ext h i2)(ne:b∈[m.ex,m.bA])(p:Put h8 b o h9):Ext (news i2 (aY [m.ex,m.bA] h8)) (news h h9):=.mk λ{x o'} z=>by
 refine oa (cT z) λb1 b2=>?_;have nm:x∉[m.ex,m.bA]:=λk=>aF b2 (cB k);exact news_at (hi.none b1) (p.to (λk=>nm (k▸ne)) ((aW nm).symm.trans b2))
theorem vY{l S:List Nat}(n:l.Nodup)(i:Nat)(js:List Nat){x:Nat}(hi:l[i]?=some x)(hs:S.map some=js.map (l[·]?))(ne:js.contains i=false):x∉S:=λm=>by
 refine oea (Zn.mp (hs▸Zn.mpr ⟨x,m,rfl⟩:some x∈js.map (l[·]?))) λj hj e=>?_;have:=(WT (ZN.mp hi).1 n).mp (hi.trans e.symm);subst this;exact Bool.noConfusion (ne.symm.trans (Z0.mpr hj))
theorem uO(W:Wd Φ γ)(N:aL P)(LA:gz P h y R ad ds F)(hn:h y.nA=some (.dict (nB P R)))(cG:∀c∈af P R,(F c.aa).length<64)(lC:rb∈af P R)
 (q:∀h' u,Ext h h'->u.rb=rb->oj P R F (news h h') u->Q (.ref u.m.u) h'):Φ "made_unit" [.ref y.ad,.int rb.aa] h Q:=by
 refine W.cl rfl rfl ?_;have LR:=LA.least;have r1:=LR.cg.one N;refine oa (ay.mp lC) λhr hR=>?_;have ys:=LA.lay.self;have Yp:=LA.lay.prog;have ps:=Yp.self;have bs:=(Yp.aS rb hr).self;have g1:=W.AB;have g2:=W.HA;have g3:=W.v7;refine oea (kS (R:=R) N lC) λni hni ln=>?_;have RD:=BE N LR LA.atoms LA.free lC;have ml:=oN (R:=R) (rb:=rb) N;nofun;refine r_join (λh' v=>h=h'/\∃s,v=sv s) (λ_ K hK=>?_) (λ_ K hK=>?_) λh' v ⟨e,s,ev⟩=>?_
 . nofun;exact r_done (hK _ _ ⟨rfl,_,rfl⟩)
 . nofun;exact r_done (hK _ _ ⟨rfl,_,rfl⟩)
 subst e ev;refine r_newCU W Fr.nil λu pA bA h2 e2 IH nu np nb f2 p2 b2=>?_;have up:u≠pA:=fG IH.nd 2 1 rfl rfl (by decide);have ub:u≠bA:=fG IH.nd 2 0 rfl rfl (by decide);have bs2:=e2.at bs;nofun;intro h3 p3;have e3:=p3.im e2 nu;have LA3:=LA.ext e3;nofun;refine r_newUM W N LA3 lC (cG rb lC) (LA.free.good rb lC).1 (IH.put p3) (pA:=pA) (bA:=bA) λa sl pl ca ta sp ex h4 e4 fr n1 n2 n3 n4 k1 k2 k3 k4 k5 k6=>?_;obtain ⟨m,rfl,rfl,rfl,rfl,rfl,rfl,rfl,rfl,rfl⟩:∃m:tj,m.ad=a/\m.u=u/\m.pA=pA/\m.bA=bA/\m.sl=sl/\m.pl=pl/\m.cA=ca/\m.sp=sp/\m.ex=ex:=⟨⟨a,u,pA,bA,sl,pl,ca,sp,ex⟩,rfl,rfl,rfl,rfl,rfl,rfl,rfl,rfl,rfl⟩;have CJ:=e3.trans e4;have f4:=e4.at p3.at;have p4:=e4.at (p3.to up.symm p2);have b4:=e4.at (p3.to ub.symm b2)
 -- the base
 have sub:∀x∈[m.u,m.pA,m.bA,m.sl,m.pl,m.ex],h x=none:=YM.mpr ⟨nu,YM.mpr ⟨np,YM.mpr ⟨nb,YM.mpr ⟨e3.none n2,YM.mpr ⟨e3.none n3,YM.mpr ⟨e3.none n4,λ_ z=>nomatch z⟩⟩⟩⟩⟩⟩
 let im:=aY [m.u,m.pA,m.bA,m.sl,m.pl,m.ex] h4
 have TR:Ext im h4:=bj;have NE:Ext h im:=λx hx=>(aW λz=>hx (sub x z)).trans (CJ x hx);have AP:Apart im m:=⟨cB (Z4 (i:=0) rfl),cB (Z4 (i:=1) rfl),cB (Z4 (i:=2) rfl),cB (Z4 (i:=3) rfl),cB (Z4 (i:=4) rfl),cB (Z4 (i:=5) rfl),
  up,ub,fG fr.nd 9 5 rfl rfl (by decide),fG fr.nd 9 4 rfl rfl (by decide),fG fr.nd 9 0 rfl rfl (by decide),
  fG fr.nd 8 7 rfl rfl (by decide),fG fr.nd 8 5 rfl rfl (by decide),fG fr.nd 8 4 rfl rfl (by decide),fG fr.nd 8 0 rfl rfl (by decide),
  fG fr.nd 7 5 rfl rfl (by decide),fG fr.nd 7 4 rfl rfl (by decide),fG fr.nd 7 0 rfl rfl (by decide),fG fr.nd 5 4 rfl rfl (by decide),fG fr.nd 5 0 rfl rfl (by decide),fG fr.nd 4 0 rfl rfl (by decide)⟩
 have As:im m.ad=some (.inst "UnitMaker" (vM y m rb.aa)):=(aW (vY fr.nd 6 [9,8,7,5,4,0] rfl rfl rfl)).trans k1;have JS:=(aW (vY (S:=[m.u,m.pA,m.bA,m.sl,m.pl,m.ex]) fr.nd 3 [9,8,7,5,4,0] rfl rfl rfl)).trans k2;have QB:=(aW (vY (S:=[m.u,m.pA,m.bA,m.sl,m.pl,m.ex]) fr.nd 1 [9,8,7,5,4,0] rfl rfl rfl)).trans k3
 change im _=_ at JS QB
 clear_value im
 have MN:=LA.ext NE;have Pp:=NE.at hn;clear fr IH sub;nofun;rw[Za,jD];intro h5 p5;have x5:US im m ni s ((F rb.aa).length:Int) 0 [] [] h5:=⟨p5.im TR AP.nu,⟨0,p5.at⟩,⟨[],p5.to AP.up.symm p4,Zs _⟩,⟨[],p5.to AP.us.symm k4,rfl,λ_ z=>nomatch z⟩,p5.to AP.ul.symm k5,p5.to AP.ub.symm b4,p5.to AP.ux.symm k6⟩;nofun;refine sD W N AP MN.lay As hr x5 λh6 x6=>?_;nofun;refine si W N AP MN.lay MN.aD r1 As hr x6 λh7 a i9 x7 Pj ha na=>?_;have Tw:a≠m.bA:=(aB na x6.b).symm;have Tt:a≠m.ex:=(aB na x6.ex).symm
 revert RD x7
 generalize bV [] (B1 rb++(bM P R rb).flatMap (S1 P R (ad.map (·.1)) rb))=ks;intro RD x7
 -- the base for the blocks
 let i2:=aY [m.ex,m.bA] h7
 have i27:Ext i2 h7:=bj;have I0:∀{x o},x≠m.ex->x≠m.bA->h7 x=some o->i2 x=some o:=λa1 a2 ho=>(aW (OZ a1 a2)).trans ho;have yp:Ext im i2:=.mk λz=>I0 (aB AP.nx z) (aB AP.nb z) (x7.ext.at z);refine oe x7.u λun T9=>?_;have M2:xY i2 P y R ad ds F m rb (bD (F rb.aa)):=⟨MN.ext yp,yp.at Pp,yp.at As,yp.at JS,yp.at QB,lC,rfl,cG⟩;refine oeaa x7.sl λes s1 s2 s3=>?_;have S2:du i2 m.sl ks:=⟨es,I0 AP.sx AP.bs.symm s1,s2,s3⟩;have P2:nV P R rb i2 m.pl:=⟨i9,I0 AP.lx AP.bl.symm x7.pl,Pj⟩;have i2a:=I0 Tt Tw ha;have TT:=I0 AP.ux AP.ub T9;have X0:iq P R F (bD (F rb.aa)) i2 m.ex [m.bA] h7 []:=⟨.refl,EI x7.ex x7.b,x7.ex,λ_ z=>nomatch z⟩;have Y0:iq P R F (bD (F rb.aa)) i2 m.bA [m.ex] h7 []:=⟨bu (λx hx=>.inl (by
  rcases Zp.mp hx with rfl|hx
  . exact Zh _ Ze
  . rw[Zc.mp hx];exact Ze)) .refl,EI x7.b x7.ex,x7.b,λ_ z=>nomatch z⟩
 have Mw:Ext h i2:=NE.trans yp;have bx:=AP.bx
 clear_value i2
 nofun;rw[Za];refine fj W.aV (Zf ml (by decide)) (λi _ h'=>∃xs bs,iq P R F (bD (F rb.aa)) i2 m.ex [m.bA] h' xs/\iq P R F (bD (F rb.aa)) i2 m.bA [m.ex] h' bs/\xs.length<=2*i/\bs.length<=i/\
  ∀b∈(bM P R rb).take i,(∀v∈bZ R b,kG (bs++xs) v)/\∀l∈ct P R b,∀v∈F l,kG (bs++xs) v)
  ⟨[],[],X0,Y0,Zs _,Zs _,λb hb=>by rw[WO] at hb;cases hb⟩ (λi σ h8 hi lE K hK _ _=>oeeaaaa lE λxs bs X Y xl bl vE=>?_) λσ h8 q7=>oeeaaaa q7 λxs bs X Y xl bl vE=>?_
 . have e8:=X.old;have hg:(bM P R rb)[i]?=some (bM P R rb)[i]:=Zv hi;have Jl:(bM P R rb)[i]∈bM P R rb:=Yz _;have sq:dm ((bM P R rb).map ch) (i:Int)=some (.int (bM P R rb)[i].aa):=by
    unfold dm;rw[if_pos (Yb _),YZ,ZQ,hg];rfl
   have QF:i<=64:=Zf (ZI hi) ml;have RG:=Y.at_;nofun;refine sd W N M2 S2 P2 RD X Jl (Zk xl (Zk (Xi 2 QF) (by decide))) λh9 c pV e9 o9 X9 cbr sb lx cr ci=>?_;have Y9:=Y.frame (e:=m.ex) Ze bx.symm e9 o9;have PU:=Y9.at_;nofun;refine r_app PU ?_ λio p=>?_
   . rw[Za];exact Zk (Zf bl QF) (by decide)
   have xW:=Y9.push Y.live Y.old cbr p;have wU:=X9.KV (a:=m.bA) Ze bx p;refine r_done (hK _ _ ⟨pV,bs++[c],wU,xW,Zf lx (ZP xl 2),by rw[Zb];exact ZP bl 1,λb hb=>?_⟩);have EG:∀v,kG (bs++xs) v->kG ((bs++[c])++pV) v:=λv hv=>hv.more λb hb=>by
    rcases Zg.mp hb with hb|hb
    . exact Zd _ (Zd _ hb)
    . exact Zi _ (sb b hb)
   have EE:∀v,(Jw c.aQ v\/kG pV v)->kG ((bs++[c])++pV) v:=λv hv=>by
    rcases hv with hv|hv
    . exact⟨c,Zd _ (Zi _ Ze),hv⟩
    . exact hv.more λb hb=>Zi _ hb
   rw[fT hg] at hb;rcases Zg.mp hb with hb|hb
   . exact⟨λv hv=>EG v ((vE b hb).1 v hv),λl hl v hv=>EG v ((vE b hb).2 l hl v hv)⟩
   . rw[Zc.mp hb];exact⟨λv hv=>EE v (cr v hv),λl hl v hv=>EE v (ci l hl v hv)⟩
 rw[Xy] at vE;have e8:=X.old;have RG:=Y.at_;have So:=X.at_;have R8:=M2.self;have PZ:=Zf xl (Xi 2 ml);have RF:=Zf bl ml;nofun;refine r_extend RG So bx ?_ λh9 p=>?_
 . rw[Za,Za];exact Zf (ZR RF PZ) (by decide)
 have e9:Ext i2 h9:=p.im e8 Y.none;have Pg:=e9.at TT;nofun;have n2:=BS (m:=m) Mw (Zh _ Ze) p;have sw:aY [m.bA,m.ex] h8=aY [m.ex,m.bA] h8:=funext λx=>by
  by_cases z:x∈[m.ex,m.bA]
  . rw[cB z,cB ((List.Perm.swap m.ex m.bA []).mem_iff.mpr z)]
  . rw[aW z,aW λk=>z ((List.Perm.swap m.ex m.bA []).mem_iff.mp k)]
 refine q h9 ⟨m,rb,ni,un,s,bs++xs⟩ (Mw.trans e9) rfl ⟨news_at nu Pg,news_at nb (p.at.trans (by rw[Zq])),λb hb=>?_,λv hv=>?_,by rw[Zb];exact ZR RF PZ⟩
 . rcases Zg.mp hb with hb|hb
   . exact(sw▸Y.ok b hb).ext n2
   . exact(X.ok b hb).ext n2
 . refine oa ((LA.free.good rb lC).2 v hv) λn na=>?_;rcases (pf n).2 with h|⟨c,hc,NH,nc⟩
   . refine oea (Zm.mp h) λb hb hv=>?_;exact(vE b hb).1 v hv
   . refine oea (Zm.mp NH) λb hb hl=>?_;exact(vE b hb).2 c.aa hl v ((LA.free.iff hc).mpr ⟨nc,na⟩)
end
end
section
section
variable {Φ:Calls}{γ:String->Option V}{im h:Hp}{Q:V->Hp->Prop}{P:aI}{R:List Int}
variable {y:Lay}{ad:List (Int×V)}{ds:List Row}{F:Int->List Int}{m:tj}{rb:ax}{bq ks:List Int}
theorem r_sortedBy{k:C}{ρ:Lo}{st:List V}{Q:Po}{a:Nat}{es:List (Int×V)}{ns:List Int}(e:h a=some (.dict es))(hn:es.map (·.2)=ns.map V.int)(hp:List.Pairwise (· < ·) ns)(hl:ns.length<64)(q:∀c h',Alloc h c (.list (es.map λp=>.int p.1)) h'->wp Φ γ k ρ (.ref c::st) h' Q):wp Φ γ (.b .sortedBy k) ρ (.ref a:: .ref a::st) h Q:=⟨_,⟨a,es,ns,rfl,rfl,e,hn,hp,hl,rfl⟩,r_al q⟩
noncomputable def nW(P:aI):Prop:=∀R,dK P R->∀b∈af P R,∀l:List Int,l.Nodup->(∀x∈l,bH P R b x/\x∉simple P)->l.length<64
theorem gz.cG(FF:nW P)(LA:gz P h y R ad ds F):∀c∈af P R,(F c.aa).length<64:=λc hc=>
 FF R LA.least c hc (F c.aa) (LA.free.good c hc).1 λx hx=>⟨((LA.free.good c hc).2 x hx).1,λz=>((LA.free.good c hc).2 x hx).2 ((LA.atoms.2 x).mpr z)⟩
noncomputable abbrev je(u:Ut):V:=.ref u.m.u
theorem BP(W:Wd Φ γ)(N:aL P)(FF:nW P)(Y:PR h P)(B:Base γ h)
 (q:∀h' c l R ad F (us:List Ut),Ext h h'->h c=none->dK P R->tU P ad->gX P R (ad.map (·.1)) F->us.map Ut.rb=af P R->h' c=some (.inst "CProgram" [("units",.ref l),("start",.int 0)])->h' l=some (.list (us.map je))->(∀u∈us,oj P R F h' u)->Q (.ref c) h'):Φ "closed" [.ref P.ad] h Q:=by
 refine W.cl rfl rfl ?_;nofun;refine o7 W N Y B λy h1 R ad ds F e1 LA hn n1=>?_;have cG:=LA.cG FF;have rl:=dI (R:=R) N;have ys:=LA.lay.self;nofun;refine r_new rfl λc h2 A2=>W.cl rfl rfl ?_;have n2:=A2.new;nofun;intro l h3 A3;have lc:l≠c:=(A3.ne A2.at).symm;have nl:=A2.ext.none A3.new;have c3:=A3.ext.at A2.at;nofun;intro h4 p4;nofun;intro h5 p5;refine r_done ⟨rfl,?_⟩;have e5:Ext h1 h5:=p5.im (p4.im (A3.im A2.ext) n2) n2;have l5:=p5.to lc (p4.to lc A3.at);nofun;have UQ:(nB P R).map (·.2)=((List.range (af P R).length).map λi:Nat=>(i:Int)).map V.int:=by
  unfold nB;rw[Zt,Zt];have:((λp:Int×V=>p.2)∘λp:ax×Nat=>(p.1.aa,V.int p.2))=(λi:Nat=>V.int i)∘Prod.snd:=rfl;rw[this,<-Zt,List.zipIdx_map_snd,List.range_eq_range']
  rfl
 have UT:(nB P R).map (λp=>V.int p.1)=(af P R).map ch:=by
  unfold nB;rw[Zt];have:((λp:Int×V=>V.int p.1)∘λp:ax×Nat=>(p.1.aa,V.int p.2))=ch∘Prod.fst:=rfl;rw[this,<-Zt,WH]
 refine r_sortedBy (e5.at hn) UQ ?_ (by rw[Za,Z3];exact rl) λa h6 A6=>?_
 . rw[YO];exact Ve.imp λh=>YT.mpr h
 rw[UT] at A6;have c6:=A6.ext.at p5.at;have l6:=A6.ext.at l5;have e6:=A6.im e5
 -- the base,without the list of the units
 let j:=aG l h6
 have j6:Ext j h6:=aU;have jl:j l=none:=ao;have jh:Ext h1 j:=bg e6 nl;have al:a≠l:=(A6.ne l5).symm;have cl:c≠l:=Yq lc;have ja:j a=some (.list ((af P R).map ch)):=aE al A6.at;have jc:j c=some (.inst "CProgram" [("units",.ref l),("start",.int 0)]):=aE cl c6
 clear_value j
 refine bN W.aV ch (af P R) (λd _ h'=>∃us j',Ext j j'/\Ext j' h'/\j' l=none/\us.map Ut.rb=d/\h' l=some (.list (us.map je))/\∀u∈us,oj P R F j' u)
  A6.at ⟨[],j,.refl,j6,jl,rfl,l6,λ_ z=>nomatch z⟩ (λd ρ h' lF=>oeeaa lF λus j' a1 a2 _=>a2.at (a1.at ja)) (λd b rr σ h7 hd hb lE K hK _=>oeeaaaaa lE λus j' a1 a2 a3 eq l7 ok=>?_) λσ h7 q7=>oeeaaaaa q7 λus j' a1 a2 a3 eq l7 ok=>?_
 . have e7:=jh.trans (a1.trans a2);have c7:=(a1.trans a2).at jc;have ul:us.length<64:=by
    have:us.length=d.length:=by rw[<-eq,Za]
    rw[this];exact Zk (hd▸(Zb (as:=d) (bs:=b::rr)).symm▸ZE _ _) rl
   nofun;refine uO W N (LA.ext e7) (e7.at hn) cG hb λh8 u e8 eu U=>?_;have l8:=e8.at l7;nofun;refine r_app l8 (by rw[Za];exact ZL ul (by decide)) λh9 p=>?_;have e1:Ext j' (aG l h8):=bg (a2.trans e8) a3;have en:Ext (news h7 h8) (aG l h8):=.mk λ{x o} z=>by
    refine oa (cT z) λb1 b2=>?_;exact aE (λk=>aF l7 (k▸b1)) b2
   refine r_done (hK _ _ ⟨us++[u],aG l h8,a1.trans e1,oK p,ao,by rw[Zq,eq,YI,eu],by rw[p.at,Zq];rfl,λu' Ek=>?_⟩);rcases Zg.mp Ek with Ek|Ek
   . exact(ok u' Ek).ext e1
   . rw[Zc.mp Ek];exact U.ext en
 . nofun;exact q h7 c l R ad F us (e1.trans (jh.trans (a1.trans a2))) (e1.none n2) LA.least LA.atoms LA.free eq ((a1.trans a2).at jc) l7 λu hu=>(ok u hu).ext a2
end
end
section
section
variable {Φ:Calls}{γ:String->Option V}{k b:C}{ρ:Lo}{st:List V}{h:Hp}{Q:Po}{a:Nat}{α:Type}
theorem r_inT{s:PySem.Str}{l:List PySem.Str}(e:h a=some (.tup (l.map .str)))(q:wp Φ γ k ρ (.bool (l.contains s)::st) h Q):wp Φ γ (.b (.cmp .isin) k) ρ (.ref a:: .str s::st) h Q:=⟨_,⟨_,rfl,.inr ⟨s,a,l,rfl,rfl,e,rfl⟩⟩,q⟩
theorem y_(M:dS Φ){t:List String}(f:α->V)(xs:List α)(bw:List α->Lo->Hp->Prop)(ha:h a=some (.list (xs.map f)))(g:Nat.ble 2 t.length=true)(i0:bw [] ρ h)(sZ:∀d ρ' h',bw d ρ' h'->h' a=some (.list (xs.map f)))
 (step:∀d x r σ h',d++x::r=xs->x∈xs->bw d (mix (t++aX b) σ ρ) h'->∀K:Po,(∀ρ h,bw (d++[x]) ρ h->K .next ρ [] h)->(∀v ρ h,Q (.ret v) ρ st h->K (.ret v) ρ [] h)->∃b' vs,f x= .ref b'/\h' b'=some (.tup vs)/\t.length=vs.length/\wp Φ γ b (binds (mix (t++aX b) σ ρ) t vs) [] h' K)
 (fin:∀σ h',bw xs (mix (t++aX b) σ ρ) h'->wp Φ γ k (mix (t++aX b) σ ρ) st h' Q):wp Φ γ (.for t .seq b k) ρ (.ref a::st) h Q:=
 ⟨.list a (xs.map f),st,⟨a,rfl,.inl ⟨_,ha,rfl⟩⟩,iP M xs (λx=>[f x]) (Zt ..) bw i0 sZ (λd x r σ h' e m I K hK hr _=>by
  refine oeeaaa (step d x r σ h' e m I K hK hr) λb' vs e1 e2 e3 w=>?_;exact⟨_,.inr ⟨b',vs,by rw[e1],ZC g,e3,.inl e2,rfl⟩,w⟩) fin⟩
end
section
variable {Φ:Calls}{γ:String->Option V}{im h h' cR:Hp}{Q:V->Hp->Prop}{P:aI}{R:List Int}{F:Int->List Int}{bq:List Int}{ra ma:Nat}{zs:List Z}{ms:List (Nat×Line)}
theorem pR{w:String}(c:([PySem.Str.ofString "close",PySem.Str.ofString "closefix"]:List PySem.Str).contains (PySem.Str.ofString w)=true):w="close"\/w="closefix":=by
 have m:=Z0.mp c;rcases Zp.mp m with e|m
 . exact .inl (rQ e)
 . exact .inr (rQ (Zc.mp m))
structure LU(P:aI)(R:List Int)(F:Int->List Int)(bq:List Int)(h:Hp)(ra ma:Nat)(zs:List Z)(ms:List (Nat×Line)):Prop where
 r:h ra=some (.list (zs.map qc))
 ok:∀z∈zs,wT h bq z
 m:h ma=some (.list (ms.map λp=>.ref p.1))
 made:∀p∈ms,h p.1=some (.list [p.2.num,.int p.2.zs.length])/\ke P R F p.2
structure Hd(P:aI)(R:List Int)(F:Int->List Int)(h:Hp)(ma:Nat)(h':Hp)(ra:Nat)(zs:List Z)(ms:List (Nat×Line)):Prop where
 ext:Ext h (aG ma h')
 r:aG ma h' ra=some (.list (zs.map qc))
 m:h' ma=some (.list (ms.map λp=>.ref p.1))
 made:∀p∈ms,aG ma h' p.1=some (.list [p.2.num,.int p.2.zs.length])/\ke P R F p.2
theorem Hd.ext'(x:Hd P R F h ma h' ra zs ms):Ext h h':=x.ext.trans aU
theorem Hd.more(x:Hd P R F h ma h' ra zs ms)(e:Ext h' cR):Hd P R F h ma cR ra zs ms:=
 have E:=fy (a:=ma) e
 ⟨x.ext.trans E,E.at x.r,e.at x.m,λp hp=>⟨E.at (x.made p hp).1,(x.made p hp).2⟩⟩
theorem Hd.aQ(x:Hd P R F h ma h' ra zs ms){M7:Nat}{IP:List Z}(n:M7≠ma)(f:h' M7=some (.list (IP.map qc))):Hd P R F h ma h' M7 IP ms:=⟨x.ext,aE n f,x.m,x.made⟩
theorem Hd.base{h0:Hp}(x:Hd P R F h ma h' ra zs ms)(e:Ext h0 h):Hd P R F h0 ma h' ra zs ms:=⟨e.trans x.ext,x.r,x.m,x.made⟩
theorem Hd.re(x:Hd P R F h ma h' ra zs ms):Hd P R F (aG ma h') ma h' ra zs ms:=⟨.refl,x.r,x.m,x.made⟩
theorem Hd.push(x:Hd P R F h ma h' ra zs ms){a:Nat}{l:Line}(n:a≠ma)(f:h' a=some (.list [l.num,.int l.zs.length]))(ok:ke P R F l)(p:Put h' ma (.list ((ms.map λp=>V.ref p.1)++[.ref a])) cR):Hd P R F h ma cR ra zs (ms++[(a,l)]):=by
 have e:aG ma cR=aG ma h':=iO p;refine⟨e▸x.ext,e▸x.r,by rw[p.at,Zq];rfl,λp' kC=>?_⟩;rw[e];rcases Zg.mp kC with kC|kC
 . exact x.made p' kC
 . rw[Zc.mp kC];exact⟨aE n f,ok⟩
structure Ls(P:aI)(R:List Int)(F:Int->List Int)(bq:List Int)(h:Hp)(c:CO)(la:Nat)(ls:List Line):Prop where
 at_:h la=some (.list (ls.map λl=>.ref l.ta))
 ta:∀l∈ls,h l.ta=some (.tup [l.slot,l.num,.ref l.la])
 zs:∀l∈ls,h l.la=some (.list (l.zs.map qc))
 fm:ls.flatMap (·.zs)=c.aQ
 len:ls.length=c.lines.length
 made:(c.bC="close"\/c.bC="closefix")->∀l∈ls,ke P R F l
theorem BL(W:Wd Φ γ){u:Ut}(U:oj P R F h u)
 (q:∀h' t ra ma zs ms,Ext h h'->h' t=some (.tup [.ref ra,.ref ma])->LU P R F (bD (F u.rb.aa)) h' ra ma zs ms->(∀b∈u.bs,∀z∈b.aQ,z∈zs)->zs.length<=960000->ms.length<=19200->Q (.ref t) h'):Φ "_law_handed" [.ref u.m.u] h Q:=by
 refine W.cl rfl rfl ?_;have self:=U.self;have ub:=U.blocks;nofun;intro ra h1 A1;nofun;intro ma h2 A2;have x2:Hd P R F h ma h2 ra [] []:=⟨bg (A1.ext.trans A2.ext) (A1.ext.none A2.new),aE (A2.ne A1.at) (A2.ext.at A1.at),A2.at,λ_ z=>nomatch z⟩;have e2:=x2.ext';nofun;refine bN W.aV oh u.bs (λd ρ h'=>∃ra ms,ρ "reads"=some (.ref ra)/\Hd P R F h ma h' ra (d.flatMap CB.aQ) ms/\ms.length<=d.length*100) (e2.at ub) ⟨ra,[],rfl,x2,Zs _⟩ (λd ρ h' lF=>oeeaa lF λ_ _ _ x _=>x.ext'.at ub) ?_ ?_
 . intro d b rr σ h3 hd hb z_ K hK _;refine oeeaa z_ λra ms lr x3 ml=>?_;have B:=U.cb b hb;have dl:d.length+1<=192:=Zf (hd▸(Zb (as:=d) (bs:=b::rr)).symm▸ZO (YH (ZS _)) _) U.cG;have D5:(d.flatMap CB.aQ).length+5000<=960000:=by
    have:=gL (f:=CB.aQ) (l:=d) (k:=5000) (λb' cE=>(U.cb b' (hd▸Zd _ cE)).cG) (Zs _);exact Zf (ZP this 5000) (V8 d.length 5000▸ZZ 5000 dl)
   have M1:ms.length+100<=19200:=Zf (ZP ml 100) (V8 d.length 100▸ZZ 100 dl);have dr:(d++[b]).flatMap CB.aQ=d.flatMap CB.aQ++b.aM.flatMap CO.aQ++b.ag.aQ:=by
    rw[Zx,ZF,Zo];rfl
   rw[dr] at hK;have zS:∀ρ h' ra Me,ρ "reads"=some (.ref ra)->Hd P R F h ma h' ra (d.flatMap CB.aQ++b.aM.flatMap CO.aQ++b.ag.aQ) Me->Me.length<=ms.length+100->K .next ρ [] h':=λρ h' ra Me l x m=>hK ρ h' ⟨ra,Me,l,x,by
    rw[Zb];exact Zf m (V8 d.length 100▸ZP ml 100)⟩
   have J8:=B.cG
   revert x3 D5 zS
   generalize d.flatMap CB.aQ=D;intro x3 D5 zS;clear hK dr;have J7:=B.lines;have Sf:=B.self;have J5:=B.aM;have e3:=x3.ext';have SS:(b.aM.flatMap CO.aQ).length<=5000:=Zf (by rw[Zb];exact ZE _ _) J8;nofun;refine bN W.aV (λc:CO=>.ref c.ad) b.aM (λd2 ρ h'=>∃ra Ff,ρ "reads"=some (.ref ra)/\Hd P R F h ma h' ra (D++d2.flatMap CO.aQ) Ff/\Ff.length<=ms.length+(d2.flatMap (·.lines)).length)
    (e3.at J5) ⟨ra,ms,lr,by rw[Yc,Zu];exact x3,Zs _⟩ (λd ρ h' lE=>oeeaa lE λ_ _ _ x _=>x.ext'.at J5) ?_ ?_
   . intro d2 c IV σ h4 hd2 hc z_ K2 q8 _;refine oeeaa z_ λra Ff lr x4 Mg=>?_;have C:=B.op c hc;have Ly:=C.self;have e4:=x4.ext';have rl:(d2.flatMap CO.aQ).length+c.aQ.length<=5000:=Zf (by
      rw[<-hd2,Zx,ZK,<-Zo,Zb,Zb];exact ZE _ _) SS
     have ll:(d2.flatMap (·.lines)).length+c.lines.length<=100:=Zf (by
      rw[<-hd2,Zx,ZK,<-Zo,Zb,Zb];exact ZE _ _) J7
     nofun;refine r_join (λh' v=>Ext h4 h'/\∃la ls,v= .ref la/\Ls P R F (bD (F u.rb.aa)) (aG ma h') c la ls) (λw K hK=>?_) (λw K hK=>?_) λh5 v q7=>oaeea q7 λe5 la ls ev L=>?_
     . refine oaa (C.fix (beq_iff_eq.mp w)) λw1 w2 w3=>?_;nofun;rw[w1];exact r_done (hK _ _ ⟨.refl,c.da,c.lines,rfl,x4.ext.at w2,λl hl=>x4.ext.at (w3 l hl),λl hl=>x4.ext.at (C.lines l hl).l,rfl,rfl,C.made⟩)
     . refine oe (C.ED λz=>Bool.noConfusion ((beq_iff_eq.mpr z).symm.trans w)) λzs wl=>?_;nofun;intro t h5 A5;nofun;intro la h6 A6;have tm:t≠ma:=(A5.ne x4.m).symm;have lm:la≠ma:=(A6.ne (A5.ext.at x4.m)).symm;have e6:=A5.ext.trans A6.ext;have x6:=x4.more e6;refine r_done (hK _ _ ⟨e6,la,[⟨t,c.slot,c.data,c.ga,zs⟩],rfl,aE lm A6.at,λl hl=>?_,λl hl=>?_,?_,by rw[wl];rfl,λww l hl=>?_⟩)
       . rw[Zc.mp hl];exact aE tm (A6.ext.at A5.at)
       . rw[Zc.mp hl];exact x6.ext.at (C.lines ⟨0,c.slot,c.data,c.ga,zs⟩ (by rw[wl];exact Ze)).l
       . rw[CO.aQ,wl];rfl
       . rw[Zc.mp hl];exact C.made ww ⟨0,c.slot,c.data,c.ga,zs⟩ (by rw[wl];exact Ze)
     subst ev;have x5:=(x4.more e5).re;have b5:=(x4.more e5).ext;have l5:=aU.at L.at_;rw[Zx,Zx,ZF,ZF,<-Zo,<-L.fm] at q8;rw[<-L.fm] at rl
     revert x5 b5 L
     generalize aG ma h5=H5;intro L x5 b5;nofun;refine y_ W.aV (λl:Line=>.ref l.ta) ls (λd3 ρ h'=>∃ra Ej,ρ "reads"=some (.ref ra)/\Hd P R F H5 ma h' ra (D++d2.flatMap CO.aQ++d3.flatMap (·.zs)) Ej/\Ej.length<=Ff.length+d3.length)
      l5 rfl ⟨ra,Ff,lr,by rw[Yc,Zu];exact x5,Zs _⟩ (λd ρ h' xP=>oeeaa xP λ_ _ _ x _=>x.ext'.at L.at_) ?_ ?_
     . intro d3 l P_ σ h6 Fq hl z_ K3 Em _;refine oeeaa z_ λra Ej lr x6 Mf=>?_;have e6:=x6.ext';refine⟨l.ta,_,rfl,e6.at (L.ta l hl),rfl,?_⟩;have lz:=L.zs l hl;have cs:=b5.at Ly;have r6:=aU.at x6.r;have z3:(d3.flatMap (·.zs)).length+l.zs.length<=(ls.flatMap (·.zs)).length:=by
        rw[<-Fq,Zx,ZK,<-Zo,Zb,Zb];exact ZE _ _
       have l3:d3.length+1<=c.lines.length:=L.len▸Fq▸(Zb (as:=d3) (bs:=l::P_)).symm▸ZO (YH (ZS _)) _;have lim:(D++d2.flatMap CO.aQ++d3.flatMap (·.zs)).length+l.zs.length<=big:=by
        rw[Zb,Zb,Yr,Yr];exact Zf (ZO (Zf (ZO z3 _) rl) _) (Zf D5 (by decide))
       have Gn:Ej.length<big:=by
        have h1:Ej.length<=ms.length+100:=Zf Mf (Zf (ZR Mg (Nat.le_of_succ_le l3)) (Yr ..▸ZO ll _));exact Zk (Zf h1 M1) (by decide)
       nofun;refine r_cat r6 (e6.at lz) (by rw[Za,Za];exact lim) λr7 h7 A7=>?_;rw[<-Zq] at A7;have e7:=A7.im e6;have x7:=(x6.more A7.ext).aQ (A7.ne x6.m).symm A7.at;nofun;intro t8 h8 A8;have e8:=A8.im e7;have x8:=x7.more A8.ext;refine r_inT (l:=[PySem.Str.ofString "close",PySem.Str.ofString "closefix"]) A8.at ?_;rw[Zo,<-ZF (λl:Line=>l.zs) l,<-Zx] at x8;refine r_if (λh'=>∃Md,Hd P R F H5 ma h' r7 (D++d2.flatMap CO.aQ++(d3++[l]).flatMap (·.zs)) Md/\Md.length<=Ej.length+1) (λw K hK=>?_) (λw K hK=>r_done (hK _ ⟨_,x8,Yk _⟩)) λh9 xO=>oea xO λMd x9 TB=>?_
       . have m8:=x8.m;nofun;rw[Za];intro a9 h9 A9;refine r_app (A9.ext.at m8) (by rw[Za];exact Gn) λio p=>?_;exact r_done (hK _ ⟨_,(x8.more A9.ext).push (A9.ne m8).symm A9.at (L.made (pR w) l hl) p,by rw[Zb];exact Zs _⟩)
       . exact r_done (Em _ _ ⟨r7,Md,rfl,x9,Zf TB (by rw[Zb];exact ZP Mf 1)⟩)
     . intro σ h6 z_;refine oeeaa z_ λra Ej lr x6 Mf=>?_;refine r_done (q8 _ _ ⟨ra,Ej,lr,x6.base b5,?_⟩);rw[Zb,<-L.len,<-Yr];exact Zf Mf (ZP Mg _)
   intro σ h4 z_;refine oeeaa z_ λra Ff lr x4 Mg=>?_;have Sc:=B.ag.self;have La:=B.ag.args.l;have e4:=x4.ext';have r4:=aU.at x4.r;have M6:(b.aM.flatMap CO.aQ).length+(b.ag.args.length+(b.ag.head.toList++b.ag.k.toList).length)<=5000:=by
    have:=J8
    rwa [Zb,CL.aQ,Zb] at this
   have Pc:(D++b.aM.flatMap CO.aQ).length+b.ag.args.length<=big:=by
    rw[Zb,Yr];exact Zf (ZO (Zf (ZO (ZE _ _) _) M6) _) (Zf D5 (by decide))
   have Gn:(D++b.aM.flatMap CO.aQ++b.ag.args).length+(b.ag.head.toList++b.ag.k.toList).length<=big:=by
    rw[Zb,Zb,Yr,Yr];exact Zf (ZO M6 _) (Zf D5 (by decide))
   nofun;refine r_cat r4 (e4.at La) (by rw[Za,Za];exact Pc) λr5 h5 A5=>?_;rw[<-Zq] at A5;have e5:=A5.im e4;nofun;intro t6 h6 A6;refine mi W.aV (aJ:=.tup t6 [tH b.ag.head,tH b.ag.k]) ⟨t6,rfl,.inr (.inl ⟨_,A6.at,rfl⟩)⟩ rfl [tH b.ag.head,tH b.ag.k] (λx=>[x]) rfl (λ_=>rfl) (λh' E=>E.at A6.at) id (λx=> !Iv x) (λx h' m E K hK=>?_) (λx h' m p E K hK=>?_) λa7 h7 e7 n7 f7=>?_
   . nofun;exact hK _ E
   . nofun;exact hK _ E
   have hz:([tH b.ag.head,tH b.ag.k].filter (λx=> !Iv x)).map id=(b.ag.head.toList++b.ag.k.toList).map qc:=by
    cases b.ag.head<;>cases b.ag.k<;>rfl
   rw[hz] at f7;have Fx:=A6.ext.trans e7;refine r_cat (Fx.at A5.at) f7 (by rw[Za,Za];exact Gn) λr8 h8 A8=>?_;rw[<-Zq,Zo] at A8;nofun;have Fy:=A5.ext.trans (Fx.trans A8.ext);have m7:=(A5.ext.trans Fx).at x4.m;exact r_done (zS _ _ r8 Ff rfl ((x4.more Fy).aQ (A8.ne m7).symm A8.at) (Zf Mg (ZO J7 _)))
 . intro σ h3 z_;refine oeeaa z_ λra ms lr x3 ml=>?_;have e3:=x3.ext';nofun;intro t h4 A4;have x4:=x3.more A4.ext;refine r_ret (q h4 t ra ma _ ms x4.ext' A4.at ⟨aU.at x4.r,λz hz=>?_,x4.m,λp hp=>⟨aU.at (x4.made p hp).1,(x4.made p hp).2⟩⟩ (λb hb z hz=>Zm.mpr ⟨b,hb,hz⟩) (gL (λb hb=>(U.cb b hb).cG) U.cG) (Zf ml (ZZ 100 U.cG)));refine oea (Zm.mp hz) λb hb hz=>?_;have B:=U.cb b hb;refine wT.ext ?_ x4.ext';rcases Zg.mp hz with hz|hz
   . refine oea (Zm.mp hz) λc hc hz=>?_;refine oea (Zm.mp hz) λl hl hz=>?_;exact((B.op c hc).lines l hl).ok z hz
   . rcases Zg.mp hz with hz|hz
     . exact B.ag.args.ok z hz
     . rcases Zg.mp hz with hz|hz
       . exact B.ag.head z (V9.mp hz)
       . exact B.ag.k z (V9.mp hz)
end
end
section
section
variable {Φ:Calls}{γ:String->Option V}{im h:Hp}{Q:V->Hp->Prop}{P:aI}{R:List Int}{F:Int->List Int}{α:Type}
theorem r_nes{k:C}{ρ:Lo}{st:List V}{Q:Po}{a a':Nat}(s:rV h a a')(q:wp Φ γ k ρ (.bool false::st) h Q):wp Φ γ (.b (.cmp .ne) k) ρ (.ref a':: .ref a::st) h Q:=⟨_,⟨false,rfl,.inr (.inr ⟨a,a',rfl,rfl,s,rfl⟩)⟩,q⟩
theorem mh(M:dS Φ){t:List String}{s:SK}{c e k:C}{ρ:Lo}{st bG:List V}{Q:Po}{aJ:Src}(hs:SrcR s st h aJ bG)(pl:aJ.plain=true)(xs:List α)(f:α->List V)(it:aJ.items=xs.map f)(sZ:∀h',Ext h h'->aJ.stays h')
 (cond:∀x h',x∈xs->Ext h h'->∃ρ',di h' ρ t (f x) ρ'/\∀K:V->Hp->Prop,(∀cR,Ext h cR->K (.bool false) cR)->wp Φ γ c ρ' [] h' (gF K))
 (fin:∀a h',Ext h h'->h' a=some (.list [])->wp Φ γ k ρ (.ref a::bG) h' Q):wp Φ γ (.comp t s c e k) ρ st h Q:=
 fC M hs pl xs f it (λd vs h'=>Ext h h'/\vs=[]) ⟨.refl,rfl⟩ (λd vs h' I=>sZ _ I.1) (λd x r vs h' e m I=>by
  refine oea (cond x h' m I.1) λρ' bt c=>?_;exact⟨ρ',bt,false,c _ λh2 E2=>⟨rfl,E2,I.2⟩⟩) λvs h' a cR I A=>fin a cR (A.im I.1) (by rw[A.at,I.2])
theorem same_ints{a b:Nat}{l:List Int}(ha:h a=some (.list (l.map .int)))(hb:h b=some (.list (l.map .int)))(n:Nat):tJ h (n+1) (.ref a) (.ref b):=by
 refine .inr ⟨a,b,_,_,rfl,rfl,ha,hb,rfl,λi x y hx hy=>?_⟩;rw[hx] at hy
 cases hy
 refine oea (dF hx) λk hk bU=>?_;subst bU
 cases n with
 |zero=>exact⟨k,rfl,rfl⟩
 |succ n=>exact .inl ⟨k,rfl,rfl⟩
structure nY where
 (aS:ax) (a:Nat) (l:List Int)
structure qF(P:aI)(R:List Int)(h:Hp)(wd:Nat)(ws:List nY):Prop where
 eq:ws.map nY.aS=af P R
 d:h wd=some (.dict (ws.map λw=>(w.aS.aa,.ref w.a)))
 row:∀w∈ws,h w.a=some (.list ((bD w.l).map .int))/\w.l.Nodup/\∀x,x∈w.l↔bH P R w.aS x/\x∉simple P
theorem qF.ext{h':Hp}{wd:Nat}{ws:List nY}(x:qF P R h wd ws)(e:Ext h h'):qF P R h' wd ws:=⟨x.eq,e.at x.d,λw hw=>⟨e.at (x.row w hw).1,(x.row w hw).2⟩⟩
theorem tV(N:aL P){wd:Nat}{ws:List nY}(x:qF P R h wd ws){w:nY}(hw:w∈ws):(ws.map λw=>(w.aS.aa,V.ref w.a)).lookup w.aS.aa=some (.ref w.a):=by
 have nd:((ws.map λw=>(w.aS.aa,V.ref w.a)).map (·.1)).Nodup:=by
  have:(ws.map λw=>(w.aS.aa,V.ref w.a)).map (·.1)=(ws.map (·.aS)).map (·.aa):=by rw[Zt,Zt];rfl
  rw[this,x.eq];exact(c9 N).imp λh=>Yd h
 exact cW nd (Zn.mpr ⟨w,hw,rfl⟩)
noncomputable def q6(P:aI):Prop:=∀R,dK P R->∀b∈af P R,b.aa=1->∀x,bH P R b x->x∈simple P
theorem KD{bq:List Int}(nd:bq.Nodup){zs:List Z}(ok:∀z∈zs,wT h bq z)(vE:∀v∈bq,∃z∈zs,z.ae=v):
 ∃is:List Int,(zs.filter λz=>z.arg.kind== "free").map (λz:Z=>z.arg.val)=is.map .int/\(∀i∈is,i<(bq.length:Int))/\∀k<bq.length,(k:Int)∈is:=by
 have fr:∀z∈zs,z.arg.kind="free"->∃i:Nat,z.arg.val= .int i/\i<bq.length/\bq[i]?=some z.ae:=λz hz hk=>by
  rcases (ok z hz).ok with ⟨_,_,i,hi,hv⟩|⟨_,k|k⟩
  . exact⟨i,hv,(ZN.mp hi).1,hi⟩
  . rw[hk] at k;exact absurd k (by decide)
  . rw[hk] at k;exact absurd k (by decide)
 refine⟨(zs.filter λz=>z.arg.kind== "free").map (λz:Z=>match z.arg.val with| .int i=>i|_=>0),?_,λi hi=>?_,λk hk=>?_⟩
 . rw[Zt];refine Yo λz hz=>?_;refine oa (ZH.mp hz) λNr Nq=>?_;refine oea (fr z Nr (beq_iff_eq.mp Nq)) λi hv _=>?_;rw[Function.comp,hv]
 . refine oea (Zn.mp hi) λz hz cu=>?_;subst cu;refine oa (ZH.mp hz) λNr Nq=>?_;refine oeaa (fr z Nr (beq_iff_eq.mp Nq)) λi hv hl _=>?_;rw[hv];exact YT.mpr hl
 . have hg:bq[k]?=some bq[k]:=Zv hk;refine oea (vE _ (Yz hk)) λz hz QI=>?_;rcases (ok z hz).ok with ⟨_,Jg,i,hi,hv⟩|⟨hn,_⟩
   . refine Zn.mpr ⟨z,ZH.mpr ⟨hz,beq_iff_eq.mpr Jg⟩,?_⟩;rw[QI] at hi;rw[hv];exact congrArg Int.ofNat ((WT (ZN.mp hi).1 nd).mp (hi.trans hg.symm))
   . rw[QI] at hn;exact absurd (Yz hk) hn
theorem qg(W:Wd Φ γ)(N:aL P)(FF:nW P)(EF:q6 P)(Y:PR h P)(B:Base γ h)(LR:dK P R){od wd:Nat}{ws:List nY}(ho:h od=some (.list ((af P R).map ch)))(WR:qF P R h wd ws)
 (q:∀h',Ext h h'->Q (.bool true) h'):Φ "_law_are_units_right" [.ref P.ad,.ref od,.ref wd] h Q:=by
 refine W.cl rfl rfl ?_;nofun;refine BP W N FF Y B λh1 c l R2 ad F us e1 n1 LR2 AD FO eq hc hl ok=>?_;have same:∀l,l∈R2↔l∈R:=LR2.same LR;rw[cD same] at eq;have IM:=qT same AD.2 FO;have Du:∀u∈us,∀w∈ws,w.aS=u.rb->(F u.rb.aa).length=(bD w.l).length:=λu hu w hw e=>by
  have hr:u.rb∈af P R:=by rw[<-eq];exact Zn.mpr ⟨u,hu,rfl⟩
  refine oaa (WR.row w hw) λ_ w2 w3=>?_;rw[jD];refine(hU (IM.good _ hr).1 w2 λx=>?_).length_eq;rw[IM.iff hr,w3,e]
 have rl:=dI (R:=R) N;clear FO AD;nofun;refine comp_map W.aV je (λu=>V.int ((F u.rb.aa).length:Int)) us hl (λu h2 hu e2 K hK=>?_) λa2 h2 e2 n2 f2=>?_
 . have su:=e2.at (ok u hu).self;nofun;exact hK _ e2
 have tc:=e1.trans e2;have zQ:=tc.at ho;nofun;refine comp_map W.aV ch (λb=>V.int ((F b.aa).length:Int)) (af P R) zQ (λb h3 hb e3 K hK=>?_) λa3 h3 e3 n3 f3=>?_
 . have p_:=hb;rw[<-WR.eq] at p_;refine oea (Zn.mp p_) λw hw cY=>?_;subst cY;rw[<-eq] at hb;refine oea (Zn.mp hb) λu hu eu=>?_;have lk:=tV N WR hw;have C0:=tc.trans e3;have wd3:=WR.d;have wa3:=(WR.row w hw).1;have SI:=Du u hu w hw eu.symm;nofun;rw[Za,<-SI,eu];exact hK _ e3
 refine r_nes (.inl (same_ints (l:=(af P R).map λb=>((F b.aa).length:Int)) ?_ ?_ 5)) ?_
 . rw[e3.at f2,<-eq,Zt,Zt];rfl
 . rw[f3,Zt];rfl
 have lG:=e2.trans e3
 -- the entry
 refine oeaa (iU N LR.cg) λeb Fo el hh=>?_;obtain ⟨u0,ur,NX⟩:∃u0 ur,us=u0::ur:=by
  cases us with
  |nil=>rw[hh] at eq;cases eq
  |cons u r=>exact⟨u,r,rfl⟩
 have eu0:u0.rb=eb:=by rw[NX,hh] at eq;exact(Ys eq).1
 have JU:eb∈af P R:=by rw[hh];exact Ze
 have F0:F u0.rb.aa=[]:=by
  rw[eu0]
  cases z:F eb.aa with
  |nil=>rfl
  |cons x r=>
   have:=(IM.good eb JU).2 x (by rw[z];exact Ze);exact absurd (EF R LR eb JU el x this.1) this.2
 have su0:=(ok u0 (NX▸Ze)).self;have L0:dm (us.map je) 0=some (.ref u0.m.u):=by rw[NX];rfl
 nofun;refine r_no (by rw[F0];rfl) ?_;have l3:=lG.at hl;nofun;refine bN W.aV je us (λd _ h'=>Ext h3 h') l3 .refl (λd ρ h' I=>I.at l3) (λd u rr σ h4 hd hu e4 K hK _=>?_) λσ h4 e4=>?_
 . have xV:=lG.trans e4;have U:=(ok u hu).ext xV;have Mm:u.rb∈af P R:=by rw[<-eq];exact Zn.mpr ⟨u,hu,rfl⟩
   have J0:(F u.rb.aa).length<64:=FF R LR u.rb Mm (F u.rb.aa) (IM.good _ Mm).1 λx hx=>(IM.good _ Mm).2 x hx;have GD:(bD (F u.rb.aa)).length=(F u.rb.aa).length:=jD;nofun;refine BL W U λh5 t ra ma zs ms e5 ft H Ps hz hm=>?_;refine r_unpt rfl rfl ft ?_;have Mr:=H.r;nofun;refine cO W.aV qc (λz:Z=>z.arg.val) (λz=>z.arg.kind== "free") zs Mr (λz h6 hz e6 K hK=>?_) (λz h6 hz hp e6 K hK=>?_) λa6 h6 e6 n6 f6=>?_
   . have z6:=(H.ok z hz).at_;nofun;exact hK _ e6
   . have z6:=(H.ok z hz).at_;nofun;exact hK _ e6
   refine oeaa (KD (mY (IM.good _ Mm).1) H.ok λv hv=>oeaea (U.cover v (cU.mp hv)) λb hb z hz e=>⟨z,Ps b hb z hz,e⟩) λis U2 Ji Db=>?_;rw[U2] at f6;rw[GD] at Ji Db;have IJ:=e5.trans e6;have su6:=U.self;nofun;refine mh W.aV (aJ:=.range (F u.rb.aa).length) ⟨_,rfl,ZI (ZL J0 (by decide)),rfl⟩ rfl (List.range (F u.rb.aa).length) (λi=>[.int i]) rfl (λ_ _=>trivial) (λk h7 hk e7=>⟨_,.inl ⟨rfl,rfl⟩,λK hK=>?_⟩) λa7 h7 e7 f7=>?_
   . nofun;rw[Z0.mpr (Db k (Xs.mp hk))];exact hK _ e7
   have Er:=IJ.trans e7;have Rj:=e7.at f6;nofun;refine mh W.aV (aJ:=.list a6 (is.map .int)) ⟨a6,rfl,.inl ⟨_,Rj,rfl⟩⟩ rfl is (λi=>[.int i]) (Zt ..) (λh' E=>E.at Rj) (λi h8 hi e8=>⟨_,.inl ⟨rfl,rfl⟩,λK hK=>?_⟩) λa8 h8 e8 f8=>?_
   . have Fy:=Er.trans e8;nofun;rw[decide_eq_false (Ux.mpr (Ji i hi))];exact hK _ e8
   have Fy:=Er.trans e8;have Fw:=e6.trans (e7.trans e8);have m8:=Fw.at H.m;nofun;refine mh W.aV (aJ:=.list ma (ms.map λp:Nat×Line=>V.ref p.1)) ⟨ma,rfl,.inl ⟨_,m8,rfl⟩⟩ rfl ms (λp=>[.ref p.1]) (by show (ms.map _).map _=_;rw[Zt];rfl) (λh' E=>E.at m8) (λp h9 hp e9=>?_) λa9 h9 e9 f9=>?_
   . refine oaeeaa (H.made p hp) λk1 i cb hi hn TV=>?_;have p9:=(Fw.trans e9).at k1;rw[hn] at p9;have e19:=xV.trans (Fy.trans e9);rw[cD same,<-eq] at hi;refine oea (dF hi) λu' Ek eu'=>?_;have sq:dm (us.map je) (i:Int)=some (.ref u'.m.u):=by
      unfold dm;rw[if_pos (Yb _),YZ,ZQ,Ek];rfl
     have su9:=(ok u' (Z4 Ek)).self;refine⟨_,.inr ⟨p.1,_,rfl,Zs 2,rfl,.inr p9,rfl⟩,λK hK=>?_⟩;nofun;rw[TV,eu',bne_self_eq_false];exact hK _ e9
   . nofun;exact r_done (hK _ _ (e4.trans (Fy.trans e9)))
 . nofun;exact q h4 (tc.trans (e3.trans e4))
end
end
section
noncomputable def cX(b:ax):List Int:=b.aM.flatMap Op.aC
structure Ju(bs:List ax)(ah:Int->List Int)(b:ax)(o:Op):Prop where
 shape:(o.bC="const"/\o.args=[]/\o.aT=[])\/(o.bC="fun"/\o.args=[]/\∃l,o.aT=[l])\/(o.bC="fix"/\o.args=[]/\o.bO.length=o.aT.length)\/((o.bC="prim"\/o.bC="setglobal")/\o.aT=[])
 cst:o.bC="const"->0<=o.result
 neg:(o.bC="fix"->o.result= -1)/\(o.bC≠ "fix"->o.bO=[])/\(o.result= -1\/0<=o.result)
 len:o.args.length<=2/\o.bO.length<=2/\o.aT.length<=2
 args:∀v∈o.args,0<=v/\(v∈ah b.aa\/v∈cX b)
 aT:∀t∈o.aT,∃c∈bs,c.aa=t/\c.aH="fun"/\c.aw=b.aa
structure zI(bs:List ax)(ah js:Int->List Int)(b:ax):Prop where
 aH:b.aH="fun"\/b.aH="cont"
 ch:1<=b.aa/\b.aa<=63
 fvar:b.aH="fun"->0<=b.ae
 cvar:b.aH="cont"->b.ae= -1
 ent:b.aa=1->b.aH="fun"/\b.aw= -1
 par:b.aa≠1->∃p∈bs,p.aa=b.aw/\p.aa<b.aa
 bK:∃y∈bs,y.aa=b.bK/\y.aH="fun"
 w7:b.aH="fun"->b.bK=b.aa
 Aw:b.aH="cont"->(∃p∈bs,p.aa=b.aw/\p.bK=b.bK)/\∃y∈bs,y.aa=b.bK/\y.ae<=63
 np:b.params.length<=1
 wX:∀v∈ah b.aa,v∈b.params\/(b.aa=1/\v=3)\/(b.aa≠1/\∃p∈bs,p.aa=b.aw/\(v∈ah p.aa\/v∈cX p))
 Ex:∃r1 r2,∀v∈ah b.aa,v<=63\/v=r1\/v=r2\/v∈b.params
 Iu:∀t∈js b.aa,b.aH="cont"/\t<=63/\∃c∈bs,c.aa=t/\c.aH="cont"/\(c.aw=b.aw\/∃p∈bs,p.aa=b.aw/\t∈js p.aa)
 dq:b.aM.length<=3
 aM:∀o∈b.aM,Ju bs ah b o
 Cz:(b.aM.flatMap (·.aT)).Nodup
structure IK(bs:List ax)(ah js:Int->List Int)(b:ax):Prop where
 shape:(b.ag.bC="if"/\0<=b.ag.fn/\0<=b.ag.to/\0<=b.ag.other/\b.ag.args=[]/\b.ag.ae= -1)\/(b.ag.bC="jump"/\0<=b.ag.to/\b.ag.other= -1/\b.ag.fn= -1/\b.ag.ae= -1)\/
  (b.ag.bC="give"/\0<=b.ag.ae/\b.ag.fn= -1/\b.ag.to= -1/\b.ag.other= -1)\/(b.ag.bC="call"/\0<=b.ag.fn/\b.ag.other= -1/\((0<=b.ag.to/\b.ag.ae= -1)\/(b.ag.to= -1/\0<=b.ag.ae)))
 len:b.ag.args.length<=1
 args:∀v∈b.ag.args,0<=v/\(v∈ah b.aa\/v∈cX b)
 fn:0<=b.ag.fn->b.ag.fn∈ah b.aa\/b.ag.fn∈cX b
 neg:(b.ag.fn= -1\/0<=b.ag.fn)/\(b.ag.ae= -1\/0<=b.ag.ae)
 ae:0<=b.ag.ae->∃y∈bs,y.aa=b.bK/\b.ag.ae=y.ae
 vp:∀t∈b.ag.bf,∃c∈bs,c.aa=t/\c.aH="cont"/\(c.aw=b.aa\/t∈js b.aa)
 call:b.ag.bC="call"->0<=b.ag.to->∃c∈bs,c.aa=b.ag.to/\c.aw=b.aa
noncomputable def bY(b:ax):List Int:=b.aa::(b.params++((if 0<=b.ae then [b.ae] else [])++cX b))
structure Built(P:aI)(ah js:Int->List Int):Prop where
 asc:(P.ap.map (·.aa)).Pairwise (· < ·)
 ent:∃b∈P.ap,b.aa=1
 three:3∈simple P
 nums:(P.ap.flatMap bY).Nodup
 pos:∀b∈P.ap,∀x∈bY b,1<=x
 yu:(simple P).length<64
 ok:∀b∈P.ap,zI P.ap ah js b
 ag:∀b∈P.ap,IK P.ap ah js b
variable {P:aI}{ah js:Int->List Int}
theorem cf{α β:Type}{f:α->List β}:∀{l:List α},(l.flatMap f).Nodup->∀{a b x},a∈l->b∈l->x∈f a->x∈f b->a=b
 |[],_,a,b,x,h,_,_,_=>by cases h
 |y::l,nd,a,b,x,ha,hb,xa,xb=>by
  rw[ZK,ZJ] at nd;rcases Zp.mp ha with h1|h1<;>rcases Zp.mp hb with h2|h2
  . rw[h1,h2]
  . subst h1;exact absurd rfl (nd.2.2 x xa x (Zm.mpr ⟨b,h2,xb⟩))
  . subst h2;exact absurd rfl (nd.2.2 x xb x (Zm.mpr ⟨a,h1,xa⟩))
  . exact cf nd.2.1 h1 h2 xa xb
theorem ed{α β:Type}{f:α->List β}:∀{l:List α},(l.flatMap f).Nodup->∀{a},a∈l->(f a).Nodup
 |[],_,_,h=>by cases h
 |y::l,nd,a,ha=>by
  rw[ZK,ZJ] at nd;rcases Zp.mp ha with rfl|h
  . exact nd.1
  . exact ed nd.2.1 h
theorem xM{l:List Int}(asc:l.Pairwise (· < ·)){k:Nat}(b:∀x∈l,1<=x/\x<=k):l.length<=k:=by
 have:=dy (m:=(List.range k).map λi:Nat=>((i:Int)+1)) (asc.imp λh=>by exact λcx=>(aj 0x101b1101211011202) _ _ h cx) (λx hx=>by
  refine oa (b x hx) λh1 h2=>?_;exact Zn.mpr ⟨(x - 1).toNat,Xs.mpr (by exact(aj 0x11101114100131152015010221) _ _ _ h2 (YD ((aj 0x111001300001100101) _ h1))),by exact ZA ((aj 0x11011001520100130152111) _ _ (YD ((aj 0x111001300001100101) _ h1))) ((aj 0x11100152010015100130111) _ _ (ZY _))⟩)
 simpa using this
theorem Built.jO(B:Built P ah js){b:ax}(hb:b∈P.ap):(cX b).Nodup:=by
 have:=ed B.nums hb;unfold bY at this;rw[ZD,ZJ,ZJ] at this;exact this.2.2.1.2.1
theorem xt{b:ax}{v:Int}(h:v∈cX b):v∈bY b:=by unfold bY;simp[h]
theorem Built.nice(B:Built P ah js):aL P:=by
 refine {
  asc:=B.asc
  cG:=by have:=xM B.asc (k:=63) (λx hx=>by refine oea (Zn.mp hx) λb hb bU=>?_;subst bU;exact(B.ok b hb).ch);simp at this;exact(aj 0x1100406014003f6013110) _ this
  pos:=λb hb=>(B.ok b hb).ch.1
  aH:=λb hb=>(B.ok b hb).aH
  ent:=by refine oea B.ent λb hb e=>?_;exact⟨b,hb,e,((B.ok b hb).ent e).1,((B.ok b hb).ent e).2⟩
  par:=λb hb=>(B.ok b hb).par
  vp:=λb hb t ht=>by refine oeaaa ((B.ag b hb).vp t ht) λc hc e s _=>?_;exact⟨c,hc,e,s⟩
  dq:=λb hb=>(B.ok b hb).dq
  gf:=λb hb=>(B.ok b hb).np
  mG:=λb hb=>(B.ag b hb).len
  CR:=λb hb o ho=>((B.ok b hb).aM o ho).len
  yu:=B.yu
  J3:=λb hb=>(B.ag b hb).call
  Da:=λb hb=>⟨(B.ag b hb).neg.1,(B.ag b hb).neg.2,by rcases (B.ok b hb).aH with s|s;exact .inr ((B.ok b hb).fvar s);exact .inl ((B.ok b hb).cvar s)⟩
  JN:=λb hb o ho=>((B.ok b hb).aM o ho).neg
  J9:=λb hb=>⟨λo ho x hx=>(((B.ok b hb).aM o ho).args x hx).1,λx hx=>((B.ag b hb).args x hx).1⟩
  cvar:=λb hb=>(B.ok b hb).cvar
  Qg:=λb hb o ho=>((B.ok b hb).aM o ho).shape
  lw:=λb hb=>(B.ag b hb).shape
  lpar:=λb hb o ho t ht=>by refine oeaaa (((B.ok b hb).aM o ho).aT t ht) λc hc e _ p=>?_;exact⟨c,hc,e,p⟩
  Cz:=λb hb=>(B.ok b hb).Cz
  cst:=λb hb o ho=>((B.ok b hb).aM o ho).cst
  Re:=λb hb o ho c hc o' i_ v hv CC=>by
   have h1:v∈cX b:=Zm.mpr ⟨o,ho,hv⟩;have h2:v∈cX c:=Zm.mpr ⟨o',i_,CC⟩;have:=cf B.nums hb hc (xt h1) (xt h2);subst this;exact cf (B.jO hb) ho i_ hv CC
  rest:=λb hb o ho t ht=>by refine oeaaa (((B.ok b hb).aM o ho).aT t ht) λc hc e s _=>?_;exact⟨c,hc,e,s⟩}
noncomputable def FE(P:aI)(ah js:Int->List Int)(b:ax)(v:Int):Prop:=v∈ah b.aa\/(∃y∈P.ap,y.aa=b.bK/\v=y.ae)\/∃t∈js b.aa,v=cv t
end
section
variable {P:aI}{ah js:Int->List Int}{R:List Int}
theorem iZ{b:ax}{v:Int}(h:v∈b.params):v∈b0 P R b:=Zd _ (Zd _ (Zd _ h))
theorem mc{b:ax}(h:0<=b.ae):b.ae∈b0 P R b:=Zd _ (Zd _ (Zi _ (by rw[if_pos h];simp)))
theorem qR{b:ax}{v:Int}(h:v∈cX b):v∈b0 P R b:=Zd _ (Zi _ h)
theorem uo{b c:ax}(hc:c∈P.ap)(r:c.aa∈R)(s:c.aH="cont")(p:c.aw=b.aa):cv c.aa∈b0 P R b:=
 Zi _ (Zn.mpr ⟨c,ZH.mpr ⟨hc,by simp[r,s,p]⟩,rfl⟩)
theorem gw{u b:ax}{v:Int}(hb:b∈bM P R u)(h:v∈b0 P R b):v∈br P R u:=Zm.mpr ⟨b,hb,h⟩
theorem Built.up(B:Built P ah js)(N:aL P){b l:ax}(hb:b∈P.ap)(hl:l∈P.ap)(e:b.aw=l.aa)(b1:b.aa≠1){v:Int}(T:∀t,v=cv t->1<=t->t∈R)(nb:v∉b0 P R b)(nl:v∉b0 P R l)(V:FE P ah js b v):FE P ah js l v:=by
 have O:=B.ok b hb;rcases V with V|⟨y,hy,ey,rfl⟩|⟨t,ht,rfl⟩
 . rcases O.wX v V with h|⟨h,_⟩|⟨_,p,hp,ep,h⟩
   . exact absurd (iZ h) nb
   . exact absurd h b1
   . have:p=l:=N.uniq hp hl (by rw[ep,e]);subst this;rcases h with h|h
     . exact .inl h
     . exact absurd (qR h) nl
 . rcases O.aH with s|s
   . have:=N.uniq hy hb (by rw[ey,O.w7 s]);subst this;exact absurd (mc (O.fvar s)) nb
   . refine oa (O.Aw s) λbU _=>?_;refine oeaa bU λp hp ep eh=>?_;try clear bU
     have:p=l:=N.uniq hp hl (by rw[ep,e]);subst this;exact .inr (.inl ⟨y,hy,by rw[ey,eh],rfl⟩)
 . refine oaaeaaa (O.Iu t ht) λs _ c hc ec sc h=>?_;rcases h with h|⟨p,hp,ep,h⟩
   . have:=uo (P:=P) (R:=R) (b:=l) hc (by rw[ec];exact T t rfl (by rw[<-ec];exact N.pos c hc)) sc (by rw[h,e]);rw[ec] at this;exact absurd this nl
   . have:p=l:=N.uniq hp hl (by rw[ep,e]);subst this;exact .inr (.inr ⟨t,h,rfl⟩)
theorem Built.AF(B:Built P ah js)(N:aL P)(S:eO P R){u:ax}(hu:u∈af P R){v:Int}(T:∀t,v=cv t->1<=t->t∈R)(nu:v∉br P R u):∀(n:Nat) (b:ax),b∈bM P R u->b.aa.toNat<=n->FE P ah js b v->FE P ah js u v
 |0,b,hb,h,_=>by have:=N.pos b (cq (ay.mp hu).1 hb);exact False.elim ((aj 0x111b0150100110000013311) b.aa b.aa.toNat h this (ZY _))
 |n+1,b,hb,h,V=>by
  refine oa (ay.mp hu) λvt Mn=>?_;have r1:=S.one N;refine oa ((gK N r1 vt Mn).mp hb) λvA p_=>?_
  by_cases z:b.aa∈R
  . rw[jd (N.pos b vA) z] at p_;rw[N.uniq vA vt p_] at V;exact V
  . refine oeaaa (iJ N r1 vA z) λp hp ep lt un=>?_;have QR:p∈bM P R u:=(gK N r1 vt Mn).mpr ⟨hp,by rw[<-un];exact p_⟩;have pp:=N.pos p hp;refine Built.AF B N S hu T nu n p QR (by exact(aj 0x101111112130151100121521101110112013432) _ _ _ _ _ h lt (YD ((aj 0x110100001100101) _ pp)) (ZY _)) (B.up N vA hp ep.symm (by intro e;rw[e] at z;exact z r1) T (λh=>nu (gw hb h)) (λh=>nu (gw QR h)) V)
theorem iY{rb:ax}{x:Int}(n:bH P R rb x):x∉br P R rb/\True:=by
 cases n with
 |here a b=>exact⟨b,trivial⟩
 |there a b c d=>exact⟨d,trivial⟩
theorem HU{a b:Int}(h:cv a=cv b):a=b:=by unfold cv at h;exact ZA ((aj 0x1011101020110033200100332102) _ _ h) ((aj 0x110111020110033200100332102) _ _ h)
theorem Built.AT(B:Built P ah js)(N:aL P)(S:eO P R){u:ax}{v:Int}(n:bH P R u v):u∈af P R->(∀t,v=cv t->1<=t->t∈R)/\FE P ah js u v:=by
 have r1:=S.one N
 induction n with
 | @here u v hr hg=>
  intro hu;refine oa (ay.mp hu) λvt Mn=>?_;refine oea (Zm.mp hr) λb hb hv=>?_;have vA:=cq vt hb;have O:=B.ok b vA;have Lo:=B.ag b vA;have zB:∀w,(w∈ah b.aa\/w∈cX b)->w∉br P R u->FE P ah js b w:=λw hw hn=>by
   rcases hw with h|h
   . exact .inl h
   . exact absurd (gw hb (qR h)) hn
  -- Ov is read:a variable or a closure
  have key:((0<=v)\/∃t,v=cv t/\1<=t/\t∈R)/\FE P ah js b v:=by
   unfold bZ bS Last.aQ at hv;simp only[Zg,Zm,Zn,ZH] at hv;rcases hv with ⟨o,ho,h⟩|((h|(h|h))|⟨t,⟨ht,tr⟩,rfl⟩)
   . refine oa ((O.aM o ho).args v h) λp q=>?_;exact⟨.inl p,zB v q hg⟩
   . refine oa (Lo.args v h) λp q=>?_;exact⟨.inl p,zB v q hg⟩
   . split at h
     . simp at h;subst h;exact⟨.inl (by assumption),zB _ (Lo.fn (by assumption)) hg⟩
     . simp at h
   . split at h
     . simp at h;subst h;refine oeaa (Lo.ae (by assumption)) λy hy e1 e2=>?_;exact⟨.inl (by assumption),.inr (.inl ⟨y,hy,e1,e2⟩)⟩
     . simp at h
   . have P5:t∈R:=by simpa using tr
     refine oeaaa (Lo.vp t ht) λc hc ec sc h=>?_;have tp:1<=t:=by rw[<-ec];exact N.pos c hc
     refine⟨.inr ⟨t,rfl,tp,P5⟩,?_⟩;rcases h with h|h
     . have:=uo (P:=P) (R:=R) (b:=b) hc (by rw[ec];exact P5) sc h;rw[ec] at this;exact absurd (gw hb this) hg
     . exact .inr (.inr ⟨t,h,rfl⟩)
  have T:∀t,v=cv t->1<=t->t∈R:=λt e p=>by
   rcases key.1 with h|⟨t',e',_,h⟩
   . unfold cv at e;exact False.elim ((aj 0x1101b010001110020110033012302) v t e p h)
   . rw[e] at e';rw[HU e'];exact h
  exact⟨T,B.AF N S hu T hg _ b hb (Zs _) key.2⟩
 | @there u c v hi hc nc hg ih=>
  intro hu;refine oa (ih hc) λT V=>?_;refine oa (ay.mp hu) λvt Mn=>?_;refine oea (Zm.mp hi) λl hl hi=>?_;have IA:=cq vt hl;refine oeaa (l_ N IA hi) λc' ip e1 e2=>?_;have NI:=(ay.mp hc).1;have:=N.uniq ip NI e1;subst this;have ne1:c'.aa≠1:=λe=>by
   have:=((B.ok c' NI).ent e).2;have:=N.pos l IA
   (rename_i jF;exact(aj 0x1110b190121110011012302) c'.aw l.aa e2 this jF)
  have L9:=(iY nc).1;have SL:c'∈bM P R c':=Ze;exact⟨T,B.AF N S hu T hg _ l hl (Zs _) (B.up N NI IA e2 ne1 T (λh=>L9 (gw SL h)) (λh=>hg (gw hl h)) V)⟩
noncomputable def tT(P:aI)(x:Int):Prop:=∃c∈P.ap,x∈c.params\/(0<=c.ae/\x=c.ae)\/x∈cX c
theorem Built.isVar(B:Built P ah js){x:Int}(h:tT P x):1<=x/\∀b∈P.ap,x≠b.aa:=by
 obtain ⟨c,hc,h⟩:=h;have hm:x∈c.params++((if 0<=c.ae then [c.ae] else [])++cX c):=by
  rcases h with h|⟨h,rfl⟩|h
  . simp[h]
  . simp[h]
  . simp[h]
 have hx:x∈bY c:=Zh _ hm;refine⟨B.pos c hc x hx,λb hb e=>?_⟩;have:=cf B.nums hb hc (x:=x) (by rw[e];exact Ze) hx;subst this;have nd:=ed B.nums hb;unfold bY at nd;rw[ZD] at nd;rw[e] at hm;exact nd.1 hm
theorem Built.qH(B:Built P ah js):tT P 3:=by
 have:=B.three;unfold simple at this;refine oea (Zn.mp this) λo ho e=>?_;refine oa (ZH.mp ho) λUP zQ=>?_;refine oea (Zm.mp UP) λb hb UO=>?_;have w:o.bC="const":=by unfold aK at zQ;simp at zQ;exact zQ.1
 refine⟨b,hb,.inr (.inr (Zm.mpr ⟨o,UO,?_⟩))⟩;unfold Op.aC;rw[w,if_neg (by decide),e,if_pos (by decide)];simp
theorem Built.tZ(B:Built P ah js)(N:aL P):∀(n:Nat) (b:ax),b∈P.ap->b.aa.toNat<=n->∀v∈ah b.aa,tT P v
 |0,b,hb,h,v,hv=>by have:=N.pos b hb;exact False.elim ((aj 0x111b0150100110000013311) b.aa b.aa.toNat h this (ZY _))
 |n+1,b,hb,h,v,hv=>by
  rcases (B.ok b hb).wX v hv with k|⟨_,rfl⟩|⟨ne,p,hp,ep,k⟩
  . exact⟨b,hb,.inl k⟩
  . exact B.qH
  . rcases k with k|k
    . refine oeaa ((B.ok b hb).par ne) λp' kC e' lt=>?_;have:=N.uniq hp kC (by rw[ep,e']);subst this;have:=N.pos p hp;exact B.tZ N n p hp (by exact(aj 0x101111112130151100121521101110112013432) _ _ _ _ _ h lt (YD ((aj 0x110100001100101) _ this)) (ZY _)) v k
    . exact⟨p,hp,.inr (.inr k)⟩
theorem Built.zu(B:Built P ah js)(N:aL P)(S:eO P R){u:ax}(hu:u∈af P R)(e:u.aa=1){v:Int}(n:bH P R u v):v∈simple P:=by
 have vt:=(ay.mp hu).1;have O:=B.ok u vt;have ng:=(iY n).1;have um:u∈bM P R u:=Ze;refine oa (B.AT N S n hu) λT V=>?_;have sf:=(O.ent e).1;rcases V with V|⟨y,hy,ey,rfl⟩|⟨t,ht,rfl⟩
 . rcases O.wX v V with h|⟨_,rfl⟩|⟨h,_⟩
   . exact absurd (gw um (iZ h)) ng
   . exact B.three
   . exact absurd e h
 . have:=N.uniq hy vt (by rw[ey,O.w7 sf]);subst this;exact absurd (gw um (mc (O.fvar sf))) ng
 . have:=(O.Iu t ht).1;rw[sf] at this;exact absurd this (by decide)
noncomputable def IW(x:Int):Int:=if 0<=x then x else 0 - x - 2
theorem Built.DR(B:Built P ah js)(N:aL P)(S:eO P R){u:ax}(hu:u∈af P R){l:List Int}(nd:l.Nodup)(hl:∀x∈l,bH P R u x/\x∉simple P):l.length<64:=by
 have vt:=(ay.mp hu).1;have O:=B.ok u vt;have um:u∈bM P R u:=Ze;refine oee O.Ex λr1 r2 hr=>?_;refine oea B.ent λeb Fo ee=>?_
 -- each is a variable,or PW for a block
 have cls:∀x∈l,(tT P x/\(x<=63\/x=r1\/x=r2))\/∃t,x=cv t/\t<=63/\∃c∈P.ap,c.aa=t/\c.aH="cont":=λx hx=>by
  refine oa (hl x hx) λn ns=>?_;have ng:=(iY n).1;refine oa (B.AT N S n hu) λT V=>?_;rcases V with V|⟨y,hy,ey,rfl⟩|⟨t,ht,rfl⟩
  . refine .inl ⟨B.tZ N _ u vt (Zs _) x V,?_⟩;rcases hr x V with h|h|h|h
    . exact .inl h
    . exact .inr (.inl h)
    . exact .inr (.inr h)
    . exact absurd (gw um (iZ h)) ng
  . rcases O.aH with s|s
    . have:=N.uniq hy vt (by rw[ey,O.w7 s]);subst this;exact absurd (gw um (mc (O.fvar s))) ng
    . refine oeaa ((O.Aw s).2) λy' wS e' le=>?_;have:=N.uniq hy wS (by rw[ey,e']);subst this;refine oeaa O.bK λz hz ez sz=>?_;have:=N.uniq hz hy (by rw[ez,ey]);subst this;exact .inl ⟨⟨z,hz,.inr (.inl ⟨(B.ok z hz).fvar sz,rfl⟩)⟩,.inl le⟩
  . refine oaaeaaa (O.Iu t ht) λ_ le c hc ec sc _=>?_;exact .inr ⟨t,rfl,le,c,hc,ec,sc⟩
 have pv:∀x,tT P x->IW x=x:=λx hx=>by have:=(B.isVar hx).1;unfold IW;rw[if_pos (by exact(aj 0x110100001100101) _ this)]
 have pc:∀t,1<=t->IW (cv t)=t:=λt ht=>by unfold IW cv;rw[if_neg (by exact λcx=>(aj 0x11b2001003300001100201) _ ht cx)];exact ZA ((aj 0x101202001003300330001) _) ((aj 0x120200100330033010001) _)
 have CS:(l.map IW).Nodup:=by
  rw[List.Nodup,YO];refine XK (λ{x y} hx hy ne e=>?_) nd;apply ne;rcases cls x hx with ⟨vx,_⟩|⟨t,rfl,_,c,hc,ec,_⟩<;>rcases cls y hy with ⟨vy,_⟩|⟨t',rfl,_,c',ip,NZ,_⟩
  . rw[pv x vx,pv y vy] at e;exact e
  . rw[pv x vx,pc t' (by rw[<-NZ];exact N.pos c' ip)] at e;exact absurd (by rw[e,NZ]) ((B.isVar vx).2 c' ip)
  . rw[pv y vy,pc t (by rw[<-ec];exact N.pos c hc)] at e;exact absurd (by rw[<-e,ec]) ((B.isVar vy).2 c hc)
  . rw[pc t (by rw[<-ec];exact N.pos c hc),pc t' (by rw[<-NZ];exact N.pos c' ip)] at e;rw[e]
 have:=dy (m:=2::r1::r2::(List.range 60).map λi:Nat=>(i:Int)+4) CS (λz hz=>by
  refine oea (Zn.mp hz) λx hx cu=>?_;subst cu;have fit:∀k:Int,1<=k->k≠1->k≠3->k<=63->k∈2::r1::r2::(List.range 60).map λi:Nat=>(i:Int)+4:=λk a b c d=>by
   by_cases k2:k=2
   . rw[k2];exact Ze
   . refine Zh _ (Zh _ (Zh _ (Zn.mpr ⟨(k - 4).toNat,Xs.mpr (by omega),by omega⟩)))
  rcases cls x hx with ⟨vx,h⟩|⟨t,rfl,le,c,hc,ec,sc⟩
  . rw[pv x vx];refine oa (B.isVar vx) λp1 p2=>?_;rcases h with h|h|h
    . exact fit x p1 (by have:=p2 eb Fo;rw[ee] at this;exact this) (λe=>(hl x hx).2 (by rw[e];exact B.three)) h
    . rw[h];simp
    . rw[h];simp
  . have tp:1<=t:=by rw[<-ec];exact N.pos c hc
    rw[pc t tp];refine fit t tp (λe=>?_) (λe=>?_) le
    . have:=(B.ok c hc).ent (by rw[ec,e]);rw[sc] at this;exact absurd this.1 (by decide)
    . exact(B.isVar B.qH).2 c hc (by rw[ec,e]))
 simp at this;exact(aj 0x1100406014003f6013110) _ this
end
section
section
variable {Φ:Calls}{γ:String->Option V}{im h:Hp}{Q:V->Hp->Prop}
section
variable {k:C}{ρ:Lo}{st:List V}{Q:Po}{a:Nat}{xs:List V}{v w:V}{i:Int}
theorem r_uptor{n:Nat}(e:h a=some (.eA xs))(q:∀c h',Alloc h c (.list (xs.take n)) h'->wp Φ γ k ρ (.ref c::st) h' Q):wp Φ γ (.u (.x_ n) k) ρ (.ref a::st) h Q:=⟨_,⟨a,xs,rfl,.inr e,rfl⟩,r_al q⟩
theorem r_abs(q:wp Φ γ k ρ (.int i.natAbs::st) h Q):wp Φ γ (.u .abs k) ρ (.int i::st) h Q:=⟨_,⟨i,rfl,rfl⟩,q⟩
theorem r_pop0(e:h a=some (.list (w::xs)))(q:∀h',Put h a (.list xs) h'->wp Φ γ k ρ (w::st) h' Q):wp Φ γ (.prim .yo 1 k) ρ (.int 0:: .ref a::st) h Q:=⟨a,_,_,rfl,⟨xs,e,rfl,rfl⟩,q _ ⟨rfl⟩⟩
theorem r_popl(e:h a=some (.list (xs++[w])))(q:∀h',Put h a (.list xs) h'->wp Φ γ k ρ (w::st) h' Q):wp Φ γ (.prim .pop 0 k) ρ (.ref a::st) h Q:=⟨a,_,_,rfl,⟨xs,e,rfl,rfl⟩,q _ ⟨rfl⟩⟩
theorem r_setIl(e:h a=some (.list xs))(n:Nat)(l:Nat.blt n xs.length=true)(q:∀h',Put h a (.list (xs.set n v)) h'->wp Φ γ k ρ st h' Q):wp Φ γ (.dj k) ρ (.int n:: .ref a::v::st) h Q:=⟨a,_,⟨n,rfl,rfl,.inl ⟨xs,e,Yb _,ZC l,rfl⟩⟩,q _ ⟨rfl⟩⟩
end
structure eR(h:Hp)(dk dc:Nat):Prop where
 st:∃(m:Int) (cs:List Int),h dk=some (.list [.ref dc,.int m])/\h dc=some (iL cs)/\0<=m/\∀c∈cs,0<=c
 ne:dk≠dc
theorem eR.ext{dk dc:Nat}{h':Hp}(D:eR h dk dc)(e:Ext h h'):eR h' dk dc:=by
 obtain ⟨⟨m,cs,a,b,c⟩,ne⟩:=D;exact⟨⟨m,cs,e.at a,e.at b,c⟩,ne⟩
theorem wV{x:V}{r:List V}:dm (x::r) 0=some x:=rfl
theorem qB{x y:V}{r:List V}:dm (x::y::r) 1=some y:=rfl
theorem wu(W:Wd Φ γ){s:Nat}{iB:List Int}(hs:h s=some (.eA (iB.map .int)))(q:∀h' dk dc,Ext h h'->h dk=none->h dc=none->eR h' dk dc->Q (.ref dk) h'):Φ "_law_deck" [.ref s] h Q:=by
 refine W.cl rfl rfl ?_;have pw:(0:Int)<10 ^ 60:=by decide
 nofun;refine r_uptor hs λc h1 A1=>?_;have f1:=A1.at;rw[<-List.map_take] at f1;refine comp_map W.aV V.int (λx:Int=>V.int ((x.natAbs:Int) % 10 ^ 60)) (iB.take 24) f1 (λx h2 hx e2 K hK=>?_) λa2 h2 e2 n2 f2=>?_
 . nofun;refine r_abs ?_;nofun;exact hK _ e2
 have hc:(iB.take 24).map (λx:Int=>V.int ((x.natAbs:Int) % 10 ^ 60))=((iB.take 24).map (λx:Int=>(x.natAbs:Int) % 10 ^ 60)).map V.int:=by rw[Zt];rfl
 rw[hc] at f2;have qf:∀c∈(iB.take 24).map (λx:Int=>(x.natAbs:Int) % 10 ^ 60),0<=c:=λc hc=>by
  refine oea (Zn.mp hc) λx _ bU=>?_;subst bU;exact XO _ (by decide)
 revert f2 qf
 generalize (iB.take 24).map (λx:Int=>(x.natAbs:Int) % 10 ^ 60)=cells;intro f2 qf;nofun;refine bN W.aV V.int cells (λd ρ h'=>h'=h2/\∃m:Int,ρ "mixed"=some (.int m)/\0<=m) f2 ⟨rfl,7,rfl,by decide⟩ (λd ρ h' I=>I.1▸f2) ?_ ?_
 . intro d c rr σ _ hd hc z_ K hK _;refine oaea z_ λnM m l2 hm=>?_;subst nM;nofun;exact r_done (hK _ _ ⟨rfl,_,rfl,XO _ (by decide)⟩)
 . intro σ _ z_;refine oaea z_ λwQ m l2 hm=>?_;subst wQ;nofun;refine cO W.aV V.int V.int (λc=>decide (10 ^ 9<=c)) cells f2 (λx h4 hx e4 K hK=>?_) (λx h4 hx hp e4 K hK=>?_) λa4 h4 e4 n4 f4=>?_
   . nofun;exact hK _ e4
   . nofun;exact hK _ e4
   nofun;intro dk h5 A5;have CJ:=A1.ext.trans (e2.trans e4);exact r_ret (q h5 dk a4 (CJ.trans A5.ext) (CJ.none A5.new) ((A1.ext.trans e2).none n4) ⟨⟨m,_,A5.at,A5.ext.at f4,hm,λc hc=>qf c (ZH.mp hc).1⟩,(A5.ne f4).symm⟩)
theorem c_(W:Wd Φ γ){dk dc:Nat}(D:eR h dk dc){n:Int}(h0:0<n)(h1:n<1000)(q:∀h' d,0<=d->d<n->(∀x,x≠dk->x≠dc->h' x=h x)->eR h' dk dc->Q (.int d) h'):Φ "_law_draw" [.ref dk,.int n] h Q:=by
 refine W.cl rfl rfl ?_;obtain ⟨⟨m,cs,f1,f2,hm,hc⟩,ne⟩:=D;have k0:0<n/\n<1073741824:=⟨h0,Va h1 (by decide)⟩;have k1:(0:Int)<=48271/\(48271:Int)<1073741824:=by decide
 have k2:(0:Int)<2147483647:=by decide
 have k3:(0:Int)<64/\(64:Int)<1073741824:=by decide
 nofun;refine kQ W.aV (λk _ h'=>(∀x,x≠dk->x≠dc->h' x=h x)/\h' dk=some (.list [.ref dc,.int m])/\∃cs:List Int,h' dc=some (iL cs)/\(∀c∈cs,0<=c)/\k=cs.length) cs.length ⟨λ_ _ _=>rfl,f1,cs,f2,hc,rfl⟩ ?_;rintro k σ h2 ⟨fr,g1,cs,g2,hc,rfl⟩;have sq:=@wV (.ref dc) [.int m];have IT:=@qB (.ref dc) (.int m) []
 cases cs with
 |nil=>
  refine⟨false,λK hK=>?_,λz=>Bool.noConfusion z,λ_=>?_⟩
  . nofun;exact hK
  nofun;refine r_setIl g1 1 rfl λh3 p=>?_;have sq3:=@qB (.ref dc) (.int ((m*48271+11) % 2147483647)) [];have g3:h3 dk=some (.list [.ref dc,.int ((m*48271+11) % 2147483647)]):=p.at;nofun;exact q h3 _ (XO _ (WL h0)) (VS _ h0) (λx a b=>(p.ne a).trans (fr x a b)) ⟨⟨_,[],g3,p.to (Yq ne) g2,XO _ (by decide),(λ_ z=>nomatch z)⟩,ne⟩
 |cons c r=>
  have SF:dm ((c::r).map V.int) 0=some (.int c):=rfl;have WF:=hc c Ze;refine⟨c==0,λK hK=>?_,λz K hK=>?_,λ_=>?_⟩
  . nofun;exact hK
  . nofun;refine r_pop0 g2 λh3 p=>?_;nofun;exact r_done (hK r.length _ h3 (YG _) ⟨λx a b=>(p.ne b).trans (fr x a b),p.to ne g1,r,p.at,λc ip=>hc c (Zh _ ip),rfl⟩)
  nofun;refine r_setIl g2 0 rfl λh3 p=>?_;nofun;refine q h3 _ (XO _ (WL h0)) (VS _ h0) (λx a b=>(p.ne b).trans (fr x a b)) ⟨⟨m,c / n::r,p.to ne g1,p.at,hm,λx hx=>?_⟩,ne⟩;rcases Zp.mp hx with rfl|hx
  . exact Int.ediv_nonneg WF (Xz h0)
  . exact hc x (Zh _ hx)
theorem yQ(W:Wd Φ γ){dk dc:Nat}(D:eR h dk dc){a:Nat}{xs:List Int}(ha:h a=some (.list (xs.map .int)))(n0:xs≠[])(nl:xs.length<1000)(a1:a≠dk)(a2:a≠dc)
 (q:∀h' x,x∈xs->(∀x,x≠dk->x≠dc->h' x=h x)->eR h' dk dc->Q (.int x) h'):Φ "_law_one" [.ref dk,.ref a] h Q:=by
 refine W.cl rfl rfl ?_;nofun;rw[Za];have hl:0<xs.length:=VE.mpr n0;refine c_ W D (YT.mpr hl) (YT.mpr nl) λh' d d0 d1 fr D'=>?_;have ha':h' a=some (.list (xs.map .int)):=(fr a a1 a2).trans ha;have hd:d.toNat<xs.length:=(Int.toNat_lt d0).mpr d1;have sq:dm (xs.map V.int) d=some (.int xs[d.toNat]):=by
  unfold dm;rw[if_pos d0,ZQ,Zv hd];rfl
 nofun;exact q h' _ (Yz hd) fr D'
end
end
section
section
variable {Φ:Calls}{γ:String->Option V}{im h:Hp}{Q:V->Hp->Prop}{P:aI}{R:List Int}{ah js:Int->List Int}
theorem ie{α β:Type}{f g:α->List β}:∀{l:List α},(∀x∈l,(f x).Sublist (g x))->(l.flatMap f).Sublist (l.flatMap g)
 |[],_=>List.Sublist.slnil
 |x::l,h=>by
  rw[ZK,ZK];exact(h x Ze).append (ie λy hy=>h y (Zh _ hy))
theorem Built.rY(B:Built P ah js)(N:aL P):(simple P).Nodup:=by
 have h1:(P.ap.flatMap cX).Nodup:=B.nums.sublist (ie λb hb=>by
  unfold bY;exact((XE _ _).trans (XE _ _)).cons _)
 have h2:P.ap.flatMap cX=P.aM.flatMap Op.aC:=by unfold cX aI.aM;rw[VQ]
 rw[h2] at h1;have h3:∀l:List Op,(∀o∈l,o∈P.aM)->((l.filter aK).map (·.result)).Sublist (l.flatMap Op.aC):=by
  intro l
  induction l with
  |nil=>intro _;exact List.Sublist.slnil
  |cons o l ih=>
   intro hl;have ih:=ih λo ho=>hl o (Zh _ ho);rw[ZK]
   by_cases z:aK o=true
   . rw[XR z,Zw,i3 N (hl o Ze) (by unfold aK at z;simp at z;exact z.1)];exact ih.cons_cons _
   . rw[YN z];exact ih.trans (XE _ _)
 exact h1.sublist (h3 P.aM λ_ h=>h)
noncomputable def xN(Φ:Calls)(γ:String->Option V):Prop:=∀(h:Hp) (dk dc:Nat) (Q:V->Hp->Prop),Base γ (aG dk (aG dc h))->eR h dk dc->
 (∀h' P ah js,Ext (aG dk (aG dc h)) h'->eR h' dk dc->PR (aG dk (aG dc h')) P->Built P ah js->Q (.ref P.ad) h')->Φ "_law_program" [.ref dk] h Q
theorem map_eq{α β:Type}{f:β->α}{xs:List α}{zs:List β}(l:zs.length=xs.length)(s:∀(i:Nat) (x:α) (z:β),xs[i]?=some x->zs[i]?=some z->f z=x):zs.map f=xs:=by
 refine XZ λi=>?_;rw[ZQ]
 cases hx:xs[i]? with
 |none=>rw[Yx (l▸YE.mp hx)];rfl
 |some x=>
  have hi:i<zs.length:=l▸(ZN.mp hx).1;rw[Zv hi];exact congrArg some (s i x _ hx (Zv hi))
theorem qL{a b n:Nat}{xs ys:List Nat}(ha:h a=some (.list (xs.map .ref)))(hb:h b=some (.list (ys.map .ref)))(l:xs.length=ys.length)(s:∀(i:Nat) (x y:Nat),xs[i]?=some x->ys[i]?=some y->tJ h n (.ref x) (.ref y)):tJ h (n+1) (.ref a) (.ref b):=by
 refine .inr ⟨a,b,_,_,rfl,rfl,ha,hb,by rw[Za,Za,l],λi x y hx hy=>?_⟩;refine oea (dF hx) λx' e1 bU=>?_;subst bU;refine oea (dF hy) λy' e2 cu=>?_;subst cu;exact s i x' y' e1 e2
theorem KW(W:Wd Φ γ)(BO:xN Φ γ)(BA:Base γ h){s:Nat}{iB:List Int}(hs:h s=some (.eA (iB.map .int))):Φ "law" [.ref s] h λv _=>v= .bool true:=by
 refine W.cl rfl rfl ?_;nofun;refine wu W hs λh1 dk dc e1 n1 n2 D1=>?_;have B1:Base γ (aG dk (aG dc h1)):=BA.ext (bg (bg e1 n2) n1);nofun;refine fj W.aV (n:=2) (by decide) (λi _ h'=>Base γ (aG dk (aG dc h'))/\eR h' dk dc) ⟨B1,D1⟩ (λi σ h0 hi lF K hK _ _=>oa lF λB0 D0=>?_) λσ h2 _=>?_
 . clear B1 D1 e1 n1 n2 hs;nofun;refine BO h0 dk dc _ B0 D0 λh P ah js e0 D Yh B=>?_;have Ot:Base γ (aG dk (aG dc h)):=B0.ext (bg (bg e0 (by rw[hide_ne D.ne.symm];exact ao)) ao);have sub:Ext (aG dk (aG dc h)) h:=aU.trans aU;have Y:=Yh.ext sub;have BA:=Ot.ext sub;have fin:∀ρ h',Ext h h'->K .next ρ [] h':=λρ h' e=>hK ρ h' ⟨Ot.ext (fy (fy e)),D.ext e⟩
   clear hK D0 B0 e0 D Ot Yh;have N:=B.nice;have FF:nW P:=λR LR b hb l nd hl=>B.DR N LR.cg hb nd hl;have EF:q6 P:=λR LR b hb e x n=>B.zu N LR.cg hb e n;have snd:=B.rY N;nofun;refine uQ W N Y λru h1 R0 e1 n1 Rg Oj=>?_
   -- the sorted roots
   obtain ⟨RL,Ft,LR,fu⟩:∃RL:List Int,RL=(af P RL).map (·.aa)/\dK P RL/\h1 ru=some (.list ((af P RL).map ch)):=by
    have h0:∀l,l∈(af P R0).map (·.aa)↔l∈R0:=λl=>pj Oj.sub;have h2:=cD (P:=P) h0;exact⟨(af P R0).map (·.aa),by rw[h2],Oj.sorted N,by rw[h2];exact Rg⟩
   clear Rg Oj;have hlen:(af P RL).length<64:=dI N;have NP:h1 ru=some (.list (RL.map .int)):=by
    rw[fu]
    conv=>rhs;rw[Ft,Zt]
    rfl
   have Y1:=Y.ext e1;nofun;refine mV W N Y1 LR Ft NP λfd h2 fs e2 n2 NV Rh EP=>?_;nofun;refine o7 W N (Y1.ext e2) (BA.ext (e1.trans e2)) λy h3 R ad ds F e3 LA hn n3=>?_;have same:∀l,l∈R↔l∈RL:=LA.least.same LR;have FO:=qT same LA.atoms.2 LA.free;have Qw:=LA.eq;rw[cD same] at Qw;have lG:=e2.trans e3;have C0:=e1.trans lG;have Rf:=lG.at fu;nofun
   -- wanted
   refine gP W ch (λz:Nat×nY=>V.ref z.1) (λh' b z=>z.2.aS=b/\h' z.1=some (.tup [.int b.aa,.ref z.2.a])/\h' z.2.a=some (.list ((bD z.2.l).map .int))/\z.2.l.Nodup/\∀x,x∈z.2.l↔bH P RL b x/\x∉simple P) (λ_ e z=>⟨z.1,e.at z.2.1,e.at z.2.2.1,z.2.2.2⟩) (af P RL) Rf (λb h4 hb e4 K hK=>?_) λa4 h4 zs e4 n4 f4 zl zk=>?_
   . nofun;refine se W N (Y.ext (C0.trans e4)) LR NV ((e3.trans e4).at Rh) (λw hw=>(EP w hw).ext (e3.trans e4)) hb (FF RL LR b hb) λa h5 l e5 n5 Tq UV f5=>?_;nofun;intro t h6 A6;exact r_done_val (hK h6 (t,⟨b,a,l⟩) (e5.trans A6.ext) ⟨rfl,A6.at,A6.ext.at f5,Tq,UV⟩)
   refine r_dictOf (ps:=(zs.map (·.2)).map λw=>(w.aS.aa,.ref w.a)) f4 (by rw[Za,Za,Za]) ?_ (λi p x hp hx=>?_) λwd h5 A5=>?_
   . rw[Zt];show ((zs.map (·.2)).map ((λb:ax=>b.aa)∘nY.aS)).Nodup;rw[<-Zt,Zt (f:=λz:Nat×nY=>z.2),map_eq (f:=nY.aS∘λz:Nat×nY=>z.2) zl λi x z h1 h2=>(zk i x z h1 h2).1];exact(c9 N).imp λh=>Yd h
   . refine oea (dF hp) λw e5 cY=>?_;subst cY;refine oea (dF e5) λz e6 dT=>?_;subst dT;refine oea (dF hx) λz' e7 gU=>?_;subst gU;rw[e6] at e7
     cases e7
     have hi:i<(af P RL).length:=zl▸(ZN.mp e6).1;have k:=zk i _ z (Zv hi) e6;exact⟨z.1,rfl,by rw[k.1];exact k.2.1⟩
   have WR:qF P RL h5 wd (zs.map (·.2)):=by
    refine⟨by rw[Zt];exact map_eq zl λi x z h1 h2=>(zk i x z h1 h2).1,A5.at,λw hw=>?_⟩;refine oea (Zn.mp hw) λz hz gC=>?_;subst gC;refine oe (List.getElem?_of_mem hz) λi hi=>?_;have Fm:i<(af P RL).length:=zl▸(ZN.mp hi).1;have k:=zk i _ z (Zv Fm) hi;exact⟨A5.ext.at k.2.2.1,k.2.2.2.1,λx=>by rw[k.1];exact k.2.2.2.2 x⟩
   revert WR
   clear zk zl f4;generalize zs.map (·.2)=ws;intro WR;have Jp:=A5.im e4;have Jv:=LA.ext Jp;clear A5 e4 n4;have qA:=lG.trans Jp;have ys:=Jv.lay.self;have yr:=Jv.lay.roots;have ya:=Jv.aD;have yf:=Jv.fD;have Jb:=Jp.at hn;have NQ:=Jp.at Rf;have rlen:(cy R).length<64:=by rw[c8];exact Zk (LA.least.sub.len N) N.cG
   have adl:ad.length<64:=by
    rw[<-Za (f:=λp:Int×V=>p.1)];exact Zk (dy LA.atoms.1 λx hx=>(LA.atoms.2 x).mp hx) N.yu
   have TP:bD R=RL:=by
    rw[Ft,<-cD same];exact gj N LA.least.sub
   have isA:bD (ad.map (·.1))=bD (simple P):=pE LA.atoms.1 snd LA.atoms.2;nofun;rw[jt,TP];intro a6 h6 A6;have N0:=A6.ext;nofun;refine r_nes (.inl (same_ints A6.at ((qA.trans N0).at NP) 5)) ?_;nofun;rw[isA];intro a7 h7 A7;have Fx:=A7.im N0;nofun;refine kY W N (Y.ext (e1.trans (qA.trans Fx))) λa8 h8 e8 n8 f8=>?_;refine r_nes (.inl (same_ints (e8.at A7.at) f8 5)) ?_;have Fw:=Fx.trans e8;clear A6 A7 N0 Fx e8;nofun
   -- the free IN
   refine gP W ch V.ref (λh' b a=>h' a=some (iL (bD (F b.aa)))) (λ_ e z=>e.at z) (af P RL) (Fw.at NQ) (λb h9 hb e9 K hK=>?_) λa9 h9 xs e9 n9 f9 xl xk=>?_
   . have p_:=hb;rw[<-Qw] at p_;refine oea (Zn.mp p_) λw hw kB=>?_;subst kB;have lk:=dY (f:=(·.f)) N LA.eq hw;have II:=Fw.trans e9;have fw:=Jv.at_ w hw;have J0:(cy (F w.aS.aa)).length<64:=by
      rw[c8];exact FF RL LR w.aS hb _ (FO.good _ hb).1 λx hx=>(FO.good _ hb).2 x hx
     nofun;rw[jt];intro a io A;exact r_done_val (hK _ _ A.ext A.at)
   have II:=Fw.trans e9;nofun;refine gP W ch V.ref (λh' b a=>∃w∈ws,w.aS=b/\a=w.a) (λ_ _ z=>z) (af P RL) (II.at NQ) (λb io hb jG K hK=>?_) λa10 io ys' jG Mb Fv yl yk=>?_
   . have p_:=hb;rw[<-WR.eq] at p_;refine oea (Zn.mp p_) λw hw jV=>?_;subst jV;have lk:=tV N WR hw;have e510:=II.trans jG;have wd5:=WR.d;nofun;exact hK _ _ .refl ⟨w,hw,rfl,rfl⟩
   refine r_nes (.inl (qL (jG.at f9) Fv (xl.trans yl.symm) λi x y' hx hy=>?_)) ?_
   . have hi:i<(af P RL).length:=xl▸(ZN.mp hx).1;have hg:=Zv hi;have ha:=xk i _ x hg hx;refine oeaa (yk i _ y' hg hy) λw hw ew nX=>?_;subst nX;have Q5:(af P RL)[i]∈af P RL:=Yz _;have eqs:bD w.l=bD (F (af P RL)[i].aa):=by
      refine oaa (WR.row w hw) λ_ w2 w3=>?_;refine pE w2 (FO.good _ Q5).1 λx=>?_;rw[w3,FO.iff Q5,ew]
     refine same_ints (jG.at ha) ?_ 4;rw[<-eqs];exact(II.trans jG).at (WR.row w hw).1
   have Ro:=II.trans jG;clear II e9 jG Fw f9 Fv xk yk xl yl n9 Mb;nofun
   -- the order
   intro a11 s_ hZ;have GB:=hZ.im Ro;nofun;refine cO W.aV ch ch (λb=>b.aa != 1) (af P RL) (GB.at NQ) (λx q9 hx tc K hK=>?_) (λx q9 hx hp tc K hK=>?_) λa12 q9 tc Ma xU=>?_
   . nofun;exact hK _ tc
   . nofun;exact hK _ tc
   refine oeaa (iU N LR.cg) λeb Fo el hh=>?_;have Jf:[V.int 1]++((af P RL).filter (λb=>b.aa != 1)).map ch=RL.map V.int:=by
    conv=>rhs;rw[Ft,hh,Zt,Zw]
    rw[Function.comp,el];rfl
   refine r_cat (tc.at hZ.at) xU (Zf (ZR (Zs 1) (by rw[Za];exact Zf (ZU ..) (ZI hlen))) (by decide)) λod Ep zV=>?_;rw[Jf] at zV;have PA:=zV.im (GB.trans tc);clear Ro GB tc Jf hh hZ xU;have RLn:RL.Nodup:=LR.sub.1;nofun
   -- the MU
   refine r_enumD W.aV (by decide) RLn zV.at λnd t zE xV _ _ _ Rl=>?_;have Ae:=PA.trans xV;have Dz:nB P R=zN RL:=by
    unfold nB zN;rw[cD same]
    conv=>rhs;rw[Ft,Up,Zt]
    rfl
   rw[Dz] at Jb;refine r_nes (.inr ⟨_,_,Ae.at Jb,Rl,rfl,λi x z hx hz=>?_⟩) ?_
   . rw[hx] at hz
     cases hz
     refine oea (dF hx) λp _ gq=>?_;subst gq;exact .inl ⟨p.2,rfl,rfl⟩
   have fo:zE od=some (.list ((af P RL).map ch)):=by
    rw[xV.at zV.at]
    conv=>lhs;rw[Ft,Zt]
    rfl
   nofun
   -- the closed units,and the facts again
   refine qg W N FF EF (Y.ext (e1.trans (qA.trans Ae))) (BA.ext (e1.trans (qA.trans Ae))) LR fo (WR.ext Ae) λNN PB=>?_;have GA:=Ae.trans PB;nofun;refine mV W N (Y.ext (e1.trans (qA.trans GA))) LR Ft ((qA.trans GA).at NP) λfd2 Rd fs2 Jr n16 eq2 f16 KQ=>?_;have J1:=GA.trans Jr;have J2:=(e3.trans Jp).trans J1;nofun;refine r_nes (.inr ⟨_,_,f16,J2.at Rh,by rw[hJ,hJ,eq2,NV],λi x z hx hz=>?_⟩) ?_
   . refine oea (dF hx) λw2 Ml jX=>?_;subst jX;refine oea (dF hz) λw1 QL qd=>?_;subst qd;have hb:w2.aS=w1.aS:=by
      have h1:(fs2.map gG.aS)[i]?=some w2.aS:=by rw[ZQ,Ml];rfl
      have h2:(fs.map gG.aS)[i]?=some w1.aS:=by rw[ZQ,QL];rfl
      rw[eq2,<-NV,h2] at h1;exact(Z2 h1).symm
     have r2:=KQ w2 (Z4 Ml);have r1:=(EP w1 (Z4 QL)).ext J2;refine qL (xs:=[w2.r,w2.g,w2.m]) (ys:=[w1.r,w1.g,w1.m]) r2.a r1.a rfl λk a b ha cE=>?_
     match k with
     |0=>cases ha;cases cE;exact same_ints r2.r (hb▸r1.r) 4
     |1=>cases ha;cases cE;exact same_ints r2.g (hb▸r1.g) 4
     |2=>cases ha;cases cE;exact same_ints r2.m (hb▸r1.m) 4
     |k+3=>cases ha
   nofun;exact fin _ _ (e1.trans (qA.trans J1))
 . nofun
   rfl
end
end
section
section
variable {Φ:Calls}{γ:String->Option V}{h h':Hp}{Q:V->Hp->Prop}
structure Ad where
 (g p t td dk dc:Nat) (ex:List (Nat×O))
noncomputable def core(A:Ad)(bs:List ax):List Nat:=A.g::A.t::A.td::A.dk::A.dc::bs.flatMap λb=>[b.ad,b.oA]
noncomputable def ak(A:Ad)(bs:List ax):List Nat:=A.ex.map (·.1)++core A bs
noncomputable def kH(un:List Int)(b:ax):V:=if b.aa∈un then .none else .ref b.ag.ad
structure Dg(j h:Hp)(un:List Int)(b:ax):Prop where
 self:h b.ad=some (.inst "KBlock" (mK b (kH un b)))
 aM:h b.oA=some (.list (b.aM.map λo=>.ref o.ad))
 params:j b.pA=some (iL b.params)
 op:∀o∈b.aM,xX j o
 ag:b.aa∉un->f_ j b.ag
structure BH(h:Hp)(A:Ad)(bs:List ax)(un:List Int)(n:Int)(td:O):Prop where
 nd:(ak A bs).Nodup
 vC:∀c∈A.ex,h c.1=some c.2
 g:h A.g=some (.list [.ref A.p,.int n])
 p:aY (ak A bs) h A.p=some (.inst "KProgram" [("table",.ref A.t),("entry",.int 1)])
 t:h A.t=some (.dict (bs.map λb=>(b.aa,.ref b.ad)))
 td:h A.td=some td
 D:eR h A.dk A.dc
 aS:∀b∈bs,Dg (aY (ak A bs) h) h un b
variable {A:Ad}{bs:List ax}{un:List Int}{n:Int}{td:O}
theorem MK:A.g∈core A bs:=.head _
theorem Qr:A.g∈ak A bs:=Zi _ MK
theorem Od:A.t∈core A bs:=.tail _ (.head _)
theorem TD:A.t∈ak A bs:=Zi _ Od
theorem GE:A.td∈core A bs:=.tail _ (.tail _ (.head _))
theorem JQ:A.td∈ak A bs:=Zi _ GE
theorem GG:A.dk∈core A bs:=.tail _ (.tail _ (.tail _ (.head _)))
theorem Gl:A.dk∈ak A bs:=Zi _ GG
theorem GH:A.dc∈core A bs:=.tail _ (.tail _ (.tail _ (.tail _ (.head _))))
theorem Gm:A.dc∈ak A bs:=Zi _ GH
theorem GI{b:ax}(hb:b∈bs):b.ad∈core A bs:=.tail _ (.tail _ (.tail _ (.tail _ (.tail _ (Zm.mpr ⟨b,hb,.head _⟩)))))
theorem Pb{b:ax}(hb:b∈bs):b.ad∈ak A bs:=Zi _ (GI hb)
theorem GF{b:ax}(hb:b∈bs):b.oA∈core A bs:=.tail _ (.tail _ (.tail _ (.tail _ (.tail _ (Zm.mpr ⟨b,hb,.tail _ (.head _)⟩)))))
theorem Pa{b:ax}(hb:b∈bs):b.oA∈ak A bs:=Zi _ (GF hb)
theorem BH.live(X:BH h A bs un n td):jL (ak A bs) h:=λz m=>by
 refine oeeaa X.D.st λm0 cs f1 f2 _=>?_;rcases Zg.mp m with m|m
 . refine oea (Zn.mp m) λc hc bU=>?_;subst bU;exact aF (X.vC c hc)
 rcases Zp.mp m with rfl|m
 . exact aF X.g
 rcases Zp.mp m with rfl|m
 . exact aF X.t
 rcases Zp.mp m with rfl|m
 . exact aF X.td
 rcases Zp.mp m with rfl|m
 . exact aF f1
 rcases Zp.mp m with rfl|m
 . exact aF f2
 refine oea (Zm.mp m) λb hb m=>?_;rcases Zp.mp m with rfl|m
 . exact aF (X.aS b hb).self
 . rw[Zc.mp m];exact aF (X.aS b hb).aM
theorem BH.rh(X:BH h A bs un n td){c:Nat×O}(m:c∈A.ex){y:Nat}(hy:y∈core A bs):c.1≠y:=(ZJ.mp X.nd).2.2 _ (ZG m) _ hy
theorem BH.ne(X:BH h A bs un n td):(A.g≠A.t/\A.g≠A.td/\A.g≠A.dk/\A.g≠A.dc)/\(A.t≠A.td/\A.t≠A.dk/\A.t≠A.dc)/\(A.td≠A.dk/\A.td≠A.dc)/\∀b∈bs,(b.ad≠A.g/\b.ad≠A.t/\b.ad≠A.td/\b.ad≠A.dk/\b.ad≠A.dc)/\(b.oA≠A.g/\b.oA≠A.t/\b.oA≠A.td/\b.oA≠A.dk/\b.oA≠A.dc):=by
 have N:=(ZJ.mp X.nd).2.1;unfold core at N;rw[ZD,ZD,ZD,ZD,ZD] at N;refine oaaaaa N λn1 n2 n3 n4 n5 _=>?_;try clear N
 refine⟨⟨λe=>n1 (e▸.head _),λe=>n1 (e▸.tail _ (.head _)),λe=>n1 (e▸.tail _ (.tail _ (.head _))),λe=>n1 (e▸.tail _ (.tail _ (.tail _ (.head _))))⟩,⟨λe=>n2 (e▸.head _),λe=>n2 (e▸.tail _ (.head _)),λe=>n2 (e▸.tail _ (.tail _ (.head _)))⟩,⟨λe=>n3 (e▸.head _),λe=>n3 (e▸.tail _ (.head _))⟩,λb hb=>?_⟩;have ma:b.ad∈bs.flatMap λb=>[b.ad,b.oA]:=Zm.mpr ⟨b,hb,.head _⟩;have mo:b.oA∈bs.flatMap λb=>[b.ad,b.oA]:=Zm.mpr ⟨b,hb,.tail _ (.head _)⟩;exact⟨⟨λe=>n1 (e▸.tail _ (.tail _ (.tail _ (.tail _ ma)))),λe=>n2 (e▸.tail _ (.tail _ (.tail _ ma))),λe=>n3 (e▸.tail _ (.tail _ ma)),λe=>n4 (e▸.tail _ ma),λe=>n5 (e▸ma)⟩,
  ⟨λe=>n1 (e▸.tail _ (.tail _ (.tail _ (.tail _ mo)))),λe=>n2 (e▸.tail _ (.tail _ (.tail _ mo))),λe=>n3 (e▸.tail _ (.tail _ mo)),λe=>n4 (e▸.tail _ mo),λe=>n5 (e▸mo)⟩⟩
theorem BH.L7(X:BH h A bs un n td):(bs.flatMap λb=>[b.ad,b.oA]).Nodup:=by
 have N:=(ZJ.mp X.nd).2.1;unfold core at N;rw[ZD,ZD,ZD,ZD,ZD] at N;exact N.2.2.2.2.2
theorem BH.inj(X:BH h A bs un n td){b c:ax}(hb:b∈bs)(hc:c∈bs):(b.ad=c.ad->b=c)/\(b.oA=c.oA->b=c)/\b.ad≠c.oA:=
 ⟨λe=>cf X.L7 hb hc (.head _) (e▸.head _),λe=>cf X.L7 hb hc (.tail _ (.head _)) (e▸.tail _ (.head _)),λe=>by
  have k:=cf X.L7 hb hc (x:=b.ad) (.head _) (e▸.tail _ (.head _));subst k;exact(ZD.mp (ed X.L7 hb)).1 (e▸.head _)⟩
theorem Dg.nv{j j' h:Hp}{b:ax}(x:Dg j h un b)(e:Ext j j')(a:h' b.ad=h b.ad)(o:h' b.oA=h b.oA):Dg j' h' un b:=⟨a.trans x.self,o.trans x.aM,e.at x.params,λp hp=>(x.op p hp).ext e,λz=>(x.ag z).ext e⟩
theorem eR.keep{dk dc:Nat}(D:eR h dk dc)(a:h' dk=h dk)(b:h' dc=h dc):eR h' dk dc:=
 oeeaa D.st λm cs x y z=>⟨⟨m,cs,a.trans x,b.trans y,z⟩,D.ne⟩
theorem BH.cI(e:∀x,x∉ak A bs->h x≠none->h' x=h x):Ext (aY (ak A bs) h) (aY (ak A bs) h'):=λx hx=>by
 have m:x∉ak A bs:=λm=>hx (cB m);rw[aW m] at hx ⊢;rw[aW m,e x m hx]
theorem BH.ext(X:BH h A bs un n td)(e:Ext h h'):BH h' A bs un n td:=
 have E:=bu (S:=ak A bs) (S':=ak A bs) (λ_=>.inl) e
 ⟨X.nd,λc m=>e.at (X.vC c m),e.at X.g,E.at X.p,e.at X.t,e.at X.td,X.D.ext e,λb hb=>(X.aS b hb).nv E (e _ (aF (X.aS b hb).self)) (e _ (aF (X.aS b hb).aM))⟩
structure GK(h h':Hp)(A:Ad)(n:Int):Prop where
 fr:∀x,x≠A.g->h' x=h x
 g:h' A.g=some (.list [.ref A.p,.int n])
theorem BH.rf{n':Int}(X:BH h A bs un n td)(G:GK h h' A n'):BH h' A bs un n' td/\Ext (aY (ak A bs) h) (aY (ak A bs) h'):=by
 refine oaaa X.ne λcu _ _ d=>?_;refine oaaa cu λd1 d2 d3 d4=>?_;try clear cu
 have E:=BH.cI (bs:=bs) λx m _=>G.fr x λ(e:x=A.g)=>m (e▸Qr);exact⟨⟨X.nd,λc m=>(G.fr _ (X.rh m MK)).trans (X.vC c m),G.g,E.at X.p,(G.fr _ d1.symm).trans X.t,(G.fr _ d2.symm).trans X.td,X.D.keep (G.fr _ d3.symm) (G.fr _ d4.symm),λb hb=>(X.aS b hb).nv E (G.fr _ (d b hb).1.1) (G.fr _ (d b hb).2.1)⟩,E⟩
theorem BH.ri(X:BH h A bs un n td)(fr:∀x,x≠A.dk->x≠A.dc->h' x=h x)(D:eR h' A.dk A.dc):BH h' A bs un n td/\Ext (aY (ak A bs) h) (aY (ak A bs) h'):=by
 refine oaaa X.ne λcY dT gU d=>?_;refine oaaa cY λ_ _ d3 d4=>?_;try clear cY;refine oaa dT λ_ t3 t4=>?_;try clear dT;refine oa gU λk1 k2=>?_;try clear gU
 have E:=BH.cI (bs:=bs) λx m _=>fr x (λ(e:x=A.dk)=>m (e▸Gl)) λ(e:x=A.dc)=>m (e▸Gm);exact⟨⟨X.nd,λc m=>(fr _ (X.rh m GG) (X.rh m GH)).trans (X.vC c m),(fr _ d3 d4).trans X.g,E.at X.p,(fr _ t3 t4).trans X.t,(fr _ k1 k2).trans X.td,D,λb hb=>(X.aS b hb).nv E (fr _ (d b hb).1.2.2.2.1 (d b hb).1.2.2.2.2) (fr _ (d b hb).2.2.2.2.1 (d b hb).2.2.2.2.2)⟩,E⟩
theorem BH.EA{M4:O}(X:BH h A bs un n td)(p:Put h A.td M4 h'):BH h' A bs un n M4/\Ext (aY (ak A bs) h) (aY (ak A bs) h'):=by
 refine oaaa X.ne λgC kB jV d=>?_;refine oaa gC λ_ d2 _=>?_;try clear gC;refine oa kB λt2 _=>?_;try clear kB;refine oa jV λk1 k2=>?_;try clear jV
 have E:=BH.cI (bs:=bs) λx m _=>p.ne λ(e:x=A.td)=>m (e▸JQ);exact⟨⟨X.nd,λc m=>p.to (X.rh m GE) (X.vC c m),p.to d2 X.g,E.at X.p,p.to t2 X.t,p.at,X.D.keep (p.ne k1.symm) (p.ne k2.symm),λb hb=>(X.aS b hb).nv E (p.ne (d b hb).1.2.2.1) (p.ne (d b hb).2.2.2.1)⟩,E⟩
theorem dN(W:Wd Φ γ)(hg:h A.g=some (.list [.ref A.p,.int n]))(q:∀h',GK h h' A (n+1)->Q (.int (n+1)) h'):Φ "_law_new" [.ref A.g] h Q:=by
 refine W.cl rfl rfl ?_;have sq:=@qB (.ref A.p) (.int n) [];nofun;refine r_setIl hg 1 rfl λh1 p=>?_;have g1:h1 A.g=some (.list [.ref A.p,.int (n+1)]):=p.at;have IT:=@qB (.ref A.p) (.int (n+1)) [];nofun;exact q h1 ⟨λx n=>p.ne n,g1⟩
theorem BH.add(X:BH h A bs un n td){b:ax}{n':Int}(fr:∀x,x≠A.g->x≠A.t->h x≠none->h' x=h x)(na:h b.ad=none)(no:h b.oA=none)(np:h b.pA=none)(Tu:b.oA≠b.ad)(Tk:b.pA≠b.ad)(Ti:b.pA≠b.oA)
 (g:h' A.g=some (.list [.ref A.p,.int n'])) (t:h' A.t=some (.dict ((bs++[b]).map λb=>(b.aa,.ref b.ad)))) (self:h' b.ad=some (.inst "KBlock" (mK b .none))) (aM:h' b.oA=some (.list [])) (bo:b.aM=[]) (par:h' b.pA=some (iL b.params)) (nl:∀c∈bs,c.aa≠b.aa):
 BH h' A (bs++[b]) (un++[b.aa]) n' td/\Ext (aY (ak A bs) h) (aY (ak A (bs++[b])) h'):=by
 refine oaaa X.ne λnX gq jX d=>?_;refine oaaa nX λd1 d2 d3 d4=>?_;try clear nX;refine oaa gq λt2 t3 t4=>?_;try clear gq;refine oa jX λk1 k2=>?_;try clear jX
 refine oeeaa X.D.st λm0 cs f1 f2 _=>?_;have me:ak A (bs++[b])=ak A bs++[b.ad,b.oA]:=by unfold ak core;rw[Zx,ZF,Zo];rfl
 have lv:∀x∈ak A bs,x≠b.ad/\x≠b.oA:=λx m=>⟨λe=>X.live x m (e▸na),λe=>X.live x m (e▸no)⟩;have E:Ext (aY (ak A bs) h) (aY (ak A (bs++[b])) h'):=λx hx=>by
  have m:x∉ak A bs:=λm=>hx (cB m);rw[aW m] at hx ⊢;rw[me,aW,fr x (λ(e:x=A.g)=>m (e▸Qr)) (λ(e:x=A.t)=>m (e▸TD)) hx];intro z;rcases Zg.mp z with z|z
  . exact m z
  . rcases Zp.mp z with rfl|z
    . exact hx na
    . exact hx (Zc.mp z▸no)
 have pn:b.pA∉ak A (bs++[b]):=λz=>by
  rw[me] at z;rcases Zg.mp z with z|z
  . exact X.live _ z np
  . rcases Zp.mp z with z|z
    . exact Tk z
    . exact Ti (Zc.mp z)
 refine⟨⟨?_,λc m=>(fr _ (X.rh m MK) (X.rh m Od) (aF (X.vC c m))).trans (X.vC c m),g,E.at X.p,t,(fr _ d2.symm t2.symm (aF X.td)).trans X.td,X.D.keep (fr _ d3.symm t3.symm (aF f1)) (fr _ d4.symm t4.symm (aF f2)),λc hc=>?_⟩,E⟩
 . rw[me];refine ZJ.mpr ⟨X.nd,ZD.mpr ⟨λz=>Tu (Zc.mp z).symm,Z5 _ _⟩,λx hx y hy e=>?_⟩;rcases Zp.mp hy with z|z
   . exact(lv x hx).1 (e.trans z)
   . exact(lv x hx).2 (e.trans (Zc.mp z))
 . rcases Zg.mp hc with hc|hc
   . have B:=X.aS c hc;have lv:kH (un++[b.aa]) c=kH un c:=by
      unfold kH
      by_cases z:c.aa∈un
      . rw[if_pos z,if_pos (Zd _ z)]
      . rw[if_neg z,if_neg λk=>(Zg.mp k).elim z λk=>nl c hc (Zc.mp k)]
     exact⟨by rw[lv];exact(fr _ (d c hc).1.1 (d c hc).1.2.1 (aF B.self)).trans B.self,(fr _ (d c hc).2.1 (d c hc).2.2.1 (aF B.aM)).trans B.aM,E.at B.params,λo ho=>(B.op o ho).ext E,λz=>(B.ag λk=>z (Zd _ k)).ext E⟩
   . rw[Zc.mp hc];have lv:kH (un++[b.aa]) b= .none:=if_pos (Zi _ (.head _));exact⟨by rw[lv];exact self,by rw[aM,bo];rfl,(aW pn).trans par,(λo ho=>by rw[bo] at ho;cases ho),λz=>absurd (Zi _ (.head _)) z⟩
theorem r_newKB{k:C}{ρ:Lo}{st:List V}{Q:Po}(W:Wd Φ γ){pa:Nat}{l:Int}{s:String}
 (q:∀a h' o,Ext h h'->h a=none->h o=none->o≠a->h' o=some (.list [])->h' a=some (.inst "KBlock" (mK ⟨a,l,s,[],pa,-1,l,-1,[],o,⟨0,"",0,[],0,0,0,0⟩⟩ .none))->wp Φ γ k ρ (.ref a::st) h' Q):wp Φ γ (.new "KBlock" "KBlock.__init__" 4 k) ρ (.int (-1):: .ref pa::sv s:: .int l::st) h Q:=by
 refine r_new rfl λa h0 A=>W.cl rfl rfl ?_;have n:=A.new;nofun;intro h1 p1;nofun;intro h2 p2;nofun;intro h3 p3;nofun;intro h4 p4;nofun;intro h5 p5;nofun;intro h6 p6;nofun;intro h7 p7;nofun;intro h8 p8;have e8:=p8.im (p7.im (p6.im (p5.im (p4.im (p3.im (p2.im (p1.im A.ext n) n) n) n) n) n) n) n;nofun;intro o h9 A9;have oa:o≠a:=(A9.ne p8.at).symm;have f9:=A9.ext.at p8.at;nofun;intro io nN;nofun;intro s_ CQ;exact r_done ⟨rfl,q a s_ o (CQ.im (nN.im (A9.im e8) n) n) n (e8.none A9.new) oa (CQ.to oa (nN.to oa A9.at)) CQ.at⟩
end
end
section
section
variable {Φ:Calls}{γ:String->Option V}{h h':Hp}{Q:V->Hp->Prop}
variable {A:Ad}{bs:List ax}{un:List Int}{n:Int}{td:O}
structure jK(b:ax)(n:Int)(s:String)(m:Nat)(bK aw:Int):Prop where
 aa:b.aa=n+1
 aH:b.aH=s
 params:b.params=(List.range m).map λk:Nat=>n+2+(k:Int)
 ae:b.ae=if s="fun" then n+m+2 else -1
 bK:b.bK=if s="fun" then n+1 else bK
 aw:b.aw=aw
 aM:b.aM=[]
noncomputable def bI(n:Int)(s:String)(m:Nat):Int:=n+1+m+(if s="fun" then 1 else 0)
theorem eT(W:Wd Φ γ)(X:BH h A bs un n td)(hn:∀b∈bs,b.aa<=n)(cG:bs.length<1000){s:String}{m:Nat}(hm:m<=1){bK aw:Int}
 (q:∀h' b,BH h' A (bs++[b]) (un++[b.aa]) (bI n s m) td->Ext (aY (ak A bs) h) (aY (ak A (bs++[b])) h')->jK b n s m bK aw->Q (.ref b.ad) h'):
 Φ "_law_block" [.ref A.g,sv s,.int m,.int bK,.int aw] h Q:=by
 refine W.cl rfl rfl ?_;nofun;refine dN W X.g λh1 G1=>?_;have X1:=X.rf G1;nofun;refine fC W.aV (aJ:=.range m) ⟨m,rfl,Zf hm (by decide),rfl⟩ rfl (List.range m) (λi=>[.int i]) rfl (λd vs h'=>GK h1 h' A (n+1+(d.length:Int))/\vs=((List.range d.length).map λk:Nat=>n+2+(k:Int)).map V.int)
  ⟨⟨λ_ _=>rfl,by rw[G1.g];exact congrArg (λz:Int=>some (O.list [.ref A.p,.int z])) (Yy _).symm⟩,rfl⟩ (λ_ _ _ _=>trivial) (λd x r vs h' e m I=>⟨_,.inl ⟨rfl,rfl⟩,true,?_⟩) λvs h2 pa h3 I A3=>?_
 . refine oa I λI1 I2=>?_;try clear I
   refine r_lit (r_done_val ⟨rfl,?_⟩);show wp _ _ _ _ _ _ _;nofun;refine dN W I1.g λh3 G3=>r_done_val ⟨⟨λx hx=>(G3.fr x hx).trans (I1.fr x hx),?_⟩,?_⟩
   . rw[G3.g,Zb];exact congrArg (λz:Int=>some (O.list [.ref A.p,.int z])) (VK ..)
   . rw[I2,Zb,Yg,Uq,Zq,Zq];exact congrArg (λz:Int=>List.map V.int _++[V.int z]) (by show n+1+(d.length:Int)+1=n+2+(d.length:Int);exact ZA ((aj 0x10152001221001510012220011) _ _) ((aj 0x11001510012220152001220011) _ _))
 refine oa I λG2 bU=>?_;try clear I;subst bU
 rw[Z3] at G2 A3;have X2:=X1.1.rf G2;nofun;refine r_newKB W λa h4 o e4 na no oa fo fa=>?_;have Iq:=A3.ext.none na;have Ni:=A3.ext.none no;have OX:=A3.ext.trans e4;have f4:=e4.at A3.at;have d1:pa≠a:=aB na A3.at;have d2:pa≠o:=aB no A3.at;have ga:a≠A.g:=(aB Iq X2.1.g).symm;have go:o≠A.g:=(aB Ni X2.1.g).symm;have gp:pa≠A.g:=(aB A3.new X2.1.g).symm;nofun;intro h5 p5;nofun;refine r_join (λh' v=>h5=h'/\v= .int (if s="fun" then n+1 else bK)) (λw K hK=>?_) (λw K hK=>?_) λh' v ⟨e,ev⟩=>?_
 . rw[if_pos (beq_iff_eq.mp w)] at hK;nofun;exact r_done (hK _ _ ⟨rfl,rfl⟩)
 . rw[if_neg λz=>Bool.noConfusion ((beq_iff_eq.mpr z).symm.trans w)] at hK;nofun;exact r_done (hK _ _ ⟨rfl,rfl⟩)
 subst e ev;nofun;intro h6 p6;have Fz:Ext h2 h6:=p6.im (p5.im OX Iq) Iq;nofun;refine r_if (λh'=>(∀x,x≠a->x≠A.g->h' x=h6 x)/\h' A.g=some (.list [.ref A.p,.int (bI n s m)])/\h' a=some (.inst "KBlock" (mK ⟨a,n+1,s,[],pa,if s="fun" then n+m+2 else -1,if s="fun" then n+1 else bK,aw,[],o,⟨0,"",0,[],0,0,0,0⟩⟩ .none))) (λw K hK=>?_) (λw K hK=>?_) λh7 lE=>oaa lE λNT g7 a7=>?_
 . have w':=beq_iff_eq.mp w;nofun;refine dN W (Fz.at G2.g) λh7 G7=>?_;have a7:=(G7.fr a ga).trans p6.at;nofun;intro h8 p8;refine r_done (hK _ ⟨λx x1 x2=>(p8.ne x1).trans (G7.fr x x2),(p8.to ga.symm G7.g).trans ?_,p8.at.trans ?_⟩)
   . unfold bI;rw[if_pos w']
   . rw[if_pos w',if_pos w',show n+(m:Int)+2=n+1+m+1 by exact ZA ((aj 0x11001510012222001501220011) _ _) ((aj 0x12001501221001510012220011) _ _)];rfl
 . have w':¬ s="fun":=λz=>Bool.noConfusion ((beq_iff_eq.mpr z).symm.trans w);refine r_done (hK _ ⟨λx _ _=>rfl,(Fz.at G2.g).trans ?_,p6.at.trans ?_⟩)
   . unfold bI;rw[if_neg w',Yy]
   . rw[if_neg w',if_neg w'];rfl
 have Gu:∀x,x≠A.g->h2 x≠none->h7 x=h2 x:=λx x1 hx=>(NT x (λ(e:x=a)=>hx (e▸Iq)) x1).trans (Fz x hx);have hp:=bj.at X2.1.p;have pg:A.p≠A.g:=λe=>by rw[e,G2.g] at hp;cases hp
 have p7:=(Gu _ pg (aF hp)).trans hp;have t7:=(Gu _ X2.1.ne.1.1.symm (aF X2.1.t)).trans X2.1.t;have ta:A.t≠a:=aB Iq X2.1.t;have Sx:A.t≠o:=aB Ni X2.1.t;have tp:A.t≠pa:=aB A3.new X2.1.t;have L0:=@wV (.ref A.p) [.int (bI n s m)];nofun;refine W.cl rfl rfl ?_;nofun;refine r_setId t7 (by rw[Za];exact ZL cG (by decide)) λh8 p8=>?_;rw[iM (by
  intro z;refine oea (Zn.mp z) λp hp e=>?_;refine oea (Zn.mp hp) λc hc cu=>?_;subst cu;exact absurd (hn c hc) (by show ¬ c.aa<=n;rw[show c.aa=n+1 from e];exact λcx=>(aj 0x1b01100120101) _ cx))] at p8
 refine r_done_ret ?_;nofun;have T:=X2.1.add (h':=h8) (b:=⟨a,n+1,s,(List.range m).map λk:Nat=>n+2+(k:Int),pa,if s="fun" then n+m+2 else -1,if s="fun" then n+1 else bK,aw,[],o,⟨0,"",0,[],0,0,0,0⟩⟩) (n':=bI n s m)
  (λx x1 x2 hx=>(p8.ne x2).trans (Gu x x1 hx)) Iq Ni A3.new oa d1 d2 (p8.to X2.1.ne.1.1 g7) (by rw[p8.at,Zq];rfl) (p8.to ta.symm a7) (p8.to Sx.symm ((NT o oa go).trans (p6.to oa (p5.to oa fo)))) rfl (p8.to tp.symm ((NT pa d1 gp).trans (p6.to d1 (p5.to d1 f4)))) λc hc e=>by
   have:=hn c hc;have:c.aa=n+1:=e
   (rename_i jF;exact(aj 0x110b1101010112012202) c.aa n this jF)
 exact q h8 _ T.1 (X1.2.trans (X2.2.trans T.2)) ⟨rfl,rfl,rfl,rfl,rfl,rfl,rfl⟩
end
end
section
section
variable {Φ:Calls}{γ:String->Option V}{h h':Hp}{Q:V->Hp->Prop}
variable {A:Ad}{bs:List ax}{un:List Int}{n:Int}{td:O}
noncomputable def chg(bs:List ax)(l:Int)(f:ax->ax):List ax:=bs.map λb=>if b.aa=l then f b else b
noncomputable abbrev cm(bs:List ax)(l:Int)(o:Op):List ax:=chg bs l λb=>{b with aM:=b.aM++[o]}
noncomputable abbrev fY(bs:List ax)(l:Int)(x:Last):List ax:=chg bs l λb=>{b with ag:=x}
theorem dE{l:Int}{f:ax->ax}{b:ax}:b∈chg bs l f↔∃c∈bs,b=if c.aa=l then f c else c:=by
 unfold chg;rw[Zn];constructor<;>(intro z_;refine oea z_ λc h e=>?_;exact⟨c,h,e.symm⟩)
theorem kT{l:Int}{f:ax->ax}(h:∀b,(f b).ad=b.ad/\(f b).oA=b.oA):ak A (chg bs l f)=ak A bs:=by
 unfold ak core chg;rw[List.flatMap_map];have e:(λb:ax=>[(if b.aa=l then f b else b).ad,(if b.aa=l then f b else b).oA])=λb=>[b.ad,b.oA]:=funext λb=>by
  split
  . rw[(h b).1,(h b).2]
  . rfl
 rw[e]
theorem xf{l:Int}{f:ax->ax}(h:∀b,(f b).ad=b.ad/\(f b).aa=b.aa):((chg bs l f).map λb=>(b.aa,V.ref b.ad))=bs.map λb=>(b.aa,V.ref b.ad):=by
 unfold chg;rw[Zt];refine Yo λb _=>?_;show ((if b.aa=l then f b else b).aa,V.ref (if b.aa=l then f b else b).ad)=_;split
 . rw[(h b).1,(h b).2]
 . rfl
theorem BH.nv(X:BH h A bs un n td){x:Nat}{o:O}(z:h x=none)(e:h' x=some o):aY (ak A bs) h' x=some o:=(aW λm=>X.live x m z).trans e
theorem BH.rm(X:BH h A bs un n td){ai:ax}(ho:ai∈bs)(lq:∀b∈bs,b.aa=ai.aa->b=ai){o:Op}(O:xX (aY (ak A bs) h) o)(p:Put h ai.oA (.list (ai.aM.map (λo=>V.ref o.ad)++[.ref o.ad])) h'):
 BH h' A (cm bs ai.aa o) un n td/\aY (ak A (cm bs ai.aa o)) h'=aY (ak A bs) h:=by
 refine oaaa X.ne λ_ _ _ d=>?_;refine oaaaa ((d ai ho).2) λg1 g2 g3 g4 g5=>?_;have me:ak A (cm bs ai.aa o)=ak A bs:=kT λb=>⟨rfl,rfl⟩;have he:aY (ak A (cm bs ai.aa o)) h'=aY (ak A bs) h:=by rw[me];exact fh (Pa ho) p
 refine⟨⟨me▸X.nd,λc m=>p.to (X.rh m (GF ho)) (X.vC c m),p.to g1.symm X.g,he▸X.p,(p.to g2.symm X.t).trans (congrArg (λz=>some (Mine.O.dict z)) (xf (f:=λb=>{b with aM:=b.aM++[o]}) λb=>⟨rfl,rfl⟩).symm),p.to g3.symm X.td,X.D.keep (p.ne g4.symm) (p.ne g5.symm),λb hb=>?_⟩,he⟩;rw[he];refine oea (dE.mp hb) λc hc bU=>?_;subst bU;have B:=X.aS c hc
 by_cases z:c.aa=ai.aa
 . have:=lq c hc z;subst this;rw[if_pos rfl];exact⟨p.to (X.inj hc hc).2.2 B.self,by rw[p.at,Zq];rfl,B.params,λo' i_=>(Zg.mp i_).elim (B.op o') λk=>Zc.mp k▸O,B.ag⟩
 . rw[if_neg z];exact⟨p.to (X.inj hc ho).2.2 B.self,p.to (λe=>z (congrArg ax.aa ((X.inj hc ho).2.1 e))) B.aM,B.params,B.op,B.ag⟩
theorem BH.Dq(X:BH h A bs un n td){ai:ax}(ho:ai∈bs)(lq:∀b∈bs,b.aa=ai.aa->b=ai){x:Last}(Lx:f_ (aY (ak A bs) h) x)(p:Put h ai.ad (.inst "KBlock" (mK ai (.ref x.ad))) h'):
 BH h' A (fY bs ai.aa x) (un.filter λl=>l != ai.aa) n td/\aY (ak A (fY bs ai.aa x)) h'=aY (ak A bs) h:=by
 refine oaaa X.ne λ_ _ _ d=>?_;refine oaaaa ((d ai ho).1) λg1 g2 g3 g4 g5=>?_;have me:ak A (fY bs ai.aa x)=ak A bs:=kT λb=>⟨rfl,rfl⟩;have he:aY (ak A (fY bs ai.aa x)) h'=aY (ak A bs) h:=by rw[me];exact fh (Pb ho) p
 have hu:∀l,l∈un.filter (λl=>l != ai.aa)↔l∈un/\l≠ai.aa:=λl=>by rw[ZH,bne_iff_ne]
 refine⟨⟨me▸X.nd,λc m=>p.to (X.rh m (GI ho)) (X.vC c m),p.to g1.symm X.g,he▸X.p,(p.to g2.symm X.t).trans (congrArg (λz=>some (Mine.O.dict z)) (xf (f:=λb=>{b with ag:=x}) λb=>⟨rfl,rfl⟩).symm),p.to g3.symm X.td,X.D.keep (p.ne g4.symm) (p.ne g5.symm),λb hb=>?_⟩,he⟩;rw[he];refine oea (dE.mp hb) λc hc cu=>?_;subst cu;have B:=X.aS c hc
 by_cases z:c.aa=ai.aa
 . have:=lq c hc z;subst this;rw[if_pos rfl];refine⟨?_,p.to (X.inj hc hc).2.2.symm B.aM,B.params,B.op,λ_=>Lx⟩;have:kH (un.filter λl=>l != c.aa) {c with ag:=x}= .ref x.ad:=if_neg λz=>((hu _).mp z).2 rfl;rw[this];exact p.at
 . rw[if_neg z];have lv:kH (un.filter λl=>l != ai.aa) c=kH un c:=by
    unfold kH
    by_cases y:c.aa∈un
    . rw[if_pos y,if_pos ((hu _).mpr ⟨y,z⟩)]
    . rw[if_neg y,if_neg λk=>y ((hu _).mp k).1]
   exact⟨by rw[lv];exact p.to (λe=>z (congrArg ax.aa ((X.inj hc ho).1 e))) B.self,p.to (X.inj ho hc).2.2.symm B.aM,B.params,B.op,λy=>B.ag λk=>y ((hu _).mpr ⟨k,z⟩)⟩
section
variable {k:C}{ρ:Lo}{st:List V}{Q:Po}
theorem r_newKOp(W:Wd Φ γ){aA:Nat}{r num:Int}{w:String}
 (q:∀a rA lA h',Ext h h'->h a=none->h rA=none->h lA=none->rA≠a->lA≠a->h' a=some (.inst "KOp" [("result",.int r),("word",sv w),("number",.int num),("args",.ref aA),("datum",.none),("results",.ref rA),("labels",.ref lA)])->h' rA=some (.list [])->h' lA=some (.list [])->wp Φ γ k ρ (.ref a::st) h' Q):
 wp Φ γ (.new "KOp" "KOp.__init__" 4 k) ρ (.ref aA:: .int num::sv w:: .int r::st) h Q:=by
 refine r_new rfl λa h0 A=>W.cl rfl rfl ?_;have n:=A.new;nofun;intro h1 p1;nofun;intro h2 p2;nofun;intro h3 p3;nofun;intro h4 p4;nofun;intro h5 p5;have e5:=p5.im (p4.im (p3.im (p2.im (p1.im A.ext n) n) n) n) n;nofun;intro rA h6 A6;have ra:rA≠a:=(A6.ne p5.at).symm;have f6:=A6.ext.at p5.at;nofun;intro h7 p7;have e7:=p7.im (A6.im e5) n;have r7:=p7.to ra A6.at;nofun;intro lA h8 A8;have la:lA≠a:=(A8.ne p7.at).symm;have f8:=A8.ext.at p7.at;nofun;intro h9 p9;exact r_done ⟨rfl,q a rA lA h9 (p9.im (A8.im e7) n) n (e5.none A6.new) (e7.none A8.new) ra la p9.at (p9.to ra (A8.ext.at r7)) (p9.to la A8.at)⟩
theorem r_newKL(W:Wd Φ γ){w:String}
 (q:∀a g h',Ext h h'->h a=none->h' a=some (.inst "KLast" (v5 ⟨a,w,-1,[],g,-1,-1,-1⟩))->h g=none->g≠a->h' g=some (.list [])->wp Φ γ k ρ (.ref a::st) h' Q):
 wp Φ γ (.new "KLast" "KLast.__init__" 1 k) ρ (sv w::st) h Q:=by
 refine r_new rfl λa h0 A=>W.cl rfl rfl ?_;have n:=A.new;nofun;intro h1 p1;nofun;intro h2 p2;have e2:=p2.im (p1.im A.ext n) n;nofun;intro g h3 A3;have ga:g≠a:=(A3.ne p2.at).symm;have f3:=A3.ext.at p2.at;nofun;intro h4 p4;nofun;intro h5 p5;nofun;intro h6 p6;nofun;intro h7 p7;exact r_done ⟨rfl,q a g h7 (p7.im (p6.im (p5.im (p4.im (A3.im e2) n) n) n) n) n p7.at (e2.none A3.new) ga (p7.to ga (p6.to ga (p5.to ga (p4.to ga A3.at))))⟩
end
theorem mW(W:Wd Φ γ)(X:BH h A bs un n td){ai:ax}(ho:ai∈bs)(lq:∀b∈bs,b.aa=ai.aa->b=ai)(dq:ai.aM.length<=10){d:V}{pr:Bool}(hd:Dat (aY (ak A bs) h) d pr)
 (q:∀h' a aA rA lA r,BH h' A (cm bs ai.aa ⟨a,n+1,"const",-1,[],aA,d,[],rA,[],lA,pr⟩) un (n+1) td->Ext (aY (ak A bs) h) (aY (ak A bs) h')->aY (ak A bs) h' r=some (iL [n+1])->Q (.ref r) h'):Φ "_law_const" [.ref A.g,.ref ai.ad,d] h Q:=by
 refine W.cl rfl rfl ?_;have dn:cH d=false:=by
  cases pr with
  |true=>refine oeea hd λa fs e _=>?_;try clear hd;rw[e];rfl
  |false=>rcases hd with e|e|⟨a,e,_⟩<;>rw[e]<;>rfl
 nofun;refine dN W X.g λh1 G=>?_;have X1:=X.rf G;nofun;intro aA h2 A2;refine r_newKOp W λa rA lA h3 e3 na nr nl d2 d3 fa fr fl=>?_;have lG:=A2.ext.trans e3;have d1:aA≠a:=aB na A2.at;have Ng:=A2.ext.none na;nofun;intro h4 p4;have xV:Ext h1 h4:=p4.im lG Ng;have X4:=X1.1.ext xV;have E4:=bu (S:=ak A bs) (S':=ak A bs) (λ_=>.inl) xV;have O:xX (aY (ak A bs) h4) ⟨a,n+1,"const",-1,[],aA,d,[],rA,[],lA,pr⟩:=
  ⟨X1.1.nv Ng p4.at,X1.1.nv A2.new (p4.to d1 (e3.at A2.at)),X1.1.nv (A2.ext.none nr) (p4.to d2 fr),X1.1.nv (A2.ext.none nl) (p4.to d3 fl),λ_=>(hd.ext X1.2).ext E4⟩
 have B4:=X4.aS ai ho;have b4:=B4.self;have o4:=B4.aM;nofun;refine r_app o4 (by rw[Za];exact Zk dq (by decide)) λh5 p5=>?_;have X5:=X4.rm ho lq O p5;have me:ak A (cm bs ai.aa ⟨a,n+1,"const",-1,[],aA,d,[],rA,[],lA,pr⟩)=ak A bs:=kT λb=>⟨rfl,rfl⟩;have f5:=p5.to (aB Ng (X1.1.aS ai ho).aM).symm p4.at;nofun;intro r h6 A6;refine r_ret (q h6 a aA rA lA r (X5.1.ext A6.ext) ?_ (me▸X5.1.nv A6.new A6.at));have:=X5.2;rw[me] at this;exact X1.2.trans (E4.trans (this▸bu (λ_=>.inl) A6.ext))
end
end
section
section
variable {Φ:Calls}{γ:String->Option V}{h h':Hp}{Q:V->Hp->Prop}
variable {A:Ad}{bs:List ax}{un:List Int}{n:Int}{td:O}
theorem BH.news(X:BH h A bs un n td):Ext (news h h') (aY (ak A bs) h'):=.mk λz=>oa (cT z) λa b=>X.nv a b
theorem BM(W:Wd Φ γ){r l:Int}(q:∀h' a aA rA lA,Ext h h'->xX (news h h') ⟨a,r,"fun",-1,[],aA,.none,[],rA,[l],lA,false⟩->Q (.ref a) h'):Φ "fun_op" [.int r,.int l] h Q:=by
 refine W.cl rfl rfl ?_;nofun;intro aA h1 A1;refine r_newKOp W λa rA lA h2 e2 na nr nl d2 d3 fa fr fl=>?_;have n0:=A1.ext.none na;have kD:=A1.ext.trans e2;nofun;intro lB h3 A3;have Nm:lB≠a:=(A3.ne fa).symm;nofun;intro h4 p4;nofun;exact q h4 a aA rA lB (p4.im (A3.im kD) n0) ⟨news_at n0 p4.at,news_at A1.new (p4.to (aB na A1.at) (A3.ext.at (e2.at A1.at))),news_at (A1.ext.none nr) (p4.to d2 (A3.ext.at fr)),news_at (kD.none A3.new) (p4.to Nm A3.at),λw=>absurd w (by show ¬ "fun"="const";decide)⟩
theorem BN(W:Wd Φ γ){r l:Nat}{rs ls:List Int}(hr:h r=some (iL rs))(hl:h l=some (iL ls))(q:∀h' a aA rA lA,Ext h h'->xX (news h h') ⟨a,-1,"fix",-1,[],aA,.none,rs,rA,ls,lA,false⟩->Q (.ref a) h'):Φ "fix_op" [.ref r,.ref l] h Q:=by
 refine W.cl rfl rfl ?_;nofun;intro aA h1 A1;refine r_newKOp W λa rA lA h2 e2 na nr nl d2 d3 fa fr fl=>?_;have n0:=A1.ext.none na;have kD:=A1.ext.trans e2;nofun;intro rB h3 A3;have Qd:rB≠a:=(A3.ne fa).symm;have C0:=A3.im kD;nofun;intro h4 p4;have CJ:=p4.im C0 n0;nofun;intro lB h5 A5;have Nm:lB≠a:=(A5.ne p4.at).symm;nofun;intro h6 p6;nofun;exact q h6 a aA rB lB (p6.im (A5.im CJ) n0) ⟨news_at n0 p6.at,news_at A1.new (p6.to (aB na A1.at) (A5.ext.at (p4.to (aB na A1.at) (A3.ext.at (e2.at A1.at))))),news_at (kD.none A3.new) (p6.to Qd (A5.ext.at (p4.to Qd A3.at))),news_at (CJ.none A5.new) (p6.to Nm A5.at),λw=>absurd w (by show ¬ "fix"="const";decide)⟩
theorem mX(W:Wd Φ γ){f t v:Int}{g:Nat}{as:List Int}(hg:h g=some (iL as))(q:∀h' a g',Ext h h'->f_ (news h h') ⟨a,"call",f,as,g',t,-1,v⟩->Q (.ref a) h'):Φ "call_last" [.int f,.ref g,.int t,.int v] h Q:=by
 refine W.cl rfl rfl ?_;have g1:=W.Bb;nofun;refine r_newKL W λa g0 h1 e1 na fa n0 d0 f0=>?_;nofun;intro h2 p2;have e2:=p2.im e1 na;nofun;intro g' h3 A3;have ga:g'≠a:=(A3.ne p2.at).symm;have e3:=A3.im e2;nofun;intro h4 p4;nofun;intro h5 p5;nofun;intro h6 p6;nofun;exact q h6 a g' (p6.im (p5.im (p4.im e3 na) na) na) ⟨news_at na p6.at,news_at (e2.none A3.new) (p6.to ga (p5.to ga (p4.to ga A3.at)))⟩
theorem uR(W:Wd Φ γ){t:Int}{g:Nat}{as:List Int}(hg:h g=some (iL as))(q:∀h' a g',Ext h h'->f_ (news h h') ⟨a,"jump",-1,as,g',t,-1,-1⟩->Q (.ref a) h'):Φ "jump_last" [.int t,.ref g] h Q:=by
 refine W.cl rfl rfl ?_;have g1:=W.A_;nofun;refine r_newKL W λa g0 h1 e1 na fa n0 d0 f0=>?_;nofun;intro h2 p2;have e2:=p2.im e1 na;nofun;intro g' h3 A3;have ga:g'≠a:=(A3.ne p2.at).symm;have e3:=A3.im e2;nofun;intro h4 p4;nofun;exact q h4 a g' (p4.im e3 na) ⟨news_at na p4.at,news_at (e2.none A3.new) (p4.to ga A3.at)⟩
theorem uT(W:Wd Φ γ){v:Int}{g:Nat}{as:List Int}(hg:h g=some (iL as))(q:∀h' a g',Ext h h'->f_ (news h h') ⟨a,"give",-1,as,g',-1,-1,v⟩->Q (.ref a) h'):Φ "give_last" [.int v,.ref g] h Q:=by
 refine W.cl rfl rfl ?_;have g1:=W.Ba;nofun;refine r_newKL W λa g0 h1 e1 na fa n0 d0 f0=>?_;nofun;intro h2 p2;have e2:=p2.im e1 na;nofun;intro g' h3 A3;have ga:g'≠a:=(A3.ne p2.at).symm;have e3:=A3.im e2;nofun;intro h4 p4;nofun;exact q h4 a g' (p4.im e3 na) ⟨news_at na p4.at,news_at (e2.none A3.new) (p4.to ga A3.at)⟩
theorem qj(W:Wd Φ γ){f t o:Int}(q:∀h' a g',Ext h h'->f_ (news h h') ⟨a,"if",f,[],g',t,o,-1⟩->Q (.ref a) h'):Φ "branch_last" [.int f,.int t,.int o] h Q:=by
 refine W.cl rfl rfl ?_;have g1:=W.uq;nofun;refine r_newKL W λa g0 h1 e1 na fa n0 d0 f0=>?_;nofun;intro h2 p2;nofun;intro h3 p3;nofun;intro h4 p4;nofun;exact q h4 a g0 (p4.im (p3.im (p2.im e1 na) na) na) ⟨news_at na p4.at,news_at n0 (p4.to d0 (p3.to d0 (p2.to d0 f0)))⟩
structure Ent where
 (a ad:Nat) (aa:Int) (sA:Nat) (s:List Int) (jA:Nat) (js:List (Nat×Int)) (deep:Int)
structure yz(j:Hp)(e:Ent):Prop where
 self:j e.a=some (.list [.ref e.ad,.ref e.sA,.ref e.jA,.int e.deep])
 s:j e.sA=some (iL e.s)
 js:j e.jA=some (.list (e.js.map λp=>.ref p.1))
theorem yz.ext{j j':Hp}{e:Ent}(x:yz j e)(E:Ext j j'):yz j' e:=⟨E.at x.self,E.at x.s,E.at x.js⟩
structure TH(h:Hp)(A:Ad)(bs:List ax)(un:List Int)(n:Int)(es:List Ent):Prop where
 bh:BH h A bs un n (.list (es.map λe=>.ref e.a))
 ent:∀e∈es,yz (aY (ak A bs) h) e
variable {es:List Ent}
theorem TH.push(X:TH h A bs un n es){e:Ent}(R:yz (aY (ak A bs) h) e)(p:Put h A.td (.list (es.map (λe=>V.ref e.a)++[.ref e.a])) h'):TH h' A bs un n (es++[e])/\aY (ak A bs) h'=aY (ak A bs) h:=by
 have he:aY (ak A bs) h'=aY (ak A bs) h:=fh JQ p;refine⟨⟨(X.bh.EA (M4:=.list ((es++[e]).map λe=>.ref e.a)) ?_).1,λe' m=>?_⟩,he⟩
 . rw[Zq];exact p
 . rw[he];exact(Zg.mp m).elim (X.ent e') λk=>Zc.mp k▸R
end
end
section
section
variable {Φ:Calls}{γ:String->Option V}{h h':Hp}{Q:V->Hp->Prop}
variable {A:Ad}{bs eg:List ax}{un gS:List Int}{n n':Int}{es gk:List Ent}{ai:ax}{ah rs:List Int}
noncomputable def et(n:Int)(k:Nat):List Int:=(List.range k).map λi:Nat=>n+1+(i:Int)
theorem fO{n x:Int}{k:Nat}:x∈et n k↔n<x/\x<=n+k:=by
 unfold et;rw[Zn];constructor
 . intro z_;refine oea z_ λi hi nM=>?_;subst nM;have:=Xs.mp hi;exact⟨(aj 0x1015100122011011) _ _,(aj 0x11115012015100122011014121) _ _ _ this⟩
 . intro h;exact⟨(x - n - 1).toNat,Xs.mpr (by exact(aj 0x11010111410011133115201501211011011a222) _ _ _ _ h (YD ((aj 0x111001113300001501211011011a112) _ _ _ h))),by exact ZA ((aj 0x11010151011220101101330152112) _ _ _ (YD ((aj 0x111001113300001501211011011a112) _ _ _ h))) ((aj 0x11015101122010015101101330112) _ _ _ (ZY _))⟩
theorem tY{n:Int}{k:Nat}:(et n k).Pairwise (· < ·):=by
 unfold et;rw[YO];exact Ve.imp λh=>by exact(aj 0x11115100122015100122111014121) _ _ _ h
theorem eC{n:Int}{k:Nat}:et n (k+1)=(n+1)::et (n+1) k:=by
 unfold et;rw[List.range_succ_eq_map,Zw,Zt];refine congr (congrArg List.cons (Yy _)) (Yo λi _=>?_);show n+1+((i+1:Nat):Int)=_;exact ZA ((aj 0x10151010012221001251001220011) _ _) ((aj 0x11001251001220151010012220011) _ _)
theorem ju{n:Int}:et n 0=[]:=rfl
theorem dg{n:Int}{m:Nat}:bI n "fun" m=n+2+m:=by unfold bI;rw[if_pos rfl];exact ZA ((aj 0x10152001221001510012220011) _ _) ((aj 0x11001510012220152001220011) _ _)
theorem jK.seq{b:ax}{s:String}{m:Nat}{bK aw:Int}(N:jK b n s m bK aw)(n0:0<=n):bY b=et n (1+m+(if s="fun" then 1 else 0)):=by
 unfold bY cX;rw[N.aM,N.ae,N.aa,N.params,Yc,Zu,Yr,Vb,eC];refine congrArg (List.cons _) ?_;split
 . rw[if_pos (by exact(aj 0x1120015012200001000111) _ _ n0)];unfold et;rw[Uq,Zq,YI];exact congr (congrArg _ (Yo λi _=>by exact ZA ((aj 0x10151010012220152001220011) _ _) ((aj 0x10152001220151010012220011) _ _))) (congrArg (λz:Int=>[z]) (by exact ZA ((aj 0x10151010012222001501220011) _ _) ((aj 0x12001501220151010012220011) _ _)))
 . rw[if_neg (by exact λcx=>(aj 0x1b19000100) cx),Zu];exact Yo λi _=>by exact ZA ((aj 0x10151010012220152001220011) _ _) ((aj 0x10152001220151010012220011) _ _)
theorem iK{n:Int}{k l:Nat}:et n k++et (n+k) l=et n (k+l):=by
 induction k generalizing n with
 |zero=>rw[ju,XN,Xx];exact congrArg (et · l) (Yy _)
 |succ k ih=>rw[eC,Uk,show n+((k+1:Nat):Int)=n+1+k by exact ZA ((aj 0x10151001221001250120011) _ _) ((aj 0x11001250120151001220011) _ _),ih,XQ,eC]
structure kJ(ai:ax)(ah:List Int)(n n':Int)(nb:List ax)(op:Op)(bW:List Ent):Prop where
 seq:∃k:Nat,n'=n+k/\nb.flatMap bY++op.aC=et n k
 asc:(nb.map (·.aa)).Pairwise (· < ·)
 early:nb≠[]->n<60/\nb.length<=2/\∀b∈nb,b.aa<=n+4
 cnt:(if aK op then 1 else 0)+2*(nb.length:Int)<=n' - n
 vr:∀b∈nb,b.aH="fun"/\b.bK=b.aa/\b.aw=ai.aa/\b.aM=[]/\0<=b.ae/\b.params.length<=1
 ents:bW.map (·.aa)=nb.map (·.aa)
 ent:∀e∈bW,∃b∈nb,e.ad=b.ad/\e.aa=b.aa/\e.js=[]/\∃x,x.length<=2/\(∀v∈x,v∈op.aC)/\e.s=ah++(x++b.params)
 aT:op.aT=nb.map (·.aa)
 args:∀v∈op.args,v∈ah
 shape:(op.bC="const"/\op.args=[]/\op.aT=[])\/(op.bC="fun"/\op.args=[]/\∃l,op.aT=[l])\/(op.bC="fix"/\op.args=[]/\op.bO.length=op.aT.length)\/((op.bC="prim"\/op.bC="setglobal")/\op.aT=[])
 cst:op.bC="const"->0<=op.result
 neg:(op.bC="fix"->op.result= -1)/\(op.bC≠ "fix"->op.bO=[])/\(op.result= -1\/0<=op.result)
 len:op.args.length<=2/\op.bO.length<=2/\op.aT.length<=2
structure rK(ai:ax)(ah:List Int)(bs:List ax)(un:List Int)(n:Int)(es:List Ent)(eg:List ax)(gS:List Int)(n':Int)(gk:List Ent)(rs:List Int):Prop where
 ex:∃nb op bW,eg=cm (bs++nb) ai.aa op/\gS=un++nb.map (·.aa)/\gk=es++bW/\rs=op.aC/\kJ ai ah n n' nb op bW
theorem TH.to(X:TH h A bs un n es)(T:BH h' A bs un n' (.list (es.map λe=>.ref e.a))/\Ext (aY (ak A bs) h) (aY (ak A bs) h')):TH h' A bs un n' es:=⟨T.1,λe he=>(X.ent e he).ext T.2⟩
theorem TH.ext(X:TH h A bs un n es)(e:Ext h h'):TH h' A bs un n es:=X.to ⟨X.bh.ext e,bu (λ_=>.inl) e⟩
theorem TH.al(X:TH h A bs un n es){a:Nat}{o:O}(A1:Alloc h a o h'):TH h' A bs un n es/\Ext (aY (ak A bs) h) (aY (ak A bs) h')/\aY (ak A bs) h' a=some o:=
 ⟨X.ext A1.ext,bu (λ_=>.inl) A1.ext,X.bh.nv A1.new A1.at⟩
theorem TH.EX(X:TH h A bs un n es):h A.td=some (.list (es.map λe=>.ref e.a)):=by
 exact X.bh.td
theorem DP{b:ax}{m:Nat}{a aA rA lA e sB jB:Nat}{d:Int}(N:jK b n "fun" m (-1) ai.aa)(hm:m<=1)(n0:0<=n)(vz:n<60):[bI n "fun" m+1]=Op.aC ⟨a,bI n "fun" m+1,"fun",-1,[],aA,.none,[],rA,[b.aa],lA,false⟩/\
 kJ ai ah n (bI n "fun" m+1) [b] ⟨a,bI n "fun" m+1,"fun",-1,[],aA,.none,[],rA,[b.aa],lA,false⟩ [⟨e,b.ad,b.aa,sB,ah++b.params,jB,[],d⟩]:=by
 have g:[bI n "fun" m+1]=Op.aC ⟨a,bI n "fun" m+1,"fun",-1,[],aA,.none,[],rA,[b.aa],lA,false⟩:=by
  show _=if "fun"="fix" then [] else if 0<=bI n "fun" m+1 then [bI n "fun" m+1] else [];rw[if_neg (by decide),if_pos (by rw[dg];exact(aj 0x1110015200122200001000111) _ _ n0)]
 have pl:b.params.length=m:=by rw[N.params,Za,Z3]
 refine⟨g,⟨⟨m+3,by rw[dg];exact ZA ((aj 0x13001250121001520012220011) _ _) ((aj 0x11001520012223001250120011) _ _),?_⟩,Z5 _ _,λ_=>⟨vz,Yk _,λc hc=>by rw[Zc.mp hc,N.aa];exact(aj 0x140012100120001) _⟩,by rw[dg,show aK _=false from rfl,Yg];simp only[Xn,if_false];exact(aj 0x10110015200122231050240020011) _ _,λc hc=>?_,rfl,λc hc=>?_,rfl,λ_ z=>(nomatch z),.inr (.inl ⟨rfl,rfl,_,rfl⟩),λw=>absurd w (by show ¬ "fun"="const";decide),⟨λw=>absurd w (by show ¬ "fun"="fix";decide),λ_=>rfl,.inr (by rw[dg];show (0:Int)<=n+2+(m:Int)+1;exact(aj 0x1110015200122200001000111) _ _ n0)⟩,ZS _,ZS _,Yk _⟩⟩
 . rw[ZF,N.seq n0,if_pos rfl,<-g,show [bI n "fun" m+1]=et (n+((1+m+1:Nat):Int)) 1 by rw[eC,ju,dg];exact congrArg (λz:Int=>[z]) (by exact ZA ((aj 0x11010011022501221001520012220011) _ _) ((aj 0x11001520012221010011022501220011) _ _)),iK];exact congrArg (et n) (by exact YQ ((aj 0x130012101001102223010) _) ((aj 0x110100110222300123010) _))
 . rw[Zc.mp hc];exact⟨N.aH,by rw[N.bK,if_pos rfl,N.aa],N.aw,N.aM,by rw[N.ae,if_pos rfl];exact(aj 0x1120015012200001000111) _ _ n0,by exact(aj 0x111101130111510013220) _ _ hm pl⟩
 . rw[Zc.mp hc];exact⟨b,.head _,rfl,rfl,rfl,[],ZS _,(λ_ z=>nomatch z),rfl⟩
theorem DQ{b1 b2:ax}{a aA rA lA:Nat}{bW:List Ent}(N1:jK b1 n "fun" 1 (-1) ai.aa)(N2:jK b2 (bI n "fun" 1) "fun" 1 (-1) ai.aa)(n0:0<=n)(vz:n<60)(hl:bW.map (·.aa)=[b1,b2].map (·.aa))
 (he:∀e∈bW,∃b∈[b1,b2],e.ad=b.ad/\e.aa=b.aa/\e.js=[]/\e.s=ah++([n+7,n+8]++b.params)):
 kJ ai ah n (n+8) [b1,b2] ⟨a,-1,"fix",-1,[],aA,.none,[n+7,n+8],rA,[b1.aa,b2.aa],lA,false⟩ bW:=by
 have g:Op.aC ⟨a,-1,"fix",-1,[],aA,.none,[n+7,n+8],rA,[b1.aa,b2.aa],lA,false⟩=[n+7,n+8]:=rfl;have e1:bI n "fun" 1=n+3:=by rw[dg];exact ZA ((aj 0x1300121052001220001) _) ((aj 0x1105200122300120001) _)
 rw[e1] at N2;refine⟨⟨8,rfl,?_⟩,?_,λ_=>⟨vz,Zs _,λc hc=>?_⟩,by rw[show aK _=false from rfl];simp only[Xn,if_false,Yn,Yj];exact(aj 0x1018001231010002250240020001) _,λc hc=>?_,hl,λc hc=>?_,rfl,λ_ z=>(nomatch z),.inr (.inr (.inl ⟨rfl,rfl,rfl⟩)),λw=>absurd w (by show ¬ "fix"="const";decide),⟨λ_=>rfl,λw=>absurd rfl w,.inl rfl⟩,ZS _,Zs _,Zs _⟩
 . rw[g,ZK,ZF,N1.seq n0,N2.seq (by exact(aj 0x113001200001000101) _ n0),if_pos rfl,show [n+7,n+8]=et (n+((3+3:Nat):Int)) 2 by rw[eC,eC,ju];exact congr (congrArg List.cons (by exact ZA ((aj 0x1103030250122700120001) _) ((aj 0x1700121030302501220001) _))) (congrArg (λz:Int=>[z]) (by exact ZA ((aj 0x1101030302501222800120001) _) ((aj 0x1800121010303025012220001) _))),show n+3=n+((3:Nat):Int) from rfl,iK,iK]
 . refine YF.mpr ⟨λx hx=>?_,Z5 _ _⟩
   rewrite [Zc.mp hx]
   show b1.aa<b2.aa;rw[N1.aa,N2.aa];exact(aj 0x110300122100121001) _
 . rcases Zp.mp hc with rfl|hc
   . rw[N1.aa];exact(aj 0x140012100120001) _
   . rw[Zc.mp hc,N2.aa];exact(aj 0x140012103001220001) _
 . rcases Zp.mp hc with rfl|hc
   . exact⟨N1.aH,by rw[N1.bK,if_pos rfl,N1.aa],N1.aw,N1.aM,by rw[N1.ae,if_pos rfl];exact(aj 0x1120105012200001000101) _ n0,by rw[N1.params,Za,Z3];exact Zs _⟩
   . rw[Zc.mp hc];exact⟨N2.aH,by rw[N2.bK,if_pos rfl,N2.aa],N2.aw,N2.aM,by rw[N2.ae,if_pos rfl];exact(aj 0x1120105300122200001000101) _ n0,by rw[N2.params,Za,Z3];exact Zs _⟩
 . refine oeaaaa (he c hc) λb hb x1 x2 x3 x4=>?_;exact⟨b,hb,x1,x2,x3,[n+7,n+8],Zs _,λ_ z=>z,x4⟩
theorem r_todo{k:C}{ρ:Lo}{st:List V}{Q:Po}{h1:Hp}(X:TH h A bs un n es)(vD:es.length<1000){a ad sA jA:Nat}{s:List Int}{js:List (Nat×Int)}{d:Int}(A1:Alloc h a (.list [.ref ad,.ref sA,.ref jA,.int d]) h1)(l:Int)(hs:aY (ak A bs) h sA=some (iL s))(hj:aY (ak A bs) h jA=some (.list (js.map λp=>.ref p.1)))
 (q:∀h',TH h' A bs un n (es++[⟨a,ad,l,sA,s,jA,js,d⟩])->Ext (aY (ak A bs) h) (aY (ak A bs) h')->wp Φ γ k ρ st h' Q):wp Φ γ (.prim .append 1 (.pop k)) ρ (.ref a:: .ref A.td::st) h1 Q:=by
 have X1:=X.al A1;refine r_app X1.1.EX (by rw[Za];exact ZL vD (by decide)) λh2 p=>?_;have T:=X1.1.push (e:=⟨a,ad,l,sA,s,jA,js,d⟩) ⟨X1.2.2,X1.2.1.at hs,X1.2.1.at hj⟩ p;exact q h2 T.1 (T.2▸X1.2.1)
theorem m_{Q:Po}(W:Wd Φ γ){e k:C}{ρ:Lo}{st:List V}{s:String}{m:Nat}{bK aw:Int}(X:TH h A bs un n es)(hm:m<=1)(hn:∀b∈bs,b.aa<=n)(cG:bs.length<990)
 (elt:∀(x:V) h1 zG lq n1,TH h1 A zG lq n1 es->(∀b∈bs,b∈zG)->∀K:V->Hp->Prop,(∀K':V->Hp->Prop,(∀v h2,K v h2->K' v h2)->Φ "_law_block" [.ref A.g,sv s,.int m,.int bK,.int aw] h1 K')->wp Φ γ e (bc ρ "turn" x) [] h1 (gF K))
 (fin:∀a h' b1 b2,TH h' A (bs++[b1,b2]) (un++[b1.aa,b2.aa]) (bI (bI n s m) s m) es->Ext (aY (ak A bs) h) (aY (ak A (bs++[b1,b2])) h')->jK b1 n s m bK aw->jK b2 (bI n s m) s m bK aw->aY (ak A (bs++[b1,b2])) h' a=some (.list [.ref b1.ad,.ref b2.ad])->wp Φ γ k ρ (.ref a::st) h' Q):
 wp Φ γ (.comp ["turn"] .range (.az (.bool true) .done) e k) ρ (.int 2::st) h Q:=by
 have zC:∀{h1 zG lq n1},TH h1 A zG lq n1 es->(∀b∈bs,b∈zG)->(∀b∈zG,b.aa<=n1)->zG.length<1000->∀(x:V) (K:V->Hp->Prop),(∀h2 b,TH h2 A (zG++[b]) (lq++[b.aa]) (bI n1 s m) es->Ext (aY (ak A zG) h1) (aY (ak A (zG++[b])) h2)->jK b n1 s m bK aw->K (.ref b.ad) h2)->wp Φ γ e (bc ρ "turn" x) [] h1 (gF K):=λY sub UU Py x K hK=>
  elt x _ _ _ _ Y sub K λK' zS=>eT W Y.bh UU Py hm λh2 b X2 E2 NB=>zS _ _ (hK h2 b ⟨X2,λe he=>(Y.ent e he).ext E2⟩ E2 NB)
 have nl:n+1<=bI n s m:=by unfold bI;split<;>first|exact(aj 0x1100151001222100120011) n m|exact(aj 0x1000151001222100120011) n m
 refine fC W.aV (aJ:=.range 2) ⟨2,rfl,by decide,rfl⟩ rfl (List.range 2) (λi=>[.int i]) rfl (λd vs h'=>(d.length=0->h'=h/\vs=[])/\(d.length=1->∃b1,vs=[.ref b1.ad]/\TH h' A (bs++[b1]) (un++[b1.aa]) (bI n s m) es/\Ext (aY (ak A bs) h) (aY (ak A (bs++[b1])) h')/\jK b1 n s m bK aw)/\
  (d.length=2->∃b1 b2,vs=[.ref b1.ad,.ref b2.ad]/\TH h' A (bs++[b1,b2]) (un++[b1.aa,b2.aa]) (bI (bI n s m) s m) es/\Ext (aY (ak A bs) h) (aY (ak A (bs++[b1,b2])) h')/\jK b1 n s m bK aw/\jK b2 (bI n s m) s m bK aw))
  ⟨λ_=>⟨rfl,rfl⟩,λz=>(nomatch z),λz=>(nomatch z)⟩ (λ_ _ _ _=>trivial) (λd x r vs h' e _ I=>⟨_,.inl ⟨rfl,rfl⟩,true,r_lit (r_done_val ⟨rfl,?_⟩)⟩) λvs h1 a h2 I A2=>?_
 . show wp _ _ _ _ _ _ _;have dl:=(iV e).2;rw[(iV e).1] at dl;have dl2:d.length=0\/d.length=1:=by omega
   rcases dl2 with z|z
   . refine oa (I.1 z) λbU cu=>?_;subst bU;subst cu;exact zC X (λ_ hb=>hb) hn (ZL cG (by decide)) _ _ λh2 b T E NB=>⟨(λy=>by rw[Zb,z] at y;exact nomatch y),λ_=>⟨b,rfl,T,E,NB⟩,(λy=>by rw[Zb,z] at y;exact nomatch y)⟩
   . refine oeaaa (I.2.1 z) λb1 cY T1 E1 N1=>?_;subst cY;refine zC T1 (λ_ hb=>Zd _ hb) (λb hb=>?_) (by rw[Zb];exact ZL (Xu cG 1) (by decide)) _ _ λh2 b T E NB=>⟨(λy=>by rw[Zb,z] at y;exact nomatch y),(λy=>by rw[Zb,z] at y;exact nomatch y),λ_=>⟨b1,b,rfl,?_,?_,N1,NB⟩⟩
     . rcases Zg.mp hb with hb|hb
       . have:=hn b hb;exact(aj 0x111112100121011100120203) _ _ _ nl this
       . rw[Zc.mp hb,N1.aa];exact nl
     . rw[Zo,Zo] at T;exact T
     . rw[Zo] at E;exact E1.trans E
 . refine oeeaaaa (I.2.2 rfl) λb1 b2 dT T E N1 N2=>?_;subst dT;have Y:=T.al A2;exact fin a h2 b1 b2 Y.1 (E.trans Y.2.1) N1 N2 Y.2.2
theorem mr(W:Wd Φ γ)(X:TH h A bs un n es)(ho:ai∈bs)(hn:∀b∈bs,b.aa<=n)(lq:∀b∈bs,b.aa=ai.aa->b=ai)(cG:bs.length<900)(n0:0<=n)(vz:n<60)(dq:ai.aM.length<=10)(vD:es.length<900){sA:Nat}(hs:aY (ak A bs) h sA=some (iL ah))(sl:ah.length<=900){deep:Int}
 (q:∀h' eg gS n' gk rs r,rK ai ah bs un n es eg gS n' gk rs->TH h' A eg gS n' gk->Ext (aY (ak A bs) h) (aY (ak A eg) h')->aY (ak A eg) h' r=some (iL rs)->Q (.ref r) h'):
 Φ "_law_procedures" [.ref A.dk,.ref A.g,.ref ai.ad,.ref sA,.ref A.td,.int deep] h Q:=by
 refine W.cl rfl rfl ?_;nofun;refine c_ W X.bh.D (by decide) (by decide) λh1 d _ _ fr D=>?_;have T1:=X.bh.ri fr D;have X1:=X.to T1;nofun;refine r_ite (λ_=>?_) λ_=>?_
 . nofun;refine c_ W X1.bh.D (by decide) (by decide) λh2 d d0 d2 fr D=>?_;have T2:=X1.bh.ri fr D;have X2:=X1.to T2;obtain ⟨m,rfl⟩:∃m:Nat,d=(m:Int):=⟨d.toNat,(YD d0).symm⟩;have own2:=(X2.bh.aS ai ho).self;nofun;refine eT W X2.bh hn (ZL cG (by decide)) (m:=m) (by exact(aj 0x1110013200151110) _ d2) λh3 b X3 E3 NB=>?_;nofun;refine dN W X3.g λh4 G4=>?_;have X4:=X3.rf G4;have Iz:ai∈bs++[b]:=Zd _ ho;have Q6:b∈bs++[b]:=Zi _ (.head _);have own4:=(X4.1.aS ai Iz).self;have Gj:=(X4.1.aS ai Iz).aM;have b4:=(X4.1.aS b Q6).self;nofun;refine BM W λh5 a aA rA lA e5 O=>?_;have Gi:=e5.at Gj;have ub:b.aa≠ai.aa:=λe=>by have:=hn ai ho;rw[<-e,NB.aa] at this;exact(aj 0x1b01100120101) _ this
   have Ik:∀c∈bs++[b],c.aa=ai.aa->c=ai:=λc hc e=>(Zg.mp hc).elim (λk=>lq c k e) λk=>absurd (Zc.mp k▸e) ub;nofun;refine r_app Gi (by rw[Za];exact Zk dq (by decide)) λh6 p6=>?_;have X6:=(X4.1.ext e5).rm Iz Ik (O.ext X4.1.news) p6;have E46:Ext (aY (ak A (bs++[b])) h4) (aY (ak A (cm (bs++[b]) ai.aa ⟨a,bI n "fun" m+1,"fun",-1,[],aA,.none,[],rA,[b.aa],lA,false⟩)) h6):=X6.2▸bu (λ_=>.inl) e5;have RW:=E3.trans (X4.2.trans E46);have RZ:=T1.2.trans (T2.2.trans RW);have Y6:TH h6 A _ _ _ es:=⟨X6.1,λe he=>(X2.ent e he).ext RW⟩;have WP:b∈cm (bs++[b]) ai.aa ⟨a,bI n "fun" m+1,"fun",-1,[],aA,.none,[],rA,[b.aa],lA,false⟩:=dE.mpr ⟨b,Q6,(if_neg ub).symm⟩;have B6:=X6.1.aS b WP;have b6:=B6.self;have td6:=Y6.EX;have s6:=bj.at (RZ.at hs);have SM:=bj.at B6.params;have pl:b.params.length<=1:=by rw[NB.params,Za,Z3];exact(aj 0x1110013200151110) _ d2
   nofun;refine r_cati s6 SM (Zf (ZR sl pl) (by decide)) λsB h7 A7=>?_;nofun;intro jB h8 A8;have Y7:=Y6.al A7;have Y8:=Y7.1.al A8;nofun;intro e h9 A9;refine r_todo Y8.1 (ZL vD (by decide)) A9 b.aa (js:=[]) (Y8.2.1.at Y7.2.2) Y8.2.2 λh9 Y9 E9=>?_;nofun;intro r io tn;have xW:=Y9.al tn;refine r_ret_sq (r_ret (q io _ _ _ _ [bI n "fun" m+1] r ⟨[b],_,_,rfl,rfl,rfl,DP NB (by exact(aj 0x1110013200151110) _ d2) n0 vz⟩ xW.1 (RZ.trans (Y7.2.1.trans (Y8.2.1.trans (E9.trans xW.2.1)))) xW.2.2))
 . nofun;refine m_ W (s:="fun") (m:=1) (bK:=-1) (aw:=ai.aa) X1 (by decide) hn (ZL cG (by decide)) (λx h2 zG Ik n2 Y sub K hK=>?_) λpa h2 b1 b2 X2 E2 N1 N2 fp=>?_
   . have:=(Y.bh.aS ai (sub ai ho)).self;nofun;exact hK _ λv h2 k=>r_done_val k
   nofun;refine dN W X2.bh.g λh3 G3=>?_;have X3:=X2.to (X2.bh.rf G3);nofun;refine dN W X3.bh.g λh4 G4=>?_;have X4:TH h4 A (bs++[b1,b2]) (un++[b1.aa,b2.aa]) (bI (bI n "fun" 1) "fun" 1+1+1) es:=X3.to (X3.bh.rf G4);have e6:bI (bI n "fun" 1) "fun" 1=n+6:=by rw[dg,dg];exact ZA ((aj 0x16001210520105200122220001) _) ((aj 0x11052010520012222600120001) _)
   replace X4:TH h4 A (bs++[b1,b2]) (un++[b1.aa,b2.aa]) (n+8) es:=by
    rw[show bI (bI n "fun" 1) "fun" 1+1+1=n+8 by exact ZA ((aj 0x118011210100122060112012102) _ _ e6) ((aj 0x1011010012280112060112012102) _ _ e6)] at X4;exact X4
   rw[e6,show n+6+1=n+7 by exact ZA ((aj 0x170012106001220001) _) ((aj 0x110600122700120001) _),show n+7+1=n+8 by exact ZA ((aj 0x180012107001220001) _) ((aj 0x110700122800120001) _)];nofun;intro ra h5 A5;have Y5:=X4.al A5;have RX:=(X2.bh.rf G3).2.trans ((X3.bh.rf G4).2.trans Y5.2.1);have Nx:ai∈bs++[b1,b2]:=Zd _ ho;have m1:b1∈bs++[b1,b2]:=Zi _ (.head _);have m2:b2∈bs++[b1,b2]:=Zi _ (.tail _ (.head _));have Gg:=(Y5.1.bh.aS ai Nx).self;have Gi:=(Y5.1.bh.aS ai Nx).aM;have fp5:=bj.at (RX.at fp);nofun;refine comp_map W.aV (λb:ax=>V.ref b.ad) ch [b1,b2] fp5 (λb h6 hb e6 K hK=>?_) λla h6 e6 _ f6=>?_
   . have bs6:=e6.at (Y5.1.bh.aS b (Zi _ hb)).self;nofun;exact hK _ e6
   have Y6:=Y5.1.ext e6;have E6:=bu (S:=ak A (bs++[b1,b2])) (S':=ak A (bs++[b1,b2])) (λ_=>.inl) e6;refine BN W (rs:=[n+7,n+8]) (ls:=[b1.aa,b2.aa]) (e6.at A5.at) f6 λh7 a aA rA lA e7 O=>?_;have O1:=(e6.trans e7).at Gi;have u1:b1.aa≠ai.aa:=λe=>by have:=hn ai ho;rw[<-e,N1.aa] at this;exact(aj 0x1b01100120101) _ this
   have u2:b2.aa≠ai.aa:=λe=>by have:=hn ai ho;rw[<-e,N2.aa,dg] at this;exact(aj 0x1b011010520012220101) _ this
   have Ik:∀c∈bs++[b1,b2],c.aa=ai.aa->c=ai:=λc hc e=>by
    rcases Zg.mp hc with hc|hc
    . exact lq c hc e
    . rcases Zp.mp hc with rfl|hc
      . exact absurd e u1
      . exact absurd (Zc.mp hc▸e) u2
   nofun;refine r_app O1 (by rw[Za];exact Zk dq (by decide)) λh8 p8=>?_;have X8:=(Y6.bh.ext e7).rm Nx Ik (O.ext Y6.bh.news) p8;have MQ:=bu (S:=ak A (bs++[b1,b2])) (S':=ak A (bs++[b1,b2])) (λ_=>.inl) e7;have Om:=RX.trans (E6.trans (X8.2▸MQ));have MS:=T1.2.trans (E2.trans Om);have Y8:TH h8 A _ _ _ es:=⟨X8.1,λe he=>(Y5.1.ent e he).ext (E6.trans (X8.2▸MQ))⟩;have MF:=(E6.trans (X8.2▸MQ)).at Y5.2.2;have MG:=Om.at fp;have NR:=MS.at hs;have kb:∀b∈[b1,b2],b∈cm (bs++[b1,b2]) ai.aa ⟨a,-1,"fix",-1,[],aA,.none,[n+7,n+8],rA,[b1.aa,b2.aa],lA,false⟩:=λb hb=>dE.mpr ⟨b,Zi _ hb,(if_neg (by
    rcases Zp.mp hb with rfl|hb
    . exact u1
    . rw[Zc.mp hb];exact u2)).symm⟩
   have kp:∀b∈[b1,b2],b.params.length<=1:=λb hb=>by
    rcases Zp.mp hb with rfl|hb
    . rw[N1.params,Za,Z3];exact Zs _
    . rw[Zc.mp hb,N2.params,Za,Z3];exact Zs _
   have Pw:=bj.at MG
   revert kb Y8 MS MF MG NR
   clear X8 Om MQ p8;generalize hB:cm (bs++[b1,b2]) ai.aa ⟨a,-1,"fix",-1,[],aA,.none,[n+7,n+8],rA,[b1.aa,b2.aa],lA,false⟩=B8;intro MS Y8 MF MG NR kb;nofun;refine bN W.aV (λb:ax=>V.ref b.ad) [b1,b2] (λd _ h'=>∃bW,TH h' A B8 (un++[b1.aa,b2.aa]) (n+8) (es++bW)/\Ext (aY (ak A B8) h8) (aY (ak A B8) h')/\bW.map (·.aa)=d.map (·.aa)/\∀e∈bW,∃b∈[b1,b2],e.ad=b.ad/\e.aa=b.aa/\e.js=[]/\e.s=ah++([n+7,n+8]++b.params))
    Pw ⟨[],by rw[Zu];exact Y8,.refl,rfl,λ_ z=>nomatch z⟩ (λd ρ h' lF=>oeaa lF λ_ _ E _=>bj.at (E.at MG)) ?_ ?_
   . intro d b rr σ h9 hd hb z_ K hK _;refine oeaaa z_ λbW Y9 E9 l9 k9=>?_;have B9:=Y9.bh.aS b (kb b hb);have b9:=B9.self;have p9:=bj.at B9.params;have s9:=bj.at (E9.at NR);have r9:h9 ra=some (iL [n+7,n+8]):=bj.at (E9.at MF);have SA:=Y9.EX;have ll:(es++bW).length<1000:=by
      have h1:=congrArg List.length l9;have h2:=congrArg List.length hd;rw[Za,Za] at h1;rw[Zb] at h2 ⊢;rw[h1];exact Zk (ZO (Zf (ZE _ _) (YJ h2)) _) (ZL (Xu vD 2) (by decide))
     nofun;refine r_cati s9 r9 (Zf (ZP sl 2) (by decide)) λx io tn=>?_;have xW:=Y9.al tn;nofun;refine r_cati tn.at (tn.ext.at p9) (by rw[Zb];exact Zf (ZR (ZP sl 2) (kp b hb)) (by decide)) λy s_ hZ=>?_;have C7:=xW.1.al hZ;nofun;intro j q9 CN;have FD:=C7.1.al CN;nofun;intro e Ep zV;refine r_todo FD.1 ll zV b.aa (js:=[]) (FD.2.1.at C7.2.2) FD.2.2 λzE Of On=>?_;refine r_done (hK _ zE ⟨bW++[⟨e,b.ad,b.aa,y,ah++[n+7,n+8]++b.params,j,[],deep+1⟩],by rw[<-Zo];exact Of,E9.trans (xW.2.1.trans (C7.2.1.trans (FD.2.1.trans On))),by rw[Zq,Zq,l9];rfl,λe' he=>?_⟩);rcases Zg.mp he with he|he
     . exact k9 e' he
     . rw[Zc.mp he];exact⟨b,hb,rfl,rfl,rfl,Zo ..⟩
   . intro σ h9 z_;refine oeaaa z_ λbW Y9 E9 l9 k9=>?_;nofun;exact q h9 B8 _ _ (es++bW) [n+7,n+8] ra ⟨[b1,b2],_,bW,hB.symm,rfl,rfl,rfl,DQ N1 N2 n0 vz l9 k9⟩ Y9 (MS.trans E9) (E9.at MF)
end
end
section
section
variable {Φ:Calls}{γ:String->Option V}{h h':Hp}{Q:V->Hp->Prop}
variable {A:Ad}{bs eg:List ax}{un gS:List Int}{n n':Int}{es gk:List Ent}{ai:ax}{ah rs:List Int}
theorem Gx{op:Op}(k:Nat)(hn:n'=n+k)(g:op.aC=et n k)(c:(if aK op then 1 else 0)<=(k:Int))(l:op.aT=[])(args:∀v∈op.args,v∈ah)(s:(op.bC="const"/\op.args=[])\/op.bC="prim"\/op.bC="setglobal")
 (cst:op.bC="const"->0<=op.result) (res:op.bO=[]) (neg:op.result= -1\/0<=op.result) (len:op.args.length<=2):kJ ai ah n n' [] op []:=by
 have nf:op.bC≠ "fix":=λe=>by
  rcases s with ⟨s,_⟩|s|s<;>rw[e] at s<;>exact absurd s (by decide)
 refine⟨⟨k,hn,by rw[g];rfl⟩,List.Pairwise.nil,λz=>absurd rfl z,by rw[hn];simp only[Yj];exact(aj 0x111101511230050240120015010112) _ _ _ c,(λ_ z=>nomatch z),rfl,(λ_ z=>nomatch z),l,args,?_,cst,⟨λe=>absurd e nf,λ_=>res,neg⟩,len,by rw[res];exact ZS _,by rw[l];exact ZS _⟩;rcases s with ⟨s,a⟩|s
 . exact .inl ⟨s,a,l⟩
 . exact .inr (.inr (.inr ⟨s,l⟩))
theorem Al{op:Op}(F:kJ ai ah n n' [] op []):rK ai ah bs un n es (cm bs ai.aa op) un n' es op.aC:=
 ⟨[],op,[],by rw[Zu],by rw[Vd,Zu],by rw[Zu],rfl,F⟩
theorem tX{n:Int}:et n 1=[n+1]:=by rw[eC,ju]
theorem za{a aA rA lA:Nat}{d:V}{pr:Bool}(n0:0<=n):Op.aC ⟨a,n+1,"const",-1,[],aA,d,[],rA,[],lA,pr⟩=[n+1]/\kJ ai ah n (n+1) [] ⟨a,n+1,"const",-1,[],aA,d,[],rA,[],lA,pr⟩ []:=by
 have g:Op.aC ⟨a,n+1,"const",-1,[],aA,d,[],rA,[],lA,pr⟩=[n+1]:=by
  show (if "const"="fix" then [] else if 0<=n+1 then [n+1] else [])=_;rw[if_neg (by decide),if_pos (by exact(aj 0x111001200001000101) _ n0)]
 exact⟨g,Gx 1 rfl (g.trans tX.symm) (by split<;>decide) rfl (λ_ z=>nomatch z) (.inl ⟨rfl,rfl⟩) (λ_=>by show (0:Int)<=n+1;exact(aj 0x111001200001000101) _ n0) rfl (.inr (by show (0:Int)<=n+1;exact(aj 0x111001200001000101) _ n0)) (ZS _)⟩
theorem Cf{a aA rA lA:Nat}{x y:Int}(n0:0<=n)(hx:x∈ah)(hy:y∈ah):Op.aC ⟨a,n+1,"prim",9,[x,y],aA,.none,[],rA,[],lA,false⟩=[n+1]/\kJ ai ah n (n+1) [] ⟨a,n+1,"prim",9,[x,y],aA,.none,[],rA,[],lA,false⟩ []:=by
 have g:Op.aC ⟨a,n+1,"prim",9,[x,y],aA,.none,[],rA,[],lA,false⟩=[n+1]:=by
  show (if "prim"="fix" then [] else if 0<=n+1 then [n+1] else [])=_;rw[if_neg (by decide),if_pos (by exact(aj 0x111001200001000101) _ n0)]
 refine⟨g,Gx 1 rfl (g.trans tX.symm) (by split<;>decide) rfl (λv z=>?_) (.inr (.inl rfl)) (λw=>absurd w (by show ¬ "prim"="const";decide)) rfl (.inr (by show (0:Int)<=n+1;exact(aj 0x111001200001000101) _ n0)) (Zs _)⟩
 rcases Zp.mp z with rfl|z
 . exact hx
 . rw[Zc.mp z];exact hy
theorem DO{a aA rA lA:Nat}{x:Int}(hx:x∈ah):kJ ai ah n n [] ⟨a,-1,"setglobal",3,[x],aA,.none,[],rA,[],lA,false⟩ []:=
 Gx 0 (Yy _).symm rfl (by rw[show aK _=false from rfl];decide) rfl (λv z=>Zc.mp z▸hx) (.inr (.inr rfl)) (λw=>absurd w (by show ¬ "setglobal"="const";decide)) rfl (.inl rfl) (Yk _)
theorem TH.one(W:Wd Φ γ)(X:TH h A bs un n es){sA:Nat}(hs:aY (ak A bs) h sA=some (iL ah))(s0:ah≠[])(sl:ah.length<=900)
 (q:∀h' x,x∈ah->TH h' A bs un n es->Ext (aY (ak A bs) h) (aY (ak A bs) h')->Q (.int x) h'):Φ "_law_one" [.ref A.dk,.ref sA] h Q:=by
 have nm:sA∉ak A bs:=λm=>by rw[cB m] at hs;cases hs
 exact yQ W X.bh.D (bj.at hs) s0 (Zk sl (by decide)) (λe=>nm (e▸Gl)) (λe=>nm (e▸Gm)) λh' x hx fr D=>q h' x hx (X.to (X.bh.ri fr D)) (X.bh.ri fr D).2
theorem TH.op(X:TH h A bs un n es)(ho:ai∈bs)(lq:∀b∈bs,b.aa=ai.aa->b=ai){op:Op}(O:xX (aY (ak A bs) h) op)(p:Put h ai.oA (.list (ai.aM.map (λo=>V.ref o.ad)++[.ref op.ad])) h'):TH h' A (cm bs ai.aa op) un n es/\aY (ak A (cm bs ai.aa op)) h'=aY (ak A bs) h:=by
 have T:=X.bh.rm ho lq O p;exact⟨⟨T.1,λe he=>T.2▸X.ent e he⟩,T.2⟩
theorem BK(W:Wd Φ γ)(X:TH h A bs un n es)(BA:Base γ (aY (ak A bs) h))(ho:ai∈bs)(hn:∀b∈bs,b.aa<=n)(lq:∀b∈bs,b.aa=ai.aa->b=ai)(cG:bs.length<900)(n0:0<=n)(dq:ai.aM.length<=10)(vD:es.length<900){sA:Nat}(hs:aY (ak A bs) h sA=some (iL ah))(s0:ah≠[])(sl:ah.length<=900){deep:Int}
 (q:∀h' eg gS n' gk rs r,rK ai ah bs un n es eg gS n' gk rs->TH h' A eg gS n' gk->Ext (aY (ak A bs) h) (aY (ak A eg) h')->aY (ak A eg) h' r=some (iL rs)->Q (.ref r) h'):
 Φ "_law_op" [.ref A.dk,.ref A.g,.ref ai.ad,.ref sA,.ref A.td,.int deep] h Q:=by
 refine W.cl rfl rfl ?_;refine oea BA.empty λte ge he=>?_;nofun;refine c_ W X.bh.D (by decide) (by decide) λh1 way w0 w8 fr D=>?_;have T1:=X.bh.ri fr D;have X1:=X.to T1;have kc:∀{h2 d pr} (K:V->Hp->Prop),TH h2 A bs un n es->Ext (aY (ak A bs) h) (aY (ak A bs) h2)->Dat (aY (ak A bs) h2) d pr->(∀v h',Q v h'->K v h')->Φ "_law_const" [.ref A.g,.ref ai.ad,d] h2 K:=λ{h2 d pr} K X2 E2 hd hK=>
  mW W X2.bh ho lq dq hd λh3 a aA rA lA r X3 E3 hr=>hK _ _ (by
   have me:ak A (cm bs ai.aa ⟨a,n+1,"const",-1,[],aA,d,[],rA,[],lA,pr⟩)=ak A bs:=kT λb=>⟨rfl,rfl⟩;have F:=za (ai:=ai) (ah:=ah) (a:=a) (aA:=aA) (rA:=rA) (lA:=lA) (d:=d) (pr:=pr) n0;exact q h3 _ un (n+1) es _ r (Al F.2) ⟨X3,λe he=>by rw[me];exact(X2.ent e he).ext E3⟩ (by rw[me];exact E2.trans E3) (by rw[me,F.1];exact hr))
 nofun;refine r_ite (λw3=>?_) λw3=>?_
 . nofun;intro l h2 A2;have X2:=X1.al A2;have hd:∃d,dm [.bool true,.int 5,.ref te] way=some d/\Dat (aY (ak A bs) h2) d false:=by
    have lt:=of_decide_eq_true w3;have:way=0\/way=1\/way=2:=(VT (Wv (b:=2) lt)).elim (λh=>(VT (Wv (b:=1) h)).elim (λh=>.inl (ZA (Wv (b:=0) h) w0)) λe=>.inr (.inl e)) λe=>.inr (.inr e);rcases this with rfl|rfl|rfl
    . exact⟨_,rfl,.inl rfl⟩
    . exact⟨_,rfl,.inr (.inl rfl)⟩
    . exact⟨_,rfl,.inr (.inr ⟨te,rfl,X2.2.1.at (T1.2.at he)⟩)⟩
   refine oea hd λd sq hd=>?_;nofun;exact kc _ X2.1 (T1.2.trans X2.2.1) hd λv h' k=>k
 nofun;refine r_ite (λw4=>?_) λw4=>?_
 . nofun;refine r_new rfl λa h2 A2=>W.cl rfl rfl ?_;have na:=A2.new;nofun;intro h3 p3;nofun;intro h4 p4;nofun;intro h5 p5;refine r_done ⟨rfl,?_⟩;have e5:=p5.im (p4.im (p3.im A2.ext na) na) na;have f5:=X1.bh.nv na p5.at;nofun;exact kc _ (X1.ext e5) (T1.2.trans (bu (λ_=>.inl) e5)) (pr:=true) ⟨a,_,rfl,f5⟩ λv h' k=>k
 have IT:=@qB (.ref A.p) (.int n) [];have g1:=X1.bh.g;nofun;refine r_and (decide (n<60)) (λ_ K hK=>?_) ?_
 . nofun;exact r_done hK
 refine r_ite (λw5=>?_) λw5=>?_
 . nofun;refine mr W X1 ho hn lq cG n0 (of_decide_eq_true (Zj.mp w5).2) dq vD (T1.2.at hs) sl λh' eg gS n' gk rs r S Y E R=>?_;exact r_ret_sq (r_ret (q h' eg gS n' gk rs r S Y (T1.2.trans E) R))
 nofun;refine r_ite (λw6=>?_) λw6=>?_
 . have JL:=(X1.bh.aS ai ho).self;have ops1:=(X1.bh.aS ai ho).aM;nofun;refine X1.one W (T1.2.at hs) s0 sl λh2 x hx X2 E2=>?_;nofun;intro aA h3 A3;refine r_newKOp W λa rA lA h4 e4 na nr nl d2 d3 fa fr fl=>?_;have n2:=A3.ext.none na;have FA:=A3.ext.trans e4;have Gj:=FA.at (X2.bh.aS ai ho).aM;refine r_app Gj (by rw[Za];exact Zk dq (by decide)) λh5 p5=>?_;have O:xX (aY (ak A bs) h4) ⟨a,-1,"setglobal",3,[x],aA,.none,[],rA,[],lA,false⟩:=⟨X2.bh.nv n2 fa,X2.bh.nv A3.new (e4.at A3.at),X2.bh.nv (A3.ext.none nr) fr,X2.bh.nv (A3.ext.none nl) fl,λw=>absurd w (by show ¬ "setglobal"="const";decide)⟩;have X5:=(X2.ext FA).op ho lq O p5;nofun;intro r h6 A6;have X6:=X5.1.al A6;exact r_ret_sq (r_ret (q h6 _ un n es _ r (Al (DO hx)) X6.1 (T1.2.trans (E2.trans ((bu (λ_=>.inl) FA).trans (X5.2▸X6.2.1)))) X6.2.2))
 nofun;refine dN W X1.bh.g λh2 G2=>?_;have T2:=X1.bh.rf G2;have X2:=X1.to T2;have S2:=T2.2.at (T1.2.at hs);nofun;refine X2.one W S2 s0 sl λh3 x hx X3 E3=>?_;nofun;refine X3.one W (E3.at S2) s0 sl λh4 y hy X4 E4=>?_;nofun;intro aA h5 A5;refine r_newKOp W λa rA lA h6 e6 na nr nl d2 d3 fa fr fl=>?_;have n4:=A5.ext.none na;have IJ:=A5.ext.trans e6;have own6:=IJ.at (X4.bh.aS ai ho).self;have O2:=IJ.at (X4.bh.aS ai ho).aM;nofun;refine r_app O2 (by rw[Za];exact Zk dq (by decide)) λh7 p7=>?_;have O:xX (aY (ak A bs) h6) ⟨a,n+1,"prim",9,[x,y],aA,.none,[],rA,[],lA,false⟩:=⟨X4.bh.nv n4 fa,X4.bh.nv A5.new (e6.at A5.at),X4.bh.nv (A5.ext.none nr) fr,X4.bh.nv (A5.ext.none nl) fl,λw=>absurd w (by show ¬ "prim"="const";decide)⟩;have X7:=(X4.ext IJ).op ho lq O p7;have f7:=p7.to (aB n4 (X4.bh.aS ai ho).aM).symm fa;nofun;intro r h8 A8;have X8:=X7.1.al A8;have F:=Cf (ai:=ai) (a:=a) (aA:=aA) (rA:=rA) (lA:=lA) n0 hx hy;exact r_ret (q h8 _ un (n+1) es _ r (Al F.2) X8.1 (T1.2.trans (T2.2.trans (E3.trans (E4.trans ((bu (λ_=>.inl) IJ).trans (X7.2▸X8.2.1)))))) (by rw[F.1];exact X8.2.2))
end
end
section
section
variable {Φ:Calls}{γ:String->Option V}{h h':Hp}{Q:V->Hp->Prop}
variable {A:Ad}{bs eg:List ax}{un gS:List Int}{n n':Int}{es gk:List Ent}{ai:ax}{ah:List Int}{js:List (Nat×Int)}
noncomputable abbrev Ad.lock(A:Ad)(k:Nat)(o:O):Ad:={A with ex:=(k,o)::A.ex}
theorem TH.lock(X:TH h A bs un n es){k:Nat}{o:O}(A1:Alloc h k o h'):TH h' (A.lock k o) bs un n es/\Ext (aY (ak A bs) h) (aY (ak (A.lock k o) bs) h'):=by
 have E:Ext (aY (ak A bs) h) (aY (ak (A.lock k o) bs) h'):=bu (λx m=>(Zp.mp m).elim (λe=>.inr (e▸A1.new)) .inl) A1.ext;have B:=X.bh;have e:=A1.ext;refine⟨⟨⟨ZD.mpr ⟨λm=>B.live _ m A1.new,B.nd⟩,λc m=>?_,e.at B.g,E.at B.p,e.at B.t,e.at B.td,B.D.ext e,λb hb=>(B.aS b hb).nv E (e _ (aF (B.aS b hb).self)) (e _ (aF (B.aS b hb).aM))⟩,λe he=>(X.ent e he).ext E⟩,E⟩;rcases Zp.mp m with rfl|m
 . exact A1.at
 . exact e.at (B.vC c m)
theorem TH.unlock{k:Nat}{o:O}(X:TH h (A.lock k o) bs un n es):TH h A bs un n es/\Ext (aY (ak (A.lock k o) bs) h) (aY (ak A bs) h)/\aY (ak A bs) h k=some o:=by
 have E:Ext (aY (ak (A.lock k o) bs) h) (aY (ak A bs) h):=bu (λx m=>.inl (Zh _ m)) .refl;have B:=X.bh;exact⟨⟨⟨(ZD.mp B.nd).2,λc m=>B.vC c (Zh _ m),B.g,E.at B.p,B.t,B.td,B.D,λb hb=>(B.aS b hb).nv E rfl rfl⟩,λe he=>(X.ent e he).ext E⟩,E,(aW (ZD.mp B.nd).1).trans (B.vC (k,o) (.head _))⟩
theorem TH.Hl{k:Nat}{o o':O}(X:TH h (A.lock k o) bs un n es)(p:Put h k o' h'):TH h' (A.lock k o') bs un n es/\aY (ak (A.lock k o') bs) h'=aY (ak (A.lock k o) bs) h:=by
 have he:aY (ak (A.lock k o') bs) h'=aY (ak (A.lock k o) bs) h:=fh (S:=ak (A.lock k o) bs) (.head _) p;have B:=X.bh;have ne:∀y∈core A bs,y≠k:=λy hy=>(B.rh (c:=(k,o)) (.head _) hy).symm;refine⟨⟨⟨B.nd,λc m=>?_,p.to (ne _ MK) B.g,he▸B.p,p.to (ne _ Od) B.t,p.to (ne _ GE) B.td,B.D.keep (p.ne (ne _ GG)) (p.ne (ne _ GH)),λb hb=>he▸(B.aS b hb).nv .refl (p.ne (ne _ (GI hb))) (p.ne (ne _ (GF hb)))⟩,λe h=>he▸X.ent e h⟩,he⟩;rcases Zp.mp m with rfl|m
 . exact p.at
 . have nk:c.1≠k:=λe=>(ZD.mp B.nd).1 (e▸Zd _ (Zn.mpr ⟨c,m,rfl⟩));exact p.to nk (B.vC c (Zh _ m))
structure lR(ai:ax)(ah:List Int)(js:List (Nat×Int))(k:Int)(n n':Int)(nb:List ax)(x:Last)(bW:List Ent):Prop where
 seq:∃i:Nat,n'=n+i/\nb.flatMap bY=et n i
 asc:(nb.map (·.aa)).Pairwise (· < ·)
 early:nb≠[]->n<60/\nb.length<=3/\∀b∈nb,b.aa<=n+4
 cnt:2*(nb.length:Int)<=n' - n+2
 vr:∀b∈nb,b.aH="cont"/\b.bK=ai.bK/\b.aw=ai.aa/\b.aM=[]/\b.ae= -1/\b.params.length<=1
 ents:bW.map (·.aa)=nb.map (·.aa)
 ent:∀e∈bW,∃b∈nb,e.ad=b.ad/\e.aa=b.aa/\(e.s=ah\/e.s=ah++b.params)/\∀p∈e.js,p∈js\/∃c∈nb,p=(c.ad,c.aa)
 shape:(x.bC="if"/\0<=x.fn/\0<=x.to/\0<=x.other/\x.args=[]/\x.ae= -1)\/(x.bC="jump"/\0<=x.to/\x.other= -1/\x.fn= -1/\x.ae= -1)\/
  (x.bC="give"/\0<=x.ae/\x.fn= -1/\x.to= -1/\x.other= -1)\/(x.bC="call"/\0<=x.fn/\x.other= -1/\((0<=x.to/\x.ae= -1)\/(x.to= -1/\0<=x.ae)))
 len:x.args.length<=1
 args:∀v∈x.args,v∈ah
 fn:x.fn= -1\/x.fn∈ah
 ae:x.ae= -1\/x.ae=k
 vp:∀t∈x.bf,t∈nb.map (·.aa)\/t∈js.map (·.2)
 call:x.bC="call"->0<=x.to->x.to∈nb.map (·.aa)
 Pe:∀e∈bW,e.js.length<=js.length+1
structure rW(ai:ax)(ah:List Int)(js:List (Nat×Int))(k:Int)(bs:List ax)(un:List Int)(n:Int)(es:List Ent)(eg:List ax)(gS:List Int)(n':Int)(gk:List Ent):Prop where
 ex:∃nb x bW,eg=fY (bs++nb) ai.aa x/\gS=(un++nb.map (·.aa)).filter (λl=>l != ai.aa)/\gk=es++bW/\lR ai ah js k n n' nb x bW
theorem TH.ag(X:TH h A bs un n es)(ho:ai∈bs)(lq:∀b∈bs,b.aa=ai.aa->b=ai){x:Last}(L:f_ (aY (ak A bs) h) x)(p:Put h ai.ad (.inst "KBlock" (mK ai (.ref x.ad))) h'):TH h' A (fY bs ai.aa x) (un.filter λl=>l != ai.aa) n es/\aY (ak A (fY bs ai.aa x)) h'=aY (ak A bs) h:=by
 have T:=X.bh.Dq ho lq L p;exact⟨⟨T.1,λe he=>T.2▸X.ent e he⟩,T.2⟩
theorem fU{m:Nat}:bI n "cont" m=n+1+m:=by unfold bI;rw[if_neg (by decide),Yy]
end
end
section
section
variable {Φ:Calls}{γ:String->Option V}{h h':Hp}{Q:V->Hp->Prop}
variable {A:Ad}{bs eg:List ax}{un gS:List Int}{n n':Int}{es gk:List Ent}{ai:ax}{ah:List Int}{js:List (Nat×Int)}
noncomputable abbrev jI(p:Nat×Int):V:=.ref p.1
noncomputable def Bl(ai:ax)(ah:List Int)(js:List (Nat×Int))(n:Int)(nb:List ax)(bW:List Ent)(known:List (Nat×Int))(n1:Int):Prop:=
 (nb=[]/\bW=[]/\known=js/\n1=n)\/∃b e,nb=[b]/\bW=[e]/\jK b n "cont" 1 ai.bK ai.aa/\n1=n+2/\known=js++[(b.ad,b.aa)]/\e.ad=b.ad/\e.aa=b.aa/\e.s=ah++b.params/\(e.js=js\/e.js=known)
theorem wD{nb:List ax}{bW zF:List Ent}{known:List (Nat×Int)}{n1 v k:Int}{w1 w2:ax}{a g:Nat}(J:Bl ai ah js n nb bW known n1)(n0:0<=n)(vz:n<60)(N1:jK w1 n1 "cont" 0 ai.bK ai.aa)(N2:jK w2 (n1+1) "cont" 0 ai.bK ai.aa)(hv:v∈ah)(v0:0<=v)
 (l3:zF.map (·.aa)=[w1,w2].map (·.aa)) (k3:∀e∈zF,∃b∈[w1,w2],e.ad=b.ad/\e.aa=b.aa/\e.js=known/\e.s=ah):lR ai ah js k n (n1+2) (nb++[w1,w2]) ⟨a,"if",v,[],g,w1.aa,w2.aa,-1⟩ (bW++zF):=by
 have j:n<=n1/\n1<=n+2/\(∃i:Nat,n1=n+i/\nb.flatMap bY=et n i)/\(nb.map (·.aa)).Pairwise (· < ·)/\(∀b∈nb,n<b.aa/\b.aa<=n1)/\nb.length<=1/\2*(nb.length:Int)<=n1 - n/\(∀b∈nb,b.aH="cont"/\b.bK=ai.bK/\b.aw=ai.aa/\b.aM=[]/\b.ae= -1/\b.params.length<=1)/\bW.map (·.aa)=nb.map (·.aa)/\
  (∀p∈known,p∈js\/∃c∈nb,p=(c.ad,c.aa))/\∀e∈bW,∃b∈nb,e.ad=b.ad/\e.aa=b.aa/\e.s=ah++b.params/\∀p∈e.js,p∈js\/p∈known:=by
  rcases J with ⟨rfl,rfl,rfl,rfl⟩|⟨b,e,rfl,rfl,N,rfl,rfl,e1,e2,e3,e4⟩
  . exact⟨Wt _,by exact(aj 0x120012010001) n1,⟨0,(Yy _).symm,rfl⟩,List.Pairwise.nil,(λ_ z=>nomatch z),ZS _,by simp only[Yj];exact(aj 0x1010130050240001) n1,(λ_ z=>nomatch z),rfl,λp hp=>.inl hp,λ_ z=>nomatch z⟩
  . refine⟨by exact(aj 0x120012010001) n,by exact(aj 0x120012200120001) n,⟨2,rfl,by rw[ZF,N.seq n0];rfl⟩,Z5 _ _,λc hc=>by rw[Zc.mp hc,N.aa];exact⟨(aj 0x110012011001) n,(aj 0x120012100120001) n⟩,Zs _,by simp only[Yg];omega,λc hc=>by rw[Zc.mp hc];exact⟨N.aH,by rw[N.bK,if_neg (by decide)],N.aw,N.aM,by rw[N.ae,if_neg (by decide)],by rw[N.params,Za,Z3];exact Zs _⟩,by rw[YI,YI,e2],λp hp=>?_,λc hc=>?_⟩
    . exact(Zg.mp hp).imp id λz=>⟨b,.head _,Zc.mp z⟩
    . rw[Zc.mp hc];refine⟨b,.head _,e1,e2,e3,λp hp=>?_⟩;rcases e4 with z|z<;>rw[z] at hp
      . exact .inl hp
      . exact .inr hp
 have jl:known.length<=js.length+1/\∀e∈bW,e.js.length<=js.length+1:=by
  rcases J with ⟨rfl,rfl,rfl,rfl⟩|⟨b,e,rfl,rfl,N,rfl,rfl,e1,e2,e3,e4⟩
  . exact⟨Yk _,λ_ z=>nomatch z⟩
  . refine⟨YJ Zb,λc hc=>?_⟩;rw[Zc.mp hc];rcases e4 with z|z<;>rw[z]
    . exact Yk _
    . exact YJ Zb
 refine oaaaaaaaaaa j λj1 j2 bU j4 j5 j6 j7 j8 j9 QA TN=>?_;try clear j;refine oea bU λi r_1 j3=>?_;try clear bU;subst r_1
 have kd:∀b∈[w1,w2],b.aH="cont"/\b.bK=ai.bK/\b.aw=ai.aa/\b.aM=[]/\b.ae= -1/\b.params.length<=1:=λb hb=>by
  rcases Zp.mp hb with rfl|hb
  . exact⟨N1.aH,by rw[N1.bK,if_neg (by decide)],N1.aw,N1.aM,by rw[N1.ae,if_neg (by decide)],by rw[N1.params];exact ZS _⟩
  . rw[Zc.mp hb];exact⟨N2.aH,by rw[N2.bK,if_neg (by decide)],N2.aw,N2.aM,by rw[N2.ae,if_neg (by decide)],by rw[N2.params];exact ZS _⟩
 have lb:∀b∈[w1,w2],n+(i:Int)<b.aa/\b.aa<=n+i+2:=λb hb=>by
  rcases Zp.mp hb with rfl|hb
  . rw[N1.aa];exact⟨(aj 0x11001501220150121011) n i,(aj 0x12001501221001501220011) n i⟩
  . rw[Zc.mp hb,N2.aa];exact⟨(aj 0x11010015012220150121011) n i,(aj 0x12001501221010015012220011) n i⟩
 refine⟨⟨i+2,by exact ZA ((aj 0x12001250122001501220011) n i) ((aj 0x12001501222001250120011) n i),?_⟩,?_,λ_=>⟨vz,by rw[Zb];exact ZP j6 2,λb hb=>?_⟩,by rw[Zb,Yn,Yg];exact(aj 0x1120012011501223210102012502400111501230150240121) n nb.length i j7,λb hb=>(Zg.mp hb).elim (j8 b) (kd b),by rw[Zq,Zq,j9,l3],λe he=>?_,.inl ⟨rfl,v0,by show (0:Int)<=w1.aa;rw[N1.aa];exact(aj 0x1110015012200001000111) n i n0,by show (0:Int)<=w2.aa;rw[N2.aa];exact(aj 0x1110100150122200001000111) n i n0,rfl,rfl⟩,ZS _,(λ_ z=>nomatch z),.inr hv,.inl rfl,λt ht=>?_,(λw=>absurd w (by show ¬ "if"="call";decide)),λe he=>(Zg.mp he).elim (jl.2 e) λz=>by refine oeaaaa (k3 e z) λb _ _ _ e3 _=>?_;rw[e3];exact jl.1⟩
 . rw[Zx,ZK,ZF,N1.seq (by exact(aj 0x1101501200001000111) n i n0),N2.seq (by exact(aj 0x1110015012200001000111) n i n0),j3,if_neg (by decide),show n+(i:Int)+1=n+i+((1:Nat):Int) from rfl,iK,iK]
 . rw[Zq];refine Ww.mpr ⟨j4,YF.mpr ⟨λx hx=>?_,Z5 _ _⟩,λx hx y hy=>?_⟩
   . rewrite [Zc.mp hx]
     show w1.aa<w2.aa;rw[N1.aa,N2.aa];exact(aj 0x11010015012221001501221011) n i
   . refine oea (Zn.mp hx) λb hb cu=>?_;subst cu;refine oea (Zn.mp hy) λc hc cY=>?_;subst cY;exact VU (j5 b hb).2 (lb c hc).1
 . rcases Zg.mp hb with hb|hb
   . have:=j5 b hb;exact(aj 0x10114001211001501211011011a200120150120212) n b.aa i j2 this
   . have:=lb b hb;exact(aj 0x101140012110200150122110110150121a200120150120212) n b.aa i j2 this
 . rcases Zg.mp he with he|he
   . refine oeaaaa (TN e he) λb hb e1 e2 e3 e4=>?_;exact⟨b,Zd _ hb,e1,e2,.inr e3,λp hp=>(e4 p hp).elim .inl λz=>(QA p z).imp id λlF=>oea lF λc hc e=>⟨c,Zd _ hc,e⟩⟩
   . refine oeaaaa (k3 e he) λb hb e1 e2 e3 e4=>?_;exact⟨b,Zi _ hb,e1,e2,.inl e4,λp hp=>(QA p (e3▸hp)).imp id λlE=>oea lE λc hc e=>⟨c,Zd _ hc,e⟩⟩
 . have w0:0<=w1.aa:=by rw[N1.aa];exact(aj 0x1110015012200001000111) n i n0
   have Su:0<=w2.aa:=by rw[N2.aa];exact(aj 0x1110100150122200001000111) n i n0
   have:t∈(if 0<=w1.aa then [w1.aa] else [])++(if 0<=w2.aa then [w2.aa] else []):=ht;rw[if_pos w0,if_pos Su] at this;refine .inl (Zn.mpr ?_);rcases Zp.mp this with rfl|z
   . exact⟨w1,Zi _ (.head _),rfl⟩
   . exact⟨w2,Zi _ (.tail _ (.head _)),(Zc.mp z).symm⟩
theorem sg(W:Wd Φ γ)(X:TH h A bs un n es)(ho:ai∈bs)(hn:∀b∈bs,b.aa<=n)(lq:∀b∈bs,b.aa=ai.aa->b=ai)(cG:bs.length<900)(n0:0<=n)(vz:n<60)(vD:es.length<900){sA jA:Nat}(hs:aY (ak A bs) h sA=some (iL ah))(s0:ah≠[])(sl:ah.length<=900)(sp:∀v∈ah,0<=v)
 (hj:aY (ak A bs) h jA=some (.list (js.map jI))) (jl:js.length<=900) {deep k:Int} {t:Bool}
 (q:∀h' eg gS n' gk,rW ai ah js k bs un n es eg gS n' gk->TH h' A eg gS n' gk->Ext (aY (ak A bs) h) (aY (ak A eg) h')->Q .none h'):
 Φ "_law_choice" [.ref A.dk,.ref A.g,.ref ai.ad,.ref sA,.ref jA,.ref A.td,.int deep,.bool t] h Q:=by
 refine W.cl rfl rfl ?_;have hj0:=bj.at hj;nofun;intro kA h1 A1;have X1:=X.lock A1;nofun;refine r_ifl W.aV (λh'=>∃nb bW known n1,TH h' (A.lock kA (.list (known.map jI))) (bs++nb) (un++nb.map (·.aa)) n1 (es++bW)/\Ext (aY (ak A bs) h) (aY (ak (A.lock kA (.list (known.map jI))) (bs++nb)) h')/\Bl ai ah js n nb bW known n1) (λw K hK=>?_) (λw K hK=>?_) λσ h2 q7=>oeeeeaa q7 λnb bW known n1 X2 E2 J=>?_
 . have JL:=(X1.1.bh.aS ai ho).self;nofun;refine eT W X1.1.bh hn (ZL cG (by decide)) (s:="cont") (m:=1) (by decide) λh2 b X2 E2 NB=>?_;have Y2:TH h2 _ _ _ _ es:=⟨X2,λe he=>(X1.1.ent e he).ext E2⟩;have B2:=X2.aS b (Zi _ (.head _));have b2:=B2.self;have SC:=Y2.EX;have s2:=bj.at (E2.at (X1.2.at hs));have M8:=bj.at B2.params;have pl:b.params.length<=1:=by rw[NB.params,Za,Z3];exact Zs _
   nofun;refine r_cati s2 M8 (Zf (ZR sl pl) (by decide)) λsB h3 A3=>?_;have Y3:=Y2.al A3;nofun;refine c_ W Y3.1.bh.D (by decide) (by decide) λh4 d _ _ fr D=>?_;have T4:=Y3.1.bh.ri fr D;have Y4:=Y3.1.to T4;have j4:=T4.2.at (Y3.2.1.at (E2.at (X1.2.at hj)));have TM:=bj.at j4;nofun;refine r_join (λh' v=>∃jB sY,v= .ref jB/\TH h' (A.lock kA (.list (js.map jI))) (bs++[b]) (un++[b.aa]) (bI n "cont" 1) es/\Ext (aY (ak (A.lock kA (.list (js.map jI))) (bs++[b])) h4) (aY (ak (A.lock kA (.list (js.map jI))) (bs++[b])) h')/\aY (ak (A.lock kA (.list (js.map jI))) (bs++[b])) h' jB=some (.list (sY.map jI))/\(sY=js\/sY=js++[(b.ad,b.aa)])) (λ_ K hK=>?_) (λ_ K hK=>?_) λh5 v xP=>oeeaaaa xP λjB sY ev Y5 E5 f5 NC=>?_
   . nofun;intro l h5 A5;have Y5:=Y4.al A5;refine r_cat (A5.ext.at TM) A5.at (Zf (ZR (Zf (YJ (Za ..)) jl) (Zs 1)) (by decide)) λjB h6 A6=>?_;have Y6:=Y5.1.al A6;exact r_done (hK _ _ ⟨jB,js++[(b.ad,b.aa)],rfl,Y6.1,Y5.2.1.trans Y6.2.1,by rw[Zq];exact Y6.2.2,.inr rfl⟩)
   . nofun;exact r_done (hK _ _ ⟨jA,js,rfl,Y4,.refl,j4,.inl rfl⟩)
   subst ev;nofun;intro e h6 A6;refine r_todo Y5 (ZL vD (by decide)) A6 b.aa (E5.at (T4.2.at Y3.2.2)) f5 λh7 Y7 E7=>?_;have k7:=Y7.bh.vC (kA,_) (.head _);nofun;refine r_app k7 (by rw[Za];exact Zk jl (by decide)) λh8 p8=>?_;have Y8:=Y7.Hl (o':=.list ((js++[(b.ad,b.aa)]).map jI)) (by rw[Zq];exact p8);refine r_done (hK _ h8 ⟨[b],_,js++[(b.ad,b.aa)],_,Y8.1,X1.2.trans (E2.trans (Y3.2.1.trans (T4.2.trans (E5.trans (Y8.2▸E7))))),.inr ⟨b,_,rfl,rfl,NB,by rw[fU];exact VK ..,rfl,rfl,rfl,rfl,NC⟩⟩)
 . exact r_done (hK _ h1 ⟨[],[],js,n,by rw[Zu,Vd,Zu,Zu];exact X1.1,by rw[Zu];exact X1.2,.inl ⟨rfl,rfl,rfl,rfl⟩⟩)
 have Jc:n<=n1/\(∀b∈nb,b.aa<=n1/\b.aa≠ai.aa)/\nb.length<=1/\bW.length<=1:=by
  rcases J with ⟨rfl,rfl,rfl,rfl⟩|⟨b,e,rfl,rfl,N,rfl,_⟩
  . exact⟨Wt _,(λ_ z=>nomatch z),ZS _,ZS _⟩
  . exact⟨by exact(aj 0x120012010001) n,λc hc=>by
     have:=hn ai ho;rw[Zc.mp hc,N.aa];exact⟨(aj 0x120012100120001) n,λcx=>(aj 0x11b0110112211010202) ai.aa n this cx⟩,Zs _,Zs _⟩
 have zQ:ai∈bs++nb:=Zd _ ho;nofun;refine m_ W (s:="cont") (m:=0) (bK:=ai.bK) (aw:=ai.aa) X2 (by decide) (λb hb=>(Zg.mp hb).elim (λz=>V4 (hn b z) Jc.1) λz=>(Jc.2.1 b z).1) (by rw[Zb];exact ZL (Nat.add_lt_add_of_lt_of_le cG Jc.2.2.1) (by decide)) (λx h3 zG un3 n3 Y sub K hK=>?_) λpa h3 w1 w2 X3 E3 N1 N2 fp=>?_
 . have:=(Y.bh.aS ai (sub ai zQ)).self;nofun;exact hK _ λv h2 k=>r_done_val k
 have U:=X3.unlock;have Mq:=U.2.1.at (E3.at (E2.at hs));have Jo:=U.2.1.at fp;have Px:=bj.at Jo;have Oq:=E2.trans (E3.trans U.2.1);have X4:=U.1;have k4:=U.2.2;rw[show bI (bI n1 "cont" 0) "cont" 0=n1+2 by rw[fU,fU];exact ZA ((aj 0x12001200510005100122220001) n1) ((aj 0x10051000510012222200120001) n1)] at X4;rw[show bI n1 "cont" 0=n1+1 by rw[fU];exact ZA ((aj 0x1100120051001220001) n1) ((aj 0x1005100122100120001) n1)] at N2
 revert X4 Mq Jo Oq k4
 clear U X3 E3 fp;intro Mq Jo Oq X4 k4;nofun;refine bN W.aV (λb:ax=>V.ref b.ad) [w1,w2] (λd _ h'=>∃zF,TH h' A (bs++nb++[w1,w2]) (un++nb.map (·.aa)++[w1.aa,w2.aa]) (n1+2) (es++bW++zF)/\Ext (aY (ak A (bs++nb++[w1,w2])) h3) (aY (ak A (bs++nb++[w1,w2])) h')/\zF.map (·.aa)=d.map (·.aa)/\∀e∈zF,∃b∈[w1,w2],e.ad=b.ad/\e.aa=b.aa/\e.js=known/\e.s=ah)
  Px ⟨[],by rw[Zu];exact X4,.refl,rfl,λ_ z=>nomatch z⟩ (λd ρ h' xO=>oeaa xO λ_ _ E _=>bj.at (E.at Jo)) ?_ ?_
 . intro d b rr σ h9 hd hb z_ K hK _;refine oeaaa z_ λzF Y9 E9 l9 k9=>?_;have SA:=Y9.EX;have ll:(es++bW++zF).length<1000:=by
    have h1:=congrArg List.length l9;have h2:=congrArg List.length hd;rw[Za,Za] at h1;rw[Zb] at h2;rw[Zb,Zb,h1];exact Zk (ZR (ZO Jc.2.2.2 _) (Zf (ZE _ _) (YJ h2))) (ZL (Xu (Xu vD 1) 2) (by decide))
   nofun;intro e Ep zV;refine r_todo Y9 ll zV b.aa (E9.at Mq) (E9.at k4) λzE Of On=>?_;refine r_done (hK _ zE ⟨zF++[⟨e,b.ad,b.aa,sA,ah,kA,known,deep+1⟩],by rw[<-Zo];exact Of,E9.trans On,by rw[Zq,Zq,l9];rfl,λe' he=>?_⟩);rcases Zg.mp he with he|he
   . exact k9 e' he
   . rw[Zc.mp he];exact⟨b,hb,rfl,rfl,rfl,rfl⟩
 intro σ h9 z_;refine oeaaa z_ λzF Y9 E9 l9 k9=>?_;nofun;refine Y9.one W (E9.at Mq) s0 sl λio v hv xW MR=>?_;have Iz:ai∈bs++nb++[w1,w2]:=Zd _ zQ;have m1:=(xW.bh.aS w1 (Zi _ (.head _))).self;have m2:=(xW.bh.aS w2 (Zi _ (.tail _ (.head _)))).self;have fp10:=bj.at (MR.at (E9.at Jo));have L0:dm [V.ref w1.ad,.ref w2.ad] 0=some (.ref w1.ad):=rfl;have IT:dm [V.ref w1.ad,.ref w2.ad] 1=some (.ref w2.ad):=rfl;nofun;refine qj W λs_ a g Rp L=>?_;have C7:=xW.ext Rp;have Sb:=(C7.bh.aS ai Iz).self;nofun;intro q9 CP;have Sw:∀c∈bs++nb++[w1,w2],c.aa=ai.aa->c=ai:=λc hc e=>by
  have:=hn ai ho;rcases Zg.mp hc with hc|hc
  . exact(Zg.mp hc).elim (λz=>lq c z e) λz=>absurd e (Jc.2.1 c z).2
  . rcases Zp.mp hc with rfl|hc
    . rw[N1.aa] at e;omega
    . rw[Zc.mp hc,N2.aa] at e;omega
 have FD:=C7.ag Iz Sw (L.ext xW.bh.news) CP;refine r_done_ret (q q9 _ _ _ _ ⟨nb++[w1,w2],_,bW++zF,by rw[<-Zo],by rw[Zq,<-Zo];rfl,by rw[<-Zo],wD (a:=a) (g:=g) J n0 vz N1 N2 hv (sp v hv) l9 k9⟩ FD.1 (Oq.trans (E9.trans (MR.trans (FD.2▸bu (λ_=>.inl) Rp)))))
end
end
section
section
variable {Φ:Calls}{γ:String->Option V}{h h':Hp}{Q:V->Hp->Prop}
variable {A:Ad}{bs eg:List ax}{un gS:List Int}{n n':Int}{es gk:List Ent}{ai:ax}{ah:List Int}{js:List (Nat×Int)}
theorem TH.block(W:Wd Φ γ)(X:TH h A bs un n es)(nd:(bs.map (·.aa)).Nodup){y:ax}(hy:y∈bs)(q:Q (.ref y.ad) h):Φ "KProgram.block" [.ref A.p,.int y.aa] h Q:=by
 refine W.cl rfl rfl ?_;have p:=bj.at X.bh.p;have t:=X.bh.t;have l:(bs.map λb=>(b.aa,V.ref b.ad)).lookup y.aa=some (.ref y.ad):=cW (p:=(y.aa,V.ref y.ad)) (by rw[Zt];exact nd) (Zn.mpr ⟨y,hy,rfl⟩);nofun;exact q
theorem Gw{x:Last}{k:Int}(s:(x.bC="jump"/\0<=x.to/\x.other= -1/\x.fn= -1/\x.ae= -1)\/(x.bC="give"/\0<=x.ae/\x.fn= -1/\x.to= -1/\x.other= -1)\/(x.bC="call"/\0<=x.fn/\x.other= -1/\x.to= -1/\0<=x.ae))
 (len:x.args.length<=1) (args:∀v∈x.args,v∈ah) (fn:x.fn= -1\/x.fn∈ah) (ae:x.ae= -1\/x.ae=k) (vp:0<=x.to->x.to∈js.map (·.2)):lR ai ah js k n n [] x []:=by
 have so:x.other= -1:=by rcases s with ⟨_,_,s,_⟩|⟨_,_,_,_,s⟩|⟨_,_,s,_⟩<;>exact s
 refine⟨⟨0,(Yy _).symm,rfl⟩,List.Pairwise.nil,λz=>absurd rfl z,by simp only[Yj];exact(aj 0x1200101320050240001) n,(λ_ z=>nomatch z),rfl,(λ_ z=>nomatch z),?_,len,args,fn,ae,λt ht=>.inr ?_,λw z=>?_,(λ_ z=>nomatch z)⟩
 . rcases s with s|s|⟨a,b,c,d,e⟩
   . exact .inr (.inl s)
   . exact .inr (.inr (.inl s))
   . exact .inr (.inr (.inr ⟨a,b,c,.inr ⟨d,e⟩⟩))
 . unfold Last.bf at ht;rw[so,if_neg (show ¬ (0:Int)<= -1 by decide),Zu] at ht;split at ht
   . rw[Zc.mp ht];exact vp (by assumption)
   . cases ht
 . rcases s with ⟨s,_⟩|⟨s,_⟩|⟨_,_,_,s,_⟩
   . rw[s] at w;exact absurd w (by decide)
   . rw[s] at w;exact absurd w (by decide)
   . rw[s] at z;exact absurd z (by decide)
theorem Cg{b:ax}{v w k:Int}{a g e sB jA:Nat}{d:Int}(N:jK b n "cont" 1 ai.bK ai.aa)(n0:0<=n)(vz:n<60)(hv:v∈ah)(v0:0<=v)(hw:w∈ah):
 lR ai ah js k n (n+2) [b] ⟨a,"call",v,[w],g,b.aa,-1,-1⟩ [⟨e,b.ad,b.aa,sB,ah++b.params,jA,js,d⟩]:=by
 have l0:0<=b.aa:=by rw[N.aa];exact(aj 0x111001200001000101) n n0
 refine⟨⟨2,rfl,by rw[ZF,N.seq n0];rfl⟩,Z5 _ _,λ_=>⟨vz,(by decide:1<=3),λc hc=>by rw[Zc.mp hc,N.aa];exact(aj 0x140012100120001) n⟩,by simp only[Yg];omega,λc hc=>by
  rw[Zc.mp hc];exact⟨N.aH,by rw[N.bK,if_neg (by decide)],N.aw,N.aM,by rw[N.ae,if_neg (by decide)],by rw[N.params,Za,Z3];exact Zs _⟩,rfl,λc hc=>?_,.inr (.inr (.inr ⟨rfl,v0,rfl,.inl ⟨l0,rfl⟩⟩)),Zs _,λx hx=>Zc.mp hx▸hw,.inr hv,.inl rfl,λt ht=>.inl ?_,(λ_ _=>.head _),λc hc=>by rw[Zc.mp hc];exact Yk _⟩
 . rw[Zc.mp hc];exact⟨b,.head _,rfl,rfl,.inr rfl,λp hp=>.inl hp⟩
 . have:t∈(if 0<=b.aa then [b.aa] else [])++(if (0:Int)<= -1 then [-1] else []):=ht;rw[if_pos l0,if_neg (by decide)] at this;exact this
theorem yR(W:Wd Φ γ)(X:TH h A bs un n es)(ho:ai∈bs)(nd:(bs.map (·.aa)).Nodup)(hn:∀b∈bs,b.aa<=n)(lq:∀b∈bs,b.aa=ai.aa->b=ai)(cG:bs.length<900)(n0:0<=n)(vD:es.length<900){sA jA:Nat}(hs:aY (ak A bs) h sA=some (iL ah))(s0:ah≠[])(sl:ah.length<=900)(sp:∀v∈ah,0<=v)
 (hj:aY (ak A bs) h jA=some (.list (js.map jI))) (jl:js.length<=900) (NC:∀p∈js,∃c∈bs,c.ad=p.1/\c.aa=p.2/\0<=p.2) {y:ax} (hy:y∈bs) (yh:y.aa=ai.bK) (y0:0<=y.ae) {deep:Int}
 (q:∀h' eg gS n' gk,rW ai ah js y.ae bs un n es eg gS n' gk->TH h' A eg gS n' gk->Ext (aY (ak A bs) h) (aY (ak A eg) h')->Q .none h'):
 Φ "_law_end" [.ref A.dk,.ref A.g,.ref ai.ad,.ref sA,.ref jA,.ref A.td,.int deep] h Q:=by
 refine W.cl rfl rfl ?_;have Gy:∀{h1 h2 h3:Hp} {x:Last},TH h1 A bs un n es->Ext (aY (ak A bs) h) (aY (ak A bs) h1)->Ext h1 h2->f_ (news h1 h2) x->Put h2 ai.ad (.inst "KBlock" (mK ai (.ref x.ad))) h3->lR ai ah js y.ae n n [] x []->Q .none h3:=λX1 E1 e L p F=>by
  have T:=(X1.ext e).ag ho lq (L.ext X1.bh.news) p;exact q _ _ _ _ _ ⟨[],_,[],by rw[Zu],by rw[Vd,Zu],by rw[Zu],F⟩ T.1 (E1.trans (T.2▸bu (λ_=>.inl) e))
 have g:=X.bh.g;have IT:=@qB (.ref A.p) (.int n) [];have L0:=@wV (.ref A.p) [.int n];nofun;refine r_and (decide (deep<6)) (λ_ K hK=>?_) ?_
 . nofun;exact r_done hK
 refine r_join (λh' v=>h=h'/\∃mn,v= .int mn/\0<mn/\mn<1000/\(n<60\/mn=3)) (λw K hK=>?_) (λw K hK=>?_) λh' v lF=>oaeaaa lF λe mn ev m0 m1 m2=>?_
 . nofun;exact r_done (hK _ _ ⟨rfl,6,rfl,by decide,by decide,.inl (of_decide_eq_true (Zj.mp w).1)⟩)
 . nofun;exact r_done (hK _ _ ⟨rfl,3,rfl,by decide,by decide,.inr rfl⟩)
 subst e ev;nofun;refine c_ W X.bh.D m0 m1 λh1 way w0 w1 fr D=>?_;have T1:=X.bh.ri fr D;have X1:=X.to T1;have JL:=(X1.bh.aS ai ho).self;have g1:=X1.bh.g;have p1:=bj.at X1.bh.p;have y1:=(X1.bh.aS y hy).self;have Fh:=T1.2.at hs;have Mv:=T1.2.at hj;have hj1':=bj.at Mv;nofun;rw[<-yh];refine X1.block W nd hy ?_;nofun;refine r_ite (λw2=>?_) λw2=>?_
 . nofun;refine X1.one W Fh s0 sl λh2 v hv X2 E2=>?_;nofun;refine X2.one W (E2.at Fh) s0 sl λh3 w hw X3 E3=>?_;nofun;intro l h4 A4;have X4:=X3.al A4;nofun;refine mX W (as:=[w]) A4.at λh5 a g' e5 L=>?_;have Gg:=e5.at (X4.1.bh.aS ai ho).self;nofun;intro h6 p6;exact r_done_sq (Gy X4.1 (T1.2.trans (E2.trans (E3.trans X4.2.1))) e5 L p6 (Gw (.inr (.inr ⟨rfl,sp v hv,rfl,rfl,y0⟩)) (Zs 1) (λx hx=>Zc.mp hx▸hw) (.inr hv) (.inr rfl) λz=>absurd z (by show ¬ (0:Int)<= -1;decide)))
 nofun;refine r_and (js.map jI |>.isEmpty |> λt=>(t != true)) (λ_ K hK=>?_) ?_
 . nofun;exact r_done hK
 refine r_ite (λw3=>?_) λw3=>?_
 . have TK:js≠[]:=λe=>by
    rw[e] at w3;exact Bool.noConfusion (w3.symm.trans (XX _))
   have TL:0<js.length:=VE.mpr TK;nofun;rw[Za];refine c_ W X1.bh.D (YT.mpr TL) (YT.mpr (Zk jl (by decide))) λh2 d d0 d1 IH D2=>?_;have T2:=X1.bh.ri IH D2;have X2:=X1.to T2;obtain ⟨i,hi,sq⟩:∃i:Nat,∃hi:i<js.length,dm (js.map jI) (-1 - d)=some (jI js[i]):=by
    refine⟨(-1 - d+js.length).toNat,by omega,?_⟩;unfold dm;rw[if_neg (by exact λcx=>(aj 0x11b0119300001000201) d d0 cx),Za,if_pos (by exact(aj 0x11015011932000015011111) d js.length d1),ZQ,Zv (by omega)]
    rfl
   have jm:js[i]∈js:=Yz hi;refine oeaaa (NC _ jm) λc hc c1 c2 c3=>?_;have hj2:=bj.at (T2.2.at Mv);have cs:=(X2.bh.aS c hc).self;replace sq:dm (js.map jI) (-1 - d)=some (.ref c.ad):=by rw[c1];exact sq
   nofun;refine X2.one W (T2.2.at Fh) s0 sl λh3 w hw X3 E3=>?_;nofun;intro l h4 A4;have X4:=X3.al A4;nofun;refine uR W (as:=[w]) A4.at λh5 a g' e5 L=>?_;have Gg:=e5.at (X4.1.bh.aS ai ho).self;nofun;intro h6 p6;exact r_done_sq (Gy X4.1 (T1.2.trans (T2.2.trans (E3.trans X4.2.1))) e5 L p6 (Gw (.inl ⟨rfl,by show 0<=c.aa;rw[c2];exact c3,rfl,rfl,rfl⟩) (Zs 1) (λx hx=>Zc.mp hx▸hw) (.inl rfl) (.inl rfl) λ_=>Zn.mpr ⟨_,jm,c2.symm⟩))
 have vz:3<=way->n<60:=λz=>by exact m2.elim (λMY=>(aj 0x11003c6011003c6011101) n MY) λMY=>(aj 0x1110003c6211301120130011011303) way mn n w1 z MY
 nofun;refine r_ite (λw4=>?_) λw4=>?_
 . have n6:=vz (by rw[beq_iff_eq.mp w4];decide);nofun;refine eT W X1.bh hn (ZL cG (by decide)) (s:="cont") (m:=1) (by decide) λh2 b X2 E2 NB=>?_;have Y2:TH h2 A _ _ _ es:=⟨X2,λe he=>(X1.ent e he).ext E2⟩;have hb:b∈bs++[b]:=Zi _ (.head _);have zQ:ai∈bs++[b]:=Zd _ ho;have B2:=X2.aS b hb;have b2:=B2.self;have SC:=Y2.EX;have s2:=bj.at (E2.at Fh);have M8:=bj.at B2.params;have pl:b.params.length<=1:=by rw[NB.params,Za,Z3];exact Zs _
   nofun;refine r_cati s2 M8 (Zf (ZR sl pl) (by decide)) λsB h3 A3=>?_;have Y3:=Y2.al A3;nofun;intro e h4 A4;refine r_todo Y3.1 (ZL vD (by decide)) A4 b.aa Y3.2.2 (Y3.2.1.at (E2.at Mv)) λh5 Y5 E5=>?_;have S5:=E5.at (Y3.2.1.at (E2.at Fh));nofun;refine Y5.one W S5 s0 sl λh6 v hv Y6 E6=>?_;nofun;refine Y6.one W (E6.at S5) s0 sl λh7 w hw Y7 E7=>?_;nofun;intro l h8 A8;have Y8:=Y7.al A8;have b8:=(Y8.1.bh.aS b hb).self;nofun;refine mX W (as:=[w]) A8.at λh9 a g' e9 L=>?_;have own9:=e9.at (Y8.1.bh.aS ai zQ).self;nofun;intro io nN;have Ik:∀c∈bs++[b],c.aa=ai.aa->c=ai:=λc hc e=>(Zg.mp hc).elim (λz=>lq c z e) λz=>by
    have:=hn ai ho;rw[Zc.mp z,NB.aa] at e;exact False.elim ((aj 0x101b0111011100122202) n ai.aa e this)
   have T:=(Y8.1.ext e9).ag zQ Ik (L.ext Y8.1.bh.news) nN;rw[show bI n "cont" 1=n+2 by rw[fU];exact VK ..] at T;exact r_done_sq (q _ _ _ _ _ ⟨[b],_,_,rfl,rfl,rfl,Cg NB n0 n6 hv (sp v hv) hw⟩ T.1 (T1.2.trans (E2.trans (Y3.2.1.trans (E5.trans (E6.trans (E7.trans (Y8.2.1.trans (T.2▸bu (λ_=>.inl) e9)))))))))
 nofun;refine r_ite (λw5=>?_) λw5=>?_
 . nofun;refine sg W X1 ho hn lq cG n0 (vz (Xz (of_decide_eq_true w5))) vD Fh s0 sl sp Mv jl (k:=y.ae) λh' eg gS n' gk S Y E=>?_;nofun;exact q h' eg gS n' gk S Y (T1.2.trans E)
 nofun;refine X1.one W Fh s0 sl λh3 w hw X3 E3=>?_;nofun;intro l h4 A4;have X4:=X3.al A4;nofun;refine uT W (as:=[w]) A4.at λh5 a g' e5 L=>?_;have Gg:=e5.at (X4.1.bh.aS ai ho).self;nofun;intro h6 p6;exact r_done_sq (Gy X4.1 (T1.2.trans (E3.trans X4.2.1)) e5 L p6 (Gw (.inr (.inl ⟨rfl,y0,rfl,rfl,rfl⟩)) (Zs 1) (λx hx=>Zc.mp hx▸hw) (.inl rfl) (.inr rfl) λz=>absurd z (by show ¬ (0:Int)<= -1;decide)))
end
end
section
structure Alike(b b':ax):Prop where
 aa:b'.aa=b.aa
 ad:b'.ad=b.ad
 aH:b'.aH=b.aH
 params:b'.params=b.params
 ae:b'.ae=b.ae
 bK:b'.bK=b.bK
 aw:b'.aw=b.aw
 aM:∀o∈b.aM,o∈b'.aM
noncomputable def Le(bs eg:List ax):Prop:=∀b∈bs,∃b'∈eg,Alike b b'
theorem Alike.res{b b':ax}(a:Alike b b'){v:Int}(h:v∈cX b):v∈cX b':=oea (Zm.mp h) λo ho hv=>Zm.mpr ⟨o,a.aM o ho,hv⟩
section
variable {bs eg:List ax}{ah e_ js sY:Int->List Int}{b:ax}
theorem Ju.le{o:Op}(x:Ju bs ah b o)(L:Le bs eg){b':ax}(a:Alike b b')(s:e_ b.aa=ah b.aa):Ju eg e_ b' o:=
 ⟨x.shape,x.cst,x.neg,x.len,λv hv=>⟨(x.args v hv).1,by rw[a.aa,s];exact(x.args v hv).2.imp id a.res⟩,λt ht=>by
  refine oeaaa (x.aT t ht) λc hc c1 c2 c3=>?_;refine oea (L c hc) λc' ip A=>?_;exact⟨c',ip,A.aa.trans c1,A.aH.trans c2,by rw[A.aw,c3,a.aa]⟩⟩
theorem zI.le(x:zI bs ah js b)(L:Le bs eg)(hs:∀c∈bs,e_ c.aa=ah c.aa/\sY c.aa=js c.aa)(hb:b∈bs){b':ax}(a:Alike b b')(dq:b'.aM.length<=3)(aM:∀o∈b'.aM,Ju eg e_ b' o)(Cz:(b'.aM.flatMap (·.aT)).Nodup):zI eg e_ sY b':=by
 refine oa (hs b hb) λh1 h2=>?_;refine⟨a.aH▸x.aH,a.aa▸x.ch,λs=>a.ae▸x.fvar (a.aH▸s),λs=>a.ae▸x.cvar (a.aH▸s),λe=>by rw[a.aH,a.aw];exact x.ent (a.aa▸e),λe=>?_,?_,λs=>by rw[a.bK,a.aa];exact x.w7 (a.aH▸s),λs=>?_,a.params▸x.np,λv hv=>?_,?_,λt ht=>?_,dq,aM,Cz⟩
 . refine oeaa (x.par (a.aa▸e)) λp hp p1 p2=>?_;refine oea (L p hp) λp' kC A=>?_;exact⟨p',kC,by rw[A.aa,p1,a.aw],by rw[A.aa,a.aa];exact p2⟩
 . refine oeaa x.bK λy hy y1 y2=>?_;refine oea (L y hy) λy' wS A=>?_;exact⟨y',wS,by rw[A.aa,y1,a.bK],A.aH.trans y2⟩
 . refine oaeaa (x.Aw (a.aH▸s)) λbU y hy y1 y2=>?_;refine oeaa bU λp hp p1 p2=>?_;try clear bU
   refine oea (L p hp) λp' kC A=>?_;refine oea (L y hy) λy' wS B=>?_;exact⟨⟨p',kC,by rw[A.aa,p1,a.aw],by rw[A.bK,p2,a.bK]⟩,y',wS,by rw[B.aa,y1,a.bK],by rw[B.ae];exact y2⟩
 . rw[a.aa,h1] at hv;rw[a.params,a.aa,a.aw];refine(x.wX v hv).imp id (Or.imp id λlE=>oaeaa lE λn p hp p1 p2=>⟨n,?_⟩);refine oea (L p hp) λp' kC A=>?_;exact⟨p',kC,A.aa.trans p1,by rw[A.aa,(hs p hp).1];exact p2.imp id A.res⟩
 . rw[a.aa,h1,a.params];exact x.Ex
 . rw[a.aa,h2] at ht;refine oaaeaaa (x.Iu t ht) λk1 k2 c hc c1 c2 c3=>?_;refine oea (L c hc) λc' ip A=>?_;refine⟨a.aH.trans k1,k2,c',ip,A.aa.trans c1,A.aH.trans c2,?_⟩;rw[A.aw,a.aw];refine c3.imp id λq7=>oeaa q7 λp hp p1 p2=>?_;refine oea (L p hp) λp' kC B=>?_;exact⟨p',kC,B.aa.trans p1,by rw[B.aa,(hs p hp).2];exact p2⟩
theorem IK.le(x:IK bs ah js b)(L:Le bs eg)(h1:e_ b.aa=ah b.aa)(h2:sY b.aa=js b.aa){b':ax}(a:Alike b b')(e:b'.ag=b.ag):IK eg e_ sY b':=by
 refine⟨e▸x.shape,e▸x.len,λv hv=>?_,λf=>?_,e▸x.neg,λf=>?_,λt ht=>?_,λw f=>?_⟩
 . rw[e] at hv;rw[a.aa,h1];exact⟨(x.args v hv).1,(x.args v hv).2.imp id a.res⟩
 . rw[e] at f ⊢;rw[a.aa,h1];exact(x.fn f).imp id a.res
 . rw[e] at f ⊢;refine oeaa (x.ae f) λy hy y1 y2=>?_;refine oea (L y hy) λy' wS A=>?_;exact⟨y',wS,by rw[A.aa,y1,a.bK],by rw[A.ae];exact y2⟩
 . rw[e] at ht;refine oeaaa (x.vp t ht) λc hc c1 c2 c3=>?_;refine oea (L c hc) λc' ip A=>?_;exact⟨c',ip,A.aa.trans c1,A.aH.trans c2,by rw[A.aw,a.aa,h2];exact c3⟩
 . rw[e] at w f ⊢;refine oeaa (x.call w f) λc hc c1 c2=>?_;refine oea (L c hc) λc' ip A=>?_;exact⟨c',ip,A.aa.trans c1,by rw[A.aw,c2,a.aa]⟩
end
end
section
noncomputable def nS(bs:List ax):Nat:=(bs.flatMap λb=>b.aM.filter aK).length
structure LV(bs:List ax)(n:Int)(ah js:Int->List Int)(e:Ent):Prop where
 aS:∃b∈bs,e.ad=b.ad/\e.aa=b.aa
 s:ah e.aa=e.s
 js:js e.aa=e.js.map (·.2)
 jb:∀p∈e.js,∃c∈bs,c.ad=p.1/\c.aa=p.2
 ne:e.s≠[]
 pos:∀v∈e.s,1<=v/\v<=n
 sl:(e.s.length:Int)<=7*e.aa
 jl:(e.js.length:Int)<=e.aa
structure Wf(bs:List ax)(un:List Int)(n:Int)(es:List Ent)(cur c:Int)(ah js:Int->List Int):Prop where
 asc:(bs.map (·.aa)).Pairwise (· < ·)
 nums:(bs.flatMap bY).Nodup
 EZ:∀b∈bs,∀x∈bY b,1<=x/\x<=n
 ent:∃b∈bs,b.aa=1
 three:∃b∈bs,∃o∈b.aM,aK o=true/\o.result=3
 ok:∀b∈bs,zI bs ah js b
 ag:∀b∈bs,b.aa∉un->IK bs ah js b
 Ij:un.Nodup
 Eg:∀l∈un,∃b∈bs,b.aa=l
 cG:∀b∈bs,b.aa∈un->b.aa≠cur->b.aM.length<=1
 cnt:(nS bs:Int)+2*un.length<=n
 bq:(nS bs:Int)+2*un.length<=63+c
 lst:un.filter (λl=>l != cur)=es.map (·.aa)
 ents:∀e∈es,LV bs n ah js e
section
variable {bs eg:List ax}{un gS:List Int}{n n':Int}{es gk:List Ent}{cur c:Int}{ah js:Int->List Int}
theorem yW{P:aI}:(simple P).length=nS P.ap:=by
 unfold simple nS aI.aM;rw[Za,VD]
theorem Wf.ch(X:Wf bs un n es cur c ah js){b:ax}(hb:b∈bs):1<=b.aa/\b.aa<=n:=X.EZ b hb b.aa Ze
theorem Wf.uniq(X:Wf bs un n es cur c ah js){a b:ax}(ha:a∈bs)(hb:b∈bs)(e:a.aa=b.aa):a=b:=iE (X.asc.imp λh=>Yd h) ha hb e
theorem Wf.len(X:Wf bs un n es cur c ah js):bs.length<=63:=by
 have:=xM X.asc (k:=63) λx hx=>by
  refine oea (Zn.mp hx) λb hb bU=>?_;subst bU;exact(X.ok b hb).ch
 rwa [Za] at this
theorem Wf.fin(X:Wf bs [] n es cur c ah js)(c0:c<=0){a t:Nat}:Built ⟨a,t,bs⟩ ah js:=by
 refine⟨X.asc,X.ent,?_,X.nums,λb hb x hx=>(X.EZ b hb x hx).1,?_,X.ok,λb hb=>X.ag b hb λz=>nomatch z⟩
 . refine oeaeaa X.three λb hb o ho h1 h2=>?_;exact Zn.mpr ⟨o,ZH.mpr ⟨Zm.mpr ⟨b,hb,ho⟩,h1⟩,h2⟩
 . rw[yW];have:=X.bq;have:(nS bs:Int)+2*(([]:List Int).length:Int)<=63+c:=this;rw[Yj] at this;show nS bs<64;exact(aj 0x1110040601401003f620050240152000010211) _ _ c0 this
end
end
section
noncomputable def cS(bW:List Ent)(ah:Int->List Int)(l:Int):List Int:=match bW.find? (λe=>e.aa==l) with
 |some e=>e.s
 |none=>ah l
noncomputable def pZ(bW:List Ent)(js:Int->List Int)(l:Int):List Int:=match bW.find? (λe=>e.aa==l) with
 |some e=>e.js.map (·.2)
 |none=>js l
section
variable {bs eg nb:List ax}{un gS:List Int}{n n':Int}{es gk bW:List Ent}{cur c:Int}{ah js:Int->List Int}
theorem pG:∀{bW:List Ent},(bW.map (·.aa)).Pairwise (· < ·)->∀{e:Ent},e∈bW->bW.find? (λx=>x.aa==e.aa)=some e
 |[],_,e,h=>nomatch h
 |y::bW,p,e,h=>by
  rw[Zw,YF] at p;rcases Zp.mp h with rfl|h
  . rw[YY,beq_self_eq_true]
  . rw[YY,beq_false_of_ne (Yd (p.1 _ (ZG h)))];exact pG p.2 h
theorem find_none{l:Int}(h:∀e∈bW,e.aa≠l):bW.find? (λx=>x.aa==l)=none:=VN.mpr λe he z=>h e he (beq_iff_eq.mp z)
theorem jv(p:(bW.map (·.aa)).Pairwise (· < ·)){e:Ent}(he:e∈bW):cS bW ah e.aa=e.s/\pZ bW js e.aa=e.js.map (·.2):=by
 unfold cS pZ;rw[pG p he];exact⟨rfl,rfl⟩
theorem lT{l:Int}(h:∀e∈bW,e.aa≠l):cS bW ah l=ah l/\pZ bW js l=js l:=by
 unfold cS pZ;rw[find_none h];exact⟨rfl,rfl⟩
theorem v4{l:Int}{f:ax->ax}(h:∀b,Alike b (f b)):Le bs (chg (bs++nb) l f):=λb hb=>by
 by_cases z:b.aa=l
 . exact⟨f b,dE.mpr ⟨b,Zd _ hb,(if_pos z).symm⟩,h b⟩
 . exact⟨b,dE.mpr ⟨b,Zd _ hb,(if_neg z).symm⟩,rfl,rfl,rfl,rfl,rfl,rfl,rfl,λ_ z=>z⟩
theorem py{l:Int}{f:ax->ax}(h:∀b,(f b).aa=b.aa):(chg bs l f).map (·.aa)=bs.map (·.aa):=by
 unfold chg;rw[Zt];refine Yo λb _=>?_;show (if b.aa=l then f b else b).aa=b.aa;split
 . exact h b
 . rfl
theorem uE{l:Int}{f:ax->ax}(h:∀b∈bs,b.aa≠l):chg bs l f=bs:=by
 unfold chg;exact(Yo λb hb=>if_neg (h b hb)).trans (Vq _)
theorem qW(nd:(bs.map (·.aa)).Nodup){ai:ax}(ho:ai∈bs):∃l1 l2,bs=l1++ai::l2/\∀f,chg bs ai.aa f=l1++f ai::l2:=by
 refine oee (List.append_of_mem ho) λl1 l2 bU=>?_;subst bU;refine⟨l1,l2,rfl,λf=>?_⟩;rw[Zq,Zw,ZJ,ZD] at nd;have h1:chg l1 ai.aa f=l1:=uE λb hb e=>nd.2.2 _ (ZG hb) _ Ze e;have h2:chg l2 ai.aa f=l2:=uE λb hb e=>nd.2.1.1 (e▸ZG hb);unfold chg at h1 h2 ⊢;rw[Zq,Zw,h1,h2,if_pos rfl]
theorem t_(nd:(bs.map (·.aa)).Nodup){ai:ax}(ho:ai∈bs){f:ax->ax}{x:List Int}(hf:bY (f ai)=bY ai++x):((chg bs ai.aa f).flatMap bY).Perm (bs.flatMap bY++x):=by
 refine oeea (qW nd ho) λl1 l2 e1 e2=>?_;rw[e2,e1,Zx,ZK,Zx,ZK,hf,Zo,Zo,Zo];exact(Vo _ (Vo _ List.perm_append_comm))
theorem qO:nS (bs++nb)=nS bs+nS nb:=by
 unfold nS;rw[Zx,Zb]
theorem AU(h:∀b∈nb,b.aM=[]):nS nb=0:=by
 unfold nS;rw[XS,List.flatMap_eq_nil_iff];intro b hb;rw[h b hb];rfl
theorem AV(nd:(bs.map (·.aa)).Nodup){ai:ax}(ho:ai∈bs){f:ax->ax}{k:Nat}(hf:((f ai).aM.filter aK).length=(ai.aM.filter aK).length+k):nS (chg bs ai.aa f)=nS bs+k:=by
 refine oeea (qW nd ho) λl1 l2 e1 e2=>?_;unfold nS;rw[e2,e1,Zx,ZK,Zx,ZK,Zb,Zb,Zb,Zb,hf];exact YQ ((aj 0x121311120122312111220123040) _ _ _ _) ((aj 0x121311122012312111201223040) _ _ _ _)
end
end
section
variable {bs eg nb:List ax}{un gS:List Int}{n n':Int}{es gk bW:List Ent}{c:Int}{ah js:Int->List Int}{ai:ax}{sn rs:List Int}
noncomputable def jY(ai:ax)(op:Op):ax:={ai with aM:=ai.aM++[op]}
theorem j_{op:Op}(b:ax):Alike b (jY b op):=⟨rfl,rfl,rfl,rfl,rfl,rfl,rfl,λ_ h=>Zd _ h⟩
theorem Ig{op:Op}:bY (jY ai op)=bY ai++op.aC:=by
 unfold bY cX jY;rw[Zx,ZF,Uk,Zo,Zo]
theorem Tx{op:Op}:((jY ai op).aM.filter aK).length=(ai.aM.filter aK).length+(if aK op then 1 else 0):=by
 show ((ai.aM++[op]).filter aK).length=_;rw[Yl,Zb]
 congr 1
 cases h:aK op with
 |true=>rw[XR h];rfl
 |false=>rw[YN (by rw[h];exact Ye)];rfl
structure MT(bs:List ax)(un:List Int)(n:Int)(c:Int)(ah:Int->List Int)(ai:ax)(sn:List Int):Prop where
 mem:ai∈bs
 un:ai.aa∈un
 zB:∀v∈sn,v∈ah ai.aa\/v∈cX ai
 pos:∀v∈sn,1<=v/\v<=n
 ne:sn≠[]
 sl:(sn.length:Int)<=7*ai.aa+2*c
 ol:(ai.aM.length:Int)<=1+c
theorem Wf.op(X:Wf bs un n es ai.aa c ah js)(C:MT bs un n c ah ai sn)(c0:0<=c)(c1:c<=1){op:Op}(F:kJ ai sn n n' nb op bW):
 Wf (cm (bs++nb) ai.aa op) (un++nb.map (·.aa)) n' (es++bW) ai.aa (c+1) (cS bW ah) (pZ bW js)/\MT (cm (bs++nb) ai.aa op) (un++nb.map (·.aa)) n' (c+1) (cS bW ah) (jY ai op) (sn++op.aC):=by
 refine oea F.seq λk bU z9=>?_;subst bU;have ol:=X.ch C.mem;have rn:∀x∈nb.flatMap bY++op.aC,n<x/\x<=n+k:=λx hx=>fO.mp (z9▸hx);have nl:∀b∈nb,n<b.aa/\b.aa<=n+k:=λb hb=>rn _ (Zd _ (Zm.mpr ⟨b,hb,Ze⟩));have p2:(bW.map (·.aa)).Pairwise (· < ·):=F.ents▸F.asc;have el:∀e∈bW,n<e.aa:=λe he=>by
  have:e.aa∈nb.map (·.aa):=F.ents▸ZG he;refine oea (Zn.mp this) λb hb z=>?_;rw[<-z];exact(nl b hb).1
 have old:∀{l:Int},l<=n->cS bW ah l=ah l/\pZ bW js l=js l:=λhl=>lT λe he z=>by
  have:=el e he;exact(aj 0x1011b211110121211010303) _ _ _ hl z this
 have Ag:((bs++nb).map (·.aa)).Pairwise (· < ·):=by
  rw[Zq];refine Ww.mpr ⟨X.asc,F.asc,λx hx y hy=>?_⟩;refine oea (Zn.mp hx) λb hb cu=>?_;subst cu;refine oea (Zn.mp hy) λd hd cY=>?_;subst cY;have:=X.ch hb;have:=nl d hd
  (rename_i jF;exact(aj 0x10011112110121021100a01501211011011a213) n d.aa b.aa k this jF)
 have CS:((bs++nb).map (·.aa)).Nodup:=Ag.imp λh=>Yd h;have i_:ai∈bs++nb:=Zd _ C.mem;have L:Le bs (cm (bs++nb) ai.aa op):=v4 λb=>j_ b;have PM:((cm (bs++nb) ai.aa op).flatMap bY).Perm (bs.flatMap bY++et n k):=by
  refine(t_ CS i_ (f:=λb=>jY b op) Ig).trans ?_;rw[Zx,Zo,z9]
 have vN:∀b∈cm (bs++nb) ai.aa op,(b=jY ai op)\/(b∈bs/\b.aa≠ai.aa)\/b∈nb:=λb hb=>by
  refine oea (dE.mp hb) λd hd dT=>?_;subst dT
  by_cases z:d.aa=ai.aa
  . rw[if_pos z];have:d=ai:=iE CS hd i_ z;exact .inl (by rw[this];rfl)
  . rw[if_neg z];exact .inr ((Zg.mp hd).imp (λh=>⟨h,z⟩) id)
 have zK:∀b∈nb,b∈cm (bs++nb) ai.aa op:=λb hb=>dE.mpr ⟨b,Zi _ hb,(if_neg λz=>by
  have:=nl b hb;exact(aj 0x10110b01511221021111a012121101001100a313) _ _ _ _ ol z this).symm⟩
 have tF:jY ai op∈cm (bs++nb) ai.aa op:=dE.mpr ⟨ai,i_,(if_pos rfl).symm⟩;have O0:=X.ok ai C.mem;have cn:(nS (cm (bs++nb) ai.aa op):Int)=nS bs+(if aK op then 1 else 0):=by
  have:=AV CS i_ (f:=λb=>jY b op) Tx;rw[qO,AU λb hb=>(F.vr b hb).2.2.2.1] at this;have e:nS (cm (bs++nb) ai.aa op)=nS bs+0+(if aK op then 1 else 0):=this;rw[e];split<;>first|exact ZA ((aj 0x11001521000012250010) (nS bs)) ((aj 0x11000012251001520010) (nS bs))|exact ZA ((aj 0x10001520000012250010) (nS bs)) ((aj 0x10000012250001520010) (nS bs))
 have IY:nb=[]\/(n<60/\nb.length<=2/\∀b∈nb,b.aa<=n+4):=(UD (nb=[])).imp id F.early;have Af:=F.cnt;have Gk:∀b∈nb,zI (cm (bs++nb) ai.aa op) (cS bW ah) (pZ bW js) b:=λb hb=>by
  refine oaaaaa (F.vr b hb) λk1 k2 k3 k4 k5 k6=>?_;obtain ⟨e,he,ee⟩:∃e∈bW,e.aa=b.aa:=Zn.mp (F.ents▸ZG hb);refine oeaaaaeaa (F.ent e he) λb' cE e1 e2 e3 x x1 x2 x3=>?_;have:b'=b:=iE (F.asc.imp λh=>Yd h) cE hb (e2.symm.trans ee);subst this;have sw:=jv (ah:=ah) (js:=js) p2 he;rw[ee] at sw;have sj:=sw.2;rw[e3] at sj;have hl:=nl b' hb;have MC:n<60/\∀b∈nb,b.aa<=n+4:=by
   rcases IY with z|z
   . rw[z] at hb;cases hb
   . exact⟨z.1,z.2.2⟩
  have l4:=MC.2 b' hb;have ns:b'.aH≠ "cont":=by rw[k1];decide
  refine⟨.inl k1,⟨by exact(aj 0x11112110001511221021111a1101001100a213) _ _ _ _ ol hl,by omega⟩,λ_=>k5,λz=>absurd z ns,λz=>by exact⟨False.elim ((aj 0x10111b1021201511221021111a1101001100a313) ai.aa n b'.aa k ol hl z),ZA ((aj 0x101110193101021201511221021111a1101001100a314) ai.aa n b'.aa b'.aw k ol hl z) ((aj 0x1001121190012121101001100a203) ai.aa n b'.aw ol k3)⟩,λ_=>⟨_,tF,k3.symm,by show ai.aa<_;exact(aj 0x11012101101511221021111a1101001100a213) _ _ _ _ ol hl⟩,⟨b',zK b' hb,k2.symm,k1⟩,λ_=>k2,λz=>absurd z ns,k6,λv hv=>?_,?_,λt ht=>?_,by rw[k4];exact ZS _,(λo ho=>by rw[k4] at ho;cases ho),by rw[k4];exact Ym⟩
  . rw[sw.1,x3] at hv;have par:v∈sn\/v∈op.aC->b'.aa≠1/\∃p∈cm (bs++nb) ai.aa op,p.aa=b'.aw/\(v∈cS bW ah p.aa\/v∈cX p):=λh=>by
     refine⟨by exact λcx=>(aj 0x10111b1021201511221021111a1101001100a313) _ _ _ _ ol hl cx,_,tF,k3.symm,?_⟩;show v∈cS bW ah ai.aa\/_;rw[(old ol.2).1];rcases h with h|h
     . exact(C.zB v h).imp id (j_ ai).res
     . exact .inr (Zm.mpr ⟨op,Zi _ (.head _),h⟩)
    rcases Zg.mp hv with h|h
    . exact .inr (.inr (par (.inl h)))
    . rcases Zg.mp h with h|h
      . exact .inr (.inr (par (.inr (x2 v h))))
      . exact .inl h
  . rw[sw.1,x3];refine⟨x[0]?.getD 0,x[1]?.getD 0,λv hv=>?_⟩;rcases Zg.mp hv with h|h
    . have:=C.pos v h;exact .inl (by omega)
    . rcases Zg.mp h with h|h
      . match x,x1,h with
        |[a],_,h=>exact .inr (.inl (Zc.mp h))
        |[a,d],_,h=>
         rcases Zp.mp h with z|h
         . exact .inr (.inl z)
         . exact .inr (.inr (.inl (Zc.mp h)))
      . exact .inr (.inr (.inr h))
  . rw[sj] at ht;cases ht
 have hold:∀b∈bs,cS bW ah b.aa=ah b.aa/\pZ bW js b.aa=js b.aa:=λb hb=>old (X.ch hb).2;have Na:zI (cm (bs++nb) ai.aa op) (cS bW ah) (pZ bW js) (jY ai op):=by
  refine O0.le L hold C.mem (j_ ai) ?_ (λo ho=>?_) ?_
  . show (ai.aM++[op]).length<=3;have:=C.ol;rw[Zb,Yg];exact(aj 0x1113010012301102015010010211) _ _ c1 this
  . rcases Zg.mp ho with ho|ho
    . exact(O0.aM o ho).le L (j_ ai) (old ol.2).1
    . rw[Zc.mp ho];refine⟨F.shape,F.cst,F.neg,F.len,λv hv=>?_,λt ht=>?_⟩
      . have h:=F.args v hv;have:=C.pos v h;refine⟨by exact(aj 0x11010001101001100a102) _ _ this,?_⟩;show v∈cS bW ah ai.aa\/_;rw[(old ol.2).1];exact(C.zB v h).imp id (j_ ai).res
      . rw[F.aT] at ht;refine oea (Zn.mp ht) λb hb gU=>?_;subst gU;exact⟨b,zK b hb,rfl,(F.vr b hb).1,(F.vr b hb).2.2.1⟩
  . show ((ai.aM++[op]).flatMap (·.aT)).Nodup;rw[Zx,ZF,F.aT];refine ZJ.mpr ⟨O0.Cz,F.asc.imp λh=>Yd h,λx hx y hy=>?_⟩;refine oea (Zm.mp hx) λo ho hx=>?_;refine oeaa ((O0.aM o ho).aT x hx) λd hd d1 _=>?_;refine oea (Zn.mp hy) λb hb gC=>?_;subst gC;have h1:=X.ch hd;have h2:=nl b hb;exact λcx=>(aj 0x10011010b3111201521231031211a2101001100a11012414) _ _ _ _ _ d1 h1 h2 cx
 have Nb:∀b∈cm (bs++nb) ai.aa op,zI (cm (bs++nb) ai.aa op) (cS bW ah) (pZ bW js) b:=λb hb=>by
  rcases vN b hb with rfl|⟨h,z⟩|h
  . exact Na
  . have B:=X.ok b h;exact B.le L hold h ⟨rfl,rfl,rfl,rfl,rfl,rfl,rfl,λ_ z=>z⟩ B.dq (λo ho=>(B.aM o ho).le L ⟨rfl,rfl,rfl,rfl,rfl,rfl,rfl,λ_ z=>z⟩ (hold b h).1) B.Cz
  . exact Gk b h
 have nu:∀b∈nb,b.aa∉un:=λb hb z=>by
  refine oea (X.Eg _ z) λd hd e=>?_;have:=X.ch hd;have:=nl b hb
  (rename_i jF;exact(aj 0x100110b2101001100a01521211011211a11012313) d.aa b.aa n k e this jF)
 have z8:((un++nb.map (·.aa)).length:Int)=un.length+nb.length:=by
  rw[Zb,Za];exact ZA ((aj 0x111501521101250020) _ _) ((aj 0x111012511501520020) _ _)
 refine⟨⟨by rw[show (cm (bs++nb) ai.aa op).map (·.aa)=(bs++nb).map (·.aa) from py λ_=>rfl];exact Ag,PM.nodup_iff.mpr ?_,λb hb x hx=>?_,?_,?_,Nb,λb hb z=>?_,?_,λl hl=>?_,λb hb z zc=>?_,?_,?_,?_,λe he=>?_⟩,⟨tF,Zd _ C.un,λv hv=>?_,λv hv=>?_,λz=>C.ne (Wa.mp z).1,?_,?_⟩⟩
 . refine ZJ.mpr ⟨X.nums,tY.imp λh=>Yd h,λx hx y hy=>?_⟩;refine oea (Zm.mp hx) λb hb hx=>?_;have:=X.EZ b hb x hx;have:=fO.mp hy
   (rename_i jF;exact λcx=>(aj 0x101001b0121021100a1121201501211011011a313) n y x k this cx jF)
 . have:x∈bs.flatMap bY++et n k:=PM.mem_iff.mp (Zm.mpr ⟨b,hb,hx⟩);rcases Zg.mp this with h|h
   . refine oea (Zm.mp h) λd hd h=>?_;have:=X.EZ d hd x h;exact⟨(aj 0x11011001101001100a102) _ _ this,(aj 0x1010151120101101001100a112) _ _ _ this⟩
   . have:=fO.mp h;exact⟨(aj 0x11112110001511221021111a1101001100a213) _ _ _ _ ol this,(aj 0x10101501211001501211011011a112) _ _ _ this⟩
 . refine oea X.ent λb hb e=>?_;refine oea (L b hb) λb' cE a=>?_;exact⟨b',cE,a.aa.trans e⟩
 . refine oeaea X.three λb hb o ho h=>?_;refine oea (L b hb) λb' cE a=>?_;exact⟨b',cE,o,a.aM o ho,h⟩
 . rcases vN b hb with rfl|⟨h,y⟩|h
   . exact absurd (Zd _ C.un) z
   . exact(X.ag b h λk=>z (Zd _ k)).le L (hold b h).1 (hold b h).2 ⟨rfl,rfl,rfl,rfl,rfl,rfl,rfl,λ_ z=>z⟩ rfl
   . exact absurd (Zi _ (ZG h)) z
 . refine ZJ.mpr ⟨X.Ij,F.asc.imp λh=>Yd h,λx hx y hy e=>?_⟩;refine oea (Zn.mp hy) λb hb kB=>?_;subst kB;exact nu b hb (e▸hx)
 . rcases Zg.mp hl with h|h
   . refine oea (X.Eg l h) λb hb e=>?_;refine oea (L b hb) λb' cE a=>?_;exact⟨b',cE,a.aa.trans e⟩
   . refine oea (Zn.mp h) λb hb jV=>?_;subst jV;exact⟨b,zK b hb,rfl⟩
 . rcases vN b hb with rfl|⟨h,y⟩|h
   . exact absurd rfl zc
   . refine X.cG b h ((Zg.mp z).resolve_right λk=>?_) y;refine oea (Zn.mp k) λd hd e=>?_;have:=nl d hd;have:=X.ch h
     (rename_i jF;exact(aj 0x11001b01521201001211a2111011100a11012313) d.aa b.aa n _ e this jF)
   . rw[(F.vr b h).2.2.2.1];exact ZS _
 . rw[cn,z8];have:=X.cnt;exact(aj 0x11111511201531520240121522011315024215201111511230150240120242) _ _ _ _ _ _ Af this
 . rw[cn,z8];have h1:=X.bq;have h2:=X.cnt;rcases IY with z|⟨z1,z2,_⟩
   . rw[z,Yj] at Af ⊢;split<;>first|exact(aj 0x1110012003f6200511520241001522001003f6211502401520121) c (nS bs) un.length h1|exact(aj 0x1110012003f6200511520240001522001003f6211502401520121) c (nS bs) un.length h1
   . split at Af<;>split<;>first|exact(aj 0x2111110012003f6221511520241001522020213003c6111111150240152001000432) c n (nS bs) un.length nb.length c0 h2 z1 z2|exact(aj 0x2111110012003f6221511520240001522020213003c6111111150240152001000432) c n (nS bs) un.length nb.length c0 h2 z1 z2
 . rw[Yl,X.lst,Zq,F.ents];refine congrArg (_++ ·) (Yv.mpr λx hx=>?_);refine oea (Zn.mp hx) λb hb nX=>?_;subst nX;have:=nl b hb;exact bne_iff_ne.mpr (by exact λcx=>(aj 0x10110b0121201511221021111a1101001100a313) _ _ _ _ ol this cx)
 . rcases Zg.mp he with h|h
   . have E:=X.ents e h;refine oeaa E.aS λb hb e1 e2=>?_;refine oea (L b hb) λb' cE a=>?_;have o:=old (e2▸(X.ch hb).2);exact⟨⟨b',cE,e1.trans a.ad.symm,e2.trans a.aa.symm⟩,o.1.trans E.s,o.2.trans E.js,λp hp=>by
      refine oeaa (E.jb p hp) λd hd d1 d2=>?_;refine oea (L d hd) λd' qz a=>?_;exact⟨d',qz,a.ad.trans d1,a.aa.trans d2⟩,E.ne,λv hv=>by have:=E.pos v hv;exact⟨(aj 0x11011001101001100a102) _ _ this,(aj 0x1010151120101101001100a112) _ _ _ this⟩,E.sl,E.jl⟩
   . refine oeaaaaeaa (F.ent e h) λb hb e1 e2 e3 x x1 x2 x3=>?_;have w:=jv (ah:=ah) (js:=js) p2 h;have hl:=nl b hb;have sl:=C.sl;refine⟨⟨b,zK b hb,e1,e2⟩,w.1,w.2,(λp hp=>by rw[e3] at hp;cases hp),by rw[x3];exact λz=>C.ne (Wa.mp z).1,λv hv=>?_,?_,by rw[e3,e2,Yj];exact(aj 0x111121005001511221021111a1101001100a213) _ _ _ _ ol hl⟩
     . rw[x3] at hv;rcases Zg.mp hv with h|h
       . have:=C.pos v h;exact⟨(aj 0x11011001101001100a102) _ _ this,(aj 0x1010151120101101001100a112) _ _ _ this⟩
       . rcases Zg.mp h with h|h
         . have:=rn v (Zi _ (x2 v h));exact⟨(aj 0x11112110001511221021111a1101001100a213) _ _ _ _ ol this,(aj 0x10101501211001501211011011a112) _ _ _ this⟩
         . have:=rn v (Zd _ (Zm.mpr ⟨b,hb,Zh _ (Zd _ h)⟩));exact⟨(aj 0x11112110001511221021111a1101001100a213) _ _ _ _ ol this,(aj 0x10101501211001501211011011a112) _ _ _ this⟩
     . have:=(F.vr b hb).2.2.2.2.2;rw[x3,e2,Zb,Zb];exact(aj 0x1107170213107431012212501031301024110742215011521231031211a200132111011100a10010644) _ _ _ _ _ _ _ _ c1 ol x1 hl sl this
 . rcases Zg.mp hv with h|h
   . show v∈cS bW ah ai.aa\/_;rw[(old ol.2).1];exact(C.zB v h).imp id (j_ ai).res
   . exact .inr (Zm.mpr ⟨op,Zi _ (.head _),h⟩)
 . rcases Zg.mp hv with h|h
   . have:=C.pos v h;exact⟨(aj 0x11011001101001100a102) _ _ this,(aj 0x1010151120101101001100a112) _ _ _ this⟩
   . have:=rn v (Zi _ h);exact⟨(aj 0x11112110001511221021111a1101001100a213) _ _ _ _ ol this,(aj 0x10101501211001501211011011a112) _ _ _ this⟩
 . have gl:op.aC.length<=2:=by
    unfold Op.aC;split
    . exact F.len.2.1
    . exact Zf (fP _) (Yk 1)
   have:=C.sl;show ((sn++op.aC).length:Int)<=7*ai.aa+2*(c+1);rw[Zb];exact(aj 0x11110112024010742011125011024010742115020013222) _ _ _ _ gl this
 . have:=C.ol;show ((ai.aM++[op]).length:Int)<=1+(c+1);rw[Zb,Yg];exact(aj 0x11100121021001250011020150111) _ _ this
end
section
variable {bs eg nb:List ax}{un gS:List Int}{n n':Int}{es gk bW:List Ent}{c k:Int}{ah js:Int->List Int}{ai:ax}{sn:List Int}{jj:List (Nat×Int)}
noncomputable def qe(ai:ax)(x:Last):ax:={ai with ag:=x}
theorem rJ{x:Last}(b:ax):Alike b (qe b x):=⟨rfl,rfl,rfl,rfl,rfl,rfl,rfl,λ_ h=>h⟩
theorem Ih{x:Last}:bY (qe ai x)=bY ai++[]:=(Zu _).symm
theorem Ty{x:Last}:((qe ai x).aM.filter aK).length=(ai.aM.filter aK).length+0:=rfl
theorem Wf.end(X:Wf bs un n es ai.aa c ah js)(C:MT bs un n c ah ai sn)(c0:0<=c)(c2:c<=2)(QX:js ai.aa=jj.map (·.2))(U1:∀p∈jj,∃d∈bs,d.ad=p.1/\d.aa=p.2)(jl:(jj.length:Int)<=ai.aa){y:ax}(hy:y∈bs)(yh:y.aa=ai.bK)(y0:0<=y.ae){x:Last}(F:lR ai sn jj y.ae n n' nb x bW):
 Wf (fY (bs++nb) ai.aa x) ((un++nb.map (·.aa)).filter λl=>l != ai.aa) n' (es++bW) 0 0 (cS bW ah) (pZ bW js):=by
 refine oea F.seq λk bU z9=>?_;subst bU;have ol:=X.ch C.mem;have rn:∀x∈nb.flatMap bY,n<x/\x<=n+k:=λx hx=>fO.mp (z9▸hx);have nl:∀b∈nb,n<b.aa/\b.aa<=n+k:=λb hb=>rn _ (Zm.mpr ⟨b,hb,Ze⟩);have p2:(bW.map (·.aa)).Pairwise (· < ·):=F.ents▸F.asc;have el:∀e∈bW,n<e.aa:=λe he=>by
  have:e.aa∈nb.map (·.aa):=F.ents▸ZG he;refine oea (Zn.mp this) λb hb z=>?_;rw[<-z];exact(nl b hb).1
 have old:∀{l:Int},l<=n->cS bW ah l=ah l/\pZ bW js l=js l:=λhl=>lT λe he z=>by
  have:=el e he;exact(aj 0x1011b211110121211010303) _ _ _ hl z this
 have Ag:((bs++nb).map (·.aa)).Pairwise (· < ·):=by
  rw[Zq];refine Ww.mpr ⟨X.asc,F.asc,λx hx y hy=>?_⟩;refine oea (Zn.mp hx) λb hb cu=>?_;subst cu;refine oea (Zn.mp hy) λd hd cY=>?_;subst cY;have:=X.ch hb;have:=nl d hd
  (rename_i jF;exact(aj 0x10011112110121021100a01501211011011a213) n d.aa b.aa k this jF)
 have CS:((bs++nb).map (·.aa)).Nodup:=Ag.imp λh=>Yd h;have i_:ai∈bs++nb:=Zd _ C.mem;have L:Le bs (fY (bs++nb) ai.aa x):=v4 λb=>rJ b;have PM:((fY (bs++nb) ai.aa x).flatMap bY).Perm (bs.flatMap bY++et n k):=by
  refine(t_ CS i_ (f:=λb=>qe b x) Ih).trans ?_;rw[Zx,Zu,z9]
 have vN:∀b∈fY (bs++nb) ai.aa x,(b=qe ai x)\/(b∈bs/\b.aa≠ai.aa)\/b∈nb:=λb hb=>by
  refine oea (dE.mp hb) λd hd dT=>?_;subst dT
  by_cases z:d.aa=ai.aa
  . rw[if_pos z];have:d=ai:=iE CS hd i_ z;exact .inl (by rw[this];rfl)
  . rw[if_neg z];exact .inr ((Zg.mp hd).imp (λh=>⟨h,z⟩) id)
 have zK:∀b∈nb,b∈fY (bs++nb) ai.aa x:=λb hb=>dE.mpr ⟨b,Zi _ hb,(if_neg λz=>by
  have:=nl b hb;exact(aj 0x10110b01511221021111a012121101001100a313) _ _ _ _ ol z this).symm⟩
 have tF:qe ai x∈fY (bs++nb) ai.aa x:=dE.mpr ⟨ai,i_,(if_pos rfl).symm⟩;have O0:=X.ok ai C.mem;have cn:(nS (fY (bs++nb) ai.aa x):Int)=nS bs:=by
  have:=AV CS i_ (f:=λb=>qe b x) Ty;rw[qO,AU λb hb=>(F.vr b hb).2.2.2.1] at this;have e:nS (fY (bs++nb) ai.aa x)=nS bs+0+0:=this;rw[e];rfl
 have IY:nb=[]\/(n<60/\nb.length<=3/\∀b∈nb,b.aa<=n+4):=(UD (nb=[])).imp id F.early;have hold:∀b∈bs,cS bW ah b.aa=ah b.aa/\pZ bW js b.aa=js b.aa:=λb hb=>old (X.ch hb).2;have Na:zI (fY (bs++nb) ai.aa x) (cS bW ah) (pZ bW js) (qe ai x):=
  O0.le L hold C.mem (rJ ai) O0.dq (λo ho=>(O0.aM o ho).le L (rJ ai) (old ol.2).1) O0.Cz
 have SU:∀b∈bs,b.aa≠ai.aa->zI (fY (bs++nb) ai.aa x) (cS bW ah) (pZ bW js) b:=λb h _=>by
  have B:=X.ok b h;exact B.le L hold h ⟨rfl,rfl,rfl,rfl,rfl,rfl,rfl,λ_ z=>z⟩ B.dq (λo ho=>(B.aM o ho).le L ⟨rfl,rfl,rfl,rfl,rfl,rfl,rfl,λ_ z=>z⟩ (hold b h).1) B.Cz
 have Gk:∀b∈nb,zI (fY (bs++nb) ai.aa x) (cS bW ah) (pZ bW js) b:=λb hb=>by
  refine oaaaaa (F.vr b hb) λk1 k2 k3 k4 k5 k6=>?_;obtain ⟨e,he,ee⟩:∃e∈bW,e.aa=b.aa:=Zn.mp (F.ents▸ZG hb);refine oeaaaa (F.ent e he) λb' cE e1 e2 e3 e4=>?_;have:b'=b:=iE (F.asc.imp λh=>Yd h) cE hb (e2.symm.trans ee);subst this;have sw:=jv (ah:=ah) (js:=js) p2 he;rw[ee] at sw;have hl:=nl b' hb;have MC:n<60/\∀b∈nb,b.aa<=n+4:=by
   rcases IY with z|z
   . rw[z] at hb;cases hb
   . exact⟨z.1,z.2.2⟩
  have l4:=MC.2 b' hb;have nf:b'.aH≠ "fun":=by rw[k1];decide
  refine oeaa O0.bK λyb QK y1 y2=>?_;refine oea (L yb QK) λy' wS A=>?_;have yv:yb.ae<=n:=by
   by_cases z:0<=yb.ae
   . exact(X.EZ yb QK yb.ae (by unfold bY;rw[if_pos z];exact Zh _ (Zi _ (Zd _ (.head _))))).2
   . exact(aj 0x111111210210061101001100a203) _ _ _ ol z
  have vs:∀v∈e.s,v∈sn\/v∈b'.params:=λv hv=>by
   rcases e3 with z|z<;>rw[z] at hv
   . exact .inl hv
   . exact Zg.mp hv
  refine⟨.inr k1,⟨by exact(aj 0x11112110001511221021111a1101001100a213) _ _ _ _ ol hl,by omega⟩,λz=>absurd z nf,λ_=>k5,λz=>by exact⟨False.elim ((aj 0x10111b1021201511221021111a1101001100a313) ai.aa n b'.aa k ol hl z),ZA ((aj 0x101110193101021201511221021111a1101001100a314) ai.aa n b'.aa b'.aw k ol hl z) ((aj 0x1001121190012121101001100a203) ai.aa n b'.aw ol k3)⟩,λ_=>⟨_,tF,k3.symm,by show ai.aa<_;exact(aj 0x11012101101511221021111a1101001100a213) _ _ _ _ ol hl⟩,⟨y',wS,by rw[A.aa,y1,k2],A.aH.trans y2⟩,λz=>absurd z nf,λ_=>⟨⟨_,tF,k3.symm,k2.symm⟩,y',wS,by rw[A.aa,y1,k2],by rw[A.ae];omega⟩,k6,λv hv=>?_,⟨0,0,λv hv=>?_⟩,λt ht=>?_,by rw[k4];exact ZS _,(λo ho=>by rw[k4] at ho;cases ho),by rw[k4];exact Ym⟩
  . rw[sw.1] at hv;rcases vs v hv with h|h
    . refine .inr (.inr ⟨by exact λcx=>(aj 0x10111b1021201511221021111a1101001100a313) _ _ _ _ ol hl cx,_,tF,k3.symm,?_⟩);show v∈cS bW ah ai.aa\/_;rw[(old ol.2).1];exact(C.zB v h).imp id (rJ ai).res
    . exact .inl h
  . rw[sw.1] at hv;rcases vs v hv with h|h
    . have:=C.pos v h;exact .inl (by omega)
    . exact .inr (.inr (.inr h))
  . rw[sw.2] at ht;refine oea (Zn.mp ht) λp hp gU=>?_;subst gU;rcases e4 p hp with h|⟨d,hd,rfl⟩
    . have hj:p.2∈js ai.aa:=QX▸ZG h;refine oaaeaaa (O0.Iu _ hj) λ_ j1 d hd d1 d2 _=>?_;refine oea (L d hd) λd' qz D=>?_;exact⟨k1,j1,d',qz,D.aa.trans d1,D.aH.trans d2,.inr ⟨_,tF,k3.symm,by show _∈pZ bW js ai.aa;rw[(old ol.2).2];exact hj⟩⟩
    . have:=MC.2 d hd;exact⟨k1,by show d.aa<=63;omega,d,zK d hd,rfl,(F.vr d hd).1,.inl ((F.vr d hd).2.2.1.trans k3.symm)⟩
 have Nb:∀b∈fY (bs++nb) ai.aa x,zI (fY (bs++nb) ai.aa x) (cS bW ah) (pZ bW js) b:=λb hb=>by
  rcases vN b hb with rfl|⟨h,z⟩|h
  . exact Na
  . exact SU b h z
  . exact Gk b h
 have K_:IK (fY (bs++nb) ai.aa x) (cS bW ah) (pZ bW js) (qe ai x):=by
  have zB:∀v∈sn,v∈cS bW ah ai.aa\/v∈cX (qe ai x):=λv hv=>by
   rw[(old ol.2).1];exact C.zB v hv
  refine⟨F.shape,F.len,λv hv=>⟨?_,zB v (F.args v hv)⟩,λf=>zB _ (F.fn.resolve_left λz=>?_),⟨F.fn.imp id λz=>?_,F.ae.imp id λz=>?_⟩,λf=>?_,λt ht=>?_,λw f=>?_⟩
  . have:=C.pos v (F.args v hv);exact(aj 0x11010001101001100a102) _ _ this
  . have f':0<=x.fn:=f;rw[z] at f';exact absurd f' (by decide)
  . have:=C.pos _ z;show 0<=x.fn;exact(aj 0x11010001101001100a102) _ _ this
  . show 0<=x.ae;rw[z];exact y0
  . refine oea (L y hy) λy' wS A=>?_;refine⟨y',wS,A.aa.trans yh,?_⟩;have f':0<=x.ae:=f;rcases F.ae with z|z
    . rw[z] at f';exact absurd f' (by decide)
    . rw[A.ae];exact z
  . rcases F.vp t ht with h|h
    . refine oea (Zn.mp h) λb hb gC=>?_;subst gC;exact⟨b,zK b hb,rfl,(F.vr b hb).1,.inl (F.vr b hb).2.2.1⟩
    . rw[<-QX] at h;refine oaaeaaa (O0.Iu t h) λ_ _ d hd d1 d2 _=>?_;refine oea (L d hd) λd' qz D=>?_;exact⟨d',qz,D.aa.trans d1,D.aH.trans d2,.inr (by show t∈pZ bW js ai.aa;rw[(old ol.2).2];exact h)⟩
  . refine oea (Zn.mp (F.call w f)) λb hb e=>?_;exact⟨b,zK b hb,e,(F.vr b hb).2.2.1⟩
 have nu:∀b∈nb,b.aa∉un:=λb hb z=>by
  refine oea (X.Eg _ z) λd hd e=>?_;have:=X.ch hd;have:=nl b hb
  (rename_i jF;exact(aj 0x100110b2101001100a01521211011211a11012313) d.aa b.aa n k e this jF)
 have ne:∀b∈nb,b.aa≠ai.aa:=λb hb z=>nu b hb (z▸C.un);have Qo:(nb.map (·.aa)).filter (λl=>l != ai.aa)=nb.map (·.aa):=Yv.mpr λl hl=>by
  refine oea (Zn.mp hl) λb hb kB=>?_;subst kB;exact bne_iff_ne.mpr (ne b hb)
 have z8:(((un++nb.map (·.aa)).filter λl=>l != ai.aa).length:Int)=un.length - 1+nb.length:=by
  rw[Yl,Qo,Zb,Za,<-X.Ij.erase_eq_filter,XJ C.un];have:=Xm C.un
  omega
 have mu:∀{l:Int},l∈(un++nb.map (·.aa)).filter (λl=>l != ai.aa)->l≠ai.aa/\(l∈un\/l∈nb.map (·.aa)):=λh=>by
  rw[ZH] at h;exact⟨bne_iff_ne.mp h.2,Zg.mp h.1⟩
 have um:∀{l:Int},l≠ai.aa->(l∈un\/l∈nb.map (·.aa))->l∈(un++nb.map (·.aa)).filter (λl=>l != ai.aa):=λz h=>ZH.mpr ⟨Zg.mpr h,bne_iff_ne.mpr z⟩;have Af:=F.cnt;refine⟨by rw[show (fY (bs++nb) ai.aa x).map (·.aa)=(bs++nb).map (·.aa) from py λ_=>rfl];exact Ag,PM.nodup_iff.mpr ?_,λb hb x hx=>?_,?_,?_,Nb,λb hb z=>?_,?_,λl hl=>?_,λb hb z zc=>?_,?_,?_,?_,λe he=>?_⟩
 . refine ZJ.mpr ⟨X.nums,tY.imp λh=>Yd h,λx hx y hy=>?_⟩;refine oea (Zm.mp hx) λb hb hx=>?_;have:=X.EZ b hb x hx;have:=fO.mp hy
   (rename_i jF;exact λcx=>(aj 0x101001b0121021100a1121201501211011011a313) n y x k this cx jF)
 . have:x∈bs.flatMap bY++et n k:=PM.mem_iff.mp (Zm.mpr ⟨b,hb,hx⟩);rcases Zg.mp this with h|h
   . refine oea (Zm.mp h) λd hd h=>?_;have:=X.EZ d hd x h;exact⟨(aj 0x11011001101001100a102) _ _ this,(aj 0x1010151120101101001100a112) _ _ _ this⟩
   . have:=fO.mp h;exact⟨(aj 0x11112110001511221021111a1101001100a213) _ _ _ _ ol this,(aj 0x10101501211001501211011011a112) _ _ _ this⟩
 . refine oea X.ent λb hb e=>?_;refine oea (L b hb) λb' cE a=>?_;exact⟨b',cE,a.aa.trans e⟩
 . refine oeaea X.three λb hb o ho h=>?_;refine oea (L b hb) λb' cE a=>?_;exact⟨b',cE,o,a.aM o ho,h⟩
 . rcases vN b hb with rfl|⟨h,y⟩|h
   . exact K_
   . exact(X.ag b h λk=>z (um y (.inl k))).le L (hold b h).1 (hold b h).2 ⟨rfl,rfl,rfl,rfl,rfl,rfl,rfl,λ_ z=>z⟩ rfl
   . exact absurd (um (ne b h) (.inr (ZG h))) z
 . refine(ZJ.mpr ⟨X.Ij,F.asc.imp λh=>Yd h,λx hx y hy e=>?_⟩).filter _;refine oea (Zn.mp hy) λb hb jV=>?_;subst jV;exact nu b hb (e▸hx)
 . rcases (mu hl).2 with h|h
   . refine oea (X.Eg l h) λb hb e=>?_;refine oea (L b hb) λb' cE a=>?_;exact⟨b',cE,a.aa.trans e⟩
   . refine oea (Zn.mp h) λb hb nX=>?_;subst nX;exact⟨b,zK b hb,rfl⟩
 . rcases vN b hb with rfl|⟨h,y⟩|h
   . exact absurd rfl (mu z).1
   . refine X.cG b h ((mu z).2.resolve_right λk=>?_) y;refine oea (Zn.mp k) λd hd e=>?_;have:=nl d hd;have:=X.ch h
     (rename_i jF;exact(aj 0x11001b01521201001211a2111011100a11012313) d.aa b.aa n _ e this jF)
   . rw[(F.vr b h).2.2.2.1];exact ZS _
 . rw[cn,z8];have:=X.cnt;exact(aj 0x11111501201510315320242152001315024215202001115012320150240241) _ _ _ _ _ Af this
 . rw[cn,z8];have h1:=X.bq;have h2:=X.cnt;rcases IY with z|⟨z1,z2,_⟩
   . rw[z,Yj];exact(aj 0x11100003f6200510115320240152001003f621150240152020010221) _ _ _ c2 h1
   . exact(aj 0x211100003f6221510115320240152030213003c60110111502401520331) _ _ _ _ h2 z1 z2
 . rw[Yv.mpr,Yl,Qo,X.lst,Zq,F.ents];intro l hl;refine bne_iff_ne.mpr ?_;rcases (mu hl).2 with h|h
   . refine oea (X.Eg l h) λb hb e=>?_;have:=X.ch hb;exact λcx=>(aj 0x10101b001122101001100a11012303) _ _ _ e this cx
   . refine oea (Zn.mp h) λb hb gq=>?_;subst gq;have:=nl b hb;exact λcx=>(aj 0x10111b0021201511221021111a1101001100a313) _ _ _ _ ol this cx
 . rcases Zg.mp he with h|h
   . have E:=X.ents e h;refine oeaa E.aS λb hb e1 e2=>?_;refine oea (L b hb) λb' cE a=>?_;have o:=old (e2▸(X.ch hb).2);exact⟨⟨b',cE,e1.trans a.ad.symm,e2.trans a.aa.symm⟩,o.1.trans E.s,o.2.trans E.js,λp hp=>by
      refine oeaa (E.jb p hp) λd hd d1 d2=>?_;refine oea (L d hd) λd' qz a=>?_;exact⟨d',qz,a.ad.trans d1,a.aa.trans d2⟩,E.ne,λv hv=>by have:=E.pos v hv;exact⟨(aj 0x11011001101001100a102) _ _ this,(aj 0x1010151120101101001100a112) _ _ _ this⟩,E.sl,E.jl⟩
   . refine oeaaaa (F.ent e h) λb hb e1 e2 e3 e4=>?_;have w:=jv (ah:=ah) (js:=js) p2 h;have hl:=nl b hb;have sl:=C.sl;have jn:=F.Pe e h;have pl:=(F.vr b hb).2.2.2.2.2;refine⟨⟨b,zK b hb,e1,e2⟩,w.1,w.2,(λp hp=>?_),?_,λv hv=>?_,?_,by exact(aj 0x1011010112121501001221311511231031111a312121101001100a010150534) _ _ _ _ _ _ _ jl ol e2 hl jn⟩
     . rcases e4 p hp with z|⟨d,hd,rfl⟩
       . refine oeaa (U1 p z) λd hd d1 d2=>?_;refine oea (L d hd) λd' qz a=>?_;exact⟨d',qz,a.ad.trans d1,a.aa.trans d2⟩
       . exact⟨d,zK d hd,rfl,rfl⟩
     . rcases e3 with z|z<;>rw[z]
       . exact C.ne
       . exact λz=>C.ne (Wa.mp z).1
     . have:v∈sn\/v∈b.params:=by
        rcases e3 with z|z<;>rw[z] at hv
        . exact .inl hv
        . exact Zg.mp hv
       rcases this with h|h
       . have:=C.pos v h;exact⟨(aj 0x11011001101001100a102) _ _ this,(aj 0x1010151120101101001100a112) _ _ _ this⟩
       . have:=rn v (Zm.mpr ⟨b,hb,Zh _ (Zd _ h)⟩);exact⟨(aj 0x11112110001511221021111a1101001100a213) _ _ _ _ ol this,(aj 0x10101501211001501211011011a112) _ _ _ this⟩
     . have:e.s.length<=sn.length+b.params.length:=by
        rcases e3 with z|z<;>rw[z]
        . exact ZE ..
        . exact YJ Zb
       exact(aj 0x11107707021310743150211123131021301024110742115001521241041211a413122111011100a20010745) _ _ _ _ _ _ _ _ _ c2 ol e2 hl sl pl this
end
section
variable {A:Ad}{j h h':Hp}{i:Nat}{bs eg:List ax}{un gS:List Int}{n n':Int}{es gk:List Ent}{cur c:Int}{ah js:Int->List Int}{ai:ax}{sn rs:List Int}{jj:List (Nat×Int)}
theorem xK{l:Int}{f:ax->ax}:(chg bs l f).length=bs.length:=Za _
structure St(A:Ad)(j:Hp)(i:Nat)(bs:List ax)(un:List Int)(n:Int)(es:List Ent)(cur c:Int)(ah js:Int->List Int)(h:Hp):Prop where
 th:TH h A bs un n es
 wf:Wf bs un n es cur c ah js
 ext:Ext j (aY (ak A bs) h)
 cnt:i+un.length<=bs.length
structure Tn(jj:List (Nat×Int))(bs:List ax)(un:List Int)(n c:Int)(ah js:Int->List Int)(ai:ax)(sn:List Int):Prop where
 cur:MT bs un n c ah ai sn
 Qz:js ai.aa=jj.map (·.2)
 jb:∀p∈jj,∃d∈bs,d.ad=p.1/\d.aa=p.2
 jl:(jj.length:Int)<=ai.aa
theorem Wf.n0(X:Wf bs un n es cur c ah js):0<=n:=by
 refine oea X.ent λb hb _=>?_;have:=X.ch hb;exact(aj 0x111110001101001100a102) _ _ this
theorem Wf.vD(X:Wf bs un n es cur c ah js):es.length<=bs.length:=by
 have h1:es.length<=un.length:=by
  have:=congrArg List.length X.lst;rw[Za] at this;rw[<-this];exact ZU ..
 refine Zf h1 ?_;have:=X.Ij.length_le_of_subset (l₂:=bs.map (·.aa)) λl hl=>by
  refine oea (X.Eg l hl) λb hb e=>?_;exact Zn.mpr ⟨b,hb,e⟩
 rwa [Za] at this
theorem St.op(S:St A j i bs un n es ai.aa c ah js h)(T:Tn jj bs un n c ah js ai sn)(c0:0<=c)(c1:c<=1)(O:rK ai sn bs un n es eg gS n' gk rs)(Y:TH h' A eg gS n' gk)(E:Ext (aY (ak A bs) h) (aY (ak A eg) h')):
 ∃vL e_ sY,vL.ad=ai.ad/\vL.aa=ai.aa/\St A j i eg gS n' gk vL.aa (c+1) e_ sY h'/\Tn jj eg gS n' (c+1) e_ sY vL (sn++rs):=by
 refine oeeeaaaa O.ex λnb op bW bU cu cY dT F=>?_;subst bU;subst cu;subst cY;subst dT;have R:=S.wf.op T.cur c0 c1 F;have ol:=S.wf.ch T.cur.mem;refine⟨jY ai op,_,_,rfl,rfl,⟨Y,R.1,S.ext.trans E,?_⟩,R.2,?_,λp hp=>?_,T.jl⟩
 . have:=S.cnt;rw[xK,Zb,Zb,Za];exact(aj 0x113121231112012321110123140) _ _ _ _ this
 . show pZ bW js ai.aa=_;rw[<-T.Qz];refine(lT (ah:=ah) λe he z=>?_).2;refine oeaaa (F.ent e he) λb hb _ e2 _=>?_;refine oea F.seq λk gU hs=>?_;subst gU;have:b.aa∈et n k:=hs▸Zd _ (Zm.mpr ⟨b,hb,.head _⟩);have:=(fO.mp this).1;exact(aj 0x1100110b3111131212012121101001100a404) _ _ _ _ ol z e2 this
 . refine oeaa (T.jb p hp) λd hd d1 d2=>?_;refine oea (v4 (nb:=nb) (l:=ai.aa) (λb=>j_ (op:=op) b) d hd) λd' qz a=>?_;exact⟨d',qz,a.ad.trans d1,a.aa.trans d2⟩
theorem St.end(S:St A j i bs un n es ai.aa c ah js h)(T:Tn jj bs un n c ah js ai sn)(c0:0<=c)(c2:c<=2){y:ax}(hy:y∈bs)(yh:y.aa=ai.bK)(y0:0<=y.ae)(O:rW ai sn jj y.ae bs un n es eg gS n' gk)(Y:TH h' A eg gS n' gk)(E:Ext (aY (ak A bs) h) (aY (ak A eg) h')):
 ∃e_ sY,St A j (i+1) eg gS n' gk 0 0 e_ sY h':=by
 refine oeeeaaa O.ex λnb x bW gC kB jV F=>?_;subst gC;subst kB;subst jV;refine⟨_,_,Y,S.wf.end T.cur c0 c2 T.Qz T.jb T.jl hy yh y0 F,S.ext.trans E,?_⟩;have h1:=S.cnt;have h2:((un++nb.map (·.aa)).filter λl=>l != ai.aa).length+1<=un.length+nb.length:=by
  rw[Yl,Zb,<-S.wf.Ij.erase_eq_filter,XJ T.cur.un];have:=Xm T.cur.un;have:((nb.map (·.aa)).filter λl=>l != ai.aa).length<=(nb.map (·.aa)).length:=ZU ..;rw[Za] at this
  (rename_i jF;exact(aj 0x111113121001212233110212511013240) _ nb.length (un.length - 1) un.length this (YU ((aj 0x110110301004110) un.length jF)))
 rw[xK,Zb];exact(aj 0x111412123110012234111210312321110123250) _ _ _ _ _ h1 h2
theorem St.pop{e:Ent}(S:St A j i bs un n (es++[e]) 0 0 ah js h)(p:Put h A.td (.list (es.map λe=>V.ref e.a)) h'):
 ∃ai,ai.ad=e.ad/\St A j i bs un n es ai.aa 0 ah js h'/\Tn e.js bs un n 0 ah js ai e.s/\yz (aY (ak A bs) h') e:=by
 have X:=S.wf;have he:e∈es++[e]:=Zi _ (.head _);have E:=X.ents e he;refine oeaa E.aS λai ho e1 e2=>?_;have Y:=S.th.bh.EA p;have ol:=X.ch ho;have Qq:un=es.map (·.aa)++[ai.aa]:=by
  have:=X.lst;rw[Zq,YI,e2] at this;rw[<-this,Yv.mpr];intro l hl;refine oea (X.Eg l hl) λb hb z=>?_;have:=X.ch hb;exact bne_iff_ne.mpr (by exact λcx=>(aj 0x10101b001122101001100a11012303) _ _ _ z this cx)
 have Qf:ai.aa∈un:=Qq▸Zi _ (.head _);have W:Wf bs un n es ai.aa 0 ah js:=by
  refine {X with cG:=λb hb z _=>X.cG b hb z ?_,lst:=?_,ents:=λd hd=>X.ents d (Zd _ hd)}
  . have:=X.ch hb;exact λcx=>(aj 0x101b000121101001100a202) _ _ this cx
  . have nd:=X.Ij;rw[Qq] at nd ⊢;refine oaa (ZJ.mp nd) λ_ _ n3=>?_;rw[Yl,Yv.mpr λl hl=>bne_iff_ne.mpr (n3 l hl _ (.head _)),YN (by rw[bne_self_eq_false];exact Ye)];exact Zu _
 refine⟨ai,e1.symm,⟨⟨Y.1,λd hd=>(S.th.ent d (Zd _ hd)).ext Y.2⟩,W,S.ext.trans Y.2,S.cnt⟩,⟨⟨ho,Qf,λv hv=>.inl ?_,E.pos,E.ne,?_,?_⟩,?_,E.jb,e2▸E.jl⟩,(S.th.ent e he).ext Y.2⟩
 . rw[<-e2,E.s];exact hv
 . have:=E.sl;rw[e2] at this;exact(aj 0x11000240107420150010740150111) _ _ this
 . have:=X.cG ai ho Qf (by exact λcx=>(aj 0x101b000121101001100a202) _ _ ol cx);exact(aj 0x1100102015010013110) _ this
 . rw[<-e2];exact E.js
theorem Wf.init{b:ax}{a aA rA lA:Nat}{e:Ent}(l1:b.aa=1)(s1:b.aH="fun")(p1:b.params=[])(v1:b.ae=2)(h1:b.bK=1)(q1:b.aw= -1)(o1:b.aM=[⟨a,3,"const",-1,[],aA,.int 5,[],rA,[],lA,false⟩])(e1:e.ad=b.ad)(e2:e.aa=1)(e3:e.s=[3])(e4:e.js=[]):Wf [b] [1] 3 [e] 0 0 (λ_=>[3]) (λ_=>[]):=by
 have bn:bY b=[1,2,3]:=by unfold bY cX;rw[l1,p1,v1,o1];rfl
 have n1:nS [b]=1:=by unfold nS;rw[ZF,o1];rfl
 have hb:b∈[b]:=.head _;refine⟨Z5 _ _,by rw[ZF,bn];decide,λc hc x hx=>?_,⟨b,hb,l1⟩,⟨b,hb,_,o1▸Zc.mpr rfl,rfl,rfl⟩,λc hc=>?_,λc hc z=>?_,Z5 _ _,λl hl=>⟨b,hb,l1.trans (Zc.mp hl).symm⟩,λc hc _ _=>?_,by rw[n1];decide,by rw[n1];decide,by rw[YI,e2];rfl,λd hd=>?_⟩
 . rw[Zc.mp hc,bn] at hx;rcases Zp.mp hx with rfl|hx
   . decide
   . rcases Zp.mp hx with rfl|hx
     . decide
     . rw[Zc.mp hx];decide
 . rw[Zc.mp hc];refine⟨.inl s1,by rw[l1];decide,λ_=>by rw[v1];decide,λz=>absurd (s1.symm.trans z) (by decide),λ_=>⟨s1,q1⟩,λz=>absurd l1 z,⟨b,hb,l1.trans h1.symm,s1⟩,λ_=>h1.trans l1.symm,λz=>absurd (s1.symm.trans z) (by decide),by rw[p1];exact ZS _,λv hv=>.inr (.inl ⟨l1,Zc.mp hv⟩),⟨0,0,λv hv=>.inl (by rw[Zc.mp hv];decide)⟩,(λ_ z=>nomatch z),by rw[o1];exact(by decide:1<=3),λo ho=>?_,by rw[o1];exact Ym⟩;rw[o1] at ho;rw[Zc.mp ho];exact⟨.inl ⟨rfl,rfl,rfl⟩,λ_=>(by decide:(0:Int)<=3),⟨λz=>absurd z (by decide:¬ "const"="fix"),λ_=>rfl,.inr (by decide:(0:Int)<=3)⟩,⟨ZS _,ZS _,ZS _⟩,(λ_ z=>nomatch z),λ_ z=>nomatch z⟩
 . rw[Zc.mp hc,l1] at z;exact absurd (.head _) z
 . rw[Zc.mp hc,o1];exact Zs 1
 . rw[Zc.mp hd];exact⟨⟨b,hb,e1,e2.trans l1.symm⟩,e3.symm,by rw[e4];rfl,(λp hp=>by rw[e4] at hp;cases hp),by rw[e3];decide,(λv hv=>by rw[e3] at hv;rw[Zc.mp hv];decide),by rw[e3,e2];decide,by rw[e4,e2];decide⟩
end
section
section
variable {Φ:Calls}{γ:String->Option V}{h h':Hp}{Q:V->Hp->Prop}
variable {A:Ad}{bs:List ax}{un:List Int}{n:Int}{td:O}
theorem BH.KY(X:BH h A bs un n td){d:Nat}{o:O}(A1:Alloc h d o h'):BH h' {A with td:=d} bs un n o/\Ext (aY (ak A bs) h) (aY (ak {A with td:=d} bs) h')/\aY (ak {A with td:=d} bs) h' A.td=some td:=by
 let m1:=A.ex.map (·.1)++[A.g,A.t]
 let m2:=A.dk::A.dc::bs.flatMap λb=>[b.ad,b.oA]
 have e1:ak A bs=m1++A.td::m2:=by unfold ak core;exact(Zo _ [A.g,A.t] _).symm
 have e2:ak {A with td:=d} bs=m1++d::m2:=by unfold ak core;exact(Zo _ [A.g,A.t] _).symm
 have nd:=X.nd;rw[e1,Xk.nodup_iff,ZD] at nd;have live:∀x∈m1++m2,h x≠none:=λx hx=>X.live x (by rw[e1];exact Xk.mem_iff.mpr (Zh _ hx));have Tr:(ak {A with td:=d} bs).Nodup:=by
  rw[e2,Xk.nodup_iff,ZD];exact⟨λm=>live _ m A1.new,nd.2⟩
 have E:Ext (aY (ak A bs) h) (aY (ak {A with td:=d} bs) h'):=bu (λx m=>by
  rw[e2] at m;rw[e1];rcases Zp.mp (Xk.mem_iff.mp m) with rfl|m
  . exact .inr A1.new
  . exact .inl (Xk.mem_iff.mpr (Zh _ m))) A1.ext
 have e:=A1.ext;refine⟨⟨Tr,λc m=>e.at (X.vC c m),e.at X.g,E.at X.p,e.at X.t,A1.at,X.D.ext e,λb hb=>(X.aS b hb).nv E (e _ (aF (X.aS b hb).self)) (e _ (aF (X.aS b hb).aM))⟩,E,?_⟩;rw[aW,e.at X.td];rw[e2];exact λm=>(Zp.mp (Xk.mem_iff.mp m)).elim (A1.ne X.td) nd.1
variable {es:List Ent}{i:Nat}{j:Hp}{ah js:Int->List Int}
theorem St.fin(S:St A j i bs un n [] 0 0 ah js h):Built ⟨A.p,A.t,bs⟩ ah js/\PR (aG A.dk (aG A.dc h)) ⟨A.p,A.t,bs⟩/\eR h A.dk A.dc:=by
 have X:=S.wf;have u0:un=[]:=by
  have:=X.lst;rw[Yv.mpr] at this
  . exact this
  . intro l hl;refine oea (X.Eg l hl) λb hb z=>?_;have:=X.ch hb;exact bne_iff_ne.mpr (by exact λcx=>(aj 0x10101b001122101001100a11012303) _ _ _ z this cx)
 subst u0;have B:=S.th.bh;refine oaaa B.ne λbU cu _ d=>?_;refine oaaa bU λ_ _ _ _=>?_;try clear bU;refine oaa cu λ_ t3 t4=>?_;try clear cu
 have E:Ext (aY (ak A bs) h) (aG A.dk (aG A.dc h)):=λx hx=>by
  have m:x∉ak A bs:=λm=>hx (cB m);rw[aW m,hide_ne λ(e:x=A.dk)=>m (e▸Gl),hide_ne λ(e:x=A.dc)=>m (e▸Gm)]
 refine⟨X.fin (Wt _),⟨E.at B.p,aE t3 (aE t4 B.t),λb hb=>?_⟩,B.D⟩;refine oaaaaa (d b hb) λcY _ _ _ o1 o2=>?_;refine oaaaa cY λ_ _ _ a1 a2=>?_;try clear cY
 have Y:=B.aS b hb;exact⟨aE a1 (aE a2 Y.self),E.at Y.params,aE o1 (aE o2 Y.aM),λo ho=>(Y.op o ho).ext E,(Y.ag λz=>nomatch z).ext E⟩
theorem PT{K:Po}{t:String}{B:List String}{σ ρ:Lo}{v:V}{P:Lo->Hp->Prop}(hb:∀σ h',P (mix (t::B) σ ρ) h'->K .brk (mix (t::B) σ ρ) [] h')(p:P (bc (mix (t::B) σ ρ) t v) h):K .brk (bc (mix (t::B) σ ρ) t v) [] h:=by
 have e:mix (t::B) (bc (mix (t::B) σ ρ) t v) ρ=bc (mix (t::B) σ ρ) t v:=oz λx n=>(if_neg λ(z:x=t)=>n (z▸.head _)).trans (BV x n);rw[<-e] at p ⊢;exact hb _ h p
noncomputable def PI(A:Ad)(j:Hp)(i:Nat)(h:Hp):Prop:=∃bs un n es ah js,St A j i bs un n es 0 0 ah js h
theorem PI.el{j:Hp}{i:Nat}{h:Hp}{G:Prop}(x:PI A j i h)(k:∀{bs un n es ah js},St A j i bs un n es 0 0 ah js h->G):G:=by
 obtain ⟨_,_,_,_,_,_,S⟩:=x;exact k S
noncomputable def PJ(A:Ad)(j:Hp)(i:Nat)(e:Ent)(m:Nat)(ρ:Lo)(h:Hp):Prop:=∃bs un n es ah js ai sn sA,ρ "seen"=some (.ref sA)/\ai.ad=e.ad/\St A j i bs un n es ai.aa m ah js h/\Tn e.js bs un n m ah js ai sn/\aY (ak A bs) h sA=some (iL sn)/\aY (ak A bs) h e.jA=some (.list (e.js.map jI))
theorem PJ.el{j:Hp}{i:Nat}{e:Ent}{m:Nat}{ρ:Lo}{h:Hp}{G:Prop}(x:PJ A j i e m ρ h)(k:∀{bs un n es ah js ai sn sA},ρ "seen"=some (.ref sA)->ai.ad=e.ad->St A j i bs un n es ai.aa m ah js h->Tn e.js bs un n m ah js ai sn->aY (ak A bs) h sA=some (iL sn)->aY (ak A bs) h e.jA=some (.list (e.js.map jI))->G):G:=by
 obtain ⟨_,_,_,_,_,_,_,_,_,a,b,c,d,e,f⟩:=x;exact k a b c d e f
theorem St.gen{c m:Int}(S:St A j i bs un n es c m ah js h){G:Prop}(k:∀B:Ad,B.g=A.g->B.p=A.p->B.td=A.td->B.dk=A.dk->B.dc=A.dc->St B j i bs un n es c m ah js h->G):G:=k A rfl rfl rfl rfl rfl S
@[elab_as_elim] theorem gen {α:Type} {motive:α->Prop} (a:α) (k:∀x,motive x):motive a:=k a
theorem qh(W:Wd Φ γ):xN Φ γ:=by
 intro h dk dc Q BA D q;refine W.cl rfl rfl ?_;refine oea BA.empty λte ge he=>?_;refine oeeaa D.st λm0 cs0 f1 f2 _=>?_;have zR:h te=some (.cZ "Special" [("title",sv "empty")]):=(aU.trans aU).at he;have Sy:te≠dk:=λe=>by rw[e,f1] at zR;cases zR
 have Sz:te≠dc:=λe=>by rw[e,f2] at zR;cases zR
 nofun;refine r_new rfl λp h1 A1=>W.cl rfl rfl ?_;nofun;intro t h2 A2;have Rk:=A2.ext.at A1.at;nofun;intro h3 p3;nofun;intro h4 p4;refine r_done ⟨rfl,?_⟩;have n1:=A1.new;have e4:Ext h h4:=p4.im (p3.im (A2.im A1.ext) n1) n1;have tp:t≠p:=(A2.ne A1.at).symm;have nt:h t=none:=A1.ext.none A2.new;have t4:h4 t=some (.dict []):=p4.to tp (p3.to tp A2.at);nofun;intro g h5 A5;have ng:=e4.none A5.new;have e5:Ext h h5:=A5.im e4;have gp:g≠p:=(A5.ne p4.at).symm;have gt:g≠t:=(A5.ne t4).symm;have ne:∀{x y:Nat} {o:O},h x=none->h y=some o->x≠y:=λa b e=>by rw[e,b] at a;cases a
 let A0:Ad:=⟨g,p,t,te,dk,dc,[]⟩
 have m5:ak A0 []=[g,t,te,dk,dc]:=rfl;have X0:BH h5 A0 [] [] 0 (.cZ "Special" [("title",sv "empty")]):=by
  refine⟨?_,(λ_ z=>nomatch z),A5.at,?_,A5.ext.at t4,e5.at zR,D.ext e5,λ_ z=>nomatch z⟩
  . rw[m5];simp only[ZD,Zp,Yt,or_false,not_or];exact⟨⟨gt,ne ng zR,ne ng f1,ne ng f2⟩,⟨ne nt zR,ne nt f1,ne nt f2⟩,⟨Sy,Sz⟩,D.ne,not_false,Ym⟩
  . rw[m5,aW]
    . exact A5.ext.at p4.at
    . simp only[Zp,Yt,or_false,not_or];exact⟨gp.symm,tp.symm,ne n1 zR,ne n1 f1,ne n1 f2⟩
 nofun;refine eT W (un:=[]) X0 (λ_ z=>nomatch z) (by decide) (s:="fun") (m:=0) (by decide) λh6 b X6 E6 NB=>?_;nofun;intro td h7 A7
 let A:Ad:=⟨g,p,t,td,dk,dc,[]⟩
 have RJ:BH h7 A ([]++[b]) ([]++[b.aa]) (bI 0 "fun" 0) (.list [])/\Ext (aY (ak A0 ([]++[b])) h6) (aY (ak A ([]++[b])) h7)/\aY (ak A ([]++[b])) h7 te=some (.cZ "Special" [("title",sv "empty")]):=X6.KY A7;refine oaa RJ λX7 E7 P6=>?_;have Oo:Ext (aG dk (aG dc h)) (aY (ak A ([]++[b])) h7):=λx hx=>by
  by_cases z:x=te
  . rw[z,he];exact P6
  . have x1:x≠dk:=λe=>hx (e▸ao);have x2:x≠dc:=λe=>hx ((hide_ne x1).trans (e▸ao));have e0:aG dk (aG dc h) x=h x:=(hide_ne x1).trans (hide_ne x2);rw[e0] at hx ⊢;have e1:aY (ak A0 []) h5 x=h x:=by
     rw[m5,aW,e5 x hx];simp only[Zp,Yt,or_false,not_or];exact⟨λe=>hx (e▸ng),λe=>hx (e▸nt),z,x1,x2⟩
    have:=(E6.trans E7) x (by rw[e1];exact hx);exact this.trans e1
 have SB:=X7.td;nofun;refine mW W X7 (Zc.mpr rfl) (λc hc _=>Zc.mp hc) (by rw[NB.aM];exact ZS _) (d:=.int 5) (pr:=false) (.inr (.inl rfl)) λh8 a aA rA lA r X8 E8 hr=>?_;have bl:b.aa=1:=NB.aa;have ea:cm ([]++[b]) b.aa ⟨a,bI 0 "fun" 0+1,"const",-1,[],aA,.int 5,[],rA,[],lA,false⟩=[jY b ⟨a,3,"const",-1,[],aA,.int 5,[],rA,[],lA,false⟩]:=congrArg (λz=>[z]) (if_pos rfl);have me:ak A [jY b ⟨a,3,"const",-1,[],aA,.int 5,[],rA,[],lA,false⟩]=ak A ([]++[b]):=rfl;rw[ea] at X8;have Y8:TH h8 A [jY b ⟨a,3,"const",-1,[],aA,.int 5,[],rA,[],lA,false⟩] [1] 3 []:=by
  have Z:BH h8 A [jY b ⟨a,3,"const",-1,[],aA,.int 5,[],rA,[],lA,false⟩] [b.aa] 3 (.list []):=X8;rw[bl] at Z;exact⟨Z,λ_ z=>nomatch z⟩
 rw[<-me] at E8 hr Oo;nofun;intro jA h9 A9;have Y9:=Y8.al A9;nofun;intro e io tn;refine r_todo Y9.1 (by decide) tn 1 (js:=[]) (Y9.2.1.at hr) Y9.2.2 λs_ C7 RY=>?_;have S0:St A (aG dk (aG dc h)) 0 _ _ _ _ 0 0 _ _ s_:=⟨C7,Wf.init bl NB.aH NB.params NB.ae (by show b.bK=1;rw[NB.bK];rfl) NB.aw (by show b.aM++_=_;rw[NB.aM];rfl) rfl rfl rfl rfl,Oo.trans (E8.trans (Y9.2.1.trans RY)),Zs 1⟩;refine S0.gen λB hg hp Nt NF NG S1=>?_;replace hg:B.g=g:=hg;replace hp:B.p=p:=hp;replace Nt:B.td=td:=Nt;replace NF:B.dk=dk:=NF;replace NG:B.dc=dc:=NG;clear C7 RY Y9 Y8 tn A9 E8 hr Oo X8 ea me X7 E7 P6 RJ X6 E6 NB X0 m5 A7 SB S0 A A0;subst hg hp Nt NF NG
 revert BA q S1
 refine gen (aG B.dk (aG B.dc h)) ?_;intro j BA q S0;have fin:∀{i bs un n ah js h'} {ρ:Lo},St B j i bs un n [] 0 0 ah js h'->ρ "grown"=some (.ref B.g)->wp Φ γ (.ae "grown"<|.az (.int 0)<|.b .idx<|.ret) ρ [] h' (tv Q):=λ{i bs un n ah js h' ρ} S hρ=>by
  have F:=S.fin;have g1:=S.th.bh.g;have L0:=@wV (.ref B.p) [.int n];nofun;refine q h' ⟨B.p,B.t,bs⟩ _ _ ?_ F.2.2 F.2.1 F.1;exact S.ext.trans bj
 nofun;refine fj W.aV (n:=120) (by decide) (λi _ h'=>PI B j i h') ⟨_,_,_,_,_,_,S0⟩ ?_ ?_
 . intro i σ h0 hi z K hK _ hb;refine z.el λ{bs un n es ah js} S=>?_;have P7:=S.th.EX;nofun;refine r_ite (λw=>?_) λw=>?_
   . have e0:es=[]:=by
      cases es with
      |nil=>rfl
      |cons x y=>exact Bool.noConfusion w
     subst e0;exact PT (P:=λρ h'=>wp Φ γ _ ρ [] h' (tv Q)) hb (fin S rfl)
   . have Qp:es≠[]:=λe=>by rw[e] at w;exact Bool.noConfusion w
     obtain ⟨es,e,rfl⟩:∃es1 e,es=es1++[e]:=⟨_,_,(List.dropLast_concat_getLast Qp).symm⟩;rw[Zq] at P7;clear fin w Qp;nofun;refine r_popl P7 λh1 p1=>?_;refine oeaaa (S.pop p1) λai oa S1 T1 R1=>?_;have r1:=bj.at R1.self;refine r_unpl rfl rfl r1 ?_;nofun;refine c_ W S1.th.bh.D (by decide) (by decide) λh2 d d0 d3 fr D2=>?_;have X2:=S1.th.bh.ri fr D2;have S2:St B _ i bs un n es ai.aa 0 ah js h2:=⟨S1.th.to X2,S1.wf,S1.ext.trans X2.2,S1.cnt⟩;refine oe (W2 d0) λk dT=>?_;subst dT;have k3:k<=2:=by exact(aj 0x1120013300151110) _ d3
     nofun;refine fj W.aV (n:=k) (Zf k3 (by decide)) (PJ B j i e)
      ⟨_,_,_,_,_,_,_,_,_,rfl,oa,S2,T1,X2.2.at R1.s,X2.2.at R1.js⟩ ?_ ?_
     . intro j σ h3 hj z K2 q8 _ _;refine z.el λ{bs un n es ah js ai sn sA} l oa S T hs ND=>?_;have X:=S.wf;have ol:=(X.ok ai T.cur.mem).ch;have sl:=T.cur.sl;have M5:sn.length<=900:=by exact(aj 0x170221038462131150240107422150003f601001100a01114300151431) _ _ _ _ d3 hj ol sl
       have o2:=T.cur.ol;nofun;rw[<-oa];refine BK W S.th (BA.ext S.ext) T.cur.mem (λb hb=>(X.ch hb).2) (λb hb z=>X.uniq hb T.cur.mem z) (Zk X.len (by decide)) X.n0 (by exact(aj 0x1111a0213115102215001114300151330) _ _ _ d3 hj o2) (Zk (Zf X.vD X.len) (by decide)) hs T.cur.ne M5 λh4 eg gS n' gk rs r O Y E hr=>?_;refine oeeeaaa (S.op T (by exact(aj 0x1015000010) _) (by exact(aj 0x11110115001114300151220) _ _ d3 hj) O Y E) λvL e_ sY a1 a2 S4 T4=>?_;have Nu:=bj.at (E.at hs);have I8:=bj.at hr;have P9:=T4.cur.sl;have ol4:=(S4.wf.ok vL T4.cur.mem).ch;rw[Zb] at P9;nofun;refine r_cati Nu I8 (Zf (by exact(aj 0x1077022103846312123101152024110742312125001112003f601001100a01114300151542) _ _ _ _ _ _ d3 hj ol a2 P9:_<=900) (by decide)) λc h5 A5=>?_;have Y5:=S4.th.al A5;nofun;refine r_done (q8 _ h5 ⟨eg,gS,n',gk,e_,sY,vL,sn++rs,c,rfl,a1.trans oa,⟨Y5.1,S4.wf,S4.ext.trans Y5.2.1,S4.cnt⟩,T4,Y5.2.2,Y5.2.1.at (E.at ND)⟩)
     . intro σ h3 z;refine z.el λ{bs un n es ah js ai sn sA} l oa S T hs ND=>?_;have X:=S.wf;have O:=X.ok ai T.cur.mem;have ol:=O.ch;have sl:=T.cur.sl;have jl:=T.jl;refine oeaa O.bK λy hy yh ys=>?_;have y0:=(X.ok y hy).fvar ys;nofun;rw[<-oa];refine yR W S.th T.cur.mem (X.asc.imp λh=>Yd h) (λb hb=>(X.ch hb).2) (λb hb z=>X.uniq hb T.cur.mem z) (Zk X.len (by decide)) X.n0 (Zk (Zf X.vD X.len) (by decide)) hs T.cur.ne (by exact(aj 0x17021038461130150240107421150003f601001100a300151321) _ _ _ d3 ol sl) (λv hv=>by have:=T.cur.pos v hv;exact(aj 0x11010001101001100a102) _ _ this) ND (by exact(aj 0x110103846013010150003f601001100a211) _ _ ol jl) (λp hp=>by
        refine oeaa (T.jb p hp) λc hc c1 c2=>?_;have:=X.ch hc;exact⟨c,hc,c1,c2,by exact(aj 0x1011110002101001100a11012203) _ _ _ c2 this⟩) hy yh y0 λh4 eg gS n' gk N Y E=>?_
       refine oee (S.end T (by exact(aj 0x1015000010) _) (by exact(aj 0x11200150300151110) _ d3) hy yh y0 N Y E) λe_ sY S4=>?_;nofun;exact r_done (hK _ h4 ⟨eg,gS,n',gk,e_,sY,S4⟩)
 . intro σ h0 z;refine z.el λ{bs un n es ah js} S=>?_;have:=S.cnt;have:=S.wf.len
   (rename_i jF;exact False.elim ((aj 0x11b01110078623003f6013220) bs.length un.length this jF))
end
end
section
open PySem PySem.W PyProof.Rows PySem.Calls
theorem mj{v:Value}(h:aq v= .none):v= .none:=by cases v<;>first|rfl|cases h
theorem eG{v:Value}{b:Bool}(h:aq v= .bool b):v= .bool b:=by cases v<;>cases h;rfl
theorem bJ{v:Value}{i:Int}(h:aq v= .int i):∃t,v= .int i t:=by cases v<;>cases h;exact⟨_,rfl⟩
theorem fQ{v:Value}{x:Str}(h:aq v= .str x):∃t,v= .str x t:=by cases v<;>cases h;exact⟨_,rfl⟩
theorem aN{v:Value}{a:Nat}(h:aq v= .ref a):v= .ref a:=by cases v<;>cases h;rfl
structure dB where
 prog:Program
 w:World
 K:Frag
 base:Heap
 mg:Str->Option Value
 mb:Str->Option Value
 cls:String->Option Nat
 fn:String->Option Nat
noncomputable abbrev dB.M(W:dB):Model:=model W.prog W.w
noncomputable abbrev dB.kd(W:dB):PySem.KeyKind W.prog W.w Int:=intKind W.prog W.w
noncomputable def FR:List DictEntry->List (String×V)->Prop
 |[],[]=>True
 |e::es,f::fs=>(∃t,e.key= .str (Str.ofString f.1) t)/\aq e.val=f.2/\handedIn e.val=true/\FR es fs
 |_,_=>False
noncomputable def eQ(W:dB)(ow:Nat->Option Nat)(h:Heap)(a:Nat):O->Prop
 | .list xs=>∃vs,h.PlainList a vs/\vs.toList.map aq=xs/\xs.length<=big
 | .tup xs=>∃vs,h.IsTuple a vs/\vs.toList.map aq=xs/\xs.length<=big
 | .dict es=>∃kvs:List (Int×Value),h.DictOf W.kd a kvs/\kvs.map (λp=>(p.1,aq p.2))=es/\es.length<=big
 | .er es=>∃kvs:List (Int×Value),h.DictOf W.kd a kvs/\kvs.map (λp=>(p.1,aq p.2))=es/\es.length<=big
 | .inst C fs=>∃c dx es n,W.cls C=some c/\ow a=some dx/\h.get? a=some (instObj c dx)/\h.get? dx=some (dictOf es n)/\FR es fs/\fs.length<=100/\∀p∈fs,iy C p.1=true
 | .eA xs=>∃vs,W.base.IsList a vs/\vs.toList.map aq=xs/\xs.length<=big
 | .cZ C fs=>∃c dx es n,W.cls C=some c/\W.base.get? a=some (instObj c dx)/\W.base.get? dx=some (dictOf es n)/\FR es fs/\fs.length<=100/\∀p∈fs,iy C p.1=true
noncomputable def Mu(H:Hp)(ow:Nat->Option Nat)(b:Nat):Prop:=(∃xs,H b=some (.list xs))\/(∃es,H b=some (.dict es)\/H b=some (.er es))\/∃a,ow a=some b
structure RH(W:dB)(H:Hp)(ow:Nat->Option Nat)(h:Heap):Prop where
 obj:∀a o,H a=some o->eQ W ow h a o
 ai:∀a d,ow a=some d->H d=none/\∃C fs,H a=some (.inst C fs)
 inj:∀a b d,ow a=some d->ow b=some d->a=b
 keep:∀b o,W.base.get? b=some o->h.get? b=some o
 new:∀b,Mu H ow b->W.base.get? b=none
theorem cC{W:dB}{h:Heap}(k:∀b o,W.base.get? b=some o->h.get? b=some o){a:Nat}(e:h.get? a=none):W.base.get? a=none:=by
 cases q:W.base.get? a with
 |none=>rfl
 |some o=>rw[k _ _ q] at e;cases e
theorem eQ.lt{W:dB}{ow:Nat->Option Nat}{h:Heap}{a:Nat}{o:O}(keep:∀b o,W.base.get? b=some o->h.get? b=some o)(x:eQ W ow h a o):∃ob,h.get? a=some ob:=by
 cases o with
 |list xs=>refine oea x λvs bU _=>?_;try clear x;refine oe bU λn e=>?_;try clear bU;exact⟨_,e⟩
 |tup xs=>refine oea x λvs cu _=>?_;try clear x;refine oea cu λo e _=>?_;try clear cu;exact⟨_,e⟩
 |dict es=>refine oea x λkvs cY _=>?_;try clear x;refine oeeea cY λo es ep e _=>?_;try clear cY;exact⟨_,e⟩
 |er es=>refine oea x λkvs dT _=>?_;try clear x;refine oeeea dT λo es ep e _=>?_;try clear dT;exact⟨_,e⟩
 |inst C fs=>refine oeeeeaaa x λc dx es n _ _ e _=>?_;try clear x;exact⟨_,e⟩
 |eA xs=>refine oea x λvs gU _=>?_;try clear x;refine oea gU λo e _=>?_;try clear gU;exact⟨_,keep _ _ e⟩
 |cZ C fs=>refine oeeeeaa x λc dx es n _ e _=>?_;try clear x;exact⟨_,keep _ _ e⟩
theorem RH.live{W:dB}{H:Hp}{ow:Nat->Option Nat}{h:Heap}(R:RH W H ow h){a:Nat}{o:O}(e:H a=some o):h.get? a≠none:=by
 refine oe ((R.obj a o e).lt R.keep) λ_ x=>?_;rw[x];exact λq=>by cases q
theorem RH.rx{W:dB}{H:Hp}{ow:Nat->Option Nat}{h:Heap}(R:RH W H ow h){a:Nat}(e:h.get? a=none):H a=none:=by
 cases q:H a with
 |none=>rfl
 |some o=>exact absurd e (R.live q)
theorem RH.mH{W:dB}{H:Hp}{ow:Nat->Option Nat}{h:Heap}(R:RH W H ow h){a d:Nat}(e:ow a=some d):h.get? d≠none:=by
 refine oaee (R.ai a d e) λ_ C fs q=>?_;refine oeeeeaaaa (R.obj a _ q) λc dx es n _ e2 _ e3 _=>?_;rw[e] at e2;cases e2
 rw[e3];exact λq=>by cases q
theorem eQ.keeps{W:dB}{ow:Nat->Option Nat}{h h':Heap}{a:Nat}{o:O}(hk:∀b o,h.get? b=some o->h'.get? b=some o)(x:eQ W ow h a o):eQ W ow h' a o:=by
 cases o with
 |list xs=>refine oea x λvs e q=>?_;try clear x;exact⟨vs,e.at λo=>hk _ o,q⟩
 |tup xs=>refine oea x λvs gC q=>?_;try clear x;refine oea gC λo e r=>?_;try clear gC;exact⟨vs,⟨o,hk _ _ e,r⟩,q⟩
 |dict es=>refine oea x λkvs kB q=>?_;try clear x;refine oeeea kB λo es ep e r=>?_;try clear kB;exact⟨kvs,⟨o,es,ep,hk _ _ e,r⟩,q⟩
 |er es=>refine oea x λkvs jV q=>?_;try clear x;refine oeeea jV λo es ep e r=>?_;try clear jV;exact⟨kvs,⟨o,es,ep,hk _ _ e,r⟩,q⟩
 |inst C fs=>refine oeeeeaaaa x λc dx es n e1 e2 e3 e4 r=>?_;try clear x;exact⟨c,dx,es,n,e1,e2,hk _ _ e3,hk _ _ e4,r⟩
 |eA xs=>exact x
 |cZ C fs=>exact x
noncomputable def ei(H:Hp)(ow:Nat->Option Nat)(b:Nat):Prop:=H b≠none\/∃a,ow a=some b
theorem RH.ia{W:dB}{H:Hp}{ow:Nat->Option Nat}{h:Heap}(R:RH W H ow h){b:Nat}(m:ei H ow b):h.get? b≠none:=by
 rcases m with m|⟨a,m⟩
 . cases e:H b with
   |none=>exact absurd e m
   |some o=>exact R.live e
 . exact R.mH m
structure Go(H:Hp)(ow:Nat->Option Nat)(s:Shared)(H':Hp)(aO:Nat->Option Nat)(s':Shared):Prop where
 st:∃h' tk,s'={s with heap:=h',toks:=tk}
 keep:∀b o,¬ ei H ow b->s.heap.get? b=some o->s'.heap.get? b=some o
 sub:∀b,ei H' aO b->ei H ow b\/s.heap.get? b=none
 er:∀b es,H b=some (.er es)->H' b=some (.er es)/\∀o,s.heap.get? b=some o->s'.heap.get? b=some o
 grow:∀b,ei H ow b->ei H' aO b
theorem Go.refl(H:Hp)(ow:Nat->Option Nat)(s:Shared):Go H ow s H ow s:=⟨⟨s.heap,s.toks,rfl⟩,λ_ _ _ e=>e,λ_ m=>.inl m,λ_ _ e=>⟨e,λ_ x=>x⟩,λ_ x=>x⟩
theorem Go.trans{H H' Es:Hp}{ow aO tG:Nat->Option Nat}{s s' gT:Shared}(x:Go H ow s H' aO s')(y:Go H' aO s' Es tG gT):Go H ow s Es tG gT where
 st:=by
  refine oee x.st λh1 t1 e1=>?_;refine oee y.st λh2 t2 e2=>?_;subst e1;exact⟨h2,t2,e2⟩
 keep:=λb o m e=>y.keep b o (λm'=>(x.sub b m').elim m λl=>by rw[e] at l;cases l) (x.keep b o m e)
 sub:=λb m=>(y.sub b m).elim (x.sub b) λl=>by
  cases q:s.heap.get? b with
  |none=>exact .inr rfl
  |some o=>
   by_cases m':ei H ow b
   . exact .inl m'
   . rw[x.keep b o m' q] at l;cases l
 er:=λb es e=>oa (x.er b es e) λp q=>oa (y.er b es p) λp' q'=>⟨p',λo z=>q' o (q o z)⟩
 grow:=λb m=>y.grow b (x.grow b m)
theorem Go.tok{H H':Hp}{ow aO:Nat->Option Nat}{s s':Shared}(x:Go H ow s H' aO s')(t:Nat):Go H ow s H' aO {s' with toks:=t}:=by
 refine oee x.st λh1 t1 e1=>?_;subst e1;exact⟨⟨h1,t,rfl⟩,x.keep,x.sub,x.er,x.grow⟩
theorem Go.iu{H H':Hp}{ow aO:Nat->Option Nat}{s s':Shared}(x:Go H ow s H' aO s'){b:Nat}(m:¬ ei H ow b)(l:s.heap.get? b≠none):¬ ei H' aO b:=
 λq=>(x.sub b q).elim m l
theorem Go.off{H H':Hp}{ow aO:Nat->Option Nat}{s s':Shared}{h':Heap}{tk:Nat}(x:Go H ow s H' aO s')(X:Nat->Prop)(hk:∀b o,¬ X b->s'.heap.get? b=some o->h'.get? b=some o)
 (hX:∀b,X b->s.heap.get? b=none):Go H ow s H' aO {s' with heap:=h',toks:=tk}:=by
 refine oee x.st λh1 t1 e1=>?_;subst e1;refine⟨⟨h',tk,rfl⟩,λb o m e=>hk b o (λq=>by rw[hX b q] at e;cases e) (x.keep b o m e),x.sub,λb es e=>?_,x.grow⟩;refine oa (x.er b es e) λp q=>?_;exact⟨p,λo z=>hk b o (λw=>by rw[hX b w] at z;cases z) (q o z)⟩
theorem gb{H:Hp}{ow:Nat->Option Nat}{a b:Nat}{o:O}(m:ei (bc H a o) ow b):ei H ow b\/b=a:=by
 by_cases e:b=a
 . exact .inr e
 . exact .inl (m.imp (λm=>by rwa [bc,if_neg e] at m) id)
theorem fM{H:Hp}{ow:Nat->Option Nat}{a b:Nat}{o:O}(m:ei H ow b):ei (bc H a o) ow b:=m.imp (λm=>by unfold bc;split;exact λz=>(by cases z);exact m) id
theorem eX{H:Hp}{ow:Nat->Option Nat}{a:Nat}{o:O}(e:H a=some o):ei H ow a:=.inl (by rw[e];exact λq=>by cases q)
theorem vZ{H:Hp}{ow:Nat->Option Nat}{a b:Nat}{o:O}(m:Mu (bc H a o) ow b):Mu H ow b\/b=a:=by
 by_cases e:b=a
 . exact .inr e
 . left;rcases m with ⟨xs,m⟩|⟨xs,m⟩|m
   . exact .inl ⟨xs,by rwa [bc,if_neg e] at m⟩
   . exact .inr (.inl ⟨xs,by rwa [bc,if_neg e] at m⟩)
   . exact .inr (.inr m)
theorem RH.keeps{W:dB}{H:Hp}{ow:Nat->Option Nat}{h h':Heap}(R:RH W H ow h)(hk:∀b o,h.get? b=some o->h'.get? b=some o):RH W H ow h':=
 ⟨λa o e=>(R.obj a o e).keeps hk,R.ai,R.inj,λb o e=>hk _ _ (R.keep b o e),R.new⟩
theorem eQ.iu{W:dB}{ow:Nat->Option Nat}{h h':Heap}{a:Nat}{o:O}(x:eQ W ow h a o)
 (hk:∀o,h.get? a=some o->h'.get? a=some o) (hd:∀d,ow a=some d->∀o,h.get? d=some o->h'.get? d=some o):eQ W ow h' a o:=by
 cases o with
 |list xs=>refine oea x λvs p q=>?_;try clear x;exact⟨vs,p.at hk,q⟩
 |tup xs=>refine oea x λvs nX q=>?_;try clear x;refine oea nX λo p r=>?_;try clear nX;exact⟨vs,⟨o,hk _ p,r⟩,q⟩
 |dict es=>refine oea x λkvs gq q=>?_;try clear x;refine oeeea gq λo es ep p r=>?_;try clear gq;exact⟨kvs,⟨o,es,ep,hk _ p,r⟩,q⟩
 |er es=>refine oea x λkvs jX q=>?_;try clear x;refine oeeea jX λo es ep p r=>?_;try clear jX;exact⟨kvs,⟨o,es,ep,hk _ p,r⟩,q⟩
 |inst C fs=>refine oeeeeaaaa x λc dx es n e1 e2 e3 e4 r=>?_;try clear x;exact⟨c,dx,es,n,e1,e2,hk _ e3,hd _ e2 _ e4,r⟩
 |eA xs=>exact x
 |cZ C fs=>exact x
theorem RH.add{W:dB}{H:Hp}{ow:Nat->Option Nat}{h h':Heap}{a:Nat}{o:O}(R:RH W H ow h)(hk:∀b o,h.get? b=some o->h'.get? b=some o)(ha:h.get? a=none)
 (x:eQ W ow h' a o):RH W (bc H a o) ow h' where
 obj:=λb p e=>by
  by_cases q:b=a
  . subst q;rw[bc,if_pos rfl] at e;cases e;exact x
  . rw[bc,if_neg q] at e;exact(R.obj b p e).keeps hk
 ai:=λb d e=>by
  refine oaee (R.ai b d e) λe1 C fs e2=>?_;have h1:d≠a:=λq=>by subst q;exact R.mH e ha
  have h2:b≠a:=λq=>by subst q;exact R.live e2 ha
  exact⟨by rw[bc,if_neg h1];exact e1,C,fs,by rw[bc,if_neg h2];exact e2⟩
 inj:=R.inj
 keep:=λb o e=>hk _ _ (R.keep b o e)
 new:=λb m=>by
  rcases vZ m with m|rfl
  . exact R.new b m
  . exact cC R.keep ha
theorem RH.Ee{W:dB}{H:Hp}{ow:Nat->Option Nat}{h h':Heap}{a d:Nat}{C:String}{fs:List (String×V)}(R:RH W H ow h)(hk:∀b o,h.get? b=some o->h'.get? b=some o)
 (ha:h.get? a=none) (hd:h.get? d=none) (vw:d≠a) (x:eQ W (bc ow a d) h' a (.inst C fs)):RH W (bc H a (.inst C fs)) (bc ow a d) h' where
 obj:=λb p e=>by
  by_cases q:b=a
  . subst q;rw[bc,if_pos rfl] at e;cases e;exact x
  . rw[bc,if_neg q] at e;have y:=(R.obj b p e).keeps hk
    cases p with
    |inst C fs=>refine oeeeeaa y λc dx es n e1 e2 r=>?_;try clear y;exact⟨c,dx,es,n,e1,by rw[bc,if_neg q];exact e2,r⟩
    |_=>exact y
 ai:=λb e z=>by
  by_cases q:b=a
  . subst q;rw[bc,if_pos rfl] at z;cases z
    exact⟨by rw[bc,if_neg vw];exact R.rx hd,C,fs,by rw[bc,if_pos rfl]⟩
  . rw[bc,if_neg q] at z;refine oaee (R.ai b e z) λe1 C fs e2=>?_;have h1:e≠a:=λw=>by subst w;exact R.mH z ha
    exact⟨by rw[bc,if_neg h1];exact e1,C,fs,by rw[bc,if_neg q];exact e2⟩
 inj:=λb c e z w=>by
  by_cases q:b=a
  . by_cases r:c=a
    . rw[q,r]
    . subst q;rw[bc,if_pos rfl] at z;cases z
      rw[bc,if_neg r] at w;exact absurd hd (R.mH w)
  . rw[bc,if_neg q] at z
    by_cases r:c=a
    . subst r;rw[bc,if_pos rfl] at w;cases w
      exact absurd hd (R.mH z)
    . rw[bc,if_neg r] at w;exact R.inj b c e z w
 keep:=λb o e=>hk _ _ (R.keep b o e)
 new:=λb m=>by
  by_cases q:b=a
  . subst q;exact cC R.keep ha
  . by_cases r:b=d
    . subst r;exact cC R.keep hd
    . refine R.new b ?_;rcases m with ⟨xs,m⟩|⟨xs,m⟩|⟨c,m⟩
      . exact .inl ⟨xs,by rwa [bc,if_neg q] at m⟩
      . exact .inr (.inl ⟨xs,by rwa [bc,if_neg q] at m⟩)
      . refine .inr (.inr ⟨c,?_⟩)
        by_cases z:c=a
        . subst z;rw[bc,if_pos rfl] at m;exact absurd (Z2 m).symm r
        . rwa [bc,if_neg z] at m
theorem RH.apart{W:dB}{H:Hp}{ow:Nat->Option Nat}{h h':Heap}(R:RH W H ow h)(X:Nat->Prop)(hk:∀b o,¬ X b->h.get? b=some o->h'.get? b=some o)
 (hX:∀b,X b->¬ ei H ow b/\W.base.get? b=none):RH W H ow h' where
 obj:=λa o e=>(R.obj a o e).iu (λp z=>hk _ p (λx=>(hX _ x).1 (eX e)) z) λd y p z=>hk _ p (λx=>(hX _ x).1 (.inr ⟨_,y⟩)) z
 ai:=R.ai
 inj:=R.inj
 keep:=λb o e=>hk b o (λx=>by rw[(hX b x).2] at e;cases e) (R.keep b o e)
 new:=R.new
theorem RH.put{W:dB}{H:Hp}{ow:Nat->Option Nat}{h h':Heap}{a:Nat}{o o':O}(R:RH W H ow h)(e:H a=some o)(m:Mu H ow a)(hs:Heap.SameBut a h h')
 (no:∀C fs,o≠ .inst C fs) (x:eQ W ow h' a o'):RH W (bc H a o') ow h' where
 obj:=λb p z=>by
  by_cases q:b=a
  . subst q;rw[bc,if_pos rfl] at z;cases z;exact x
  . rw[bc,if_neg q] at z;refine(R.obj b p z).iu (λr w=>(hs.2 b q).trans w) λd y r w=>(hs.2 d ?_).trans w;rintro rfl;rw[(R.ai b d y).1] at e;cases e
 ai:=λb d y=>by
  refine oaee (R.ai b d y) λe1 C fs e2=>?_;have h1:d≠a:=λw=>by subst w;rw[e1] at e;cases e
  have h2:b≠a:=λw=>by subst w;rw[e2] at e;cases e;exact no _ _ rfl
  exact⟨by rw[bc,if_neg h1];exact e1,C,fs,by rw[bc,if_neg h2];exact e2⟩
 inj:=R.inj
 keep:=λb p z=>(hs.2 b (λq=>by subst q;rw[R.new _ m] at z;cases z)).trans (R.keep b p z)
 new:=λb q=>by
  rcases vZ q with q|rfl
  . exact R.new b q
  . exact R.new _ m
theorem RH.nz{W:dB}{H:Hp}{ow:Nat->Option Nat}{h h':Heap}{a d:Nat}{C:String}{fs MD:List (String×V)}(R:RH W H ow h)(e:H a=some (.inst C fs))(he:ow a=some d)(hs:Heap.SameBut d h h')
 (x:eQ W ow h' a (.inst C MD)):RH W (bc H a (.inst C MD)) ow h' where
 obj:=λb p z=>by
  by_cases q:b=a
  . subst q;rw[bc,if_pos rfl] at z;cases z;exact x
  . rw[bc,if_neg q] at z;refine(R.obj b p z).iu (λr w=>(hs.2 b ?_).trans w) λc y r w=>(hs.2 c ?_).trans w
    . rintro rfl;rw[(R.ai a b he).1] at z;cases z
    . rintro rfl;exact q (R.inj b a c y he)
 ai:=λb c y=>by
  refine oaee (R.ai b c y) λe1 B gs e2=>?_;have h1:c≠a:=λw=>by subst w;rw[e1] at e;cases e
  refine⟨by rw[bc,if_neg h1];exact e1,?_⟩
  by_cases q:b=a
  . subst q;exact⟨C,MD,by rw[bc,if_pos rfl]⟩
  . exact⟨B,gs,by rw[bc,if_neg q];exact e2⟩
 inj:=R.inj
 keep:=λb p z=>(hs.2 b (λq=>by subst q;rw[R.new _ (.inr (.inr ⟨a,he⟩))] at z;cases z)).trans (R.keep b p z)
 new:=λb q=>by
  refine R.new b ?_;rcases q with ⟨xs,q⟩|⟨xs,q⟩|q
  . refine .inl ⟨xs,?_⟩
    by_cases w:b=a
    . subst w;rw[bc,if_pos rfl] at q;rcases q with q|q<;>cases q
    . rwa [bc,if_neg w] at q
  . refine .inr (.inl ⟨xs,?_⟩)
    by_cases w:b=a
    . subst w;rw[bc,if_pos rfl] at q;rcases q with q|q<;>cases q
    . rwa [bc,if_neg w] at q
  . exact .inr (.inr q)
theorem Go.alive{W:dB}{H H':Hp}{ow aO:Nat->Option Nat}{s s':Shared}(x:Go H ow s H' aO s')(R:RH W H' aO s'.heap){b:Nat}(l:s.heap.get? b≠none):s'.heap.get? b≠none:=by
 cases e:s.heap.get? b with
 |none=>exact absurd e l
 |some o=>
  by_cases oc:ei H ow b
  . exact R.ia (x.grow b oc)
  . rw[x.keep b o oc e];exact λz=>by cases z
theorem Go.add{H H':Hp}{ow aO:Nat->Option Nat}{s:Shared}{h':Heap}{tk:Nat}(hk:∀b o,s.heap.get? b=some o->h'.get? b=some o)
 (sub:∀b,ei H' aO b->ei H ow b\/s.heap.get? b=none) (fr:∀b,s.heap.get? b≠none->H' b=H b) (R:∀b o,H b=some o->s.heap.get? b≠none) (gr:∀b,ei H ow b->ei H' aO b):Go H ow s H' aO {s with heap:=h',toks:=tk}:=
 ⟨⟨_,_,rfl⟩,λb o _ e=>hk b o e,sub,λb _ e=>⟨(fr b (R b _ e)).trans e,λo z=>hk b o z⟩,gr⟩
theorem Go.put{H:Hp}{ow:Nat->Option Nat}{s:Shared}{h':Heap}{tk a:Nat}{o o':O}(e:H a=some o)(hs:Heap.SameBut a s.heap h')(nf:∀x,o≠ .er x):Go H ow s (bc H a o') ow {s with heap:=h',toks:=tk}:=
 ⟨⟨_,_,rfl⟩,λb _ n z=>(hs.2 b (λq=>n (q▸eX e))).trans z,λ_ q=>.inl ((gb q).elim id λz=>z▸eX e),λb _ z=>by
  have:b≠a:=λq=>by subst q;rw[e] at z;cases z;exact nf _ rfl
  exact⟨by rw[bc,if_neg this];exact z,λo w=>(hs.2 b this).trans w⟩,λ_ m=>fM m⟩
end
section
open PySem PySem.W PyProof.Rows PySem.Calls
theorem dG:big<=sizeLine:=by rw[Wx];decide
noncomputable def bP(W:dB)(H:Hp)(ow:Nat->Option Nat)(s:Shared)(Q:V->Hp->Prop)(v':Value)(s':Shared):Prop:=
 ∃H' aO,Q (aq v') H'/\RH W H' aO s'.heap/\Go H ow s H' aO s'
noncomputable def kI(W:dB)(H:Hp)(ow:Nat->Option Nat)(s:Shared)(Q:Hp->Prop)(s':Shared):Prop:=
 ∃H' aO,Q H'/\RH W H' aO s'.heap/\Go H ow s H' aO s'
section
variable {W:dB}{A:Around}{E:Value->Shared->Prop}{s:Shared}{H:Hp}{ow:Nat->Option Nat}
theorem a_{v':Value}{Q:V->Hp->Prop}(R:RH W H ow s.heap)(q:Q (aq v') H):bP W H ow s Q v' s:=⟨H,ow,q,R,Go.refl ..⟩
theorem bE{v':Value}{Q:V->Hp->Prop}{t:Nat}(R:RH W H ow s.heap)(q:Q (aq v') H):bP W H ow s Q v' {s with toks:=t}:=⟨H,ow,q,R,(Go.refl ..).tok t⟩
theorem kR{o:O}{ob:Obj}{tk:Nat}{Q:V->Hp->Prop}(R:RH W H ow s.heap)(x:eQ W ow (s.heap.push ob) s.heap.objs.size o)(q:∀a,H a=none->Q (.ref a) (bc H a o)):
 bP W H ow s Q (.ref s.heap.objs.size) {s with heap:=s.heap.push ob,toks:=tk}:=by
 have hk:∀b p,s.heap.get? b=some p->(s.heap.push ob).get? b=some p:=λb p e=>ZM _ e;have hd:s.heap.get? s.heap.objs.size=none:=Vt (Zs _);refine⟨bc H s.heap.objs.size o,ow,q _ (R.rx hd),R.add hk hd x,Go.add hk (λb m=>?_) (λb l=>?_) (λb o e=>R.live e) λ_ m=>fM m⟩
 . rcases gb m with m|rfl
   . exact .inl m
   . exact .inr hd
 . rw[bc,if_neg];rintro rfl;exact l hd
theorem yF{vs:List Value}{Q:V->Hp->Prop}(R:RH W H ow s.heap)(hl:vs.length<=big)(q:∀a,H a=none->Q (.ref a) (bc H a (.list (vs.map aq)))):
 wpAny W.M A (newList vs) (bP W H ow s Q) E s:=
 Xb (kR (o:=.list (vs.map aq)) R ⟨vs.toArray,⟨0,ZV _ rfl⟩,rfl,by rw[Za];exact hl⟩ q) (by show vs.toArray.size<=sizeLine;rw[Xc];exact Zf hl dG)
theorem wi{vs:List Value}{Q:V->Hp->Prop}(R:RH W H ow s.heap)(hl:vs.length<=big)(q:∀a,H a=none->Q (.ref a) (bc H a (.tup (vs.map aq)))):
 wpAny W.M A (newTuple vs) (bP W H ow s Q) E s:=
 Xb (kR (o:=.tup (vs.map aq)) R ⟨vs.toArray,⟨_,ZV _ rfl,rfl,0,rfl⟩,rfl,by rw[Za];exact hl⟩ q) (by show vs.toArray.size<=sizeLine;rw[Xc];exact Zf hl dG)
theorem yG{Q:V->Hp->Prop}(R:RH W H ow s.heap)(q:∀a,H a=none->Q (.ref a) (bc H a (.dict []))):
 wpAny W.M A newDict (bP W H ow s Q) E s:=
 Xb (kR (o:=.dict []) R ⟨[],Ur _,rfl,ZS _⟩ q)
theorem de{l:List Value}{xs:List V}(e:l.map aq=xs){i:Nat}{x:V}(h:xs[i]?=some x):∃v,l[i]?=some v/\aq v=x:=by
 subst e;rw[ZQ] at h;refine oea (Z7.mp h) λv hv bU=>?_;subst bU;exact⟨v,hv,rfl⟩
theorem qK{xs:List V}{i:Int}{x:V}(h:dm xs i=some x):(0<=i/\xs[i.toNat]?=some x/\i.toNat<xs.length)\/(i<0/\-(xs.length:Int)<=i/\xs[(i+xs.length).toNat]?=some x):=by
 unfold dm at h;split at h
 . rename_i p;exact .inl ⟨p,h,(ZN.mp h).1⟩
 . split at h
   . exact .inr ⟨by omega,by omega,h⟩
   . cases h
theorem fX:∀(kvs:List (Int×Value)) (k:Int),(valueAt kvs k).map aq=(kvs.map λp=>(p.1,aq p.2)).lookup k
 |[],_=>rfl
 |(a,v)::r,k=>by
  have ih:=fX r k;unfold valueAt at ih ⊢;rw[YY,Zw,ZT]
  by_cases e:a=k
  . rw[decide_eq_true e,e,beq_self_eq_true];rfl
  . rw[decide_eq_false e,beq_eq_false_iff_ne.mpr (Yq e)];exact ih
theorem mQ{i:Int}{n:Nat}(h0:0<=i)(h:i.toNat<n):seqIndex? i n=some i.toNat:=by
 unfold seqIndex?;have h1:¬ i<0:=by exact λcx=>(aj 0x11b0001101000201) _ h0 cx
 have h2:i<(n:Int):=by exact(aj 0x11111501101501011014221) _ _ _ h (ZY _)
 simp[h1,h0,h2]
theorem seqIndex_neg{i:Int}{n:Nat}(h0:i<0)(h:-(n:Int)<=i):seqIndex? i n=some (i+n).toNat:=by
 unfold seqIndex?;have h1:0<=i+(n:Int):=by have:=Int.add_le_add_right h n;rwa [Int.add_left_neg] at this
 have h2:i+(n:Int)<n:=by exact(aj 0x11015015012100011111) _ _ h0
 simp[h1,h0,h2]
theorem oR{h:Heap}{a:Nat}{vs:Array Value}(x:h.IsTuple a vs):IsTup h a vs:=x
theorem h_{vs:Array Value}{n:Nat}(hb:(vs.toList.map aq).length<=n):vs.size<=n:=by rw[Za,Zr] at hb;exact hb
theorem EJ{vs:Array Value}{n:Nat}(hb:vs.size<=n):(vs.toList.map aq).length<=n:=by rw[Za,Zr];exact hb
theorem eB{vs:Array Value}{i:Nat}{u:Value}(h:vs.toList[i]?=some u):vs[i]?=some u:=by rw[<-Wi];exact h
theorem lO(i:Int)(t:Tok):W.kd.is i (.int i t)=true:=beq_self_eq_true i
theorem oD{n:Nat}(h:n<=big):(n:Int)<2 ^ 63:=VU (WJ.mpr h) (by decide)
theorem yK{v k:Value}{w:V}{Q:V->Hp->Prop}(R:RH W H ow s.heap)(g:GM H (aq v) (aq k) w)(q:Q w H):
 wpAny W.M A (getItem v k) (bP W H ow s Q) E s/\∃T id,s.TypeIs v T/\typeLookup (.type T) "__getitem__"=pure (some (.builtin id)):=by
 obtain ⟨a,i,e1,e2,g⟩:=g;obtain rfl:=aN e1;obtain ⟨t,rfl⟩:=bJ e2;rcases g with ⟨xs,hx,g⟩|⟨es,hx,g⟩
 . rcases hx with hx|hx
   . refine oeaa (R.obj a _ hx) λvs hp cu hb=>?_;subst cu;have hL:=hp.isList;have hz:=oD (h_ hb);refine⟨?_,"list",_,hL.typeIs,slot_list_getitem.lookup⟩;rcases qK g with ⟨h0,h1,h2⟩|⟨h0,h1,h2⟩
     . refine oea (de rfl h1) λu hu cY=>?_;subst cY;rw[Za,Zr] at h2;exact wpAny_getItem_list hL h0 (by exact(aj 0x11110111111511001114010151322) _ _ _ _ hz h2 (ZY _)) (eB hu) (a_ R q)
     . refine oea (de rfl h2) λu hu dT=>?_;subst dT;rw[Za,Zr] at h1 hu;exact wpAny_getItem_list_neg hL h0 h1 (by omega) (eB hu) (a_ R q)
   . refine oeaa (R.obj a _ hx) λvs hT gU hb=>?_;subst gU;have hz:=oD (h_ hb);refine⟨?_,"tuple",_,(oR hT).typeIs,slot_tuple_getitem.lookup⟩;rcases qK g with ⟨h0,h1,h2⟩|⟨h0,h1,h2⟩
     . refine oea (de rfl h1) λu hu gC=>?_;subst gC;rw[Za,Zr] at h2;exact getItem_tuple (j:=i.toNat) (oR hT) (by omega) (by exact(aj 0x11110111111511001114010151322) _ _ _ _ hz h2 (ZY _)) (mQ h0 h2) (eB hu) (a_ R q)
     . refine oea (de rfl h2) λu hu kB=>?_;subst kB;rw[Za,Zr] at h1 hu;exact getItem_tuple (j:=(i+vs.size).toNat) (oR hT) (by omega) (by omega) (seqIndex_neg h0 h1) (eB hu) (a_ R q)
 . have key:∃kvs:List (Int×Value),s.heap.DictOf W.kd a kvs/\kvs.map (λp=>(p.1,aq p.2))=es/\es.length<=big:=by
    rcases hx with hx|hx
    . exact R.obj a _ hx
    . exact R.obj a _ hx
   refine oeaa key λkvs hD jV hb=>?_;try clear key;subst jV
   refine⟨?_,"dict",_,hD.typeIs,slot_dict_getitem.lookup⟩;rw[<-fX] at g;refine oea (Z7.mp g) λu hu nX=>?_;subst nX;exact wpAny_getItem_of (lO i t) hD.mapOf hu (bE R q)
theorem uL{value slice:Expr}{v k:Value}{w:V}{Q:V->Hp->Prop}(R:RH W H ow s.heap)(g:GM H (aq v) (aq k) w)(q:Q w H)
 (hs:subscripted slice false v k=operate [v,k] (getItem v k)):wpAny W.M A (subscriptTail value slice v k) (bP W H ow s Q) E s:=by
 refine oaeea (yK (A:=A) (E:=E) R g q) λh T id hT hl=>?_;unfold subscriptTail;refine Zl ?_;rw[getitemInPython_of_ne hT.not_modules];refine Zl (wpAny_specialOf hT hl ?_);have fin:wpAny W.M A (subscripted slice false v k) (λr s₃=>wpAny W.M A (letTemporaryGo value v r >>= λ_=>pure r) (bP W H ow s Q) E s₃) E s:=by
  rw[hs];exact wpAny_operating (Zy h (λr s₃ h₃=>Zl (Wy (Zz h₃))) λ_ _ x=>x)
 first
  |exact Zz (Zl fin)
  |exact Zl (Zz (Zl fin))
  |exact Zl fin
theorem kh:∀{kvs:List (Int×Value)} (nd:(kvs.map (·.1)).Nodup) (k:Int) (v:Value),(stored kvs k v).map (λp=>(p.1,aq p.2))=putD (kvs.map λp=>(p.1,aq p.2)) k (aq v)
 |[],_,_,_=>rfl
 |(a,u)::r,nd,k,v=>by
  rw[Zw,ZD] at nd;have ih:=kh nd.2 k v;unfold stored at ih ⊢;rw[XI,Zw,Zw];rw[putD]
  by_cases e:a=k
  . rw[decide_eq_true e,Bool.true_or,if_pos rfl,if_pos e,if_pos e];subst e;show (a,aq v)::(r.map λkv=>if kv.1=a then(kv.1,v) else kv).map (λp=>(p.1,aq p.2))=_;refine congrArg (List.cons _) (congrArg (List.map _) ((Yo λp hp=>if_neg λ(z:p.1=a)=>?_).trans (List.map_id' r)));exact nd.1 (Zn.mpr ⟨p,hp,z⟩)
  . rw[decide_eq_false e,Bool.false_or,if_neg e,if_neg e,<-ih];split<;>rfl
theorem mT(es:List (Int×V))(k:Int)(v:V):(putD es k v).length<=es.length+1:=by
 induction es with
 |nil=>exact Zs _
 |cons p r ih=>
  obtain ⟨a,u⟩:=p;rw[putD];split
  . exact Yk _
  . exact YH ih
theorem fk{K:Type}[DecidableEq K]{prog:Program}{w:World}{knd:PySem.KeyKind prog w K}{h:Heap}{a:Addr}{kvs:List (K×Value)}(x:h.DictOf knd a kvs):(kvs.map (·.1)).Nodup:=oe x.dictAt λ_ d=>d.nodup
theorem jN{l:Addr}{items:Array Value}{k:Int}{t:Tok}{v:Value}{Q:Unit->Shared->Prop}(hl:s.heap.PlainList l items)
 (h0:0<=k) (JT:k<2 ^ 63) (hn:k<items.size)
 (hQ:∀h',h'.PlainList l (items.setIfInBounds k.toNat v)->Heap.SameBut l s.heap h'->Q () {s with heap:=h'}):
 wpAny W.M A (setItem (.ref l) (.int k t) v) Q E s:=by
 refine oe (id hl) λn ho=>?_;unfold setItem
 try with_reducible refine ZX ?_
 first|refine Zl (Zz ?_)|skip
 refine Zl (wpAny_sequenceKey hl.isList.typeIs (by decide) ?_);refine Zl (wpAny_callSpecial?_slot (name:=Str.ofString "__setitem__") hl.isList.typeIs slot_list_setitem
  (wpAny_call_entry slot_list_setitem hl.isList.typeIs entry_list_setitem ?_ (args_list_setitem _ _ _)))
 show wpAny _ _ (Builtin.List.listSubscript? (.int k t) >>= _) _ _ s;refine Zl (wpAny_listSubscript_int (fitsIndex_of h0 JT) ?_);clear JT;refine oe (W2 h0) λj gq=>?_;subst gq;have hj:j<items.size:=by exact(aj 0x11110141150151120) _ _ hn
 have CA:items[j]?=some items[j]:=YX hj;show wpAny _ _ ((seqItemAt l j >>= λr=>pure (r.map (j, ·))) >>= _) _ _ s;refine Zl (Zl (wpAny_seqItemAt ho rfl (Zz ?_)));rw[CA];have fin:Q () {s with heap:=s.heap.update l (Obj.mapSeq (·.setIfInBounds j v))}:=by
  refine hQ _ ⟨n,?_⟩ (Xj ..);rw[Xp _ ho (by simp[Obj.mapSeq,Obj.isFreed])];simp[Obj.mapSeq]
 show wpAny _ _ (setSeqItemAt l j v >>= _) _ _ s;exact Zl (wpAny_setSeqItemAt ho rfl (Zz ⟨.none,rfl,Zz fin⟩))
theorem yD{u k v:Value}{a:Nat}{o:O}{Q:Hp->Prop}(R:RH W H ow s.heap)(g:Ka H (aq u) (aq k) (aq v) a o)(q:Q (bc H a o)):
 wpAny W.M A (setItem u k v) (λ_=>kI W H ow s Q) E s:=by
 obtain ⟨i,e1,e2,g⟩:=g;obtain rfl:=aN e1;obtain ⟨t,rfl⟩:=bJ e2;rcases g with ⟨xs,hx,c1,c2,rfl⟩|⟨es,hx,c,rfl⟩
 . obtain ⟨vs,hp,rfl,hb⟩:=R.obj a _ hx;have hz:=oD (h_ hb);rw[Za,Zr] at c2;refine jN hp c1 (by exact(aj 0x11110111101511001115111014322) _ _ _ _ c2 hz (ZY _)) (by exact(aj 0x11111501101501011014221) _ _ _ c2 (ZY _)) λh' kC hs=>?_;refine⟨_,ow,q,R.put hx (.inl ⟨_,hx⟩) hs (λ_ _ z=>by cases z) ⟨_,kC,?_,?_⟩,Go.put (tk:=s.toks) hx hs (λ_ z=>by cases z)⟩
   . rw[Array.toList_setIfInBounds,List.map_set]
   . rw[List.length_set];exact hb
 . refine oeaa (R.obj a _ hx) λkvs hD jX hb=>?_;subst jX;have hl:kvs.length<big:=by rw[Za] at c;exact c
   refine wpAny_setItem_pairs (k:=i) (lO i t) hD (λh' CY hs=>?_) (Zf (ZI hl) dG);exact⟨_,ow,q,R.put hx (.inr (.inl ⟨_,.inl hx⟩)) hs (λ_ _ z=>by cases z) ⟨_,CY,kh (fk hD) _ _,Zf (mT _ _ _) c⟩,Go.put hx hs (λ_ z=>by cases z)⟩
end
end
section
open PySem PySem.W PyProof.Rows PySem.Calls
theorem xd{α β:Type}{o:Option α}{a:α}{f:α->Option β}{r:Option β}(h:o=some a)(e:f a=r):o.bind f=r:=h▸e
theorem toNat_inj:∀{l m:List Char},l.map Char.toNat=m.map Char.toNat->l=m
 |[],[],_=>rfl
 |[],_::_,e=>by cases e
 |_::_,[],e=>by cases e
 |c::l,d::m,e=>by
  rw[Zw,Zw,Vj] at e;rw[toNat_inj e.2,Char.ext (Ug.mp e.1)]
theorem d8{a b:String}(h:Str.ofString a=Str.ofString b):a=b:=by
 rw[Vf,Vf] at h;exact WX (toNat_inj (by simpa using h))
theorem sE(a b:String):(Str.ofString a==Str.ofString b)=(a==b):=by
 by_cases h:a=b
 . rw[h,beq_self_eq_true,beq_self_eq_true]
 . rw[beq_eq_false_iff_ne.mpr h,beq_eq_false_iff_ne.mpr λe=>h (d8 e)]
theorem key_is{x:DictEntry}{m n:String}(h:∃t,x.key= .str (Str.ofString m) t):x.key.isStr (Str.ofString n)=(m==n):=by
 refine oe h λt h=>?_;rw[h];exact sE m n
theorem FR.noRef:∀{es:List DictEntry} {fs:List (String×V)},FR es fs->es.any (·.refKey)=false
 |[],_,_=>rfl
 |_::_,[],h=>h.elim
 |x::es,_::_,⟨⟨t,hk⟩,_,_,hr⟩=>by
  rw[XI,hr.noRef,Bool.or_false];unfold DictEntry.refKey;rw[hk]
theorem FR.get:∀{es:List DictEntry} {fs:List (String×V)},FR es fs->∀{n:String} {w:V},fs.lookup n=some w->∃x,es.find? (λe=>e.key.isStr (Str.ofString n))=some x/\aq x.val=w/\handedIn x.val=true
 |[],[],_,_,_,e=>by cases e
 |[],_::_,h,_,_,_=>h.elim
 |_::_,[],h,_,_,_=>h.elim
 |x::es,(m,u)::fs,⟨hk,hv,hh,hr⟩,n,w,e=>by
  rw[YY,key_is hk];rw[ZT] at e
  by_cases q:m=n
  . subst q;rw[beq_self_eq_true] at e ⊢;exact⟨x,rfl,hv.trans (Z2 e),hh⟩
  . rw[beq_eq_false_iff_ne.mpr (Yq q)] at e;rw[beq_eq_false_iff_ne.mpr q];exact hr.get e
theorem FR.none:∀{es:List DictEntry} {fs:List (String×V)},FR es fs->∀{n:String},fs.lookup n=Option.none->es.find? (λe=>e.key.isStr (Str.ofString n))=Option.none
 |[],_,_,_,_=>rfl
 |_::_,[],h,_,_=>h.elim
 |x::es,(m,u)::fs,⟨hk,_,_,hr⟩,n,e=>by
  rw[YY,key_is hk];rw[ZT] at e
  by_cases q:m=n
  . rw[q,beq_self_eq_true] at e;cases e
  . rw[beq_eq_false_iff_ne.mpr (Yq q)] at e;rw[beq_eq_false_iff_ne.mpr q];exact hr.none e
theorem FR.DI{es:List DictEntry}{fs:List (String×V)}(h:FR es fs){n:String}(e:fs.lookup n=Option.none):getL (Str.ofString n) es=some Option.none:=by
 unfold getL;rw[h.none e,h.noRef];rfl
theorem FR.put:∀{es:List DictEntry} {fs:List (String×V)},FR es fs->∀(n:String) (hs:Int) (t:Nat) {v:Value},handedIn v=true->FR (putL (Str.ofString n) hs (.str (Str.ofString n) t) v es) (nz fs n (aq v))
 |[],[],_,_,_,t,_,hv=>⟨⟨t,rfl⟩,rfl,hv,trivial⟩
 |[],_::_,h,_,_,_,_,_=>h.elim
 |_::_,[],h,_,_,_,_,_=>h.elim
 |x::es,(m,u)::fs,⟨hk,h2,h3,hr⟩,n,hs,t,v,hv=>by
  unfold putL nz;rw[key_is hk]
  by_cases q:m=n
  . rw[if_pos q,if_pos (beq_iff_eq.mpr q),<-q];exact⟨hk,rfl,hv,hr⟩
  . rw[if_neg q,if_neg λz=>q (beq_iff_eq.mp z)];exact⟨hk,h2,h3,hr.put n hs t hv⟩
theorem FR.length:∀{es:List DictEntry} {fs:List (String×V)},FR es fs->es.length=fs.length
 |[],[],_=>rfl
 |[],_::_,h=>h.elim
 |_::_,[],h=>h.elim
 |_::_,_::_,⟨_,_,_,hr⟩=>congrArg Nat.succ hr.length
theorem iW:∀(fs:List (String×V)) (n:String) (v:V),(nz fs n v).length<=fs.length+1
 |[],_,_=>Zs _
 |(m,w)::r,n,v=>by
  rw[nz];split
  . exact Yk _
  . exact YH (iW r n v)
theorem t5:∀{fs:List (String×V)} {n:String} {v:V} {p:String×V},p∈nz fs n v->p∈fs\/p.1=n
 |[],_,_,p,h=>.inr (by rewrite [Zc.mp h];rfl)
 |(m,w)::r,n,v,p,h=>by
  rw[nz] at h;split at h
  . rcases Zp.mp h with rfl|h
    . exact .inr rfl
    . exact .inl (Zh _ h)
  . rcases Zp.mp h with rfl|h
    . exact .inl Ze
    . exact(t5 h).imp (Zh _) id
structure dB.Good(W:dB):Prop where
 Nn:W.K.In W.base
 cls:∀C a,W.cls C=some a->nU W.K a=true
 fld:∀C a n,W.cls C=some a->iy C n=true->findIn W.K (.ref a) (Str.ofString n)=some none
section
variable {W:dB}{A:Around}{E:Value->Shared->Prop}{s:Shared}{H:Hp}{ow:Nat->Option Nat}
theorem eM{K:Frag}{a:Nat}(h:nU K a=true):makesIn K a=true/\hasDictIn K a=true/\plainOver K a=true/\findIn K (.ref a) "__getattribute__"=some (some (.builtin "object.__getattribute__"))/\
 findIn K (.ref a) "__setattr__"=some (some (.builtin "object.__setattr__"))/\findIn K (.ref a) "__getattr__"=some none:=by
 refine oa (Zj.mp h) λh h6=>?_;refine oa (Zj.mp h) λh h5=>?_;refine oa (Zj.mp h) λh h4=>?_;refine oa (Zj.mp h) λh h3=>?_;refine oa (Zj.mp h) λh1 h2=>?_;exact⟨h1,h2,h3,beq_iff_eq.mp h4,beq_iff_eq.mp h5,beq_iff_eq.mp h6⟩
theorem nR{a:Nat}{C:String}{fs:List (String×V)}(R:RH W H ow s.heap)(h:H a=some (.inst C fs)\/H a=some (.cZ C fs)):
 ∃c dx es n,W.cls C=some c/\PySem.W.InstAt s.heap a (instObj c dx) c (some (dictOf es n))/\FR es fs/\∀p∈fs,iy C p.1=true:=by
 rcases h with h|h
 . refine oeeeeaaaaaa (R.obj a _ h) λc dx es n e1 e2 e3 e4 e5 e6 e7=>?_;exact⟨c,dx,es,n,e1,⟨e3,rfl,rfl,e4⟩,e5,e7⟩
 . refine oeeeeaaaaa (R.obj a _ h) λc dx es n e1 e3 e4 e5 e6 e7=>?_;exact⟨c,dx,es,n,e1,⟨R.keep _ _ e3,rfl,rfl,R.keep _ _ e4⟩,e5,e7⟩
theorem lookup_mem:∀{fs:List (String×V)} {n:String} {w:V},fs.lookup n=some w->(n,w)∈fs
 |[],_,_,h=>by cases h
 |(m,u)::r,n,w,h=>by
  rw[ZT] at h
  by_cases q:n=m
  . rw[q,beq_self_eq_true] at h;rw[q,<-Z2 h];exact Ze
  . rw[beq_eq_false_iff_ne.mpr q] at h;exact Zh _ (lookup_mem h)
theorem yL(G:W.Good){v:Value}{n:String}{w:V}{expr:Bool}{Q:V->Hp->Prop}(R:RH W H ow s.heap)(g:Kc H (aq v) n w)(q:Q w H):
 wpAny W.M A (getAttr v (Str.ofString n) expr) (bP W H ow s Q) E s:=by
 refine oeeeaa g λa C fs e h hl=>?_;try clear g
 obtain rfl:=aN e;refine oeeeeaaa (nR R h) λc dx es m hc I hF Jj=>?_;refine oaaaaa (eM (G.cls C c hc)) λh1 h2 h3 h4 h5 h6=>?_;refine oeaa (hF.get hl) λbU hu cu hh=>?_;obtain ⟨hs,key,u⟩:=bU;subst cu;have Fi:=G.fld C c n hc (Jj _ (lookup_mem hl));have X0:W.K.In s.heap:=λa o e=>R.keep _ _ (G.Nn a o e);refine get_value X0 I h4 ?_ hh (bE R q);refine oea (any_some h2) λcd CV hd=>?_;refine xd CV (xd Fi (xd rfl (xd rfl ?_)));show (PySem.W.ownOf _ _ _).bind _=_;unfold PySem.W.ownOf;rw[hd,if_pos rfl];have hg:lookIn (Str.ofString n) (dictOf es m)=some (some u):=by
  rw[lookIn_dict];unfold getL;rw[hu]
 show (lookIn (Str.ofString n) (dictOf es m)).bind _=_;rw[hg]
 rfl
theorem y9{v:Value}(h:cH (aq v)=false):handedIn v=true:=by cases v<;>first|rfl|cases h
theorem yE(G:W.Good){u v:Value}{n:String}{a:Nat}{o:O}{Q:Hp->Prop}(R:RH W H ow s.heap)(g:Kb H (aq u) n (aq v) a o)(q:Q (bc H a o)):
 wpAny W.M A (setAttr u (Str.ofString n) v) (λ_=>kI W H ow s Q) E s:=by
 refine oeeaaaaa g λC fs e h hlen hf Fi cY=>?_;try clear g;subst cY
 obtain rfl:=aN e;refine oeeeeaaaaaa (R.obj a _ h) λc dx es m hc ho hx hd hF Se Jj=>?_;refine oaaaaa (eM (G.cls C c hc)) λh1 h2 h3 h4 h5 h6=>?_;have X0:W.K.In s.heap:=λa o e=>R.keep _ _ (G.Nn a o e);have I:PySem.W.InstAt s.heap a (instObj c dx) c (some (dictOf es m)):=⟨hx,rfl,rfl,hd⟩;have ht:takerIn W.K c (Str.ofString n)=some none:=by unfold takerIn;rw[G.fld C c n hc hf];rfl
 refine set_plain X0 I h5 ?_;refine osa_open (s:={s with toks:=s.toks+1}) X0 I h3 ht λb=>?_;refine oea (any_some h2) λcd CV Fp=>?_;refine Zl (Zz (Zl (Zl (Vu hx (Zl (Looks.here (s:={s with toks:=s.toks+1}) (looks_clsIn X0 CV) ?_))))));rw[Fp];refine Zz (a:=some dx) (Zl (Zz (Zl ?_)));unfold nsSet;refine Zl (Zl (wpAny_askSetting (Zz (Zl (wpAny_mkText (Zl (Vu hd ?_)))))))
 dsimp only
 have IC:(!es.toArray.any (·.key.isStr (Str.ofString n))&&es.toArray.any (·.refKey))=false:=by
  rw[<-Wo,<-Wo];show (_&&es.any (·.refKey))=false;rw[hF.noRef,XX]
 rw[aRefKeyMayBeTheName_at,IC];refine wpAny_updatePart hd ?_;have e':=putName_dict (Str.ofString n) (PyData.keyHash W.w.params (Str.ofString n)) (.str (Str.ofString n) (s.toks+1)) v es m;have Mp:Heap.SameBut dx s.heap (s.heap.update dx (Obj.putName (Str.ofString n) (PyData.keyHash W.w.params (Str.ofString n)) (.str (Str.ofString n) (s.toks+1)) v)):=Xj ..;have qz:(s.heap.update dx (Obj.putName (Str.ofString n) (PyData.keyHash W.w.params (Str.ofString n)) (.str (Str.ofString n) (s.toks+1)) v)).get? dx=some (dictOf (putL (Str.ofString n) (PyData.keyHash W.w.params (Str.ofString n)) (.str (Str.ofString n) (s.toks+1)) v es) (putN (Str.ofString n) es m)):=by
  rw[Xp _ hd (by rw[e'];rfl),e']
 have Q_:=hF.put n (PyData.keyHash W.w.params (Str.ofString n)) (s.toks+1) (y9 Fi);refine Zl (wpAny_lookBehind qz (pastItsLine_dict ?_) ?_)
 . rw[Xc,Q_.length,Wx];have:=iW fs n (aq v);exact(aj 0x1111001000000821131001211300646014220) _ _ hlen this
 . have W1:a≠dx:=by
    rintro rfl;rw[(R.ai a a ho).1] at h;cases h
   have O:eQ W ow (s.heap.update dx (Obj.putName (Str.ofString n) (PyData.keyHash W.w.params (Str.ofString n)) (.str (Str.ofString n) (s.toks+1)) v)) a (.inst C (nz fs n (aq v))):=
    ⟨c,dx,_,_,hc,ho,(Mp.2 a W1).trans hx,qz,Q_,Zf (iW _ _ _) hlen,λp hp=>(t5 hp).elim (Jj p) λe=>e▸hf⟩
   refine Zz ⟨_,ow,q,R.nz h ho Mp O,⟨⟨_,_,rfl⟩,λb o no e=>(Mp.2 b (λw=>no (w▸.inr ⟨a,ho⟩))).trans e,λb mm=>.inl ?_,λb gk z=>?_,λ_ m=>fM m⟩⟩
   . rcases gb mm with z|rfl
     . exact z
     . exact eX h
   . have n1:b≠a:=by rintro rfl;rw[h] at z;cases z
     have n2:b≠dx:=by rintro rfl;rw[(R.ai a b ho).1] at z;cases z
     exact⟨by rw[bc,if_neg n1];exact z,λo w=>(Mp.2 b n2).trans w⟩
end
end
section
open PySem PySem.W PyProof.Rows PySem.Calls
noncomputable def Own(env:Env)(b:Nat):Prop:=b=env.locals\/∃n,env.cells.lookup n=some b
noncomputable def Wr(env:Env)(n:String)(b:Nat):Prop:=(env.kindOf (Str.ofString n)=some .local/\b=env.locals)\/(env.kindOf (Str.ofString n)=some .cell/\env.cells.lookup (Str.ofString n)=some b)
theorem Wr.ai{env:Env}{n:String}{b:Nat}(x:Wr env n b):Own env b:=x.imp (λx=>x.2) λlF=>oa lF λ_ e=>⟨_,e⟩
noncomputable def gV(env:Env)(n:Str):Prop:=env.kindOf n=some .cell\/env.kindOf n=some .free
structure b7(W:dB)(ρ:Lo)(env:Env)(H:Hp)(ow:Nat->Option Nat)(h:Heap):Prop where
 fn:env.scope.kind= .function
 gl:env.globals=mainGlobals
 bi:env.builtins=builtinsNs
 ns:∃m,h.Ns env.locals m/\∀x v,ρ x=some v->x≠ ".0"->env.kindOf (Str.ofString x)=some .local->∃v',m (Str.ofString x)=some v'/\aq v'=v
 cell:∀x v,ρ x=some v->gV env (Str.ofString x)->∃c v',env.cells.lookup (Str.ofString x)=some c/\h.IsCell c (some v')/\aq v'=v
 cells:∀n,gV env n->∃c v,env.cells.lookup n=some c/\h.IsCell c v
 apart:∀n c,env.cells.lookup n=some c->c≠env.locals
 apart2:∀n n' c,env.cells.lookup n=some c->env.cells.lookup n'=some c->n=n'
 off:∀b,Own env b->¬ ei H ow b/\W.base.get? b=none/\h.get? b≠none
section
variable {W:dB}{A:Around}{E:Value->Shared->Prop}{s:Shared}{H:Hp}{ow:Nat->Option Nat}{ρ:Lo}{env:Env}
theorem b7.go{H':Hp}{aO:Nat->Option Nat}{s':Shared}(x:b7 W ρ env H ow s.heap)(g:Go H ow s H' aO s'):b7 W ρ env H' aO s'.heap where
 fn:=x.fn
 gl:=x.gl
 bi:=x.bi
 ns:=oea x.ns λm n q=>⟨m,n.at' λo e=>g.keep _ o (x.off _ (.inl rfl)).1 e,q⟩
 cell:=λy v e k=>let ⟨c,v',a,⟨o,b,d⟩,r⟩:=x.cell y v e k;⟨c,v',a,⟨o,g.keep _ o (x.off _ (.inr ⟨_,a⟩)).1 b,d⟩,r⟩
 cells:=λn k=>let ⟨c,v,a,⟨o,b,d⟩⟩:=x.cells n k;⟨c,v,a,⟨o,g.keep _ o (x.off _ (.inr ⟨_,a⟩)).1 b,d⟩⟩
 apart:=x.apart
 apart2:=x.apart2
 off:=λb o=>oaa (x.off b o) λp q r=>⟨g.iu p r,q,by
  cases e:s.heap.get? b with
  |none=>exact absurd e r
  |some o=>rw[g.keep b o p e];exact λz=>by cases z⟩
theorem b7.iH{h h':Heap}(x:b7 W ρ env H ow h)(hk:∀b o,Own env b->h.get? b=some o->h'.get? b=some o):b7 W ρ env H ow h' where
 fn:=x.fn
 gl:=x.gl
 bi:=x.bi
 ns:=oea x.ns λm n q=>⟨m,n.at' λo e=>hk _ o (.inl rfl) e,q⟩
 cell:=λy v e k=>let ⟨c,v',a,⟨o,b,d⟩,r⟩:=x.cell y v e k;⟨c,v',a,⟨o,hk _ o (.inr ⟨_,a⟩) b,d⟩,r⟩
 cells:=λn k=>let ⟨c,v,a,⟨o,b,d⟩⟩:=x.cells n k;⟨c,v,a,⟨o,hk _ o (.inr ⟨_,a⟩) b,d⟩⟩
 apart:=x.apart
 apart2:=x.apart2
 off:=λb o=>oaa (x.off b o) λp q r=>⟨p,q,by
  cases e:h.get? b with
  |none=>exact absurd e r
  |some ob=>rw[hk b ob o e];exact λz=>by cases z⟩
theorem b7.AK{H':Hp}{aO:Nat->Option Nat}{h:Heap}(x:b7 W ρ env H ow h)(hs:∀b,ei H' aO b->ei H ow b):b7 W ρ env H' aO h:=
 ⟨x.fn,x.gl,x.bi,x.ns,x.cell,x.cells,x.apart,x.apart2,λb o=>oa (x.off b o) λp q=>⟨λz=>p (hs b z),q⟩⟩
theorem rv{h:Heap}{a:Nat}{m:Str->Option Value}(x:h.Ns a m):h.get? a≠none:=by
 refine oeeea x λo es ep e _=>?_;try clear x
 rw[e];exact λq=>by cases q
theorem uF{h:Heap}{a:Nat}{v:Option Value}(x:h.IsCell a v):h.get? a≠none:=by
 refine oea x λo e _=>?_;try clear x
 rw[e];exact λq=>by cases q
theorem wj(x:b7 W ρ env H ow s.heap)(R:RH W H ow s.heap){n:String}{v:V}{Q:V->Hp->Prop}(e:ρ n=some v)(k:env.kindOf (Str.ofString n)=some .local\/gV env (Str.ofString n))(h0:n≠ ".0")(q:Q v H)(hn:(Str.ofString n==("__classdict__":Str))=false):
 wpAny W.M A (loadName env (Str.ofString n)) (bP W H ow s Q) E s:=by
 rcases k with k|k
 . refine oea x.ns λm hm hq=>?_;refine oea (hq n v e h0 k) λv' hv bU=>?_;subst bU;exact wpAny_loadName_local x.fn k hm hv (a_ R q)
 . refine oeeaa (x.cell n v e k) λc v' hc hv cu=>?_;subst cu;rcases k with k|k
   . exact wpAny_loadName_cell x.fn k hc hv (a_ R q)
   . exact wpAny_loadName_free x.fn k hc hv (a_ R q) hn
theorem Hk(x:b7 W ρ env H ow s.heap)(R:RH W H ow s.heap){n:String}{p:Pos}{v:V}{Q:V->Hp->Prop}(e:ρ n=some v)(k:env.kindOf (Str.ofString n)=some .local\/gV env (Str.ofString n))(h0:n≠ ".0")(q:Q v H)(hn:(Str.ofString n==("__classdict__":Str))=false)
 (hd:(Str.ofString n==("__debug__":Str))=false):wpAny W.M A (eval (.Name (Str.ofString n) p) env) (bP W H ow s Q) E s:=
 wpAny_Name (wj x R e k h0 q hn) hd
theorem mR(x:b7 W ρ env H ow s.heap)(R:RH W H ow s.heap){n:String}{v:Value}{Q:Unit->Shared->Prop}(k:env.kindOf (Str.ofString n)=some .local\/env.kindOf (Str.ofString n)=some .cell)
 (q:∀h' tk,b7 W (bc ρ n (aq v)) env H ow h'->RH W H ow h'->(∀b o,¬ Wr env n b->s.heap.get? b=some o->h'.get? b=some o)->Q () {s with heap:=h',toks:=tk}):
 wpAny W.M A (storeName env (Str.ofString n) v) Q E s:=by
 have Qk:∀b,Wr env n b->¬ ei H ow b/\W.base.get? b=none:=λb o=>oaa (x.off b o.ai) λp q _=>⟨p,q⟩;rcases k with k|k
 . refine oea x.ns λm hm hq=>?_;refine wpAny_storeName_local k hm (λh' CU hs=>?_) (by rw[x.fn];rfl);have kp:∀b o,¬ Wr env n b->s.heap.get? b=some o->h'.get? b=some o:=λb o nb e=>(hs.2 b (λz=>nb (.inl ⟨k,z⟩))).trans e;have cellK:∀c v,(∃n,env.cells.lookup n=some c)->s.heap.IsCell c v->h'.IsCell c v:=λc v IQ ic=>oe IQ λn hc=>ic.sameBut hs (x.apart n c hc);refine q h' _ ⟨x.fn,x.gl,x.bi,⟨_,CU,λy u e y0 ky=>?_⟩,λy u e ky=>?_,λnn kn=>?_,x.apart,x.apart2,λb o=>?_⟩ (R.apart (Wr env n) kp Qk) kp
   . by_cases z:y=n
     . subst z;rw[bc,if_pos rfl] at e;cases e
       exact⟨v,if_pos rfl,rfl⟩
     . rw[bc,if_neg z] at e;have:Str.ofString y≠Str.ofString n:=λw=>z (d8 w);rw[if_neg this];exact hq y u e y0 ky
   . by_cases z:y=n
     . subst z;unfold gV at ky;rw[k] at ky;rcases ky with ky|ky<;>cases ky
     . rw[bc,if_neg z] at e;refine oeeaa (x.cell y u e ky) λc v' h1 h2 h3=>?_;exact⟨c,v',h1,cellK _ _ ⟨_,h1⟩ h2,h3⟩
   . refine oeea (x.cells nn kn) λc v h1 h2=>?_;exact⟨c,v,h1,cellK _ _ ⟨_,h1⟩ h2⟩
   . refine oaa (x.off b o) λp p2 p3=>?_;refine⟨p,p2,?_⟩
     by_cases z:b=env.locals
     . subst z;exact rv CU
     . rw[hs.2 b z];exact p3
 . refine oeea (x.cells _ (.inl k)) λc v₀ hc ic=>?_;refine wpAny_storeName_cell x.fn k hc ic λh' Np hs=>?_;have kp:∀b o,¬ Wr env n b->s.heap.get? b=some o->h'.get? b=some o:=λb o nb e=>(hs.2 b (λz=>nb (.inr ⟨k,z▸hc⟩))).trans e;have hcl:env.locals≠c:=Yq (x.apart _ _ hc);refine q h' _ ⟨x.fn,x.gl,x.bi,?_,λy u e ky=>?_,λnn kn=>?_,x.apart,x.apart2,λb o=>?_⟩ (R.apart (Wr env n) kp Qk) kp
   . refine oea x.ns λm hm hq=>?_;refine⟨m,hm.sameBut hs hcl,λy u e y0 ky=>?_⟩
     by_cases z:y=n
     . subst z;rw[k] at ky;cases ky
     . rw[bc,if_neg z] at e;exact hq y u e y0 ky
   . by_cases z:y=n
     . subst z;rw[bc,if_pos rfl] at e;cases e
       exact⟨c,v,hc,Np,rfl⟩
     . rw[bc,if_neg z] at e;refine oeeaa (x.cell y u e ky) λc' v' h1 h2 h3=>?_;refine⟨c',v',h1,h2.sameBut hs ?_,h3⟩;rintro rfl;exact z (d8 (x.apart2 _ _ _ h1 hc))
   . refine oeea (x.cells nn kn) λc' v' h1 h2=>?_
     by_cases z:c'=c
     . subst z;exact⟨c',_,h1,Np⟩
     . exact⟨c',v',h1,h2.sameBut hs z⟩
   . refine oaa (x.off b o) λp p2 p3=>?_;refine⟨p,p2,?_⟩
     by_cases z:b=c
     . subst z;exact uF Np
     . rw[hs.2 b z];exact p3
theorem Bz(x:b7 W ρ env H ow s.heap)(R:RH W H ow s.heap)(g:W.base.Ns mainGlobals W.mg){n:Str}{p:Pos}{v:Value}{Q:Value->Shared->Prop}(k:env.kindOf n=some .globalImplicit)(e:W.mg n=some v)(q:Q v s)
 (hd:(n==("__debug__":Str))=false):wpAny W.M A (eval (.Name n p) env) Q E s:=
 WS x.fn k (Calls.loadGlobal_global (x.gl▸g.keeps R.keep) e q) hd
theorem yM(x:b7 W ρ env H ow s.heap)(R:RH W H ow s.heap)(g:W.base.Ns mainGlobals W.mg)(b:W.base.Ns builtinsNs W.mb){n:Str}{p:Pos}{v:Value}{Q:Value->Shared->Prop}(k:env.kindOf n=some .globalImplicit)
 (e:W.mg n=none) (e':W.mb n=some v) (q:Q v s) (hd:(n==("__debug__":Str))=false):wpAny W.M A (eval (.Name n p) env) Q E s:=
 WS x.fn k (Calls.loadGlobal_builtin (x.gl▸g.keeps R.keep) e (x.bi▸b.keeps R.keep) e' q) hd
end
end
section
open PySem PySem.W PyProof.Rows PySem.Calls
section
variable {W:dB}{A:Around}{E:Value->Shared->Prop}{s:Shared}{H:Hp}{ow:Nat->Option Nat}
noncomputable def C9:FK->Operator
 | .add=>.Add
 | .sub=>.Sub
 | .mul=>.Mult
 | .mod=>.Mod
 | .fdiv=>.FloorDiv
theorem KO{op:FK}{x y:Value}{r:Rs}{Q:V->Hp->Prop}(R:RH W H ow s.heap)(b:BR (.bin op) (aq x) (aq y) H r)(q:r.post H Q):
 wpAny W.M A (binaryOp (C9 op) x y) (bP W H ow s Q) E s:=by
 rcases b with ⟨a,b,c,e1,e2,hr,rfl⟩|⟨a,b,xs,ys,rfl,e1,e2,hx,hy,hl,rfl⟩
 . refine oe (bJ e1) λt bU=>?_;subst bU;refine oe (bJ e2) λu cu=>?_;subst cu;have q:Q (.int c) H:=q
   cases op with
   |add=>exact PyProof.Rows.add_int (bE R ((hr:c=_)▸q))
   |sub=>exact PyProof.Rows.sub_int (bE R ((hr:c=_)▸q))
   |mul=>
    refine oaa hr λh1 h2 cY=>?_;try clear hr;subst cY
    exact PyProof.Rows.mul_int (bE R q) (.of_right (intBits_le_64 (VP (by decide) h1) (Va h2 (by decide))))
   |mod=>
    refine oa hr λh1 dT=>?_;try clear hr;subst dT
    exact mod_int' (by exact λcx=>(aj 0x11b0001201001201) _ h1 cx) (bE R (by rw[Int.fmod_eq_emod_of_nonneg _ (Xz h1)];exact q))
   |fdiv=>
    refine oaa hr λh1 h2 gU=>?_;try clear hr;subst gU
    exact floordiv_int (by exact λcx=>(aj 0x11b0001201001201) _ h1 cx) (bE R (by rw[Int.fdiv_eq_ediv_of_nonneg _ (Xz h1)];exact q)) (.inl (PyProof.noPylong_small (by omega)))
 . obtain rfl:=aN e1;obtain rfl:=aN e2;refine oeaa (R.obj a _ hx) λvs gC kB hb=>?_;refine oe gC λn1 hp=>?_;try clear gC;subst kB
   refine oeaa (R.obj b _ hy) λws jV nX p_=>?_;refine oe jV λn2 nO=>?_;try clear jV;subst nX
   rw[Za,Za] at hl;exact P.add_list hp nO (kR (o:=.list (vs.toList.map aq++ws.toList.map aq)) R ⟨vs++ws,⟨_,ZV _ rfl⟩,by rw[VF,Zq],by rw[Zb,Za,Za];exact hl⟩ q) (Zf (by rw[Zr,Zr] at hl;exact hl) dG)
noncomputable def mJ:FJ->CmpOp
 | .eq=>.Eq
 | .ne=>.NotEq
 | .lt=>.Lt
 | .gt=>.Gt
 | .le=>.LtE
 | .ge=>.GtE
 | .isin=>.In
 | .dw=>.NotIn
 | .isNone=>.Is
 | .isNotNone=>.IsNot
theorem beq_none(x:Value):(x== .none)=Iv (aq x):=by cases x<;>rfl
theorem all_true(n:Nat):(List.range n).all (λ_=>true)=true:=by simp
theorem kO{vs:Array Value}{j:Nat}(h:j<vs.size):(vs.toList.map aq)[j]?=some (aq vs[j]):=by rw[ZQ,Wi,YX h];rfl
theorem Co{A:Around}(i:Int)(t u:Tok):SeqAt.EqAt A s (.int i t) (.int i u) true:=by
 have:=(Vv i i t u).at A s
 rwa [show (i==i)=true from beq_self_eq_true _] at this
theorem same_int(R:RH W H ow s.heap){A:Around}{x y:Value}{i:Int}(e1:aq x= .int i)(e2:aq y= .int i):SeqAt.EqAt A s x y true:=by
 refine oe (bJ e1) λt gq=>?_;subst gq;refine oe (bJ e2) λu jX=>?_;subst jX;exact Co _ t u
theorem xj(R:RH W H ow s.heap)(n:Nat):∀{A:Around} {x y:Value},tJ H n (aq x) (aq y)->A.units+n<cLine->SeqAt.EqAt A s x y true:=by
 induction n with
 |zero=>exact λlF _=>oea lF λi e1 e2=>same_int R e1 e2
 |succ n ih=>
  intro A x y e hu;rcases e with ⟨i,e1,e2⟩|⟨a,b,xs,ys,e2,e3,hx,hy,hl,hq⟩
  . exact same_int R e1 e2
  obtain rfl:=aN e2;obtain rfl:=aN e3
  by_cases Q7:a=b
  . rw[Q7];exact SeqAt.EqAt.same _
  . refine oeaa (R.obj a _ hx) λvs hp qd hb=>?_;subst qd;refine oeaa (R.obj b _ hy) λws nO tD p_=>?_;subst tD;rw[Za,Za,Zr,Zr] at hl;refine SeqAt.EqAt.of_refs Q7 ?_;have:=W3 (A:=A) (s:=s) (e:=λ_=>true) hp.isList nO.isList hl (by exact(aj 0x112101421101120124130) _ _ _ hu) λj h1 h2=>
     ih (A:=A.in1) (hq j _ _ (kO h1) (kO h2)) (by show A.units+1+n<cLine;exact(aj 0x112111100122421101120124130) _ _ _ hu)
    rwa [all_true] at this
theorem we(R:RH W H ow s.heap){a b:Nat}{n:Nat}{A:Around}(e:tJ H (n+1) (.ref a) (.ref b))(hu:A.units+(n+1)<cLine):
 SeqAt.RcAt A s (.ref a) (.ref b) true/\SeqAt.RcNeAt A s (.ref a) (.ref b) false:=by
 rcases e with ⟨i,e,_⟩|⟨a',b',xs,ys,e2,e3,hx,hy,hl,hq⟩
 . cases e
 cases e2;cases e3
 refine oeaa (R.obj a _ hx) λvs hp tC hb=>?_;subst tC;refine oeaa (R.obj b _ hy) λws nO tB p_=>?_;subst tB;rw[Za,Za,Zr,Zr] at hl;have Q2:∀j (h1:j<vs.size) (h2:j<ws.size),SeqAt.EqAt A.in1 s vs[j] ws[j] true:=λj h1 h2=>
  xj R n (A:=A.in1) (hq j _ _ (kO h1) (kO h2)) (by show A.units+1+n<cLine;exact(aj 0x112111100122421101120124130) _ _ _ hu)
 have h1:=W3 (A:=A) (s:=s) (e:=λ_=>true) hp.isList nO.isList hl (by exact(aj 0x112101421101120124130) _ _ _ hu) Q2;have h2:=VV (A:=A) (s:=s) (e:=λ_=>true) hp.isList nO.isList hl (by exact(aj 0x112101421101120124130) _ _ _ hu) Q2;rw[all_true] at h1 h2;exact⟨h1,h2⟩
theorem keq_hits{kb:List (Int×Value)}{A:Around}:∀(ka:List (Int×Value)),(∀p∈ka,∃y,valueAt kb p.1=some y/\SeqAt.EqAt A s p.2 y true)->KeqHits A s kb ka true
 |[],_=>.nil
 |(k,v)::r,h=>by
  refine oea (h (k,v) Ze) λy h1 h2=>?_;exact .hit (e:=true) (b:=true) h1 h2 (keq_hits r λp hp=>h p (Zh _ hp))
theorem iT:∀{kb:List (Int×Value)},(kb.map (·.1)).Nodup->∀{i:Nat} {p:Int×Value},kb[i]?=some p->valueAt kb p.1=some p.2
 |[],_,i,p,h=>by cases i<;>cases h
 |q::r,nd,i,p,h=>by
  rw[Zw,ZD] at nd;have ih:=@iT r nd.2;unfold valueAt at ih ⊢;rw[YY]
  cases i with
  |zero=>
   have e:q=p:=Z2 h;rw[e,decide_eq_true rfl];rfl
  |succ i=>
   have vw:q.1≠p.1:=λe=>nd.1 (e▸ZG (Z4 (show r[i]?=some p from h)));rw[decide_eq_false vw];exact ih (show r[i]?=some p from h)
theorem cM(R:RH W H ow s.heap){a:Nat}{es:List (Int×V)}(h:H a=some (.dict es)\/H a=some (.er es))(sm:W.base.get? sysModules≠none):(a==sysModules)=false:=by
 have:=R.new a (.inr (.inl ⟨_,h⟩));rw[beq_eq_false_iff_ne];rintro rfl;exact sm this
theorem s_same(sm:W.base.get? sysModules≠none)(R:RH W H ow s.heap){a b:Nat}(e:rV H a b)(hu:A.units+8<cLine){Q:V->Hp->Prop}:
 (Q (.bool true) H->wpAny W.M A (compareOp .Eq (.ref a) (.ref b)) (bP W H ow s Q) E s)/\(Q (.bool false) H->wpAny W.M A (compareOp .NotEq (.ref a) (.ref b)) (bP W H ow s Q) E s):=by
 rcases e with e|⟨es,ds,ha,hb,hk,hv⟩
 . refine oa (we (A:=A) R (n:=5) e (by exact(aj 0x111110502012411800124120) _ _ hu)) λh1 h2=>?_;exact⟨λq=>h1 _ _ _ _ (a_ R q),λq=>h2 _ _ _ _ (a_ R q)⟩
 . refine oeaa (R.obj a _ ha) λka da vK ba=>?_;subst vK;refine oeaa (R.obj b _ hb) λkb db tz bb=>?_;subst tz;have hl:ka.length=kb.length:=by have:=congrArg List.length hk;rw[Za,Za,Za,Za] at this;exact this
   have hits:KeqHits A.in1 s kb ka true:=keq_hits ka λp hp=>by
    refine oe (List.mem_iff_getElem?.mp hp) λi hi=>?_;have Fm:i<kb.length:=hl▸(ZN.mp hi).1;have cE:kb[i]?=some kb[i]:=Zv Fm;have m1:(ka.map λp=>(p.1,aq p.2))[i]?=some (p.1,aq p.2):=by rw[ZQ,hi];rfl
    have m2:(kb.map λp=>(p.1,aq p.2))[i]?=some (kb[i].1,aq kb[i].2):=by rw[ZQ,cE];rfl
    have U0:p.1=kb[i].1:=by
     have e:=λl:List (Int×V)=>@ZQ _ _ (λx:Int×V=>x.1) l i;have:=congrArg (λl=>l[i]?) hk;exact Z2 (((congrArg (Option.map λx:Int×V=>x.1) m1).symm.trans (e _).symm).trans (this.trans ((e _).trans (congrArg (Option.map λx:Int×V=>x.1) m2))))
    refine⟨kb[i].2,?_,xj R 6 (A:=A.in1) (hv i _ _ m1 m2) (by show A.units+1+6<cLine;exact(aj 0x111160100122411800124120) _ _ hu)⟩;rw[U0];exact iT (fk db) cE
   have e:(ka.length==kb.length&&true)=true:=by rw[hl,beq_self_eq_true];rfl
   exact⟨λq=>keq_eq (cM R (.inl ha) sm) (cM R (.inl hb) sm) da db (by exact(aj 0x111101411800124120) _ _ hu) (λ_=>hits) (a_ R (by rw[e];exact q)),
    λq=>keq_ne (cM R (.inl ha) sm) (cM R (.inl hb) sm) da db (by exact(aj 0x111101411800124120) _ _ hu) (λ_=>hits) (a_ R (by rw[e];exact q))⟩
theorem nj:∀(ka:List (Int×Value)) (i:Int),((ka.map λp=>(p.1,aq p.2)).any λx=>x.1==i)=(valueAt ka i).isSome
 |[],_=>rfl
 |p::r,i=>by
  have ih:=nj r i;unfold valueAt at ih ⊢;rw[YY,Zw,XI,ih]
  by_cases e:p.1=i
  . rw[decide_eq_true e,beq_iff_eq.mpr e];rfl
  . rw[decide_eq_false e,beq_eq_false_iff_ne.mpr e];rfl
theorem any_map{α:Type}[BEq α][LawfulBEq α]{mk:α->V}(f:Value->Bool){i:α}(hf:∀v j,aq v=mk j->f v=(j==i)):∀{L:List Value} {l:List α},L.map aq=l.map mk->L.any f=l.contains i
 |[],[],_=>rfl
 |[],_::_,h=>by cases h
 |_::_,[],h=>by cases h
 |v::r,j::l,h=>by
  rw[Zw,Zw,Vj] at h;rw[XI,any_map f hf h.2,Xl,hf v j h.1,BEq.comm]
theorem AI(sm:W.base.get? sysModules≠none)(R:RH W H ow s.heap){x y:Value}{r:Bool}(e:GL H (aq x) (aq y) r){Q:V->Hp->Prop}:
 (Q (.bool r) H->wpAny W.M A (compareOp .In x y) (bP W H ow s Q) E s)/\(Q (.bool (!r)) H->wpAny W.M A (compareOp .NotIn x y) (bP W H ow s Q) E s):=by
 rcases e with ⟨i,a,e1,e2,⟨es,ha,rfl⟩|⟨l,ha,rfl⟩⟩|⟨i,a,l,e1,e2,ha,rfl⟩
 . refine oe (bJ e1) λt rc=>?_;subst rc;obtain rfl:=aN e2;have key:∃ka:List (Int×Value),s.heap.DictOf W.kd a ka/\ka.map (λp=>(p.1,aq p.2))=es/\es.length<=big:=by
    rcases ha with ha|ha
    . exact R.obj a _ ha
    . exact R.obj a _ ha
   refine oeaa key λka da vJ ba=>?_;try clear key;subst vJ
   rw[nj];exact⟨λq=>wpAny_in_of (k:=i) (lO i t) (cM R ha sm) da.mapOf (bE R q),λq=>wpAny_notIn_of (k:=i) (lO i t) (cM R ha sm) da.mapOf (bE R q)⟩
 . refine oe (bJ e1) λt ty=>?_;subst ty;obtain rfl:=aN e2;refine oeaa (R.obj a _ ha) λvs hp I3 hb=>?_
   let f:Value->Bool:=λv=>match v with| .int j _=>j==i|_=>false
   have hf:∀v,v∈vs->SeqAt.EqAt A.in1 s v (.int i t) (f v):=λv hv=>by
    have:aq v∈l.map V.int:=I3▸ZG (Vw.mpr hv);refine oea (Zn.mp this) λj _ hj=>?_;refine oe (bJ hj.symm) λu tx=>?_;subst tx;exact(Vv _ _ _ _).at _ _
   have Ab:vs.any f=l.contains i:=by
    rw[<-Wo];exact any_map f (λv j h=>by refine oe (bJ h) λu tw=>?_;subst tw;rfl) I3
   exact⟨λq=>SeqAt.in_listAt f hp.isList hf (a_ R (Ab▸q)),λq=>SeqAt.notIn_listAt f hp.isList hf (a_ R (Ab▸q))⟩
 . refine oe (fQ e1) λt vI=>?_;subst vI;obtain rfl:=aN e2;refine oeaa (R.obj a _ ha) λvs hp I3 hb=>?_
   let f:Value->Bool:=λv=>match v with| .str j _=>j==i|_=>false
   have hf:∀v,v∈vs->SeqAt.EqAt A.in1 s v (.str i t) (f v):=λv hv=>by
    have:aq v∈l.map V.str:=I3▸ZG (Vw.mpr hv);refine oea (Zn.mp this) λj _ hj=>?_;refine oe (fQ hj.symm) λu yj=>?_;subst yj;exact(eqGives_str _ _ _ _).at _ _
   have Ab:vs.any f=l.contains i:=by
    rw[<-Wo];exact any_map f (λv j h=>by refine oe (fQ h) λu zZ=>?_;subst zZ;rfl) I3
   exact⟨λq=>SeqAt.in_tupleAt f hp hf (a_ R (Ab▸q)),λq=>SeqAt.notIn_tupleAt f hp hf (a_ R (Ab▸q))⟩
theorem Ey(sm:W.base.get? sysModules≠none)(R:RH W H ow s.heap){x y:Value}{r:Bool}(e:Ol H (aq x) (aq y) r)(hu:A.units+8<cLine){Q:V->Hp->Prop}:
 (Q (.bool r) H->wpAny W.M A (compareOp .Eq x y) (bP W H ow s Q) E s)/\(Q (.bool (!r)) H->wpAny W.M A (compareOp .NotEq x y) (bP W H ow s Q) E s):=by
 rcases e with ⟨a,b,e1,e2,rfl⟩|⟨a,b,e1,e2,rfl⟩|⟨a,b,e1,e2,h,rfl⟩
 . refine oe (bJ e1) λt zY=>?_;subst zY;refine oe (bJ e2) λu Gf=>?_;subst Gf;exact⟨λq=>PyProof.Rows.eq_int (a_ R q),λq=>PyProof.Rows.ne_int (a_ R q)⟩
 . refine oe (fQ e1) λt Ge=>?_;subst Ge;refine oe (fQ e2) λu Gc=>?_;subst Gc;have e:decide (a=b)=(a==b):=by
    by_cases z:a=b
    . rw[decide_eq_true z,beq_iff_eq.mpr z]
    . rw[decide_eq_false z,beq_eq_false_iff_ne.mpr z]
   rw[e];exact⟨λq=>PyProof.Rows.eq_str (a_ R q),λq=>PyProof.Rows.ne_str (a_ R q)⟩
 . obtain rfl:=aN e1;obtain rfl:=aN e2;exact s_same sm R h hu
theorem KN(sm:W.base.get? sysModules≠none)(R:RH W H ow s.heap){op:FJ}{x y:Value}{r:Rs}{Q:V->Hp->Prop}(b:BR (.cmp op) (aq x) (aq y) H r)(q:r.post H Q)(hu:A.units+8<cLine):
 wpAny W.M A (compareOp (mJ op) x y) (bP W H ow s Q) E s:=by
 obtain ⟨b,rfl,h⟩:=b;have q:Q (.bool b) H:=q;have ord:∀{o:FJ},(∃i j,aq x= .int i/\aq y= .int j/\b=Gh o i j)->∃i t j u,x= .int i t/\y= .int j u/\b=Gh o i j:=λlE=>oeeaa lE λi j e1 e2 e3=>by
  refine oe (bJ e1) λt Gb=>?_;subst Gb;refine oe (bJ e2) λu Ga=>?_;subst Ga;exact⟨i,t,j,u,rfl,rfl,e3⟩
 cases op with
 |eq=>exact(Ey sm R h hu).1 q
 |ne=>
  refine(Ey sm R h hu).2 ?_;rw[WK];exact q
 |lt=>refine oeeeeaa (ord h) λi t j u F_ F9 F8=>?_;subst F_;subst F9;subst F8;exact PyProof.Rows.lt_int (a_ R q)
 |gt=>refine oeeeeaa (ord h) λi t j u F7 F5 FZ=>?_;subst F7;subst F5;subst FZ;exact PyProof.Rows.gt_int (a_ R q)
 |le=>refine oeeeeaa (ord h) λi t j u OT OS OR=>?_;subst OT;subst OS;subst OR;exact PyProof.Rows.le_int (a_ R q)
 |ge=>refine oeeeeaa (ord h) λi t j u OQ OP ON=>?_;subst OQ;subst OP;subst ON;exact PyProof.Rows.ge_int (a_ R q)
 |isin=>exact(AI sm R h).1 q
 |dw=>
  refine(AI sm R h).2 ?_;rw[WK];exact q
 |isNone=>
  refine oa h λe2 OM=>?_;try clear h;subst OM
  obtain rfl:=mj e2;exact is_none (a_ R (beq_none x▸q))
 |isNotNone=>
  refine oa h λe2 OL=>?_;try clear h;subst OL
  obtain rfl:=mj e2;exact isNot_none (a_ R (beq_none x▸q))
theorem KJ{a b:Nat}{vs:Array Value}(hp:s.heap.PlainList a vs)(nO:s.heap.PlainList b #[])(ne:Bool){P:Value->Shared->Prop}(q:P (.bool (vs.toList.isEmpty != ne)) s)(hu:A.units+8<cLine):
 wpAny W.M A (compareOp (if ne=true then .NotEq else .Eq) (.ref a) (.ref b)) P E s:=by
 by_cases h:vs.size=0
 . have hv:vs= #[]:=by simpa using h
   subst hv;have h1:=W3 (A:=A) (s:=s) (e:=λ_=>true) hp.isList nO.isList rfl (by exact(aj 0x111101411800124120) _ _ hu) (λj h1 h2=>absurd h1 (by simp));have h2:=VV (A:=A) (s:=s) (e:=λ_=>true) hp.isList nO.isList rfl (by exact(aj 0x111101411800124120) _ _ hu) (λj h1 h2=>absurd h1 (by simp))
   cases ne with
   |true=>exact h2 _ _ _ _ q
   |false=>exact h1 _ _ _ _ q
 . have hs:(vs.size != (#[]:Array Value).size)=true:=by simpa using h
   have he:vs.toList.isEmpty=false:=by simp;intro z;subst z;exact h rfl
   rw[he] at q;have h1:=SeqAt.RcAt.lists_lengths (A:=A) (s:=s) hp.isList nO.isList hs (by exact(aj 0x111101411800124120) _ _ hu);have h2:=SeqAt.RcNeAt.lists_lengths (A:=A) (s:=s) hp.isList nO.isList hs (by exact(aj 0x111101411800124120) _ _ hu)
   cases ne with
   |true=>exact h2 _ _ _ _ q
   |false=>exact h1 _ _ _ _ q
end
end
section
open PySem PySem.W PyProof.Rows PySem.Calls
section
variable {W:dB}{A:Around}{E:Value->Shared->Prop}{s:Shared}{H:Hp}{ow:Nat->Option Nat}
theorem hO{h:Heap}{l:Nat}{items:Array Value}{n:Nat}(f:Array Value->Array Value)(hl:h.get? l=some {cls:=.type "list",data:=.seq items n}):
 (h.update l (Obj.mapSeq f)).PlainList l (f items):=by
 refine⟨if (f items).size==items.size then n else n+1,?_⟩;rw[Xp _ hl rfl]
 rfl
theorem jx{a:Nat}{xs:List V}{ys:Array Value}{h':Heap}{tk:Nat}{r:Value}{Q:V->Hp->Prop}(R:RH W H ow s.heap)(ha:H a=some (.list xs))(hs:Heap.SameBut a s.heap h')(hp:h'.PlainList a ys)
 (hb:ys.size<=big) (q:Q (aq r) (bc H a (.list (ys.toList.map aq)))):bP W H ow s Q r {s with heap:=h',toks:=tk}:=
 ⟨_,ow,q,R.put ha (.inl ⟨_,ha⟩) hs (λ_ _ z=>by cases z) ⟨ys,hp,rfl,EJ hb⟩,Go.put ha hs (λ_ z=>by cases z)⟩
theorem mO(k:Int)(v:Value):∀{kvs:List (Int×Value)},((kvs.map λkv=>if kv.1=k then(kv.1,v) else kv).map (·.1))=kvs.map (·.1)
 |[]=>rfl
 |p::r=>by
  rw[Zw,Zw,Zw,mO k v];refine congrArg (· ::_) ?_;show (if p.1=k then(p.1,v) else p).1=p.1;split<;>rfl
theorem rX{kvs:List (Int×Value)}{k:Int}{v:Value}(nd:(kvs.map (·.1)).Nodup):((stored kvs k v).map (·.1)).Nodup:=by
 unfold stored;split
 . rw[mO];exact nd
 . rename_i h;rw[Zq,ZJ];refine⟨nd,Z5 _ _,λx hx y hy e=>h ?_⟩;refine oea (Zn.mp hx) λp hp z=>?_;exact W4.mpr ⟨p,hp,decide_eq_true (z.trans (e.trans (Zc.mp hy)))⟩
theorem ph:∀(more kvs:List (Int×Value)),(kvs.map (·.1)).Nodup->(merged kvs more).map (λp=>(p.1,aq p.2))=(more.map λp=>(p.1,aq p.2)).foldl (λes p=>putD es p.1 p.2) (kvs.map λp=>(p.1,aq p.2))
 |[],_,_=>rfl
 |p::r,kvs,nd=>by
  show (merged (stored kvs p.1 p.2) r).map _=_;rw[ph r _ (rX nd),kh nd]
  rfl
theorem gR:∀(ds es:List (Int×V)),(ds.foldl (λes p=>putD es p.1 p.2) es).length<=es.length+ds.length
 |[],_=>Zs _
 |p::r,es=>by
  have h1:=gR r (putD es p.1 p.2);have h2:=mT es p.1 p.2;exact Zf h1 (Zf (ZP h2 _) (YJ (XQ ..)))
theorem pN(ka:List (Int×Value))(k:Int)(d:Value):aq ((valueAt ka k).getD d)=((ka.map λp=>(p.1,aq p.2)).lookup k).getD (aq d):=by
 rw[<-fX];cases valueAt ka k<;>rfl
noncomputable def tM:Pm->String
 | .append=>"append"
 | .extend=>"extend"
 | .pop=>"pop"
 | .yo=>"pop"
 | .update=>"update"
 | .get=>"get"
noncomputable def qC:Pm->String
 | .update=>"dict"
 | .get=>"dict"
 |_=>"list"
noncomputable def AL(m:Pm):String:=qC m++ "."++tM m
theorem iC{vs:List Value}{v:V}(e:vs.map aq=[v]):∃u,vs=[u]/\aq u=v:=by
 refine oeeaa (Xv.mp e) λu l bU e1 e2=>?_;subst bU;rw[VG.mp e2];exact⟨u,rfl,e1⟩
theorem uB{ks:Array Value}{i n:Nat}(h:ks.size<=n):(ks.eraseIdxIfInBounds i).size<=n:=by
 refine Zf ?_ h;rw[<-Zr,Xh,<-Zr];exact List.length_eraseIdx_le ..
theorem wN{xs:List V}{w:V}:∀{l:List Value},l.map aq=xs++[w]->∃y,l[l.length - 1]?=some y/\aq y=w/\(l.eraseIdx (l.length - 1)).map aq=xs:=λ{l} e=>by
 refine oeeaa (List.map_eq_append_iff.mp e) λl1 l2 cu e1 e2=>?_;subst cu;refine oea (iC e2) λy cY e3=>?_;subst cY;have z:(l1++[y]).length - 1=l1.length:=by rw[Zb];rfl
 rw[z];refine⟨y,WM,e3,?_⟩;rw[List.eraseIdx_append_of_length_le (Zs _),Nat.sub_self,List.eraseIdx_cons_zero,Zu];exact e1
theorem Hf(sm:W.base.get? sysModules≠none)(R:RH W H ow s.heap){a:Nat}{m:Pm}{vs:List Value}{w:V}{o:Option O}{Q:V->Hp->Prop}(p:RP m a (vs.map aq) H w o)(q:Q w (JF H a o)):
 wpAny W.M A (call (.builtin (AL m)) (.ref a::vs) []) (bP W H ow s Q) E s:=by
 cases m with
 |append=>
  refine oeeaaaa p λxs v ha e hlen dT gU=>?_;try clear p;subst dT;subst gU
  refine oea (iC e) λv' gC kB=>?_;subst gC;subst kB;refine oeaa (R.obj a _ ha) λks hp jV hb=>?_;subst jV;have hl:ks.size<big:=by rw[Za,Zr] at hlen;exact hlen
  refine W5 hp (λh' kC hs=>jx (tk:=s.toks) R ha hs kC (by rw[Us];exact hl) ?_) (Zf (ZI hl) dG);rw[Array.toList_push,Zq];exact q
 |extend=>
  refine oeeeaaaaaa p λxs b ys ha e vw hb hlen nX gq=>?_;try clear p;subst nX;subst gq
  refine oea (iC e) λv' jX e'=>?_;subst jX;obtain rfl:=aN e';refine oeaa (R.obj a _ ha) λks qd tD vA=>?_;refine oe qd λn hp=>?_;try clear qd;subst tD
  refine oeaa (R.obj b _ hb) λls tC tB p_=>?_;refine oe tC λn2 nO=>?_;try clear tC;subst tB
  have hl:ks.size+ls.size<=big:=by rw[Za,Za,Zr,Zr] at hlen;exact hlen
  have pW:ks.size+ls.size<=sizeLine:=Zf hl dG;refine VW VX ⟨_,hp,rfl⟩ F.entry_list_extend (F.args_list_extend_2 _ _) (AutoSeq1.list_extend_list_list_0 a ks n b ls n2 ?_ (by omega) (by omega)) ⟨hp,nO,?_⟩
  . simp[Builtin.List.listTooLong];omega
  . refine jx (r:=.none) R ha (Xj ..) (hO (· ++ls) hp) (by rw[Array.size_append];exact hl) ?_;rw[VF,Zq];exact q
 |pop=>
  refine oeaa p λxs ha e vK=>?_;try clear p;subst vK
  obtain rfl:=VG.mp e;refine oeaa (R.obj a _ ha) λks tz hx vA=>?_;refine oe tz λn hp=>?_;try clear tz
  have hk:ks.size<=big:=by rw[<-hx] at vA;exact h_ vA
  refine oeaa (wN hx) λy hy rc hz=>?_;subst rc;rw[Zr] at hy hz;refine VW WD ⟨_,hp,rfl⟩ F.entry_list_pop (F.args_list_pop_1 _) (MeetsSeq.list_pop_last a ks n y (eB hy) (Zf hk dG)) ⟨hp,?_⟩;refine jx (r:=y) (tk:=s.toks) R ha (Xj ..) (hO (λxs=>xs.eraseIdxIfInBounds (ks.size - 1)) hp) (uB hk) ?_;rw[Xh,hz];exact q
 |yo=>
  refine oeaa p λxs ha e vJ=>?_;try clear p;subst vJ
  refine oea (iC e) λv' ty e'=>?_;subst ty;refine oe (bJ e') λt tx=>?_;subst tx;refine oeaa (R.obj a _ ha) λks tw hx vA=>?_;refine oe tw λn hp=>?_;try clear tw
  have hk:ks.size<=big:=by rw[<-hx] at vA;exact h_ vA
  refine oeeaa (Xv.mp hx) λy l hl vI yj=>?_;subst vI;subst yj;have qf:0<ks.size:=by rw[<-Zr,hl];exact Nat.succ_pos _
  have wS:ks[0]?=some y:=eB (by rw[hl];rfl);refine VW WD ⟨_,hp,rfl⟩ F.entry_list_pop (F.args_list_pop_2 _ _) (MeetsSeq.list_pop_at a ks n 0 t 0 y (by decide) (mQ (i:=0) (by decide) qf) wS (Zf hk dG)) ⟨hp,?_⟩;refine jx (r:=y) (tk:=s.toks) R ha (Xj ..) (hO (λxs=>xs.eraseIdxIfInBounds 0) hp) (uB hk) ?_;rw[Xh,hl];exact q
 |update=>
  refine oeeeaaaaaa p λes b ds ha e vw hb hlen zZ zY=>?_;try clear p;subst zZ;subst zY
  refine oea (iC e) λv' Gf e'=>?_;subst Gf;obtain rfl:=aN e';refine oeaa (R.obj a _ ha) λka da Ge ba=>?_;subst Ge;refine oeaa (R.obj b _ hb) λkb db Gc bb=>?_;subst Gc;have hl:ka.length+kb.length<=big:=by rw[Za,Za] at hlen;exact hlen
  refine call_meetsIn VY da.typeIs F.entry_dict_update (F.args_dict_update_2 _ _) (meets_dict_update W.kd a b vw (cM R (.inl hb) sm)) ⟨ka,kb,da,db,Zf hl dG,λh' da' db' hs=>?_⟩;exact⟨_,ow,q,R.put ha (.inr (.inl ⟨_,.inl ha⟩)) hs (λ_ _ z=>by cases z) ⟨_,da',ph kb ka (fk da),Zf (gR _ _) hlen⟩,Go.put (tk:=s.toks) ha hs (λ_ z=>by cases z)⟩
 |get=>
  refine oeeeaaa p λes k d ha e OU Gb=>?_;try clear p;subst OU;subst Gb
  refine oeeaa (Xv.mp e) λx l Ga e1 e2=>?_;subst Ga;refine oea (iC e2) λy F_ F9=>?_;subst F_;subst F9;refine oe (bJ e1) λt F8=>?_;subst F8;refine oeaa (R.obj a _ ha) λka da F7 ba=>?_;subst F7;refine call_meetsIn WE da.typeIs F.entry_dict_get (F.args_dict_get_3 _ _ _) (meets_dict_get_default W.kd a (k:=k) (lO k t) (cM R (.inl ha) sm) y) ⟨valueAt ka,da.mapOf,bE R ?_⟩;rw[pN];exact q
theorem yI(R:RH W H ow s.heap){a:Nat}{m:Pm}{pl:Sem Bool}{Q:Value×List Value->Shared->Prop}(p:Kind H (.ref a) (qC m))(q:Q (.builtin (AL m),[.ref a]) s)(no:∀fs,H a≠some (.inst (qC m) fs)):
 wpAny W.M A (getMethod (.ref a) (Str.ofString (tM m)) pl) Q E s:=by
 refine oea p λb e p=>?_
 cases e
 rcases p with ⟨fs,p⟩|⟨e,xs,p⟩|⟨e,es,p⟩
 . exact absurd p (no fs)
 . refine oeaa (R.obj a _ p) λks hp F5 vA=>?_;subst F5;have hd:∀b,Value.ref a= .ref b->∃o,s.heap.get? b=some o/\o.dict=none:=λb e=>by cases e;refine oe hp λn e=>?_;try clear hp;exact⟨_,e,rfl⟩
   cases m with
   |append=>exact Xd hp.isList.typeIs Wb F.slot_list_append F.type_list_append hd q
   |extend=>exact Xd hp.isList.typeIs Wb VX F.type_list_extend hd q
   |pop=>exact Xd hp.isList.typeIs Wb WD F.type_list_pop hd q
   |yo=>exact Xd hp.isList.typeIs Wb WD F.type_list_pop hd q
   |update=>exact absurd e (by decide:¬ "dict"="list")
   |get=>exact absurd e (by decide:¬ "dict"="list")
 . refine oeaa (R.obj a _ p) λka da FZ ba=>?_;subst FZ
   cases m with
   |update=>exact Xd da.typeIs Ua VY F.type_dict_update da.mapOf.noDict q
   |get=>exact Xd da.typeIs Ua WE Vk da.mapOf.noDict q
   |_=>exact absurd e (by decide:¬ "list"="dict")
end
end
section
open PySem PySem.W PyProof.Rows PySem.Calls
section
variable {W:dB}{A:Around}{E:Value->Shared->Prop}{s:Shared}{H:Hp}{ow:Nat->Option Nat}
theorem eD{a:Nat}{o:O}{h':Heap}{tk:Nat}{Q:V->Hp->Prop}(R:RH W H ow s.heap)(hk:∀b p,s.heap.get? b=some p->h'.get? b=some p)(ha:s.heap.get? a=none)
 (x:eQ W ow h' a o) (q:∀a,H a=none->Q (.ref a) (bc H a o)):bP W H ow s Q (.ref a) {s with heap:=h',toks:=tk}:=by
 refine⟨bc H a o,ow,q _ (R.rx ha),R.add hk ha x,Go.add hk (λb m=>?_) (λb l=>?_) (λb o e=>R.live e) λ_ m=>fM m⟩
 . rcases gb m with m|rfl
   . exact .inl m
   . exact .inr ha
 . rw[bc,if_neg];rintro rfl;exact l ha
theorem bT{h:Heap}{a:Nat}(e:h.objs.size<=a):h.get? a=none:=Vt e
theorem Bk(R:RH W H ow s.heap){a:Nat}{xs:List V}(h:H a=some (.list xs)\/H a=some (.eA xs)):∃vs,s.heap.IsList a vs/\vs.toList.map aq=xs/\vs.size<=big:=by
 rcases h with h|h
 . refine oeaa (R.obj a _ h) λvs hp bU hb=>?_;subst bU;exact⟨vs,hp.isList,rfl,h_ hb⟩
 . refine oeaa (R.obj a _ h) λvs hp cu hb=>?_;subst cu;exact⟨vs,hp.at λo=>R.keep _ o,rfl,h_ hb⟩
theorem KM(sm:W.base.get? sysModules≠none)(R:RH W H ow s.heap){v:Value}{r:Rs}{Q:V->Hp->Prop}(u:UR .len (aq v) H r)(q:r.post H Q):
 wpAny W.M A (call (.builtin "len") [v]) (bP W H ow s Q) E s:=by
 refine oeeaa u λa n e h cY=>?_;try clear u;subst cY
 obtain rfl:=aN e;have q:Q (.int n) H:=q;rcases h with ⟨xs,h,rfl⟩|⟨es,h,rfl⟩
 . refine oeaa (Bk R h) λvs hl dT hb=>?_;subst dT;rw[Za,Zr] at q;exact call_len_list hl (oD hb) (bE R q)
 . have key:∃ka:List (Int×Value),s.heap.DictOf W.kd a ka/\ka.map (λp=>(p.1,aq p.2))=es/\es.length<=big:=by
    rcases h with h|h
    . exact R.obj a _ h
    . exact R.obj a _ h
   refine oeaa key λka hd gU hb=>?_;try clear key;subst gU
   rw[Za] at q hb;exact call_len_dict (cM R h sm) hd (oD hb) (bE R q)
theorem KP(R:RH W H ow s.heap){i:Int}{t:Tok}{Q:V->Hp->Prop}(q:Q (.int i.natAbs) H):wpAny W.M A (call (.builtin "abs") [.int i t]) (bP W H ow s Q) E s:=by
 refine call_abs_int λu tk=>bE R ?_;have:(if i<0 then -i else i)=(i.natAbs:Int):=by split;exact(Int.ofNat_natAbs_of_nonpos (Xz ‹_›)).symm;exact(Int.natAbs_of_nonneg (Uy.mp ‹_›)).symm
 show Q (.int (if i<0 then -i else i)) H;rw[this];exact q
theorem intsAre_of:∀{L:List Value} {l:List Int},L.map aq=l.map V.int->IntsAre L l
 |[],[],_=>.nil
 |[],_::_,h=>by cases h
 |_::_,[],h=>by cases h
 |v::L,i::l,h=>by
  rw[Zw,Zw,Vj] at h;refine oe (bJ h.1) λt gC=>?_;subst gC;exact .cons i t (intsAre_of h.2)
theorem pe{L:List Value}{l:List Int}(h:IntsAre L l):L.map aq=l.map V.int:=by
 induction h with
 |nil=>rfl
 |cons n t _ ih=>rw[Zw,Zw,ih];rfl
theorem ui{l m:List Int}(p:m.Perm l)(s:m.Pairwise (· <= ·)):m=bD l:=by
 refine WW (le:=λa b=>a<=b) (λa b _ _ h1 h2=>ZA h1 h2) s ?_ (p.trans (WG l _).symm);have:=WY (le:=λ(a b:Int)=>decide (a<=b)) (λa b c h1 h2=>decide_eq_true (V4 (of_decide_eq_true h1) (of_decide_eq_true h2))) (λa b=>by
  rcases Int.le_total a b with h|h
  . rw[decide_eq_true h];rfl
  . rw[decide_eq_true h,Bool.or_true]) l
 exact this.imp λh=>of_decide_eq_true h
theorem sG(l:List Int):(bD l).length=l.length:=(WG l _).length_eq
theorem ug{ka:List (Int×Value)}{L:List Value}(h:L.length=ka.length)(tI:∀(i:Nat) (v:Value),L[i]?=some v->∃k x,ka[i]?=some (k,x)/\W.kd.is k v=true):L.map aq=(ka.map (·.1)).map V.int:=by
 refine XZ λj=>?_;rw[ZQ,ZQ,ZQ]
 cases hj:L[j]? with
 |none=>rw[Yx (h▸YE.mp hj)];rfl
 |some v=>
  refine oeea (tI j v hj) λk x UX Nz=>?_;rw[UX];have:v.isInt k=true:=Nz
  cases v with
  |int i t=>exact congrArg (λz=>some (V.int z)) (beq_iff_eq.mp this)
  |_=>cases this
theorem Bw(sm:W.base.get? sysModules≠none)(hh:A.handled=none)(R:RH W H ow s.heap){a:Nat}{l:List Int}{Q:V->Hp->Prop}
 (h:H a=some (.list (l.map .int))\/∃es,H a=some (.dict es)/\l=es.map (·.1)) (zD:l.length<64) (q:∀c,H c=none->Q (.ref c) (bc H c (.list ((bD l).map .int)))):
 wpAny W.M A (call (.builtin "sorted") [.ref a]) (bP W H ow s Q) E s:=by
 have hb:((bD l).map V.int).length<=big:=by rw[Za,sG];exact Zf (ZI zD) (by decide)
 rcases h with ha|⟨es,ha,rfl⟩
 . refine oeaa (R.obj a _ ha) λvs hp e _=>?_;have hI:=intsAre_of e;have hlen:vs.toList.length<64:=by rw[hI.length];exact zD
   refine sorted_ints (vs:=vs.toList) hp.isList hI hlen λout Th h1 h2 h3=>?_;obtain rfl:=ui h2 h3;refine oe (sortedAll_at s.heap vs.toList out) λe he=>?_;exact eD (tk:=s.toks) R (λb p e=>sortedAll_old e) (bT (Yk _)) (o:=.list ((bD l).map .int)) ⟨out,⟨e,he⟩,pe h1,hb⟩ q
 . refine oeaa (R.obj a _ ha) λka hd kB _=>?_;subst kB;refine oe hd.dictAt λep Fs=>?_;have hlen:ka.length<64:=by rw[Za,Za] at zD;exact zD
   refine call_function_entry kind_sorted plain_sorted entry_sorted (args_sorted1 _) ?_;unfold Builtin.«sorted»;refine Zl (m:=checkCount "sorted" 1 1 _) (Zz ?_);refine Zl (kdu_collect (A:=A.in1) (kdl_dict (knd:=W.kd) (kvs:=ka) (ep:=ep) (cM R (.inl ha) sm)) hh Fs (by rw[Wx];exact(aj 0x1101000000801300406014110) _ hlen) λh' tk acc hk tI=>?_);have hl:acc.toList.length=ka.length:=by rw[Zr];exact tI.1
   have hI:IntsAre acc.toList ((ka.map λp=>(p.1,aq p.2)).map (·.1)):=by
    refine intsAre_of ((ug hl λi v e=>tI.2 i v (eB e)).trans (congrArg _ ?_));rw[Zt];rfl
   refine Zl (wpAny_newList ?_ (by rw[hl,Wx];exact(aj 0x1101000000801300406014110) _ hlen));have Iy:(h'.push (seqObj "list" acc.toList.toArray 0)).get? h'.objs.size=some (seqObj "list" acc.toList.toArray 0):=ZV _ rfl;refine Zl (ZX (wpAny_call_entry slot_list_sort ⟨_,Iy,rfl⟩ entry_list_sort (list_sort_tree Iy hI (by rw[hl];exact hlen) λout Th a1 a2 a3=>⟨_,rfl,?_⟩) (args_list_sort _)));obtain rfl:=ui a2 a3;refine oe (sortedHeap_at (out:=out) Iy) λe he=>?_;refine Zz ⟨_,rfl,eD (tk:=tk) R (λb p e=>?_) ?_ (o:=.list ((bD ((ka.map λp=>(p.1,aq p.2)).map (·.1))).map .int)) ⟨out,⟨e,he⟩,pe a1,hb⟩ q⟩
   . have e1:=hk b p e;have lt:=Yi e1;rw[sortedHeap_old (Xe lt) (by rw[size_push'];exact XU lt),Ub _ _ _ (Xe lt)];exact e1
   . cases q:s.heap.get? h'.objs.size with
     |none=>rfl
     |some p=>exact absurd (Yi (hk _ _ q)) (Ws _)
theorem wk(R:RH W H ow s.heap){a:Nat}{xs:List V}{Q:V->Hp->Prop}(ha:H a=some (.list xs))(q:∀c,H c=none->Q (.ref c) (bc H c (.list xs))):
 wpAny W.M A (call (.type "list") [.ref a]) (bP W H ow s Q) E s:=by
 refine oeaa (R.obj a _ ha) λvs jV nX hb=>?_;refine oe jV λn hp=>?_;try clear jV;subst nX
 have cE:=h_ hb;exact call_list_seq a (.inl rfl) hp rfl rfl (λh' c' hk hc=>eD (tk:=s.toks) R hk (bT (Zs _)) (o:=.list (vs.toList.map aq)) ⟨vs,⟨c',hc⟩,rfl,hb⟩ q) (Zf cE dG)
theorem wq(sm:W.base.get? sysModules≠none)(R:RH W H ow s.heap){a:Nat}{es:List (Int×V)}{Q:V->Hp->Prop}(ha:H a=some (.dict es))(q:∀c,H c=none->Q (.ref c) (bc H c (.dict es))):
 wpAny W.M A (call (.type "dict") [.ref a]) (bP W H ow s Q) E s:=by
 refine oeaa (R.obj a _ ha) λka hd gq hb=>?_;subst gq;have cE:ka.length<=big:=by rw[Za] at hb;exact hb
 refine kt_call_dict (cM R (.inl ha) sm) hd (Zf cE dG) λh' qz hs=>?_;refine eD (tk:=s.toks) R (λb p e=>?_) (bT (Zs _)) (o:=.dict (ka.map λp=>(p.1,aq p.2))) ⟨ka,qz,rfl,hb⟩ q;have:=Xe (Yi e);exact(hs.2 b this).trans (ZM _ e)
end
end
section
open PySem PySem.W PyProof.Rows PySem.Calls
structure dB.MO(W:dB):Prop where
 ai:∀C a,W.cls C=some a->ry W.K a=true
 get:specialIn W.K (.builtin "object.__class__") "__get__"=some (some (.builtin "getset_descriptor.__get__"))
 LZ:takesIn W.K (.builtin "object.__class__")=some true
 pair:∀C a C' a',W.cls C=some a->W.cls C'=some a'->kitOne W.K (.ref a) (.ref a')=some (C==C')
 int:∀C a,W.cls C=some a->kitOne W.K (.type "int") (.ref a)=some false
 bool:∀C a,W.cls C=some a->kitOne W.K (.type "bool") (.ref a)=some false
 OY:∀C a,W.cls C=some a->kitOne W.K (.ref a) (.type "bool")=some false
 Gq:kitOne W.K (.type "int") (.type "bool")=some false
section
variable {W:dB}{A:Around}{E:Value->Shared->Prop}{s:Shared}{H:Hp}{ow:Nat->Option Nat}
theorem KI{b:Nat}{t u:Tok}(R:RH W H ow s.heap){Q:V->Hp->Prop}(hb:b=9\/b=60)(q:Q (.int ((10:Int) ^ b)) H):wpAny W.M A (binaryOp .Pow (.int 10 t) (.int b u)) (bP W H ow s Q) E s:=by
 rcases hb with rfl|rfl
 . exact Ul (by decide) (by decide) (by decide) (by decide) (by decide) (bE R q)
 . exact Ul (by decide) (by decide) (by decide) (by decide) (by decide) (bE R q)
theorem KL{i:Int}{t:Tok}(R:RH W H ow s.heap){Q:V->Hp->Prop}(q:Q (.int (-i)) H):wpAny W.M A (unaryOp .USub (.int i t)) (bP W H ow s Q) E s:=Vx (bE R q)
theorem zX(G:W.Good)(R:RH W H ow s.heap):W.K.In s.heap:=λa o e=>R.keep _ _ (G.Nn a o e)
theorem uf{K:Frag}{x D:Nat}{ox od:Obj}(h:ry K D=true)(hn:specialIn K (.builtin "object.__class__") "__get__"=some (some (.builtin "getset_descriptor.__get__")))(T_:takesIn K (.builtin "object.__class__")=some true):
 KitX K (.ref x) (.ref D) (λh=>PySem.W.InstAt h x ox D (some od)):=by
 refine oa (Zj.mp h) λh h4=>?_;refine oa (Zj.mp h) λh h3=>?_;refine oa (Zj.mp h) λh1 h2=>?_;exact kitx_own h1 h2 (beq_iff_eq.mp h3) hn T_ (beq_iff_eq.mp h4)
theorem Bx(G:W.Good)(I:W.MO)(R:RH W H ow s.heap){C:String}{c:Nat}(hc:W.cls C=some c){v:Value}{r:Rs}{Q:V->Hp->Prop}(u:UR (.cK C) (aq v) H r)(q:r.post H Q):wpAny W.M A (call (.builtin "isinstance") [v,.ref c]) (bP W H ow s Q) E s:=by
 have X:=zX G R;refine oea u λb bU h=>?_;try clear u;subst bU
 rcases h with ⟨i,e,rfl⟩|⟨b',e,rfl⟩|⟨B,⟨a,fs,e,h⟩,rfl⟩
 . refine oe (bJ e) λt cu=>?_;subst cu;exact Uc kitx_int X trivial (I.int C c hc) (λz=>by cases z) λtk=>bE R q
 . obtain rfl:=eG e;exact Uc kitx_bool X trivial (I.bool C c hc) (λz=>by cases z) λtk=>bE R q
 . obtain rfl:=aN e;refine oeeeeaa (nR R h) λd dx es m hd hI _=>?_;exact Uc (uf (I.ai B d hd) I.get I.LZ) X hI (I.pair B d C c hd hc) (λz=>by cases z) λtk=>bE R q
theorem By(G:W.Good)(I:W.MO)(R:RH W H ow s.heap){v:Value}{r:Rs}{Q:V->Hp->Prop}(u:UR .isBool (aq v) H r)(q:r.post H Q):wpAny W.M A (call (.builtin "isinstance") [v,.type "bool"]) (bP W H ow s Q) E s:=by
 have X:=zX G R;refine oea u λb cY h=>?_;try clear u;subst cY
 rcases h with ⟨i,e,rfl⟩|⟨b',e,rfl⟩|⟨B,⟨a,fs,e,h⟩,rfl⟩
 . refine oe (bJ e) λt dT=>?_;subst dT;exact Uc kitx_int X trivial I.Gq (λz=>by cases z) λtk=>bE R q
 . obtain rfl:=eG e;exact Uc kitx_bool X trivial (b:=true) (by unfold kitOne;rw[if_pos (by rfl)]) (λz=>by cases z) λtk=>bE R q
 . obtain rfl:=aN e;refine oeeeeaa (nR R h) λd dx es m hd hI _=>?_;exact Uc (uf (I.ai B d hd) I.get I.LZ) X hI (I.OY B d hd) (λz=>by cases z) λtk=>bE R q
theorem yO(items:Array Value)(k:Nat):(slicePick items none (some (k:Int)) none).toList=items.toList.take k:=by
 rewrite [kmk_pick_nat items (a:=0) (b:=min k items.size) ?_]
 . simp only[UB,Nat.sub_zero];rw[<-Zr,kmk_take_min]
 . unfold sliceBounds;simp;rw[if_neg (Uy.mpr (Yb k))];refine(Int.max_eq_right (Int.le_min.mpr ⟨Yb _,Yb _⟩)).trans ?_;exact(Nat.le_total k items.size).elim (λh=>by rw[Nat.min_eq_left h,Int.min_eq_left (WJ.mpr h)]) λh=>by rw[Nat.min_eq_right h,Int.min_eq_right (WJ.mpr h)]
theorem mS(R:RH W H ow s.heap){a:Nat}{vs:Array Value}{value slice:Expr}{vl vu vk:Value}{lo hi st:Option Int}{aM:List Value}{Q:V->Hp->Prop}(hl:s.heap.IsList a vs)(hb:vs.size<=big)
 (pl:IsPart vl lo) (pu:IsPart vu hi) (pk:IsPart vk st) (h0:st≠some 0) (hz:(slicePick vs lo hi st).size<=big) (q:∀c,H c=none->Q (.ref c) (bc H c (.list ((slicePick vs lo hi st).toList.map aq))))
 (hs:∀i,subscripted slice false (.ref a) i=operate (aM++[i]) (getItem (.ref a) i)\/subscripted slice false (.ref a) i=operate ([i]++aM) (getItem (.ref a) i)) (ht:∀r,letTemporaryGo value (.ref a) r=pure ()):
 wpAny W.M A (subscriptTail value slice (.ref a) (.ref s.heap.objs.size)) (bP W H ow s Q) E {s with heap:=s.heap.push {cls:=.type "slice",data:=.fields #[vl,vu,vk]}}:=by
 have hk:∀b p,s.heap.get? b=some p->((s.heap.push {cls:=.type "slice",data:=.fields #[vl,vu,vk]}).push {cls:=.type "list",data:=.seq (slicePick vs lo hi st)}).get? b=some p:=
  λb p e=>ZM _ (ZM _ e)
 have fin:wpAny W.M A (getItem (.ref a) (.ref s.heap.objs.size)) (bP W H ow s Q) E {s with heap:=s.heap.push {cls:=.type "slice",data:=.fields #[vl,vu,vk]}}:=by
  refine wpAny_getItem_list_slice (hl.push _) (Heap.IsSliceOf.new ..) pl pu pk h0 ?_ (Zf hb dG);exact eD (tk:=s.toks) R hk (bT (by rw[Vy];exact Yk _)) (o:=.list ((slicePick vs lo hi st).toList.map aq)) ⟨_,⟨0,ZV _ rfl⟩,rfl,by simpa using hz⟩ q
 have hT:=Heap.IsList.typeIs (s:={s with heap:=s.heap.push {cls:=.type "slice",data:=.fields #[vl,vu,vk]}}) (hl.push _);rcases hs (.ref s.heap.objs.size) with h|h
 . exact subscriptTail_ops hT VH fin h ht
 . exact subscriptTail_ops hT VH fin h ht
end
end
section
open PySem PySem.W PyProof.Rows PySem.Calls
section
variable {prog:Program}{w:World}{A:Around}{E:Value->Shared->Prop}{s:Shared}
theorem DB(a:Addr){o:Obj}{xs:Array Value}{k:Nat}{Q:Option Value->Shared->Prop}(hx:s.heap.get? a=some o)(hc:o.cls= .type "list")(ig:o.data= .seq xs k)(hd:o.dict=none)(hA:A.handled=none)
 (h:∀h' tk,(∀b p,s.heap.get? b=some p->h'.get? b=some p)->Q none {s with heap:=h',toks:=tk}):
 wpAny (model prog w) A (getAttr? (.ref a) "keys") Q E s:=by
 obtain ⟨c,MI,dat,sl⟩:=o;simp only at hc ig hd;subst hc ig hd;obtain ⟨hp,g,d,tk,os⟩:=s;have hT:∀Im,(⟨hp,g,d,Im,os⟩:Shared).TypeIs (.ref a) "list":=λ_=>⟨_,hx,rfl⟩;have f1:=sub_AttributeError;have f3:=XM.lookup;have f4:=XM.bind (.ref a);have f5:=am_list_getattr_none;have Lg:typeLookup (.type "list") "keys"=pure none:=am_miss_of_fast (by decide+kernel);unfold getAttr? getAttrBy? getAttrBy
 repeat (any_goals (first|assumption|exact hT _|((with_reducible show wpAny _ _ (call (Value.builtin "list.__getattribute__") _ _) _ _ _);refine VW XM (hT _) am_entry_list_getattribute (F.args_list_getattribute_2 _ _) (meets_getattribute_miss_list a xs k sl "keys" _ Lg rfl) ⟨hx,hA,λh' Im e CA=>?_⟩)|wp_step))
 refine oee CA.there λt' u' he=>?_;show wpAny _ _ (getattributeRaised _ _ _ _ _ _ _) _ _ _;unfold getattributeRaised
 repeat (any_goals (first|assumption|wp_step))
 all_goals exact h _ _ CA.of.keeps
theorem i7:entryFor table "dict.update.loop"=some Builtin.«dict.update.loop»:=by first|exact entryFor_of_tree (by kernel_rfl)|exact entryFor_of_fast (by kernel_rfl)
theorem d_:plainId "dict.update.loop"=true:=by decide+kernel
structure jr(K:PySem.KeyKind prog w Int)(h:Heap)(l:Nat)(items:Array Value)(ps:List (Int×Value)):Prop where
 list:h.IsList l items
 len:items.size=ps.length
 at':∀(i:Nat) (p:Int×Value),ps[i]?=some p->∃t key,items[i]?=some (Value.ref t)/\h.IsTuple t #[key,p.2]/\K.is p.1 key=true
theorem jr.keep{K:PySem.KeyKind prog w Int}{h h':Heap}{l:Nat}{items:Array Value}{ps:List (Int×Value)}(x:jr K h l items ps){X:Nat->Prop}(hX:∀b,X b->b≠l/\∀(i t:Nat),items[i]?=some (Value.ref t)->b≠t)
 (hk:∀b o,¬ X b->h.get? b=some o->h'.get? b=some o):jr K h' l items ps where
 list:=x.list.at λo=>hk _ o λq=>(hX _ q).1 rfl
 len:=x.len
 at':=λi p e=>by
  refine oeeaa (x.at' i p e) λt key e1 bU e4=>?_;refine oea bU λo e2 e3=>?_;try clear bU
  exact⟨t,key,e1,⟨o,hk _ _ (λq=>(hX _ q).2 i t e1 rfl) e2,e3⟩,e4⟩
theorem uJ{ps:List (Int×Value)}(nd:(ps.map (·.1)).Nodup){i:Nat}{p:Int×Value}(e:ps[i]?=some p):stored (ps.take i) p.1 p.2=ps.take (i+1):=by
 have hi:=(ZN.mp e).1;have Fi:¬ ((ps.take i).any λkv=>decide (kv.1=p.1))=true:=λz=>by
  refine oea (W4.mp z) λq hq z=>?_;have e2:ps=ps.take i++ps.drop i:=(YW i ps).symm;have hp:p∈ps.drop i:=Z4 (i:=0) (by rw[List.getElem?_drop,Nat.add_zero];exact e);rw[e2,Zq,ZJ] at nd;exact nd.2.2 _ (ZG hq) _ (ZG hp) (of_decide_eq_true z)
 unfold stored;rw[if_neg Fi,V3,e]
 rfl
theorem Bp{K:PySem.KeyKind prog w Int}{D I l:Nat}{items:Array Value}{ps:List (Int×Value)}{res:Value}{h₀:Heap}(hA:A.handled=none)(nd:(ps.map (·.1)).Nodup)(pW:ps.length<=sizeLine)
 (NK:D≠I) (NL:h₀.get? D=none) (IE:h₀.get? I=none) (QW:h₀.get? l≠none) (Mo:∀(i t:Nat),items[i]?=some (Value.ref t)->h₀.get? t≠none) {R:Result->Shared->Prop}
 (hR:∀h' tk,h'.DictOf K D ps->(∀b o,h₀.get? b=some o->h'.get? b=some o)->R (.ok (.ret res)) {s with heap:=h',toks:=tk}):
 ∀(k i:Nat) (h:Heap) (tk:Nat) (tq:Tok),ps.length - i=k->i<=ps.length->h.DictOf K D (ps.take i)->h.IsListIter I l i->jr K h l items ps->(∀b o,h₀.get? b=some o->h.get? b=some o)->
  wpAny (model prog w) A.in1 (Builtin.«dict.update.loop» ⟨[.ref D,.ref I,.int i tq,res],[]⟩) (λfin s'=>match fin with| .done f=>R (.ok f) s'| .again c'=>c'.quiet=true/\codeAny (model prog w) A c' R s') (λe s'=>R (.error e) s') {s with heap:=h,toks:=tk}:=by
 have hX:∀b,(b=D\/b=I)->b≠l/\∀(i t:Nat),items[i]?=some (Value.ref t)->b≠t:=by
  rintro b (rfl|rfl)
  . exact⟨λe=>QW (e▸NL),λi t e q=>Mo i t e (q▸NL)⟩
  . exact⟨λe=>QW (e▸IE),λi t e q=>Mo i t e (q▸IE)⟩
 intro k
 induction k with
 |zero=>
  intro i h tk tq hk hi hd hit hp Ay;have Fm:i=ps.length:=YQ hi (Nat.le_of_sub_eq_zero hk);subst Fm;unfold Builtin.«dict.update.loop»;refine Zl (Wj hA hit hp.list (by rw[Xw,hp.len];exact Zs _) λh' he=>?_);refine Zl (Zz (Zz ?_));rw[Xy] at hd;exact hR h' tk (hd.extBut he NK) λb o e=>he b o (λq=>by subst q;rw[IE] at e;cases e) (Ay b o e)
 |succ k ih=>
  intro i h tk tq hk hi hd hit hp Ay;have lD:i<ps.length:=Nat.lt_of_sub_eq_succ hk;refine oeeaa (hp.at' i ps[i] (Zv lD)) λt key e1 e2 e3=>?_;unfold Builtin.«dict.update.loop»;refine Zl (Wc hit hp.list e1 λh' Pr I5=>?_);have kC:=hp.keep (h':=h') (X:=λb=>b=D\/b=I) hX λb o nb e=>(I5.2 b (λq=>nb (.inr q))).trans e;have qz:=hd.sameBut I5 NK;clear e2 e3;refine oeeaa (kC.at' i ps[i] (Zv lD)) λt' JR Rq e2 e3=>?_;rw[e1] at Rq
  cases Rq
  refine oeaae (id e2) λot QS V_ nt U7=>?_;refine Zl (ZX ?_);refine Zl (wpAny_tryCatch ?_);unfold Builtin.Dict.pairItems;refine Zl (wpAny_typeOf (T:="tuple") ⟨ot,QS,V_⟩ ?_);rw[if_pos (by rfl)];refine Zl (wpAny_seqItems QS U7 (Zz ?_));show wpAny _ _ (holding [JR,ps[i].2] (dictSet D JR ps[i].2)) _ _ _;refine ZX (wpAny_dictSet_pairs e3 qz (λh2 hd2 I4=>?_) (by rw[Uh];omega));rw[uJ nd (Zv lD)] at hd2;refine Zz ⟨plainId_quiet d_ _,Vl i7 ?_⟩;rw[Wz d_ _];have Gr:Heap.SameBut D h' h2:=I4;exact ih (i+1) h2 _ _ (congrArg Nat.pred hk) lD hd2 (Pr.extBut Gr.extBut (Yq NK)) (kC.keep (X:=λb=>b=D\/b=I) hX λb o nb e=>(Gr.2 b (λq=>nb (.inl q))).trans e)
   λb o e=>(Gr.2 b (λq=>by subst q;rw[NL] at e;cases e)).trans ((I5.2 b (λq=>by subst q;rw[IE] at e;cases e)).trans (Ay b o e))
theorem nL{K:PySem.KeyKind prog w Int}{l:Nat}{items:Array Value}{n:Nat}{ps:List (Int×Value)}{Q:Value->Shared->Prop}(hA:A.handled=none)(nd:(ps.map (·.1)).Nodup)(pW:ps.length<=sizeLine)
 (hl:s.heap.get? l=some {cls:=.type "list",data:=.seq items n}) (hp:jr K s.heap l items ps) (Mo:∀(i t:Nat),items[i]?=some (Value.ref t)->s.heap.get? t≠none)
 (hQ:∀h' tk,h'.DictOf K s.heap.objs.size ps->(∀b o,s.heap.get? b=some o->h'.get? b=some o)->Q (.ref s.heap.objs.size) {s with heap:=h',toks:=tk}):
 wpAny (model prog w) A (call (.type "dict") [.ref l]) Q E s:=by
 refine callType_codes (Q₁:=λobj s₁=>obj= .ref s.heap.objs.size/\s₁={s with heap:=s.heap.push {cls:=.type "dict",data:=.dict #[]}}) F.kt_called_dict (F.kt_typeCall_dict_1 _) F.entry_dict_init (kt_code_dict_new _ ⟨rfl,rfl⟩) ?_;intro obj s₁ z_;refine oa z_ λnM wQ=>?_;subst nM;subst wQ;have Aa:(s.heap.push {cls:=.type "dict",data:=.dict #[]}).DictOf K s.heap.objs.size []:=Ur s.heap;have Jg:∀b o,s.heap.get? b=some o->(s.heap.push {cls:=.type "dict",data:=.dict #[]}).get? b=some o:=λb o e=>ZM _ e;have IA:=Jg _ _ hl;refine⟨Aa.typeIs,F.args_dict_init_2 _ _,?_⟩;unfold Builtin.«dict.__init__»;refine Zl ?_;unfold Builtin.Dict.selfAndRest;refine Zl (wpAny_notOrdered_dict Aa.typeIs ?_);show wpAny _ _ (pure (s.heap.objs.size,[Value.ref l])) _ _ _;refine Zz ?_;show wpAny _ _ (Builtin.Dict.updateFrom "dict.__init__" s.heap.objs.size (.ref l) [] .none) _ _ _;unfold Builtin.Dict.updateFrom;refine Zl (wpAny_typeOf (T:="list") ⟨_,IA,rfl⟩ ?_);rw[if_pos (by decide)];refine Zl (DB l IA rfl rfl rfl (by exact hA) λh2 Il Mt=>?_);rw[if_pos (by rfl)];refine Zl (wpAny_rule ?_);have nO:jr K h2 l items ps:=hp.keep (X:=λ_=>False) (λ_ x=>x.elim) λb o _ e=>Mt b o (Jg b o e);refine Zl (WU nO.list ?_);refine Zz ⟨plainId_quiet d_ _,Vl i7 ?_⟩;rw[Wz d_ _];have JW:s.heap.objs.size<h2.objs.size:=by
  refine oeeea Aa λo es ep e _=>?_;try clear Aa
  exact Yi (Mt _ _ e)
 have Jm:h2.DictOf K s.heap.objs.size []:=Aa.keep Mt;have U_:s.heap.objs.size≠h2.objs.size:=Xe JW;have IE:s.heap.get? h2.objs.size=none:=bT (ZI JW);refine Bp (A:=A.in1) (s:=s) (K:=K) (D:=s.heap.objs.size) (I:=h2.objs.size) (l:=l) (items:=items) (ps:=ps) (h₀:=s.heap) (by exact hA) nd pW U_ (bT (Zs _)) IE (by rw[hl];exact λq=>by cases q) Mo ?_
  (ps.length - 0) 0 _ _ _ rfl (ZS _) (by rw[WO];exact Jm.push _) ⟨_,ZV _ rfl,rfl,rfl⟩ (nO.keep (X:=λ_=>False) (λ_ x=>x.elim) λb o _ e=>ZM _ e)
  λb o e=>ZM _ (Mt _ _ (Jg _ _ e))
 intro h' tk hd hk;exact⟨rfl,hQ h' tk hd hk⟩
end
section
variable {W:dB}{A:Around}{E:Value->Shared->Prop}{s:Shared}{H:Hp}{ow:Nat->Option Nat}
theorem nh{α:Type}{P:Nat->α->Prop}:∀n:Nat,(∀i,i<n->∃v,P i v)->∃L:List α,L.length=n/\∀i v,L[i]?=some v->P i v
 |0,_=>⟨[],rfl,λi v e=>by cases e⟩
 |n+1,h=>by
  refine oea (nh n λi hi=>h i (XU hi)) λL h1 h2=>?_;refine oe (h n (YG n)) λv hv=>?_;refine⟨L++[v],by rw[Zb,h1];rfl,λi u e=>?_⟩;rcases V6 i L.length with hi|hi
  . rw[Yu hi] at e;exact h2 i u e
  . have lD:=(ZN.mp e).1;rw[Zb,Yg] at lD;obtain rfl:i=L.length:=YQ (XY lD) hi;rw[WM] at e
    cases e
    exact h1▸hv
theorem BC(hA:A.handled=none)(R:RH W H ow s.heap){a:Nat}{xs:List V}{ps:List (Int×V)}{Q:V->Hp->Prop}(ha:H a=some (.list xs))(hl:xs.length=ps.length)(nd:(ps.map (·.1)).Nodup)
 (hp:∀(i:Nat) (p:Int×V) (x:V),ps[i]?=some p->xs[i]?=some x->∃t,x= .ref t/\H t=some (.tup [.int p.1,p.2])) (q:∀c,H c=none->Q (.ref c) (bc H c (.dict ps))):
 wpAny W.M A (call (.type "dict") [.ref a]) (bP W H ow s Q) E s:=by
 refine oeaa (R.obj a _ ha) λvs cu cY hb=>?_;refine oe cu λn hv=>?_;try clear cu;subst cY
 have Fj:vs.size=ps.length:=by rw[Za,Zr] at hl;exact hl
 have key:∀i,i<ps.length->∃(z:Int×Value),∃(t:Nat) (u:Tok),ps[i]?=some (z.1,aq z.2)/\vs[i]?=some (.ref t)/\s.heap.IsTuple t #[.int z.1 u,z.2]:=by
  intro i hi;have hx:(vs.toList.map aq)[i]?=some (aq (vs[i]'(by exact(aj 0x1101012141121411015230) _ _ _ Fj hi))):=kO (by exact(aj 0x1101012141121411015230) _ _ _ Fj hi);refine oea (hp i ps[i] _ (Zv hi) hx) λt h1 h2=>?_;refine oeaa (R.obj t _ h2) λus hT hu _=>?_;refine oeeaa (Xv.mp hu) λk l Nz e1 e2=>?_;refine oea (iC e2) λv dT e3=>?_;subst dT;obtain rfl:us= #[k,v]:=Array.ext' Nz;refine oe (bJ e1) λu gU=>?_;subst gU;refine⟨(_,v),t,u,(Zv hi).trans (congrArg some ?_),?_,hT⟩
  . rw[e3]
  . rw[YX (by exact(aj 0x1101012141121411015230) _ _ _ Fj hi),aN h1]
 refine oea (nh ps.length key) λqs hL hP=>?_;have hq:qs.map (λp=>(p.1,aq p.2))=ps:=by
  refine XZ λi=>?_;rw[ZQ]
  cases e:qs[i]? with
  |none=>rw[Yx (hL▸YE.mp e)];rfl
  |some z=>refine oeea (hP i z e) λt u h1 _=>?_;rw[h1];rfl
 have UH:qs.map (·.1)=ps.map (·.1):=by rw[<-hq,Zt];rfl
 refine nL (K:=W.kd) (ps:=qs) hA (by rw[UH];exact nd) (by rw[hL,<-Fj];exact Zf (h_ hb) dG) hv ⟨⟨_,hv,rfl,n,rfl⟩,by rw[hL,Fj],λi p e=>?_⟩ (λi t e=>?_) λh' tk hd hk=>?_
 . refine oeeaa (hP i p e) λt u h1 h2 h3=>?_;exact⟨t,_,h2,h3,lO _ _⟩
 . have hi:i<qs.length:=by rw[hL,<-Fj];exact(Array.getElem?_eq_some_iff.mp e).1
   refine oeeaa (hP i _ (Zv hi)) λt' u h1 h2 gC=>?_;refine oea gC λo h3 _=>?_;try clear gC
   rw[e] at h2;cases h2
   rw[h3];exact λz=>by cases z
 . exact eD (tk:=tk) R hk (bT (Zs _)) (o:=.dict ps) ⟨qs,hd,hq,by rw[<-Fj];exact h_ hb⟩ q
end
end
section
open PySem PySem.W PyProof.Rows PySem.Calls
noncomputable def Bm(h:Heap)(v:Value):List V->Prop
 |[x]=>aq v=x
 |[x,y]=>∃T vals,v= .ref T/\h.IsTuple T vals/\vals.toList.map aq=[x,y]
 |_=>False
noncomputable def Src.rd(aJ:Src)(b:Nat):Prop:=∃es,aJ= .keys b es
structure dh(W:dB)(A:Around)(tg:Expr)(I:Nat)(wr:Nat->Prop)(aJ:Src)(St:Nat->Heap->Prop):Prop where
 frame:∀i h h',St i h->(∀b o,wr b\/aJ.rd b->h.get? b=some o->h'.get? b=some o)->St i h'
 live:∀i h,St i h->∀b,wr b->h.get? b≠none
 item:∀(i:Nat) (s:Shared) (H:Hp) (ow:Nat->Option Nat) (item:List V) (Q:Value->Shared->Prop) (E:Value->Shared->Prop),aJ.items[i]?=some item->St i s.heap->RH W H ow s.heap->aJ.stays H->(∀b,wr b->¬ ei H ow b)->
  (∀v h' tk,St (i+1) h'->Bm h' v item->(∀b o,¬ wr b->s.heap.get? b=some o->h'.get? b=some o)->Q v {s with heap:=h',toks:=tk})->
  wpAny W.M A (pyNext (.ref I)) (λr s₁=>∃v,r=some v/\wpAny W.M A (letOwnedTupleGo tg (.ref I) v) (λ_ s₂=>Q v s₂) E s₁) E s
 done:∀(s:Shared) (H:Hp) (ow:Nat->Option Nat) (Q:Shared->Prop) (E:Value->Shared->Prop),St aJ.items.length s.heap->RH W H ow s.heap->aJ.stays H->(∀b,wr b->¬ ei H ow b)->
  (∀h' tk,(∀b o,¬ wr b->s.heap.get? b=some o->h'.get? b=some o)->Q {s with heap:=h',toks:=tk})->
  wpAny W.M A (pyNext (.ref I)) (λr s₁=>r=none/\Q s₁) E s
 self:∀i (s:Shared) (Q:Value->Shared->Prop) (E:Value->Shared->Prop),St i s.heap->Q (.ref I) s->wpAny W.M A (pyIter (.ref I)) Q E s
set_option tactic.hygienic true in
theorem ef{M:Model}{A:Around}{E:Value->Shared->Prop}{s:Shared}{tg:Expr}{r:Nat}{v:Value}{Q:Unit->Shared->Prop}{o:Obj}(hr:s.heap.get? r=some o)
 (hc:∀n,o.cls= .type n->["enumerate","zip","dict_itemiterator","dict_reverseitemiterator","odict_iterator","itertools.zip_longest","itertools.pairwise"].contains n=false) (q:Q () s):
 wpAny M A (letOwnedTupleGo tg (.ref r) v) Q E s:=by
 unfold letOwnedTupleGo;have key:wpAny M A (do
  let (.ref r,.ref a):=(Value.ref r,v)|return
  let o<-load r
  match o.cls,o.data with
  | .type n,.fields vs=>
   if ["enumerate","zip","dict_itemiterator","dict_reverseitemiterator","odict_iterator","itertools.zip_longest","itertools.pairwise"].contains n&&vs[0]?==some (rawInt a) then
    rule "for.unpacks-the-owned-tuple"
    updateField r 0 .none
  |_,_=>pure ()) Q E s:=by
  cases v with
  |ref a=>
   refine Zl (wpAny_load hr ?_);split
   . rename_i n vs e1 e2;rw[hc n e1,UA,if_neg Ye];exact Zz q
   . exact Zz q
  |_=>exact Zz q
 cases tg<;>first|exact key|exact Zz q
theorem pz{a:Nat}{xs:List V}:(Src.list a xs).items.length=xs.length:=Za _
theorem qP{a:Nat}{xs:List V}:(Src.tup a xs).items.length=xs.length:=Za _
theorem pB{a:Nat}{es:List (Int×V)}:(Src.keys a es).items.length=es.length:=Za _
theorem m6{n:Nat}:(Src.range n).items.length=n:=(Za _).trans Z3
theorem pC{a:Nat}{xs:List V}:(Src.enum a xs).items.length=xs.length:=(Za _).trans VR
theorem d6{α β:Type}{xs:List α}{i:Nat}{f:α->β}{y:β}(e:(xs.map f)[i]?=some y):∃x,xs[i]?=some x/\f x=y:=by
 rw[ZQ] at e;exact Z7.mp e
section
variable {W:dB}{A:Around}{tg:Expr}
theorem dh.list(hh:A.handled=none)(I a:Nat)(xs:List V):dh W A tg I (· =I) (.list a xs) (λi h=>h.IsListIter I a i) where
 frame:=λi h h' st k=>st.at λo e=>k I o (.inl rfl) e
 live:=λi h lF b q=>oea lF λo e _=>by rw[q,e];exact λz=>by cases z
 item:=λi s H ow item Q E hx st R cI off q=>by
  refine oeaa (R.obj a _ cI) λvs hp bU hb=>?_;subst bU;refine oea (d6 hx) λx CT cu=>?_;subst cu;refine oea (d6 CT) λv hv cY=>?_;subst cY;refine Wc st hp.isList (x:=v) (eB hv) λh' bG hs=>⟨v,rfl,?_⟩;refine oeaa (id bG) λo ho hc _=>?_;exact ef (s:={s with heap:=h'}) ho (λn e=>by rw[hc] at e;cases e;decide) (q v h' s.toks bG rfl λb o nb e=>(hs.2 b nb).trans e)
 done:=λs H ow Q E st R cI off q=>by
  refine oeaa (R.obj a _ cI) λvs hp dT hb=>?_;subst dT;rw[pz,Za,Zr] at st;exact Wj hh st hp.isList (Xo (Zs _)) λh' he=>⟨rfl,q h' s.toks λb o nb e=>he b o nb e⟩
 self:=λi s Q E st q=>wpAny_pyIter_listiter st q
theorem dh.tup(hh:A.handled=none)(I a:Nat)(xs:List V):dh W A tg I (· =I) (.tup a xs) (λi h=>h.IsTupleIter I a i) where
 frame:=λi h h' lE k=>oea lE λo e r=>⟨o,k I o (.inl rfl) e,r⟩
 live:=λi h q7 b q=>oea q7 λo e _=>by rw[q,e];exact λz=>by cases z
 item:=λi s H ow item Q E hx st R cI off q=>by
  refine oeaa (R.obj a _ cI) λvs hp gU hb=>?_;subst gU;refine oea (d6 hx) λx CT gC=>?_;subst gC;refine oea (d6 CT) λv hv kB=>?_;subst kB;refine wpAny_pyNext_tuple_item st hp (x:=v) (eB hv) λh' bG hs=>⟨v,rfl,?_⟩;refine oeaa (id bG) λo ho hc _=>?_;exact ef (s:={s with heap:=h'}) ho (λn e=>by rw[hc] at e;cases e;decide) (q v h' s.toks bG rfl λb o nb e=>(hs.2 b nb).trans e)
 done:=λs H ow Q E st R cI off q=>by
  refine oeaa (R.obj a _ cI) λvs hp jV hb=>?_;subst jV;rw[qP,Za,Zr] at st;exact wpAny_pyNext_tuple_end hh st hp (Xo (Zs _)) λh' he=>⟨rfl,q h' s.toks λb o nb e=>he b o nb e⟩
 self:=λi s Q E st q=>wpAny_pyIter_tupleiter st q
theorem dh.keys(hh:A.handled=none)(I d:Nat)(vw:d≠I)(kvs:List (Int×Value))(ep:Nat):
 dh W A tg I (· =I) (.keys d (kvs.map λp=>(p.1,aq p.2))) (λi h=>h.IsKeyIter I d i kvs.length ep/\h.DictAt W.kd d kvs ep) where
 frame:=λi h h' st k=>⟨st.1.at λo e=>k I o (.inl rfl) e,st.2.at' λo e=>k d o (.inr ⟨_,rfl⟩) e⟩
 live:=λi h ⟨⟨o,e,_⟩,_⟩ b q=>by rw[q,e];exact λz=>by cases z
 item:=λi s H ow item Q E hx st R cI off q=>by
  refine oea (d6 hx) λp CT nX=>?_;subst nX;refine oea (d6 CT) λgq hv jX=>?_;obtain ⟨k,x⟩:=gq;subst jX;refine wpAny_pyNext_dict_item st.1 st.2 hv λkey h' hk bG hs=>⟨key,rfl,?_⟩;refine oeaa (id bG) λo ho hc _=>?_;refine ef (s:={s with heap:=h'}) ho (λn e=>by rw[hc] at e;cases e;decide) (q key h' s.toks ⟨bG,st.2.extBut hs.extBut vw⟩ ?_ λb o nb e=>(hs.2 b nb).trans e);show aq key= .int k;have Jh:key.isInt k=true:=hk
  cases key with
  |int i t=>exact congrArg V.int (beq_iff_eq.mp Jh)
  |_=>cases Jh
 done:=λs H ow Q E st R cI off q=>by
  rw[pB,Za] at st;exact wpAny_pyNext_dict_end hh st.1 st.2 (Yx (Zs _)) λh' he=>⟨rfl,q h' s.toks λb o nb e=>he b o nb e⟩
 self:=λi s Q E st q=>wpAny_pyIter_keyiter st.1 q
theorem dh.range(hh:A.handled=none)(I n:Nat):dh W A tg I (· =I) (.range n) (λi h=>IsRangeIter h I i ((n:Int) - i) 1) where
 frame:=λi h h' st k=>k I _ (.inl rfl) st
 live:=λi h e b q=>by rw[q,e];exact λz=>by cases z
 item:=λi s H ow item Q E hx st R cI off q=>by
  refine oea (d6 hx) λj hj qd=>?_;subst qd;obtain ⟨hi,hj⟩:=ZN.mp hj;rw[Z3] at hi;rw[VM] at hj;subst hj;refine wpAny_pyNext_range_item st (by exact(aj 0x11015115300111014120) _ _ hi) λh' bG hs=>⟨_,rfl,?_⟩;have EY:IsRangeIter h' I ((i+1:Nat):Int) ((n:Int) - ((i+1:Nat):Int)) 1:=by
   have e1:((i+1:Nat):Int)=(i:Int)+1:=by exact ZA ((aj 0x11001521001250010) _) ((aj 0x11001251001520010) _)
   have e2:(n:Int) - ((i+1:Nat):Int)=(n:Int) - i - 1:=by exact ZA ((aj 0x1101150153310112501530020) _ _) ((aj 0x1101125015310115015330020) _ _)
   rw[e1] at e2 ⊢;rw[e2];exact bG
  exact ef (s:={s with heap:=h',toks:=s.toks+1}) bG (λn e=>by cases e;decide) (q _ h' (s.toks+1) EY rfl λb o nb e=>(hs.2 b nb).trans e)
 done:=λs H ow Q E st R cI off q=>by
  rw[m6] at st;exact wpAny_pyNext_range_end hh st (by exact(aj 0x10001501530010) _) λh' he=>⟨rfl,q h' s.toks λb o nb e=>he b o nb e⟩
 self:=λi s Q E st q=>wpAny_pyIter_rangeiter st q
theorem dh.enum{elts:List Expr}{k:Nat}{pos:Pos}(hh:A.handled=none)(e it a:Nat)(Q3:e≠it)(xs:List V):
 dh W A (.Tuple elts k pos) e (λb=>b=e\/b=it) (.enum a xs) (λi h=>(∃old,IsEnum h e it i old)/\h.IsListIter it a i) where
 frame:=λi h h' ⟨⟨old,he⟩,st⟩ k=>⟨⟨old,k e _ (.inl (.inl rfl)) he⟩,st.at λo x=>k it o (.inl (.inr rfl)) x⟩
 live:=λi h ⟨⟨old,he⟩,⟨o,x,_⟩⟩ b q=>by
  rcases q with rfl|rfl
  . rw[he];exact λz=>by cases z
  . rw[x];exact λz=>by cases z
 item:=λi s H ow item Q E hx st R cI off q=>by
  refine oa st λtD hit=>?_;try clear st;refine oe tD λold he=>?_;try clear tD
  refine oeaa (R.obj a _ cI) λvs hp tC hb=>?_;subst tC;have Qh:ei H ow a:=eX cI;have hae:a≠e:=λz=>off e (.inl rfl) (z▸Qh);have hai:a≠it:=λz=>off it (.inr rfl) (z▸Qh);refine oea (d6 hx) λp Ix tB=>?_;subst tB;obtain ⟨v,hv,rfl⟩:∃v,vs[i]?=some v/\p=(aq v,i):=by
   rw[Vr] at Ix;refine oea (Z7.mp Ix) λx CT vK=>?_;subst vK;refine oea (de rfl CT) λv hv tz=>?_;subst tz;exact⟨v,eB hv,congrArg (Prod.mk _) (Xx i)⟩
  refine wpAny_pyNext_enum_item he hit hp.isList hv Q3 λh₁ U5 oC Av Sd Lh=>⟨_,rfl,?_⟩;have U6:e<s.heap.objs.size:=Yi he;refine wpAny_letOwnedTupleGo_enum (s:={s with heap:=h₁,toks:=s.toks+1}) U5 λh₂ AA fc=>?_;replace fc:Heap.SameBut e h₁ h₂:=fc;have Ld:h₂.IsTuple s.heap.objs.size #[.int i s.toks,v]:=⟨_,(fc.2 _ (Ud U6)).trans Av,rfl,_,rfl⟩;refine q _ h₂ (s.toks+1) ⟨⟨v,AA⟩,oC.extBut fc.extBut (Yq Q3)⟩ ⟨_,_,rfl,Ld,rfl⟩ λb o nb x=>?_;exact(fc.2 b λz=>nb (.inl z)).trans (Lh b o (λz=>nb (.inl z)) (λz=>nb (.inr z)) x)
 done:=λs H ow Q E st R cI off q=>by
  refine oa st λrc hit=>?_;try clear st;refine oe rc λold he=>?_;try clear rc
  refine oeaa (R.obj a _ cI) λvs hp vJ hb=>?_;subst vJ;have hl:(Src.enum a (vs.toList.map aq)).items.length=vs.size:=pC.trans ((Za _).trans Zr);rw[hl] at he hit;exact wpAny_pyNext_enum_end hh he hit hp.isList (Xo (Zs _)) λh' hx=>⟨rfl,q h' s.toks λb o nb x=>hx b o (λz=>nb (.inr z)) x⟩
 self:=λi s Q E ⟨⟨old,he⟩,_⟩ q=>wpAny_pyIter_enum he q
theorem dh.zip{elts:List Expr}{k:Nat}{pos:Pos}(hh:A.handled=none)(z TI TO i1 i2 l1 l2:Nat)(D:ZipApart z TI TO i1 i2 l1 l2)(xs ys:List V):
 dh W A (.Tuple elts k pos) z (λb=>b=z\/b=TI\/b=TO\/b=i1\/b=i2) (.zip l1 l2 xs ys)
  (λi h=>IsZip h z TI TO .none/\IsPair h TI (.ref i1) (.ref i2)/\(∃a b,IsPair h TO a b)/\h.IsListIter i1 l1 i/\h.IsListIter i2 l2 i) where
 frame:=λi h h' ⟨hz,CG,⟨a,b,CW⟩,h1,h2⟩ k=>⟨k z _ (.inl (.inl rfl)) hz,k TI _ (.inl (.inr (.inl rfl))) CG,⟨a,b,k TO _ (.inl (.inr (.inr (.inl rfl)))) CW⟩,
  h1.at λo e=>k i1 o (.inl (.inr (.inr (.inr (.inl rfl))))) e,h2.at λo e=>k i2 o (.inl (.inr (.inr (.inr (.inr rfl))))) e⟩
 live:=λi h ⟨hz,CG,⟨a,b,CW⟩,⟨o1,h1,_⟩,⟨o2,h2,_⟩⟩ b q=>by
  rcases q with rfl|rfl|rfl|rfl|rfl
  . rw[hz];exact λz=>by cases z
  . rw[CG];exact λz=>by cases z
  . rw[CW];exact λz=>by cases z
  . rw[h1];exact λz=>by cases z
  . rw[h2];exact λz=>by cases z
 item:=λi s H ow item Q E hx st R cI off q=>by
  refine oaaaa st λhz CG ty h1 h2=>?_;try clear st;refine oee ty λa b CW=>?_;try clear ty
  refine oeaa (R.obj l1 _ cI.1) λvs hp tx hb=>?_;subst tx;refine oeaa (R.obj l2 _ cI.2) λws nO tw p_=>?_;subst tw;refine oea (d6 hx) λp Ix vI=>?_;subst vI;rw[List.getElem?_zip_eq_some] at Ix;refine oea (de rfl Ix.1) λv hv T7=>?_;refine oea (de rfl Ix.2) λw hw Ml=>?_;refine wpAny_pyNext_zip_item D hz CG CW h1 h2 hp.isList nO.isList (x:=v) (y:=w) (eB hv) (eB hw) λh₁ a1 a2 a3 a4 a5 a6 hk=>⟨_,rfl,?_⟩;have lt:∀{c o},s.heap.get? c=some o->s.heap.objs.size≠c:=λe=>Ud (Yi e);refine wpAny_letOwnedTupleGo_zip (s:={s with heap:=h₁}) a1 λh₂ Lc fc=>?_;replace fc:Heap.SameBut z h₁ h₂:=fc;have Pt:=hk _ _ D.TIz D.TITO D.TIi1 D.TIi2 CG;have hT:h₂.IsTuple s.heap.objs.size #[v,w]:=⟨_,(fc.2 _ (lt hz)).trans a5,rfl,_,rfl⟩;refine q _ h₂ s.toks ⟨Lc,(fc.2 _ D.TIz).trans Pt,⟨_,_,(fc.2 _ D.TOz).trans a2⟩,a3.extBut fc.extBut D.i1z,a4.extBut fc.extBut D.i2z⟩ ⟨_,_,rfl,hT,by rw[<-T7,<-Ml];rfl⟩ λb o nb x=>?_;simp only[not_or] at nb;exact(fc.2 b nb.1).trans (hk b o nb.1 nb.2.2.1 nb.2.2.2.1 nb.2.2.2.2 x)
 done:=λs H ow Q E st R cI off q=>by
  refine oaaaa st λhz CG yj h1 h2=>?_;try clear st;refine oee yj λa b CW=>?_;try clear yj
  refine oeaa (R.obj l1 _ cI.1) λvs hp zZ hb=>?_;subst zZ;refine oeaa (R.obj l2 _ cI.2) λws nO zY p_=>?_;subst zY;have hl:(Src.zip l1 l2 (vs.toList.map aq) (ws.toList.map aq)).items.length=min vs.size ws.size:=(Za _).trans (Uu.trans (by rw[Za,Za,Zr,Zr]));rw[hl] at h1 h2;refine wpAny_pyNext_zip_end hh D hz CG CW h1 h2 hp.isList nO.isList ?_ λh' hx=>⟨rfl,q h' s.toks λb o nb x=>?_⟩
  . rw[Xw,Xw];exact(Nat.le_total _ _).imp (λh=>Nat.le_min.mpr ⟨Zs _,h⟩) λh=>Nat.le_min.mpr ⟨h,Zs _⟩
  . simp only[not_or] at nb;exact hx b o nb.1 nb.2.2.1 nb.2.2.2.1 nb.2.2.2.2 x
 self:=λi s Q E xP q=>oa xP λhz _=>wpAny_pyIter_zip hz q
end
end
section
open PySem PySem.W PyProof.Rows PySem.Calls
section
variable {prog:Program}{w:World}{A:Around}{E:Value->Shared->Prop}{s:Shared}
theorem qV{it t:Addr}{items:Array Value}(vw:t≠it):∀(n i:Nat) (s:Shared) (Q:List Value->Shared->Prop),s.heap.IsListIter it t i->s.heap.IsList t items->i+n<=items.size->
 (∀h',h'.IsListIter it t (i+n)->Heap.SameBut it s.heap h'->Q ((items.toList.drop i).take n) {s with heap:=h'})->wpAny (model prog w) A (draw (.ref it) n) Q E s
 |0,i,s,Q,hit,_,_,hQ=>by
  show wpAny _ _ (pure []) Q E s;exact Zz (hQ s.heap hit (WV ..))
 |n+1,i,s,Q,hit,ht,hle,hQ=>by
  have lD:i<items.size:=by exact(aj 0x112101421101120123130) _ _ _ hle
  show wpAny _ _ (pyNext (.ref it) >>= _) Q E s;refine Zl (Wc hit ht (x:=items[i]) (YX lD) λh₁ oC tQ=>?_);refine Zl (ZX (qV vw n (i+1) _ _ oC (ht.extBut tQ.extBut vw) (by exact(aj 0x112111100122321101120123130) _ _ _ hle) λh₂ Hv fc=>Zz ?_));have hd:items.toList.drop i=items[i]::items.toList.drop (i+1):=List.drop_eq_getElem_cons (by rw[Zr];exact lD);have:=hQ h₂ (by rw[show i+(n+1)=i+1+n by exact YQ ((aj 0x111100122101120123020) _ _) ((aj 0x110112012111001223020) _ _)];exact Hv) (tQ.trans fc);rw[hd,List.take_succ_cons] at this;exact this
theorem gQ{t:Addr}{items:Array Value}{Q:List Value->Shared->Prop}(hh:A.handled=none)(ht:s.heap.IsList t items)
 (hQ:∀h',Heap.ExtBut s.heap.objs.size s.heap h'->Q items.toList {s with heap:=h'}):wpAny (model prog w) A (unpackItems (.ref t) items.size none) Q E s:=by
 have lD:t≠s.heap.objs.size:=by refine oea ht λo ho _=>?_;try clear ht;exact Xe (Yi ho)
 unfold unpackItems;refine Zl ?_
 . unfold notIterableAtAll;refine Zl (wpAny_specialOf ht.typeIs slot_list_iter.lookup ?_);refine Zz ?_;simp only[Xn,if_false];refine Zl (ZX (WU ht ?_));refine Zl (ZX (qV lD items.size 0 _ _ ⟨_,ZV _ rfl,rfl,rfl⟩ (ht.push _) (by exact(aj 0x101010023010) _) λh₁ oC tQ=>?_));have Db:List.take items.size (List.drop 0 items.toList)=items.toList:=by
    rw[UB];exact Vc (YJ Zr)
   rw[Db];rw[if_neg (by rw[Zr];exact Ws _)];have Av:h₁.IsList t items:=(ht.push _).extBut tQ.extBut lD;refine Zl (ZX (Wj hh oC Av (Xo (by rw[Xx];exact Zs _)) λh₂ AA=>?_));simp only[Option.isSome_none,Xn,if_false];refine Zz (hQ h₂ λb o hb e=>AA b o hb (tQ.extBut b o hb (ZM _ e)))
end
noncomputable def cz(sc:Scope)(n:String):Bool:=sc.names.lookup (Str.ofString n)==some .local||sc.names.lookup (Str.ofString n)==some .cell
noncomputable def zU(sc:Scope):List String->List Expr->Prop
 |[],es=>es=[]
 |n::ns,es=>∃p r,es= .Name (Str.ofString n) p::r/\cz sc n=true/\zU sc ns r
noncomputable def vF(sc:Scope)(t:List String)(tg:Expr):Prop:=(∃n p,t=[n]/\tg= .Name (Str.ofString n) p/\cz sc n=true)\/(2<=t.length/\∃es k p,tg= .Tuple es k p/\zU sc t es)
section
variable {W:dB}{A:Around}{E:Value->Shared->Prop}{s:Shared}{H:Hp}{ow:Nat->Option Nat}{ρ:Lo}{env:Env}
noncomputable def Bound(W:dB)(X:Nat->Prop)(ρ:Lo)(env:Env)(H:Hp)(ow:Nat->Option Nat)(s s':Shared):Prop:=
 ∃h' tk,s'={s with heap:=h',toks:=tk}/\b7 W ρ env H ow h'/\RH W H ow h'/\(∀b o,¬ X b->s.heap.get? b=some o->h'.get? b=some o)
theorem Bound.trans{X:Nat->Prop}{ρ' fE:Lo}{s s' gT:Shared}(x:Bound W X ρ' env H ow s s')(y:Bound W X fE env H ow s' gT):Bound W X fE env H ow s gT:=by
 refine oeeaaa x λh1 t1 bU _ _ k1=>?_;try clear x;subst bU
 refine oeeaaa y λh2 t2 cu a b k2=>?_;try clear y;subst cu
 exact⟨h2,t2,rfl,a,b,λb o nb e=>k2 b o nb (k1 b o nb e)⟩
theorem xe{n:String}(h:cz env.scope n=true):env.kindOf (Str.ofString n)=some .local\/env.kindOf (Str.ofString n)=some .cell:=
 (YC.mp h).imp beq_iff_eq.mp beq_iff_eq.mp
theorem hE(x:b7 W ρ env H ow s.heap)(R:RH W H ow s.heap){n:String}{p:Pos}{v:Value}(h:cz env.scope n=true){X:Nat->Prop}(hX:∀b,Wr env n b->X b){Q:Unit->Shared->Prop}
 (q:∀s',Bound W X (bc ρ n (aq v)) env H ow s s'->Q () s'):wpAny W.M A (assign (.Name (Str.ofString n) p) env v) Q E s:=
 wpAny_assign_Name (mR x R (xe h) λh' tk a b c=>q _ ⟨h',tk,rfl,a,b,λb o nb e=>c b o (λz=>nb (hX b z)) e⟩)
theorem kZ{sc:Scope}{env:Env}:∀{ns:List String} {es:List Expr},zU sc ns es->(assignEach es env).findIdx? (·.1)=none/\(assignEach es env).length=ns.length
 |[],_,h=>by cases h;exact⟨rfl,rfl⟩
 |n::ns,_,⟨p,es,e,_,h⟩=>by
  subst e;refine oa (kZ (env:=env) h) λh1 h2=>?_;refine⟨?_,congrArg Nat.succ h2⟩;show List.findIdx? _ ((false,_)::assignEach es env)=none;rw[List.findIdx?_cons,if_neg Ye,h1];rfl
theorem yH{X:Nat->Prop}:∀(ns:List String) (_:∀n∈ns,∀b,Wr env n b->X b) {es:List Expr} {vs:List Value} {ρ:Lo} {s:Shared} {Q:Unit->Shared->Prop},zU env.scope ns es->ns.length=vs.length->b7 W ρ env H ow s.heap->RH W H ow s.heap->
 (∀s',Bound W X (binds ρ ns (vs.map aq)) env H ow s s'->Q () s')->wpAny W.M A (assignInOrder ((assignEach es env).map (·.2)) vs) Q E s:=by
 intro ns
 induction ns with
 |nil=>
  intro hX es vs ρ s Q h hl x R q
  cases h
  obtain rfl:=XS.mp hl.symm;exact Zz (q s ⟨s.heap,s.toks,rfl,x,R,λ_ _ _ e=>e⟩)
 |cons n ns ih=>
  intro hX es vs ρ s Q h hl x R q;refine oeeaa h λp es cY h1 h2=>?_;try clear h;subst cY
  cases vs with
  |nil=>cases hl
  |cons v vs=>
   show wpAny W.M A (do holding vs (assign (.Name (Str.ofString n) p) env v);assignInOrder ((assignEach es env).map (·.2)) vs) Q E s;refine Zl (ZX (hE x R h1 (hX n Ze) λs' b=>?_));refine oeeaaa (id b) λh' tk dT x' R' k=>?_;subst dT;exact ih (λn hn=>hX n (Zh _ hn)) h2 (XB hl) x' R' λgT b'=>q gT (b.trans b')
theorem pd{h':Heap}(x:b7 W ρ env H ow s.heap)(R:RH W H ow s.heap)(he:Heap.ExtBut s.heap.objs.size s.heap h'):b7 W ρ env H ow h'/\RH W H ow h'/\∀b o,s.heap.get? b=some o->h'.get? b=some o:=by
 have hk:∀b o,s.heap.get? b=some o->h'.get? b=some o:=λb o e=>he b o (Xe (Yi e)) e;exact⟨x.iH λb o _ e=>hk b o e,R.keeps hk,hk⟩
theorem oJ(hh:A.handled=none)(x:b7 W ρ env H ow s.heap)(R:RH W H ow s.heap){ns:List String}{es:List Expr}{k:Nat}{p:Pos}{a:Nat}{vs:Array Value}(ok:zU env.scope ns es)(hv:s.heap.IsTuple a vs\/s.heap.IsList a vs)
 (hl:ns.length=vs.size) {X:Nat->Prop} (hX:∀n∈ns,∀b,Wr env n b->X b) {Q:Unit->Shared->Prop} (q:∀s',Bound W X (binds ρ ns (vs.toList.map aq)) env H ow s s'->Q () s'):wpAny W.M A (assign (.Tuple es k p) env (.ref a)) Q E s:=by
 refine oa (kZ (env:=env) ok) λh1 h2=>?_;rw[arm_assign_Tuple];refine Zl (Z9 ?_);unfold unpack;rw[h1,h2,hl];have fin:∀h',Heap.ExtBut s.heap.objs.size s.heap h'->wpAny W.M A (assignInOrder ((assignEach es env).map (·.2)) vs.toList) Q E {s with heap:=h'}:=λh' he=>by
  refine oaa (pd x R he) λx' R' hk=>?_;refine yH ns hX (s:={s with heap:=h'}) ok (hl.trans Zr.symm) x' R' λs' b=>q s' ?_;refine oeeaaa b λh2 tk gU x2 R2 k2=>?_;try clear b;subst gU
  exact⟨h2,tk,rfl,x2,R2,λb o nb e=>k2 b o nb (hk b o e)⟩
 rcases hv with hv|hv
 . exact Zl (ZX (W6 hh hv fin))
 . exact Zl (ZX (gQ hh hv fin))
theorem KG(hh:A.handled=none)(x:b7 W ρ env H ow s.heap)(R:RH W H ow s.heap){ns:List String}{es:List Expr}{k:Nat}{p:Pos}{a:Nat}{vs:List V}(ok:zU env.scope ns es)(hv:H a=some (.tup vs)\/H a=some (.list vs))(hl:ns.length=vs.length)
 {X:Nat->Prop} (hX:∀n∈ns,∀b,Wr env n b->X b) {Q:Unit->Shared->Prop} (q:∀s',Bound W X (binds ρ ns vs) env H ow s s'->Q () s'):wpAny W.M A (assign (.Tuple es k p) env (.ref a)) Q E s:=by
 have key:∃us:Array Value,(s.heap.IsTuple a us\/s.heap.IsList a us)/\us.toList.map aq=vs:=by
  rcases hv with hv|hv
  . refine oeaa (R.obj a _ hv) λus hT e _=>?_;exact⟨us,.inl hT,e⟩
  . refine oeaa (R.obj a _ hv) λus hT e _=>?_;exact⟨us,.inr hT.isList,e⟩
 refine oea key λus hT gC=>?_;try clear key;subst gC
 exact oJ hh x R ok hT (hl.trans ((Za _).trans Zr)) hX q
theorem AJ(hh:A.handled=none)(x:b7 W ρ env H ow s.heap)(R:RH W H ow s.heap){t:List String}{tg:Expr}{v:Value}{item:List V}{ρ':Lo}(ok:vF env.scope t tg)(it:Bm s.heap v item)
 (b:di H ρ t item ρ') {X:Nat->Prop} (hX:∀n∈t,∀b,Wr env n b->X b) {Q:Unit->Shared->Prop} (q:∀s',Bound W X ρ' env H ow s s'->Q () s'):wpAny W.M A (assign tg env v) Q E s:=by
 rcases ok with ⟨n,p,rfl,rfl,ok⟩|⟨h2,es,k,p,rfl,ok⟩
 . rcases b with ⟨hl,rfl⟩|⟨_,_,_,h2,_⟩
   . refine oe (List.length_eq_one_iff.mp hl.symm) λy kB=>?_;subst kB;have it:aq v=y:=it;subst it;exact hE x R ok (hX n Ze) q
   . exact absurd h2 (by show ¬ 2<=1;decide)
 . rcases b with ⟨hl,rfl⟩|⟨a,vs,rfl,_,hl,hv,rfl⟩
   . have key:∃T vals,v= .ref T/\s.heap.IsTuple T vals/\vals.toList.map aq=item:=by
      rw[hl] at h2
      cases item with
      |nil=>exact absurd h2 (by show ¬ 2<=0;decide)
      |cons y r=>cases r with
       |nil=>exact absurd h2 (by show ¬ 2<=1;decide)
       |cons z r=>cases r with
        |nil=>exact it
        |cons=>exact it.elim
     refine oeeaa key λT vals jV hT nX=>?_;try clear key;subst jV;subst nX
     exact oJ hh x R ok (.inl hT) (hl.trans ((Za _).trans Zr)) hX q
   . have it:aq v= .ref a:=it;obtain rfl:=aN it;exact KG hh x R ok hv hl hX q
end
end
section
open PySem PySem.W PyProof.Rows PySem.Calls
noncomputable def Lv.can(L:Lv)(m:Nat)(f:String):Bool:=(L.lv.lookup f).any λl=>decide (l<=m)
structure CK(l:Nat)(A:Around):Prop where
 hd:A.handled=none
 dp:A.depth+10*l<=900
 un:A.units+40*l<=9000
theorem CK.less{l m:Nat}{A:Around}(x:CK m A)(h:l<=m):CK l A:=⟨x.hd,Zf (ZO (Xi 10 h) _) x.dp,Zf (ZO (Xi 40 h) _) x.un⟩
theorem nQ{u l L c k z:Nat}(h:l<L)(x:u+k*L<=z)(hc:c<=k):u+c+k*l<=z:=
 Zf (by rw[Yr,Vb c];exact ZO (Zf (ZO hc _) (Xi k h)) _) x
noncomputable def Meets(W:dB)(L:Lv):Calls:=λf vs H Q=>∃a l,W.fn f=some a/\L.lv.lookup f=some l/\
 ∀(A:Around) (s:Shared) (ow:Nat->Option Nat) (Ef:List Value),CK l A->RH W H ow s.heap->Ef.map aq=vs->codeAny W.M A (.call (.ref a) ⟨Ef,[]⟩) (λr s'=>match r with| .ok (.ret v)=>bP W H ow s Q v s'|_=>False) s
structure Full(W:dB)(L:Lv)(γ:String->Option V):Prop where
 good:W.Good
 QC:W.MO
 sm:W.base.get? sysModules≠none
 lim:W.base.NoLimit
 gl:W.base.Ns mainGlobals W.mg
 bi:W.base.Ns builtinsNs W.mb
 cls:∀C f,L.qD.lookup C=some f->∃c a,W.cls C=some c/\W.mg (Str.ofString C)=some (.ref c)/\keepIn W.K (.ref c)=true/\W.fn f=some a/\findIn W.K (.ref c) "__init__"=some (some (.ref a))
 PF:∀C,L.cls.contains C=true->∃c,W.cls C=some c/\W.mg (Str.ofString C)=some (.ref c)
 xT:∀f a,W.fn f=some a->typeIn W.K (.ref a)=some (.type "function")/\keepIn W.K (.ref a)=true
 top:∀f,L.fF.contains f=true->∃a,W.fn f=some a/\W.mg (Str.ofString f)=some (.ref a)
 O_:∀f C m,L.meths.lookup f=some (C,m)->∃c a,W.cls C=some c/\W.fn f=some a/\findIn W.K (.ref c) (Str.ofString m)=some (some (.ref a))
 gam:∀x v,γ x=some v->∃v',W.mg (Str.ofString x)=some v'/\aq v'=v
 AS:W.cls "list"=none/\W.cls "dict"=none
 nm:∀p∈Js,W.mg (Str.ofString p.1)=none/\W.mb (Str.ofString p.1)=some p.2
section
variable {W:dB}{A:Around}{E:Value->Shared->Prop}{s:Shared}{H:Hp}{ow:Nat->Option Nat}{L:Lv}{γ:String->Option V}
theorem bP.aV{Q Q':V->Hp->Prop}{v:Value}{s':Shared}(p:bP W H ow s Q v s')(q:∀v h,Q v h->Q' v h):bP W H ow s Q' v s':=by
 refine oeeaa p λH' aO x R G=>?_;try clear p
 exact⟨H',aO,q _ _ x,R,G⟩
theorem kI.after{H':Hp}{aO:Nat->Option Nat}{s' gT:Shared}{Q:Hp->Prop}(g:Go H ow s H' aO s')(p:kI W H' aO s' Q gT):kI W H ow s Q gT:=by
 refine oeeaa p λH2 o2 q R G=>?_;try clear p
 exact⟨H2,o2,q,R,g.trans G⟩
theorem bP.after{H':Hp}{aO:Nat->Option Nat}{s' gT:Shared}{Q:V->Hp->Prop}{v:Value}(g:Go H ow s H' aO s')(p:bP W H' aO s' Q v gT):bP W H ow s Q v gT:=by
 refine oeeaa p λH2 o2 q R G=>?_;try clear p
 exact⟨H2,o2,q,R,g.trans G⟩
theorem cL{m:Sem Value}{H':Hp}{aO:Nat->Option Nat}{s':Shared}{Q:V->Hp->Prop}(g:Go H ow s H' aO s')(w:wpAny W.M A m (bP W H' aO s' Q) E s'):wpAny W.M A m (bP W H ow s Q) E s':=
 Zy w (λ_ _ p=>p.after g) λ_ _ e=>e
noncomputable def EU(W:dB)(H:Hp)(ow:Nat->Option Nat)(s:Shared)(Q:List V->Hp->Prop)(vs:List Value)(s':Shared):Prop:=kI W H ow s (Q (vs.map aq)) s'
theorem eW{f:Value}(h:∀a,f≠ .ref a):∀hp:Heap,True->∃k,(k=Keeper.frame\/k=Keeper.machine\/k=Keeper.boundFrame)/\Looks W.M hp (keeperOf f) k:=λhp _=>by
 refine⟨.machine,.inr (.inl rfl),Looks.of_pure ?_⟩;unfold keeperOf
 cases f<;>first|rfl|exact absurd rfl (h _)
theorem i5{pos:Pos}{t:Sem Value}{l:List (Bool×Sem Value)}:backTo pos ((false,t)::l)=(false,t)::backTo pos l:=rfl
theorem kP{f:Value}{args:List (Bool×Sem Value)}{Q:Args->Shared->Prop}(h:args.any (·.1)=false)(w:wpAny W.M A (spliced args) (λvs s'=>Q ⟨vs,[]⟩ s') E s):wpAny W.M A (evalArgs f true args []) Q E s:=by
 cases args with
 |nil=>
  unfold evalArgs;show wpAny W.M A (spliced [] >>= _) Q E s;refine Zl (Zy w (λvs s' h'=>Zl (Zz ?_)) λ_ _ e=>e);refine ZX ?_;exact Zl (Zz (Zl (Zz (Zz h'))))
 |cons x r=>
  obtain ⟨b,t⟩:=x
  cases b with
  |true=>exact Bool.noConfusion (show true=false from h)
  |false=>exact evalArgs_plain w
theorem g_{f:Value}{first:List Value}{trees:List (Bool×Sem Value)}{pos:Pos}{Qs:List V->Hp->Prop}{Q:V->Hp->Prop}(F:Full W L γ)(hp:trees.any (·.1)=false)(hk:∀a,f= .ref a->keepIn W.K (.ref a)=true)
 (w:wpAny W.M A (spliced trees) (EU W H ow s Qs) E s)
 (c:∀vs s' H' aO,Qs (vs.map aq) H'->RH W H' aO s'.heap->wpAny W.M A (call f (first++vs) []) (bP W H' aO s' Q) E s'):wpAny W.M A (callWith pos f first trees []) (bP W H ow s Q) E s:=by
 have Ms:(trees.any (·.1)||([]:List (Option Str×Sem Value)).any (·.1.isNone))=false:=by rw[hp];rfl
 have go:∀P:Heap->Prop,(∀(s':Shared) H' aO,RH W H' aO s'.heap->P s'.heap)->wpAny W.M A (evalArgs f true trees []) (λa s₁=>P s₁.heap/\wpAny W.M A (call f (first++a.pos) a.kw) (bP W H ow s Q) E s₁) E s:=λP hP=>
  kP hp (Zy w (λvs s' p=>by
   refine oeeaa p λH' aO q R G=>?_;try clear p
   exact⟨hP _ _ _ R,cL G (c vs s' H' aO q R)⟩) λ_ _ e=>e)
 by_cases hr:∃a,f= .ref a
 . refine oe hr λa bU=>?_;try clear hr;subst bU
   exact WA (P:=λh=>W.K.In h) Ms (λh X=>keeps_K (hk a rfl) h X) (go _ λ_ _ _ R=>zX F.good R)
 . exact WA (P:=λ_=>True) Ms (eW λa e=>hr ⟨a,e⟩) (go (λ_=>True) λ_ _ _ _=>trivial)
theorem Bh{m l:Nat}{f:String}(c:L.can m f=true)(e:L.lv.lookup f=some l):l<=m:=by
 unfold Lv.can at c;rw[e] at c;exact of_decide_eq_true c
theorem xm{f:String}{vs:List Value}{Q:V->Hp->Prop}{m:Nat}(c:L.can m f=true)(hA:CK m A)(R:RH W H ow s.heap)(q:Meets W L f (vs.map aq) H Q){a:Nat}(ha:W.fn f=some a):wpAny W.M A (call (.ref a) vs []) (bP W H ow s Q) E s:=by
 refine oeeaa q λa' l e1 e2 w=>?_;try clear q
 rw[ha] at e1;cases e1
 refine Vg (WN (w A s ow vs (hA.less (Bh c e2)) R rfl) λr s' p=>?_);rcases r with r|(v|_|_|_)<;>first|exact p|exact p.elim
theorem KK(F:Full W L γ){C fi:String}{c f:Nat}(hc:W.cls C=some c)(hf:W.fn fi=some f)(hi:findIn W.K (.ref c) "__init__"=some (some (.ref f))){vs:List Value}{Q:V->Hp->Prop}{m:Nat}(h1:1<=m)(cn:L.can (m - 1) fi=true)(hA:CK m A)(R:RH W H ow s.heap)
 (q:∀a,H a=none->Meets W L fi (.ref a::vs.map aq) (bc H a (.inst C [])) λr h=>r= .none/\Q (.ref a) h):wpAny W.M A (call (.ref c) vs []) (bP W H ow s Q) E s:=by
 have X:=zX F.good R;refine oaaaaa (eM (F.good.cls C c hc)) λg1 g2 g3 g4 g5 g6=>?_;obtain ⟨h,g,d,t,os⟩:=s;have R:RH W H ow h:=R;have ha:h.get? (h.objs.size+1)=none:=bT (Yk _);have hd:h.get? h.objs.size=none:=bT (Zs _);refine oeeaa (q (h.objs.size+1) (R.rx ha)) λf' l e1 e2 w=>?_;rw[hf] at e1;cases e1
 have e1:=hf;have hl:=Bh cn e2;refine oa (F.xT _ _ e1) λt1 t2=>?_;have hk:∀b o,h.get? b=some o->((h.push emptyDict).push (instObj c h.objs.size)).get? b=some o:=λb o e=>ZM _ (ZM _ e);have z1:(h.push emptyDict).objs.size=h.objs.size+1:=Vy ..;have gx:((h.push emptyDict).push (instObj c h.objs.size)).get? (h.objs.size+1)=some (instObj c h.objs.size):=by rw[<-z1];exact ZV _ rfl
 have gd:((h.push emptyDict).push (instObj c h.objs.size)).get? h.objs.size=some (dictOf [] 0):=ZM _ (ZV _ rfl);have R1:RH W (bc H (h.objs.size+1) (.inst C [])) (bc ow (h.objs.size+1) h.objs.size) ((h.push emptyDict).push (instObj c h.objs.size)):=
  R.Ee hk ha hd (Xe (YG _)) ⟨c,h.objs.size,[],0,hc,by rw[bc,if_pos rfl],gx,gd,trivial,ZS _,λ_ z=>by cases z⟩
 have G1:Go H ow ⟨h,g,d,t,os⟩ (bc H (h.objs.size+1) (.inst C [])) (bc ow (h.objs.size+1) h.objs.size) ⟨(h.push emptyDict).push (instObj c h.objs.size),g,d,t,os⟩:=by
  refine Go.add (s:=⟨h,g,d,t,os⟩) hk (λb mm=>?_) (λb lv=>?_) (λb o e=>R.live e) λb mm=>?_
  . rcases mm with mm|⟨a,mm⟩
    . by_cases z:b=h.objs.size+1
      . subst z;exact .inr ha
      . rw[bc,if_neg z] at mm;exact .inl (.inl mm)
    . by_cases z:a=h.objs.size+1
      . subst z;rw[bc,if_pos rfl] at mm;cases mm;exact .inr hd
      . rw[bc,if_neg z] at mm;exact .inl (.inr ⟨a,mm⟩)
  . rw[bc,if_neg];rintro rfl;exact lv ha
  . rcases mm with mm|⟨a,mm⟩
    . left;unfold bc;split
      . exact λz=>by cases z
      . exact mm
    . refine .inr ⟨a,?_⟩;unfold bc;rw[if_neg]
      . exact mm
      . rintro rfl;refine oaee (R.ai _ _ mm) λ_ C' MD e=>?_;exact R.live e ha
 refine Vg (make_core (makes_of X g1) (looks_findIn X hi) (λself=>bind_fn X self t1) (.inl rfl) ?_);have NM:CK l (A.under (.builtin "type.__call__" ⟨.ref c::vs,[]⟩)):=by
  have d1:(A.under (.builtin "type.__call__" ⟨.ref c::vs,[]⟩)).depth=A.depth+1:=rfl;have d2:(A.under (.builtin "type.__call__" ⟨.ref c::vs,[]⟩)).units=A.units+1:=rfl;have d3:(A.under (.builtin "type.__call__" ⟨.ref c::vs,[]⟩)).handled=A.handled:=rfl;refine⟨by rw[d3];exact hA.hd,?_,?_⟩
  . rw[d1];exact nQ (Zk hl (VZ h1 Nat.one_pos)) hA.dp (by decide)
  . rw[d2];exact nQ (Zk hl (VZ h1 Nat.one_pos)) hA.un (by decide)
 refine WN (w _ ⟨(h.push emptyDict).push (instObj c h.objs.size),g,d,t,os⟩ _ (.ref (h.objs.size+1)::vs) NM R1 rfl) λr s' p=>?_;rcases r with r|(v|_|_|_)<;>try exact p.elim
 refine oeeaa p λH' aO cu R' G'=>?_;try clear p;refine oa cu λq1 q2=>?_;try clear cu
 exact⟨mj q1,H',aO,q2,R',G1.trans G'⟩
theorem lookup_none{n:String}:∀{fs:List (String×V)},(∀p∈fs,p.1≠n)->fs.lookup n=none
 |[],_=>rfl
 |(m,u)::r,h=>by
  rw[ZT,beq_eq_false_iff_ne.mpr (Yq (h _ Ze))];exact lookup_none λp hp=>h p (Zh _ hp)
theorem yJ(F:Full W L γ)(R:RH W H ow s.heap){a:Nat}{C m:String}{fs:List (String×V)}{c f:Nat}{pl:Sem Bool}{Q:Value×List Value->Shared->Prop}(h:H a=some (.inst C fs))(hn:iy C m=false)(hc:W.cls C=some c)(hf:findIn W.K (.ref c) (Str.ofString m)=some (some (.ref f)))(ht:typeIn W.K (.ref f)=some (.type "function"))
 (q:Q (.ref f,[.ref a]) s):wpAny W.M A (getMethod (.ref a) (Str.ofString m) pl) Q E s:=by
 refine oeeeeaaa (nR R (.inl h)) λc' dx es n ip I hF Jj=>?_;rw[hc] at ip;cases ip
 refine oaaaaa (eM (F.good.cls C c hc)) λg1 g2 g3 g4 g5 g6=>?_;have Fi:fs.lookup m=none:=lookup_none λp hp e=>by
  have:=Jj p hp;rw[e,hn] at this;cases this
 exact method_fn (zX F.good R) I g4 g6 hf ht (by show (lookIn _ (dictOf es n)).map _=_;rw[lookIn_dict,hF.DI Fi];rfl) q
end
end
section
open PySem PySem.W PyProof.Rows PySem.Calls
noncomputable def Ao(sc:Scope)(n:String):Bool:= !(Str.ofString n==("__classdict__":Str))&&(!(Str.ofString n==("__debug__":Str))&&(!(n== ".0")&&
 (sc.names.lookup (Str.ofString n)==some .local||(sc.names.lookup (Str.ofString n)==some .cell||sc.names.lookup (Str.ofString n)==some .free))))
noncomputable def aR(sc:Scope)(n:String):Bool:=sc.names.lookup (Str.ofString n)==some .globalImplicit&& !(Str.ofString n==("__debug__":Str))
noncomputable def cp:Expr->Bool
 | .Call (.Name _ _) [] [] _=>false
 |_=>true
noncomputable def fN:Expr->Bool
 | .Slice _ _ _ _=>false
 |_=>true
noncomputable def notStar:Expr->Bool
 | .Starred _ _=>false
 |_=>true
theorem aP{a b:Bool}(h:(a&&b)=true):a=true/\b=true:=Zj.mp h
theorem og{a:Bool}(h:(!a)=true):a=false:=by cases a;rfl;cases h
theorem dv{o:Expr}{n:Str}{env:Env}{w:Sem Value}(h:cp o=true):attributeBase o n env w=w:=by
 cases o with
 |Call f as ks _=>cases f with
  |Name _ _=>cases as with
   |nil=>cases ks with
    |nil=>cases h
    |cons=>rfl
   |cons=>rfl
  |_=>rfl
 |_=>rfl
theorem cj{x:Expr}{xs:List Expr}{env:Env}(h:notStar x=true):starEach (x::xs) env=(false,eval x env)::starEach xs env:=by
 cases x<;>first|rfl|cases h
structure gE(L:Lv)(sc:Scope)(m:Nat) where
 W:dB
 γ:String->Option V
 F:Full W L γ
 A:Around
 env:Env
 hs:env.scope=sc
 hA:CK m A
section
variable {L:Lv}{sc:Scope}{m:Nat}
noncomputable abbrev gE.wp(f:gE L sc m):C->Lo->List V->Hp->Po->Prop:=Mine.wp (Meets f.W L) f.γ
structure At(f:gE L sc m)(ρ:Lo)(H:Hp)(ow:Nat->Option Nat)(s:Shared):Prop where
 X:b7 f.W ρ f.env H ow s.heap
 R:RH f.W H ow s.heap
noncomputable def Kd(L:Lv)(sc:Scope)(m:Nat)(c k:C)(x:Expr):Prop:=
 ∀(f:gE L sc m) (ρ:Lo) (H:Hp) (ow:Nat->Option Nat) (s:Shared) (E:Value->Shared->Prop) (st:List V) (Q:Po),At f ρ H ow s->
  f.wp c ρ st H Q->wpAny f.W.M f.A (eval x f.env) (bP f.W H ow s λv h=>f.wp k ρ (v::st) h Q) E s
noncomputable def PV(L:Lv)(sc:Scope)(m:Nat)(c k:C)(x:Expr):Prop:=
 ∀(f:gE L sc m) (ρ:Lo) (H:Hp) (ow:Nat->Option Nat) (s:Shared) (E:Value->Shared->Prop) (st:List V) (Q:Po) (P:Bool->Hp->Prop),At f ρ H ow s->(∀v h,f.wp k ρ (v::st) h Q->∃t,v= .bool t/\P t h)->
  f.wp c ρ st H Q->wpAny f.W.M f.A (isTrue x f.env (eval x f.env)) (λt s'=>kI f.W H ow s (P t) s') E s
noncomputable def aZ(L:Lv)(sc:Scope)(m:Nat)(c k:C)(x:Expr):Prop:=Kd L sc m c k x/\PV L sc m c k x
noncomputable def dL(L:Lv)(sc:Scope)(m:Nat)(c k:C)(xs:List Expr):Prop:=
 (∀env pos,(backTo pos (starEach xs env)).any (·.1)=false)/\
 ∀(f:gE L sc m) (pos:Pos) (ρ:Lo) (H:Hp) (ow:Nat->Option Nat) (s:Shared) (E:Value->Shared->Prop) (st:List V) (Q:Po),At f ρ H ow s->
  f.wp c ρ st H Q->wpAny f.W.M f.A (spliced (backTo pos (starEach xs f.env))) (EU f.W H ow s λvs h=>vs.length=xs.length/\f.wp k ρ (vs.reverse++st) h Q) E s
section
variable {f:gE L sc m}{ρ:Lo}{H:Hp}{ow:Nat->Option Nat}{s:Shared}{E:Value->Shared->Prop}{st:List V}{Q:Po}
theorem At.go{H1:Hp}{bR:Nat->Option Nat}{s1:Shared}(a:At f ρ H ow s)(G:Go H ow s H1 bR s1)(R:RH f.W H1 bR s1.heap):At f ρ H1 bR s1:=⟨a.X.go G,R⟩
theorem jO{x:Sem Value}{q:V->Hp->Prop}{P:Value->Shared->Prop}(a:At f ρ H ow s)(w:wpAny f.W.M f.A x (bP f.W H ow s q) E s)(k:∀v s1 H1 bR,q (aq v) H1->At f ρ H1 bR s1->Go H ow s H1 bR s1->P v s1):wpAny f.W.M f.A x P E s:=
 Zy w (λv s1 lF=>oeeaa lF λH1 bR y R G=>k v s1 H1 bR y (a.go G R) G) λ_ _ e=>e
theorem oH{v:Value}{s':Shared}{q:V->Hp->Prop}{P:Bool->Hp->Prop}(p:bP f.W H ow s q v s')(h:∀v h,q v h->∃t,v= .bool t/\P t h):wpAny f.W.M f.A (truthy v) (λt gT=>kI f.W H ow s (P t) gT) E s':=by
 refine oeeaa p λH1 bR q R1 G1=>?_;try clear p
 refine oea (h _ _ q) λb hb q=>?_;rw[eG hb];exact We ⟨H1,bR,q,R1,G1⟩
theorem t9:∀(l acc st:List V),tE l.length acc (l++st)=some (l.reverse++acc,st)
 |[],_,_=>rfl
 |v::l,acc,st=>by
  rw[Xr,Zo];exact t9 l (v::acc) st
theorem gY{vs:List V}{n:Nat}{W:List V->List V->Prop}(l:vs.length=n)(w:fF n (vs.reverse++st) W):W vs st:=by
 unfold fF at w;rw[<-l,<-YS,t9,List.reverse_reverse,Zu] at w;exact w
theorem tW(h:CK m A):A.units+8<cLine:=by have:=h.un;have:cLine=9900:=rfl;(rename_i jF;exact(aj 0x1101018011242328621284112326ac6015230) cLine A.units m this jF)
theorem rG(a:At f ρ H ow s){n:String}{p:Pos}(h:aR sc n=true){v:Value}(e:f.W.mg (Str.ofString n)=some v){P:Value->Shared->Prop}(q:P v s):
 wpAny f.W.M f.A (eval (.Name (Str.ofString n) p) f.env) P E s:=by
 rw[<-f.hs] at h;exact Bz a.X a.R f.F.gl (beq_iff_eq.mp (aP h).1) e q (og (aP h).2)
theorem vO(a:At f ρ H ow s){n:String}{p:Pos}(h:aR sc n=true){v:Value}(e:(n,v)∈Js){P:Value->Shared->Prop}(q:P v s):
 wpAny f.W.M f.A (eval (.Name (Str.ofString n) p) f.env) P E s:=by
 rw[<-f.hs] at h;exact yM a.X a.R f.F.gl f.F.bi (beq_iff_eq.mp (aP h).1) (f.F.nm _ e).1 (f.F.nm _ e).2 q (og (aP h).2)
end
variable {c k c1 c2:C}{x y:Expr}
theorem pX(he:Kd L sc m c k x)(hi:∀env,isTrue x env (eval x env)=(do let v<-eval x env;standAt x.pos;holding [v] (truthy v))):aZ L sc m c k x:=by
 refine⟨he,λf ρ H ow s E st Q P a hP w=>wpAny_isTrue_value (Zy (he f ρ H ow s E st Q a w) (λv s₁ q=>?_) λ_ _ e=>e) (hi f.env)⟩;exact oH q hP
theorem HD{n:String}{p:Pos}(h:Ao sc n=true):aZ L sc m (.ae n k) k (.Name (Str.ofString n) p):=by
 refine pX (λf ρ H ow s E st Q a lE=>oea lE λv e w=>?_) λ_=>rfl;refine oa (aP h) λh1 h=>?_;refine oa (aP h) λh2 h=>?_;refine oa (aP h) λh3 h=>?_;rw[<-f.hs] at h;exact Hk a.X a.R e ((YC.mp h).imp beq_iff_eq.mp λh=>(YC.mp h).imp beq_iff_eq.mp beq_iff_eq.mp) (λz=>by rw[z] at h3;cases h3) w (og h1) (og h2)
theorem DY{n:String}{p:Pos}(h:aR sc n=true):aZ L sc m (.glob n k) k (.Name (Str.ofString n) p):=by
 refine pX (λf ρ H ow s E st Q a q7=>oea q7 λv e w=>?_) λ_=>rfl;refine oea (f.F.gam n v e) λv' e' bU=>?_;subst bU;exact rG a h e' (a_ a.R w)
theorem HM{i:Int}{u p}:aZ L sc m (.az (.int i) k) k (.Constant (.int i) u p):=pX (λf ρ H ow s E st Q a w=>YV (bE a.R w)) λ_=>rfl
theorem HF{t:Str}{u p}:aZ L sc m (.az (.str t) k) k (.Constant (.str t) u p):=pX (λf ρ H ow s E st Q a w=>Constant_str (bE a.R w)) λ_=>rfl
theorem D8{b:Bool}{u p}:aZ L sc m (.az (.bool b) k) k (.Constant (.bool b) u p):=pX (λf ρ H ow s E st Q a w=>by rw[arm_eval_Constant];exact Zz (a_ a.R w)) λ_=>rfl
theorem DU{u p}:aZ L sc m (.az .none k) k (.Constant .none u p):=pX (λf ρ H ow s E st Q a w=>by rw[arm_eval_Constant];exact Zz (a_ a.R w)) λ_=>rfl
theorem HJ{i:Int}{u p p'}:aZ L sc m (.az (.int (-i)) k) k (.UnaryOp .USub (.Constant (.int i) u p) p'):=pX (λf ρ H ow s E st Q a w=>
 VL (YV (Zy (KL (s:={s with toks:=s.toks+1}) a.R w) (λv s' p=>p.after ((Go.refl ..).tok _)) λ_ _ e=>e))) λ_=>rfl
theorem Bd{b:Nat}(hb:b=9\/b=60){u u' p p' L2}:aZ L sc m (.az (.int ((10:Int) ^ b)) k) k (.BinOp (.Constant (.int 10) u p) .Pow (.Constant (.int b) u' p') L2):=pX (λf ρ H ow s E st Q a w=>
 wpAny_BinOp (YV (YV (Zy (KI (s:={s with toks:=s.toks+1+1}) a.R hb w) (λv s' p=>p.after ((Go.refl ..).tok _)) λ_ _ e=>e)))) λ_=>rfl
theorem D9{n:String}{v:Expr}{p:Pos}(hb:cp v=true)(he:aZ L sc m c (.u (.attr n) k) v):aZ L sc m c k (.Attribute v (Str.ofString n) p):=by
 refine pX (λf ρ H ow s E st Q a w=>?_) λ_=>rfl;rw[arm_eval_Attribute,dv hb];refine Zl (jO a (he.1 f ρ H ow s E st Q a w) λu s₁ H1 bR q a1 G1=>?_);refine oea q λ_ cu q=>?_;refine oea cu λy g r_1=>?_;try clear cu;subst r_1
 exact Zl (Z9 (Zl (ZX (Zy (cL G1 (yL f.F.good a1.R g q)) (λr s₂ q=>Zl (Wy (Zz q))) λ_ _ e=>e))))
theorem li{slice:Expr}(h:fN slice=true)(v k:Value):subscripted slice false v k=operate [v,k] (getItem v k):=by
 cases slice<;>first|rfl|cases h
theorem oU(value slice:Expr)(pos:Pos)(env:Env):eval (.Subscript value slice pos) env=(do
 let o<-eval value env
 let i<-holding [o] (eval slice env)
 standAt pos
 subscriptTail value slice o i):=rfl
theorem HN{v t:Expr}{p:Pos}(hb:fN t=true)(he:aZ L sc m c c1 v)(hi:aZ L sc m c1 (.b .idx k) t):aZ L sc m c k (.Subscript v t p):=by
 refine pX (λf ρ H ow s E st Q a w=>?_) λ_=>rfl;rw[oU];refine Zl (jO a (he.1 f ρ H ow s E st Q a w) λu s₁ H1 bR q a1 G1=>?_);refine Zl (ZX (jO a1 (hi.1 f ρ H1 bR s₁ E _ Q a1 q) λj s₂ H2 gD q a2 G2=>?_));refine oea q λ_ cY q=>?_;refine oea cY λy g r_2=>?_;try clear cY;subst r_2
 exact Zl (Z9 (cL (G1.trans G2) (uL a2.R g q (li hb u j))))
theorem HP{op:FK}{l r:Expr}{p:Pos}(ha:aZ L sc m c c1 l)(hb:aZ L sc m c1 (.b (.bin op) k) r):aZ L sc m c k (.BinOp l (C9 op) r p):=by
 refine pX (λf ρ H ow s E st Q a w=>?_) λ_=>rfl;refine wpAny_BinOp (jO a (ha.1 f ρ H ow s E st Q a w) λu s₁ H1 bR q a1 G1=>?_);refine jO a1 (hb.1 f ρ H1 bR s₁ E _ Q a1 q) λj s₂ H2 gD q a2 G2=>?_;refine oea q λ_ b q=>?_;exact cL (G1.trans G2) (KO a2.R b q)
theorem HO{op:FJ}{l r:Expr}{p:Pos}(hm:behindInMarks (mJ op) r=false)(ha:aZ L sc m c c1 l)(hb:aZ L sc m c1 (.b (.cmp op) k) r):aZ L sc m c k (.Compare l [mJ op] [r] p):=by
 have key:∀{f:gE L sc m} {ρ:Lo} {H:Hp} {ow:Nat->Option Nat} {s:Shared} {E:Value->Shared->Prop} {st:List V} {Q:Po} {PP:Value->Shared->Prop},At f ρ H ow s->f.wp c ρ st H Q->(∀v s',bP f.W H ow s (λv h=>f.wp k ρ (v::st) h Q) v s'->PP v s')->
  wpAny f.W.M f.A (eval l f.env) (λu s₁=>wpAny f.W.M f.A (eval r f.env) (λj s₂=>wpAny f.W.M f.A (compareOp (mJ op) u j) PP E s₂) E s₁) E s:=λ{f ρ H ow s E st Q PP} a w hP=>by
  refine jO a (ha.1 f ρ H ow s E st Q a w) λu s₁ H1 bR q a1 G1=>?_;refine jO a1 (hb.1 f ρ H1 bR s₁ E _ Q a1 q) λj s₂ H2 gD q a2 G2=>?_;refine oea q λ_ b q=>?_;exact Zy (cL (G1.trans G2) (KN f.F.sm a2.R b q (tW f.hA))) (λv s' p=>hP v s' p) λ_ _ e=>e
 refine⟨λf ρ H ow s E st Q a w=>wpAny_Compare1 (key a w λ_ _ p=>p) hm,λf ρ H ow s E st Q P a hP w=>Vp (key a w λ_ _ p=>oH p hP) hm⟩
theorem Lw{W:dB}{A:Around}{E:Value->Shared->Prop}{s:Shared}{env:Env}{p:Pos}{P:Value->Shared->Prop}(q:P (.ref s.heap.objs.size) {s with heap:=s.heap.push {cls:=.type "list",data:=.seq #[]}}):
 wpAny W.M A (eval (.List [] p) env) P E s:=by
 rw[arm_eval_List];exact Zl (Z9 (Zl (Zz (Xb q))))
theorem DV{ne:Bool}{l:Expr}{p p':Pos}(ha:aZ L sc m c (.u (.nilq ne) k) l):aZ L sc m c k (.Compare l [if ne=true then CmpOp.NotEq else .Eq] [.List [] p'] p):=by
 have hm:behindInMarks (if ne=true then CmpOp.NotEq else .Eq) (.List [] p')=false:=by cases ne<;>rfl
 have key:∀{f:gE L sc m} {ρ:Lo} {H:Hp} {ow:Nat->Option Nat} {s:Shared} {E:Value->Shared->Prop} {st:List V} {Q:Po} {PP:Value->Shared->Prop},At f ρ H ow s->f.wp c ρ st H Q->(∀v s',bP f.W H ow s (λv h=>f.wp k ρ (v::st) h Q) v s'->PP v s')->
  wpAny f.W.M f.A (eval l f.env) (λu s₁=>wpAny f.W.M f.A (eval (.List [] p') f.env) (λj s₂=>wpAny f.W.M f.A (compareOp (if ne=true then CmpOp.NotEq else .Eq) u j) PP E s₂) E s₁) E s:=λ{f ρ H ow s E st Q PP} a w hP=>by
  refine jO a (ha.1 f ρ H ow s E st Q a w) λu s₁ H1 bR q a1 G1=>?_;refine oea q λ_ dT q=>?_;refine oeeaa dT λc xs hc hl r_3=>?_;try clear dT;subst r_3
  rw[aN hc];refine Lw ?_;refine oeaa (a1.R.obj c _ hl) λvs hp gU _=>?_;subst gU;have hk:∀b o,s₁.heap.get? b=some o->(s₁.heap.push {cls:=.type "list",data:=.seq #[]}).get? b=some o:=λb o e=>ZM _ e;refine KJ (s:={s₁ with heap:=s₁.heap.push {cls:=.type "list",data:=.seq #[]}}) (hp.at λo=>hk _ o) ⟨0,ZV _ rfl⟩ ne (hP _ _ ⟨H1,bR,?_,a1.R.keeps hk,G1.off (tk:=s₁.toks) (λ_=>False) (λb o _ e=>hk b o e) (λ_ z=>z.elim)⟩) (tW f.hA);have e:(vs.toList.map aq).isEmpty=vs.toList.isEmpty:=by cases vs.toList<;>rfl
  rw[e] at q;exact q
 refine⟨λf ρ H ow s E st Q a w=>wpAny_Compare1 (key a w λ_ _ p=>p) hm,λf ρ H ow s E st Q P a hP w=>Vp (key a w λ_ _ p=>oH p hP) hm⟩
theorem HH{v:Expr}{p:Pos}(he:aZ L sc m c (.u .not k) v):aZ L sc m c k (.UnaryOp .Not v p):=by
 refine⟨λf ρ H ow s E st Q a w=>?_,λf ρ H ow s E st Q P a hP w=>?_⟩
 . refine VL (jO a (he.1 f ρ H ow s E st Q a w) λu s₁ H1 bR q a1 G1=>?_);refine oea q λ_ gC q=>?_;refine oea gC λb hb r_4=>?_;try clear gC;subst r_4
   rw[eG hb];show wpAny f.W.M f.A (holding [Value.bool b] (do return Value.bool (!(<-truthy (Value.bool b))))) _ _ _;exact ZX (Zl (We (Zz ⟨H1,bR,q,a1.R,G1⟩)))
 . refine wpAny_isTrue_Not (Zy (he.2 f ρ H ow s E st Q (λb h=>P (!b) h) a (λv h q=>?_) w) (λb s₁ q=>q) λ_ _ e=>e);refine oea q λ_ kB q=>?_;refine oea kB λb r_5 r_6=>?_;try clear kB;subst r_5;subst r_6
   refine oea (hP _ _ q) λt e q=>?_
   cases e
   exact⟨b,rfl,q⟩
theorem j0{f:gE L sc m}{ρ:Lo}{st:List V}{Q:Po}{v:V}{h:Hp}(w:f.wp (.ite c1 c2 k) ρ (v::st) h Q):∃t,v= .bool t/\f.wp (if t=true then c1 else c2) ρ st h (sq (λρ st h=>f.wp k ρ st h Q) Q):=by
 refine oeaa w λt e w1 w2=>?_;try clear w
 refine⟨t,e,?_⟩
 cases t with
 |true=>exact w1 rfl
 |false=>exact w2 rfl
theorem HL{t y n:Expr}{p:Pos}(hc:aZ L sc m c (.ite c1 c2 k) t)(ha:aZ L sc m c1 .done y)(hb:aZ L sc m c2 .done n):aZ L sc m c k (.IfExp t y n p):=by
 refine⟨λf ρ H ow s E st Q a w=>?_,λf ρ H ow s E st Q P a hP w=>?_⟩
 . refine wpAny_IfExp (Zy (hc.2 f ρ H ow s E st Q _ a (λv h w=>j0 w) w) (λt s₁ q=>?_) λ_ _ e=>e);refine oeeaa q λH1 bR q R1 G1=>?_;have a1:=a.go G1 R1
   cases t with
   |true=>exact cL G1 (ha.1 f ρ H1 bR s₁ E st _ a1 q)
   |false=>exact cL G1 (hb.1 f ρ H1 bR s₁ E st _ a1 q)
 . rw[arm_isTrue_IfExp];refine Zl (Zy (hc.2 f ρ H ow s E st Q _ a (λv h w=>j0 w) w) (λt s₁ q=>?_) λ_ _ e=>e);refine oeeaa q λH1 bR q R1 G1=>?_;have a1:=a.go G1 R1
   cases t with
   |true=>exact Zy (ha.2 f ρ H1 bR s₁ E st (sq (λρ st h=>f.wp k ρ st h Q) Q) P a1 hP q) (λ_ _ z=>z.after G1) λ_ _ e=>e
   |false=>exact Zy (hb.2 f ρ H1 bR s₁ E st (sq (λρ st h=>f.wp k ρ st h Q) Q) P a1 hP q) (λ_ _ z=>z.after G1) λ_ _ e=>e
end
end
section
open PySem PySem.W PyProof.Rows PySem.Calls
section
variable {L:Lv}{sc:Scope}{m:Nat}{c k c1 c2:C}{x y:Expr}{xs:List Expr}
structure vR(L:Lv)(sc:Scope)(m:Nat)(op:BoolOp)(c k:C)(xs:List Expr):Prop where
 val:∀(f:gE L sc m) (p:Pos) (ρ:Lo) (H:Hp) (ow:Nat->Option Nat) (s:Shared) (E:Value->Shared->Prop) (st:List V) (Q:Po),At f ρ H ow s->
  f.wp c ρ st H Q->wpAny f.W.M f.A (boolOp p op (evalEach xs f.env)) (bP f.W H ow s λv h=>f.wp k ρ (v::st) h Q) E s
 con:∀(f:gE L sc m) (ρ:Lo) (H:Hp) (ow:Nat->Option Nat) (s:Shared) (E:Value->Shared->Prop) (st:List V) (Q:Po) (P:Bool->Hp->Prop),At f ρ H ow s->(∀v h,f.wp k ρ (v::st) h Q->∃t,v= .bool t/\P t h)->
  f.wp c ρ st H Q->wpAny f.W.M f.A (allTrue op xs f.env) (λt s'=>kI f.W H ow s (P t) s') E s
theorem Id{op:BoolOp}(he:aZ L sc m c k x):vR L sc m op c k [x]:=by
 refine⟨λf p ρ H ow s E st Q a w=>he.1 f ρ H ow s E st Q a w,λf ρ H ow s E st Q P a hP w=>?_⟩;show wpAny _ _ (isTrue x f.env (eval x f.env) >>= _) _ _ _;refine Zl (Zy (he.2 f ρ H ow s E st Q P a hP w) (λt s₁ q=>?_) λ_ _ e=>e)
 cases op<;>cases t<;>exact Zz q
theorem Ie(he:aZ L sc m c (.ite c1 (.az (.bool false) .done) k) x)(hr:vR L sc m .And c1 .done (y::xs)):vR L sc m .And c k (x::y::xs):=by
 refine⟨λf p ρ H ow s E st Q a w=>?_,λf ρ H ow s E st Q P a hP w=>?_⟩
 . refine Zl (jO a (he.1 f ρ H ow s E st Q a w) λv s₁ H1 bR q a1 G1=>?_);refine oea (j0 q) λt hb q=>?_;rw[eG hb];refine Zl (Z9 (Zl (ZX (We ?_))))
   cases t with
   |true=>exact cL G1 (hr.val f p ρ H1 bR s₁ E st _ a1 q)
   |false=>exact Zz ⟨H1,bR,q,a1.R,G1⟩
 . show wpAny _ _ (isTrue x f.env (eval x f.env) >>= _) _ _ _;refine Zl (Zy (he.2 f ρ H ow s E st Q _ a (λv h w=>j0 w) w) (λt s₁ q=>?_) λ_ _ e=>e);refine oeeaa q λH1 bR q R1 G1=>?_
   cases t with
   |true=>exact Zy (hr.con f ρ H1 bR s₁ E st (sq (λρ st h=>f.wp k ρ st h Q) Q) P (a.go G1 R1) hP q) (λ_ _ z=>z.after G1) λ_ _ e=>e
   |false=>
    refine oea (hP (.bool false) H1 q) λt e q=>?_
    cases e
    exact Zz ⟨H1,bR,q,R1,G1⟩
theorem LT(he:aZ L sc m c (.ite (.az (.bool true) .done) c1 k) x)(hr:vR L sc m .Or c1 .done (y::xs)):vR L sc m .Or c k (x::y::xs):=by
 refine⟨λf p ρ H ow s E st Q a w=>?_,λf ρ H ow s E st Q P a hP w=>?_⟩
 . refine Zl (jO a (he.1 f ρ H ow s E st Q a w) λv s₁ H1 bR q a1 G1=>?_);refine oea (j0 q) λt hb q=>?_;rw[eG hb];refine Zl (Z9 (Zl (ZX (We ?_))))
   cases t with
   |false=>exact cL G1 (hr.val f p ρ H1 bR s₁ E st _ a1 q)
   |true=>exact Zz ⟨H1,bR,q,a1.R,G1⟩
 . show wpAny _ _ (isTrue x f.env (eval x f.env) >>= _) _ _ _;refine Zl (Zy (he.2 f ρ H ow s E st Q _ a (λv h w=>j0 w) w) (λt s₁ q=>?_) λ_ _ e=>e);refine oeeaa q λH1 bR q R1 G1=>?_
   cases t with
   |false=>exact Zy (hr.con f ρ H1 bR s₁ E st (sq (λρ st h=>f.wp k ρ st h Q) Q) P (a.go G1 R1) hP q) (λ_ _ z=>z.after G1) λ_ _ e=>e
   |true=>
    refine oea (hP (.bool true) H1 q) λt e q=>?_
    cases e
    exact Zz ⟨H1,bR,q,R1,G1⟩
theorem Lu{op:BoolOp}{p:Pos}(h:vR L sc m op c k xs):aZ L sc m c k (.BoolOp op xs p):=by
 refine⟨λf ρ H ow s E st Q a w=>?_,λf ρ H ow s E st Q P a hP w=>?_⟩
 . rw[arm_eval_BoolOp];exact h.val f p ρ H ow s E st Q a w
 . rw[arm_isTrue_BoolOp];exact h.con f ρ H ow s E st Q P a hP w
theorem xH:dL L sc m k k []:=⟨λ_ _=>rfl,λf pos ρ H ow s E st Q a w=>XT ⟨H,ow,⟨rfl,w⟩,a.R,Go.refl ..⟩⟩
theorem uz(ik:notStar x=true)(he:aZ L sc m c c1 x)(hr:dL L sc m c1 k xs):dL L sc m c k (x::xs):=by
 refine⟨λenv pos=>?_,λf pos ρ H ow s E st Q a w=>?_⟩
 . rw[cj ik,i5,XI,hr.1 env pos];rfl
 . rw[cj ik,i5];refine Xf (jO a (he.1 f ρ H ow s E st Q a w) λv s₁ H1 bR q a1 G1=>?_);refine Zy (hr.2 f pos ρ H1 bR s₁ E _ Q a1 q) (λvs s₂ q=>?_) λ_ _ e=>e;refine oeeaa q λH2 gD q R2 G2=>?_;exact⟨H2,gD,⟨congrArg Nat.succ q.1,by rw[Zw,Xr,Zo];exact q.2⟩,R2,G1.trans G2⟩
theorem DX{p:Pos}(hl:xs.length<=100)(he:dL L sc m c (.mk .list xs.length k) xs):aZ L sc m c k (.List xs p):=by
 refine pX (λf ρ H ow s E st Q a w=>?_) λ_=>rfl;rw[arm_eval_List];refine Zl (Z9 (Zl (Zy (he.2 f p ρ H ow s E st Q a w) (λvs s₁ q=>?_) λ_ _ e=>e)));refine oeeaa q λH1 bR bU R1 G1=>?_;try clear q;refine oa bU λhlen q=>?_;try clear bU
 have q:=gY hlen q;rw[Za] at hlen;exact cL G1 (yF R1 (Zf (hlen▸hl) (by decide)) q)
theorem HE{n:Nat}{p:Pos}(hl:xs.length<=100)(he:dL L sc m c (.mk .tup xs.length k) xs):aZ L sc m c k (.Tuple xs n p):=by
 refine pX (λf ρ H ow s E st Q a w=>?_) λ_=>rfl;rw[arm_eval_Tuple];refine Zl (Z9 (Zl (Zy (he.2 f p ρ H ow s E st Q a w) (λvs s₁ q=>?_) λ_ _ e=>e)));refine oeeaa q λH1 bR cu R1 G1=>?_;try clear q;refine oa cu λhlen q=>?_;try clear cu
 have q:=gY hlen q;rw[Za] at hlen;exact cL G1 (wi R1 (Zf (hlen▸hl) (by decide)) q)
theorem Cn{p:Pos}:aZ L sc m (.mk .dict 0 k) k (.Dict [] [] p):=by
 refine pX (λf ρ H ow s E st Q a w=>?_) λ_=>rfl;rw[arm_eval_Dict];exact Zl (Z9 (yG a.R w))
theorem ck(id:Str)(p:Pos)(args:List Expr)(keywords:List Keyword)(pos:Pos)(env:Env):eval (.Call (.Name id p) args keywords pos) env=(do
 callWith pos (<-eval (.Name id p) env) [] (backTo pos (starEach args env)) (backToKw pos (keywordEach keywords env))):=rfl
theorem D7{g:String}{p pos:Pos}(hg:aR sc g=true)(ht:L.fF.contains g=true)(hc:L.can m g=true)(he:dL L sc m c (.call g xs.length k) xs):aZ L sc m c k (.Call (.Name (Str.ofString g) p) xs [] pos):=by
 refine pX (λf ρ H ow s E st Q a w=>?_) λ_=>rfl;rw[ck];refine oea (f.F.top g ht) λb hb e=>?_;refine Zl (rG a hg e ?_);refine g_ f.F (he.1 f.env pos) (λ_ e=>by cases e;exact(f.F.xT g b hb).2) (he.2 f pos ρ H ow s E st Q a w) λvs s' H' aO q R'=>?_;exact xm hc f.hA R' (gY q.1 q.2) hb
theorem HI{D g:String}{p pos:Pos}(hg:aR sc D=true)(h1:1<=m)(hc:L.can (m - 1) g=true)(hD:L.qD.lookup D=some g)(he:dL L sc m c (.new D g xs.length k) xs):aZ L sc m c k (.Call (.Name (Str.ofString D) p) xs [] pos):=by
 refine pX (λf ρ H ow s E st Q a w=>?_) λ_=>rfl;rw[ck];refine oeeaaaa (f.F.cls D g hD) λcl b c1 c2 c3 c4 c5=>?_;refine Zl (rG a hg c2 ?_);refine g_ f.F (he.1 f.env pos) (λ_ e=>by cases e;exact c3) (he.2 f pos ρ H ow s E st Q a w) λvs s' H' aO q R'=>?_;exact KK f.F c1 c4 c5 h1 hc f.hA R' (gY q.1 q.2)
theorem pL{o:Expr}{name:Str}{apos pos:Pos}{env:Env}{ov:Value}{n:Nat}{args:List (Bool×Sem Value)}(hn:n<29)(ha:args.any (·.1)=false)(hl:(apos.endLine==pos.line)=true):
 methodCall o name apos pos env ov n args []=(do
  let (f,first)<-holding [ov] (getMethod ov name (do return (<-importBound o env).getD true))
  callWith pos f first args []):=by
 have hf:methodCallForm n args []=true:=by
  unfold methodCallForm;have:args.all (λx=> !x.1)=true:=by
   rw[ZW];intro x hx;have:=List.any_eq_false.mp ha x hx
   simpa using this
  rw[this];simp;exact(aj 0x11001e6014001d6014110) _ hn
 unfold methodCall;rw[hf,show calleeOf true o env ov name=getMethod ov name (do return (<-importBound o env).getD true) from if_pos rfl,show methodCallPos true o env apos pos=pure pos from if_pos (by rw[hl];rfl)]
 rfl
theorem uA{D:String}{n:Str}{o:Expr}{apos pos:Pos}(hb:cp o=true)(hl:(apos.endLine==pos.line)=true)(hn:xs.length<29)(ho:aZ L sc m c (.bL D c1) o)(he:dL L sc m c1 c2 xs)
 (go:∀(f:gE L sc m) (ρ:Lo) (H:Hp) (ow:Nat->Option Nat) (s:Shared) (E:Value->Shared->Prop) (st:List V) (Q:Po) (b:Nat) (P:Value×List Value->Shared->Prop),At f ρ H ow s->Kind H (.ref b) D->
  (∀fv,(∀a,fv= .ref a->keepIn f.W.K (.ref a)=true)->(∀vs s' H' aO,vs.length=xs.length->f.wp c2 ρ ((vs.map aq).reverse++(.ref b::st)) H' Q->RH f.W H' aO s'.heap->wpAny f.W.M f.A (call fv (.ref b::vs) []) (bP f.W H' aO s' λv h=>f.wp k ρ (v::st) h Q) E s')->P (fv,[.ref b]) s)->
  wpAny f.W.M f.A (getMethod (.ref b) n (do return (<-importBound o f.env).getD true)) P E s):aZ L sc m c k (.Call (.Attribute o n apos) xs [] pos):=by
 refine pX (λf ρ H ow s E st Q a w=>?_) λ_=>rfl;rw[arm_eval_Call,dv hb];refine Zl (jO a (ho.1 f ρ H ow s E st Q a w) λu s₁ H1 bR q a1 G1=>?_);refine oa q λhk q=>?_;refine oea (id hk) λb hu Jh=>?_;obtain rfl:=aN hu;refine Zl (Z9 ?_);show wpAny f.W.M f.A (methodCall o n apos pos f.env (.ref b) (xs.length+0) (backTo pos (starEach xs f.env)) []) _ _ _;rw[pL (n:=xs.length+0) hn (he.1 f.env pos) hl];refine cL G1 (Zl (ZX (go f ρ H1 bR s₁ E st Q b _ a1 hk λfv hf hc=>?_)));exact g_ (first:=[.ref b]) f.F (he.1 f.env pos) hf (he.2 f pos ρ H1 bR s₁ E _ Q a1 q) λvs s' H' aO q R'=>hc vs s' H' aO (by rw[<-q.1,Za]) q.2 R'
theorem DT{pm:Pm}{o:Expr}{apos pos:Pos}(hb:cp o=true)(hl:(apos.endLine==pos.line)=true)(hn:xs.length<29)(ho:aZ L sc m c (.bL (qC pm) c1) o)(he:dL L sc m c1 (.prim pm xs.length k) xs):aZ L sc m c k (.Call (.Attribute o (Str.ofString (tM pm)) apos) xs [] pos):=by
 refine uA hb hl hn ho he λf ρ H ow s E st Q b P a hk q=>?_;refine yI a.R hk (q _ (λ_ e=>by cases e) λvs s' H' aO l w R'=>?_) λfs e=>?_
 . refine oeeeaa (gY (by rw[Za];exact l) w) λa' w' o' e p w=>?_
   cases e
   exact Hf f.F.sm R' p w
 . refine oeeeea (a.R.obj b _ e) λcl _ _ _ hc _=>?_;have h1:f.W.cls "list"=none:=f.F.AS.1;have h2:f.W.cls "dict"=none:=f.F.AS.2
   cases pm<;>first|exact Option.noConfusion (heq_of_eq (h1.symm.trans hc))|exact absurd (h1.symm.trans hc) (λz=>by cases z)|exact absurd (h2.symm.trans hc) (λz=>by cases z)
theorem DW{D n g:String}{o:Expr}{apos pos:Pos}(hb:cp o=true)(hl:(apos.endLine==pos.line)=true)(hn:xs.length<29)(hg:L.meths.lookup g=some (D,n))(hc:L.can m g=true)(hf:iy D n=false)(hD:(D== "list"||D== "dict")=false)(ho:aZ L sc m c (.bL D c1) o)(he:dL L sc m c1 (.call g (xs.length+1) k) xs):
 aZ L sc m c k (.Call (.Attribute o (Str.ofString n) apos) xs [] pos):=by
 refine uA hb hl hn ho he λf ρ H ow s E st Q b P a hk q=>?_;refine oeeaa (f.F.O_ g D n hg) λcl fa c1 c2 c3=>?_;refine oa (f.F.xT g fa c2) λht UY=>?_;refine oea hk λb' e hk=>?_
 cases e
 rcases hk with ⟨fs,hk⟩|⟨rfl,_⟩|⟨rfl,_⟩
 . refine yJ f.F a.R hk hf c1 c3 ht (q _ (λ_ e=>by cases e;exact UY) λvs s' H' aO l w R'=>?_);refine xm (vs:=.ref b::vs) hc f.hA R' ?_ c2;have e:(vs.map aq).reverse++(.ref b::st)=(V.ref b::vs.map aq).reverse++st:=by rw[Xr,Zo];rfl
   rw[e] at w;exact gY (by rw[Yn,Za,l]) w
 . exact absurd hD (by decide)
 . exact absurd hD (by decide)
end
end
section
open PySem PySem.W PyProof.Rows PySem.Calls
section
variable {L:Lv}{sc:Scope}{m:Nat}{c k c1 c2:C}{v:Expr}{p pos p':Pos}
theorem qE{g:String}{fv:Value}{o:U}(hg:aR sc g=true)(hf:(g,fv)∈Js)(hr:∀a,fv≠ .ref a)(ik:notStar v=true)(he:aZ L sc m c (.u o k) v)
 (go:∀(f:gE L sc m) (u:Value) (s:Shared) (H:Hp) (ow:Nat->Option Nat) (E:Value->Shared->Prop) (r:Rs) (Q:V->Hp->Prop),RH f.W H ow s.heap->UR o (aq u) H r->r.post H Q->wpAny f.W.M f.A (call fv [u] []) (bP f.W H ow s Q) E s):
 aZ L sc m c k (.Call (.Name (Str.ofString g) p) [v] [] pos):=by
 refine pX (λf ρ H ow s E st Q a w=>?_) λ_=>rfl;rw[ck];refine Zl (vO a hg hf ?_);rw[cj ik];refine g_ f.F (Qs:=λvs h=>∃u,vs=[u]/\f.wp (.u o k) ρ (u::st) h Q) rfl (λa e=>absurd e (hr a)) (Xf (jO a (he.1 f ρ H ow s E st Q a w) λu s₁ H1 bR q a1 G1=>XT ⟨H1,bR,⟨_,rfl,q⟩,a1.R,G1⟩)) λvs s' H' aO q R'=>?_;obtain ⟨u,hu,r,hr,q⟩:=q;obtain ⟨u',rfl,rfl⟩:=iC hu;exact go f u' s' H' aO E r _ R' hr q
theorem HK(hg:aR sc "len"=true)(ik:notStar v=true)(he:aZ L sc m c (.u .len k) v):aZ L sc m c k (.Call (.Name (Str.ofString "len") p) [v] [] pos):=
 qE (fv:=.builtin "len") hg (.head _) (λ_ z=>by cases z) ik he λf u s H ow E r Q R hr q=>KM f.F.sm R hr q
theorem HQ(hg:aR sc "abs"=true)(ik:notStar v=true)(he:aZ L sc m c (.u .abs k) v):aZ L sc m c k (.Call (.Name (Str.ofString "abs") p) [v] [] pos):=
 qE (fv:=.builtin "abs") hg (.tail _ (.head _)) (λ_ z=>by cases z) ik he λf u s H ow E r Q R hr q=>by
  refine oea hr λi hi bU=>?_;try clear hr;subst bU
  refine oe (bJ hi) λt cu=>?_;subst cu;exact KP R q
theorem zn(hg:aR sc "sorted"=true)(ik:notStar v=true)(he:aZ L sc m c (.u .sorted k) v):aZ L sc m c k (.Call (.Name (Str.ofString "sorted") p) [v] [] pos):=
 qE (fv:=.builtin "sorted") hg (.tail _ (.tail _ (.head _))) (λ_ z=>by cases z) ik he λf u s H ow E r Q R hr q=>by
  refine oeeaaa hr λa l ha h1 h2 cY=>?_;try clear hr;subst cY
  rw[aN ha];exact Bw f.F.sm f.hA.hd R h1 h2 q
theorem vm(hg:aR sc "list"=true)(ik:notStar v=true)(he:aZ L sc m c (.u .cN k) v):aZ L sc m c k (.Call (.Name (Str.ofString "list") p) [v] [] pos):=
 qE (fv:=.type "list") hg (.tail _ (.tail _ (.tail _ (.tail _ (.head _))))) (λ_ z=>by cases z) ik he λf u s H ow E r Q R hr q=>by
  refine oeeaa hr λa xs ha h1 dT=>?_;try clear hr;subst dT
  rw[aN ha];exact wk R h1 q
theorem ud:("dict",Value.type "dict")∈Js:=.tail _ (.tail _ (.tail _ (.tail _ (.tail _ (.head _)))))
theorem vn(hg:aR sc "dict"=true)(ik:notStar v=true)(he:aZ L sc m c (.u .copyDict k) v):aZ L sc m c k (.Call (.Name (Str.ofString "dict") p) [v] [] pos):=
 qE (fv:=.type "dict") hg ud (λ_ z=>by cases z) ik he λf u s H ow E r Q R hr q=>by
  refine oeeaa hr λa xs ha h1 gU=>?_;try clear hr;subst gU
  rw[aN ha];exact wq f.F.sm R h1 q
theorem zr(hg:aR sc "dict"=true)(ik:notStar v=true)(he:aZ L sc m c (.u .dictOf k) v):aZ L sc m c k (.Call (.Name (Str.ofString "dict") p) [v] [] pos):=
 qE (fv:=.type "dict") hg ud (λ_ z=>by cases z) ik he λf u s H ow E r Q R hr q=>by
  refine oeeeaaaaa hr λa xs ps ha h1 h2 h3 h4 gC=>?_;try clear hr;subst gC
  rw[aN ha];exact BC f.hA.hd R h1 h2 h3 h4 q
theorem xI{g:String}{o:U}(hg:aR sc "isinstance"=true)(ik:notStar v=true)(he:aZ L sc m c (.u o k) v)
 (hc:∀(f:gE L sc m),∃cv,(∀(ρ:Lo) (H:Hp) (ow:Nat->Option Nat) (s:Shared) (E:Value->Shared->Prop) (P:Value->Shared->Prop),At f ρ H ow s->P cv s->wpAny f.W.M f.A (eval (.Name (Str.ofString g) p') f.env) P E s)/\
  ∀(u:Value) (s:Shared) (H:Hp) (ow:Nat->Option Nat) (E:Value->Shared->Prop) (r:Rs) (Q:V->Hp->Prop),RH f.W H ow s.heap->UR o (aq u) H r->r.post H Q->wpAny f.W.M f.A (call (.builtin "isinstance") [u,cv] []) (bP f.W H ow s Q) E s):
 aZ L sc m c k (.Call (.Name (Str.ofString "isinstance") p) [v,.Name (Str.ofString g) p'] [] pos):=by
 refine pX (λf ρ H ow s E st Q a w=>?_) λ_=>rfl;refine oea (hc f) λcv hc go=>?_;rw[ck];refine Zl (vO a hg (v:=.builtin "isinstance") (.tail _ (.tail _ (.tail _ (.head _)))) ?_);rw[cj ik,cj (x:=.Name (Str.ofString g) p') rfl];refine WA (P:=λ_=>True) rfl (eW λa e=>by cases e) (kP rfl (Xf (jO a (he.1 f ρ H ow s E st Q a w) λu s₁ H1 bR q a1 G1=>Xf (hc ρ H1 bR s₁ E _ a1 (XT ⟨trivial,?_⟩)))));refine oea q λr hr q=>?_;exact cL G1 (go u s₁ H1 bR E r _ a1.R hr q)
theorem zq(hg:aR sc "isinstance"=true)(hb:aR sc "bool"=true)(ik:notStar v=true)(he:aZ L sc m c (.u .isBool k) v):
 aZ L sc m c k (.Call (.Name (Str.ofString "isinstance") p) [v,.Name (Str.ofString "bool") p'] [] pos):=
 xI hg ik he λf=>⟨.type "bool",λρ H ow s E P a q=>vO a hb (.tail _ (.tail _ (.tail _ (.tail _ (.tail _ (.tail _ (.tail _ (.tail _ (.tail _ (.head _)))))))))) q,λu s H ow E r Q R hr q=>By f.F.good f.F.QC R hr q⟩
theorem zp{D:String}(hg:aR sc "isinstance"=true)(hb:aR sc D=true)(hD:L.cls.contains D=true)(ik:notStar v=true)(he:aZ L sc m c (.u (.cK D) k) v):
 aZ L sc m c k (.Call (.Name (Str.ofString "isinstance") p) [v,.Name (Str.ofString D) p'] [] pos):=
 xI hg ik he λf=>by
  refine oea (f.F.PF D hD) λcl c1 c2=>?_;exact⟨.ref cl,λρ H ow s E P a q=>rG a hb c2 q,λu s H ow E r Q R hr q=>Bx f.F.good f.F.QC R c1 hr q⟩
theorem DS{j:Nat}{id:Str}{p1 p2 p3:Pos}{k1:Nat}(he:aZ L sc m c (.u (.x_ j) k) (.Name id p)):aZ L sc m c k (.Subscript (.Name id p) (.Slice none (some (.Constant (.int j) k1 p1)) none p2) p3):=by
 refine pX (λf ρ H ow s E st Q a w=>?_) λ_=>rfl;rw[oU];refine Zl (jO a (he.1 f ρ H ow s E st Q a w) λu s₁ H1 bR q a1 G1=>?_);obtain ⟨_,⟨a,xs,ha,hx,rfl⟩,q⟩:=q;obtain rfl:=aN ha;refine oeaa (Bk a1.R hx) λvs hl jV hb=>?_;subst jV;have I_:=yO vs j;have pW:(slicePick vs none (some (j:Int)) none).size<=big:=by
  rw[<-Zr,I_];exact Zf (List.length_take_le' ..) (by rw[Zr];exact hb)
 refine Zl (ZX (wpAny_Slice (XH (VI (YV (XH ?_))))));refine Zl (Z9 (Zy (mS (s:={s₁ with toks:=s₁.toks+1}) (R:=a1.R) hl hb .none (.int _ _) .none (λz=>by cases z) pW (by rw[I_,List.map_take];exact q) (aM:=[.ref a]) (λi=>.inr rfl) λr=>rfl) (λ_ _ z=>z.after (G1.tok _)) λ_ _ e=>e))
theorem HG{id:Str}{p1 p2 p3 p4:Pos}{k1:Nat}(he:aZ L sc m c (.u .rev k) (.Name id p)):aZ L sc m c k (.Subscript (.Name id p) (.Slice none none (some (.UnaryOp .USub (.Constant (.int 1) k1 p1) p4)) p2) p3):=by
 refine pX (λf ρ H ow s E st Q a w=>?_) λ_=>rfl;rw[oU];refine Zl (jO a (he.1 f ρ H ow s E st Q a w) λu s₁ H1 bR q a1 G1=>?_);obtain ⟨_,⟨a,xs,ha,hx,rfl⟩,q⟩:=q;obtain rfl:=aN ha;refine oeaa (a1.R.obj a _ hx) λvs hp gq hb=>?_;subst gq;have I_:=krv_pick vs;have pW:(slicePick vs none none (some (-1))).size<=big:=by rw[I_,Xc,YS,Zr];exact h_ hb
 refine Zl (ZX (wpAny_Slice (XH (XH (VI (VL (YV (Vx ?_))))))));refine Zl (Z9 (Zy (mS (s:={s₁ with toks:=s₁.toks+1+1}) (R:=a1.R) hp.isList (h_ hb) .none .none (.int _ _) (λz=>by cases z) pW (by rw[I_,Wn];exact q) (aM:=[.ref a]) (λi=>.inl rfl) λr=>rfl) (λ_ _ z=>z.after (G1.tok _)) λ_ _ e=>e))
noncomputable def Src.start:Src->Hp->Prop
 | .keys a es,h=>h a=some (.dict es)
 |_,_=>True
noncomputable def fR(W:dB)(A:Around)(tg:Expr)(H:Hp)(ow:Nat->Option Nat)(s:Shared)(Qs:Src->Hp->Prop)(wR:Value)(s₂:Shared):Prop:=
 ∃I wr St aJ H₁ cF,wR= .ref I/\dh W A tg I wr aJ St/\aJ.items.length<=big/\Qs aJ H₁/\RH W H₁ cF s₂.heap/\Go H ow s H₁ cF s₂/\St 0 s₂.heap/\aJ.start H₁/\∀b,wr b->s.heap.get? b=none/\¬ ei H₁ cF b
noncomputable def kF(L:Lv)(sc:Scope)(m:Nat)(sk:SK)(t:List String)(c k:C)(x:Expr):Prop:=
 (∀env v,foldedSetIterable x env v=pure v)/\
 ∀(f:gE L sc m) (tg:Expr) (ρ:Lo) (H:Hp) (ow:Nat->Option Nat) (s:Shared) (E:Value->Shared->Prop) (st:List V) (Q:Po) (D:Src->Hp->Prop),(t.length=2->∃es k p,tg= .Tuple es k p)->At f ρ H ow s->(∀Io h,f.wp k ρ Io h Q->∃aJ bG,SrcR sk Io h aJ bG/\(bG=st->D aJ h))->
  f.wp c ρ st H Q->wpAny f.W.M f.A (eval x f.env) (λv s₁=>wpAny f.W.M f.A (pyIter v) (fR f.W f.A tg H ow s D) E s₁) E s
theorem AH{t:List String}{tg:Expr}(h:vF sc t tg)(h2:t.length=2):∃es k p,tg= .Tuple es k p:=by
 rcases h with ⟨n,p,rfl,_⟩|⟨_,es,k,p,e,_⟩
 . exact absurd h2 (by decide:¬ 1=2)
 . exact⟨es,k,p,e⟩
noncomputable def vX:Expr->Bool
 | .Set _ _ _=>false
 |_=>true
theorem iQ{x:Expr}(h:vX x=true)(env:Env)(v:Value):foldedSetIterable x env v=pure v:=by
 cases x<;>first|rfl|cases h
theorem dQ{W:dB}{s s₁:Shared}{H H1:Hp}{ow bR:Nat->Option Nat}(R1:RH W H1 bR s₁.heap)(G1:Go H ow s H1 bR s₁){a:Nat}(h:s₁.heap.get? a=none):s.heap.get? a=none:=by
 cases e:s.heap.get? a with
 |none=>rfl
 |some o=>exact absurd h (G1.alive R1 (by rw[e];exact λz=>by cases z))
theorem grown{W:dB}{s₁:Shared}{h':Heap}{tk:Nat}{s:Shared}{H H1:Hp}{ow bR:Nat->Option Nat}(R1:RH W H1 bR s₁.heap)(G1:Go H ow s H1 bR s₁)(hk:∀b o,s₁.heap.get? b=some o->h'.get? b=some o):
 RH W H1 bR h'/\Go H ow s H1 bR {s₁ with heap:=h',toks:=tk}:=⟨R1.keeps hk,G1.off (tk:=tk) (λ_=>False) (λb o _ e=>hk b o e) λ_ z=>z.elim⟩
theorem rz{W:dB}{A:Around}{s s₁:Shared}{H H1:Hp}{ow bR:Nat->Option Nat}{tg:Expr}{aJ:Src}{St:Nat->Heap->Prop}{Q:Src->Hp->Prop}{ob:Obj}(R1:RH W H1 bR s₁.heap)(G1:Go H ow s H1 bR s₁)
 (T:dh W A tg s₁.heap.objs.size (· =s₁.heap.objs.size) aJ St) (hl:aJ.items.length<=big) (q:Q aJ H1) (st:St 0 (s₁.heap.push ob)) (sa:aJ.start H1):fR W A tg H ow s Q (.ref s₁.heap.objs.size) {s₁ with heap:=s₁.heap.push ob}:=by
 refine oa (grown (tk:=s₁.toks) R1 G1 λb o e=>ZM ob e) λR2 G2=>?_;have hd:s₁.heap.get? s₁.heap.objs.size=none:=bT (Zs _);exact⟨_,_,St,aJ,H1,bR,rfl,T,hl,q,R2,G2,st,sa,λb hb=>by subst hb;exact⟨dQ R1 G1 hd,λz=>R1.ia z hd⟩⟩
variable {x:Expr}{t:List String}
theorem uh{f:gE L sc m}{tg:Expr}{ρ:Lo}{H H1:Hp}{ow bR:Nat->Option Nat}{s s₁:Shared}{E:Value->Shared->Prop}{v:Value}{st bG:List V}{aJ:Src}{D:Src->Hp->Prop}(a1:At f ρ H1 bR s₁)(G1:Go H ow s H1 bR s₁)
 (hs:SrcR .seq (aq v::st) H1 aJ bG) (d:bG=st->D aJ H1):wpAny f.W.M f.A (pyIter v) (fR f.W f.A tg H ow s D) E s₁:=by
 have R1:=a1.R;refine oea hs λa e qs=>?_;try clear hs
 have e1:=aN (Ys e).1;subst e1;have d:=d (Ys e).2.symm;rcases qs with ⟨xs,hx,rfl⟩|⟨xs,hx,rfl⟩|⟨es,hx,rfl⟩
 . refine oeaa (R1.obj a _ hx) λvs hp qd hb=>?_;subst qd;exact WU hp.isList (rz R1 G1 (dh.list f.hA.hd _ a _) (pz▸hb) d ⟨_,ZV _ rfl,rfl,rfl⟩ trivial)
 . refine oeaa (R1.obj a _ hx) λvs hp tD hb=>?_;subst tD;exact wpAny_pyIter_tuple hp (rz R1 G1 (dh.tup f.hA.hd _ a _) (qP▸hb) d ⟨_,ZV _ rfl,rfl,rfl⟩ trivial)
 . refine oeaa (R1.obj a _ hx) λkvs hd tC hb=>?_;subst tC;refine oe hd.dictAt λep Fs=>?_;have vw:a≠s₁.heap.objs.size:=λe=>Ws _ (e▸Fs.lt_size);exact wpAny_pyIter_dict (cM R1 (.inl hx) f.F.sm) Fs (rz R1 G1 (dh.keys f.hA.hd _ a vw kvs ep) (pB▸hb) d ⟨⟨_,ZV _ rfl,rfl,rfl⟩,Fs.push _⟩ hx)
theorem Hs(he:aZ L sc m c k x)(hx:vX x=true):kF L sc m .seq t c k x:=by
 refine⟨iQ hx,λf tg ρ H ow s E st Q D ht a hD w=>?_⟩;refine jO a (he.1 f ρ H ow s E st Q a w) λv s₁ H1 bR q a1 G1=>?_;exact oeea (hD _ _ q) λaJ bG hs d=>uh a1 G1 hs d
theorem Cb(hg:aR sc "range"=true)(ik:notStar v=true)(he:aZ L sc m c k v):kF L sc m .range t c k (.Call (.Name (Str.ofString "range") p) [v] [] pos):=by
 refine⟨iQ rfl,λf tg ρ H ow s E st Q D ht a hD w=>?_⟩;rw[ck];refine Zl (vO a hg (v:=.type "range") (.tail _ (.tail _ (.tail _ (.tail _ (.tail _ (.tail _ (.head _))))))) ?_);rw[cj ik];refine WA (P:=λ_=>True) rfl (eW λa e=>by cases e) (kP rfl (Xf (jO a (he.1 f ρ H ow s E st Q a w) λu s₁ H1 bR q a1 G1=>XT ⟨trivial,?_⟩)));have R1:=a1.R;refine oeea (hD _ _ q) λaJ bG tB d=>?_;refine oeaa tB λn e hb r_3=>?_;try clear tB;subst r_3
 refine oe (bJ (Ys e).1) λtk vK=>?_;subst vK;have d:=d (Ys e).2.symm;have pW:Builtin.Range.rangeSize 0 n 1=n:=by rw[rangeSize_one];split<;>first|exact ZA ((aj 0x10150001530010) n) ((aj 0x10001530150010) n)|(rename_i jF;exact ZA ((aj 0x1015000010) n) ((aj 0x11000150015007110) n jF))
 refine call_range_1 (wpAny_pyIter_range (t:=s₁.toks) (u:=tk) (v:=s₁.toks+1) (ZV _ rfl) ?_ ?_)
 . unfold Builtin.Range.small Builtin.Range.rangeFitsLong;rw[pW];have:(big:Int)=1000000:=rfl;simp
   omega
 . rw[pW];refine oa (grown (tk:=s₁.toks+1+1) R1 G1 (h':=s₁.heap.push {cls:=.type "range",data:=.fields #[.int 0 s₁.toks,.int n tk,.int 1 (s₁.toks+1)]}) λb o e=>ZM _ e) λR2 G2=>?_;refine rz (s₁:={s₁ with heap:=s₁.heap.push _,toks:=s₁.toks+1+1}) R2 G2 (dh.range f.hA.hd _ n) (m6▸hb) d ?_ trivial;have:=ZV (s₁.heap.push {cls:=.type "range",data:=.fields #[.int 0 s₁.toks,.int n tk,.int 1 (s₁.toks+1)]}) (o:={cls:=.type "range_iterator",data:=.fields #[rawInt 0,rawInt n,rawInt 1]}) rfl
   simpa [IsRangeIter] using this
theorem DE(hg:aR sc "enumerate"=true)(ik:notStar v=true)(h2:t.length=2)(he:aZ L sc m c k v):kF L sc m .enum t c k (.Call (.Name (Str.ofString "enumerate") p) [v] [] pos):=by
 refine⟨iQ rfl,λf tg ρ H ow s E st Q D ht a hD w=>?_⟩;refine oeee (ht h2) λes k pp tz=>?_;subst tz;rw[ck];refine Zl (vO a hg (v:=.type "enumerate") (.tail _ (.tail _ (.tail _ (.tail _ (.tail _ (.tail _ (.tail _ (.head _)))))))) ?_);rw[cj ik];refine WA (P:=λ_=>True) rfl (eW λa e=>by cases e) (kP rfl (Xf (jO a (he.1 f ρ H ow s E st Q a w) λu s₁ H1 bR q a1 G1=>XT ⟨trivial,?_⟩)));have R1:=a1.R;refine oeea (hD _ _ q) λaJ bG rc d=>?_;refine oeeaa rc λa xs e hx r_4=>?_;try clear rc;subst r_4
 have e1:=aN (Ys e).1;subst e1;have d:=d (Ys e).2.symm;refine oeaa (R1.obj a _ hx) λvs hp vJ hb=>?_;subst vJ;refine call_enumerate_list hp.isList λh' zR hit hz hk=>wpAny_pyIter_enum zR ?_;refine oa (grown (tk:=s₁.toks) R1 G1 hk) λR2 G2=>?_;have d0:s₁.heap.get? s₁.heap.objs.size=none:=bT (Zs _);have d1:s₁.heap.get? (s₁.heap.objs.size+1)=none:=bT (Yk _);refine⟨_,_,_,.enum a (vs.toList.map aq),H1,bR,rfl,dh.enum f.hA.hd (s₁.heap.objs.size+1) s₁.heap.objs.size a (W7 _) _,pC▸hb,d,R2,G2,⟨⟨_,zR⟩,hit⟩,trivial,λb hb=>?_⟩;rcases hb with rfl|rfl
 . exact⟨dQ R1 G1 d1,λz=>R1.ia z d1⟩
 . exact⟨dQ R1 G1 d0,λz=>R1.ia z d0⟩
theorem Hn{a b:Nat}(h:¬ a=b): @Ne Addr a b:=h
theorem yA{N c d:Nat}(h:c<N)(k:d<N):ZipApart (N+4) (N+2) (N+3) N (N+1) c d:=by
 constructor<;>(apply Hn;first|exact λcx=>(aj 0x10b40012200125110) N cx|exact λcx=>(aj 0x10b40012300125110) N cx|exact λcx=>(aj 0x10b40012015110) N cx|exact λcx=>(aj 0x10b40012100125110) N cx|exact λcx=>(aj 0x10b30012200125110) N cx|exact λcx=>(aj 0x1b01200125110) N cx|exact λcx=>(aj 0x1b10012200125110) N cx|exact λcx=>(aj 0x1b01300125110) N cx|exact λcx=>(aj 0x1b10012300125110) N cx|exact λcx=>(aj 0x10b10012015110) N cx|exact λcx=>(aj 0x101b4011201511014220) c N h cx|exact λcx=>(aj 0x101b3011201511014220) c N h cx|exact λcx=>(aj 0x101b1101511014220) c N h cx|exact λcx=>(aj 0x101b1011201511014220) c N h cx|exact λcx=>(aj 0x101b4011201511014220) d N k cx|exact λcx=>(aj 0x101b3011201511014220) d N k cx|exact λcx=>(aj 0x101b1101511014220) d N k cx|exact λcx=>(aj 0x101b1011201511014220) d N k cx)
theorem Hr{u:Expr}(hg:aR sc "zip"=true)(ik:notStar v=true)(Ph:notStar u=true)(h2:t.length=2)(he:aZ L sc m c c1 v)(hf:aZ L sc m c1 k u):kF L sc m .zip t c k (.Call (.Name (Str.ofString "zip") p) [v,u] [] pos):=by
 refine⟨iQ rfl,λf tg ρ H ow s E st Q D ht a hD w=>?_⟩;refine oeee (ht h2) λes k' pp ty=>?_;subst ty;rw[ck];refine Zl (vO a hg (v:=.type "zip") (.tail _ (.tail _ (.tail _ (.tail _ (.tail _ (.tail _ (.tail _ (.tail _ (.head _))))))))) ?_);rw[cj ik,cj Ph];refine WA (P:=λ_=>True) rfl (eW λa e=>by cases e) (kP rfl (Xf (jO a (he.1 f ρ H ow s E st Q a w) λx s₁ H1 bR q a1 G1=>?_)));refine Xf (jO a1 (hf.1 f ρ H1 bR s₁ E _ Q a1 q) λy s₂ H2 gD q a2 G2=>XT ⟨trivial,?_⟩);have R2:=a2.R;refine oeea (hD _ _ q) λaJ bG tx d=>?_;refine oeeeeaaaa tx λc d' xs ys e hx hy hl r_5=>?_;try clear tx;subst r_5
 have e1:=aN (Ys e).1;have e2:=aN (Ys (Ys e).2).1;subst e1 e2;have d:=d (Ys (Ys e).2).2.symm;refine oeaa (R2.obj c _ hx) λvs hp tw hb=>?_;subst tw;refine oeaa (R2.obj d' _ hy) λus nO vI p_=>?_;subst vI;have G:=G1.trans G2;refine call_zip_2 hp.isList nO.isList λh' QJ CG CW U3 Mw pW hk=>wpAny_pyIter_zip QJ ?_;refine oa (grown (tk:=s₂.toks) R2 G hk) λR3 G3=>?_;have dead:∀i,s₂.heap.get? (s₂.heap.objs.size+i)=none:=λi=>bT (ZE _ _);have cl:c<s₂.heap.objs.size:=by refine oe hp λ_ e=>?_;try clear hp;exact Yi e
 have dl:d'<s₂.heap.objs.size:=by refine oe nO λ_ e=>?_;try clear nO;exact Yi e
 have Z:ZipApart (s₂.heap.objs.size+4) (s₂.heap.objs.size+2) (s₂.heap.objs.size+3) s₂.heap.objs.size (s₂.heap.objs.size+1) c d':=yA cl dl;refine⟨_,_,_,.zip c d' (vs.toList.map aq) (us.toList.map aq),H2,gD,rfl,dh.zip f.hA.hd (s₂.heap.objs.size+4) (s₂.heap.objs.size+2) (s₂.heap.objs.size+3) s₂.heap.objs.size (s₂.heap.objs.size+1) c d'
  Z _ _,?_,d,R3,G3,⟨QJ,CG,⟨_,_,CW⟩,U3,Mw⟩,trivial,λb hb=>?_⟩
 . exact Zf (YJ ((Za _).trans Uu)) (Zf (Vh ..) hb)
 . rcases hb with rfl|rfl|rfl|rfl|rfl
   . exact⟨dQ R2 G (dead 4),λz=>R2.ia z (dead 4)⟩
   . exact⟨dQ R2 G (dead 2),λz=>R2.ia z (dead 2)⟩
   . exact⟨dQ R2 G (dead 3),λz=>R2.ia z (dead 3)⟩
   . exact⟨dQ R2 G (dead 0),λz=>R2.ia z (dead 0)⟩
   . exact⟨dQ R2 G (dead 1),λz=>R2.ia z (dead 1)⟩
end
end
section
open PySem PySem.W PyProof.Rows PySem.Calls
noncomputable def b_(bX sc:Scope):Scope:={bX with names:=bX.names.map λ(n,k)=>if (k== .free&&sc.kind== .function&&sc.names.lookup n==some .cell)=true then(n,.cell) else(n,k)}
noncomputable def oy(t:List String)(bX sc:Scope)(x:Str×NameKind):Bool:=match x.2 with
 | .local=>bX.names.lookup x.1==some .local&&(x.1==Str.ofString ".0"||t.any λn=>x.1==Str.ofString n)
 | .globalImplicit=>true
 | .free=>sc.names.lookup x.1==some .cell||sc.names.lookup x.1==some .free
 |_=>false
noncomputable def okInner(t:List String)(bX sc:Scope):Bool:=bX.kind== .function&&bX.names.all (oy t bX sc)
noncomputable def gM(sc:Scope)(t:List String):Bool:=t.all λn=>sc.names.lookup (Str.ofString n)==some .local
section
variable {prog:Program}{w:World}{A:Around}{E:Value->Shared->Prop}{R:Result->Shared->Prop}{s:Shared}
theorem sV{elt target iter:Expr}{ifs:List Expr}{scope:Scope}{pos:Pos}{it acc:Value}{env:Env}(I:Nat->Shared->Prop)
 (turn:∀n s,I n s->wpAny (model prog w) A (pyNext it) (λr s₁=>match r with
  |none=>R (.ok .next) s₁
  |some v=>wpAny (model prog w) A (letOwnedTupleGo target it v) (λ_ Ew=>wpAny (model prog w) A (assign target env v) (λ_ s₂=>
   wpAny (model prog w) A (forIn ifs true λc r=>if r=true then do let ok<-isTrue c env (eval c env);pure (ForInStep.yield ok) else pure (ForInStep.yield r)) (λok s₃=>
    if ok=true then wpAny (model prog w) A (eval elt env) (λx s₄=>
     wpAny (model prog w) A (call (.builtin "list.append") [acc,x]) (λ_ s₅=>∃m,m<n/\I m s₅) (notedBy (model prog w) A env λe s'=>R (.error e) s') s₄) (notedBy (model prog w) A env λe s'=>R (.error e) s') s₃
    else ∃m,m<n/\I m s₃) (notedBy (model prog w) A env λe s'=>R (.error e) s') s₂) (notedBy (model prog w) A env λe s'=>R (.error e) s') Ew) (notedBy (model prog w) A env λe s'=>R (.error e) s') s₁) (notedBy (model prog w) A env λe s'=>R (.error e) s') s)
 (n:Nat) (h:I n s):codeAny (model prog w) A (.compLoop (.ListComp elt [⟨target,iter,ifs,0⟩] scope pos) 0 it acc env) R s:=by
 refine codeAny_loop rfl I (λn s hI=>?_) n h;show wpAny _ A ((compTurn (.ListComp elt [⟨target,iter,ifs,0⟩] scope pos) 0 it acc env).onRaise (λx=>do noteFrame x env;theTreesLotGoes x)) _ _ s;refine wpAny_noted ?_;rw[compTurn_list];refine Zl (Z9 (Zl (Zy (turn n s hI) (λr s₁ h₁=>?_) λ_ _ h'=>h')))
 cases r with
 |none=>exact Zz h₁
 |some v=>
  refine Zl (Zy h₁ (λ_ Ew Lb=>?_) λ_ _ h'=>h');refine Zl (Zy Lb (λ_ s₂ h₂=>Zl (Zy h₂ (λok s₃ h₃=>?_) λ_ _ h'=>h')) λ_ _ h'=>h')
  cases ok with
  |false=>exact Zz ⟨rfl,h₃⟩
  |true=>
   exact Zl (Zl (Zy h₃ (λx s₄ h₄=>Zl (Zy h₄ (λ_ s₅ h₅=>Zz (Zz ⟨rfl,h₅⟩)) λ_ _ h'=>h')) λ_ _ h'=>h'))
end
noncomputable def eY(cells:List (Str×Addr)):List (Str×NameKind)->List (Str×Addr)->List (Str×Addr)
 |[],acc=>acc
 |(n,k)::r,acc=>eY cells r (if k== .free then(n,(cells.lookup n).getD 0)::acc else acc)
theorem k_{scope:Scope}{env:Env}:∀(l:List (Str×NameKind)) (acc:List (Str×Addr)),(∀x∈l,x.2= .free->∃c,env.cells.lookup x.1=some c)->
 (forIn l acc λ(x:Str×NameKind) cs=>(if x.2== .free then(do let c<-cellOf env x.1;pure (ForInStep.yield ((x.1,c)::cs))) else pure (ForInStep.yield cs):Sem (ForInStep (List (Str×Addr)))))=pure (eY env.cells l acc)
 |[],acc,_=>rfl
 |(n,k)::l,acc,hl=>by
  rw[List.forIn_cons];have ih:=λacc=>k_ (scope:=scope) l acc λy hy=>hl y (Zh _ hy);rw[eY]
  by_cases hk:k= .free
  . refine oe (hl (n,k) Ze hk) λc hc=>?_;rw[if_pos (beq_iff_eq.mpr hk),if_pos (beq_iff_eq.mpr hk),hc];unfold cellOf;rw[show env.cells.lookup (n,k).1=some c from hc,bind_assoc,pure_bind,pure_bind];exact ih _
  . rw[if_neg λz=>hk (beq_iff_eq.mp z),if_neg λz=>hk (beq_iff_eq.mp z),pure_bind];exact ih _
theorem qy{scope:Scope}{env:Env}(h:∀x∈scope.names,x.2= .free->∃c,env.cells.lookup x.1=some c):closureFor scope env=pure (eY env.cells scope.names []):=by
 unfold closureFor;rw[bind_pure];exact k_ (scope:=scope) _ _ h
theorem ld(cells:List (Str×Addr)):∀(l:List (Str×NameKind)) (acc:List (Str×Addr)),(∀x∈l,x.2= .free->∃c,cells.lookup x.1=some c)->(∀n c,acc.lookup n=some c->cells.lookup n=some c)->
 ∀n c,(eY cells l acc).lookup n=some c->cells.lookup n=some c
 |[],_,_,h=>h
 |(m,k)::l,acc,hl,h=>by
  refine ld cells l _ (λy hy=>hl y (Zh _ hy)) λn c e=>?_
  by_cases hk:k= .free
  . refine oe (hl (m,k) Ze hk) λd hd=>?_;have hd:cells.lookup m=some d:=hd;rw[if_pos (beq_iff_eq.mpr hk),hd,ZT] at e
    by_cases z:n=m
    . rw[z,beq_self_eq_true] at e;rw[z,hd];exact e
    . rw[beq_eq_false_iff_ne.mpr z] at e;exact h n c e
  . rw[if_neg λz=>hk (beq_iff_eq.mp z)] at e;exact h n c e
theorem pI(cells:List (Str×Addr)):∀(l:List (Str×NameKind)) (acc:List (Str×Addr)) (n:Str),((n,NameKind.free)∈l\/(acc.lookup n).isSome=true)->((eY cells l acc).lookup n).isSome=true
 |[],_,_,h=>h.elim (λh=>by cases h) id
 |(m,k)::l,acc,n,h=>by
  refine pI cells l _ n ?_;have old:(acc.lookup n).isSome=true->((if k== .free then(m,(cells.lookup m).getD 0)::acc else acc).lookup n).isSome=true:=λh=>by
   split
   . rw[ZT];split
     . rfl
     . exact h
   . exact h
  rcases h with h|h
  . rcases Zp.mp h with h|h
    . cases h
      right;show (List.lookup m ((m,(List.lookup m cells).getD 0)::acc)).isSome=true;rw[ZT,beq_self_eq_true];rfl
    . exact .inl h
  . exact .inr (old h)
theorem lookup_map2(g:Str->NameKind->NameKind)(n:Str):∀l:List (Str×NameKind),(l.map λx=>(x.1,g x.1 x.2)).lookup n=(l.lookup n).map (g n)
 |[]=>rfl
 |(m,k)::l=>by
  rw[Zw,ZT,ZT,lookup_map2 g n l]
  by_cases z:n=m
  . rw[z,beq_self_eq_true];rfl
  . rw[beq_eq_false_iff_ne.mpr z]
theorem sF{bX sc:Scope}{n:Str}:(b_ bX sc).names.lookup n=(bX.names.lookup n).map λk=>if (k== .free&&sc.kind== .function&&sc.names.lookup n==some .cell)=true then .cell else k:=by
 rw[<-lookup_map2 (λn k=>if (k== .free&&sc.kind== .function&&sc.names.lookup n==some .cell)=true then .cell else k)];refine congrArg (List.lookup n) (Yo λx _=>?_);obtain ⟨m,k⟩:=x;show (if _ then _ else _)=(m,if _ then _ else _);split<;>rfl
theorem jR{t:List String}{bX sc:Scope}(h:okInner t bX sc=true):bX.kind= .function/\(∀x∈bX.names,x.2= .local->x.1=Str.ofString ".0"\/∃n∈t,x.1=Str.ofString n)/\
 (∀x∈bX.names,x.2≠ .cell)/\(∀x∈bX.names,x.2= .local->bX.names.lookup x.1=some .local)/\
 (∀x∈bX.names,x.2= .free->sc.names.lookup x.1=some .cell\/sc.names.lookup x.1=some .free):=by
 refine oa (aP h) λh1 h2=>?_;have ok:∀x∈bX.names,oy t bX sc x=true:=ZW.mp h2;have loc:∀x∈bX.names,x.2= .local->(bX.names.lookup x.1==some .local&&(x.1==Str.ofString ".0"||t.any λn=>x.1==Str.ofString n))=true:=λx hx hl=>by
  have:=ok x hx;unfold oy at this;rw[hl] at this;exact this
 refine⟨beq_iff_eq.mp h1,λx hx hl=>?_,λx hx hl=>?_,λx hx hl=>beq_iff_eq.mp (aP (loc x hx hl)).1,λx hx hl=>?_⟩
 . refine(YC.mp (aP (loc x hx hl)).2).imp beq_iff_eq.mp λz=>?_;refine oea (W4.mp z) λn hn e=>?_;exact⟨n,hn,beq_iff_eq.mp e⟩
 . have:=ok x hx;unfold oy at this;rw[hl] at this;cases this
 . have:=ok x hx;unfold oy at this;rw[hl] at this;exact(YC.mp this).imp beq_iff_eq.mp beq_iff_eq.mp
noncomputable def less(ρ:Lo)(t:List String):Lo:=λy=>if t.contains y=true then none else ρ y
theorem oQ{ρ:Lo}{t:List String}(y:String)(h:y∉t):less ρ t y=ρ y:=if_neg λz=>h (Z0.mp z)
theorem lZ{ρ:Lo}{t:List String}{y:String}{v:V}(e:less ρ t y=some v):y∉t/\ρ y=some v:=by
 have n:y∉t:=λh=>by
  unfold less at e;rw[if_pos (Z0.mpr h)] at e;cases e
 exact⟨n,(oQ y n).symm.trans e⟩
theorem oV:∀{t:List String} {vs:List V} {ρ ρ₁:Lo},t.length=vs.length->(∀y,y∉t->ρ y=ρ₁ y)->binds ρ t vs=binds ρ₁ t vs
 |[],[],_,_,_,h=>funext λy=>h y λz=>by cases z
 |[],_::_,_,_,l,_=>by cases l
 |_::_,[],_,_,l,_=>by cases l
 |x::t,v::vs,ρ,ρ₁,l,h=>oV (t:=t) (XB l) λy hy=>by
  unfold bc
  by_cases z:y=x
  . rw[if_pos z,if_pos z]
  . rw[if_neg z,if_neg z];exact h y λm=>(Zp.mp m).elim z hy
theorem wP{H:Hp}{ρ ρ':Lo}{t:List String}{item:List V}(b:di H ρ t item ρ'):di H (less ρ t) t item ρ':=by
 rcases b with ⟨l,rfl⟩|⟨a,vs,e,h2,l,hv,rfl⟩
 . exact .inl ⟨l,oV l λy hy=>(oQ y hy).symm⟩
 . exact .inr ⟨a,vs,e,h2,l,hv,oV l λy hy=>(oQ y hy).symm⟩
theorem di.uniq{H:Hp}{ρ ρ1 ρ2:Lo}{t:List String}{item:List V}(b:di H ρ t item ρ1)(c:di H ρ t item ρ2):ρ1=ρ2:=by
 rcases b with ⟨l,rfl⟩|⟨a,vs,rfl,h2,l,hv,rfl⟩<;>rcases c with ⟨l',rfl⟩|⟨a',Ef,e',Rc,l',CC,rfl⟩
 . rfl
 . rw[l,e'] at Rc;exact absurd Rc (by show ¬ 2<=1;decide)
 . rw[l'] at h2;exact absurd h2 (by show ¬ 2<=1;decide)
 . cases e'
   have e:vs=Ef:=by rcases hv with hv|hv<;>rcases CC with CC|CC<;>(rw[hv] at CC;cases CC)<;>rfl
   rw[e]
theorem DC{H:Hp}{ρ ρ':Lo}{t:List String}{item:List V}(b:di H ρ t item ρ')(y:String)(v:V)(e:less ρ t y=some v):ρ' y=some v:=by
 refine oa (lZ e) λn e=>?_;rw[b.same y n,e]
theorem fV{α β:Type}[BEq α][LawfulBEq α]:∀{l:List (α×β)} {a:α} {b:β},l.lookup a=some b->(a,b)∈l
 |[],_,_,h=>by cases h
 |(x,y)::r,a,b,h=>by
  rw[ZT] at h
  by_cases z:a=x
  . rw[z,beq_self_eq_true] at h;rw[z,<-Z2 h];exact Ze
  . rw[beq_eq_false_iff_ne.mpr z] at h;exact Zh _ (fV h)
section
variable {W:dB}{A:Around}{E:Value->Shared->Prop}{s:Shared}{H:Hp}{ow:Nat->Option Nat}{ρ:Lo}{env:Env}
theorem zt{t:List String}{bX:Scope}{h h':Heap}{C:Nat}(x:b7 W ρ env H ow h)(R:RH W H ow h)(ok:okInner t bX env.scope=true)(hk:∀b o,h.get? b=some o->h'.get? b=some o)(hC:h.get? C=none)(hn:h'.Ns C λ_=>none):
 b7 W (less ρ t) (compEnvC bX (eY env.cells bX.names []) C env) H ow h'/\∀n c,(eY env.cells bX.names []).lookup n=some c->env.cells.lookup n=some c:=by
 refine oaaaa (jR ok) λo1 o2 o3 o4 o5=>?_;have Az:∀x∈bX.names,x.2= .free->∃c,env.cells.lookup x.1=some c:=λy hy hf=>by
  refine oeea (x.cells y.1 (o5 y hy hf)) λc _ e _=>?_;exact⟨c,e⟩
 have cs:=ld env.cells bX.names [] Az (λ_ _ e=>by cases e);have Qy:∀n,(compEnvC bX (eY env.cells bX.names []) C env).kindOf n=(bX.names.lookup n).map λk=>if (k== .free&&env.scope.kind== .function&&env.scope.names.lookup n==some .cell)=true then .cell else k:=λn=>sF (bX:=bX) (sc:=env.scope);have Ry:∀n,gV (compEnvC bX (eY env.cells bX.names []) C env) n->bX.names.lookup n=some .free:=λn hc=>by
  unfold gV at hc;rw[Qy] at hc
  cases e:bX.names.lookup n with
  |none=>rw[e] at hc;rcases hc with hc|hc<;>cases hc
  |some k=>
   cases k with
   |free=>rfl
   |cell=>exact absurd rfl (o3 _ (fV e))
   |_=>rw[e] at hc;rcases hc with hc|hc<;>cases hc
 have Bg:∀n,bX.names.lookup n=some .free->gV env n:=λn e=>o5 _ (fV e) rfl;have has:∀n,bX.names.lookup n=some .free->∃c,(eY env.cells bX.names []).lookup n=some c:=λn e=>YK.mp (pI env.cells bX.names [] n (.inl (fV e)));refine⟨⟨o1,x.gl,x.bi,⟨_,hn,λy v e y0 ky=>?_⟩,λy v e ky=>?_,λn kn=>?_,λn c e=>?_,λn n' c e e'=>x.apart2 n n' c (cs _ _ e) (cs _ _ e'),λb ob=>?_⟩,cs⟩
 . exfalso;rw[Qy] at ky
   cases e1:bX.names.lookup (Str.ofString y) with
   |none=>rw[e1] at ky;cases ky
   |some k=>
    rw[e1] at ky;have hk:k= .local:=by
     have ky:(if _ then NameKind.cell else k)=NameKind.local:=Z2 ky;split at ky
     . cases ky
     . exact ky
    subst hk;rcases o2 _ (fV e1) rfl with z|⟨n,hn,z⟩
    . exact y0 (d8 z)
    . have z:=d8 z;subst z;exact(lZ e).1 hn
 . have hf:=Ry _ ky;refine oe (has _ hf) λc hc=>?_;have e':=(lZ e).2;refine oeeaa (x.cell y v e' (Bg _ hf)) λc' v' h1 bU h4=>?_;refine oea bU λo h2 h3=>?_;try clear bU
   have:=cs _ _ hc;rw[h1] at this;cases (this)
   exact⟨c,v',hc,⟨o,hk _ _ h2,h3⟩,h4⟩
 . have hf:=Ry _ kn;refine oe (has _ hf) λc hc=>?_;refine oeea (x.cells n (Bg _ hf)) λc' v' h1 cu=>?_;refine oea cu λo h2 h3=>?_;try clear cu
   have:=cs _ _ hc;rw[h1] at this;cases (this)
   exact⟨c,v',hc,⟨o,hk _ _ h2,h3⟩⟩
 . rintro rfl;refine oaa (x.off c (.inr ⟨n,cs _ _ e⟩)) λ_ _ p3=>?_;exact p3 hC
 . rcases ob with rfl|⟨n,e⟩
   . exact⟨λz=>R.ia z hC,cC R.keep hC,rv hn⟩
   . refine oaa (x.off b (.inr ⟨n,cs _ _ e⟩)) λp1 p2 p3=>?_;refine⟨p1,p2,?_⟩
     cases e2:h.get? b with
     |none=>exact absurd e2 p3
     |some o=>rw[hk _ _ e2];exact λz=>by cases z
theorem RH.adopt{h:Heap}{a:Nat}{o:O}(R:RH W H ow h)(ha:¬ ei H ow a)(hb:W.base.get? a=none)(x:eQ W ow h a o):RH W (bc H a o) ow h where
 obj:=λb p e=>by
  by_cases q:b=a
  . subst q;rw[bc,if_pos rfl] at e;cases e;exact x
  . rw[bc,if_neg q] at e;exact R.obj b p e
 ai:=λb d e=>by
  refine oaee (R.ai b d e) λe1 C fs e2=>?_;have h1:d≠a:=λq=>by subst q;exact ha (.inr ⟨b,e⟩)
  have h2:b≠a:=λq=>by subst q;exact ha (eX e2)
  exact⟨by rw[bc,if_neg h1];exact e1,C,fs,by rw[bc,if_neg h2];exact e2⟩
 inj:=R.inj
 keep:=R.keep
 new:=λb m=>by
  rcases vZ m with m|rfl
  . exact R.new b m
  . exact hb
theorem AR{a:Nat}(h:¬ ei H ow a):H a=none:=by
 cases e:H a with
 |none=>rfl
 |some o=>exact absurd (eX e) h
theorem Go.adopt{H':Hp}{aO:Nat->Option Nat}{s':Shared}{a:Nat}{o:O}(g:Go H ow s H' aO s')(ha:H' a=none)(hs:s.heap.get? a=none):Go H ow s (bc H' a o) aO s':=
 ⟨g.st,g.keep,λb m=>(gb m).elim (g.sub b) λe=>e▸.inr hs,λb es e=>by
  refine oa (g.er b es e) λp q=>?_;have:b≠a:=λz=>by subst z;rw[ha] at p;cases p
  exact⟨by rw[bc,if_neg this];exact p,q⟩,λb m=>fM (g.grow b m)⟩
theorem b7.K5{ρ₁:Lo}{h:Heap}(x:b7 W ρ env H ow h)(l:∀y v,ρ₁ y=some v->ρ y=some v):b7 W ρ₁ env H ow h:=
 ⟨x.fn,x.gl,x.bi,oea x.ns λm n q=>⟨m,n,λy v e=>q y v (l y v e)⟩,λy v e=>x.cell y v (l y v e),x.cells,x.apart,x.apart2,x.off⟩
noncomputable abbrev tests(ifs:List Expr)(env:Env):Sem Bool:=forIn ifs true λc r=>if r=true then do let ok<-isTrue c env (eval c env);pure (ForInStep.yield ok) else pure (ForInStep.yield r)
structure Ai(W:dB)(H:Hp)(ow:Nat->Option Nat)(s:Shared)(ρ₀:Lo)(cJ:Env)(D:Nat)(wr:Nat->Prop)(St:Nat->Heap->Prop)(bw:Nat->List V->Hp->Prop)(i:Nat)(s':Shared)(vs:List V)(H':Hp)(aO:Nat->Option Nat)(items:Array Value):Prop where
 inv:bw i vs H'
 R:RH W H' aO s'.heap
 G:Go H ow s H' aO s'
 st:St i s'.heap
 acc:s'.heap.PlainList D items
 vs:items.toList.map aq=vs
 sz:items.size<=i
 Do:¬ ei H' aO D
 wo:∀b,wr b->¬ ei H' aO b
 EN:b7 W ρ₀ cJ H' aO s'.heap
theorem Cs{elt tg iter:Expr}{ifs:List Expr}{bX:Scope}{pos:Pos}{t:List String}{I D:Nat}{wr:Nat->Prop}{aJ:Src}{St:Nat->Heap->Prop}{R:Result->Shared->Prop}{s₄:Shared}{H₁:Hp}{cF:Nat->Option Nat}{cJ:Env}
 (hA:A.handled=none) (T:dh W A tg I wr aJ St) (yt:aJ.plain=true) (hlen:aJ.items.length<=big) (ok:vF cJ.scope t tg) (al:gM cJ.scope t=true)
 (st:St 0 s₄.heap) (R₁:RH W H₁ cF s₄.heap) (G₁:Go H ow s H₁ cF s₄) (hD:s₄.heap.PlainList D #[]) (En:s.heap.get? D=none) (CX:¬ ei H₁ cF D) (hDb:W.base.get? D=none) (Ra:¬ wr D)
 (Eo:s.heap.get? cJ.locals=none) (Rb:¬ wr cJ.locals) (IF:cJ.locals≠D) (hw:∀b,wr b->s.heap.get? b=none) (T5:∀b,wr b->¬ ei H₁ cF b) (Mj:∀b,wr b->W.base.get? b=none)
 (hcl:∀n c,cJ.cells.lookup n=some c->s.heap.get? c≠none) (EN:b7 W (less ρ t) cJ H₁ cF s₄.heap) (bw:Nat->List V->Hp->Prop) (i0:bw 0 [] H₁)
 (body:∀i vs H' aO (gT:Shared) item (E:Value->Shared->Prop),bw i vs H'->aJ.items[i]?=some item->RH W H' aO gT.heap->aJ.stays H'/\∃ρ',di H' ρ t item ρ'/\
  (b7 W ρ' cJ H' aO gT.heap->wpAny W.M A (tests ifs cJ) (λok s₃=>∃H2 gD,RH W H2 gD s₃.heap/\Go H' aO gT H2 gD s₃/\
   if ok=true then wpAny W.M A (eval elt cJ) (bP W H2 gD s₃ λv h3=>bw (i+1) (vs++[v]) h3) E s₃ else bw (i+1) vs H2) E gT))
 (cI:∀vs H',bw aJ.items.length vs H'->aJ.stays H')
 (fin:∀(s':Shared) H' aO vs (items:Array Value),bw aJ.items.length vs H'->RH W H' aO s'.heap->Go H ow s H' aO s'->s'.heap.PlainList D items->items.toList.map aq=vs->items.size<=big->¬ ei H' aO D->¬ ei H' aO cJ.locals->(∃m,s'.heap.Ns cJ.locals m)->R (.ok .next) s'):
 codeAny W.M A (.compStart (.ListComp elt [⟨tg,iter,ifs,0⟩] bX pos) 0 (.ref I) (.ref D) cJ) R s₄:=by
 have loop:codeAny W.M A (.compLoop (.ListComp elt [⟨tg,iter,ifs,0⟩] bX pos) 0 (.ref I) (.ref D) cJ) R s₄:=by
  refine sV (λk s'=>∃i vs H' aO items,k=aJ.items.length+1 - i/\i<=aJ.items.length/\Ai W H ow s (less ρ t) cJ D wr St bw i s' vs H' aO items) ?_ (aJ.items.length+1)
   ⟨0,[],H₁,cF, #[],rfl,ZS _,⟨i0,R₁,G₁,st,hD,rfl,Zs _,CX,T5,EN⟩⟩
  rintro k s' ⟨i,vs,H',aO,items,rfl,hi,⟨inv,R',G',bG,CY,zP,pW,Ac,yq,EN'⟩⟩;generalize notedBy (model W.prog W.w) A cJ (λe s'=>R (.error e) s')=E₀;have apart:∀{h':Heap},(∀b o,¬ wr b->s'.heap.get? b=some o->h'.get? b=some o)->RH W H' aO h'/\b7 W (less ρ t) cJ H' aO h'/\h'.PlainList D items:=λ{h'} hk=>by
   refine⟨R'.apart wr hk λb hb=>⟨yq b hb,Mj b hb⟩,EN'.iH λb o ob e=>hk b o ?_ e,CY.at λo e=>hk D o Ra e⟩;rcases ob with rfl|⟨n,e⟩
   . exact Rb
   . exact λz=>hcl n b e (hw b z)
  cases hx:aJ.items[i]? with
  |none=>
   have Fm:i=aJ.items.length:=YQ hi (YE.mp hx);subst Fm;refine Zy (T.done s' H' aO (λs₁=>R (.ok .next) s₁) E₀ bG R' (cI vs H' inv) yq λh' tk hk=>?_) (λr s₁ z=>?_) λ_ _ e=>e
   . refine oaa (apart hk) λR2 MP Jm=>?_;refine oea MP.ns λm hm _=>?_;exact fin _ H' aO vs items inv R2 (G'.off wr hk hw) Jm zP (Zf pW hlen) Ac (MP.off _ (.inl rfl)).1 ⟨m,hm⟩
   . refine oa z λcY p=>?_;try clear z;subst cY;exact p
  |some item=>
   have lD:i<aJ.items.length:=(ZN.mp hx).1;have Kx:aJ.stays H':=(body i vs H' aO s' item E₀ inv hx R').1;have next:∀{s₅:Shared} {vs H' aO items},Ai W H ow s (less ρ t) cJ D wr St bw (i+1) s₅ vs H' aO items->∃m,m<aJ.items.length+1 - i/\∃i vs H' aO items,m=aJ.items.length+1 - i/\i<=aJ.items.length/\Ai W H ow s (less ρ t) cJ D wr St bw i s₅ vs H' aO items:=
    λc=>⟨aJ.items.length+1 - (i+1),by exact(aj 0x1011310141131210212310212101120125240) _ _ _ _ (YU ((aj 0x111011210012311014120) _ _ lD)) (Wu (Zs _)),i+1,_,_,_,_,rfl,lD,c⟩
   refine Zy (T.item i s' H' aO item (λv s₂=>wpAny W.M A (assign tg cJ v) (λ_ s₂=>
    wpAny W.M A (tests ifs cJ) (λok s₃=>
     if ok=true then wpAny W.M A (eval elt cJ) (λx s₄=>
      wpAny W.M A (call (.builtin "list.append") [.ref D,x]) (λ_ s₅=>∃m,m<aJ.items.length+1 - i/\∃i vs H' aO items,m=aJ.items.length+1 - i/\i<=aJ.items.length/\Ai W H ow s (less ρ t) cJ D wr St bw i s₅ vs H' aO items) E₀ s₄) E₀ s₃
     else ∃m,m<aJ.items.length+1 - i/\∃i vs H' aO items,m=aJ.items.length+1 - i/\i<=aJ.items.length/\Ai W H ow s (less ρ t) cJ D wr St bw i s₃ vs H' aO items) E₀ s₂) E₀ s₂) E₀ hx bG R' Kx yq λv h' tk EY No hk=>?_) (λr s₁ z=>?_) λ_ _ e=>e
   rotate_left
   . refine oea z λv dT p=>?_;try clear z;subst dT;exact p
   refine oaa (apart hk) λR2 MP Jm=>?_;have G2:=G'.off (tk:=tk) wr hk hw;refine oaea (body i vs H' aO s' item E₀ inv hx R') λ_ ρ' hb RE=>?_;refine AJ (s:={s' with heap:=h',toks:=tk}) hA MP R2 ok No (wP hb) (X:=(· =cJ.locals)) (λn hn b T3=>?_) λs₂ bd=>?_
   . have Jh:cJ.kindOf (Str.ofString n)=some .local:=by
      have:=ZW.mp al n hn;exact beq_iff_eq.mp this
     rcases T3 with ⟨_,e⟩|⟨e,_⟩
     . exact e
     . rw[Jh] at e;cases e
   refine oeeaaa bd λh2 Il gU RV R3 NA=>?_;try clear bd;subst gU
   have G3:=G2.off (tk:=Il) (· =cJ.locals) NA (λb hb=>hb▸Eo);have Mz:h2.PlainList D items:=Jm.at λo e=>NA D o (Yq IF) e;have zM:St (i+1) h2:=T.frame _ _ _ EY λb o hb e=>NA b o (by
    rcases hb with hb|⟨es,hb⟩
    . rintro rfl;exact Rb hb
    . rw[hb] at yt;cases yt) e
   refine oaea (body i vs H' aO {s' with heap:=h2,toks:=Il} item E₀ inv hx R3) λ_ ρ2 p_ RE=>?_;obtain rfl:=hb.uniq p_;refine Zy (RE RV) (λok s₃ z=>?_) λ_ _ e=>e;refine oeeaa z λH2 gD R4 G4 z=>?_;have mH:h2.get? D≠none:=by refine oe Mz λn e=>?_;try clear Mz;rw[e];exact λz=>by cases z
   have JD:∀{H2 gD} {s₃:Shared},Go H' aO {s' with heap:=h2,toks:=Il} H2 gD s₃->St (i+1) s₃.heap:=λ{H2 gD s₃} G4=>T.frame _ _ _ zM λb o hb e=>by
    rcases hb with hb|⟨es,hb⟩
    . exact G4.keep b o (yq b hb) e
    . rw[hb] at yt;cases yt
   have wl:∀b,wr b->h2.get? b≠none:=T.live _ _ zM;have Bn:=RV.K5 (DC hb)
   cases ok with
   |false=>
    have z:bw (i+1) vs H2:=z;exact next ⟨z,R4,G3.trans G4,JD G4,Mz.at λo e=>G4.keep D o Ac e,zP,V7 pW,G4.iu Ac mH,λb hb=>G4.iu (yq b hb) (wl b hb),Bn.go G4⟩
   |true=>
    have z:wpAny W.M A (eval elt cJ) (bP W H2 gD s₃ λv h3=>bw (i+1) (vs++[v]) h3) E₀ s₃:=z;show wpAny W.M A (eval elt cJ) _ E₀ s₃;refine Zy z (λx s₅ p=>?_) λ_ _ e=>e;refine oeeaa p λH3 Fb q R5 G5=>?_;try clear p
    have IL:=G4.trans G5;have hD5:s₅.heap.PlainList D items:=Mz.at λo e=>IL.keep D o Ac e;have JV:=IL.iu Ac mH;refine W5 hD5 (λh6 hD6 UE=>?_) (Zf pW (Zf hi (Zf hlen dG)));have k6:∀b o,¬ (b=D)->s₅.heap.get? b=some o->h6.get? b=some o:=λb o nb e=>(UE.2 b nb).trans e;have R6:RH W H3 Fb h6:=R5.apart (· =D) k6 λb hb=>by subst hb;exact⟨JV,hDb⟩
    have G6:Go H ow s H3 Fb {s₅ with heap:=h6}:=(G3.trans IL).off (tk:=s₅.toks) (· =D) k6 λb hb=>hb▸En;have SD:St (i+1) h6:=T.frame _ _ _ (JD IL) λb o hb e=>k6 b o (by
     rcases hb with hb|⟨es,hb⟩
     . rintro rfl;exact Ra hb
     . rw[hb] at yt;cases yt) e
    have EN6:b7 W (less ρ t) cJ H3 Fb h6:=(Bn.go IL).iH λb o ob e=>k6 b o (by
     rintro rfl;rcases ob with ob|⟨n,ob⟩
     . exact IF ob.symm
     . exact hcl n _ ob En) e
    exact next ⟨q,R6,G6,SD,hD6,by simp[zP],by rw[Us];exact(aj 0x111011210012311013120) _ _ pW,JV,λb hb=>IL.iu (yq b hb) (wl b hb),EN6⟩
 exact codeAny_compStart_list loop (T.self 0 s₄ _ _ st loop)
noncomputable def iS(W:dB)(A:Around)(ρ:Lo)(t:List String)(elt:Expr)(ifs:List Expr)(sc:Scope)(aJ:Src)(bw:Nat->List V->Hp->Prop):Prop:=
 ∀(cJ:Env) i vs H' aO (gT:Shared) item (E:Value->Shared->Prop),cJ.scope=sc->bw i vs H'->aJ.items[i]?=some item->RH W H' aO gT.heap->aJ.stays H'/\∃ρ',di H' ρ t item ρ'/\
  (b7 W ρ' cJ H' aO gT.heap->wpAny W.M A (tests ifs cJ) (λok s₃=>∃H2 gD,RH W H2 gD s₃.heap/\Go H' aO gT H2 gD s₃/\
   if ok=true then wpAny W.M A (eval elt cJ) (bP W H2 gD s₃ λv h3=>bw (i+1) (vs++[v]) h3) E s₃ else bw (i+1) vs H2) E gT)
theorem xn{elt tg iter:Expr}{ifs:List Expr}{bX:Scope}{pos p:Pos}{t:List String}{Qs:Src->Hp->Prop}{use:Option (Value->Sem Unit)}{QQ:Value->Shared->Prop}(hA:A.handled=none)(R:RH W H ow s.heap)(x:b7 W ρ env H ow s.heap)
 (oi:okInner t bX env.scope=true) (ok:vF (b_ bX env.scope) t tg) (al:gM (b_ bX env.scope) t=true) (hs:∀x,foldedSetIterable iter env x=pure x)
 (hit:wpAny W.M A (eval iter env) (λx s₁=>wpAny W.M A (pyIter x) (fR W A tg H ow s Qs) E s₁) E s)
 (main:∀aJ H₁,Qs aJ H₁->aJ.plain=true/\∃bw:Nat->List V->Hp->Prop,bw 0 [] H₁/\iS W A ρ t elt ifs (b_ bX env.scope) aJ bw/\(∀vs H',bw aJ.items.length vs H'->aJ.stays H')/\
  ∀(s':Shared) H' aO vs D C (items:Array Value),bw aJ.items.length vs H'->RH W H' aO s'.heap->Go H ow s H' aO s'->s'.heap.PlainList D items->items.toList.map aq=vs->items.size<=big->¬ ei H' aO D->s.heap.get? D=none->s.heap.get? C=none->¬ ei H' aO C->C≠D->(∃m,s'.heap.Ns C m)->compPost W.M A E use QQ (.ref D) C (.ok .next) s'):
 wpAny W.M A (comprehension (.ListComp elt [⟨tg,iter,ifs,0⟩] bX pos) bX env p (newList []) false (eval iter env) use) QQ E s:=by
 refine oaaaa (jR oi) λo1 o2 o3 o4 o5=>?_;have Az:∀x∈bX.names,x.2= .free->∃c,env.cells.lookup x.1=some c:=λy hy hf=>by
  refine oeea (x.cells y.1 (o5 y hy hf)) λc _ e _=>?_;exact⟨c,e⟩
 refine wpAny_comprehension_free (hcl:=rfl) hs (qy Az) o1 (λy hy hl=>o4 y hy hl) ?_;refine Zy hit (λxv s₁ h₁=>Zy h₁ (λwR s₂ q=>?_) λ_ _ e=>e) λ_ _ e=>e;refine oeeeeeeaaaaaaaa q λI wr St aJ H₁ cF gC T hlen qs R₁ G₁ st _ hw=>?_;try clear q;subst gC
 refine oaeaaa (main aJ H₁ qs) λMs bw i0 body cI fin=>?_;refine Xb ?_
 -- the EV
 have k3:∀b o,s₂.heap.get? b=some o->(s₂.heap.push {cls:=.type "list",data:=.seq ([]:List Value).toArray}).get? b=some o:=λb o e=>ZM _ e;have dD:s₂.heap.get? s₂.heap.objs.size=none:=bT (Zs _);refine wpAny_newFunctionEnv (binds:=[]) (λy hy=>o3 y hy) (λ_ h=>by cases h) (λh₄ w9 wZ=>?_) o1;have w9:h₄.Ns (s₂.heap.push {cls:=.type "list",data:=.seq ([]:List Value).toArray}).objs.size λ_=>none:=w9;have hz:(s₂.heap.push {cls:=.type "list",data:=.seq ([]:List Value).toArray}).objs.size=s₂.heap.objs.size+1:=Vy ..
 dsimp only at wZ ⊢
 rw[hz] at w9 wZ ⊢;have k4:∀b o,s₂.heap.get? b=some o->h₄.get? b=some o:=λb o e=>(wZ.2 b (Xe (XU (Yi e)))).trans (ZM _ (k3 b o e));have dC:s₂.heap.get? (s₂.heap.objs.size+1)=none:=bT (Yk _);have pD:h₄.PlainList s₂.heap.objs.size #[]:=⟨0,(wZ.2 _ (Xe (YG _))).trans (ZM _ (ZV _ rfl))⟩;have EK:s.heap.get? s₂.heap.objs.size=none:=by
  cases e:s.heap.get? s₂.heap.objs.size with
  |none=>rfl
  |some o=>exact absurd dD (G₁.alive R₁ (by rw[e];exact λz=>by cases z))
 have EL:s.heap.get? (s₂.heap.objs.size+1)=none:=by
  cases e:s.heap.get? (s₂.heap.objs.size+1) with
  |none=>rfl
  |some o=>exact absurd dC (G₁.alive R₁ (by rw[e];exact λz=>by cases z))
 have wl:∀b,wr b->s₂.heap.get? b≠none:=T.live 0 _ st;have R₄:RH W H₁ cF h₄:=R₁.keeps k4;have G₄:Go H ow s H₁ cF {s₂ with heap:=h₄,toks:=s₂.toks+0}:=G₁.off (λ_=>False) (λb o _ e=>k4 b o e) (λ_ z=>z.elim);have Kw:St 0 h₄:=T.frame _ _ _ st λb o _ e=>k4 b o e;refine oa (zt (t:=t) (x.go G₁) R₁ oi k4 dC w9) λEN hcl=>?_;refine Cs (t:=t) (s:=s) (H:=H) (ow:=ow) (ρ:=ρ) (H₁:=H₁) (cF:=cF) (wr:=wr) (aJ:=aJ) (St:=St) (D:=s₂.heap.objs.size) (cJ:=compEnvC bX (eY env.cells bX.names []) (s₂.heap.objs.size+1) env) (s₄:={s₂ with heap:=h₄,toks:=s₂.toks+0})
  hA T Ms hlen ok al Kw R₄ G₄ pD EK (λz=>R₁.ia z dD) (cC R₁.keep dD) (λz=>wl _ z dD) EL (λz=>wl _ z dC) (W7 _) (λb hb=>(hw b hb).1) (λb hb=>(hw b hb).2)
  (λb hb=>cC R.keep (hw b hb).1) (λn c e=>(x.off c (.inr ⟨n,hcl n c e⟩)).2.2) EN bw i0 (λi vs H' aO gT item E hv hx R'=>body _ i vs H' aO gT item E rfl hv hx R') cI ?_
 intro s' H' aO vs items inv R' G' CY zP pW CX Jn hm;refine fin s' H' aO vs _ _ items inv R' G' CY zP pW CX EK EL Jn (W7 _) hm
theorem Hi{elt tg iter:Expr}{ifs:List Expr}{bX:Scope}{pos:Pos}{t:List String}{Qs:Src->Hp->Prop}{Q:V->Hp->Prop}(hA:A.handled=none)(R:RH W H ow s.heap)(x:b7 W ρ env H ow s.heap)
 (oi:okInner t bX env.scope=true) (ok:vF (b_ bX env.scope) t tg) (al:gM (b_ bX env.scope) t=true) (hs:∀x,foldedSetIterable iter env x=pure x)
 (hit:wpAny W.M A (eval iter env) (λx s₁=>wpAny W.M A (pyIter x) (fR W A tg H ow s Qs) E s₁) E s)
 (main:∀aJ H₁,Qs aJ H₁->aJ.plain=true/\∃bw:Nat->List V->Hp->Prop,bw 0 [] H₁/\iS W A ρ t elt ifs (b_ bX env.scope) aJ bw/\∀vs H',bw aJ.items.length vs H'->aJ.stays H'/\∀a,H' a=none->Q (.ref a) (bc H' a (.list vs))):
 wpAny W.M A (eval (.ListComp elt [⟨tg,iter,ifs,0⟩] bX pos) env) (bP W H ow s Q) E s:=by
 rw[arm_eval_ListComp];refine xn (use:=none) hA R x oi ok al hs hit λaJ H₁ qs=>?_;refine oaeaa (main aJ H₁ qs) λhp bw i0 body fin=>?_;refine⟨hp,bw,i0,body,λvs H' i=>(fin vs H' i).1,?_⟩;intro s' H' aO vs D C items inv R' G' CY zP pW CX En Eo Jn IF hm;refine oe hm λm hm=>?_;refine⟨m,hm,λh' I5=>?_⟩;have k:∀b o,¬ (b=C)->s'.heap.get? b=some o->h'.get? b=some o:=λb o nb e=>(I5.2 b nb).trans e;have R2:RH W H' aO h':=R'.apart (· =C) k λb hb=>by subst hb;exact⟨Jn,cC R.keep Eo⟩
 have G2:Go H ow s H' aO {s' with heap:=h',toks:=s'.toks}:=G'.off (· =C) k λb hb=>hb▸Eo;have pD:h'.PlainList D items:=CY.at λo e=>k D o (Yq IF) e;have hN:=AR CX;exact⟨bc H' D (.list vs),aO,(fin vs H' inv).2 D hN,R2.adopt CX (cC R.keep En) ⟨items,pD,zP,by rw[<-zP];simpa using pW⟩,G2.adopt hN En⟩
end
end
section
open PySem PySem.W PyProof.Rows PySem.Calls
section
variable {L:Lv}{sc:Scope}{m:Nat}{c k c1 c2:C}{sk:SK}{t:List String}
theorem zw{x:Expr}{ifs:List Expr}{bX:Scope}{cc ce:C}(he:aZ L (b_ bX sc) m ce .done x)(hc:(ifs=[]/\cc= .az (.bool true) .done)\/∃z,ifs=[z]/\aZ L (b_ bX sc) m cc .done z)(f:gE L sc m){ρ:Lo}{aJ:Src}{bw:Nat->List V->Hp->Prop}
 (step:∀i vs h' item,bw i vs h'->aJ.items[i]?=some item->aJ.stays h'/\∃ρ',di h' ρ t item ρ'/\
  f.wp cc ρ' [] h' (gF λv cR=>∃b,v= .bool b/\(b=true->f.wp ce ρ' [] cR (gF λv h3=>bw (i+1) (vs++[v]) h3))/\(b=false->bw (i+1) vs cR))):
 iS f.W f.A ρ t x ifs (b_ bX sc) aJ bw:=by
 intro cJ i vs H' aO gT item E Wp iv hx R';refine oaea (step i vs H' item iv hx) λst ρ' hb w'=>?_;refine⟨st,ρ',hb,λX'=>?_⟩
 let g:gE L (b_ bX sc) m:=⟨f.W,f.γ,f.F,f.A,cJ,Wp,f.hA⟩
 have elt:∀{H2:Hp} {gD:Nat->Option Nat} {s₃:Shared},At g ρ' H2 gD s₃->f.wp ce ρ' [] H2 (gF λv h3=>bw (i+1) (vs++[v]) h3)->wpAny f.W.M f.A (eval x cJ) (bP f.W H2 gD s₃ λv h3=>bw (i+1) (vs++[v]) h3) E s₃:=λ{H2 gD s₃} a w=>
  Zy (he.1 g ρ' H2 gD s₃ E [] _ a w) (λv s p=>p.aV λv h q=>by
   refine oaea q λ_ v' e q=>?_
   cases e;exact q) λ_ _ e=>e
 have a':At g ρ' H' aO gT:=⟨X',R'⟩;rcases hc with ⟨rfl,rfl⟩|⟨z,rfl,hz⟩
 . refine oaeaeaa w' λ_ v e b e2 w1 _=>?_;try clear w'
   cases e;cases e2
   refine wpAny_tests_nil ⟨H',aO,R',Go.refl ..,?_⟩;rw[if_pos rfl];exact elt a' (w1 rfl)
 . refine wpAny_tests_one (Zy (hz.2 g ρ' H' aO gT E [] _ (λb h=>(b=true->f.wp ce ρ' [] h (gF λv h3=>bw (i+1) (vs++[v]) h3))/\(b=false->bw (i+1) vs h)) a' (λv h q=>?_) w') (λb s₃ q=>?_) λ_ _ e=>e)
   . refine oaeaeaa q λ_ v' e b e2 w1 w2=>?_;try clear q
     cases e
     exact⟨b,e2,w1,w2⟩
   . refine oeeaa q λH2 gD q R2 G2=>?_;refine⟨H2,gD,R2,G2,?_⟩
     cases b with
     |true=>exact elt (a'.go G2 R2) (q.1 rfl)
     |false=>exact q.2 rfl
structure kg(L:Lv)(sc:Scope)(m:Nat)(c k:C)(t:List String)(tg iter x:Expr)(ifs:List Expr)(bX:Scope):Prop where
 oi:okInner t bX sc=true
 ok:vF (b_ bX sc) t tg
 al:gM (b_ bX sc) t=true
 ex:∃sk cc ce,kF L sc m sk t c (.comp t sk cc ce k) iter/\aZ L (b_ bX sc) m ce .done x/\((ifs=[]/\cc= .az (.bool true) .done)\/∃z,ifs=[z]/\aZ L (b_ bX sc) m cc .done z)
theorem xJ{x tg iter:Expr}{ifs:List Expr}{bX:Scope}(o:kg L sc m c k t tg iter x ifs bX)(f:gE L sc m){ρ:Lo}{H:Hp}{ow:Nat->Option Nat}{s:Shared}{E:Value->Shared->Prop}{st:List V}{Q:Po}(a:At f ρ H ow s)(w:f.wp c ρ st H Q):
 (∀env v,foldedSetIterable iter env v=pure v)/\∃Qs,wpAny f.W.M f.A (eval iter f.env) (λv s₁=>wpAny f.W.M f.A (pyIter v) (fR f.W f.A tg H ow s Qs) E s₁) E s/\
  ∀aJ H₁,Qs aJ H₁->aJ.plain=true/\∃bw:Nat->List V->Hp->Prop,bw 0 [] H₁/\iS f.W f.A ρ t x ifs (b_ bX sc) aJ bw/\∀vs H',bw aJ.items.length vs H'->aJ.stays H'/\∀a,H' a=none->f.wp k ρ (.ref a::st) (bc H' a (.list vs)) Q:=by
 refine oeeeaa o.ex λsk cc ce hi he hc=>?_;refine⟨hi.1,_,hi.2 f tg ρ H ow s E st Q (λaJ H₁=>aJ.plain=true/\∃bw:Nat->List V->Hp->Prop,bw 0 [] H₁/\iS f.W f.A ρ t x ifs (b_ bX sc) aJ bw/\∀vs H',bw aJ.items.length vs H'->aJ.stays H'/\∀a,H' a=none->f.wp k ρ (.ref a::st) (bc H' a (.list vs)) Q) (AH o.ok) a (λIo h w=>?_) w,λ_ _ z=>z⟩;refine oeeaaeaa w λaJ bG hs hp bw i0 step fin=>?_;try clear w
 exact⟨aJ,bG,hs,λe=>⟨hp,bw,i0,zw he hc f step,λvs H' i=>⟨(fin vs H' i).1,e▸(fin vs H' i).2⟩⟩⟩
theorem DZ{x tg iter:Expr}{ifs:List Expr}{bX:Scope}{p:Pos}(o:kg L sc m c k t tg iter x ifs bX):aZ L sc m c k (.ListComp x [⟨tg,iter,ifs,0⟩] bX p):=by
 refine pX (λf ρ H ow s E st Q a w=>?_) λ_=>rfl;obtain ⟨W,γ,F,A,env,hs,hA⟩:=f;subst hs;refine oaea (xJ (E:=E) o _ a w) λh1 Qs w1 h2=>?_;exact Hi hA.hd a.R a.X o.oi o.ok o.al (h1 env) w1 h2
end
end
section
open PySem PySem.W PyProof.Rows PySem.Calls
structure ej(X:Nat->Prop)(H:Hp)(ow:Nat->Option Nat)(s:Shared)(H':Hp)(aO:Nat->Option Nat)(s':Shared):Prop where
 st:∃h' tk,s'={s with heap:=h',toks:=tk}
 keep:∀b o,¬ ei H ow b->¬ X b->s.heap.get? b=some o->s'.heap.get? b=some o
 sub:∀b,ei H' aO b->ei H ow b\/s.heap.get? b=none
 er:∀b es,H b=some (.er es)->H' b=some (.er es)/\∀o,s.heap.get? b=some o->s'.heap.get? b=some o
 grow:∀b,ei H ow b->ei H' aO b
 alive:∀b,s.heap.get? b≠none->s'.heap.get? b≠none
section
variable {W:dB}{X:Nat->Prop}{H H' Es:Hp}{ow aO tG:Nat->Option Nat}{s s' gT:Shared}
theorem ej.refl:ej X H ow s H ow s:=⟨⟨s.heap,s.toks,rfl⟩,λ_ _ _ _ e=>e,λ_ m=>.inl m,λ_ _ e=>⟨e,λ_ x=>x⟩,λ_ x=>x,λ_ x=>x⟩
theorem ej.of(g:Go H ow s H' aO s')(R:RH W H' aO s'.heap):ej X H ow s H' aO s':=⟨g.st,λb o m _ e=>g.keep b o m e,g.sub,g.er,g.grow,λ_ l=>g.alive R l⟩
theorem ej.trans(x:ej X H ow s H' aO s')(y:ej X H' aO s' Es tG gT):ej X H ow s Es tG gT where
 st:=by
  refine oee x.st λh1 t1 e1=>?_;refine oee y.st λh2 t2 e2=>?_;subst e1;exact⟨h2,t2,e2⟩
 keep:=λb o m nx e=>y.keep b o (λm'=>(x.sub b m').elim m λl=>by rw[e] at l;cases l) nx (x.keep b o m nx e)
 sub:=λb m=>(y.sub b m).elim (x.sub b) λl=>by
  cases q:s.heap.get? b with
  |none=>exact .inr rfl
  |some o=>exact absurd l (x.alive b (by rw[q];exact λz=>by cases z))
 er:=λb es e=>oa (x.er b es e) λp q=>oa (y.er b es p) λp' q'=>⟨p',λo z=>q' o (q o z)⟩
 grow:=λb m=>y.grow b (x.grow b m)
 alive:=λb l=>y.alive b (x.alive b l)
theorem ej.bound{h':Heap}{tk:Nat}(hk:∀b o,¬ X b->s.heap.get? b=some o->h'.get? b=some o)(hX:∀b,X b->¬ ei H ow b)(hl:∀b,X b->h'.get? b≠none):ej X H ow s H ow {s with heap:=h',toks:=tk} where
 st:=⟨h',tk,rfl⟩
 keep:=λb o _ nx e=>hk b o nx e
 sub:=λ_ m=>.inl m
 er:=λb es e=>⟨e,λo z=>hk b o (λq=>hX b q (eX e)) z⟩
 grow:=λ_ m=>m
 alive:=λb l=>by
  by_cases q:X b
  . exact hl b q
  . cases e:s.heap.get? b with
    |none=>exact absurd e l
    |some o=>rw[hk b o q e];exact λz=>by cases z
theorem ej.off{h':Heap}{tk:Nat}(x:ej X H ow s H' aO s')(Y:Nat->Prop)(hk:∀b o,¬ Y b->s'.heap.get? b=some o->h'.get? b=some o)(hY:∀b,Y b->s.heap.get? b=none):ej X H ow s H' aO {s' with heap:=h',toks:=tk}:=by
 refine oee x.st λh1 t1 e1=>?_;subst e1;have NJ:∀b,s.heap.get? b≠none->¬ Y b:=λb l q=>l (hY b q);refine⟨⟨h',tk,rfl⟩,λb o m nx e=>hk b o (NJ b (by rw[e];exact λz=>by cases z)) (x.keep b o m nx e),x.sub,λb es e=>?_,x.grow,λb l=>?_⟩
 . refine oa (x.er b es e) λp q=>?_;exact⟨p,λo z=>hk b o (NJ b (by rw[z];exact λz=>by cases z)) (q o z)⟩
 . have:=x.alive b l
   cases e:h1.get? b with
   |none=>exact absurd e this
   |some o=>rw[hk b o (NJ b l) e];exact λz=>by cases z
theorem ej.iu(x:ej X H ow s H' aO s'){b:Nat}(m:¬ ei H ow b)(l:s.heap.get? b≠none):¬ ei H' aO b:=λq=>(x.sub b q).elim m l
theorem ej.out{s₀:Shared}(hk:∀b o,s₀.heap.get? b=some o->s.heap.get? b=some o)(hs:∃h tk,s={s₀ with heap:=h,toks:=tk})(x:ej X H ow s H' aO s')(hX:∀b,X b->s₀.heap.get? b=none):Go H ow s₀ H' aO s' where
 st:=by
  refine oee hs λh1 t1 e1=>?_;try clear hs
  refine oee x.st λh2 t2 e2=>?_;subst e1;exact⟨h2,t2,e2⟩
 keep:=λb o m e=>x.keep b o m (λq=>by rw[hX b q] at e;cases e) (hk b o e)
 sub:=λb m=>(x.sub b m).imp id λl=>by
  cases e:s₀.heap.get? b with
  |none=>rfl
  |some o=>rw[hk b o e] at l;cases l
 er:=λb es e=>oa (x.er b es e) λp q=>⟨p,λo z=>q o (hk b o z)⟩
 grow:=x.grow
end
noncomputable def XW(env:Env)(b:Nat):Prop:=∃n,Wr env n b
section
variable {L:Lv}{sc:Scope}{m:Nat}{c k c1 c2:C}{f:gE L sc m}{H H':Hp}{ow aO:Nat->Option Nat}{s s' gT:Shared}{Q:Po}
noncomputable def FlQ(f:gE L sc m)(k:C)(Q:Po)(ρ:Lo)(H:Hp):Flow->Prop
 | .next=>f.wp k ρ [] H Q
 | .brk=>Q .brk ρ [] H
 | .ret v=>Q (.ret (aq v)) ρ [] H
 | .cont=>False
noncomputable def iz(f:gE L sc m)(H:Hp)(ow:Nat->Option Nat)(s:Shared)(k:C)(Q:Po)(fl:Flow)(s':Shared):Prop:=
 ∃ρ' H' aO,At f ρ' H' aO s'/\ej (XW f.env) H ow s H' aO s'/\FlQ f k Q ρ' H' fl
theorem oG{E:Value->Shared->Prop}{x:Sem Flow}(g:ej (XW f.env) H ow s H' aO s')(w:wpAny f.W.M f.A x (iz f H' aO s' k Q) E s'):wpAny f.W.M f.A x (iz f H ow s k Q) E s':=
 Zy w (λ_ _ xP=>oeeeaa xP λρ H2 o2 a G q=>⟨ρ,H2,o2,a,g.trans G,q⟩) λ_ _ e=>e
noncomputable def dU(L:Lv)(sc:Scope)(m:Nat)(c k:C)(x:Stmt):Prop:=
 ∀(f:gE L sc m) (ρ:Lo) (H:Hp) (ow:Nat->Option Nat) (s:Shared) (E:Value->Shared->Prop) (Q:Po),At f ρ H ow s->f.wp c ρ [] H Q->wpAny f.W.M f.A (exec x f.env) (iz f H ow s k Q) E s
noncomputable def dJ(L:Lv)(sc:Scope)(m:Nat)(c k:C)(xs:List Stmt):Prop:=
 ∀(f:gE L sc m) (ρ:Lo) (H:Hp) (ow:Nat->Option Nat) (s:Shared) (E:Value->Shared->Prop) (Q:Po),At f ρ H ow s->f.wp c ρ [] H Q->wpAny f.W.M f.A (execs xs f.env) (iz f H ow s k Q) E s
end
section
variable {L:Lv}{sc:Scope}{m:Nat}{c k c1 c2:C}{x:Expr}{y:Stmt}{xs ys:List Stmt}{p:Pos}
theorem At.CZ{f:gE L sc m}{ρ:Lo}{H H1:Hp}{ow bR:Nat->Option Nat}{s s1:Shared}(a:At f ρ H1 bR s1)(G:Go H ow s H1 bR s1):ej (XW f.env) H ow s H1 bR s1:=ej.of G a.R
theorem Dk:dJ L sc m k k []:=λf ρ H ow s E Q a w=>Vm ⟨ρ,H,ow,a,ej.refl,w⟩
theorem Bq(h:dU L sc m c c1 y)(hr:dJ L sc m c1 k ys):dJ L sc m c k (y::ys):=by
 intro f ρ H ow s E Q a w;refine wpAny_execs_cons (Zy (h f ρ H ow s E Q a w) (λfl s₁ p=>?_) λ_ _ e=>e);refine oeeeaa p λρ1 H1 bR a1 G1 q=>?_;try clear p
 cases fl with
 |next=>exact oG G1 (hr f ρ1 H1 bR s₁ E Q a1 q)
 |brk=>exact⟨ρ1,H1,bR,a1,G1,q⟩
 |ret v=>exact⟨ρ1,H1,bR,a1,G1,q⟩
 |cont=>exact q.elim
theorem GZ(he:aZ L sc m c .ret x):dU L sc m c k (.Return (some x) p):=λf ρ H ow s E Q a w=>
 wpAny_Return_some (jO a (he.1 f ρ H ow s E [] Q a w) λv s₁ H1 bR q a1 G1=>⟨ρ,H1,bR,a1,a1.CZ G1,q⟩)
theorem G_:dU L sc m .brk k (.Break p):=λf ρ H ow s E Q a w=>wpAny_Break ⟨ρ,H,ow,a,ej.refl,w⟩
theorem part(h:dJ L sc m c .done xs)(f:gE L sc m){ρ:Lo}{H:Hp}{ow:Nat->Option Nat}{s:Shared}{E:Value->Shared->Prop}{Q:Po}(a:At f ρ H ow s)(w:f.wp c ρ [] H (sq (λρ st h=>f.wp k ρ st h Q) Q)):wpAny f.W.M f.A (execs xs f.env) (iz f H ow s k Q) E s:=by
 refine Zy (h f ρ H ow s E _ a w) (λfl s₁ xO=>oeeeaa xO λρ1 H1 bR a1 G1 q=>⟨ρ1,H1,bR,a1,G1,?_⟩) λ_ _ e=>e
 cases fl<;>exact q
theorem G8(hc:aZ L sc m c (.ite c1 c2 k) x)(ha:dJ L sc m c1 .done xs)(hb:dJ L sc m c2 .done ys):dU L sc m c k (.If x xs ys p):=by
 intro f ρ H ow s E Q a w;refine wpAny_If (Zy (hc.2 f ρ H ow s E [] Q _ a (λv h w=>j0 w) w) (λt s₁ q=>?_) λ_ _ e=>e);refine oeeaa q λH1 bR q R1 G1=>?_;have a1:=a.go G1 R1
 cases t with
 |true=>exact oG (a1.CZ G1) (part ha f a1 q)
 |false=>exact oG (a1.CZ G1) (part hb f a1 q)
theorem Dp(hx:∀env,swapsWith x none p.line env=pure false)(he:aZ L sc m c (.pop k) x):dU L sc m c k (.Expr x p):=by
 intro f ρ H ow s E Q a w;have hi:interactive f.env=false:=by
  unfold interactive;rw[a.X.fn]
  rfl
 refine wpAny_Expr (jO a (he.1 f ρ H ow s E [] Q a w) λv s₁ H1 bR q a1 G1=>?_) hi (hx f.env);have fin:iz f H ow s k Q .next s₁:=⟨ρ,H1,bR,a1,a1.CZ G1,q.2⟩
 cases v<;>first|exact fin|exact absurd rfl (q.1 _)
noncomputable def RN(f:gE L sc m)(bw:Nat->Lo->Hp->Prop)(n:Nat)(c1 k:C)(Q:Po)(ρ:Lo)(t:Bool)(h:Hp):Prop:=
 (t=true->f.wp c1 ρ [] h (It (λρ3 h3=>∃m,m<n/\bw m ρ3 h3) (λρ3 h3=>f.wp k ρ3 [] h3 Q) (λv ρ3 h3=>Q (.ret v) ρ3 [] h3)))/\(t=false->f.wp k ρ [] h Q)
theorem Dh{f:gE L sc m}{bw:Nat->Lo->Hp->Prop}{n:Nat}{Q:Po}{ρ0:Lo}{H H1:Hp}{ow bR:Nat->Option Nat}{s s₁:Shared}{E:Value->Shared->Prop}(hb:dJ L sc m c1 .done xs)(a1:At f ρ0 H1 bR s₁)(G:ej (XW f.env) H ow s H1 bR s₁)(q:RN f bw n c1 k Q ρ0 true H1):
 wpAny f.W.M f.A (execs xs f.env) (λfl s₂=>∃ρ' H' aO,At f ρ' H' aO s₂/\ej (XW f.env) H ow s H' aO s₂/\match fl with
  | .next=>∃m,m<n/\bw m ρ' H'
  | .brk=>f.wp k ρ' [] H' Q
  | .ret v=>Q (.ret (aq v)) ρ' [] H'
  | .cont=>False) E s₁:=by
 refine Zy (hb f ρ0 H1 bR s₁ _ _ a1 (q.1 rfl)) (λfl s₂ p=>?_) λ_ _ e=>e;refine oeeeaa p λρ2 H2 gD a2 G2 q=>?_;try clear p
 refine⟨ρ2,H2,gD,a2,G.trans G2,?_⟩
 cases fl<;>exact q
noncomputable def WQ(I:Nat->Shared->Prop)(n:Nat)(Q:Flow->Shared->Prop)(fl:Flow)(s:Shared):Prop:=match fl with
 | .next=>∃m,m<n/\I m s
 | .cont=>∃m,m<n/\I m s
 | .brk=>Q .next s
 | .ret v=>Q (.ret v) s
theorem Bo{prog:Program}{w:World}{A:Around}{env:Env}{E:Value->Shared->Prop}{s:Shared}{Q:Flow->Shared->Prop}(I:Nat->Shared->Prop)(n:Nat)(h:I n s)
 (turn:∀(E0:Value->Shared->Prop) n s,I n s->wpAny (model prog w) A (isTrue x env (eval x env)) (λb s₂=>(b=true->wpAny (model prog w) A (execs xs env) (WQ I n Q) E0 s₂)/\(b=false->Q .next s₂)) E0 s):wpAny (model prog w) A (exec (.While x xs [] p) env) Q E s:=by
 refine wpAny_While (codeAny_whileLoop I (λn s hI=>Zy (turn _ n s hI) (λb s2 z=>?_) λ_ _ e=>e) n h)
 cases b with
 |false=>exact Vm (z.2 rfl)
 |true=>exact Zy (z.1 rfl) (λf s3 z=>by cases f<;>exact z) λ_ _ e=>e
theorem Bc{prog:Program}{w:World}{A:Around}{env:Env}{E:Value->Shared->Prop}{s:Shared}{Q:Flow->Shared->Prop}{tg iter:Expr}(hi:∀v,foldedSetIterable iter env v=pure v)
 (h:wpAny (model prog w) A (eval iter env) (λv s₁=>wpAny (model prog w) A (pyIter v) (λwR s₂=>∃(I:Nat->Shared->Prop) (n:Nat),I n s₂/\∀(E0:Value->Shared->Prop) k s',I k s'->wpAny (model prog w) A (pyNext wR) (λr s₁=>r=none/\Q .next s₁) E0 s'\/
  wpAny (model prog w) A (pyNext wR) (λr s₁=>∃v,r=some v/\wpAny (model prog w) A (letOwnedTupleGo tg wR v) (λ_ nZ=>wpAny (model prog w) A (assign tg env v) (λ_ s₃=>wpAny (model prog w) A (execs xs env) (WQ I k Q) E0 s₃) E0 nZ) E0 s₁) E0 s') E s₁) E s):
 wpAny (model prog w) A (exec (.For tg iter xs [] p) env) Q E s:=by
 refine wpAny_For (Zy h (λv s₁ q=>Zy q (λwR s₂ q=>?_) λ_ _ e=>e) λ_ _ e=>e) hi;refine oeea q λI n i0 turn=>?_;try clear q
 refine codeAny_forLoop_any I (λk s' hI=>?_) n i0;rcases turn _ k s' hI with z|z
 . refine Zy z (λr s₁ z=>?_) λ_ _ e=>e;obtain ⟨rfl,z⟩:=z;exact Vm z
 . refine Zy z (λr s₁ z=>?_) λ_ _ e=>e;obtain ⟨v,rfl,z⟩:=z;exact Zy z (λ_ s1 z=>Zy z (λ_ s2 z=>Zy z (λf s3 z=>by cases f<;>exact z) λ_ _ e=>e) λ_ _ e=>e) λ_ _ e=>e
theorem Br(hc:aZ L sc m c .done x)(hb:dJ L sc m c1 .done xs):dU L sc m (.loop c c1 k) k (.While x xs [] p):=by
 intro f ρ H ow s E Q a w;refine oea w λbw cY step=>?_;try clear w;refine oe cY λn0 i0=>?_;try clear cY
 refine Bo (λn s'=>∃ρ' H' aO,bw n ρ' H'/\At f ρ' H' aO s'/\ej (XW f.env) H ow s H' aO s') n0 ⟨ρ,H,ow,i0,a,ej.refl⟩ λE0 n s₀ IR=>oeeeaa IR λρ0 H0 SR iv a0 G0=>?_;refine Zy (hc.2 f ρ0 H0 SR s₀ E0 [] _ (RN f bw n c1 k Q ρ0) a0 (λv h q=>?_) (step n ρ0 H0 iv)) (λt s₁ q=>?_) λ_ _ e=>e
 . refine oaea q λ_ v' e q=>?_
   cases e;exact q
 refine oeeaa q λH1 bR q R1 G1=>?_;have a1:=a0.go G1 R1;have RS:=G0.trans (a1.CZ G1);refine⟨λz=>?_,λz=>⟨ρ0,H1,bR,a1,RS,q.2 z⟩⟩;rw[z] at q;refine Zy (Dh hb a1 RS q) (λfl s₂ p=>?_) λ_ _ e=>e;refine oeeeaa p λρ2 H2 gD a2 G2 q=>?_;try clear p
 cases fl with
 |next=>refine oea q λk hk iv=>?_;try clear q;exact⟨k,hk,ρ2,H2,gD,iv,a2,G2⟩
 |brk=>exact⟨ρ2,H2,gD,a2,G2,q⟩
 |ret v=>exact⟨ρ2,H2,gD,a2,G2,q⟩
 |cont=>exact q.elim
end
section
variable {W:dB}
theorem iN{H:Hp}{ow:Nat->Option Nat}{a:Nat}{o o':O}(e:H a=some o)(b:Nat):ei (bc H a o') ow b↔ei H ow b:=by
 refine⟨λm=>(gb m).elim id λz=>z▸eX e,λm=>fM m⟩
theorem KT{H:Hp}{ow:Nat->Option Nat}{h:Heap}(R:RH W H ow h){a:Nat}{es:List (Int×V)}(e:H a=some (.dict es)):RH W (bc H a (.er es)) ow h:=
 R.put e (.inr (.inl ⟨_,.inl e⟩)) (WV ..) (λ_ _ z=>by cases z) (by have:=R.obj a (.dict es) e;exact this)
theorem KS{H:Hp}{ow:Nat->Option Nat}{h:Heap}(R:RH W H ow h){a:Nat}{es:List (Int×V)}(e:H a=some (.er es)):RH W (bc H a (.dict es)) ow h:=
 R.put e (.inr (.inl ⟨_,.inr e⟩)) (WV ..) (λ_ _ z=>by cases z) (by have:=R.obj a (.er es) e;exact this)
theorem Hw{X:Nat->Prop}{H H':Hp}{ow aO:Nat->Option Nat}{s s':Shared}{a:Nat}{es:List (Int×V)}(e:H a=some (.dict es))(g:ej X (bc H a (.er es)) ow s H' aO s'):ej X H ow s (bc H' a (.dict es)) aO s' where
 st:=g.st
 keep:=λb o m nx z=>g.keep b o (λq=>m ((iN e b).mp q)) nx z
 sub:=λb m=>by
  rcases gb m with m|rfl
  . exact(g.sub b m).imp (iN e b).mp id
  . exact .inl (eX e)
 er:=λb fs z=>by
  have vw:b≠a:=λq=>by subst q;rw[e] at z;cases z
  refine oa (g.er b fs (by rw[bc,if_neg vw];exact z)) λp q=>?_;exact⟨by rw[bc,if_neg vw];exact p,q⟩
 grow:=λb m=>fM (g.grow b ((iN e b).mpr m))
 alive:=g.alive
theorem ej.weaken{X Y:Nat->Prop}{H H':Hp}{ow aO:Nat->Option Nat}{s s':Shared}(x:ej X H ow s H' aO s')(h:∀b,X b->Y b):ej Y H ow s H' aO s':=
 ⟨x.st,λb o m ny e=>x.keep b o m (λq=>ny (h b q)) e,x.sub,x.er,x.grow,x.alive⟩
theorem ej.aG{X Y:Nat->Prop}{H H' Es:Hp}{ow aO tG:Nat->Option Nat}{s s' gT:Shared}(x:ej X H ow s H' aO s')(y:ej (λb=>X b\/Y b) H' aO s' Es tG gT)(hY:∀b,Y b->s.heap.get? b=none):ej X H ow s Es tG gT where
 st:=by
  refine oee x.st λh1 t1 e1=>?_;refine oee y.st λh2 t2 e2=>?_;subst e1;exact⟨h2,t2,e2⟩
 keep:=λb o m nx e=>y.keep b o (λm'=>(x.sub b m').elim m λl=>by rw[e] at l;cases l) (λq=>q.elim nx λq=>by rw[hY b q] at e;cases e) (x.keep b o m nx e)
 sub:=λb m=>(y.sub b m).elim (x.sub b) λl=>by
  cases q:s.heap.get? b with
  |none=>exact .inr rfl
  |some o=>exact absurd l (x.alive b (by rw[q];exact λz=>by cases z))
 er:=λb es e=>oa (x.er b es e) λp q=>oa (y.er b es p) λp' q'=>⟨p',λo z=>q' o (q o z)⟩
 grow:=λb m=>y.grow b (x.grow b m)
 alive:=λb l=>y.alive b (x.alive b l)
theorem Hc{aJ:Src}{H:Hp}{ow:Nat->Option Nat}{h:Heap}(st:aJ.start H)(R:RH W H ow h):RH W (aJ.fz H) ow h:=by
 cases aJ with
 |keys a es=>exact KT R st
 |_=>exact R
theorem xg{aJ:Src}{H:Hp}{ow:Nat->Option Nat}(st:aJ.start H)(b:Nat):ei (aJ.fz H) ow b↔ei H ow b:=by
 cases aJ with
 |keys a es=>exact iN st b
 |_=>exact Iff.rfl
theorem Hb{aJ:Src}{X:Nat->Prop}{H H':Hp}{ow aO:Nat->Option Nat}{s s':Shared}(st:aJ.start H)(R:RH W H' aO s'.heap)(g:ej X (aJ.fz H) ow s H' aO s'):
 RH W (aJ.th H') aO s'.heap/\ej X H ow s (aJ.th H') aO s'/\∀b,ei (aJ.th H') aO b->ei H' aO b:=by
 cases aJ with
 |keys a es=>
  have st:H a=some (.dict es):=st;have e:=(g.er a es (by show bc H a (.er es) a=_;rw[bc,if_pos rfl])).1;exact⟨KS R e,Hw st g,λb m=>(iN e b).mp m⟩
 |_=>exact⟨R,g,λ_ m=>m⟩
end
structure FH(W:dB)(env:Env)(wr:Nat->Prop)(aJ:Src)(St:Nat->Heap->Prop)(bw:Nat->Lo->Hp->Prop)(H₁:Hp)(cF:Nat->Option Nat)(s₂:Shared)(i:Nat)(ρ':Lo)(H':Hp)(aO:Nat->Option Nat)(s':Shared):Prop where
 le:i<=aJ.items.length
 inv:bw i ρ' H'
 X:b7 W ρ' env H' aO s'.heap
 R:RH W H' aO s'.heap
 G:ej (λb=>XW env b\/wr b) (aJ.fz H₁) cF s₂ H' aO s'
 st:St i s'.heap
 wo:∀b,wr b->¬ ei H' aO b
section
variable {W:dB}{env:Env}{wr:Nat->Prop}{aJ:Src}{St:Nat->Heap->Prop}{bw:Nat->Lo->Hp->Prop}{H H₁ H':Hp}{ow cF aO:Nat->Option Nat}{s s₂ s':Shared}{i:Nat}{ρ':Lo}
theorem FH.apart(x:FH W env wr aJ St bw H₁ cF s₂ i ρ' H' aO s')(hb:∀b,wr b->W.base.get? b=none)(xw:∀b,Own env b->¬ wr b){h':Heap}{tk:Nat}(hk:∀b o,¬ wr b->s'.heap.get? b=some o->h'.get? b=some o)(hl:∀b,wr b->h'.get? b≠none):
 RH W H' aO h'/\b7 W ρ' env H' aO h'/\ej (λb=>XW env b\/wr b) (aJ.fz H₁) cF s₂ H' aO {s' with heap:=h',toks:=tk}:=
 ⟨x.R.apart wr hk λb m=>⟨x.wo b m,hb b m⟩,x.X.iH λb o ob e=>hk b o (xw b ob) e,x.G.trans ((ej.bound (X:=wr) hk x.wo hl).weaken λb q=>.inr q)⟩
theorem FH.turn{A:Around}{t:List String}{tg:Expr}{I:Nat}{xs:List Stmt}{item:List V}{fE:Lo}{E:Value->Shared->Prop}{P:Flow->Shared->Prop}{B:Flow->Lo->Hp->Prop}(x:FH W env wr aJ St bw H₁ cF s₂ i ρ' H' aO s')(hb:∀b,wr b->W.base.get? b=none)(xw:∀b,Own env b->¬ wr b)(hA:A.handled=none)(ok:vF env.scope t tg)(T:dh W A tg I wr aJ St)(cI:aJ.stays H')(hx:aJ.items[i]?=some item)(bt:di H' ρ' t item fE)
 (body:∀s3,b7 W fE env H' aO s3.heap->RH W H' aO s3.heap->wpAny W.M A (execs xs env) (λfl s4=>∃ρ4 H4 vq,b7 W ρ4 env H4 vq s4.heap/\RH W H4 vq s4.heap/\ej (XW env) H' aO s3 H4 vq s4/\B fl ρ4 H4) E s3)
 (q:∀fl s4 ρ4 H4 vq,b7 W ρ4 env H4 vq s4.heap->RH W H4 vq s4.heap->ej (λb=>XW env b\/wr b) (aJ.fz H₁) cF s₂ H4 vq s4->St (i+1) s4.heap->(∀b,wr b->¬ ei H4 vq b)->B fl ρ4 H4->P fl s4):
 wpAny W.M A (pyNext (.ref I)) (λr s₁=>∃v,r=some v/\wpAny W.M A (letOwnedTupleGo tg (.ref I) v) (λ_ nZ=>wpAny W.M A (assign tg env v) (λ_ s₃=>wpAny W.M A (execs xs env) P E s₃) E nZ) E s₁) E s':=by
 refine T.item i s' H' aO item (λv nZ=>wpAny W.M A (assign tg env v) (λ_ s₃=>wpAny W.M A (execs xs env) P E s₃) E nZ) E hx x.st x.R cI x.wo λv h' tk EY No hk=>?_;refine oaa (x.apart hb xw (tk:=tk) hk (T.live _ _ EY)) λR2 X2 G2=>?_;refine AJ (s:={s' with heap:=h',toks:=tk}) hA X2 R2 ok No bt (X:=XW env) (λn hn b hb=>⟨n,hb⟩) λs₃ bd=>?_;refine oeeaaa bd λh3 IS dT X3 R3 k3=>?_;try clear bd;subst dT
 have fz:∀b,(∃es,aJ= .keys b es)->∃es,H' b=some (.er es):=λb MW=>oe MW λes e=>by subst e;exact⟨es,cI⟩
 have xo:∀b,XW env b->¬ ei H' aO b:=λb FQ=>oe FQ λn hb=>(X2.off b hb.ai).1;have G3:=G2.trans ((ej.bound (s:={s' with heap:=h',toks:=tk}) (tk:=IS) (X:=XW env) k3 xo λb FN=>oe FN λn hb=>(X3.off b hb.ai).2.2).weaken λb q=>.inl q);have zM:St (i+1) h3:=T.frame _ _ _ EY λb o hb e=>k3 b o (λFM=>oe FM λn CA=>hb.elim (xw b CA.ai) λhb=>(fz b hb).elim λes z=>xo b ⟨n,CA⟩ (eX z)) e;refine Zy (body {s' with heap:=h3,toks:=IS} X3 R3) (λfl s₄ z=>?_) λ_ _ e=>e;refine oeeeaaa z λρ4 H4 vq X4 R4 G4 z=>?_;refine q fl s₄ ρ4 H4 vq X4 R4 (G3.trans (G4.weaken λb q=>.inl q)) (T.frame _ _ _ zM λb o hb e=>?_) (λb hb=>G4.iu (x.wo b hb) (T.live _ _ zM b hb)) z;rcases hb with hb|hb
 . exact G4.keep b o (x.wo b hb) (λFL=>oe FL λn CA=>xw b CA.ai hb) e
 . refine oe (fz b hb) λes z=>?_;exact(G4.er b es z).2 o e
theorem FH.out(ik:aJ.start H₁)(G₁:Go H ow s H₁ cF s₂)(R₁:RH W H₁ cF s₂.heap)(hs:∀b,wr b->s.heap.get? b=none)(X:b7 W ρ' env H' aO s'.heap)(R:RH W H' aO s'.heap)(G:ej (λb=>XW env b\/wr b) (aJ.fz H₁) cF s₂ H' aO s'):
 b7 W ρ' env (aJ.th H') aO s'.heap/\RH W (aJ.th H') aO s'.heap/\ej (XW env) H ow s (aJ.th H') aO s'/\∀b,ei (aJ.th H') aO b->ei H' aO b:=by
 refine oaa (Hb ik R G) λa b c=>?_;exact⟨X.AK c,a,(ej.of G₁ R₁).aG b hs,c⟩
end
section
variable {L:Lv}{sc:Scope}{m:Nat}{c k c1:C}{sk:SK}{t:List String}
noncomputable def GN(f:gE L sc m)(c1 k:C)(t:List String)(ρ:Lo)(Q:Po)(aJ:Src)(H₁:Hp):Prop:=∃bw:Nat->Lo->Hp->Prop,bw 0 ρ (aJ.fz H₁)/\
 (∀i ρ' h' item,bw i ρ' h'->aJ.items[i]?=some item->aJ.stays h'/\∃fE,di h' ρ' t item fE/\
  f.wp c1 fE [] h' (It (bw (i+1)) (λρ3 h3=>f.wp k ρ3 [] (aJ.th h3) Q) (λv ρ3 h3=>Q (.ret v) ρ3 [] (aJ.th h3))))/\
 ∀ρ' h',bw aJ.items.length ρ' h'->aJ.stays h'/\f.wp k ρ' [] (aJ.th h') Q
noncomputable def FoQ(f:gE L sc m)(k:C)(Q:Po)(aJ:Src)(I:Lo->Hp->Prop)(fl:Flow)(ρ:Lo)(H:Hp):Prop:=match fl with
 | .next=>I ρ H
 | .brk=>f.wp k ρ [] (aJ.th H) Q
 | .ret v=>Q (.ret (aq v)) ρ [] (aJ.th H)
 | .cont=>False
theorem uu{f:gE L sc m}{tg:Expr}{xs:List Stmt}{ρ:Lo}{H:Hp}{ow:Nat->Option Nat}{s s₂:Shared}{Q:Po}{P:Flow->Shared->Prop}{wR:Value}(ok:vF sc t tg)(hb:dJ L sc m c1 .done xs)(a:At f ρ H ow s)(q:fR f.W f.A tg H ow s (GN f c1 k t ρ Q) wR s₂)
 (p:∀fl s',iz f H ow s k Q fl s'->P fl s'):∃(I:Nat->Shared->Prop) (n:Nat),I n s₂/\∀(E0:Value->Shared->Prop) k s',I k s'->wpAny f.W.M f.A (pyNext wR) (λr s₁=>r=none/\P .next s₁) E0 s'\/
  wpAny f.W.M f.A (pyNext wR) (λr s₁=>∃v,r=some v/\wpAny f.W.M f.A (letOwnedTupleGo tg wR v) (λ_ nZ=>wpAny f.W.M f.A (assign tg f.env v) (λ_ s₃=>wpAny f.W.M f.A (execs xs f.env) (WQ I k P) E0 s₃) E0 nZ) E0 s₁) E0 s':=by
 refine oeeeeeeaaaaaaaa q λI wr St aJ H₁ cF gU T hlen gC R₁ G₁ st rC hw=>?_;try clear q;subst gU;refine oeaa gC λbw i0 step fin=>?_;try clear gC
 have X₁:=a.X.go G₁;have Mj:∀b,wr b->f.W.base.get? b=none:=λb hb=>cC a.R.keep (hw b hb).1;have xw:∀b,Own f.env b->¬ wr b:=λb ho hb=>(a.X.off b ho).2.2 (hw b hb).1;refine⟨λk s'=>∃i ρ' H' aO,k=aJ.items.length+1 - i/\FH f.W f.env wr aJ St bw H₁ cF s₂ i ρ' H' aO s',aJ.items.length+1,
  ⟨0,ρ,aJ.fz H₁,cF,rfl,ZS _,i0,X₁.AK λb=>(xg rC b).mp,Hc rC R₁,ej.refl,st,λb hb q=>(hw b hb).2 ((xg rC b).mp q)⟩,?_⟩
 intro E₀ k' s' z_;refine oeeeea z_ λi ρ' H' aO nM x=>?_;subst nM;have out:=λ{ρ3:Lo} {H3:Hp} {Fb:Nat->Option Nat} {s3:Shared}=>FH.out (ρ':=ρ3) (H':=H3) (aO:=Fb) (s':=s3) (env:=f.env) rC G₁ R₁ λb hb=>(hw b hb).1
 cases hx:aJ.items[i]? with
 |none=>
  obtain rfl:i=aJ.items.length:=YQ x.le (YE.mp hx);refine oa (fin ρ' H' x.inv) λcI q=>?_;refine .inl (T.done s' H' aO (λs₁=>P .next s₁) E₀ x.st x.R cI x.wo λh' tk hk=>?_);refine oaaa (out x.X x.R x.G) λa1 a2 a3 a4=>?_;refine p _ _ ?_;exact⟨ρ',aJ.th H',aO,⟨a1.iH λb o ob e=>hk b o (xw b ob) e,a2.apart wr hk λb hb=>⟨λz=>x.wo b hb (a4 b z),Mj b hb⟩⟩,a3.off (tk:=tk) wr hk λb hb=>(hw b hb).1,q⟩
 |some item=>
  refine oaea (step i ρ' H' item x.inv hx) λcI fE bt w'=>?_;refine .inr (x.turn (B:=FoQ f k Q aJ (bw (i+1))) Mj xw f.hA.hd (f.hs.symm▸ok) T cI hx bt (λs3 X3 R3=>Zy (hb f fE H' aO s3 E₀ _ ⟨X3,R3⟩ w') (λfl s₄ z=>?_) λ_ _ e=>e) λfl s4 ρ4 H4 vq X4 R4 G4 SE Ss q=>?_)
  . refine oeeeaa z λρ4 H4 vq a4 G4 q=>?_;try clear z
    refine⟨ρ4,H4,vq,a4.X,a4.R,G4,?_⟩
    cases fl<;>exact q
  cases fl with
  |next=>exact⟨aJ.items.length+1 - (i+1),Nat.sub_lt_sub_left (Nat.lt_succ_of_le x.le) (YG i),i+1,ρ4,H4,vq,rfl,(ZN.mp hx).1,q,X4,R4,G4,SE,Ss⟩
  |brk=>refine oaaa (out X4 R4 G4) λa1 a2 a3 _=>?_;exact p _ _ ⟨ρ4,_,vq,⟨a1,a2⟩,a3,q⟩
  |ret v=>refine oaaa (out X4 R4 G4) λa1 a2 a3 _=>?_;exact p _ _ ⟨ρ4,_,vq,⟨a1,a2⟩,a3,q⟩
  |cont=>exact q.elim
theorem xG{f:gE L sc m}{ρ:Lo}{Q:Po}{Io:List V}{h:Hp}(w:f.wp (.for t sk c1 k) ρ Io h Q):∃aJ bG,SrcR sk Io h aJ bG/\(bG=[]->GN f c1 k t ρ Q aJ h):=
 oeeaeaa w λaJ bG hs bw i0 step fin=>⟨aJ,bG,hs,λe=>by subst e;exact⟨bw,i0,step,fin⟩⟩
theorem G9{tg iter:Expr}{xs:List Stmt}{p:Pos}(ok:vF sc t tg)(hi:kF L sc m sk t c (.for t sk c1 k) iter)(hb:dJ L sc m c1 .done xs):dU L sc m c k (.For tg iter xs [] p):=by
 intro f ρ H ow s E Q a w;exact Bc (hi.1 f.env) (Zy (hi.2 f tg ρ H ow s E [] Q (GN f c1 k t ρ Q) (AH ok) a (λ_ _ w=>xG w) w) (λv s₁ q=>Zy q (λwR s₂ q=>uu ok hb a q λ_ _ z=>z) λ_ _ e=>e) λ_ _ e=>e)
end
end
section
open PySem PySem.W PyProof.Rows PySem.Calls
noncomputable def envOf(sc:Scope):Env:={scope:=sc,locals:=0,globals:=0,cells:=[]}
theorem hM(ts:List Expr)(v:Expr)(n:Nat)(env:Env):swapsWithSole ts v n env=swapsWithSole ts v n (envOf env.scope):=by
 cases ts with
 |nil=>rfl
 |cons t r=>
  cases r with
  |nil=>cases v<;>first|rfl|(cases t<;>rfl)
  |cons=>rfl
theorem oZ(ts:List Expr)(v:Expr)(env:Env):swappedStores ts v env=swappedStores ts v (envOf env.scope):=rfl
theorem qZ:∀{xs ys:List String} {vs ws:List V} {ρ:Lo},xs.length=vs.length->binds ρ (xs++ys) (vs++ws)=binds (binds ρ xs vs) ys ws
 |[],_,[],_,_,_=>rfl
 |[],_,_::_,_,_,l=>by cases l
 |_::_,_,[],_,_,l=>by cases l
 |x::xs,_,v::vs,_,_,l=>qZ (xs:=xs) (XB l)
theorem qX:∀{xs:List String} {vs:List V} {ρ:Lo} {x:String} {v:V},x∉xs->binds (bc ρ x v) xs vs=bc (binds ρ xs vs) x v
 |[],[],_,_,_,_=>rfl
 |[],_::_,_,_,_,_=>rfl
 |_::_,[],_,_,_,_=>rfl
 |y::xs,w::vs,ρ,x,v,h=>by
  have hn:x≠y:=λe=>h (e▸Ze);show binds (bc (bc ρ x v) y w) xs vs=bc (binds (bc ρ y w) xs vs) x v;rw[<-qX λm=>h (Zh _ m)];refine congrArg (λr=>binds r xs vs) (funext λz=>?_);unfold bc
  by_cases h1:z=y
  . rw[if_pos h1,if_neg λe=>hn (e.symm.trans h1),if_pos h1]
  . rw[if_neg h1,if_neg h1]
theorem qY:∀{xs:List String} {vs:List V} {ρ:Lo},xs.Nodup->xs.length=vs.length->binds ρ xs.reverse vs.reverse=binds ρ xs vs
 |[],[],_,_,_=>rfl
 |[],_::_,_,_,l=>by cases l
 |_::_,[],_,_,l=>by cases l
 |x::xs,v::vs,ρ,nd,l=>by
  rw[ZD] at nd;have l':xs.length=vs.length:=XB l;rw[Xr,Xr,qZ (by rw[YS,YS,l']),qY nd.2 l'];exact(qX nd.1).symm
section
variable {L:Lv}{sc:Scope}{m:Nat}{c k c1 c2:C}{f:gE L sc m}{ρ:Lo}{H:Hp}{ow:Nat->Option Nat}{s s':Shared}{E:Value->Shared->Prop}{Q:Po}
theorem kq{ρ':Lo}(a:At f ρ H ow s)(b:Bound f.W (XW f.env) ρ' f.env H ow s s')(q:f.wp k ρ' [] H Q):iz f H ow s k Q .next s':=by
 refine oeeaaa b λh tk bU X R kp=>?_;try clear b;subst bU
 exact⟨ρ',H,ow,⟨X,R⟩,ej.bound kp (λb lF=>oe lF λn hb=>(a.X.off b hb.ai).1) λb lE=>oe lE λn hb=>(X.off b hb.ai).2.2,q⟩
theorem pU{tg:Expr}(h:notStar tg=true)(env:Env):(assignEach [tg] env).map (·.2)=[assign tg env]:=by
 cases tg<;>first|rfl|cases h
theorem rk{tg x:Expr}{p:Pos}(ik:notStar tg=true)(h1:swapsWithSole [tg] x p.line (envOf sc)=pure false)(h2:swappedStores [tg] x (envOf sc)=pure none)
 (K:∀(f:gE L sc m) (ρ:Lo) (Q:Po) (s:Shared) (H:Hp),Value->Prop)
 (he:∀(f:gE L sc m) (ρ:Lo) (H:Hp) (ow:Nat->Option Nat) (s:Shared) (E:Value->Shared->Prop) (Q:Po),At f ρ H ow s->f.wp c ρ [] H Q->wpAny f.W.M f.A (eval x f.env) (λv s1=>∃H1 bR,At f ρ H1 bR s1/\Go H ow s H1 bR s1/\K f ρ Q s1 H1 v) E s)
 (ht:∀(f:gE L sc m) (ρ:Lo) (H:Hp) (ow:Nat->Option Nat) (s:Shared) (E:Value->Shared->Prop) (Q:Po) (v:Value),At f ρ H ow s->K f ρ Q s H v->wpAny f.W.M f.A (assign tg f.env v) (λ_ s'=>iz f H ow s k Q .next s') E s):dU L sc m c k (.Assign [tg] x p):=by
 intro f ρ H ow s E Q a w;refine wpAny_Assign_stores (Zy (he f ρ H ow s E Q a w) (λv s₁ q=>?_) λ_ _ e=>e) (by rw[hM,f.hs];exact h1) (by rw[oZ,f.hs];exact h2);refine oeeaa q λH1 bR a1 G1 q=>?_;rw[pU ik];exact Zy (ht f ρ H1 bR s₁ E Q v a1 q) (λ_ s₂ q7=>oeeeaa q7 λρ2 H2 gD a2 G2 q=>⟨ρ2,H2,gD,a2,(a1.CZ G1).trans G2,q⟩) λ_ _ e=>e
theorem rj{x:Expr}(he:aZ L sc m c k x)(f:gE L sc m)(ρ:Lo)(H:Hp)(ow:Nat->Option Nat)(s:Shared)(E:Value->Shared->Prop)(Q:Po)(a:At f ρ H ow s)(w:f.wp c ρ [] H Q):wpAny f.W.M f.A (eval x f.env) (λv s1=>∃H1 bR,At f ρ H1 bR s1/\Go H ow s H1 bR s1/\f.wp k ρ [aq v] H1 Q) E s:=
 jO a (he.1 f ρ H ow s E [] Q a w) λv s1 H1 bR q a1 G1=>⟨H1,bR,a1,G1,q⟩
theorem Ha{n:String}{x:Expr}{p p':Pos}(ok:cz sc n=true)(h1:swapsWithSole [.Name (Str.ofString n) p'] x p.line (envOf sc)=pure false)(h2:swappedStores [.Name (Str.ofString n) p'] x (envOf sc)=pure none)(he:aZ L sc m c (.aX n k) x):dU L sc m c k (.Assign [.Name (Str.ofString n) p'] x p):=
 rk rfl h1 h2 _ (rj he) λf ρ H ow s E Q v a q=>hE a.X a.R (f.hs.symm▸ok) (X:=XW f.env) (λb hb=>⟨n,hb⟩) λs' b=>kq a b q
theorem Dn{n:String}{x o:Expr}{p p':Pos}(h1:swapsWithSole [.Attribute o (Str.ofString n) p'] x p.line (envOf sc)=pure false)(h2:swappedStores [.Attribute o (Str.ofString n) p'] x (envOf sc)=pure none)(he:aZ L sc m c c1 x)(ho:aZ L sc m c1 (.setA n k) o):dU L sc m c k (.Assign [.Attribute o (Str.ofString n) p'] x p):=
 rk rfl h1 h2 _ (rj he) λf ρ H ow s E Q v a q=>by
  show wpAny f.W.M f.A (do
   let ov<-holding [v] (eval o f.env)
   standAt p'.atName
   holding [v,ov] (setAttr ov (Str.ofString n) v)
   release [v,ov] []) _ _ _
  refine Zl (ZX (jO a (ho.1 f ρ H ow s E _ Q a q) λu s₁ H1 bR q a1 G1=>?_));refine oeea q λb ob g q=>?_;refine Zl (Z9 (Zl (ZX (Zy (yE (Q:=λh=>f.wp k ρ [] h Q) f.F.good a1.R g q) (λ_ s₂ p=>?_) λ_ _ e=>e))));refine oeeaa p λH2 gD q R2 G2=>?_;try clear p
  have a2:=a1.go G2 R2;exact wpAny_release ⟨ρ,H2,gD,a2,a2.CZ (G1.trans G2),q⟩
theorem Dm{x o i:Expr}{p p':Pos}(hi:fN i=true)(h1:swapsWithSole [.Subscript o i p'] x p.line (envOf sc)=pure false)(h2:swappedStores [.Subscript o i p'] x (envOf sc)=pure none)(he:aZ L sc m c c1 x)(ho:aZ L sc m c1 c2 o)(hk:aZ L sc m c2 (.dj k) i):dU L sc m c k (.Assign [.Subscript o i p'] x p):=
 rk rfl h1 h2 _ (rj he) λf ρ H ow s E Q v a q=>by
  rw[arm_assign_Subscript];refine Zl (ZX (jO a (ho.1 f ρ H ow s E _ Q a q) λu s₁ H1 bR q a1 G1=>?_));refine Zl (ZX (jO a1 (hk.1 f ρ H1 bR s₁ E _ Q a1 q) λj s₂ H2 gD q a2 G2=>?_));refine oeea q λb ob g q=>?_;refine Zl (Z9 (Zl (ZX (Zy (yD (Q:=λh=>f.wp k ρ [] h Q) a2.R g q) (λ_ s₃ p=>?_) λ_ _ e=>e))));refine oeeaa p λH3 Fb q R3 G3=>?_;try clear p
  have a3:=a2.go G3 R3;exact wpAny_release ⟨ρ,H3,Fb,a3,a3.CZ ((G1.trans G2).trans G3),q⟩
noncomputable def RO(ns:List String)(k:C)(f:gE L sc m)(ρ:Lo)(Q:Po)(s:Shared)(H:Hp)(v:Value):Prop:=∃a us,v= .ref a/\(s.heap.IsTuple a us\/s.heap.IsList a us)/\ns.length=us.size/\f.wp k (binds ρ ns (us.toList.map aq)) [] H Q
noncomputable def vQ(L:Lv)(sc:Scope)(m:Nat)(c k:C)(ns:List String)(x:Expr):Prop:=∀(f:gE L sc m) (ρ:Lo) (H:Hp) (ow:Nat->Option Nat) (s:Shared) (E:Value->Shared->Prop) (Q:Po),At f ρ H ow s->f.wp c ρ [] H Q->
 wpAny f.W.M f.A (eval x f.env) (λv s1=>∃H1 bR,At f ρ H1 bR s1/\Go H ow s H1 bR s1/\RO ns k f ρ Q s1 H1 v) E s
theorem GQ{ns:List String}{x:Expr}(he:aZ L sc m c (.zJ ns k) x):vQ L sc m c k ns x:=λf ρ H ow s E Q a w=>by
 refine Zy (rj he f ρ H ow s E Q a w) (λv s1 q=>?_) λ_ _ e=>e;refine oeeaaeaa q λH1 bR a1 G1 ρ' h2 b q=>?_;refine⟨H1,bR,a1,G1,?_⟩;rcases b with ⟨l,_⟩|⟨b,vs,e,_,l,hv,rfl⟩
 . rw[l] at h2;exact absurd h2 (by show ¬ 2<=1;decide)
 obtain rfl:=aN (Ys e).1;rcases hv with hv|hv
 . refine oeaa (a1.R.obj b _ hv) λus hT cu _=>?_;subst cu;exact⟨b,us,rfl,.inl hT,l.trans ((Za _).trans Zr),q⟩
 . refine oeaa (a1.R.obj b _ hv) λus hT cY _=>?_;subst cY;exact⟨b,us,rfl,.inr hT.isList,l.trans ((Za _).trans Zr),q⟩
theorem Di{ns:List String}{xs:List Expr}{n:Nat}{p:Pos}(l:xs.length=ns.length)(hl:xs.length<=100)(he:dL L sc m c (.ir ns k) xs):vQ L sc m c k ns (.Tuple xs n p):=λf ρ H ow s E Q a w=>by
 rw[arm_eval_Tuple];refine Zl (Z9 (Zl (Zy (he.2 f p ρ H ow s E [] Q a w) (λvs s₁ q=>?_) λ_ _ e=>e)));refine oeeaa q λH1 bR dT R1 G1=>?_;try clear q;refine oa dT λhlen q=>?_;try clear dT
 have q:=gY (hlen.trans l) q;rw[Za] at hlen;have hk:∀b o,s₁.heap.get? b=some o->(s₁.heap.push {cls:=.type "tuple",data:=.seq vs.toArray}).get? b=some o:=λb o e=>ZM _ e;refine oa (grown (tk:=s₁.toks) R1 G1 hk) λR2 G2=>?_;refine Xb ⟨H1,bR,⟨(a.X.go G1).iH λb o _ e=>hk b o e,R2⟩,G2,_,vs.toArray,rfl,.inl ⟨_,ZV _ rfl,rfl,0,rfl⟩,by rw[Xc,hlen,l],q⟩ ?_;show vs.toArray.size<=sizeLine;rw[Xc,hlen];exact Zf hl (Zf (by decide) dG)
theorem KC{ns:List String}{es:List Expr}{x:Expr}{n:Nat}{p p':Pos}(ok:zU sc ns es)(h1:swapsWithSole [.Tuple es n p'] x p.line (envOf sc)=pure false)(h2:swappedStores [.Tuple es n p'] x (envOf sc)=pure none)(he:vQ L sc m c k ns x):dU L sc m c k (.Assign [.Tuple es n p'] x p):=
 rk rfl h1 h2 (RO ns k) he λf ρ H ow s E Q v a q=>by
  obtain ⟨b,us,rfl,hT,l,q⟩:=q;exact oJ f.hA.hd a.X a.R (f.hs.symm▸ok) hT l (X:=XW f.env) (λn _ b hb=>⟨n,hb⟩) λs' b=>kq a b q
theorem Ds{W:dB}{A:Around}{env:Env}{X:Nat->Prop}:∀(ns:List String) (_:∀n∈ns,∀b,Wr env n b->X b) {vs:List Value} {ρ:Lo} {s:Shared} {Q:Unit->Shared->Prop},(∀n∈ns,cz env.scope n=true)->ns.length=vs.length->b7 W ρ env H ow s.heap->RH W H ow s.heap->
 (∀s',Bound W X (binds ρ ns (vs.map aq)) env H ow s s'->Q () s')->wpAny W.M A (assignInOrder (ns.map λn=>bindName env (Str.ofString n)) vs) Q E s:=by
 intro ns
 induction ns with
 |nil=>
  intro hX vs ρ s Q h hl x R q;obtain rfl:=XS.mp hl.symm;exact Zz (q s ⟨s.heap,s.toks,rfl,x,R,λ_ _ _ e=>e⟩)
 |cons n ns ih=>
  intro hX vs ρ s Q h hl x R q
  cases vs with
  |nil=>cases hl
  |cons v vs=>
   show wpAny W.M A (do holding vs (bindName env (Str.ofString n) v);assignInOrder (ns.map λn=>bindName env (Str.ofString n)) vs) Q E s;refine Zl (ZX (wpAny_bindName (mR x R (xe (h n Ze)) λh' tk a b c=>?_)));have bd:Bound W X (bc ρ n (aq v)) env H ow s {s with heap:=h',toks:=tk}:=⟨h',tk,rfl,a,b,λb o nb e=>c b o (λz=>nb (hX n Ze b z)) e⟩;exact ih (λn hn=>hX n (Zh _ hn)) (λn hn=>h n (Zh _ hn)) (XB hl) a b λgT b'=>q gT (bd.trans b')
theorem GY{ns:List String}{tg x:Expr}{p:Pos}(nd:ns.Nodup)(ok:∀n∈ns,cz sc n=true)(h1:swapsWithSole [tg] x p.line (envOf sc)=pure false)(h2:swappedStores [tg] x (envOf sc)=pure (some (ns.map Str.ofString)))(he:vQ L sc m c k ns x):dU L sc m c k (.Assign [tg] x p):=by
 intro f ρ H ow s E Q a w;rw[exec_Assign_arm];refine Zl (Z9 ?_);rw[hM,f.hs,h1];refine Zl (Zz ?_);rw[if_neg (by decide)];refine Zl (Zy (he f ρ H ow s E Q a w) (λv s₁ q=>?_) λ_ _ e=>e);obtain ⟨H1,bR,a1,G1,b,us,rfl,hT,l,q⟩:=q;rw[oZ,f.hs,h2];refine Zl (Zz ?_);show wpAny f.W.M f.A (do
  rule "assign.swapped-stores"
  let items<-unpackItems (.ref b) (ns.map Str.ofString).length none
  assignInOrder ((ns.map Str.ofString).reverse.map λn=>bindName f.env n) items.reverse
  pure Flow.next) _ E s₁
 rw[(Za _).trans l];have fin:∀h',Heap.ExtBut s₁.heap.objs.size s₁.heap h'->wpAny f.W.M f.A (do
  assignInOrder ((ns.map Str.ofString).reverse.map λn=>bindName f.env n) us.toList.reverse
  pure Flow.next) (iz f H ow s k Q) E {s₁ with heap:=h'}:=λh' he=>by
  refine oaa (pd a1.X a1.R he) λx' R' hk=>?_;rw[show (ns.map Str.ofString).reverse.map (λn=>bindName f.env n)=ns.reverse.map λn=>bindName f.env (Str.ofString n) by rw[<-Wn,Zt];rfl];refine Zl (Ds (s:={s₁ with heap:=h'}) (X:=XW f.env) ns.reverse (λn _ b hb=>⟨n,hb⟩) (λn hn=>f.hs.symm▸ok n (W0.mp hn)) (by rw[YS,YS,Zr];exact l) x' R' λs' bd=>Zz ?_);rw[Wn,qY nd (l.trans ((Za _).trans Zr).symm)] at bd;have bd2:Bound f.W (XW f.env) (binds ρ ns (us.toList.map aq)) f.env H1 bR s₁ s':=by
   refine oeeaaa bd λh2 tk kB x2 R2 k2=>?_;try clear bd;subst kB
   exact⟨h2,tk,rfl,x2,R2,λb o nb e=>k2 b o nb (hk b o e)⟩
  refine oeeeaa (kq a1 bd2 q) λρ2 H2 gD a2 G2 q=>?_;exact⟨ρ2,H2,gD,a2,(a1.CZ G1).trans G2,q⟩
 refine Zl (wpAny_rule ?_);rcases hT with hT|hT
 . exact Zl (W6 f.hA.hd hT fin)
 . exact Zl (gQ f.hA.hd hT fin)
theorem GX{n:String}{t:List String}{x tg iter:Expr}{ifs:List Expr}{bX:Scope}{pos p p':Pos}(o:kg L sc m c (.aX n k) t tg iter x ifs bX)(hn:cz sc n=true)(h1:swapsWithSole [.Name (Str.ofString n) p'] (.ListComp x [⟨tg,iter,ifs,0⟩] bX pos) p.line (envOf sc)=pure true):
 dU L sc m c k (.Assign [.Name (Str.ofString n) p'] (.ListComp x [⟨tg,iter,ifs,0⟩] bX pos) p):=by
 intro f ρ H ow s E Q a w;obtain ⟨W,γ,F,A,env,hs,hA⟩:=f;subst hs;refine oaea (xJ (E:=E) o _ a w) λg1 Qs w1 g2=>?_;rw[exec_Assign_arm];refine Zl (Z9 ?_);rw[hM,h1];refine Zl (Zz ?_);rw[if_pos rfl];refine Zl ?_;show wpAny W.M A (do
  let _<-comprehension (.ListComp x [⟨tg,iter,ifs,0⟩] bX pos) bX env (firstIterPos [⟨tg,iter,ifs,0⟩] pos) (newList []) false (eval iter env) (some λv=>assign (.Name (Str.ofString n) p') env v)) _ _ _
 refine Zl (Zy (xn (t:=t) (use:=some _) (QQ:=λ_ s'=>iz ⟨W,γ,F,A,env,rfl,hA⟩ H ow s k Q .next s') hA.hd a.R a.X o.oi o.ok o.al (g1 env) w1 λaJ H₁ qs=>?_) (λ_ s' q=>Zz (Zz q)) λ_ _ e=>e);refine oaeaa (g2 aJ H₁ qs) λhp bw i0 body fin=>?_;refine⟨hp,bw,i0,body,λvs H' i=>(fin vs H' i).1,?_⟩;intro s' H' aO vs D C items inv R' G' CY zP pW CX En Eo Jn IF hm;have hN:=AR CX;have R2:RH W (bc H' D (.list vs)) aO s'.heap:=R'.adopt CX (cC a.R.keep En) ⟨items,CY,zP,by rw[<-zP];exact EJ pW⟩;have G2:Go H ow s (bc H' D (.list vs)) aO s':=G'.adopt hN En;have q:=(fin vs H' inv).2 D hN;have X2:=a.X.go G2;have Pu:¬ ei (bc H' D (.list vs)) aO C:=λz=>(gb z).elim Jn IF;have JK:∀b,Own env b->b≠C:=λb ob e=>(a.X.off b ob).2.2 (e▸Eo);refine hE X2 R2 hn (X:=XW env) (λb hb=>⟨n,hb⟩) λgT bd=>?_;refine oeeaaa bd λh3 IS jV X3 R3 k3=>?_;try clear bd;subst jV
 refine oe hm λmm hm=>?_;have nC:¬ XW env C:=λxP=>oe xP λk hk=>JK C hk.ai rfl;refine⟨mm,hm.at' λo e=>k3 C o nC e,λh4 Nu=>?_⟩;have k4:∀b o,¬ (b=C)->h3.get? b=some o->h4.get? b=some o:=λb o nb e=>(Nu.2 b nb).trans e;have G3:=(ej.of (X:=XW env) G2 R2).trans (ej.bound (tk:=IS) k3 (λb xO=>oe xO λk hk=>(X2.off b hk.ai).1) λb IR=>oe IR λk hk=>(X3.off b hk.ai).2.2);exact⟨_,_,aO,⟨X3.iH λb o ob e=>k4 b o (JK b ob) e,R3.apart (· =C) k4 λb hb=>by subst hb;exact⟨Pu,cC a.R.keep Eo⟩⟩,G3.off (tk:=IS) (· =C) k4 λb hb=>hb▸Eo,q⟩
end
end
section
open PySem PySem.W PyProof.Rows PySem.Calls
theorem rN:Slot "method_descriptor" "__get__" "method_descriptor.__get__":=
 .of (owner:="method_descriptor") (n:="__get__") (by rw[Vn,Wk];kernel_rfl) (by decide+kernel) (by decide+kernel) (by decide+kernel)
  (by first|exact .inl (by decide+kernel)|exact .inr (by decide+kernel)) (by rw[Vz];kernel_rfl)
theorem Cp:entryFor table "method_descriptor.__get__"=some Builtin.«method_descriptor.__get__»:=entryFor_of_tree (by kernel_rfl)
theorem Ed(a b c:Value):argsOk "method_descriptor.__get__" ⟨[a,b,c],[]⟩:=by unfold argsOk;kernel_rfl
theorem sub_dict_dict:isSubtype (.type "dict") (.type "dict")=pure true:=by rw[Vz];kernel_rfl
theorem LX:Manifest.toldItsClass.contains "dict.get"=false:=by decide+kernel
theorem Ho:typeLookup (.type "method_descriptor") "__set__"=pure none:=by rw[Vn,Wk];kernel_rfl
theorem yX:typeLookup (.type "method_descriptor") "__delete__"=pure none:=by rw[Vn,Wk];kernel_rfl
noncomputable def dz(d:Addr):Obj:={cls:=.type "builtin_function_or_method",data:=.fields #[.builtin "dict.get",.ref d]}
section
variable {prog:Program}{w:World}{A:Around}{E:Value->Shared->Prop}{s:Shared}{d:Addr}
theorem Hq{R:Result->Shared->Prop}(hT:s.TypeIs (.ref d) "dict")
 (h:R (.ok (.ret (.ref s.heap.objs.size))) {s with heap:=s.heap.push (dz d)}):codeAny (model prog w) A (.call (.builtin "method_descriptor.__get__") ⟨[.builtin "dict.get",.ref d,.type "dict"],[]⟩) R s:=by
 obtain ⟨hh,g,dr,t,os⟩:=s;have f1:=Vk;have f2:=sub_dict_dict;refine VA rN.plain Cp (rN.check _ _ _ _ _ _ _ _ f1 (Ed _ _ _) ?_);have f3: ".".intercalate ("dict.get".cutAt '.').dropLast="dict":=by decide+kernel
 refine oea hT λo ho hc=>?_;try clear hT
 repeat k_node
 rw[f3];refine Zl ?_;refine Zl ?_;refine Zl ?_;refine Zl ?_;refine Zz ?_;refine Zz ?_;rw[hc,f2];refine Zz ?_;refine Zz ?_
 repeat lk
 exact h
theorem Ch{E:Value->Shared->Prop}{o:Obj}{es:Array DictEntry}{k:Nat}{Q:Builtin.ObjectAttr.Found->Shared->Prop}(hx:s.heap.get? d=some o)(ig:o.data= .dict es k)(hc:o.cls= .type "dict")(hd:o.dict=none)
 (h:Q (.bind (.builtin "method_descriptor.__get__") (.builtin "dict.get")) s):wpAny (model prog w) A (Builtin.ObjectAttr.find (.ref d) (.type "dict") "get") Q E s:=by
 obtain ⟨hp,g,dd,tk,os⟩:=s;have hT:∀Im,(⟨hp,g,dd,Im,os⟩:Shared).TypeIs (.ref d) "dict":=λ_=>⟨_,hx,hc⟩;have f6:=Vk;have f7:=rN.lookup;have f9:=Ho;have Fv:=yX;have f8:=WE.lookup;obtain ⟨c,MI,dat,sl⟩:=o;simp only at hc hd ig;subst hc hd ig;unfold Builtin.ObjectAttr.find
 repeat (any_goals (first|assumption|exact hT _|wp_step))
theorem Hy{E:Value->Shared->Prop}{o:Obj}{es:Array DictEntry}{k:Nat}{t:Tok}{P:PySem.Fin->Shared->Prop}(hx:s.heap.get? d=some o)(ig:o.data= .dict es k)(hc:o.cls= .type "dict")(hd:o.dict=none)
 (h:P (.done (.ret (.ref s.heap.objs.size))) {s with heap:=s.heap.push (dz d)}):wpAny (model prog w) A (Builtin.«object.__getattribute__» ⟨[.ref d,.str "get" t],[]⟩) P E s:=by
 have hT:s.TypeIs (.ref d) "dict":=⟨_,hx,hc⟩;have key:wpAny (model prog w) A (Builtin.ObjectAttr.bindTo (.builtin "method_descriptor.__get__") (.builtin "dict.get") (.ref d) (.type "dict")) P E s:=
  Zl (ZX (Vg (Hq hT (Zz h))))
 obtain ⟨hp,g,dd,tk,os⟩:=s;have hcl:=hc;obtain ⟨c,MI,dat,sl⟩:=o;simp only at hc hd ig;subst hc hd ig;unfold Builtin.«object.__getattribute__»;refine Zl (Zz ?_);refine Zl (Zz ?_);refine Zl (m:=typeOf _) (Zl (Vu hx (Zz ?_)));exact Zl (Ch hx rfl rfl rfl key)
end
section
variable {prog:Program}{w:World}{A:Around}{s:Shared}{d:Addr}
set_option maxRecDepth 8000 in
theorem uY{E:Value->Shared->Prop}{o:Obj}{es:Array DictEntry}{k:Nat}{Q:Value->Shared->Prop}(hx:s.heap.get? d=some o)(hc:o.cls= .type "dict")(ig:o.data= .dict es k)(hd:o.dict=none)
 (h:∀tk,Q (.ref s.heap.objs.size) {s with heap:=s.heap.push (dz d),toks:=tk}):
 wpAny (model prog w) A (getAttr (.ref d) "get" true) Q E s:=by
 obtain ⟨c,MI,dat,sl⟩:=o;simp only at hc ig hd;subst hc ig hd;obtain ⟨hp,g,dd,tk,os⟩:=s;have hT:∀Im,(⟨hp,g,dd,Im,os⟩:Shared).TypeIs (.ref d) "dict":=λ_=>⟨_,hx,rfl⟩;have f3:=Xg.lookup;have f4:=Xg.bind (.ref d);have f5:=am_dict_getattr_none;unfold getAttr getAttrBy
 repeat (any_goals (first|assumption|exact hT _|wp_step))
 refine VA Xg.plain am_entry_dict_getattribute (Xg.check _ _ _ _ _ _ _ _ (hT _) (F.args_dict_getattribute_2 _ _) ?_);refine Hy (o:=⟨_,_,_,_⟩) hx rfl rfl rfl ?_;exact Zz (h _)
end
section
variable {prog:Program}{w:World}{A:Around}{s:Shared}{d:Addr}
theorem Ca:builtinKind "dict.get"=some .method:=by decide+kernel
theorem GO:Manifest.varargsMethods.contains "dict.get"=false:=by decide+kernel
theorem nE:isSubtype (.type "dict") (.type "module")=pure false:=by rw[Vz];kernel_rfl
theorem pS(v:Value):Bind.checkArgs "dict.get" {machinery:=Manifest.Machinery.positional,full:=toString (Bind.lastOf "dict")++toString "."++toString (Bind.lastOf "dict.get"),short:="get",receiver:=Manifest.Receiver.self,params:=[{name:="key",kind:=Manifest.ParamKind.posOnly,required:=true},{name:="default",kind:=Manifest.ParamKind.posOnly,required:=false}]} {pos:=[Value.ref d,v]}=pure ():=by kernel_rfl
theorem zx{E:Value->Shared->Prop}{v:Value}{o:Obj}{es:Array DictEntry}{k:Nat}{Q:Unit->Shared->Prop}(hx:s.heap.get? d=some o)(hc:o.cls= .type "dict")(ig:o.data= .dict es k)(h:Q () s):wpAny (model prog w) A (checkBoundCall "dict.get" ⟨[.ref d,v],[]⟩) Q E s:=by
 have f1:=Ca;have f2:=GO;have f3:=nE;have f4:=pS (d:=d) v;obtain ⟨c,MI,dat,sl⟩:=o;simp only at hc ig;subst hc ig;unfold checkBoundCall
 repeat (any_goals (first|assumption|wp_step))
 all_goals (show wpAny _ _ (Bind.checkArgs "dict.get" _ _) _ _ _)
 all_goals (rw[f4];exact Zz h)
theorem AZ{α:Type}{M:Model}{A:Around}{E:Value->Shared->Prop}{s:Shared}{c:Bool}{a b:Sem α}{Q:α->Shared->Prop}(hc:c=true)(h:wpAny M A a Q E s):wpAny M A (if c=true then a else b) Q E s:=by
 subst hc;exact h
theorem Cu{K:Type}[DecidableEq K]{knd:KeyKind prog w K}{E:Value->Shared->Prop}{q:Addr}{v:Value}{k:K}{o:Obj}{es:Array DictEntry}{n:Nat}{f:K->Option Value}{Q:Value->Shared->Prop}(hq:s.heap.get? q=some (dz d))
 (hx:s.heap.get? d=some o) (hc:o.cls= .type "dict") (ig:o.data= .dict es n) (hm:s.heap.MapOf knd d f) (Pq:knd.is k v=true) (hd:(d==sysModules)=false)
 (h:Q ((f k).getD .none) {s with toks:=s.toks+1}):wpAny (model prog w) A (call (.ref q) [v]) Q E s:=by
 refine Vg (codeAny_of_tree ?_);show wpAny _ A.in1 (callAny (.ref q) ⟨[v],[]⟩) _ _ s;refine Zl (wpAny_load hq ?_);refine AZ rfl ?_;refine AZ rfl ?_;refine Zl (zx hx hc ig ?_);refine Zl (Zz (Zz ?_));refine⟨Code.quiet_builtin _ (by decide+kernel),?_⟩;show codeAny _ A (.builtin "dict.get" ⟨[.ref d,v],[]⟩) _ _;refine Vl F.entry_dict_get ?_;rw[Wz WE.plain];exact meets_dict_get knd d Pq hd A (λr s'=>match r with| .ok (.ret v)=>Q v s'| .ok _=>False| .error e=>E e s') s ⟨f,hm,h⟩
end
theorem rZ{ps:List (Int×Value)}{kz:List Int}{vs:List Value}(hl:kz.length=vs.length)(hp:ps.Perm (kz.zip vs))(ho:ps.Pairwise λp q=>p.1<=q.1)(hk:kz.Pairwise (· < ·)):ps=kz.zip vs:=by
 have hz:(kz.zip vs).map Prod.fst=kz:=Um (by exact(aj 0x111101311015120) _ _ hl);have hs:(kz.zip vs).Pairwise λp q=>p.1<q.1:=by
  have:=hk;rw[<-hz,YO] at this;exact this
 have nd:∀p∈kz.zip vs,∀q∈kz.zip vs,p.1=q.1->p=q:=by
  intro p hp q hq e;obtain ⟨i,hi,rfl⟩:=YL.mp hp;obtain ⟨j,hj,rfl⟩:=YL.mp hq;rcases Nat.lt_trichotomy i j with h|h|h
  . have:=XD.mp hs i j hi hj h;exact False.elim ((aj 0x110b1101111012202) ((kz.zip vs)[i].fst) ((kz.zip vs)[j].fst) e this)
  . subst h;rfl
  . have:=XD.mp hs j i hj hi h;exact False.elim ((aj 0x101b0111111012202) ((kz.zip vs)[i].fst) ((kz.zip vs)[j].fst) e this)
 refine WW (le:=λp q=>p.1<=q.1) (λp q h1 h2 h3 h4=>nd p (hp.mem_iff.mp h1) q h2 (ZA h3 h4)) ho (hs.imp λh=>Xz h) hp
noncomputable def rF:Heap:={objs:= #[]}
theorem kk(b:Nat):rF.get? b=none:=by cases e:rF.get? b with
 |none=>rfl
 |some o=>exact absurd (Yi e) (Uo _)
noncomputable def jo(h:Heap)(L a:Nat):List (Addr×Obj):=(List.range h.objs.size).filterMap λb=>if b=L\/b=a then none else(h.get? b).map λo=>(b,o)
theorem eU{h:Heap}{L a:Nat}{p:Addr×Obj}:p∈jo h L a↔p.1≠L/\p.1≠a/\h.get? p.1=some p.2:=by
 unfold jo;rw[List.mem_filterMap];constructor
 . intro z_;refine oea z_ λb hb e=>?_;split at e
   . cases e
   . rename_i hn;rw[Z7] at e;refine oea e λo e1 bU=>?_;try clear e;subst bU
     exact⟨λz=>hn (.inl z),λz=>hn (.inr z),e1⟩
 . intro z_;refine oaa z_ λh1 h2 h3=>?_;refine⟨p.1,Xs.mpr (Yi h3),?_⟩;rw[if_neg (by rintro (z|z)<;>contradiction),h3]
   rfl
section
variable {W:dB}{A:Around}{E:Value->Shared->Prop}{s:Shared}
theorem yC{L a q d n:Nat}{m:Str->Option Value}{ka:List (Int×Value)}{vs:List Value}{kz:List Int}{P:PySem.Fin->Shared->Prop}(hL:s.heap.Ns L m)(ho:s.heap.get? a=some (seqObj "list" vs.toArray n))(W_:a≠L)
 (hq:s.heap.get? q=some (dz d)) (UK:q≠L) (UJ:q≠a) (hd:s.heap.DictOf W.kd d ka) (U9:d≠L) (U8:d≠a) (My:(d==sysModules)=false) (hlen:kz.length=vs.length) (zD:vs.length<64) (UW:kz.Pairwise (· < ·))
 (hv:∀(i:Nat) (v:Value) (k:Int),vs[i]?=some v->kz[i]?=some k->∃x t,W.kd.is x v=true/\valueAt ka x=some (.int k t))
 (h:∀h' tk c,h'.Ns L m->(∀b o,b≠L->b≠a->s.heap.get? b=some o->h'.get? b=some o)->h'.get? a=some (seqObj "list" vs.toArray c)->P (.done (.ret .none)) {s with heap:=h',toks:=tk}):
 wpAny W.M A (ksk_tree a (.ref q) false) P E s:=by
 have N:News rF L s.heap (jo s.heap L a):=λp hp=>by
  refine oaa (eU.mp hp) λh1 h2 h3=>?_;exact⟨h3,h1,kk _⟩
 refine oeeeaaa hd λod es ep Nw CV Fp Lf=>?_;try clear hd
 have mq:(q,dz d)∈jo s.heap L a:=eU.mpr ⟨UK,UJ,hq⟩;have md:(d,od)∈jo s.heap L a:=eU.mpr ⟨U9,U8,Nw⟩;refine ksk_sort (h₀:=rF) (L:=L) (m:=m) (news:=jo s.heap L a) (kz:=kz) (vs:=vs) ⟨hL,λb o e=>(by rw[kk] at e;cases e),ZS _⟩ N ho W_ (kk _) (λp hp=>(eU.mp hp).2.1) hlen zD (λi v k hi hk h' tk ai F' N'=>?_) (λh' tk out c F' N' ko=>?_)
 . have nq:=(N' _ (Zd ai mq)).1;have nd:=(N' _ (Zd ai md)).1;have qz:h'.DictOf W.kd d ka:=⟨od,es,ep,nd,CV,Fp,Lf⟩;refine oeea (hv i v k hi hk) λx t hx T6=>?_;refine Cu (knd:=W.kd) (k:=x) (f:=valueAt ka) (s:={s with heap:=h',toks:=tk}) nq nd CV.1 Fp qz.mapOf hx My ?_;rw[T6];exact⟨h',tk+1,t,rfl,rfl,F',N'⟩
 . refine oeaa ko λps hp Pl Pn=>?_;try clear ko
   have I9:=rZ hlen hp (Pn.imp λz=>by simpa using z) UW;have i_:out.toList=vs:=by rw[Pl,I9];exact List.map_snd_zip (by exact(aj 0x1010111311015120) _ _ hlen)
   have ea:out=vs.toArray:=by rw[<-i_]
   subst ea;refine h h' tk c F'.ns (λb o h1 h2 h3=>(N' (b,o) (Zh _ (eU.mpr ⟨h1,h2,h3⟩))).1) (N' _ Ze).1
end
section
variable {W:dB}{A:Around}{E:Value->Shared->Prop}{s:Shared}{H:Hp}{ow:Nat->Option Nat}{L:Lv}{γ:String->Option V}
theorem b7.swap{ρ:Lo}{env:Env}{h h':Heap}{m:Str->Option Value}(x:b7 W ρ env H ow h)(n:h'.Ns env.locals m)(mq:∀x v,ρ x=some v->x≠ ".0"->env.kindOf (Str.ofString x)=some .local->∃v',m (Str.ofString x)=some v'/\aq v'=v)
 (hk:∀b o,b≠env.locals->h.get? b=some o->h'.get? b=some o):b7 W ρ env H ow h' where
 fn:=x.fn
 gl:=x.gl
 bi:=x.bi
 ns:=⟨m,n,mq⟩
 cell:=λy v e k=>let ⟨c,v',a,⟨o,b,d⟩,r⟩:=x.cell y v e k;⟨c,v',a,⟨o,hk _ o (x.apart _ _ a) b,d⟩,r⟩
 cells:=λn k=>let ⟨c,v,a,⟨o,b,d⟩⟩:=x.cells n k;⟨c,v,a,⟨o,hk _ o (x.apart _ _ a) b,d⟩⟩
 apart:=x.apart
 apart2:=x.apart2
 off:=λb o=>oaa (x.off b o) λp q r=>⟨p,q,by
  by_cases e:b=env.locals
  . rw[e];exact rv n
  cases z:h.get? b with
  |none=>exact absurd z r
  |some ob=>rw[hk b ob e z];exact λz=>by cases z⟩
theorem wh{ρ:Lo}{env:Env}(X:b7 W ρ env H ow s.heap)(F:Full W L γ)(hh:A.handled=none)(R:RH W H ow s.heap){a q:Nat}{es:List (Int×V)}{ns:List Int}{Q:V->Hp->Prop}(hq:s.heap.get? q=some (dz a))(UI:q≠env.locals)(ha:H a=some (.dict es))(Q1:es.map (·.2)=ns.map V.int)
 (Ja:ns.Pairwise (· < ·)) (zD:ns.length<64) (q':∀c,H c=none->Q (.ref c) (bc H c (.list (es.map λp=>.int p.1)))):
 wpAny W.M A (call (.builtin "sorted") [.ref a] [(Str.ofString "key",.ref q)]) (λv s'=>∃H' aO,Q (aq v) H'/\RH W H' aO s'.heap/\b7 W ρ env H' aO s'.heap/\ej (· =env.locals) H ow s H' aO s') E s:=by
 refine oeaa (R.obj a _ ha) λka hd cu _=>?_;subst cu;refine oe hd.dictAt λep Fs=>?_;have Fk:ka.length=ns.length:=by simpa using congrArg List.length Q1
 have hlen:ka.length<64:=by exact(aj 0x111004061140111500406014220) _ _ zD Fk
 have My:=cM R (.inl ha) F.sm;have hb:(ka.map λp=>V.int p.1).length<=big:=by rw[Za];unfold big;exact(aj 0x111000f424081130111500406014220) _ _ zD Fk
 refine call_function_entry_kw kind_sorted plain_sorted entry_sorted (ksk_s1 _ _) ?_;unfold Builtin.«sorted»;refine Zl (m:=checkCount "sorted" 1 1 _) (Zz ?_);refine Zl (kdu_collect (A:=A.in1) (kdl_dict (knd:=W.kd) (kvs:=ka) (ep:=ep) My) hh Fs (by rw[Wx];exact(aj 0x1110100000081130111500406014220) _ _ zD Fk) λh' tk acc hk tI=>?_);have hl:acc.toList.length=ka.length:=by rw[Zr];exact tI.1
 refine Zl (wpAny_newList ?_ (by rw[hl,Wx];exact(aj 0x1110100000081130111500406014220) _ _ zD Fk));have Iy:(h'.push (seqObj "list" acc.toList.toArray 0)).get? h'.objs.size=some (seqObj "list" acc.toList.toArray 0):=ZV _ rfl;have live:∀b,s.heap.get? b≠none->b≠h'.objs.size:=λb l e=>by
  subst e
  cases z:s.heap.get? h'.objs.size with
  |none=>exact l z
  |some p=>exact absurd (Yi (hk _ _ z)) (Ws _)
 have Ar:∀b o,s.heap.get? b=some o->(h'.push (seqObj "list" acc.toList.toArray 0)).get? b=some o:=λb o e=>by
  rw[Ub _ _ _ (live b (by rw[e];exact λz=>by cases z))];exact hk b o e
 refine oea X.ns λm n mq=>?_;have xo:=X.off env.locals (.inl rfl);have UN:a≠env.locals:=λe=>xo.1 (e▸eX ha);have QT:h'.objs.size≠env.locals:=(live _ xo.2.2).symm;have hv:∀(i:Nat) (v:Value) (k:Int),acc.toList[i]?=some v->ns[i]?=some k->∃x t,W.kd.is x v=true/\valueAt ka x=some (.int k t):=λi v k h1 h2=>by
  refine oeea (tI.2 i v (by rw[<-Wi];exact h1)) λx u hx T0=>?_;have hu:aq u= .int k:=by
   have:=congrArg (·[i]?) Q1;simp only[ZQ,hx,h2,Uv,Option.some.injEq] at this;exact this
  refine oe (bJ hu) λt cY=>?_;subst cY;exact⟨x,t,T0,iT (fk hd) hx⟩
 have Li:acc.toList.map aq=ka.map λp=>V.int p.1:=(ug hl λi v e=>tI.2 i v (eB e)).trans (Zt ..);refine Zl (ZX (wpAny_call_entry_kw slot_list_sort ⟨_,Iy,rfl⟩ entry_list_sort (kw:=[(Str.ofString "key",.ref q)]) ?body (ksk_l1 _ _)))
 case body=>
  show wpAny W.M A.in1.in1 (Builtin.«list.sort» ⟨[.ref h'.objs.size],[(Str.ofString "key",.ref q)]⟩) _ _ _;rw[ksk_t1];refine yC (s:={s with heap:=h'.push (seqObj "list" acc.toList.toArray 0),toks:=tk}) ((n.keeps hk).keeps (λb o e=>ZM _ e)) Iy QT (Ar _ _ hq) UI (live q (by rw[hq];exact λz=>by cases z)) (hd.keep Ar) UN (live a (R.live ha)) My (by exact YQ ((aj 0x10101211130121511015230) _ _ _ Fk hl) ((aj 0x1011112130121511015230) _ _ _ Fk hl)) (by exact(aj 0x1011100406214112150111500406014330) _ _ _ zD Fk hl) Ja hv
   λh2 Il c kN k1 k2=>?_
  have k1:∀b o,b≠env.locals->s.heap.get? b=some o->h2.get? b=some o:=λb o e1 e2=>k1 b o e1 (live b (by rw[e2];exact λz=>by cases z)) (Ar _ _ e2);refine⟨_,rfl,Zz ⟨_,rfl,?_⟩⟩;refine oeeea kN λoL gk ep' g1 g2=>?_;try clear kN
  have hm:(s.heap.update env.locals λ_=>oL).get? env.locals=some oL:=by
   cases z:s.heap.get? env.locals with
   |none=>exact absurd z xo.2.2
   |some o=>exact Xp _ z (Heap.get?_some_iff.mp g1).2
  have km:∀b o,b≠env.locals->s.heap.get? b=some o->(s.heap.update env.locals λ_=>oL).get? b=some o:=λb o e z=>(Wg s.heap _ (Yq e)).trans z;have X1:=X.swap (h':=s.heap.update env.locals λ_=>oL) ⟨oL,gk,ep',hm,g2⟩ mq km;have G1:ej (· =env.locals) H ow s H ow {s with heap:=s.heap.update env.locals λ_=>oL,toks:=s.toks}:=ej.bound km (λb e=>e▸xo.1) λb e=>by rw[e,hm];exact λz=>by cases z
  have R1:RH W H ow (s.heap.update env.locals λ_=>oL):=R.apart (· =env.locals) km λb e=>e▸⟨xo.1,xo.2.1⟩;have P:=eD (s:={s with heap:=s.heap.update env.locals λ_=>oL,toks:=s.toks}) (tk:=Il) (Q:=Q) R1 (h':=h2) (λb o e=>?_) (a:=h'.objs.size) ?_ (o:=.list (ka.map λp=>.int p.1)) ⟨acc.toList.toArray,⟨c,k2⟩,by simpa using Li,hb⟩ ?_
  . refine oeeaa P λH' aO p1 p2 p3=>?_;try clear P
    exact⟨H',aO,p1,p2,X1.go p3,G1.trans (ej.of p3 p2)⟩
  . by_cases eb:b=env.locals
    . rw[eb] at e ⊢;rw[hm] at e;exact e▸g1
    . exact k1 b o eb ((Wg s.heap _ (Yq eb)).symm.trans e)
  . show (s.heap.update env.locals λ_=>oL).get? h'.objs.size=none;rw[Wg s.heap _ (Yq QT)]
    cases z:s.heap.get? h'.objs.size with
    |none=>rfl
    |some p=>exact absurd (Yi (hk _ _ z)) (Ws _)
  . intro c hc;have:=q' c hc
    simpa [Function.comp_def] using this
end
section
variable {L:Lv}{sc:Scope}{m:Nat}{c k c1:C}
theorem Lr{v w:Expr}{k2:C}{p pos q kp:Pos}(hg:aR sc "sorted"=true)(ik:notStar v=true)(Ja:cp w=true)(he:aZ L sc m c c1 v)(hd:aZ L sc m c1 (.b .sortedBy k2) w)
 {f:gE L sc m} {ρ:Lo} {H:Hp} {ow:Nat->Option Nat} {s:Shared} {E:Value->Shared->Prop} {Q:Po} {P:Value->Shared->Prop} (a:At f ρ H ow s) (wp:f.wp c ρ [] H Q)
 (fin:∀v s' H' aO,f.wp k2 ρ [aq v] H' Q->At f ρ H' aO s'->ej (· =f.env.locals) H ow s H' aO s'->P v s'):
 wpAny f.W.M f.A (eval (.Call (.Name (Str.ofString "sorted") p) [v] [⟨some (Str.ofString "key"),.Attribute w (Str.ofString "get") q,kp⟩] pos) f.env) P E s:=by
 rw[ck];refine Zl (vO a hg (v:=.builtin "sorted") (.tail _ (.tail _ (.head _))) ?_);rw[cj ik,i5];refine callWith_builtin_kwB rfl rfl (evalArgs_kwB rfl (Xf (jO a (he.1 f ρ H ow s E [] Q a wp) λu s₁ H1 bR q1 a1 G1=>XT ?_)));refine PyProof.Rows.kws_cons ?_;rw[arm_eval_Attribute,dv Ja];refine Zl (jO a1 (hd.1 f ρ H1 bR s₁ E _ Q a1 q1) λu' s₂ H2 gD q2 a2 G2=>?_);obtain ⟨_,⟨d,es,ns,e1,e2,e3,e4,e5,e6,rfl⟩,q2⟩:=q2;have e7:=aN (e2.trans e1);have e1:=aN e1;subst e1 e7;refine oeaa (a2.R.obj d _ e3) λka Fp _ _=>?_;refine oeeeaaa Fp λod gk ep Nw CV ig _=>?_;try clear Fp
 refine Zl (Z9 (Zl (ZX (uY Nw CV.1 ig CV.2.1 λtk=>?_))));refine Zl (Wy (Zz ?_));refine PyProof.Rows.evalAll_nil ?_;have kp:∀b' o,s₂.heap.get? b'=some o->(s₂.heap.push (dz d)).get? b'=some o:=λb' o e=>ZM (dz d) e;refine oa (grown (tk:=tk) a2.R (G1.trans G2) kp) λR3 G3=>?_;have X3:b7 f.W ρ f.env H2 gD (s₂.heap.push (dz d)):=a2.X.iH λb' o _ e=>kp b' o e;refine Zy (wh (Q:=λw h=>f.wp k2 ρ [w] h Q) X3 f.F f.hA.hd R3 (ZV _ rfl) (λe=>(a2.X.off _ (.inl rfl)).2.2 (e▸bT (Zs _))) e3 e4 e5 e6 q2) (λlst s3 z=>?_) λ_ _ e=>e;exact oeeaaa z λH' aO q3 R' X' G'=>fin lst s3 H' aO q3 ⟨X',R'⟩ ((ej.of G3 R3).trans G')
theorem Bt{v w tg:Expr}{xs:List Stmt}{b:C}{t:List String}{n:String}{p pos q kp p0:Pos}(hg:aR sc "sorted"=true)(ik:notStar v=true)(Ja:cp w=true)(hn:sc.names.lookup (Str.ofString n)=some .local)(ok:vF sc t tg)(he:aZ L sc m c c1 v)(hd:aZ L sc m c1 (.b .sortedBy (.for t .seq b k)) w)(hb:dJ L sc m b .done xs):
 dU L sc m c k (.For tg (.Call (.Name (Str.ofString "sorted") p) [v] [⟨some (Str.ofString "key"),.Attribute w (Str.ofString "get") q,kp⟩] pos) xs [] p0):=by
 intro f ρ H ow s E Q a wp;refine Bc (iQ rfl _) ?_;refine Lr hg ik Ja he hd a wp λlst s3 H' aO q3 a3 G'=>?_;have G4:=G'.weaken (Y:=XW f.env) λb' e=>⟨n,.inl ⟨(congrArg (λz=>z.names.lookup (Str.ofString n)) f.hs).trans hn,e⟩⟩;exact oeea (xG q3) λaJ bG hs D=>Zy (uh a3 (Go.refl ..) hs D) (λwR s4 it=>uu ok hb a3 it λfl s5 z=>oeeeaa z λρ5 H5 SQ a5 G5 q5=>⟨ρ5,H5,SQ,a5,G4.trans G5,q5⟩) λ_ _ e=>e
end
end
section
open PySem PySem.W PyProof.Rows PySem.Calls
noncomputable section
noncomputable def eN:(c:C)->Option (PLift (c= .done))| .done=>some ⟨rfl⟩|_=>none
noncomputable def xZ:(c:C)->Option {p:V×C // c= .az p.1 p.2}| .az v k=>some ⟨(v,k),rfl⟩|_=>none
noncomputable def MZ:(c:C)->Option {p:Mk×Nat×C // c= .mk p.1 p.2.1 p.2.2}| .mk o n k=>some ⟨(o,n,k),rfl⟩|_=>none
noncomputable def vU:(c:C)->Option {p:U×C // c= .u p.1 p.2}| .u v k=>some ⟨(v,k),rfl⟩|_=>none
noncomputable def vB:(c:C)->Option {p:B×C // c= .b p.1 p.2}| .b v k=>some ⟨(v,k),rfl⟩|_=>none
noncomputable def Ev:(c:C)->Option {p:String×Nat×C // c= .call p.1 p.2.1 p.2.2}| .call f n k=>some ⟨(f,n,k),rfl⟩|_=>none
noncomputable def OA:(c:C)->Option {p:String×String×Nat×C // c= .new p.1 p.2.1 p.2.2.1 p.2.2.2}| .new d f n k=>some ⟨(d,f,n,k),rfl⟩|_=>none
noncomputable def OB:(c:C)->Option {p:String×C // c= .bL p.1 p.2}| .bL v k=>some ⟨(v,k),rfl⟩|_=>none
noncomputable def Kk:(c:C)->Option {p:Pm×Nat×C // c= .prim p.1 p.2.1 p.2.2}| .prim f n k=>some ⟨(f,n,k),rfl⟩|_=>none
noncomputable def FT:(c:C)->Option {p:C×C×C // c= .ite p.1 p.2.1 p.2.2}| .ite a b k=>some ⟨(a,b,k),rfl⟩|_=>none
noncomputable def Km:(c:C)->Option {p:List String×SK×C×C×C // c= .comp p.1 p.2.1 p.2.2.1 p.2.2.2.1 p.2.2.2.2}| .comp t s a b k=>some ⟨(t,s,a,b,k),rfl⟩|_=>none
noncomputable def JB:(c:C)->Option {p:String×C // c= .aX p.1 p.2}| .aX v k=>some ⟨(v,k),rfl⟩|_=>none
noncomputable def Kn:(c:C)->Option {p:List String×C // c= .ir p.1 p.2}| .ir v k=>some ⟨(v,k),rfl⟩|_=>none
noncomputable def Kj:(c:C)->Option {p:String×C // c= .setA p.1 p.2}| .setA v k=>some ⟨(v,k),rfl⟩|_=>none
noncomputable def Ki:(c:C)->Option {p:C // c= .dj p}| .dj k=>some ⟨k,rfl⟩|_=>none
noncomputable def Ox:(c:C)->Option {p:List String×C // c= .zJ p.1 p.2}| .zJ v k=>some ⟨(v,k),rfl⟩|_=>none
noncomputable def Oz:(c:C)->Option {p:C // c= .pop p}| .pop k=>some ⟨k,rfl⟩|_=>none
noncomputable def Kl:(c:C)->Option {p:C×C×C // c= .loop p.1 p.2.1 p.2.2}| .loop a b k=>some ⟨(a,b,k),rfl⟩|_=>none
noncomputable def JA:(c:C)->Option {p:List String×SK×C×C // c= .for p.1 p.2.1 p.2.2.1 p.2.2.2}| .for t s b k=>some ⟨(t,s,b,k),rfl⟩|_=>none
noncomputable def Oy:(c:C)->Option (PLift (c= .ret))| .ret=>some ⟨rfl⟩|_=>none
noncomputable def OC:(c:C)->Option (PLift (c= .brk))| .brk=>some ⟨rfl⟩|_=>none
noncomputable def GP:(c:C)->Option (PLift (c= .raise))| .raise=>some ⟨rfl⟩|_=>none
noncomputable def vInt:(v:V)->Option {i:Int // v= .int i}| .int i=>some ⟨i,rfl⟩|_=>none
noncomputable def Gz:(a b:SK)->Option (PLift (a=b))
 | .seq,.seq=>some ⟨rfl⟩| .range,.range=>some ⟨rfl⟩| .enum,.enum=>some ⟨rfl⟩| .zip,.zip=>some ⟨rfl⟩|_,_=>none
section
variable {L:Lv}{sc:Scope}{m:Nat}
noncomputable abbrev tl(L:Lv)(sc:Scope)(m:Nat)(c:C)(x:Expr):Type:=Option {k:C // aZ L sc m c k x}
theorem pY{c k k':C}{x:Expr}(h:aZ L sc m c k x)(e:k=k'):aZ L sc m c k' x:=e▸h
theorem vP{c k k':C}{x:List Expr}(h:dL L sc m c k x)(e:k=k'):dL L sc m c k' x:=e▸h
theorem De{c c' k:C}{x:Expr}(h:aZ L sc m c k x)(e:c'=c):aZ L sc m c' k x:=e▸h
theorem LC{n:String}{id:Str}{k:C}{p:Pos}(h:(id==Str.ofString n&&Ao sc n)=true):aZ L sc m (.ae n k) k (.Name id p):=by
 rw[beq_iff_eq.mp (aP h).1];exact HD (aP h).2
theorem H8{n:String}{id:Str}{k:C}{p:Pos}(h:(id==Str.ofString n&&aR sc n)=true):aZ L sc m (.glob n k) k (.Name id p):=by
 rw[beq_iff_eq.mp (aP h).1];exact DY (aP h).2
noncomputable def vT(c:C)(id:Str)(p:Pos):tl L sc m c (.Name id p):=match c with
 | .ae n k=>if h:(id==Str.ofString n&&Ao sc n)=true then some ⟨k,LC h⟩ else none
 | .glob n k=>if h:(id==Str.ofString n&&aR sc n)=true then some ⟨k,H8 h⟩ else none
 |_=>none
theorem LM{i j:Int}{k:C}{u p}(h:(i==j)=true):aZ L sc m (.az (.int i) k) k (.Constant (.int j) u p):=by rw[beq_iff_eq.mp h];exact HM
theorem LF{i j:Str}{k:C}{u p}(h:(i==j)=true):aZ L sc m (.az (.str i) k) k (.Constant (.str j) u p):=by rw[beq_iff_eq.mp h];exact HF
theorem Ib{i j:Bool}{k:C}{u p}(h:(i==j)=true):aZ L sc m (.az (.bool i) k) k (.Constant (.bool j) u p):=by rw[beq_iff_eq.mp h];exact D8
noncomputable def Kq(v:V)(k:C)(x:PySem.Const)(u p):tl L sc m (.az v k) (.Constant x u p):=match x with
 | .int j=>(match v with| .int i=>if h:(i==j)=true then some ⟨k,LM h⟩ else none|_=>none)
 | .str j=>(match v with| .str i=>if h:(i==j)=true then some ⟨k,LF h⟩ else none|_=>none)
 | .bool j=>(match v with| .bool i=>if h:(i==j)=true then some ⟨k,Ib h⟩ else none|_=>none)
 | .none=>(match v with| .none=>some ⟨k,DU⟩|_=>none)
 |_=>none
variable {c k k1 k2:C}{v w:Expr}
theorem Ic{n:String}{a:Str}{p:Pos}(h:aZ L sc m c (.u (.attr n) k) v)(g:(a==Str.ofString n&&cp v)=true):aZ L sc m c k (.Attribute v a p):=by
 rw[beq_iff_eq.mp (aP g).1];exact D9 (aP g).2 h
noncomputable def GW(a:Str)(p:Pos):(o:U)->aZ L sc m c (.u o k) v->tl L sc m c (.Attribute v a p)
 | .attr n,h=>if g:(a==Str.ofString n&&cp v)=true then some ⟨k,Ic h g⟩ else none
 |_,_=>none
noncomputable def opC:Operator->Option FK
 | .Add=>some .add| .Sub=>some .sub| .Mult=>some .mul| .Mod=>some .mod| .FloorDiv=>some .fdiv|_=>none
theorem LQ{o:Operator}{op:FK}{l r:Expr}{p:Pos}(ha:aZ L sc m c k1 l)(hb:aZ L sc m k1 (.b (.bin op) k) r)(g:(o==C9 op)=true):aZ L sc m c k (.BinOp l o r p):=by
 rw[beq_iff_eq.mp g];exact HP ha hb
theorem LN{v t:Expr}{p:Pos}(ha:aZ L sc m c k1 v)(hb:aZ L sc m k1 (.b .idx k) t)(g:fN t=true):aZ L sc m c k (.Subscript v t p):=HN g ha hb
theorem LP{o:CmpOp}{op:FJ}{l r:Expr}{p:Pos}(ha:aZ L sc m c k1 l)(hb:aZ L sc m k1 (.b (.cmp op) k) r)(g:(o==mJ op&& !behindInMarks (mJ op) r)=true):aZ L sc m c k (.Compare l [o] [r] p):=by
 rw[beq_iff_eq.mp (aP g).1];exact HO (og (aP g).2) ha hb
noncomputable def Ku(o:Operator)(l r:Expr)(p:Pos)(ha:aZ L sc m c k1 l):(op:B)->aZ L sc m k1 (.b op k) r->tl L sc m c (.BinOp l o r p)
 | .bin op,h=>if g:(o==C9 op)=true then some ⟨k,LQ ha h g⟩ else none
 |_,_=>none
noncomputable def Kr(v t:Expr)(p:Pos)(ha:aZ L sc m c k1 v):(op:B)->aZ L sc m k1 (.b op k) t->tl L sc m c (.Subscript v t p)
 | .idx,h=>if g:fN t=true then some ⟨k,LN ha h g⟩ else none
 |_,_=>none
noncomputable def Kt(o:CmpOp)(l r:Expr)(p:Pos)(ha:aZ L sc m c k1 l):(op:B)->aZ L sc m k1 (.b op k) r->tl L sc m c (.Compare l [o] [r] p)
 | .cmp op,h=>if g:(o==mJ op&& !behindInMarks (mJ op) r)=true then some ⟨k,LP ha h g⟩ else none
 |_,_=>none
theorem HZ{o:CmpOp}{ne:Bool}{l:Expr}{p p':Pos}(h:aZ L sc m c (.u (.nilq ne) k) l)(g:(o==(if ne=true then CmpOp.NotEq else .Eq))=true):aZ L sc m c k (.Compare l [o] [.List [] p'] p):=by
 rw[beq_iff_eq.mp g];exact DV h
noncomputable def GS(o:CmpOp)(l:Expr)(p p':Pos):(u:U)->aZ L sc m c (.u u k) l->tl L sc m c (.Compare l [o] [.List [] p'] p)
 | .nilq ne,h=>if g:(o==(if ne=true then CmpOp.NotEq else .Eq))=true then some ⟨k,HZ h g⟩ else none
 |_,_=>none
noncomputable def Kp(p:Pos):(u:U)->aZ L sc m c (.u u k) v->tl L sc m c (.UnaryOp .Not v p)
 | .not,h=>some ⟨k,HH h⟩
 |_,_=>none
theorem LK{i j:Int}{u p p'}(g:(i== -j)=true):aZ L sc m (.az (.int i) k) k (.UnaryOp .USub (.Constant (.int j) u p) p'):=by rw[beq_iff_eq.mp g];exact HJ
theorem LH{i a:Int}{j:Int}{u u' p p' L2}(g:(a==10&&(j==9&&i==10 ^ 9||j==60&&i==10 ^ 60))=true):aZ L sc m (.az (.int i) k) k (.BinOp (.Constant (.int a) u p) .Pow (.Constant (.int j) u' p') L2):=by
 refine oa (aP g) λg1 g=>?_;rw[beq_iff_eq.mp g1];rcases YC.mp g with g|g
 . rw[beq_iff_eq.mp (aP g).1,beq_iff_eq.mp (aP g).2];exact Bd (b:=9) (.inl rfl)
 . rw[beq_iff_eq.mp (aP g).1,beq_iff_eq.mp (aP g).2];exact Bd (b:=60) (.inr rfl)
theorem HV{i:Int}{j:Nat}{id:Str}{p p1 p2 p3:Pos}{k':Nat}(h:aZ L sc m c (.u (.x_ j) k) (.Name id p))(g:(i==(j:Int))=true):aZ L sc m c k (.Subscript (.Name id p) (.Slice none (some (.Constant (.int i) k' p1)) none p2) p3):=by
 rw[beq_iff_eq.mp g];exact DS h
noncomputable def GR(i:Int){id:Str}{p:Pos}(p1 p2 p3:Pos)(k':Nat):(u:U)->aZ L sc m c (.u u k) (.Name id p)->tl L sc m c (.Subscript (.Name id p) (.Slice none (some (.Constant (.int i) k' p1)) none p2) p3)
 | .x_ j,h=>if g:(i==(j:Int))=true then some ⟨k,HV h g⟩ else none
 |_,_=>none
theorem LG{i:Int}{id:Str}{p p1 p2 p3 p4:Pos}{k':Nat}(h:aZ L sc m c (.u .rev k) (.Name id p))(g:(i==1)=true):aZ L sc m c k (.Subscript (.Name id p) (.Slice none none (some (.UnaryOp .USub (.Constant (.int i) k' p1) p4)) p2) p3):=by
 rw[beq_iff_eq.mp g];exact HG h
noncomputable def Ko(i:Int){id:Str}{p:Pos}(p1 p2 p3 p4:Pos)(k':Nat):(u:U)->aZ L sc m c (.u u k) (.Name id p)->tl L sc m c (.Subscript (.Name id p) (.Slice none none (some (.UnaryOp .USub (.Constant (.int i) k' p1) p4)) p2) p3)
 | .rev,h=>if g:(i==1)=true then some ⟨k,LG h g⟩ else none
 |_,_=>none
theorem Ia{xs:List Expr}{g:String}{id:Str}{n:Nat}{p pos:Pos}(h:dL L sc m c (.call g n k) xs)(e:(id==Str.ofString g&&(n==xs.length&&(aR sc g&&(L.fF.contains g&&L.can m g))))=true):aZ L sc m c k (.Call (.Name id p) xs [] pos):=by
 refine oa (aP e) λe1 e=>?_;refine oa (aP e) λe2 e=>?_;refine oa (aP e) λe3 e=>?_;rw[beq_iff_eq.mp e2] at h;rw[beq_iff_eq.mp e1];exact D7 e3 (aP e).1 (aP e).2 h
theorem LJ{xs:List Expr}{d g:String}{id:Str}{n:Nat}{p pos:Pos}(h:dL L sc m c (.new d g n k) xs)(e:(id==Str.ofString d&&(n==xs.length&&(aR sc d&&(Nat.ble 1 m&&(L.can (m - 1) g&&L.qD.lookup d==some g)))))=true):aZ L sc m c k (.Call (.Name id p) xs [] pos):=by
 refine oa (aP e) λe1 e=>?_;refine oa (aP e) λe2 e=>?_;refine oa (aP e) λe3 e=>?_;refine oa (aP e) λe4 e=>?_;rw[beq_iff_eq.mp e2] at h;rw[beq_iff_eq.mp e1];exact HI e3 (ZC e4) (aP e).1 (beq_iff_eq.mp (aP e).2) h
noncomputable def FW(xs:List Expr)(id:Str)(p pos:Pos)(r:{k:C // dL L sc m c k xs}):tl L sc m c (.Call (.Name id p) xs [] pos):=
 ((Ev r.1).bind λq=>if e:(id==Str.ofString q.1.1&&(q.1.2.1==xs.length&&(aR sc q.1.1&&(L.fF.contains q.1.1&&L.can m q.1.1))))=true then some ⟨q.1.2.2,Ia (vP r.2 q.2) e⟩ else none).or
 ((OA r.1).bind λq=>if e:(id==Str.ofString q.1.1&&(q.1.2.2.1==xs.length&&(aR sc q.1.1&&(Nat.ble 1 m&&(L.can (m - 1) q.1.2.1&&L.qD.lookup q.1.1==some q.1.2.1)))))=true then some ⟨q.1.2.2.2,LJ (vP r.2 q.2) e⟩ else none)
theorem H7{xs:List Expr}{d n g:String}{a:Str}{i:Nat}{apos pos:Pos}(ho:aZ L sc m c (.bL d k1) v)(h:dL L sc m k1 (.call g i k) xs)(q:L.meths.lookup g=some (d,n))(e:(a==Str.ofString n&&(i==xs.length+1&&(cp v&&(apos.endLine==pos.line&&(Nat.blt xs.length 29&&(L.can m g&&(!iy d n&& !(d== "list"||d== "dict"))))))))=true):aZ L sc m c k (.Call (.Attribute v a apos) xs [] pos):=by
 refine oa (aP e) λe1 e=>?_;refine oa (aP e) λe2 e=>?_;refine oa (aP e) λe3 e=>?_;refine oa (aP e) λe4 e=>?_;refine oa (aP e) λe5 e=>?_;refine oa (aP e) λe6 e=>?_;rw[beq_iff_eq.mp e2] at h;rw[beq_iff_eq.mp e1];exact DW e3 e4 (ZC e5) q e6 (og (aP e).1) (og (aP e).2) ho h
theorem HY{xs:List Expr}{pm:Pm}{d:String}{a:Str}{i:Nat}{apos pos:Pos}(ho:aZ L sc m c (.bL d k1) v)(h:dL L sc m k1 (.prim pm i k) xs)(e:(a==Str.ofString (tM pm)&&(i==xs.length&&(cp v&&(apos.endLine==pos.line&&(Nat.blt xs.length 29&&d==qC pm)))))=true):aZ L sc m c k (.Call (.Attribute v a apos) xs [] pos):=by
 refine oa (aP e) λe1 e=>?_;refine oa (aP e) λe2 e=>?_;refine oa (aP e) λe3 e=>?_;refine oa (aP e) λe4 e=>?_;refine oa (aP e) λe5 e=>?_;rw[beq_iff_eq.mp e2] at h;rw[beq_iff_eq.mp e] at ho;rw[beq_iff_eq.mp e1];exact DT e3 e4 (ZC e5) ho h
noncomputable def KZ(L:Lv)(g:String):Option {p:String×String // L.meths.lookup g=some p}:=match L.meths.lookup g with
 |some p=>some ⟨p,rfl⟩
 |none=>none
theorem B7{g d:String}{p:String×String}(h:L.meths.lookup g=some p)(e:(d==p.1)=true):L.meths.lookup g=some (d,p.2):=by rw[h,beq_iff_eq.mp e]
noncomputable def GT(xs:List Expr)(a:Str)(apos pos:Pos){d:String}(ho:aZ L sc m c (.bL d k1) v)(r:{k:C // dL L sc m k1 k xs}):tl L sc m c (.Call (.Attribute v a apos) xs [] pos):=
 ((Kk r.1).bind λq=>if e:(a==Str.ofString (tM q.1.1)&&(q.1.2.1==xs.length&&(cp v&&(apos.endLine==pos.line&&(Nat.blt xs.length 29&&d==qC q.1.1)))))=true then some ⟨q.1.2.2,HY ho (vP r.2 q.2) e⟩ else none).or
 ((Ev r.1).bind λq=>(KZ L q.1.1).bind λl=>if e1:(d==l.1.1)=true then if e:(a==Str.ofString l.1.2&&(q.1.2.1==xs.length+1&&(cp v&&(apos.endLine==pos.line&&(Nat.blt xs.length 29&&(L.can m q.1.1&&(!iy d l.1.2&& !(d== "list"||d== "dict"))))))))=true then
  some ⟨q.1.2.2,H7 ho (vP r.2 q.2) (B7 l.2 e1) e⟩ else none else none)
theorem yy{o:U}{id:Str}{g:String}{p pos:Pos}(ev:aR sc g=true->notStar v=true->aZ L sc m c (.u o k) v->aZ L sc m c k (.Call (.Name (Str.ofString g) p) [v] [] pos))(h:aZ L sc m c (.u o k) v)(e:(id==Str.ofString g&&(aR sc g&&notStar v))=true):aZ L sc m c k (.Call (.Name id p) [v] [] pos):=by
 refine oa (aP e) λe1 e=>?_;rw[beq_iff_eq.mp e1];exact ev (aP e).1 (aP e).2 h
noncomputable def OH(id:Str)(p pos:Pos):(o:U)->aZ L sc m c (.u o k) v->tl L sc m c (.Call (.Name id p) [v] [] pos)
 | .len,h=>if e:(id==Str.ofString "len"&&(aR sc "len"&&notStar v))=true then some ⟨k,yy HK h e⟩ else none
 | .abs,h=>if e:(id==Str.ofString "abs"&&(aR sc "abs"&&notStar v))=true then some ⟨k,yy HQ h e⟩ else none
 | .sorted,h=>if e:(id==Str.ofString "sorted"&&(aR sc "sorted"&&notStar v))=true then some ⟨k,yy zn h e⟩ else none
 | .cN,h=>if e:(id==Str.ofString "list"&&(aR sc "list"&&notStar v))=true then some ⟨k,yy vm h e⟩ else none
 | .copyDict,h=>if e:(id==Str.ofString "dict"&&(aR sc "dict"&&notStar v))=true then some ⟨k,yy vn h e⟩ else none
 | .dictOf,h=>if e:(id==Str.ofString "dict"&&(aR sc "dict"&&notStar v))=true then some ⟨k,yy zr h e⟩ else none
 |_,_=>none
theorem Cw{id cn:Str}{p p' pos:Pos}(h:aZ L sc m c (.u .isBool k) v)(e:(id==Str.ofString "isinstance"&&(cn==Str.ofString "bool"&&(aR sc "isinstance"&&(aR sc "bool"&&notStar v))))=true):aZ L sc m c k (.Call (.Name id p) [v,.Name cn p'] [] pos):=by
 refine oa (aP e) λe1 e=>?_;refine oa (aP e) λe2 e=>?_;refine oa (aP e) λe3 e=>?_;rw[beq_iff_eq.mp e1,beq_iff_eq.mp e2];exact zq e3 (aP e).1 (aP e).2 h
theorem Cv{id cn:Str}{d:String}{p p' pos:Pos}(h:aZ L sc m c (.u (.cK d) k) v)(e:(id==Str.ofString "isinstance"&&(cn==Str.ofString d&&(aR sc "isinstance"&&(aR sc d&&(L.cls.contains d&&notStar v)))))=true):aZ L sc m c k (.Call (.Name id p) [v,.Name cn p'] [] pos):=by
 refine oa (aP e) λe1 e=>?_;refine oa (aP e) λe2 e=>?_;refine oa (aP e) λe3 e=>?_;refine oa (aP e) λe4 e=>?_;rw[beq_iff_eq.mp e1,beq_iff_eq.mp e2];exact zp e3 e4 (aP e).1 (aP e).2 h
noncomputable def GU(id cn:Str)(p p' pos:Pos):(o:U)->aZ L sc m c (.u o k) v->tl L sc m c (.Call (.Name id p) [v,.Name cn p'] [] pos)
 | .isBool,h=>if e:(id==Str.ofString "isinstance"&&(cn==Str.ofString "bool"&&(aR sc "isinstance"&&(aR sc "bool"&&notStar v))))=true then some ⟨k,Cw h e⟩ else none
 | .cK d,h=>if e:(id==Str.ofString "isinstance"&&(cn==Str.ofString d&&(aR sc "isinstance"&&(aR sc d&&(L.cls.contains d&&notStar v)))))=true then some ⟨k,Cv h e⟩ else none
 |_,_=>none
noncomputable abbrev Rec(L:Lv):Type:=∀(sc:Scope) (m:Nat) (c:C) (x:Expr),tl L sc m c x
section
variable (rec:Rec L)
noncomputable def vG(sc:Scope)(m:Nat):(c:C)->(xs:List Expr)->Option {k:C // dL L sc m c k xs}
 |c,[]=>some ⟨c,xH⟩
 |c,x::xs=>(rec sc m c x).bind λr=>if h:notStar x=true then(vG sc m r.1 xs).bind λq=>some ⟨q.1,uz h r.2 q.2⟩ else none
noncomputable def FX(sc:Scope)(m:Nat)(op:BoolOp):(c:C)->(xs:List Expr)->Option {k:C // vR L sc m op c k xs}
 |_,[]=>none
 |c,[x]=>(rec sc m c x).bind λr=>some ⟨r.1,Id r.2⟩
 |c,x::y::xs=>(rec sc m c x).bind λr=>(FT r.1).bind λq=>match op with
  | .And=>(xZ q.1.2.1).bind λl=>match l.1.1,l.2 with
   | .bool false,e=>(eN l.1.2).bind λd=>(FX sc m .And q.1.1 (y::xs)).bind λb=>(eN b.1).bind λd2=>some ⟨q.1.2.2,Ie (pY r.2 (q.2.trans (by rw[e,d.1]))) (d2.1▸b.2)⟩
   |_,_=>none
  | .Or=>(xZ q.1.1).bind λl=>match l.1.1,l.2 with
   | .bool true,e=>(eN l.1.2).bind λd=>(FX sc m .Or q.1.2.1 (y::xs)).bind λb=>(eN b.1).bind λd2=>some ⟨q.1.2.2,LT (pY r.2 (q.2.trans (by rw[e,d.1]))) (d2.1▸b.2)⟩
   |_,_=>none
theorem PN{n:String}{ns:List String}{id:Str}{p:Pos}{es:List Expr}(h:(id==Str.ofString n&&cz sc n)=true)(r:zU sc ns es):zU sc (n::ns) (.Name id p::es):=by
 rw[beq_iff_eq.mp (aP h).1];exact⟨p,es,rfl,(aP h).2,r⟩
noncomputable def FV(sc:Scope):(ns:List String)->(es:List Expr)->Option (PLift (zU sc ns es))
 |[],[]=>some ⟨rfl⟩
 |n::ns,.Name id p::es=>if h:(id==Str.ofString n&&cz sc n)=true then(FV sc ns es).bind λr=>some ⟨PN h r.1⟩ else none
 |_,_=>none
theorem PL{n:String}{id:Str}{p:Pos}(h:(id==Str.ofString n&&cz sc n)=true):vF sc [n] (.Name id p):=.inl ⟨n,p,rfl,by rw[beq_iff_eq.mp (aP h).1],(aP h).2⟩
noncomputable def FU(sc:Scope)(t:List String)(tg:Expr):Option (PLift (vF sc t tg)):=match tg with
 | .Name id p=>(match t with
  |[n]=>if h:(id==Str.ofString n&&cz sc n)=true then some ⟨PL h⟩ else none
  |_=>none)
 | .Tuple es k p=>if h:Nat.ble 2 t.length=true then(FV sc t es).bind λr=>some ⟨.inr ⟨ZC h,es,k,p,rfl,r.1⟩⟩ else none
 |_=>none
noncomputable def Ap:SK->List String->Bool
 | .enum,t=>t.length==2
 | .zip,t=>t.length==2
 |_,_=>true
noncomputable abbrev RR(L:Lv)(sc:Scope)(m:Nat)(c:C)(x:Expr):Type:=Option {r:SK×C // ∀t,Ap r.1 t=true->kF L sc m r.1 t c r.2 x}
theorem Ea{id:Str}{p pos:Pos}(h:aZ L sc m c k v)(e:(id==Str.ofString "range"&&(aR sc "range"&&notStar v))=true){t:List String}:kF L sc m .range t c k (.Call (.Name id p) [v] [] pos):=by
 refine oa (aP e) λe1 e=>?_;rw[beq_iff_eq.mp e1];exact Cb (aP e).1 (aP e).2 h
theorem H9{id:Str}{p pos:Pos}(h:aZ L sc m c k v)(e:(id==Str.ofString "enumerate"&&(aR sc "enumerate"&&notStar v))=true){t:List String}(l:(t.length==2)=true):kF L sc m .enum t c k (.Call (.Name id p) [v] [] pos):=by
 refine oa (aP e) λe1 e=>?_;rw[beq_iff_eq.mp e1];exact DE (aP e).1 (aP e).2 (beq_iff_eq.mp l) h
theorem LB{id:Str}{p pos:Pos}(h:aZ L sc m c k1 v)(h2:aZ L sc m k1 k w)(e:(id==Str.ofString "zip"&&(aR sc "zip"&&(notStar v&&notStar w)))=true){t:List String}(l:(t.length==2)=true):kF L sc m .zip t c k (.Call (.Name id p) [v,w] [] pos):=by
 refine oa (aP e) λe1 e=>?_;refine oa (aP e) λe2 e=>?_;rw[beq_iff_eq.mp e1];exact Hr e2 (aP e).1 (aP e).2 (beq_iff_eq.mp l) h h2
noncomputable def Aj(sc:Scope)(m:Nat)(c:C)(x:Expr):RR L sc m c x:=if h:vX x=true then(rec sc m c x).bind λr=>some ⟨(.seq,r.1),λ_ _=>Hs r.2 h⟩ else none
noncomputable def P3(sc:Scope)(m:Nat)(c:C)(x:Expr):RR L sc m c x:=match x with
 | .Call (.Name id p) [v] [] pos=>
  if e:(id==Str.ofString "range"&&(aR sc "range"&&notStar v))=true then(rec sc m c v).bind λr=>some ⟨(.range,r.1),λ_ _=>Ea r.2 e⟩
  else if e:(id==Str.ofString "enumerate"&&(aR sc "enumerate"&&notStar v))=true then(rec sc m c v).bind λr=>some ⟨(.enum,r.1),λ_ l=>H9 r.2 e l⟩
  else Aj rec sc m c _
 | .Call (.Name id p) [v,w] [] pos=>
  if e:(id==Str.ofString "zip"&&(aR sc "zip"&&(notStar v&&notStar w)))=true then(rec sc m c v).bind λr=>(rec sc m r.1 w).bind λq=>some ⟨(.zip,q.1),λ_ l=>LB r.2 q.2 e l⟩
  else Aj rec sc m c _
 |x=>Aj rec sc m c x
theorem RA{s s':SK}{t:List String}{k k':C}{x:Expr}(h:kF L sc m s t c k x)(e:s=s')(e2:k=k'):kF L sc m s' t c k' x:=e▸e2▸h
theorem H_{t:List String}{tg iter x:Expr}{ifs:List Expr}{bX:Scope}{sk:SK}{cc ce:C}(tp:vF (b_ bX sc) t tg)(h:(okInner t bX sc&&gM (b_ bX sc) t)=true)(hi:kF L sc m sk t c (.comp t sk cc ce k) iter)(he:aZ L (b_ bX sc) m ce .done x)
 (hc:(ifs=[]/\cc= .az (.bool true) .done)\/∃z,ifs=[z]/\aZ L (b_ bX sc) m cc .done z):kg L sc m c k t tg iter x ifs bX:=⟨(aP h).1,tp,(aP h).2,sk,cc,ce,hi,he,hc⟩
noncomputable def GV(sc:Scope)(m:Nat)(cc:C):(ifs:List Expr)->Option (PLift ((ifs=[]/\cc= .az (.bool true) .done)\/∃z,ifs=[z]/\aZ L sc m cc .done z))
 |[]=>(xZ cc).bind λl=>match l.1.1,l.2 with
  | .bool true,e=>(eN l.1.2).bind λd=>some ⟨.inl ⟨rfl,e.trans (by rw[d.1])⟩⟩
  |_,_=>none
 |[z]=>(rec sc m cc z).bind λr=>(eN r.1).bind λd=>some ⟨.inr ⟨z,rfl,pY r.2 d.1⟩⟩
 |_=>none
noncomputable def AG(sc:Scope)(m:Nat)(c:C)(tg iter x:Expr)(ifs:List Expr)(bX:Scope):Option {k:C // ∃t,kg L sc m c k t tg iter x ifs bX}:=
 (P3 rec sc m c iter).bind λr=>(Km r.1.2).bind λq=>(Gz r.1.1 q.1.2.1).bind λes=>if l:Ap r.1.1 q.1.1=true then
  (FU (b_ bX sc) q.1.1 tg).bind λtp=>if h:(okInner q.1.1 bX sc&&gM (b_ bX sc) q.1.1)=true then
   (rec (b_ bX sc) m q.1.2.2.2.1 x).bind λe=>(eN e.1).bind λd=>(GV rec (b_ bX sc) m q.1.2.2.1 ifs).bind λcd=>
    some ⟨q.1.2.2.2.2,q.1.1,H_ tp.1 h (RA (r.2 _ l) es.1 q.2) (pY e.2 d.1) cd.1⟩
  else none else none
noncomputable def Dj(sc:Scope)(m:Nat)(c:C)(id:Str)(p:Pos)(v:Expr)(pos:Pos):tl L sc m c (.Call (.Name id p) [v] [] pos):=
 (rec sc m c v).bind λr=>((vU r.1).bind λq=>OH id p pos q.1.1 (pY r.2 q.2)).or (if h:notStar v=true then FW [v] id p pos ⟨r.1,uz h r.2 xH⟩ else none)
theorem LI{g:Comprehension}{k:C}{x:Expr}{bX:Scope}{p:Pos}(e:(g.is_async==0)=true)(h:∃t,kg L sc m c k t g.target g.iter x g.ifs bX):aZ L sc m c k (.ListComp x [g] bX p):=by
 refine oe h λt h=>?_;obtain ⟨tg,iter,ifs,a⟩:=g;obtain rfl:a=0:=beq_iff_eq.mp e;exact DZ h
theorem LL{t y n:Expr}{p:Pos}{a b:C}(hc:aZ L sc m c k1 t)(e:k1= .ite a b k){ka kb:C}(ha:aZ L sc m a ka y)(da:ka= .done)(hb:aZ L sc m b kb n)(db:kb= .done):aZ L sc m c k (.IfExp t y n p):=HL (e▸hc) (da▸ha) (db▸hb)
noncomputable def OG(sc:Scope)(m:Nat)(c:C)(x:Expr):tl L sc m c x:=match x with
 | .Name id p=>vT c id p
 | .Constant v u p=>(xZ c).bind λq=>(Kq q.1.1 q.1.2 v u p).bind λr=>some ⟨r.1,De r.2 q.2⟩
 | .List xs p=>(vG rec sc m c xs).bind λr=>(MZ r.1).bind λq=>(match q.1.1,q.2 with
  | .list,e=>if h:(q.1.2.1==xs.length&&Nat.ble xs.length 100)=true then some ⟨q.1.2.2,DX (ZC (aP h).2) (vP r.2 (e.trans (by rw[beq_iff_eq.mp (aP h).1])))⟩ else none
  |_,_=>none)
 | .Tuple xs n p=>(vG rec sc m c xs).bind λr=>(MZ r.1).bind λq=>(match q.1.1,q.2 with
  | .tup,e=>if h:(q.1.2.1==xs.length&&Nat.ble xs.length 100)=true then some ⟨q.1.2.2,HE (ZC (aP h).2) (vP r.2 (e.trans (by rw[beq_iff_eq.mp (aP h).1])))⟩ else none
  |_,_=>none)
 | .Dict [] [] p=>(MZ c).bind λq=>(match q.1.1,q.1.2.1,q.2 with
  | .dict,0,e=>some ⟨q.1.2.2,De Cn e⟩
  |_,_,_=>none)
 | .Attribute v a p=>(rec sc m c v).bind λr=>(vU r.1).bind λq=>GW a p q.1.1 (pY r.2 q.2)
 | .Subscript (.Name id p) (.Slice none (some (.Constant (.int i) k' p1)) none p2) p3=>(vT c id p).bind λr=>(vU r.1).bind λq=>GR i p1 p2 p3 k' q.1.1 (pY r.2 q.2)
 | .Subscript (.Name id p) (.Slice none none (some (.UnaryOp .USub (.Constant (.int i) k' p1) p4)) p2) p3=>(vT c id p).bind λr=>(vU r.1).bind λq=>Ko i p1 p2 p3 p4 k' q.1.1 (pY r.2 q.2)
 | .Subscript v t p=>(rec sc m c v).bind λr=>(rec sc m r.1 t).bind λr2=>(vB r2.1).bind λq=>Kr v t p r.2 q.1.1 (pY r2.2 q.2)
 | .BinOp (.Constant (.int a) u p) .Pow (.Constant (.int j) u' p') L2=>(xZ c).bind λq=>(vInt q.1.1).bind λi=>if g:(i.1==i.1&&(a==10&&(j==9&&i.1==10 ^ 9||j==60&&i.1==10 ^ 60)))=true then some ⟨q.1.2,De (LH (aP g).2) (q.2.trans (congrArg (λz=>C.az z q.1.2) i.2))⟩ else none
 | .BinOp l o r p=>(rec sc m c l).bind λr1=>(rec sc m r1.1 r).bind λr2=>(vB r2.1).bind λq=>Ku o l r p r1.2 q.1.1 (pY r2.2 q.2)
 | .UnaryOp .Not v p=>(rec sc m c v).bind λr=>(vU r.1).bind λq=>Kp p q.1.1 (pY r.2 q.2)
 | .UnaryOp .USub (.Constant (.int j) u p) p'=>(xZ c).bind λq=>(vInt q.1.1).bind λi=>if g:(i.1== -j)=true then some ⟨q.1.2,De (LK g) (q.2.trans (congrArg (λz=>C.az z q.1.2) i.2))⟩ else none
 | .Compare l [o] [.List [] p'] p=>(rec sc m c l).bind λr=>(vU r.1).bind λq=>GS o l p p' q.1.1 (pY r.2 q.2)
 | .Compare l [o] [r] p=>(rec sc m c l).bind λr1=>(rec sc m r1.1 r).bind λr2=>(vB r2.1).bind λq=>Kt o l r p r1.2 q.1.1 (pY r2.2 q.2)
 | .BoolOp op xs p=>(FX rec sc m op c xs).bind λr=>some ⟨r.1,Lu r.2⟩
 | .IfExp t y n p=>(rec sc m c t).bind λr=>(FT r.1).bind λq=>(rec sc m q.1.1 y).bind λa=>(eN a.1).bind λda=>(rec sc m q.1.2.1 n).bind λb=>(eN b.1).bind λdb=>some ⟨q.1.2.2,LL r.2 q.2 a.2 da.1 b.2 db.1⟩
 | .ListComp x [g] bX p=>if e:(g.is_async==0)=true then(AG rec sc m c g.target g.iter x g.ifs bX).bind λr=>some ⟨r.1,LI e r.2⟩ else none
 | .Call (.Attribute v a apos) xs [] pos=>(rec sc m c v).bind λr=>(OB r.1).bind λq=>(vG rec sc m q.1.2 xs).bind λs=>GT xs a apos pos (pY r.2 q.2) s
 | .Call (.Name id p) [v] [] pos=>Dj rec sc m c id p v pos
 | .Call (.Name id p) [v,.Name cn p'] [] pos=>(rec sc m c v).bind λr=>((vU r.1).bind λq=>GU id cn p p' pos q.1.1 (pY r.2 q.2)).or ((vG rec sc m c [v,.Name cn p']).bind λr=>FW _ id p pos r)
 | .Call (.Name id p) xs [] pos=>(vG rec sc m c xs).bind λr=>FW xs id p pos r
 |_=>none
end
noncomputable def P4(L:Lv):Nat->Rec L
 |0=>λ_ _ _ _=>none
 |n+1=>OG (P4 L n)
end
end
end
section
open PySem PySem.W PyProof.Rows PySem.Calls
noncomputable section
noncomputable def FY{α:Type}:(t:Sem α)->Option {b:α // t=pure b}| .pure b=>some ⟨b,rfl⟩|_=>none
theorem xh{α:Type}{t:Sem α}{b:α}(h:(FY t).map (·.1)=some b):t=pure b:=oea (Z7.mp h) λx _ e=>e▸x.2
noncomputable def xQ(sc:Scope)(tg x:Expr)(line:Nat):Option Bool:=(FY (swapsWithSole [tg] x line (envOf sc))).map (·.1)
noncomputable def zL(sc:Scope)(tg x:Expr):Option (Option (List Str)):=(FY (swappedStores [tg] x (envOf sc))).map (·.1)
theorem lI{sc:Scope}{tg x:Expr}{line:Nat}{b:Bool}(h:xQ sc tg x line=some b):swapsWithSole [tg] x line (envOf sc)=pure b:=xh h
theorem on{sc:Scope}{tg x:Expr}{b:Option (List Str)}(h:zL sc tg x=some b):swappedStores [tg] x (envOf sc)=pure b:=xh h
noncomputable def xz:Expr->Bool
 | .ListComp _ _ _ _=>false
 | .SetComp _ _ _ _=>false
 | .DictComp _ _ _ _ _=>false
 |_=>true
theorem wc{x:Expr}(h:xz x=true)(line:Nat)(env:Env):swapsWith x none line env=pure false:=by
 cases x<;>first|rfl|cases h
section
variable {L:Lv}{sc:Scope}{m:Nat}{c k k1 k2:C}{x:Expr}{p p':Pos}
noncomputable abbrev MM(L:Lv)(sc:Scope)(m:Nat)(c:C)(y:Stmt):Type:=Option {k:C // dU L sc m c k y}
noncomputable abbrev Oi(L:Lv)(sc:Scope)(m:Nat)(c:C)(y:List Stmt):Type:=Option {k:C // dJ L sc m c k y}
theorem GJ{c':C}{y:Stmt}(h:dU L sc m c k y)(e:c'=c):dU L sc m c' k y:=e▸h
theorem PQ{k':C}{ys:List Stmt}(h:dJ L sc m c k ys)(e:k=k'):dJ L sc m c k' ys:=e▸h
theorem Bs{y:Stmt}:dU L sc m .raise k y:=λf ρ H ow s E Q a w=>w.elim
theorem LS{n:String}{id:Str}(he:aZ L sc m c (.aX n k) x)(h:(id==Str.ofString n&&(cz sc n&&(xQ sc (.Name id p') x p.line==some false&&zL sc (.Name id p') x==some none)))=true):dU L sc m c k (.Assign [.Name id p'] x p):=by
 refine oa (aP h) λh1 h=>?_;refine oa (aP h) λh2 h=>?_;refine oa (aP h) λh3 h4=>?_;rw[beq_iff_eq.mp h1] at h3 h4 ⊢;exact Ha h2 (lI (beq_iff_eq.mp h3)) (on (beq_iff_eq.mp h4)) he
theorem HX{n:String}{a:Str}{o:Expr}(he:aZ L sc m c k1 x)(ho:aZ L sc m k1 (.setA n k) o)(h:(a==Str.ofString n&&(xQ sc (.Attribute o a p') x p.line==some false&&zL sc (.Attribute o a p') x==some none))=true):dU L sc m c k (.Assign [.Attribute o a p'] x p):=by
 refine oa (aP h) λh1 h=>?_;refine oa (aP h) λh3 h4=>?_;rw[beq_iff_eq.mp h1] at h3 h4 ⊢;exact Dn (lI (beq_iff_eq.mp h3)) (on (beq_iff_eq.mp h4)) he ho
theorem HW{o i:Expr}(he:aZ L sc m c k1 x)(ho:aZ L sc m k1 k2 o)(hi:aZ L sc m k2 (.dj k) i)(h:(fN i&&(xQ sc (.Subscript o i p') x p.line==some false&&zL sc (.Subscript o i p') x==some none))=true):dU L sc m c k (.Assign [.Subscript o i p'] x p):=by
 refine oa (aP h) λh1 h=>?_;refine oa (aP h) λh3 h4=>?_;exact Dm h1 (lI (beq_iff_eq.mp h3)) (on (beq_iff_eq.mp h4)) he ho hi
theorem PK{ns:List String}{es:List Expr}{n:Nat}(he:vQ L sc m c k ns x)(ok:zU sc ns es)(h:(xQ sc (.Tuple es n p') x p.line==some false&&zL sc (.Tuple es n p') x==some none)=true):dU L sc m c k (.Assign [.Tuple es n p'] x p):=
 KC ok (lI (beq_iff_eq.mp (aP h).1)) (on (beq_iff_eq.mp (aP h).2)) he
theorem LE{ns:List String}{tg:Expr}(he:vQ L sc m c k ns x)(h:(xQ sc tg x p.line==some false&&(zL sc tg x==some (some (ns.map Str.ofString))&&(decide ns.Nodup&&ns.all (cz sc))))=true):dU L sc m c k (.Assign [tg] x p):=by
 refine oa (aP h) λh1 h=>?_;refine oa (aP h) λh2 h=>?_;exact GY (of_decide_eq_true (aP h).1) (λn hn=>ZW.mp (aP h).2 n hn) (lI (beq_iff_eq.mp h1)) (on (beq_iff_eq.mp h2)) he
theorem LD{n:String}{id:Str}{tg iter x:Expr}{ifs:List Expr}{bX:Scope}{pos:Pos}(o:∃t,kg L sc m c k1 t tg iter x ifs bX)(e:k1= .aX n k)(h:(id==Str.ofString n&&(cz sc n&&xQ sc (.Name id p') (.ListComp x [⟨tg,iter,ifs,0⟩] bX pos) p.line==some true))=true):
 dU L sc m c k (.Assign [.Name id p'] (.ListComp x [⟨tg,iter,ifs,0⟩] bX pos) p):=by
 refine oe o λt o=>?_;refine oa (aP h) λh1 h=>?_;rw[beq_iff_eq.mp h1] at h ⊢;exact GX (e▸o) (aP h).1 (lI (beq_iff_eq.mp (aP h).2))
variable (rec:Rec L)
noncomputable def OE(sc:Scope)(m:Nat)(c:C)(x:Expr):Option {r:List String×C // vQ L sc m c r.2 r.1 x}:=match x with
 | .Tuple xs n p=>(vG rec sc m c xs).bind λr=>(Kn r.1).bind λq=>if h:(xs.length==q.1.1.length&&Nat.ble xs.length 100)=true then some ⟨(q.1.1,q.1.2),Di (beq_iff_eq.mp (aP h).1) (ZC (aP h).2) (vP r.2 q.2)⟩ else none
 |x=>(rec sc m c x).bind λr=>(Ox r.1).bind λq=>some ⟨(q.1.1,q.1.2),GQ (pY r.2 q.2)⟩
noncomputable def Kv(sc:Scope)(m:Nat)(c:C)(tg x:Expr)(p:Pos):MM L sc m c (.Assign [tg] x p):=match tg with
 | .Name id p'=>((rec sc m c x).bind λr=>(JB r.1).bind λq=>if h:(id==Str.ofString q.1.1&&(cz sc q.1.1&&(xQ sc (.Name id p') x p.line==some false&&zL sc (.Name id p') x==some none)))=true then some ⟨q.1.2,LS (pY r.2 q.2) h⟩ else none).or
  (match x with
   | .ListComp y [⟨tg,iter,ifs,0⟩] bX pos=>(AG rec sc m c tg iter y ifs bX).bind λr=>(JB r.1).bind λq=>if h:(id==Str.ofString q.1.1&&(cz sc q.1.1&&xQ sc (.Name id p') (.ListComp y [⟨tg,iter,ifs,0⟩] bX pos) p.line==some true))=true then some ⟨q.1.2,LD r.2 q.2 h⟩ else none
   |_=>none)
 | .Attribute o a p'=>(rec sc m c x).bind λr1=>(rec sc m r1.1 o).bind λr=>(Kj r.1).bind λq=>if h:(a==Str.ofString q.1.1&&(xQ sc (.Attribute o a p') x p.line==some false&&zL sc (.Attribute o a p') x==some none))=true then some ⟨q.1.2,HX r1.2 (pY r.2 q.2) h⟩ else none
 | .Subscript o i p'=>(rec sc m c x).bind λr1=>(rec sc m r1.1 o).bind λr2=>(rec sc m r2.1 i).bind λr=>(Ki r.1).bind λq=>if h:(fN i&&(xQ sc (.Subscript o i p') x p.line==some false&&zL sc (.Subscript o i p') x==some none))=true then some ⟨q.1,HW r1.2 r2.2 (pY r.2 q.2) h⟩ else none
 | .Tuple es n p'=>(OE rec sc m c x).bind λr=>if h:(xQ sc (.Tuple es n p') x p.line==some false&&zL sc (.Tuple es n p') x==some none)=true then(FV sc r.1.1 es).bind λo=>some ⟨r.1.2,PK r.2 o.1 h⟩
  else if h:(xQ sc (.Tuple es n p') x p.line==some false&&(zL sc (.Tuple es n p') x==some (some (r.1.1.map Str.ofString))&&(decide r.1.1.Nodup&&r.1.1.all (cz sc))))=true then some ⟨r.1.2,LE r.2 h⟩ else none
 |_=>none
variable (aS:∀(sc:Scope)(m:Nat)(c:C)(ys:List Stmt),Oi L sc m c ys)
theorem PO{t:Expr}{xs ys:List Stmt}{a b:C}(hc:aZ L sc m c k1 t)(e:k1= .ite a b k){ka kb:C}(ha:dJ L sc m a ka xs)(da:ka= .done)(hb:dJ L sc m b kb ys)(db:kb= .done):dU L sc m c k (.If t xs ys p):=G8 (e▸hc) (da▸ha) (db▸hb)
theorem D_{t:Expr}{xs:List Stmt}{a b:C}(e:c= .loop a b k){ka kb:C}(ha:aZ L sc m a ka t)(da:ka= .done)(hb:dJ L sc m b kb xs)(db:kb= .done):dU L sc m c k (.While t xs [] p):=GJ (Br (da▸ha) (db▸hb)) e
theorem LO{t:List String}{tg iter:Expr}{xs:List Stmt}{s s':SK}{b kb:C}(tp:vF sc t tg)(hi:kF L sc m s t c k1 iter)(es:s=s')(e:k1= .for t s' b k)(hb:dJ L sc m b kb xs)(db:kb= .done):dU L sc m c k (.For tg iter xs [] p):=G9 tp (RA hi es e) (db▸hb)
theorem Eb{v w tg:Expr}{xs:List Stmt}{b kb k2:C}{o:B}{t:List String}{sk:SK}{n:String}{id kn at':Str}{p pos q kp p0:Pos}(tp:vF sc t tg)(he:aZ L sc m c k1 v)(hd:aZ L sc m k1 k2 w)(ho:k2= .b o (.for t sk b k))(e1:o= .sortedBy)(e2:sk= .seq)(h:(id==Str.ofString "sorted"&&(kn==Str.ofString "key"&&(at'==Str.ofString "get"&&(aR sc "sorted"&&(sc.names.lookup (Str.ofString n)==some .local&&(notStar v&&cp w))))))=true)(hb:dJ L sc m b kb xs)(db:kb= .done):
 dU L sc m c k (.For tg (.Call (.Name id p) [v] [⟨some kn,.Attribute w at' q,kp⟩] pos) xs [] p0):=by
 refine oa (aP h) λe3 h=>?_;refine oa (aP h) λe4 h=>?_;refine oa (aP h) λe5 h=>?_;refine oa (aP h) λe6 h=>?_;refine oa (aP h) λe7 h=>?_;rw[beq_iff_eq.mp e3,beq_iff_eq.mp e4,beq_iff_eq.mp e5];exact Bt e6 (aP h).1 (aP h).2 (beq_iff_eq.mp e7) tp he (pY hd (by rw[ho,e1,e2])) (db▸hb)
noncomputable def Sv:(o:B)->Option (PLift (o= .sortedBy))| .sortedBy=>some ⟨rfl⟩|_=>none
noncomputable def Ks(sc:Scope)(m:Nat)(c:C)(tg iter:Expr)(xs:List Stmt)(p:Pos):MM L sc m c (.For tg iter xs [] p):=match iter with
 | .Call (.Name id p') [v] [⟨some kn,.Attribute w at' q,kp⟩] pos=>(rec sc m c v).bind λr=>(rec sc m r.1 w).bind λr2=>(vB r2.1).bind λo=>(JA o.1.2).bind λg=>(FU sc g.1.1 tg).bind λtp=>(aS sc m g.1.2.2.1 xs).bind λb=>(eN b.1).bind λdb=>
  (Sv o.1.1).bind λe1=>(Gz g.1.2.1 .seq).bind λe2=>if h:(id==Str.ofString "sorted"&&(kn==Str.ofString "key"&&(at'==Str.ofString "get"&&(aR sc "sorted"&&(sc.names.lookup (Str.ofString (g.1.1.headD ""))==some .local&&(notStar v&&cp w))))))=true then some ⟨g.1.2.2.2,Eb tp.1 r.2 r2.2 (o.2.trans (congrArg _ g.2)) e1.1 e2.1 h b.2 db.1⟩ else none
 |iter=>(P3 rec sc m c iter).bind λr=>(JA r.1.2).bind λq=>(Gz r.1.1 q.1.2.1).bind λes=>if l:Ap r.1.1 q.1.1=true then(FU sc q.1.1 tg).bind λtp=>(aS sc m q.1.2.2.1 xs).bind λb=>(eN b.1).bind λdb=>
  some ⟨q.1.2.2.2,LO tp.1 (r.2 _ l) es.1 q.2 b.2 db.1⟩ else none
noncomputable def OF(sc:Scope)(m:Nat)(c:C)(y:Stmt):MM L sc m c y:=((GP c).bind λe=>some ⟨.done,GJ Bs e.1⟩).or (match y with
 | .Assign [tg] x p=>Kv rec sc m c tg x p
 | .Expr x p=>(rec sc m c x).bind λr=>(Oz r.1).bind λq=>if h:xz x=true then some ⟨q.1,Dp (λenv=>wc h _ env) (pY r.2 q.2)⟩ else none
 | .If t xs ys p=>(rec sc m c t).bind λr=>(FT r.1).bind λq=>(aS sc m q.1.1 xs).bind λa=>(eN a.1).bind λda=>(aS sc m q.1.2.1 ys).bind λb=>(eN b.1).bind λdb=>some ⟨q.1.2.2,PO r.2 q.2 a.2 da.1 b.2 db.1⟩
 | .While t xs [] p=>(Kl c).bind λq=>(rec sc m q.1.1 t).bind λa=>(eN a.1).bind λda=>(aS sc m q.1.2.1 xs).bind λb=>(eN b.1).bind λdb=>some ⟨q.1.2.2,D_ q.2 a.2 da.1 b.2 db.1⟩
 | .For tg iter xs [] p=>Ks rec aS sc m c tg iter xs p
 | .Return (some x) p=>(rec sc m c x).bind λr=>(Oy r.1).bind λq=>some ⟨.done,GZ (pY r.2 q.1)⟩
 | .Break p=>(OC c).bind λq=>some ⟨.done,GJ G_ q.1⟩
 |_=>none)
noncomputable def P0(one:∀(c:C) (y:Stmt),MM L sc m c y):(c:C)->(ys:List Stmt)->Oi L sc m c ys
 |c,[]=>some ⟨c,Dk⟩
 |c,y::ys=>(one c y).bind λr=>(P0 one r.1 ys).bind λq=>some ⟨q.1,Bq r.2 q.2⟩
noncomputable def M0(L:Lv):Nat->∀(sc:Scope) (m:Nat) (c:C) (ys:List Stmt),Oi L sc m c ys
 |0=>λ_ _ _ _=>none
 |n+1=>λsc m=>P0 (OF (P4 L 40) (M0 L n) sc m)
noncomputable def ro(L:Lv)(sc:Scope)(m:Nat)(c:C)(ys:List Stmt):Bool:=(M0 L 20 sc m c ys).any λr=>(eN r.1).isSome
theorem yT{ys:List Stmt}(h:ro L sc m c ys=true):dJ L sc m c .done ys:=by
 unfold ro at h
 cases e:M0 L 20 sc m c ys with
 |none=>rw[e] at h;cases h
 |some r=>
  rw[e] at h;refine oe (YK.mp (show (eN r.1).isSome=true from h)) λd _=>?_;exact PQ r.2 d.1
end
end
end
section
open PySem PySem.W PyProof.Rows PySem.Calls
noncomputable def lL(p:Arguments)(ps:List String):Bool:=p.posonlyargs.isEmpty&&p.vararg.isNone&&p.kwonlyargs.isEmpty&&p.kwarg.isNone&&p.args.map (·.arg)==ps.map Str.ofString&&decide (ps.map Str.ofString).Nodup
theorem uy{α γ:Type}{f g:α->Option γ}:∀{l:List α},(∀x∈l,f x=g x)->l.filterMap f=l.filterMap g
 |[],_=>rfl
 |x::l,h=>by rw[WI,WI,h x Ze,uy λy hy=>h y (Zh _ hy)]
theorem oY{α β:Type}[BEq α][LawfulBEq α]:∀{xs:List α} {vs:List β},xs.length=vs.length->xs.Nodup->xs.filterMap (λn=>((xs.zip vs).lookup n).map (n, ·))=xs.zip vs
 |[],[],_,_=>rfl
 |[],_::_,h,_=>by cases h
 |_::_,[],h,_=>by cases h
 |x::xs,v::vs,hl,nd=>by
  rw[ZD] at nd;rw[V0,WI,ZT,beq_self_eq_true];refine congrArg (List.cons (x,v)) (Uw ?_ (oY (xs:=xs) (vs:=vs) (XB hl) nd.2));have:∀n∈xs,(((x,v)::xs.zip vs).lookup n).map (n, ·)=((xs.zip vs).lookup n).map (n, ·):=λn hn=>by
   have e:(n==x)=false:=beq_eq_false_iff_ne.mpr λe=>nd.1 (e▸hn);rw[ZT,e]
  exact uy this
theorem pt{α β:Type}[BEq α][LawfulBEq α]:∀{xs:List α} {vs:List β},xs.length=vs.length->∀n∈xs,((xs.zip vs).lookup n).isSome=true
 |[],_,_,n,h=>by cases h
 |x::xs,[],hl,_,_=>by cases hl
 |x::xs,v::vs,hl,n,h=>by
  rw[V0,ZT]
  by_cases e:n=x
  . subst e;simp
  . rw[beq_eq_false_iff_ne.mpr e];rcases Zp.mp h with h|h
    . exact absurd h e
    . exact pt (by simpa using hl) n h
theorem z0{α β:Type}{l:List α}{j:Nat}:l.zip (List.drop j ([]:List β))=[]:=by rw[List.drop_nil,List.zip_nil_right]
theorem fz{α β:Type}{l:List α}{s:β}{f:α->β->Sem (ForInStep β)}(h:l=[]):forIn l s f=pure s:=h▸rfl
theorem bz{α β:Type}{x:Sem α}{a:α}{k:α->Sem β}{r:Sem β}(h:x=pure a)(e:k a=r):x >>= k=r:=h▸e
theorem pT{fd:FuncData}{ps:List String}{vals:List Value}(h:lL fd.params ps=true)(hd:fd.defaults= .none)(hl:ps.length=vals.length):bindArgs fd ⟨vals,[]⟩=pure ((ps.map Str.ofString).zip vals):=by
 unfold lL at h;simp only[XA,Wq,XF,beq_iff_eq,decide_eq_true_eq] at h;refine oa h λbU h6=>?_;try clear h;refine oa bU λr_1 h5=>?_;try clear bU;obtain ⟨⟨⟨h1,h2⟩,h3⟩,h4⟩:=r_1
 obtain ⟨_,_,p,_,_,_,_,df,_,_,_,_,_,_,_⟩:=fd;obtain ⟨_,as,_,_,_,_,_⟩:=p;simp only at h1 h2 h3 h4 h5 hd;subst h1 h2 h3 h4 hd;generalize hn:ps.map Str.ofString=ns at h5 h6 ⊢;have Ny:ns.length=vals.length:=by rw[<-hn,Za];exact hl
 subst h5;have c1:¬ (decide (vals.length>(as.map (·.arg)).length)&&true)=true:=by rw[Ny];simp
 have c2:∀k,¬ (!(List.filter (λn=>(List.lookup n ((as.map (·.arg)).zip vals)).isNone) (List.take k (as.map (·.arg)))).isEmpty)=true:=λk=>by
  rewrite [List.filter_eq_nil_iff.mpr λn hn=>?_]
  . exact Bool.noConfusion
  . have:=pt Ny n (Vs hn);exact V2.mp (Option.isNone_eq_false_iff.mpr this)
 exact Uw (if_neg c1) (Uw (if_neg (c2 _)) (bz (fz z0) (congrArg Sem.pure ((congrArg (List.filterMap _) (Zu _)).trans (oY Ny h6)))))
theorem jU:∀(names:List (Str×NameKind)) (n:Nat) (acc:List (Str×Addr)) (x:Str),((x,NameKind.cell)∈names\/(acc.lookup x).isSome=true)->((cellsFrom n names acc).lookup x).isSome=true:=by
 intro names
 induction names with
 |nil=>intro n acc x h;rcases h with h|h;cases h;exact h
 |cons y r ih=>
  intro n acc x h;obtain ⟨m,k⟩:=y;unfold cellsFrom
  by_cases hk:k= .cell
  . subst hk;simp only[beq_self_eq_true,if_true];refine ih _ _ x ?_;rcases h with h|h
    . rcases Zp.mp h with h|h
      . cases h;right;simp
      . exact .inl h
    . right;rw[ZT];split
      . rfl
      . exact h
  . have:(k==NameKind.cell)=false:=beq_eq_false_iff_ne.mpr hk;simp only[this,Xn,if_false];refine ih _ _ x ?_;rcases h with h|h
    . rcases Zp.mp h with h|h
      . cases h;exact absurd rfl hk
      . exact .inl h
    . exact .inr h
theorem zy{kd:Str->Option NameKind}:∀(l:List (Str×Value)) (m:Str->Option Value) (n:Str),n∉l.map (·.1)->bindL kd l m n=m n:=by
 intro l
 induction l with
 |nil=>intro m n _;rfl
 |cons p r ih=>
  intro m n h;obtain ⟨k,v⟩:=p;simp only[Zw,Zp,not_or] at h;unfold bindL;rw[ih _ _ h.2];split
  . show (if n=k then some v else m n)=m n;rw[if_neg h.1]
  . rfl
theorem Cx{kd:Str->Option NameKind}:∀(l:List (Str×Value)) (m:Str->Option Value) (n:Str) (v:Value),(l.map (·.1)).Nodup->(n,v)∈l->kd n=some .local->bindL kd l m n=some v:=by
 intro l
 induction l with
 |nil=>intro m n v _ h;cases h
 |cons p r ih=>
  intro m n v nd h hk;obtain ⟨k,u⟩:=p;simp only[Zw,ZD] at nd;unfold bindL;rcases Zp.mp h with h|h
  . cases h
    rw[zy r _ _ nd.1,if_pos hk,if_pos rfl]
  . exact ih _ n v nd.2 h hk
theorem zA{kd:Str->Option NameKind}:∀(l:List (Str×Value)) (m:Str->Option Value) (n:Str),n∉l.map (·.1)->bindC kd l m n=m n:=by
 intro l
 induction l with
 |nil=>intro m n _;rfl
 |cons p r ih=>
  intro m n h;obtain ⟨k,v⟩:=p;simp only[Zw,Zp,not_or] at h;unfold bindC;rw[ih _ _ h.2];split
  . rfl
  . show (if n=k then some v else m n)=m n;rw[if_neg h.1]
theorem Cy{kd:Str->Option NameKind}:∀(l:List (Str×Value)) (m:Str->Option Value) (n:Str) (v:Value),(l.map (·.1)).Nodup->(n,v)∈l->kd n≠some .local->bindC kd l m n=some v:=by
 intro l
 induction l with
 |nil=>intro m n v _ h;cases h
 |cons p r ih=>
  intro m n v nd h hk;obtain ⟨k,u⟩:=p;simp only[Zw,ZD] at nd;unfold bindC;rcases Zp.mp h with h|h
  . cases h
    rw[zA r _ _ nd.1,if_neg hk,if_pos rfl]
  . exact ih _ n v nd.2 h hk
theorem kt:∀{ps:List String} {vals:List Value} {x:String} {v:V},iG ps (vals.map aq) x=some v->∃v',(Str.ofString x,v')∈(ps.map Str.ofString).zip vals/\aq v'=v
 |[],_,_,_,h=>by cases h
 |_::_,[],_,_,h=>by cases h
 |p::ps,u::vals,x,v,h=>by
  simp only[Zw,iG,bc] at h
  by_cases e:x=p
  . subst e;rw[if_pos rfl] at h;cases h
    exact⟨u,by simp,rfl⟩
  . rw[if_neg e] at h;refine oea (kt h) λv' h1 h2=>?_;exact⟨v',Zh _ h1,h2⟩
structure FnAt(W:dB)(L:Lv)(f:String)(fn:Fn)(l:Nat)(a:Nat)(fd:FuncData):Prop where
 pl:W.fn f=some a
 lv:L.lv.lookup f=some l
 pos:1<=l
 obj:∃o,W.base.get? a=some o/\o.data= .func fd
 code:W.base.CodeRec fd.code fd.qualname
 clo:fd.closure=[]
 gl:fd.globals=mainGlobals
 bi:fd.builtins=builtinsNs
 kd:fd.scope.kind= .function
 co:fd.scope.isCoroutine=false
 gen:fd.scope.isGenerator=false
 ps:lL fd.params fn.ps=true
 df:fd.defaults= .none
 tg:∀n∈fn.ps,cz fd.scope n=true
 fr:∀x∈fd.scope.names,x.2≠ .free
 body:∃b,fd.body= .stmts b/\ro L fd.scope (l - 1) fn.body b=true
section
variable {W:dB}{L:Lv}{γ:String->Option V}
theorem wO{fd:FuncData}{a:Nat}{ps:List String}{vals:List Value}{s s₁:Shared}{H:Hp}{ow:Nat->Option Nat}(R:RH W H ow s.heap)(hk:fd.scope.kind= .function)(hg:fd.globals=mainGlobals)(hb:fd.builtins=builtinsNs)
 (I9:lL fd.params ps=true) (hl:ps.length=vals.length) (htg:∀n∈ps,cz fd.scope n=true) (U4:∀x∈fd.scope.names,x.2≠ .free)
 (x:InCallC s (callEnvC fd s.heap.objs.size a).locals (bindL (callEnvC fd s.heap.objs.size a).kindOf ((ps.map Str.ofString).zip vals) λ_=>none) (callEnvC fd s.heap.objs.size a).cells
  (bindC (callEnvC fd s.heap.objs.size a).kindOf ((ps.map Str.ofString).zip vals) λ_=>none) s₁):
 b7 W (iG ps (vals.map aq)) (callEnvC fd s.heap.objs.size a) H ow s₁.heap:=by
 have nd:(((ps.map Str.ofString).zip vals).map (·.1)).Nodup:=by
  unfold lL at I9;simp only[XA,decide_eq_true_eq] at I9;rw[Um (by simpa using YJ hl)];exact I9.2
 have Ll:∀b,s.heap.objs.size<=b->s.heap.get? b=none:=λb hb=>by
  cases e:s.heap.get? b with
  |none=>rfl
  |some o=>exact absurd (Yi e) (Uz.mpr hb)
 have DG:∀n,(callEnvC fd s.heap.objs.size a).kindOf n≠some .free:=λn e=>U4 _ (Yw (show fd.scope.names.lookup n=some .free from e)) rfl;have EM:∀n,gV (callEnvC fd s.heap.objs.size a) n->∃c,(callEnvC fd s.heap.objs.size a).cells.lookup n=some c:=λn hc=>by
  rcases hc with hc|hc
  . exact YK.mp (jU fd.scope.names _ [] n (.inl (Yw (show fd.scope.names.lookup n=some .cell from hc))))
  . exact absurd hc (DG n)
 refine⟨hk,hg,hb,⟨_,x.toInCall.ns,λy v hy hy0 TZ=>?_⟩,λy v hy hc=>?_,λn hc=>?_,λn c hc=>?_,λn n' c h1 h2=>?_,λb hb=>?_⟩
 . refine oea (kt hy) λv' h1 h2=>?_;exact⟨v',Cx _ _ _ _ nd h1 TZ,h2⟩
 . refine oea (kt hy) λv' h1 h2=>?_;refine oe (EM _ hc) λc e=>?_;have UZ:(callEnvC fd s.heap.objs.size a).kindOf (Str.ofString y)≠some .local:=λq=>by
    rcases hc with hc|hc<;>rw[hc] at q<;>cases q
   have:=x.cell _ _ e;rw[Cy _ _ _ _ nd h1 UZ] at this;exact⟨c,v',e,this,h2⟩
 . refine oe (EM _ hc) λc e=>?_;exact⟨c,_,e,x.cell _ _ e⟩
 . exact Ud (x.above n c (Yw hc))
 . exact PySem.name_of_addr x.apart (Yw h1) (Yw h2)
 . have hd:s.heap.get? b=none:=Ll b (by
    rcases hb with hb|⟨n,hb⟩
    . subst hb;exact Zs _
    . exact ZI (x.above n b (Yw hb)))
   refine⟨λo=>R.ia o hd,cC R.keep hd,?_⟩;rcases hb with hb|⟨n,hb⟩
   . subst hb;exact rv x.toInCall.ns
   . exact uF (x.cell n b hb)
theorem meets_of(F:Full W L γ){f:String}{fn:Fn}{l a:Nat}{fd:FuncData}(N:FnAt W L f fn l a fd){vs:List V}{H:Hp}{Q:V->Hp->Prop}(w:Jz (Meets W L) γ fn vs H Q):Meets W L f vs H Q:=by
 refine oa w λhl w=>?_;refine⟨a,l,N.pl,N.lv,λA s ow vals hA R hv=>?_⟩;subst hv;rw[Za] at hl;refine oea N.obj λo ho Lm=>?_;refine oea N.body λbody Ln UL=>?_;have qf:=N.pos;have Q4:=hA.dp;have T8:=hA.un;refine codeAny_call_cells (prog:=W.prog) (w:=W.w) (binds:=(fn.ps.map Str.ofString).zip vals) (by unfold recursionLimit;exact(aj 0x1103e8601403846110a40123120) _ _ Q4) (R.keep a o ho) Lm (F.lim.keeps R.keep) (N.code.keeps R.keep) Ln
  (pT N.ps N.df hl) N.clo (λx hx=>?_) (λs₁ x=>?_) N.co N.gen N.kd
 . have hm:=(List.of_mem_zip hx).1;refine oea (Zn.mp hm) λn hn e=>?_;have:=N.tg n hn;unfold cz at this;rw[e] at this;simp only[Bool.or_eq_true,beq_iff_eq] at this;rcases this with h|h
   . exact .inl h
   . exact .inr ⟨h,jU _ _ _ _ (.inl (Yw h))⟩
 . have X:=wO (W:=W) R N.kd N.gl N.bi N.ps hl N.tg N.fr x;have R₁:RH W H ow s₁.heap:=R.keeps x.toInCall.keep;have NM:CK (l - 1) (A.deeper (callEnvC fd s.heap.objs.size a)):=⟨hA.hd,nQ (VZ qf Nat.one_pos) Q4 (by decide),nQ (VZ qf Nat.one_pos) T8 (by decide)⟩;refine Zy (yT UL ⟨W,γ,F,A.deeper (callEnvC fd s.heap.objs.size a),callEnvC fd s.heap.objs.size a,rfl,NM⟩ _ H ow s₁ _ _ ⟨X,R₁⟩ w) (λfw s₂ p=>?_) λ_ _ e=>e;refine oeeeaa p λρ' H' aO cu G q=>?_;try clear p;obtain ⟨X',R'⟩:=cu
   have G':=G.out x.toInCall.keep x.toInCall.same (λb hb=>by
    refine oe hb λn hb=>?_;have hb:=hb.ai
    cases e:s.heap.get? b with
    |none=>rfl
    |some o=>
     refine absurd (Yi e) (Uz.mpr ?_);rcases hb with hb|⟨n,hb⟩
     . subst hb;exact Zs _
     . exact ZI (x.above n b (Yw hb)))
   cases fw with
   |next=>exact⟨H',aO,q,R',G'⟩
   |brk=>exact q.elim
   |ret v=>exact⟨H',aO,q,R',G'⟩
   |cont=>exact q.elim
end
end
section
set_option tactic.hygienic true
open PySem PySem.W PyProof.Rows PySem.Calls
noncomputable def ML(_:Str->Option Value)(h:Heap):Prop:=∃K:Frag,K.In h/\rD K=true/\ou K=oq
noncomputable def Og(s:Shared):Bool:=@decide (ML (s.heap.nsMap mainGlobals) s.heap) (Classical.propDecidable _)
theorem Cd(w:World)(os:OsState):topGo treeTable pw w 11 (some (.ref 6)) 12 ⟨boot_heap w.params,Array.mk [],boot_drawn,boot_toks,os⟩ (topStub pw)=some ((zC w os).abs,⟨denote treeTable mI,mI,default,[topFrame default]⟩):=by
 kernel_rfl!
theorem wA(w:World)(os:OsState):segRun treeTable pw w 11 (some (.ref 6)) 1 1 (zC w os).abs (blockOf pw.main.body benv mI default [topFrame default])=some (.next,(zC w os).abs,mI,default):=by
 kernel_rfl!
theorem Ce(w:World)(s:Shared)(p:Pos):topRun treeTable pw w 11 (some (.ref 6)) 2 s ⟨doneF .next,mI,p,[topFrame default]⟩=some s:=by
 kernel_rfl!
theorem y6:opening pw=plainProg pw.main.scope.names:=by kernel_rfl!
theorem wz(s:Shared):fenceModules? pw s=some s:=rfl
theorem y4(w:World):(((boot_heap w.params).isNs mainGlobals&&(#[]:Array GenState).size==0),(boot_heap w.params).objs.size,(boot_heap w.params).nsMap mainGlobals "__annotations__")=(true,11,some (.ref 6)):=by kernel_rfl!
theorem HC{t:BT}{n:Nat}{life:Life}(h:EH t n=true):(ME t).In (absHeap t n life):=by
 intro a o e;have key:∀l:List Nat,(∀a∈l,(Nat.blt a n&&match t.get a with|some o=>(alive o).isSome|none=>false)=true)->(l.map λa=>(a,(t.get a).getD default)).lookup a=some o->(absHeap t n life).get? a=some o:=by
  intro l
  induction l with
  |nil=>intro _ e;cases e
  |cons b r ih=>
   intro hl e;rw[Zw,ZT] at e
   cases q:a==b with
   |false=>rw[q] at e;exact ih (λa m=>hl a (Zh _ m)) e
   |true=>
    rw[q] at e;have:=hl b Ze;obtain rfl:=beq_iff_eq.mp q;rw[XA] at this;obtain ⟨h1,h2⟩:=this
    cases g:t.get a with
    |none=>rw[g] at h2;cases h2
    |some o'=>
     rw[g] at h2 e
     cases e
     rw[abs_get (ZC h1) g];obtain ⟨c,d,dt,sl⟩:=o'
     cases dt<;>first|rfl|cases h2
 exact key _ (ZW.mp h) e
end
section
set_option tactic.hygienic true
open PySem PySem.W PyProof.Rows PySem.Calls
theorem wb{p:Program}{w:World}{N n₀:Nat}{ann:Option Value}{s₀ s₁:Shared}(z1:(s₀.heap.isNs mainGlobals&&s₀.gens.size==0)=true)(z2:s₀.heap.objs.size=n₀)(z3:s₀.heap.nsMap mainGlobals "__annotations__"=ann)
 (R:topRun treeTable p w n₀ ann N s₀ (topStub p)=some s₁) (l:(staticsOk (importedModules p.main.body) s₀.heap s₁.heap&&namesBound p s₁.heap&&gensDone s₁&&laidKept s₀.heap s₁.heap)=true):topFrom treeTable p w N s₀=some s₁:=by
 unfold topFrom;rw[z1,z2,z3,R]
 dsimp only[Option.bind]
 rw[l]
theorem DD{p q:Program}{loose:List Str}{Xt:Shared->Bool}{w:World}{N:Nat}{s₀ s₁:Shared}(f:fencedOpening treeTable p w N=some s₀)(t:topFrom treeTable p w N s₀=some s₁)(x:Xt s₁=true)
 (o:openSeen q loose (importedModules p.main.body) (λ_=>true) true s₁=openGood q loose):(openEnds treeTable p w N).map (λs=>(openSeen q loose (importedModules p.main.body) Xt true s,()))=some (openGood q loose,()):=by
 unfold openEnds;rw[f,Option.bind_some,t,Uv,<-o];unfold openSeen;rw[x]
theorem Ct{p:Program}{w:World}{n₀:Nat}{ann:Option Value}{env:Env}{s₀ s₁ s₂:Shared}{c:Code}{p':Pos}{body:List Stmt}{a b:Nat}(A:topGo treeTable p w n₀ ann a s₀ (topStub p)=some (s₁,⟨denote treeTable (.body body env),c,default,[topFrame default]⟩))
 (B:segRun treeTable p w n₀ ann 1 1 s₁ (blockOf body env c default [topFrame default])=some (.next,s₁,c,default))
 (C:segRun treeTable p w n₀ ann 1 b s₁ (piecesOf body env c default [topFrame default])=some (.next,s₂,c,p')) (D:topRun treeTable p w n₀ ann 2 s₂ ⟨doneF .next,c,p',[topFrame default]⟩=some s₂) (k:Nat):
 topRun treeTable p w n₀ ann (a+(1+(b+2))+k) s₀ (topStub p)=some s₂:=by
 have E:=piece_app (rest:=[]) C (piece_nil D);rw[Zu] at E;exact topRun_mono k _ _ _ _ (go_top A (piece_block B E))
theorem Ec{p:Program}{w:World}{N:Nat}(h:(fencedOpening treeTable p w N).map (λs=>(s.heap,s.gens,s.drawn,s.toks))=some (boot_heap w.params,Array.mk [],boot_drawn,boot_toks)):
 ∃os,fencedOpening treeTable p w N=some ⟨boot_heap w.params,Array.mk [],boot_drawn,boot_toks,os⟩:=by
 refine oea (Z7.mp h) λr_1 e e'=>?_;obtain ⟨h0,gs,d,k,os⟩:=r_1
 cases e'
 exact⟨os,e⟩
theorem y5(w:World)(os:OsState):∃(s':SharedT) (p':Pos),segRunT treeTable pw w 11 (some (.ref 6)) 1 7425 (zC w os) Ak=some (.next,s',mI,p')/\
 (staticsOk tO (boot_heap w.params) s'.abs.heap&&namesBound pw s'.abs.heap&&gensDone s'.abs&&laidKept (boot_heap w.params) s'.abs.heap)=true/\
 openSeen eL iD tO (λ_=>true) true s'.abs=openGood eL iD/\ML (s'.abs.heap.nsMap mainGlobals) s'.abs.heap:=by
 have H:=Cc w os;generalize segRunT treeTable pw w 11 (some (.ref 6)) 1 7425 (zC w os) Ak=r at H ⊢;refine oea (Z7.mp H) λr_2 r_3 e2=>?_;obtain ⟨f,s',c,p'⟩:=r_2;subst r_3;clear H;refine oa (Xa e2) λr1 e2=>?_;refine oa (Xa e2) λr2 e2=>?_;refine oa (Xa e2) λr3 e2=>?_;refine oa (Xa e2) λr4 e2=>?_;refine oa (Xa e2) λr5 e2=>?_;refine oa (Xa e2) λr6 r7=>?_;subst r1 r2;exact⟨s',p',rfl,r3,r4,ME s'.tree,HC r6,r5,r7⟩
theorem y7:LeftO pw eL iD Og (λ_=>()) (λ_=>()) 8000:=by
 intro w;refine oe (Ec (boot_open (p:=pw) (N:=8000) y6 (by decide) wz w)) λos e=>?_;refine oeeaaa (y5 w os) λs' p' e1 r3 r4 hX=>?_;have XL:Og s'.abs=true:=@decide_eq_true _ (Classical.propDecidable _) hX;refine oa (Xa (y4 w)) λz1 z2=>?_;refine oa (Xa z2) λz2 z3=>?_;exact DD e (wb z1 z2 z3 (Ct (Cd w os) (wA w os) (segRun_of e1) (Ce w _ p') 560) r3) XL r4
end
section
set_option tactic.hygienic true
open PySem PySem.W PyProof.Rows PySem.Calls
noncomputable section
theorem iw{α β:Type}[BEq α][LawfulBEq α]{l:List (α×β)}{k:α}{v:β}(h:l.lookup k=some v):(k,v)∈l:=by
 induction l with
 |nil=>cases h
 |cons p r ih=>
  obtain ⟨a,b⟩:=p;rw[ZT] at h
  cases q:k==a with
  |true=>rw[q] at h;cases h;rw[beq_iff_eq.mp q];exact Ze
  |false=>rw[q] at h;exact Zh _ (ih h)
noncomputable def vW:FuncBody->Option (List Stmt)
 | .stmts b=>some b
 | .expr _=>none
noncomputable def Bi(l:Nat)(F:Fn)(p:Option (Arguments×FuncBody×Scope)):Bool:=p.any λp=>(vW p.2.1).any λb=>
 Nat.ble 1 l&&p.2.2.kind== .function&& !p.2.2.isCoroutine&& !p.2.2.isGenerator&&lL p.1 F.ps&&F.ps.all (cz p.2.2)&&p.2.2.names.all (λx=>x.2 != .free)&&ro yi p.2.2 (l - 1) F.body b
noncomputable def lJ(f:String)(F:Fn):Bool:=(kE.lookup f).any λr=>(Qt.lookup f).any λl=>Bi l F (zW r.2.1 r.2.2)
theorem KB:(fns.take 20).all (λp=>lJ p.1 p.2)=true:=by decide+kernel
theorem KA:((fns.drop 20).take 20).all (λp=>lJ p.1 p.2)=true:=by decide+kernel
theorem Kz:((fns.drop 40).take 20).all (λp=>lJ p.1 p.2)=true:=by decide+kernel
theorem Ky:(fns.drop 60).all (λp=>lJ p.1 p.2)=true:=by decide+kernel
theorem Dl{f:String}{F:Fn}(h:fns.lookup f=some F):lJ f F=true:=by
 have m:=iw h;have e:fns=fns.take 20++((fns.drop 20).take 20++((fns.drop 40).take 20++fns.drop 60)):=by
  rw[show fns.drop 60=(fns.drop 40).drop 20 by rw[UC],YW,show fns.drop 40=(fns.drop 20).drop 20 by rw[UC],YW,YW]
 rw[e] at m;rcases Zg.mp m with m|m
 . exact ZW.mp KB (f,F) m
 rcases Zg.mp m with m|m
 . exact ZW.mp KA (f,F) m
 rcases Zg.mp m with m|m
 . exact ZW.mp Kz (f,F) m
 . exact ZW.mp Ky (f,F) m
structure cP(K:Frag):Prop where
 sm:(K.lookup sysModules).isSome=true
 atoms:uH K=true
 empty:uD K=true
 glob:nT K=true
 fns:∀r∈kE,w_ K r.2.1=true
 cls:∀p∈jJ,lQ K p.1 p.2=true
 qD:∀p∈Au,xE K p.1 p.2=true
 meths:∀p∈Aq,xB K p.1 p.2.1 p.2.2=true
 get:specialIn K (.builtin "object.__class__") "__get__"=some (some (.builtin "getset_descriptor.__get__"))
 LZ:takesIn K (.builtin "object.__class__")=some true
 Gq:kitOne K (.type "int") (.type "bool")=some false
theorem cP.of{K:Frag}(h:rD K=true):cP K:=by
 unfold rD at h;refine oa (Zj.mp h) λh s_=>?_;refine oa (Zj.mp h) λh io=>?_;refine oa (Zj.mp h) λh h9=>?_;refine oa (Zj.mp h) λh h8=>?_;refine oa (Zj.mp h) λh h7=>?_;refine oa (Zj.mp h) λh h6=>?_;refine oa (Zj.mp h) λh h5=>?_;refine oa (Zj.mp h) λh h4=>?_;refine oa (Zj.mp h) λh h3=>?_;refine oa (Zj.mp h) λh1 h2=>?_;exact⟨h1,h2,h3,h4,ZW.mp h5,ZW.mp h6,ZW.mp h7,ZW.mp h8,beq_iff_eq.mp h9,beq_iff_eq.mp io,beq_iff_eq.mp s_⟩
theorem yY{v:V}{t:Str}(h:AW t v=true):v= .str t:=by
 cases v<;>first|exact nft h|exact congrArg _ (beq_iff_eq.mp h)
theorem yZ{v:V}{t:Nat}(h:AX t v=true):v= .ref t:=by
 cases v<;>first|exact nft h|exact congrArg _ (beq_iff_eq.mp h)
theorem gH{v:Value}{x:V}(h:mF v x=true):aq v=x:=by
 cases x<;>first|exact nft h|exact yY h|exact yZ h
theorem lU{v:Value}{a:Nat}(h:mF v (.ref a)=true):v= .ref a:=aN (gH h)
theorem any_some{α:Type}{o:Option α}{f:α->Bool}(h:o.any f=true):∃v,o=some v/\f v=true:=by
 cases o with
 |none=>exact nft h
 |some v=>exact⟨v,rfl,h⟩
theorem Cq{d:Data}{es:Array DictEntry}(h:xc d=some es):∃n,d= .dict es n:=by
 cases d<;>first|exact nns h|exact⟨_,congrArg (Data.dict · _) (Z2 h)⟩
theorem DJ{d:Data}{f:FuncData}(h:Gs d=some f):d= .func f:=by
 cases d<;>first|exact nns h|exact congrArg Data.func (Z2 h)
theorem Dr{d:Data}{es:Array Value}(h:JE d=some es):∃n,d= .seq es n:=by
 cases d<;>first|exact nns h|exact⟨_,congrArg (Data.seq · _) (Z2 h)⟩
theorem wy{d:Data}(h:isPlain d=true):d= .plain:=by
 cases d<;>first|rfl|exact nft h
theorem rq{o:Obj}{c d t s}(h1:o.cls=c)(h2:o.dict=d)(h3:o.data=t)(h4:o.slots=s):o=⟨c,d,t,s⟩:=by
 subst h1 h2 h3 h4;rfl
theorem AQ{K:Frag}{h:Heap}{m:Str->Option Value}{a:Nat}(X:K.In h)(N:h.Ns a m){y:Str}{v:Value}(e:xS K a y=some v)(x:Str):xS K a x=m x:=by
 refine oeeeaaa N λo es ep h1 h2 _ h3=>?_;try clear N
 refine oea (Option.bind_eq_some_iff.mp e) λo' q e=>?_;have q2:=Z2 ((X _ _ q).symm.trans h1);subst q2;unfold xS;rw[q];show (xc o'.data).bind _=_;rw[h2];exact h3 x
theorem tN{K:Frag}{h:Heap}{m:Str->Option Value}{a:Nat}(X:K.In h)(N:h.Ns a m){x:Str}{v:Value}(e:xS K a x=some v):m x=some v:=(AQ X N e x).symm.trans e
theorem DA{K:Frag}{h:Heap}{m:Str->Option Value}{a:Nat}(X:K.In h)(N:h.Ns a m){x y:Str}{v:Value}(e':xS K a y=some v)(e:(xS K a x).isNone=true):m x=none:=(AQ X N e' x).symm.trans (XF.mp e)
section
variable {K:Frag}{W:dB}
theorem dR{C:String}{a:Nat}(h:lQ K C a=true):nU K a=true/\ry K a=true/\(∀n∈(Gv.lookup C).getD [],findIn K (.ref a) (Str.ofString n)=some none)/\kitOne K (.type "int") (.ref a)=some false/\
 kitOne K (.type "bool") (.ref a)=some false/\kitOne K (.ref a) (.type "bool")=some false/\(∀p∈jJ,kitOne K (.ref a) (.ref p.2)=some (C==p.1))/\∃v,xS K mainGlobals (Str.ofString C)=some v/\v= .ref a:=by
 unfold lQ at h;refine oa (Zj.mp h) λh h8=>?_;refine oa (Zj.mp h) λh h7=>?_;refine oa (Zj.mp h) λh h6=>?_;refine oa (Zj.mp h) λh h5=>?_;refine oa (Zj.mp h) λh h4=>?_;refine oa (Zj.mp h) λh h3=>?_;refine oa (Zj.mp h) λh1 h2=>?_;refine oea (any_some h8) λv x y=>?_;exact⟨h1,h2,λn m=>beq_iff_eq.mp (ZW.mp h3 n m),beq_iff_eq.mp h4,beq_iff_eq.mp h5,beq_iff_eq.mp h6,λp m=>beq_iff_eq.mp (ZW.mp h7 p m),v,x,lU y⟩
theorem Ht(X:cP K)(hK:W.K=K)(hc:∀C,W.cls C=jJ.lookup C):W.MO:=by
 subst hK;have c2:∀{C a},W.cls C=some a->lQ W.K C a=true:=λ{C a} e=>X.cls (C,a) (iw ((hc _).symm.trans e));refine⟨λC a e=>?_,X.get,X.LZ,λC a C' a' e e'=>?_,λC a e=>?_,λC a e=>?_,λC a e=>?_,X.Gq⟩
 . exact(dR (c2 e)).2.1
 . exact(dR (c2 e)).2.2.2.2.2.2.1 (C',a') (iw ((hc _).symm.trans e'))
 . exact(dR (c2 e)).2.2.2.1
 . exact(dR (c2 e)).2.2.2.2.1
 . exact(dR (c2 e)).2.2.2.2.2.1
theorem DH(X:cP K)(hK:W.K=K)(hc:∀C,W.cls C=jJ.lookup C)(I:K.In W.base):W.Good:=by
 subst hK;have c2:∀{C a},W.cls C=some a->lQ W.K C a=true:=λ{C a} e=>X.cls (C,a) (iw ((hc _).symm.trans e));refine⟨I,λC a e=>(dR (c2 e)).1,λC a n e h=>(dR (c2 e)).2.2.1 n ?_⟩;unfold iy at h;refine oea (any_some h) λl hl hn=>?_;rw[hl];exact Z0.mp hn
theorem DN{f:String}{a:Nat}(h:xT f=some a):∃r,(f,a,r)∈kE/\kE.lookup f=some (a,r):=by
 refine oea (Z7.mp h) λr_1 h1 r_2=>?_;obtain ⟨b,r⟩:=r_1;subst r_2;exact⟨r,iw h1,h1⟩
theorem uw{a:Nat}(h:w_ K a=true):keepIn K (.ref a)=true/\∃d fd sl,K.lookup a=some ⟨.type "function",d,.func fd,sl⟩/\fd.closure=[]/\fd.globals=mainGlobals/\fd.builtins=builtinsNs/\fd.defaults= .none/\codeIn K fd.code fd.qualname=true:=by
 unfold w_ at h;refine oa (Zj.mp h) λh0 h=>?_;refine⟨h0,?_⟩;refine oea (any_some h) λo q h=>?_;refine oa (Zj.mp h) λc h=>?_;refine oea (any_some h) λfd q2 h=>?_;refine oa (Zj.mp h) λh h5=>?_;refine oa (Zj.mp h) λh h4=>?_;refine oa (Zj.mp h) λh h3=>?_;refine oa (Zj.mp h) λh1 h2=>?_;exact⟨o.dict,fd,o.slots,q.trans (congrArg some (rq (beq_iff_eq.mp c) rfl (DJ q2) rfl)),Wq.mp h1,beq_iff_eq.mp h2,beq_iff_eq.mp h3,beq_iff_eq.mp h4,h5⟩
theorem DK(X:cP K)(hK:W.K=K)(hc:∀C,W.cls C=jJ.lookup C)(hf:∀f,W.fn f=xT f)(I:K.In W.base)(lim:W.base.NoLimit)(g:W.base.Ns mainGlobals W.mg)(b:W.base.Ns builtinsNs W.mb):Full W yi λx=>Dc.lookup x:=by
 have Gd:=DH X hK hc I;have Is:=Ht X hK hc;subst hK;have glob:=X.glob;unfold nT at glob;refine oa (Zj.mp glob) λglob g3=>?_;refine oa (Zj.mp glob) λg1 g2=>?_;have ES:∀{C a},jJ.lookup C=some a->W.mg (Str.ofString C)=some (.ref a):=λ{C a} e=>by
  refine oea ((dR (X.cls (C,a) (iw e))).2.2.2.2.2.2.2) λv h1 h2=>?_;exact tN I g (h1.trans (congrArg some h2))
 have JY:∃v,xS W.K mainGlobals "FUN"=some v:=by
  refine oea (any_some (ZW.mp g2 ("FUN",sv "fun") Ze)) λv h1 h2=>?_;exact⟨v,h1⟩
 refine⟨Gd,Is,?_,lim,g,b,λC f e=>?_,λC e=>?_,λf a e=>?_,λf e=>?_,λf C m e=>?_,λx v e=>?_,?_,λp hp=>?_⟩
 . refine oe (YK.mp X.sm) λo e=>?_;rw[I _ _ e];exact λq=>by cases q
 . have h:=X.qD (C,f) (iw e);refine oea (any_some h) λc e1 h=>?_;refine oea (any_some h) λa e2 h=>?_;refine oa (Zj.mp h) λh1 h2=>?_;exact⟨c,a,(hc _).trans e1,ES e1,h1,(hf _).trans e2,beq_iff_eq.mp h2⟩
 . have h:(J4.all λC=>(jJ.lookup C).isSome)=true:=by decide+kernel
   refine oe (YK.mp (ZW.mp h C (Z0.mp e))) λc ip=>?_;exact⟨c,(hc _).trans ip,ES ip⟩
 . refine oea (DN ((hf _).symm.trans e)) λr m _=>?_;obtain ⟨h1,d,fd,sl,h2,_⟩:=uw (X.fns (f,a,r) m);refine⟨?_,h1⟩;show (W.K.lookup a).map (·.cls)=_;rw[show W.K.lookup a=_ from h2];rfl
 . have h:=ZW.mp g1 f (Z0.mp e);refine oea (any_some h) λa e1 h=>?_;refine oea (any_some h) λv e2 h=>?_;exact⟨a,(hf _).trans e1,tN I g (e2.trans (congrArg some (lU h)))⟩
 . have h:=X.meths (f,C,m) (iw e);refine oea (any_some h) λc e1 h=>?_;refine oea (any_some h) λa e2 h=>?_;exact⟨c,a,(hc _).trans e1,(hf _).trans e2,beq_iff_eq.mp h⟩
 . refine oea (any_some (ZW.mp g2 (x,v) (iw e))) λv' h1 h2=>?_;exact⟨v',tN I g h1,gH h2⟩
 . exact⟨(hc _).trans (by decide+kernel),(hc _).trans (by decide+kernel)⟩
 . refine oa (Zj.mp (ZW.mp g3 p hp)) λh1 h2=>?_;refine oe JY λv hv=>?_;try clear JY
   exact⟨DA I g hv h1,tN I b (beq_iff_eq.mp h2)⟩
theorem BI(h:ou K=oq):∀r∈kE,rE K r.2.1=zW r.2.2.1 r.2.2.2:=by
 have e:kE.map (λr=>rE K r.2.1)=kE.map (λr=>zW r.2.2.1 r.2.2.2):=h;exact List.map_inj_left.mp e
theorem yB{f:FuncBody}{b:List Stmt}(h:vW f=some b):f= .stmts b:=by
 cases f with
 |stmts c=>exact congrArg _ (Z2 h)
 |expr c=>exact nns h
theorem DM(X:cP K)(P:ou K=oq)(hK:W.K=K)(hf:∀f,W.fn f=xT f)(I:K.In W.base){f:String}{F:Fn}(h:fns.lookup f=some F):∃l a fd,FnAt W yi f F l a fd:=by
 have s:=Dl h;unfold lJ at s;refine oea (any_some s) λr e1 s=>?_;refine oea (any_some s) λl e2 s=>?_;have hp:=BI P (f,r) (iw e1);refine oa (uw (X.fns (f,r) (iw e1))) λ_ h=>?_;refine oeeeaaaaa h λd fd sl h2 h3 h4 h5 h6 h7=>?_;unfold rE at hp;rw[show K.lookup r.1=_ from h2] at hp;rw[<-(show some (fd.params,fd.body,fd.scope)=zW r.2.1 r.2.2 from hp)] at s;unfold Bi at s;refine oea (any_some (show (vW fd.body).any _=true from s)) λb q2 s=>?_;refine oa (Zj.mp s) λs s8=>?_;refine oa (Zj.mp s) λs s7=>?_;refine oa (Zj.mp s) λs s6=>?_;refine oa (Zj.mp s) λs s5=>?_;refine oa (Zj.mp s) λs s4=>?_;refine oa (Zj.mp s) λs s3=>?_;refine oa (Zj.mp s) λs1 s2=>?_;exact⟨l,r.1,fd,(hf f).trans (by unfold xT;rw[e1];rfl),e2,ZC s1,⟨_,I _ _ h2,rfl⟩,codeRec_of I h7,h3,h4,h5,beq_iff_eq.mp s2,by simpa using s3,by simpa using s4,s5,h6,ZW.mp s6,
  λx m=>by simpa using ZW.mp s7 x m,b,yB q2,s8⟩
end
end
end
section
set_option tactic.hygienic true
open PySem PySem.W PyProof.Rows PySem.Calls
noncomputable section
noncomputable abbrev vV:=PySem.Challenge.rw_rg0282_01.row.toRowW
noncomputable def CE(s:Nat)(l:List Int):Hp:=λa=>if a=242 then some (.tup (v8.map sv)) else if a=44 then some (.cZ "Special" [("title",sv "empty")]) else if a=s then some (.eA (l.map .int)) else none
section
variable {K:Frag}{W:dB}
theorem Bu{l:List String}:∀{vs:List Value},Am l vs=true->vs.map aq=l.map sv:=by
 induction l with
 |nil=>exact λ{vs} h=>congrArg _ (Wq.mp h)
 |cons x l ih=>
  intro vs h;refine oa (Zj.mp h) λh1 h2=>?_
  cases vs with
  |nil=>exact nft h1
  |cons v vs=>rw[Zw,Zw,ih (vs:=vs) h2,gH (x:=sv x) h1]
theorem uG(X:cP K):∃d vs n sl,K.lookup 242=some ⟨.type "tuple",d,.seq vs n,sl⟩/\vs.toList.map aq=v8.map sv:=by
 refine oea (any_some X.atoms) λo q h=>?_;refine oa (Zj.mp h) λc h=>?_;refine oea (any_some h) λvs q2 h=>?_;refine oe (Dr q2) λn e=>?_;exact⟨o.dict,vs,n,o.slots,q.trans (congrArg some (rq (beq_iff_eq.mp c) rfl e rfl)),Bu h⟩
theorem uC(X:cP K):∃es n,K.lookup 44=some (instObj 38 43)/\K.lookup 43=some (dictOf es n)/\FR es [("title",sv "empty")]:=by
 refine oa (Zj.mp X.empty) λh h'=>?_;refine oea (any_some h) λo q h=>?_;refine oa (Zj.mp h) λh a4=>?_;refine oa (Zj.mp h) λh a3=>?_;refine oa (Zj.mp h) λa1 a2=>?_;refine oea (any_some h') λo' q' h=>?_;refine oa (Zj.mp h) λh h4=>?_;refine oa (Zj.mp h) λh b3=>?_;refine oa (Zj.mp h) λb1 b2=>?_;refine oea (any_some h4) λes c1 h=>?_;refine oa (Zj.mp h) λh c3=>?_;refine oea (any_some h) λe c2 h=>?_;refine oa (Zj.mp h) λd1 d2=>?_;refine oe (Cq c1) λn c4=>?_;refine oe (fQ (gH d1)) λt ht=>?_;refine⟨es.toList,n,q.trans (congrArg some (rq (beq_iff_eq.mp a1) (beq_iff_eq.mp a2) (wy a3) (Ue.mp a4))),
  q'.trans (congrArg some (rq (beq_iff_eq.mp b1) (XF.mp b2) c4 (Ue.mp b3))),?_⟩
 revert c2 c3
 cases es.toList with
 |nil=>exact λ_ h=>nns h
 |cons x l=>
  intro h2 h1;rw[show l=[] from Wq.mp h2];refine oe (fQ (gH d2)) λt' Uf=>?_;rw[Z2 h1];exact⟨⟨t,ht⟩,gH d2,by rw[Uf];rfl,trivial⟩
theorem SJ(X:cP K)(hc:∀C,W.cls C=jJ.lookup C)(I:K.In W.base){s:Nat}{l:List Int}(hs:∃vs,W.base.IsList s vs/\vs.toList.map aq=l.map .int/\l.length<=big):RH W (CE s l) (λ_=>none) W.base:=by
 obtain ⟨d,vs,n,sl,a1,a2⟩:=uG X;obtain ⟨es,n',b1,b2,b3⟩:=uC X;refine⟨λa o e=>?_,λa d e=>(by cases e),λa b d e=>(by cases e),λ_ _ e=>e,λb m=>?_⟩
 . unfold CE at e;split at e
   . rename_i q;subst q;cases e
     exact⟨vs,⟨_,I _ _ a1,rfl,n,rfl⟩,a2,by decide⟩
   split at e
   . rename_i q;subst q;cases e
     exact⟨38,43,es,n',(hc _).trans rfl,I _ _ b1,I _ _ b2,b3,by decide,λp hp=>by rw[Zc.mp hp];rfl⟩
   split at e
   . rename_i q;subst q;cases e
     obtain ⟨vs,c1,c2,c3⟩:=hs;exact⟨vs,c1,c2,by rw[Za];exact c3⟩
   . cases e
 . have no:∀o,CE s l b=some o->(∃xs,o= .tup xs)\/(∃C fs,o= .cZ C fs)\/∃xs,o= .eA xs:=λo e=>by
    unfold CE at e;split at e
    . cases e;exact .inl ⟨_,rfl⟩
    split at e
    . cases e;exact .inr (.inl ⟨_,_,rfl⟩)
    split at e
    . cases e;exact .inr (.inr ⟨_,rfl⟩)
    . cases e
   rcases m with ⟨xs,e⟩|⟨es,e|e⟩|⟨a,e⟩
   . rcases no _ e with ⟨_,q⟩|⟨_,_,q⟩|⟨_,q⟩<;>cases q
   . rcases no _ e with ⟨_,q⟩|⟨_,_,q⟩|⟨_,q⟩<;>cases q
   . rcases no _ e with ⟨_,q⟩|⟨_,_,q⟩|⟨_,q⟩<;>cases q
   . cases e
theorem Kf{γ:String->Option V}(F:Full W yi γ)(hF:∀f F,fns.lookup f=some F->∃l a fd,FnAt W yi f F l a fd)(hg:∀x,γ x=Dc.lookup x):Wd (Meets W yi) γ:=by
 refine⟨?_,λf F' h vs H Q w=>?_,hg _,hg _,hg _,hg _,hg _,hg _,hg _,hg _,hg _,hg _⟩
 . intro f vs H Q Q' h q;obtain ⟨a,l,e1,e2,w⟩:=h;exact⟨a,l,e1,e2,λA s ow Ef hA R hv=>WN (w A s ow Ef hA R hv) λr s' p=>by
    revert p
    cases r with
    |error e=>exact id
    |ok f=>cases f<;>first|exact id|exact λp=>p.aV q⟩
 . obtain ⟨l,a,fd,N⟩:=hF f F' h;exact meets_of F N w
theorem B_(X:cP K)(P:ou K=oq)(hK:W.K=K)(hc:∀C,W.cls C=jJ.lookup C)(hf:∀f,W.fn f=xT f)(I:K.In W.base)(lim:W.base.NoLimit)(g:W.base.Ns mainGlobals W.mg)(b:W.base.Ns builtinsNs W.mb)
 {s:Nat} {l:List Int} (hs:∃vs,W.base.IsList s vs/\vs.toList.map aq=l.map .int/\l.length<=big) {s₁:Shared} (hb:s₁.heap=W.base):
 codeAny W.M callerA (.call (.ref 942) ⟨[.ref s],[]⟩) (λr s'=>match r with| .ok (.ret v)=>v= .bool true/\(∀b o,s₁.heap.get? b=some o->s'.heap.get? b=some o)/\s'.os=s₁.os/\s'.gens=s₁.gens|_=>False) s₁:=by
 have F:=DK X hK hc hf I lim g b;have D:=Kf F (λf F' h=>DM X P hK hf I h) λ_=>rfl;have R:=SJ X hc I hs;have B:Base (λx=>Dc.lookup x) (CE s l):=⟨⟨242,rfl,rfl⟩,44,rfl,rfl⟩;obtain ⟨d,vs,n,sl,a1,a2⟩:=uG X;obtain ⟨es,n',b1,b2,b3⟩:=uC X;have q:CE s l s=some (.eA (l.map .int)):=by
  obtain ⟨Ef,⟨o,h1,h2,h3⟩,_⟩:=hs;unfold CE;rw[if_neg λe=>?_,if_neg λe=>?_,if_pos rfl]
  . subst e;rw[I _ _ b1] at h1;cases h1;cases h2
  . subst e;rw[I _ _ a1] at h1;cases h1;exact absurd (Value.type.inj h2) (by decide)
 obtain ⟨a,l',e1,e2,w⟩:=KW D (qh D) B q;obtain rfl:942=a:=Z2 ((hf "law").symm.trans e1:some 942=some a);obtain rfl:10=l':=Z2 (e2:some 10=some l');refine WN (w callerA s₁ (λ_=>none) [.ref s] ⟨rfl,by decide,by decide⟩ (hb▸R) rfl) λr s' p=>?_
 revert p
 cases r with
 |error e=>exact id
 |ok f=>
  cases f<;>first|exact id|skip
  rintro ⟨H',aO,h1,h2,h3⟩;obtain ⟨h',t',e⟩:=h3.st;subst e;exact⟨eG h1,hb▸h2.keep,rfl,rfl⟩
end
end
end
section
set_option tactic.hygienic true
open PySem PySem.W PyProof.Rows PySem.Calls
noncomputable section
theorem o0{cl:Str->Option Addr}{h:Heap}:∀{xs:List WData} {vs:List Value} {as:List Addr},WShape.hasItems [] xs .int=true->ReadsAllW [] cl h vs xs as->∃l:List Int,vs.map aq=l.map .int/\l.length=xs.length
 |[],_,_,_,r=>(readsAllW_nil_inv r).1▸⟨[],rfl,rfl⟩
 |x::xs,_,_,hx,r=>by
  obtain ⟨h1,h2⟩:=Zj.mp hx;obtain ⟨i,rfl⟩:=hasW_int h1;obtain ⟨v,vs,_,_,rfl,_,r1,r2⟩:=readsAllW_cons_inv r;obtain ⟨t,rfl,_⟩:=readsW_int_inv r1;obtain ⟨l,e,n⟩:=o0 h2 r2;exact⟨i::l,congrArg (V.int i:: ·) e,congrArg Nat.succ n⟩
theorem Dv{xs:List WData}(h:(PySem.Challenge.rw_rg0282_01.row.pre.holds [] {args:=[.list xs]})=true):xs.length<=63:=by
 have e:PySem.Challenge.rw_rg0282_01.row.pre.holds [] {args:=[.list xs]}=(!(decide ((63:Int)<xs.length))):=by
  simp[OpenLaw.row,OpenLaw.pre,PySem.Challenge.rw_rg0282_01,WTm.holds,WTm.value];rw[show less? (.int 63) (.int xs.length)=some (decide ((63:Int)<xs.length)) by simp[less?];rfl]
  cases decide ((63:Int)<xs.length)<;>rfl
 rw[e] at h;simp at h
 omega
theorem Dw(xs:List WData):vV.claim.post [.list xs] (.bool true) [.list xs]=true:=by
 simp[vV,RowW.claim,OpenLaw.row,PySem.Challenge.rw_rg0282_01,WTm.holds,WTm.value,WShape.has,WShape.arms,same]
theorem Dy{cl:Str->Option Addr}{h:Heap}{args:List WData}{vals:List Value}{as:List Addr}(p:WShape.hasAll [] args [.list .int]=true)(r:ReadsAllW [] cl h vals args as):
 ∃xs a vs bs,args=[.list xs]/\vals=[.ref a]/\h.IsList a vs/\ReadsAllW [] cl h vs.toList xs bs/\WShape.hasItems [] xs .int=true:=by
 obtain ⟨x,ys,rfl,p1,p2⟩:=hasAllW_cons p;obtain rfl:=hasAllW_nil p2;obtain ⟨xs,rfl,hi⟩:=hasW_list p1;obtain ⟨v,Ef,_,_,rfl,_,r1,r2⟩:=readsAllW_cons_inv r;obtain ⟨rfl,_⟩:=readsAllW_nil_inv r2;obtain ⟨a,vs,bs,rfl,il,r3,_⟩:=readsW_list_inv r1;exact⟨xs,a,vs,bs,rfl,rfl,il,r3,hi⟩
theorem y8{d:DefRec}{TJ:List (Str×Expr)}(hd:d.name=(Str.ofString "law")):WalkO eL iD ML (λ_ _=>True) vV d TJ λf vs=>PySem.call f vs:=by
 intro w s₀ s₁ mg mb G _ a o pm cd doc dV kV h1 h2 h3 h4 QV Lj args vals as Pi hlay UF hwl hlo;obtain ⟨K,I,ok,P⟩:=G.X;have X:=cP.of ok;have hA:942=a:=by
  have glob:=X.glob;unfold nT at glob;have h:=ZW.mp (Zj.mp (Zj.mp glob).1).1 "law" (by decide+kernel);refine oea (any_some h) λb e1 h=>?_;refine oea (any_some h) λv e2 h=>?_;have e3:=tN I G.T.g e2;rw[hd] at QV;rw[QV] at e3;rw[<-Z2 e3] at h;have e4:some 942=some b:=e1;rw[Z2 e4];exact(Value.ref.inj (lU h)).symm
 subst hA;obtain ⟨p1,p2⟩:=Zj.mp Pi;obtain ⟨xs,a,vs,bs,rfl,rfl,il,q4,q5⟩:=Dy p1 UF;obtain ⟨l,e,hn⟩:=o0 q5 q4;have hl:=Dv p2;have L:=B_ (W:=⟨pw,w,K,s₁.heap,mg,mb,λC=>jJ.lookup C,λf=>xT f⟩) X P rfl (λ_=>rfl) (λ_=>rfl) I G.T.nolimit G.T.g G.T.b (l:=l) ⟨vs,il,e,by unfold big;omega⟩ (s₁:=s₁) rfl;refine Vg (WN L λr s' p=>?_)
 revert p
 cases r with
 |error e=>exact False.elim
 |ok f=>
  cases f<;>first|exact False.elim|skip
  rintro ⟨rfl,k,os,gs⟩;exact⟨.inl ⟨_,_,[],rfl,λ_=>rfl,.bool true,Dw xs,λ_=>⟨Ym,λ_ m=>by cases m⟩⟩,.of_keep k,os,.of_eq (gs.trans Lj)⟩
noncomputable def theDef:Option (DefRec×List (Str×Expr)):=defOf eL (Str.ofString "law")
theorem qI:theDef.isSome=true:=by decide+kernel
noncomputable def q_:DefRec×List (Str×Expr):=theDef.get qI
theorem HR:defOf eL PySem.Challenge.rw_rg0282_01.row.name=some (q_.1,q_.2):=(Option.some_get qI).symm
theorem HT:PySem.Challenge.rw_rg0282_01.row.prog.theDef PySem.Challenge.rw_rg0282_01.row.name=some (q_.1.params,q_.1.body,q_.1.scope):=by kernel_rfl!
theorem HS:kwWritten? q_.1.params.kwonlyargs q_.1.params.kw_defaults=some q_.2:=by kernel_rfl!
theorem Cr:q_.1.name=Str.ofString "law":=by kernel_rfl!
theorem row_holds(OK:PySem.Challenge.rw_rg0282_01.row.wellSaid=true):PySem.Challenge.rw_rg0282_01.row.Holds:=
 holds_open (q:=eL) (loose:=iD) (Xt:=Og) (XP:=ML) (Yf:=λ_=>()) (Ya:=λ_=>()) (YP:=λ_ _=>True) (N:=8000) y7 (λ_ _ _=>trivial) (λ_ _ _ _ _=>trivial)
  (λs h=>@of_decide_eq_true _ (Classical.propDecidable _) h) (λ_ _ _ ⟨K,I,r⟩ k=>⟨K,I.keeps k,r⟩) HR HT HS (λs _=>recFacts_of (R:=[]) rfl) rfl OK (by decide+kernel) ⟨rfl,rfl,rfl,rfl,rfl,by decide+kernel⟩ ⟨[.list []],by decide+kernel,by decide+kernel⟩ (y8 Cr)
end
end
end Mine
theorem PySem.Challenge.cw_rg0282_01_holds : PySem.Challenge.rw_rg0282_01.Holds :=
 PySem.W.holds_law Mine.law_said Mine.row_holds
