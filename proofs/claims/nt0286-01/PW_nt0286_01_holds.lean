import PyProof.Rows.All
import Wide.All
import OpenK.AllK
import Wide.FinOn
import PySem.Challenge.RW_nt0286_01
open _root_.PySem.Str renaming ofString->Wg
open _root_.Nat renaming le_trans->Wh,le_of_ble_eq_true->Wj,le_refl->Wr,succ_le_succ->Ww,lt_of_le_of_lt->Wz,le_add_right->WA,add_le_add_left->WD,add_le_add_right->WE,add_le_add->WH,zero_le->WI,lt_of_lt_of_le->WK,add_assoc->WV,ne_of_lt->W8,mul_le_mul_left->W9,add_comm->Xd,not_lt->Xq,zero_add->Xx,le_of_lt->Xy,le_of_eq->Xz,le_succ->XC,succ_pos->XF,lt_trans->XN,add_right_comm->X1,le_add_left->X5,lt_succ_self->X7,le_of_succ_le_succ->Yi,le_of_succ_le->Yk,eq_of_beq_eq_true->Yl,lt_add_of_pos_right->Ys,le_succ_of_le->YA,beq->YB,min_le_right->YM,ne_of_gt->YN,eq_zero_of_le_zero->Y2,sub_le->Y6,lt_of_succ_lt_succ->Zy,ble->Zz,le_of_lt_succ->ZK,min_eq_left->Z8,succ_mul->aal,ble_eq->aaD,mul_le_mul_right->aaG,sub_lt_sub_left->aaU,add_lt_add_left->aaV,sub_add_cancel->abd,lt_succ_of_le->abn,add_left_comm->abo,mod_eq_of_lt->abE,sub_self->abZ,mul_succ->ab0,mod_lt->ab1,not_lt_zero->ab4,min_le_left->ab5,le_antisymm->ab6,two_mul->acs,add_sub_cancel'->acF,lt_irrefl->acH,mul_pos->ado,zero_lt_one->adJ,succ->adU,succ_pred_eq_of_pos->aep,add_sub_cancel_left->aeq,sub_eq_zero_iff_le->aeR,lt_asymm->aeS,add_zero->aeT,not_succ_le_zero->afh,not_succ_le_self->afi,log2_lt->afj
open _root_.List renaming length_append->Wk,mem_cons->Wo,length_map->Wp,size_toArray->Wu,append_assoc->Wx,mem_singleton->WB,cons_ne_nil->WM,mem_map->WN,mem_append->WO,map_append->WQ,append_nil->WT,contains_iff_mem->WU,mem_append_right->WW,length_cons->WX,map_cons->WZ,all_eq_true->W0,length_drop->W7,replicate->Xb,eq_nil_of_length_eq_zero->Xg,isEmpty_iff->Xj,getElem?_eq_getElem->Xk,drop_drop->Xl,length_take->Xr,getElem?_eq_some_iff->Xw,range->XI,mem_of_getElem?->XJ,map_map->XM,nodup_cons->XT,mem_map_of_mem->X8,getElem?_toArray->X9,length_nil->Yh,casesOn->Yn,mem_append_left->Yp,cons_append->Yq,toArray->Yy,length_reverse->YC,take_append_drop->YJ,getElem?_map->YQ,flatten_cons->YR,map_id'->Y0,any_cons->Y3,take_left->Y4,eq_append_cons_of_mem->Y5,length_range->Zc,map_eq_nil_iff->Zl,mem_flatMap->Zm,length_eq_zero_iff->Zn,drop_left->Zo,take_of_length_le->Zt,filter_eq_nil_iff->Zu,drop_eq_nil_of_le->Zv,find?_cons->ZC,pairwise_map->ZI,length_eraseIdx_of_lt->ZO,getElem?_append_right->ZP,getElem_mem->ZS,any_eq_true->ZT,getElem_of_mem->ZV,flatten_append->ZW,head?_drop->Z5,contains_cons->Z9,any_eq_false->aai,length_singleton->aar,cons_lt_cons_iff->aas,take_length->aau,mem_reverse->aav,append_cons->aaw,mem_of_mem_take->aaE,mem_of_mem_drop->aaF,nil_append->aaJ,length_set->aaK,foldl_cons->aaL,mem_filterMap->aa5,map_singleton->aa6,lt_irrefl->aa7,getElem?_append_left->abh,extract_eq_take_drop->abi,take_add_one->abl,reverse_cons->abm,map_take->abp,map_drop->abq,not_mem_nil->abA,filter_cons_of_pos->abB,filter_cons_of_neg->abC,flatten_singleton->abN,of_mem_zip->ab2,mem_filter->ab3,extract_toArray->ach,dropLast_concat->aci,map_congr_left->acz,append_toArray->acA,pairwise_cons->acI,findIdx?_eq_some_iff_getElem->acS,foldl_append->acZ,eraseIdx_eq_take_drop_succ->ac3,lookup_cons->adb,isEmpty_map->ade,lookup->adj,length->adk,headD_cons->adp,forIn_cons->adq,foldr_cons->ads,dropLast_concat_getLast->adt,take_zero->adN,tail_drop->adO,foldl_nil->adP,pairwise_iff_getElem->adV,drop_eq_getElem_cons->adW,lt_trans->ad2,getElem?_take_of_lt->ad3,filterMap_cons_some->ad4,all_cons->ad5,take->aec,pairwise_singleton->aed,lookup_eq_some_iff->aee,getElem?_replicate->aef,zipWith_cons_cons->aer,sum_replicate_nat->aes,range_succ_eq_map->aet,map_nil->aeu,take_eq_take_min->aeU,length_filter_le->aeV,reverse_reverse->ae4,rec->ae5,not_lt->ae6,mem_of_getLast?->ae7,map_eq_cons_iff->ae8,getLast?_append->ae9,getElem?_of_mem->afa,replicate_succ->afk,length_flatten->afl,map_replicate->afu,filter_append->afv
open _root_.PySem renaming wpAny_bind->Wl,Value->Wn,wpAny_pure->Wq,Shared->Ws,wpAny->WJ,builtinLookup_eq_fast->WY,sizeLine_eq->W5,Builtin->Xf,typeLookup_type->Xh,Around->Xm,wpAny_holding->Xu,isSubtype_type->XG,mainGlobals->XH,standAt->XO,Builtin->XQ,holding->XU,entryFor_of_tree->XX,entryFor_of_fast->XY,checkBuiltinCall->XZ,starEach->Yb,wpAny_setState_of->Yc,wpAny_mono->Ym,argsOk->Yu,wpAny_askSetting->Yx,wpAny_rule->YD,wpAny_newObj_type->YE,foldedSetIterable->YF,entryFor->YG,builtinType_eq_fast->YI,wpAny_callSpecial?_slot->YV,model->YW,codeAny_builtin->Y1,wpAny_call_entry->Y9,assign->Zb,rawInt->Zf,wpAny_specialOf->Zg,wpAny_truthy_bool->Zh,wpAny_loadPart_at->Zi,SetTable->Zj,Scope->Zk,wpAny_newList->Zp,backTo->Zq,wpAny_isInstance->Zw,NameKind->Zx,wpAny_setField_rec->ZH,swappedStores->ZL,plainId_quiet->ZM,call_meets->ZX,swapsWith->Z2,compareOp->Z3,wpAny_isSubtype_exc->aaa,table->aaf,builtinType->aan,wpAny_seqItems->aaz,wpAny_load->aaM,isInstance->aaN,builtinsNs->aaO,assignEach->aaP,DictEntry->aaQ,wpAny_mkBytes->aaS,Fin->aaT,evalPart->aaW,codeAny_call_builtin->aaX,FuncData->aaZ,pyNext->aa9,codeAny_of_tree->aba,callSpecialIfBound?->abf,operate->abj,wpAny_call->abt,typeLookup->abu,call_gives->abv,spliced->abG,fastTable_eq_tree->abH,World->abI,Program->abK,wpAny_attempt->abP,typeOf->abQ,isTrue->abR,clipAt->abS,behindInMarks->abT,Result->abU,Comprehension->abV,scanBound->ab7,noteFrame->ab8,evalPairs->ab9,bindArgs->aca,relabel->acj,callerA->ack,bootBuiltins->acm,allTrue->acn,theTreesLotGoes->acu,wpAny_mkInt->acJ,wpAny_loadPart->acK,wpAny_loadName_local->acL,wpAny_fieldsOf->acM,wpAny_field->acN,subscripted->acO,sizeLine->acP,relayAll->acQ,setNext->acV,seqIndex?->acW,raiseStmt->acX,cellsFrom->acY,wpAny_standAt->ac5,attributeBase->ac6,typeIs_str->adf,pyIter->adg,wpAny_typeOf->adu,wpAny_pyIter_list->adv,slot_list_getitem->adw,compTurn->adx,codeAny->ady,call->adz,IntMulOk->adG,wpAny_lookBehind->adQ,Params->adR,wpAny_point->adX,wpAny_of_eq->adY,keywordEach->adZ,again->ad0,wpAny_updateSeq->ad7,letOwnedTupleGo->ad8,exec_Assign_arm->ad9,getItem->aei,Keyword->ael,wpAny_newTuple->aey,wpAny_newFunctionEnv_cells->aez,sysModules->aeA,newFunctionEnv->aeB,methodCallForm->aeC,markedBehindIn->aeD,execs->aeE,entry_typeCall->aeF,closureFor->aeG,clipAt_nat->aeH,callWith->aeI,callEnvC->aeJ,wpAt_of_wpAny->aeY,wpAny_getItem_list_slice->afb,swapsWithSole->afc,comprehension->afd,assignInOrder->afe,wpAny_unpackItems_tuple->afn,isSubtype->afo,clausesOf->afp,cLine->afq,Gives->afr
open _root_.And renaming intro->Wm,left->ZE,right->aex
open _root_.PySem.Heap renaming get?_push_of_some->Wv,get?_push_size->WR,lt_size->W6,get?_update_self->Xi,SameBut->Xp,get?_update_ne->ZU,dictOf_iff->aaI,size_push->aa2,ExtBut->acg,size_update->ac7,get?_update_other->aem,get?_none_of_le->ae0
open _root_.Classical renaming byContradiction->Wy,propDecidable->Xe,em->Yt
open _root_.False renaming elim->WC
open _root_.Int renaming natCast_nonneg->WG,ofNat_lt->Xv,ofNat_le->X2,toNat_of_nonneg->YU,not_lt->Y7,lt_of_le_of_lt->aab,add_sub_cancel->aac,le_refl->aaH,le_trans->aa0,fmod_eq_emod_of_nonneg->abe,eq_ofNat_of_zero_le->abF,natAbs_natCast->acT,natCast_succ->adl,natCast_add->adK
open _root_.Option.some renaming inj->W4
open _root_.Option renaming casesOn->Xa,isSome_iff_exists->Yj,map_eq_some_iff->Yv,map->Yw,bind_eq_some_iff->YO,isNone_iff_eq_none->Y8,map_map->aae,eq_none_iff_forall_ne_some->acE,join_eq_some_iff->adT,none->aeo,isSome_map->afg,bind_some->aft
open _root_.Bool renaming false_ne_true->Xc,eq_iff_iff->X4,or_eq_false_iff->Ye,and_eq_true_iff->Yg,eq_false_iff->YS,or_true->Zd,casesOn->Ze,or_false->ZD,and_false->aaj,and_eq_true->aay,and_assoc->aa8,and_true->acG,not_not->aew,or_eq_true_iff->afm,false_eq_true->afw
open _root_.PySem.W renaming typeIs_bytes->Xn,findIn->Xo,bytesKind->YX,emptyDict->aao,subIn->abb,hideAll_none->abk,of_hideAll->acp,instObj->acq,putName_dict->adA,looks_findIn->adB,hideAll->adC,drawn->adD,Looks->ad1,check_slot->aeK,isBytes_shape->aff
open _root_.PySem.Obj renaming mapSeq->Xs,data_mapFields->abc,isFreed_of_fields->acb,mapBytearray->adh
open _root_.Nat.succ renaming inj->XE
open _root_.Exists renaming imp->XS,intro->ad6,elim->aev
open _root_.PySem.Around renaming under_plainId->XW
open _root_.PyProof.Rows renaming up1->X0,seqObj->YT,size_push'->aaR,wpAny_release'->aby,arrOf->abM,subscriptTail->abW,tail_any->acf,listUpdate_at->ada,slot_list_sort->aeP,oneType'->aeQ
open _root_.Ne renaming symm->X6
open _root_.PySem.Heap.SameBut renaming update->Yd
open _root_.PySem.Value renaming type->Yo,bytes->YZ,ref->ZA,none->aaY
open _root_.Lean renaming Syntax->Yr,Name->aeg
open _root_.Array renaming length_toList->Yz,getElem?_eq_some_iff->aa1,toList->acU,size_push->adm,perm_iff_toList_perm->adL,toArray_toList->aeW,toList_push->afx
open _root_.Int.ofNat renaming inj->YH
open _root_.PySem.Code renaming quiet_builtin->YK
open _root_.PySem.Builtin.Bytes renaming window->YL,bytesLike->Za,searchArgs->ZQ,joined->ZR,toUpper->Z0,toLower->Z1,order->aaC,occurrences->abg,order->abw,containsIn->abx,bound?->abD,joinLetGo->abL,decodersThatHold->ace,toUpper->acv,toLower->acw,payload->acx,between->acy,bindOptional->acD,exported->ac2,find?->ac9,tooLong->adS,takeBufferQuiet?->aeb,write->aeN,checkResize->afs
open _root_.PySem.W.FB renaming plainAttrs_bytes->YY,args_bytes_contains_2->Z6,entry_bytes_contains->aag,slot_bytes_contains->aap,slot_bytes_getitem->aaA,slot_bytes_startswith->aej,args_bytes_getitem_2->aeL,entry_bytes_getitem->aeZ
open _root_.List.cons renaming inj->Zr
open _root_.PySem.NameKind renaming free->Zs
open _root_.PySem.W.KBy renaming buffer_eq->ZF
open _root_.PySem.SetTable renaming grown->ZG,below->Z7,orStandIn->aek
open _root_.PySem.PyData renaming keyHash->ZJ
open _root_.PySem.Builtin.Range renaming rangeSize->ZN,small->aah,rangeFitsLong->aak
open _root_.PySem.F renaming called_set->ZY,plain_extend_loop->aa3,slot_list_append->ac1,excBase_Exception->adn,plainAttrs_str->adH
open _root_.PySem.Builtin.Str renaming glued->ZZ,strSliceIndices->aaq,occurrences->ac8
open _root_.PySem.Challenge renaming rw_nt0286_01->Z4,rw_nt0286_01->acd
open _root_.PySem.Sem renaming wp_mono->aad,wp_bind'->aeM
open _root_.UInt8 renaming lt_iff_toNat_lt->aam,toNat->ac4
open _root_.PySem.Builtin.List renaming listFitsIndex->aat,listLengthHint->acC
open _root_.Lean.Macro renaming throwUnsupported->aax
open _root_.PySem.Builtin renaming divisionGoesByPylong->aaB,bitAnd->adi
open _root_.PySem.Builtin.Bytes.Kind renaming bytes->aa4,same->aeO,new->ae1
open _root_.ForInStep renaming yield->abr
open _root_.PySem.Heap.IsSliceOf renaming new->abz
open _root_.PySem.SetTable.below renaming go->abJ
open _root_.Function renaming const->abO
open _root_.PyProof.Rows.F renaming plain_set_update_loop->abX,entry_set_update_loop->ae3
open _root_.Prod.mk renaming inj->abY
open _root_.PySem.Flow renaming next->acr
open _root_.PySem.StrLaws renaming found_one->acB,sliceIdx_none_lo->adE,sliceIdx_none_hi->adF
open _root_.PySem.Calls renaming Name_function_global->acR,call_function_entry->adM
open _root_.PySem.W.WData renaming layableAll->ac0
open _root_.PySem.ExcName renaming means->adI
open _root_.PySem.ScopeKind renaming function->aea
open _root_.Std.Legacy renaming Range->aeh
open _root_.PySem.Heap.DictOf renaming new->aen
open _root_.Array.Perm renaming refl->aeX
open _root_.PyProof.Rows.SortSt renaming mk'->ae2
open PySem PySem.W PySem.Calls PyProof.Rows
set_option genSizeOf false
set_option genInjectivity false
set_option linter.all false
section
set_option Elab.async false
set_option autoImplicit true
set_option maxRecDepth 100000
set_option tactic.hygienic false
set_option compiler.extract_closed false
namespace Mine.Internal
@[elab_as_elim] theorem Rw.l{α:Sort _}{a b:α}{P:α->Prop}(e:a=b)(h:P b):P a:=e▸h
@[elab_as_elim] theorem Rw.r{α:Sort _}{a b:α}{P:α->Prop}(e:b=a)(h:P b):P a:=e▸h
theorem Iq{α:Sort _}{P:α->Prop}(a:α)(h:P a):P a:=h
theorem dD{p:Prop}[Decidable p](h:decide p=true:=by kernel_rfl):p:=of_decide_eq_true h
def synN(k:aeg)(l:Array Yr):Yr:=.node .none k l
def synA(s:String):Yr:=.atom .none s
def synI(n:aeg):Yr:=.ident .none "".toRawSubstring n []
def synC(s:Yr)(l r:List aeg):Yr:=
 let f:=λn=>synN `Lean.Parser.Term.app #[synI n,synN `null #[s[1][0][1]]]
 synN `Lean.Parser.Tactic.first #[synA "first",synN `null (((if s[3].isNone then r.map (λn=>synN `Lean.Parser.Tactic.exact #[synA "exact",f n])++[synN `Lean.Parser.Tactic.obtain #[synA "obtain",synN `null #[synN `Lean.Parser.Tactic.rcasesPatMed #[synN `null #[synN `Lean.Parser.Tactic.rcasesPat.one #[synI `rfl]]]],synN `null #[],synN `null #[synA ":=",synN `null #[f `Option.some.inj]]]]else[])++l.map λn=>synN `Lean.Parser.Tactic.induction #[synA "induction",s[1],synN `null #[synA "using",synI n],synN `null #[],s[3]]).toArray.map λx=>synN `null #[synA "|",x])]
def VG(s:Yr):Yr:=
 let l:=s[2][1].getArgs
 let one:=λ(t:Yr)=>synN `null #[synA "|",t]
 let ref:=λ(r e:Yr)=>one (synN `Lean.Parser.Tactic.refine #[synA "refine",synN `Lean.Parser.Term.app #[synI (if r[0].isNone then `Mine.Internal.Rw.l else `Mine.Internal.Rw.r),synN `null #[e,synN `Lean.Parser.Term.syntheticHole #[synA "?",synN `Lean.Parser.Term.hole #[synA "_"]]]]])
 if l.size==1 then let r:=s[2][1][0]
  synN `Lean.Parser.Tactic.first #[synA "first",synN `null #[ref r r[1],ref r (synN `Lean.Parser.Term.app #[r[1],synN `null #[synN `Lean.Parser.Term.ellipsis #[synA ".."]]]),one (synN `Lean.Parser.Tactic.fail #[synA "fail",synN `null #[]])]]
 else let w:=λ(m:Array Yr)=>s.setArg 2 (s[2].setArg 1 (synN `null m))
  synN `Lean.Parser.Tactic.paren #[synA "(",synN `Lean.Parser.Tactic.tacticSeq #[synN `Lean.Parser.Tactic.tacticSeq1Indented #[synN `null #[w #[s[2][1][0]],synA ";",w (l.extract 2 l.size)]]],synA ")"]
def Ud(s:Yr):Yr:=s.rewriteBottomUp λx=>x.setInfo .none
def TM:List aeg:=
 let t:=[50,84,140,170,210,271,332,365,412,466,528,612,700,729]
 let l:=(XI 692).filterMap λi=>
  let k:=i+40
  if k==39||k==48||k==731 then some s!"heap_1_{k}" else if k==40 then some "view_1_40" else if k==42 then some "env_1_42"
  else if t.contains k then some s!"tree_1_{k}" else if t.contains (k-2)then some s!"sts_1_{k}" else if k<44||k==49||t.contains (k-1)then none else some s!"o_1_{k}"
 (`PySem.Challenge.pw_nt0286_01::("heap_1_39" :: l).map λs=>(`Mine.Internal.hd).str s).map λn=>.str .anonymous s!"tw{n.hash}"
def VH(s:Yr):Yr:=
 let d:=if s[1].isOfKind `Lean.Parser.Command.definition||s[1].isOfKind `Lean.Parser.Command.abbrev then s.setArg 0 (s[0].setArg 4 (synN `null #[synN `Lean.Parser.Command.noncomputable #[synA "noncomputable"]]))else s
 Ud d
@[elab_as_elim] theorem Vc{P:Nat->Prop}{k:Nat}(h:k<2)(h0:P 0)(h1:P 1):P k:=by
 cases k with
 |zero=>exact h0
 |succ k=>exact Nat.lt_one_iff.mp (Zy h)▸h1
@[elab_as_elim] theorem Vd{P:Nat->Prop}{k:Nat}(h:k<3)(h0:P 0)(h1:P 1)(h2:P 2):P k:=by
 cases k with
 |zero=>exact h0
 |succ k=>exact Vc (P:=λk=>P (k+1)) (Zy h) h1 h2
theorem Rt(hl:k+1<=l)(hu:u<=m)(h:a+m*l<=c):a+u+m*k<=c:=
 Wh (Xz ((WV a u _).trans (congrArg (a+·) (Xd u _)))) (Wh (WD (Wh (WD hu _) (W9 m hl)) a) h)
theorem Oq{n:Nat}(h:0<n):((-1:Int)+n).toNat=n-1∧0<=(-1:Int)+n∧(-1:Int)+n<n∧-(n:Int)<=-1:=by
 cases n with
 |zero=>exact absurd h (acH _)
 |succ m=>
  have e:(-1:Int)+((m+1:Nat):Int)=m:=by rw[adl,Int.add_comm (m:Int),Int.neg_add_cancel_left]
  rw[e]
  exact⟨rfl,WG _,Xv.mpr (X7 m),Int.neg_le_neg (X2.mpr h)⟩
theorem Ve{k:Int}(h0:0<=k){m:Nat}(h:k.toNat<m)(hm:m<=16777216):k<2^63:=by
 rw[←YU h0]
 exact Int.lt_trans (Xv.mpr (WK h hm)) (by decide)
section
theorem c6(l:∀R:α->Ws->Prop,R a s'->WJ M A m R E s)(h:WJ M A (f a) Q E s'):WJ M A (m>>=f) Q E s:=Wl (l _ h)
theorem Az(h:WJ M A (f a) Q E s):WJ M A (pure a>>=f) Q E s:=h
theorem vS(e:m=pure a)(h:WJ M A (f a) Q E s):WJ M A (m>>=f) Q E s:=e▸h
end
end Mine.Internal
local macro_rules (kind:=Lean.Parser.Tactic.cases)
 |s=>if s[1][0][1].isIdent&&s[1][0][0].isNone then pure (Mine.Internal.synC s [`Bool.casesOn,`Option.casesOn,`List.casesOn,`Mine.Internal.V.casesOn,`Mine.Internal.O.casesOn,`PySem.Expr.casesOn,`PySem.Stmt.casesOn,`Except.casesOn,`Or.casesOn,`Mine.Internal.DK.casesOn,`fail] [`Mine.Internal.ff,`Mine.Internal.ns,`Mine.Internal.sn,`Mine.Internal.tf])else aax
local macro_rules (kind:=Lean.Parser.Tactic.rewriteSeq)
 |s=>if s[1][0].getNumArgs==0&&s[3].isNone then pure (Mine.Internal.VG s)else aax
local macro_rules (kind:=Lean.Parser.Command.declaration)
 |s=>if s.getPos?.isNone then aax else pure (Mine.Internal.VH s)
namespace Mine.Internal
section
open PySem.Builtin
def findIn(b sub:List UInt8)(k:Nat):Option Nat:=((XI (b.length+1-(k+sub.length))).map (· + k)).find? λi=>(b.drop i).take sub.length==sub
def a4(b sub:List UInt8)(k:Nat):Int:=match(if b.length<k+sub.length then none else findIn b sub k)with
 |some i=>(i:Int)
 |none=>-1
section
variable{b sub:List UInt8}{t u v:Tok}
theorem extract_toArray(l:List UInt8)(i n:Nat):l.toArray.extract i (i+n)=((l.drop i).take n).toArray:=by
 rw[ach,abi];congr 2;lia
theorem jh(l sub:List UInt8)(i:Nat):(l.toArray.extract i (i+sub.toArray.size)==sub.toArray)=((l.drop i).take sub.length==sub):=by
 rw[Wu,extract_toArray,X4];simp
theorem CH(l sub:List UInt8)(k:Nat):ac9 l.toArray sub.toArray k l.length=findIn l sub k:=by
 unfold ac9 findIn
 rw[Wu]
 congr 1
 funext i
 have:=jh l sub i
 rw[Wu]at this
 exact this
theorem p7(n k:Nat):YL n (some (k:Int)) none=((k:Int),(n:Int)):=by
 unfold YL
 simp;lia
theorem AD(n:Nat):YL n none none=(0,(n:Int)):=by
 unfold YL
 have h:¬((n:Int)<0):=by simp +arith
 simp[h]
theorem yr:ZQ .bytes "find" ⟨[.bytes b.toArray t,.bytes sub.toArray u],[]⟩=pure (b.toArray,sub.toArray,if b.length<0+sub.length then none else some (0,b.length)):=by
 unfold ZQ
 have e1:∀id:String,selfAndSome id "find" 1 3 ⟨[.bytes b.toArray t,.bytes sub.toArray u],[]⟩=pure (.bytes b.toArray t,[.bytes sub.toArray u]):=λ_=>rfl
 have e2:∀v:Option Wn,v=none->abD v=pure none:=λv h=>by subst h;rfl
 simp only[e1,pure_bind]
 rw[e2 _ (by rfl),e2 _ (by rfl)]
 simp only[pure_bind,adp,ZF]
 show(pure (b.toArray,sub.toArray,if(YL b.toArray.size none none).2-(YL b.toArray.size none none).1<((sub.toArray.size:Nat):Int)then none else some ((YL b.toArray.size none none).1.toNat,(YL b.toArray.size none none).2.toNat)):Sem _)=_
 rw[AD,Wu,Wu]
 congr 3
 by_cases h:b.length<0+sub.length
 ·rw[if_pos h,if_pos (by omega)]
 ·rw[if_neg h,if_neg (by omega)];rfl
theorem yt(k:Nat):ZQ .bytes "find" ⟨[.bytes b.toArray t,.bytes sub.toArray u,.int k v],[]⟩=pure (b.toArray,sub.toArray,if b.length<k+sub.length then none else some (k,b.length)):=by
 unfold ZQ
 have e1:∀id:String,selfAndSome id "find" 1 3 ⟨[.bytes b.toArray t,.bytes sub.toArray u,.int k v],[]⟩=pure (.bytes b.toArray t,[.bytes sub.toArray u,.int k v]):=λ_=>rfl
 simp only[e1,pure_bind]
 have e2:∀v:Option Wn,v=none->abD v=pure none:=λv h=>by subst h;rfl
 have e3:∀x:Option Wn,x=some (.int k v)->abD x=pure (some (k:Int)):=λx h=>by subst h;rfl
 rw[e3 _ (by rfl),e2 _ (by rfl)]
 simp only[pure_bind,adp,ZF]
 show(pure (b.toArray,sub.toArray,if(YL b.toArray.size (some (k:Int)) none).2-(YL b.toArray.size (some (k:Int)) none).1<((sub.toArray.size:Nat):Int)then none else some ((YL b.toArray.size (some (k:Int)) none).1.toNat,(YL b.toArray.size (some (k:Int)) none).2.toNat)):Sem _)=_
 rw[p7,Wu,Wu]
 congr 3
 by_cases h:b.length<k+sub.length
 ·rw[if_pos h,if_pos (by omega)]
 ·rw[if_neg h,if_neg (by omega)];rfl
theorem yu(hq:Made.post (.int (a4 b sub k)) Q s) :
 wpAny M A ((pure (b.toArray,sub.toArray,if b.length<k+sub.length then none else some (k,b.length)):Sem (Array UInt8×Array UInt8×Option (Nat×Nat)))>>=λx=>match x with
  |(b,sub,w)=>match w.bind λ(lo,hi)=>if false=true then Bytes.rfind? b sub lo hi else ac9 b sub lo hi with
   |some i=>retInt i
   |none=>do
    rule s!"{Bytes.Kind.bytes.name}.{"find"}.not-found"
    if false=true then raiseError "ValueError" "subsection not found" else retInt (-1)) (λbc s'=>∃v,bc=.done (.ret v)∧Q v s') E s:=by
 refine Az (?_)
 unfold a4 at hq
 by_cases h:b.length<k+sub.length
 ·rw[if_pos h]at hq
  simp only[if_pos h]
  exact Wl (YD (Wl (acJ (Wq ⟨_,rfl,hq⟩))))
 ·rw[if_neg h]at hq
  simp only[if_neg h,aft,afw,if_false]
  rw[CH]
  generalize e:findIn b sub k=zz;cases zz with
  |some i=>rw[e]at hq;exact Wl (acJ (Wq ⟨_,rfl,hq⟩))
  |none=>rw[e]at hq;exact Wl (YD (Wl (acJ (Wq ⟨_,rfl,hq⟩))))
theorem yv:afr (XQ.«bytes.find» ⟨[.bytes b.toArray t,.bytes sub.toArray u],[]⟩) (.int (a4 b sub 0)):=by
 refine .of_wp λM A E s Q d=>?_
 show WJ M A (ZQ .bytes "find" ⟨[.bytes b.toArray t,.bytes sub.toArray u],[]⟩>>=_) _ E s
 rw[yr]
 exact yu d
theorem yw(k:Nat):afr (XQ.«bytes.find» ⟨[.bytes b.toArray t,.bytes sub.toArray u,.int k v],[]⟩) (.int (a4 b sub k)):=by
 refine .of_wp λM A E s Q d=>?_
 show WJ M A (ZQ .bytes "find" ⟨[.bytes b.toArray t,.bytes sub.toArray u,.int k v],[]⟩>>=_) _ E s
 rw[yt]
 exact yu d
end
def dA(b sub:List UInt8)(k:Nat):Bool:=if b.length<k+sub.length then false else(b.drop k).take sub.length==sub
theorem mi{b sub:List UInt8}{t u v:Tok}(k:Nat):afr (XQ.«bytes.startswith» ⟨[.bytes b.toArray t,.bytes sub.toArray u,.int k v],[]⟩) (.val (.bool (dA b sub k))):=by
 refine .of_wp λM A E s Q q=>?_
 unfold XQ.«bytes.startswith» Bytes.tailMatchM
 have y:∀id:String,selfAndSome id "startswith" 1 3 ⟨[.bytes b.toArray t,.bytes sub.toArray u,.int k v],[]⟩=pure (.bytes b.toArray t,[.bytes sub.toArray u,.int k v]):=λ_=>rfl
 simp only[y,pure_bind]
 have i:∀v:Option Wn,v=none->abD v=pure none:=λv h=>by subst h;rfl
 have j:∀x:Option Wn,x=some (.int k v)->abD x=pure (some (k:Int)):=λx h=>by subst h;rfl
 have z:aaN (.bytes sub.toArray u) (.type "tuple")=pure false:=by
  have e:aaN (.bytes sub.toArray u) (.type "tuple")=afo (.type "bytes") (.type "tuple"):=rfl
  rw[e,XG];kernel_rfl
 rw[j _ (by rfl),i _ (by rfl)]
 simp only[pure_bind,adp,ZF]
 have c:acx (.bytes b.toArray t)=pure b.toArray:=rfl
 refine Wq ⟨_,rfl,?_⟩
 rw[Wu,p7]
 have key:(if(b.length:Int)-(k:Int)<(sub.toArray.size:Nat)then false else b.toArray.extract ((k:Int).toNat) ((k:Int).toNat+sub.toArray.size)==sub.toArray)=dA b sub k:=by
  unfold dA
  rw[Int.toNat_natCast,jh,Wu]
  by_cases h:b.length<k+sub.length
  ·rw[if_pos h,if_pos (by omega)]
  ·rw[if_neg h,if_neg (by omega)]
 have d:Q (.bool (dA b sub k)) s:=q
 rw[←key]at d
 exact d
theorem yx{b:List UInt8}{t:Tok}:afr (XQ.«bytes.lower» ⟨[.bytes b.toArray t],[]⟩) (.bytes (b.map acw).toArray):=
 .of_wp λM A E s Q d=>by
  show WJ M A (mkBytes (b.map acw).toArray>>=λv=>ret v) _ E s
  exact Wl (aaS (Wq ⟨_,rfl,d.2⟩) d.1)
theorem fT{b:List UInt8}{t u:Tok}{i:Int}(h0:0<=i)(h1:i<256):afr (XQ.«bytes.__contains__» ⟨[.bytes b.toArray t,.int i u],[]⟩) (.val (.bool (b.contains i.toNat.toUInt8))):=
 .of_wp λM A E s Q d=>by
  have e:b.toArray.contains i.toNat.toUInt8=b.contains i.toNat.toUInt8:=by simp
  show WJ M A (abx "bytes.__contains__" (.bytes b.toArray t) (.int i u)>>=λv=>ret (.bool v)) _ E s
  unfold abx
  rw[ZF]
  refine Wl ?_
  show WJ M A (if(decide (i<0)||decide (i≥256))=true then _ else _) _ E s
  rw[if_neg (by simp;omega)]
  rw[e]
  exact Wq (Wq ⟨_,rfl,d⟩)
end
section
open PySem.Builtin
def aL(c:UInt8):List UInt8->List (List UInt8)
 | []=>[[]]
 |x::r=>if x=c then[]::aL c r else match aL c r with
  |h::t=>(x::h)::t
  | []=>[[x]]
def aM(d:List UInt8):List (List UInt8)->List UInt8
 | []=>[]
 | [x]=>x
 |x::y::r=>x++d++aM d (y::r)
theorem uX(c:UInt8):∀l:List UInt8,aL c l≠[]:=by
 intro d
 induction d with
 |nil=>
  simp[aL]
 |cons x r q=>
  unfold aL
  split
  ·simp
  ·split <;> simp
theorem yy(c x:UInt8):∀(l:List UInt8) (ps:List (List UInt8)) (z:List UInt8),aL c l=ps++[z]->aL c (l++[x])=if x=c then ps++[z,[]]else ps++[z++[x]]:=by
 intro m
 induction m with
 |nil=>
  intro ps z h
  have:ps=[]∧z=[]:=by
   cases ps with
   |nil=>simp[aL]at h;exact⟨rfl,h⟩
   |cons a b=>simp[aL]at h
  obtain⟨rfl,rfl⟩:=this
  by_cases q:x=c <;> simp[aL,q]
 |cons y r d=>
  intro ps z h
  have u:=uX c r
  by_cases q:y=c
  ·have e:aL c (y::r)=[]::aL c r:=by simp[aL,q]
   rw[e]at h
   cases ps with
   |nil=>simp at h;exact absurd h.2 u
   |cons a b=>
    simp at h
    obtain⟨rfl,h⟩:=h
    have d:=d b z h
    have g:aL c (y::(r++[x]))=[]::aL c (r++[x]):=by simp[aL,q]
    rw[g,d]
    split <;> simp
  ·generalize j:aL c r=k;cases k with
   |nil=>exact absurd j u
   |cons h1 w=>
    have e:aL c (y::r)=(y::h1)::w:=by simp[aL,q,j]
    rw[e]at h
    have key:∀i t2,aL c (r++[x])=i::t2->aL c (y::(r++[x]))=(y::i)::t2:=λi t2 f=>by simp[aL,q,f]
    cases ps with
    |nil=>
     simp at h
     obtain⟨rfl,rfl⟩:=h
     have d:=d [] h1 (by rw[j];rfl)
     show aL c (y::(r++[x]))=_
     by_cases p:x=c
     ·rw[if_pos p]at d ⊢
      rw[key _ _ d];rfl
     ·rw[if_neg p]at d ⊢
      rw[key _ _ d];rfl
    |cons a b=>
     simp at h
     obtain⟨rfl,rfl⟩:=h
     have d:=d (h1::b) z (by rw[j];rfl)
     show aL c (y::(r++[x]))=_
     by_cases p:x=c
     ·rw[if_pos p]at d ⊢
      rw[key _ _ d];rfl
     ·rw[if_neg p]at d ⊢
      rw[key _ _ d];rfl
def hH(c:UInt8)(b:List UInt8)(i:Nat):Bool:=b[i]?==some c
theorem yz(b:List UInt8)(c:UInt8)(i:Nat)(h:i<b.length):(b.toArray.extract i (i+#[c].size)==#[c])=hH c b i:=by
 have:(#[c]:Array UInt8)=[c].toArray:=rfl
 rw[this,jh]
 unfold hH
 have e:(b.drop i).take 1=[b[i]]:=by
  rw[adW h];rfl
 rw[show[c].length=1 from rfl,e,Xk h]
 rw[X4];simp
theorem Gx(b:List UInt8)(c:UInt8):∀n,n<=b.length->∃k,k<=n∧(XI n).foldl (λ(acc:List Nat×Nat) i=>if i≥acc.2&&b.toArray.extract i (i+#[c].size)==#[c]then(i::acc.1,i+#[c].size)else acc) ([],0)=(((XI n).filter (hH c b)).reverse,k):=by
 intro zi
 induction zi with
 |zero=>
  intro _
  exact⟨0,Wr _,rfl⟩
 |succ n ih=>
  intro h
  obtain⟨k,hk,e⟩:=ih (by omega)
  rw[List.range_succ,acZ,e,afv,aaL,adP]
  simp only[yz b c n (by omega)]
  have hn:decide (n≥k)=true:=by simp;omega
  generalize q:hH c b n=zz;cases zz with
  |true=>exact⟨n+1,Wr _,by simp[hn,q]⟩
  |false=>exact⟨k,by omega,by simp[q]⟩
theorem Gy(b:List UInt8)(c:UInt8):abg b.toArray #[c] 0 b.length=(XI b.length).filter (hH c b):=by
 obtain⟨k,_,e⟩:=Gx b c b.length (Wr _)
 unfold abg
 have:(XI (b.length+1-(0+(#[c]:Array UInt8).size))).map (· + 0)=XI b.length:=by simp
 rw[this]
 exact(congrArg (λp:List Nat×Nat=>p.1.reverse) e).trans (by simp)
theorem vT(b:List UInt8)(c:UInt8):∀n,n<=b.length->∃(ps:List (List UInt8)) (last:Nat),last<=n∧
 ((XI n).filter (hH c b)).foldl (λ(x:Array (Array UInt8)×Nat) p=>(x.1.push (b.toArray.extract x.2 p),p+1)) (#[],0)=((ps.map Yy).toArray,last)∧aL c (b.take n)=ps++[(b.take n).drop last]:=by
 intro zi
 induction zi with
 |zero=>
  intro _
  exact⟨[],0,Wr _,rfl,rfl⟩
 |succ n ih=>
  intro h
  refine Wy λno=>?_
  obtain⟨ps,last,hl,e,es⟩:=ih (by omega)
  have ht:b.take (n+1)=b.take n++[b[n]]:=by rw[abl,Xk (by omega)];rfl
  refine no ?_
  rw[List.range_succ,afv,acZ,e]
  have sn:=yy c b[n] (b.take n) ps _ es
  rw[ht,sn]
  generalize q:hH c b n=zz;cases zz with
  |true=>
   have hc:b[n]=c:=by unfold hH at q;rw[Xk (by omega)]at q;simpa using q
   refine⟨ps++[(b.take n).drop last],n+1,Wr _,?_,?_⟩
   ·simp only[q,abB,List.filter_nil,aaL,adP]
    have:b.toArray.extract last n=((b.take n).drop last).toArray:=by
     rw[ach,abi]
     congr 1
     rw[List.drop_take]
    rw[this];simp
   ·rw[if_pos hc]
    have:(b.take n++[b[n]]).drop (n+1)=[]:=Zv (by simp;lia)
    rw[this];simp
  |false=>
   have hc:b[n]≠c:=by unfold hH at q;rw[Xk (by omega)]at q;simpa using q
   refine⟨ps,last,by omega,?_,?_⟩
   ·simp[q]
   ·rw[if_neg hc]
    rw[List.drop_append_of_le_length (by simp;lia)]
theorem kW(b:List UInt8)(c:UInt8):acy b.toArray 1 ((XI b.length).filter (hH c b))=(aL c b).map Yy:=by
 obtain⟨ps,d,j,e,q⟩:=vT b c b.length (Wr _)
 unfold acy
 have y:((XI b.length).filter (hH c b)).foldl (λ(x:Array (Array UInt8)×Nat) p=>match x with|(parts,d)=>(parts.push (b.toArray.extract d p),p+1)) (#[],0)=((ps.map Yy).toArray,d):=e
 simp only[y]
 rw[aau]at q
 rw[q]
 have:b.toArray.extract d b.toArray.size=(b.drop d).toArray:=by
  rw[Wu,ach,abi]
  congr 1
  rw[Zt (by simp)]
 rw[this];simp
theorem gI(b:List UInt8)(c:UInt8)(h:(XI b.length).filter (hH c b)=[]):aL c b=[b]:=by
 have e:=kW b c
 rw[h]at e
 unfold acy at e
 simp only[adP]at e
 have d:(aL c b).map Yy=[b].map Yy:=by
  rw[←e];simp
 have:=congrArg (List.map acU) d
 simpa [XM]using this
inductive gJ:List (List UInt8)->List Wn->Prop
 |nil:gJ [] []
 |cons {p:List UInt8} {t:Tok} {ps:List (List UInt8)} {xs:List Wn} (h:gJ ps xs):gJ (p::ps) (.bytes p.toArray t::xs)
theorem gJ.length(h:gJ ps xs):xs.length=ps.length:=by
 induction h with
 |nil=>exact rfl
 |cons h d=>exact congrArg adU d
section
theorem Gz:∀(ps:List (List UInt8)) (s:Ws) {Q:List Wn->Ws->Prop},(∀p∈ps,p.length<=16777216)->(∀xs n,gJ ps xs->Q xs { s with toks:=n})->WJ M A ((ps.map Yy).mapM (ae1 .bytes)) Q E s:=by
 intro j
 induction j with
 |nil=>
  intro s Q _ h
  rw[aeu,List.mapM_nil];exact Wq (h [] s.toks .nil)
 |cons p ps i=>
  intro s Q d h
  rw[WZ,List.mapM_cons]
  refine Wl (aaS ?_ (by rw[Wu,W5];exact d p (.head _)))
  refine Wl (i _ (λq y=>d q (.tail _ y)) λxs n hx=>Wq (h _ _ (.cons hx)))
end
set_option tactic.hygienic true in
theorem mj(c:UInt8):∀(b p:List UInt8),p∈aL c b->p.length<=b.length:=by
 intro q
 induction q with
 |nil=>
  intro p h
  simp[aL]at h;subst h;simp
 |cons x r d=>
  intro p h
  unfold aL at h
  split at h
  ·rcases Wo.mp h with rfl|h
   ·simp
   ·have:=d p h;simp;omega
  ·split at h
   ·rename_i h1 y e
    rcases Wo.mp h with rfl|h
    ·have:=d h1 (by rw[e];exact .head _);simp;omega
    ·have:=d p (by rw[e];exact .tail _ h);simp;omega
   ·rename_i e;exact absurd e (uX c r)
set_option tactic.hygienic true in
theorem rM(c:UInt8):∀b:List UInt8,(aL c b).length<=b.length+1:=by
 intro d
 induction d with
 |nil=>
  simp[aL]
 |cons x r q=>
  have:=q
  unfold aL
  split
  ·simp;omega
  ·split
   ·rename_i h1 y e;rw[e]at this;simp at this ⊢;lia
   ·simp
theorem AE(v:Wn):acD "bytes.split" "split" ["sep", "maxsplit"] [v] []=pure [some v,none]:=by kernel_rfl
theorem yA(hb:b.length<=1000000) :
 Meets (XQ.«bytes.split» ⟨[.bytes b.toArray t,.bytes [c].toArray u],[]⟩)
  (λ_ R s=>∀xs n,gJ (aL c b) xs->R (.ok (.ret (.ref s.heap.objs.size))) { s with heap:=s.heap.push { cls:=.type "list",data:=.seq xs.toArray},toks:=n}):=by
 refine .of_wp λprog w A R s h=>?_
 have small:(aL c b).length<=sizeLine:=by have:=rM c b;rw(config:={}) [W5];lia
 show WJ _ _ (acD "bytes.split" "split" ["sep", "maxsplit"] [.bytes [c].toArray u] []>>=_) _ _ s
 refine(vS (AE _) ?_)
 show WJ _ _ (Za "bytes.split" (.bytes [c].toArray u)>>=λsep=>_) _ _ s
 unfold Za
 rw(config:={}) [ZF]
 show WJ _ _ (if((aec (b.toArray.size+1) (abg b.toArray #[c] 0 b.toArray.size)).isEmpty)=true then _ else _) _ _ s
 rw(config:={}) [Wu,Gy]
 have ht:aec (b.length+1) ((XI b.length).filter (hH c b))=(XI b.length).filter (hH c b):=by
  refine Zt ?_
  have:=aeV (hH c b) (XI b.length)
  rw(config:={}) [Zc]at this;omega
 rw(config:={}) [ht]
 generalize q:(XI b.length).filter (hH c b)=zz;cases zz with
 |nil=>
  have e:=gI b c q
  rw(config:={}) [e]at h small
  refine Wl (YD ?_)
  have es:aeO .bytes (.bytes b.toArray t)=pure (.bytes b.toArray t):=rfl
  refine(vS es ?_)
  refine Wl (Zp (Wq ⟨_,rfl,h [.bytes b.toArray t] s.toks (.cons .nil)⟩) (by simp[W5]))
 |cons x r=>
  simp only[List.isEmpty_cons,afw,if_false]
  have hs:aec (if(-1:Int)<0 then b.length+1 else(-1:Int).toNat) (x::r)=(XI b.length).filter (hH c b):=by
   rw(config:={}) [←q];exact ht
  rw(config:={}) [hs,show(#[c]:Array UInt8).size=1 from rfl,kW]
  refine Wl (Gz _ s (λp hp=>by have:=mj c b p hp;omega) λxs n hx=>?_)
  refine Wl (Zp (Wq ⟨_,rfl,h xs n hx⟩) (by rw(config:={}) [hx.length];exact small))
section
theorem yB{id:String}{full:Bool}:Bytes.buffer? id (.bytes b t) full=pure (some b):=by
 unfold Bytes.buffer?
 rw[KBy.special_eq KBy.look_buffer,KBy.own_buffer,KBy.own_release]
 kernel_rfl
theorem Ex{id:String}{k:Int}:aeb id (.bytes b t) k=pure (some (b,none)):=by
 unfold aeb Bytes.takeBuffer?
 rw[KBy.special_eq KBy.look_buffer,KBy.own_buffer,yB]
 kernel_rfl
end
theorem yC(d:Array UInt8)(ps:List (Array UInt8))(p:Array UInt8):ZR d (ps++[p])=(if ps=[]then ZR d ps else ZR d ps++d)++p:=by
 unfold ZR
 rw[List.zipIdx_append,acZ]
 cases ps with
 |nil=>simp
 |cons a r=>simp
theorem AF(d:List UInt8):∀(ps:List (List UInt8)) (p:List UInt8),aM d (ps++[p])=(if ps=[]then aM d ps else aM d ps++d)++p:=by
 intro y
 induction y with
 |nil=>
  intro p
  simp[aM]
 |cons a j q=>
  cases j with
  |nil=>
   intro p
   simp[aM]
  |cons b r=>
   intro p
   have q:=q p
   have e:aM d (a::b::r++[p])=a++d++aM d (b::r++[p]):=by simp[aM]
   rw[e,q]
   simp[aM,Wx]
theorem oj(sep:List UInt8)(ps:List (List UInt8)):ZR sep.toArray (ps.map Yy)=(aM sep ps).toArray:=by
 generalize hn:ps.length=n
 induction n generalizing ps with
 |zero=>have:=Xg hn;subst this;rfl
 |succ n ih=>
  obtain⟨qs,p,rfl⟩:∃qs p,ps=qs++[p]:=⟨ps.dropLast,ps.getLast (by intro h;rw[h]at hn;cases hn),(adt _).symm⟩
  rw[WQ,aa6,yC,AF,ih qs (by simpa using hn)]
  cases qs with
  |nil=>simp
  |cons a r=>simp
theorem gJ.get(h:gJ ps xs):∀{i:Nat},i<ps.length->∃p t,ps[i]? = some p∧xs[i]? = some (.bytes p.toArray t):=by
 induction h with
 |nil=>exact λh=>absurd h (ab4 _)
 |@cons p t ps xs h ih=>
  intro i hi
  cases i with
  |zero=>exact⟨p,t,rfl,rfl⟩
  |succ i=>exact ih (Zy hi)
theorem vU(h:Q () s):∀d:List (Wn×Option Wn),(∀p∈d,p.2=none)->WJ M A (abL d keep) Q E s:=by
 intro y
 induction y with
 |nil=>
  intro _
  exact Wq h
 |cons z r u=>
  obtain⟨c,j⟩:=z
  intro q
  have i:j=none:=q _ (.head _)
  subst i
  show WJ M A (letGo [c] (keep++r.flatMap λ(y,u)=>y::u.toList)>>=λ_=>abL r keep) Q E s
  exact Wl (wpAny_letGo (u λp hp=>q p (.tail _ hp)))
theorem yD:∀(ps:List (List UInt8)) (k:Nat),(ps.map Yy).foldl (λ(n:Nat) (p:Array UInt8)=>n+p.size) k=k+(ps.map adk).sum:=by
 intro d
 induction d with
 |nil=>
  intro k
  exact rfl
 |cons p r q=>
  intro k
  rw[WZ,aaL,q];simp;lia
theorem vV(d:List UInt8):∀ps:List (List UInt8),(aM d ps).length=d.length*(ps.length-1)+(ps.map adk).sum:=by
 intro y
 induction y with
 |nil=>
  simp[aM]
 |cons a j q=>
  cases j with
  |nil=>
   simp[aM]
  |cons b r=>
   have q:=q
   simp only[aM,Wk,q,WX,WZ,List.sum_cons]
   show a.length+d.length+(d.length*r.length+(b.length+(r.map adk).sum))=d.length*r.length+d.length+(a.length+(b.length+(r.map adk).sum))
   rw[WV,abo d.length,abo a.length,WV (d.length*_),abo a.length]
theorem rO(I:Nat->β->Ws->Prop)(h0:I 0 b s)
 (turn:∀i b s,i<n->I i b s->WJ M A (f i b) (λr s'=>∃b',r=.yield b'∧I (i+1) b' s') E s) (bc:∀b s,I n b s->Q b s):WJ M A (forIn [0:n] b f) Q E s:=by
 rw[Std.Legacy.Range.forIn_eq_forIn_range']
 have hsz:([0:n]:aeh).size=n:=by simp[Std.Legacy.Range.size]
 show WJ M A (forIn (List.range' 0 ([0:n]:aeh).size 1) b f) Q E s
 rw[hsz]
 refine wpAny_forIn_list f (λl b s=>∃i,i<=n∧l=List.range' i (n-i)∧I i b s) Q (λx rest b s h=>?_) (λb s h=>?_) _ _ ⟨0,WI _,rfl,h0⟩
 ·obtain⟨i,hi,e,hI⟩:=h
  have hlt:i<n:=by
   by_cases q:i<n
   ·exact q
   ·rw[Nat.sub_eq_zero_of_le (Xq.mp q)]at e;cases e
  rw[show n-i=(n-(i+1))+1 from(aep (Nat.sub_pos_of_lt hlt)).symm,List.range'_succ]at e
  cases e
  refine Ym (turn _ b s hlt hI) (λr s' ⟨b',e,hI'⟩=>?_) λ_ _ x=>x
  subst e
  exact⟨_,hlt,rfl,hI'⟩
 ·obtain⟨i,hi,e,hI⟩:=h
  have:i=n:=by
   by_cases q:i<n
   ·rw[show n-i=(n-(i+1))+1 from(aep (Nat.sub_pos_of_lt q)).symm,List.range'_succ]at e;cases e
   ·exact ab6 hi (Xq.mp q)
  subst this
  exact bc b s hI
theorem AG{sep:List UInt8}{t:Tok}{l:Addr}{xs:List Wn}{ps:List (List UInt8)}{n:Nat}(hx:gJ ps xs)(hl:(aM sep ps).length<=16777216) :
 Meets (XQ.«bytes.join» ⟨[.bytes sep.toArray t,.ref l],[]⟩)
  (λ_ R s=>s.heap.get? l=some { cls:=.type "list",data:=.seq xs.toArray n}∧∀t' k,R (.ok (.ret (.bytes (aM sep ps).toArray t'))) { s with toks:=k}):=by
 refine .of_wp λprog w A R s ⟨ho,h⟩=>?_
 show WJ _ _ (Bytes.joinItems (.ref l)>>=_) _ _ s
 have hT:s.TypeIs (.ref l) "list" := ⟨_,ho,rfl⟩
 refine Wl (c6 (λ_ q=>adu hT q) ?_)
 rw[if_pos (show((Yo "list" == Yo "list" ||Yo "list" == Yo "tuple")=true)from by decide)]
 refine Wq ?_
 refine c6 (λ_ q=>aaz ho rfl q) ?_
 have total:∀k:Nat,k=sep.length*(ps.length-1)->adS ((ps.map Yy).toArray.foldl (λ(n:Nat) (p:Array UInt8)=>n+p.size) k)=false:=λk hk=>by
  refine KBy.tooLong_not ?_
  rw[List.foldl_toArray,yD,hk,←vV];exact hl
 have bc:∀(s':Ws) (parts:Array (Array UInt8)) (taken:List (Wn×Option Wn)) (k:Nat),s'={s with toks:=k}->parts=(ps.map Yy).toArray->(∀p∈taken,p.2=none)->
  wpAny (YW prog w) A.in1 (do
   let sep' ←acx (.bytes sep.toArray t)
   if adS (parts.foldl (λn p=>n+p.size) (sep'.size*(parts.size-1)))=true then do
    let _ ←(unsupported (toString (toString aa4.name++toString ".join")++toString ":memory"):Sem PUnit)
    let result ←aa4.new (ZR sep' parts.toList)
    holding (result::taken.flatMap λx=>match x with|(y,u)=>y::u.toList) point
    abL taken [result]
    ret result
   else do
    let result ←aa4.new (ZR sep' parts.toList)
    holding (result::taken.flatMap λx=>match x with|(y,u)=>y::u.toList) point
    abL taken [result]
    ret result) (λbc s'=>∃v,bc=.done (.ret v)∧R (.ok (.ret v)) s') (λe s'=>R (.error e) s') s':=λs' parts taken k hs hp hn=>by
  subst hs hp
  refine(vS (show acx (.bytes sep.toArray t)=pure sep.toArray from rfl) ?_)
  rw[if_neg (by rw[total _ (by simp)];simp)]
  refine Wl (aaS ?_ (by rw[oj,Wu,W5];exact hl))
  refine Wl (Xu (adX ?_))
  refine Wl (vU (Wq ⟨_,rfl,?_⟩) taken hn)
  rw[oj]
  exact h _ _
 have main:∀(f:Nat->Array (Array UInt8)×List (Wn×Option Wn)->Sem (ForInStep (Array (Array UInt8)×List (Wn×Option Wn)))),True:=λ_=>trivial
 cases hx with
 |nil=>
  refine Wl (rO (λi b s'=>s'=s∧i=0∧b=(#[],[])) ⟨rfl,rfl,rfl⟩ (λi b s h=>absurd h (ab4 _)) λb s' ⟨e1,_,e2⟩=>?_)
  subst e1 e2
  exact bc _ _ _ s'.toks rfl rfl (λp hp=>nomatch hp)
 |@cons p t0 qs ys hx'=>
  cases hx' with
  |nil=>
   refine(vS (show abQ (.bytes p.toArray t0)=pure (.type "bytes")from rfl) ?_)
   rw[if_pos (show((Yo "bytes" == Yo "bytes")=true)from by decide)]
   refine Wl (YD (Wq ⟨_,rfl,?_⟩))
   exact h t0 s.toks
  |@cons p' t1 qs' ys' hx''=>
   have hx:gJ (p::p'::qs') (.bytes p.toArray t0::.bytes p'.toArray t1::ys'):=.cons (.cons hx'')
   have hlen:=hx.length
   refine Wl (rO (λi b s'=>s'=s∧b.1=(((p::p'::qs').take i).map Yy).toArray∧(∀x∈b.2,x.2=none∧x.1.onHeap=false)) ⟨rfl,rfl,λx hx=>nomatch hx⟩ (λi b s' hi hI=>?_) λb s' ⟨e1,e2,e3⟩=>?_)
   ·obtain⟨rfl,e2,e3⟩:=hI
    obtain⟨parts,taken⟩:=b
    dsimp only at e2 e3 ⊢
    rw[Wu]at hi
    refine Wy λno=>?_
    obtain⟨q,tq,g1,g2⟩:=hx.get (i:=i) (by rw[←hlen];exact hi)
    refine no ?_
    refine Wl (aaz ho rfl ?_)
    have gd:(YZ p.toArray t0::YZ p'.toArray t1::ys').toArray.getD i aaY=.bytes q.toArray tq:=by
     rw[Array.getD_eq_getD_getElem?,X9,g2];rfl
    have tk:taken.any (λx=>x.1.onHeap)=false:=by
     rw[aai]
     intro x hx;rw[(e3 x hx).2];simp
    show WJ _ _ (if(aa4==Bytes.Kind.bytearray||taken.any λx=>x.1.onHeap)=true then _ else _) _ _ _
    rw[if_neg (by rw[tk];decide),gd]
    refine Wl (Xu (adY Ex ?_))
    refine c6 (λ_ q=>aaz ho rfl q) ?_
    show WJ _ _ (if((YZ p.toArray t0::YZ p'.toArray t1::ys').toArray.size != (YZ p.toArray t0::YZ p'.toArray t1::ys').toArray.size)=true then _ else _) _ _ _
    rw[if_neg (by simp)]
    refine Wq ⟨_,rfl,rfl,?_,λx hx'=>?_⟩
    ·rw[e2,abl,g1];simp
    ·rcases WO.mp hx' with hx'|hx'
     ·exact e3 x hx'
     ·simp at hx';subst hx';exact⟨rfl,rfl⟩
   ·subst e1
    obtain⟨parts,taken⟩:=b
    refine bc _ parts taken s'.toks rfl ?_ λx hx=>(e3 x hx).1
    have:=e2
    rw[Wu,hlen,aau]at this
    exact this
theorem tT(f:b.length+b.length*d.length<=16777216)(p:(aM d (aL c b)).length<=16777216) :
 Meets (XQ.«bytes.replace» ⟨[.bytes b.toArray t,.bytes [c].toArray u,.bytes d.toArray v],[]⟩)
  (λ_ R s=>∀z k,R (.ok (.ret (.bytes (aM d (aL c b)).toArray z))) { s with toks:=k}):=by
 refine .of_wp λprog w A R s h=>?_
 show WJ _ _ (Za "bytes.replace" (.bytes [c].toArray u)>>=λ_=>Za "bytes.replace" (.bytes d.toArray v)>>=λ_=>_) _ _ s
 have y:∀{x:Array UInt8} {t:Tok},Za "bytes.replace" (.bytes x t)=pure x:=λ{x t}=>by
  unfold Za
  rw[ZF];rfl
 have g:((#[c]:Array UInt8).isEmpty&&d.toArray.isEmpty)=false:=rfl
 refine(vS y ((vS y ?_)))
 show WJ _ _ (Za "bytes.replace" (.bytes [c].toArray u)>>=λ_=>Za "bytes.replace" (.bytes d.toArray v)>>=λ_=>_) _ _ s
 refine(vS y ((vS y ?_)))
 show WJ _ _ (if((abg b.toArray #[c] 0 b.toArray.size).isEmpty||((#[c]:Array UInt8).isEmpty&&d.toArray.isEmpty))=true then _ else _) _ _ s
 rw[Wu,Gy]
 rw[g,ZD]
 generalize q:(XI b.length).filter (hH c b)=j;cases j with
 |nil=>
  rw[if_pos (show(([]:List Nat).isEmpty=true)from rfl)]
  have e:=gI b c q
  rw[e]at h
  refine Wl (YD ?_)
  have m:aeO .bytes (.bytes b.toArray t)=pure (.bytes b.toArray t):=rfl
  exact Wl (adY m (Wq ⟨_,rfl,h t s.toks⟩))
 |cons x r=>
  rw[if_neg (by simp)]
  have i:(x::r).length<=b.length:=by
   rw[←q]
   have:=aeV (hH c b) (XI b.length)
   rwa [Zc]at this
  have tl:adS (b.length+(x::r).length*d.toArray.size)=false:=by
   refine KBy.tooLong_not ?_
   rw[Wu]
   have:=aaG d.length i
   omega
  rw[if_neg (by rw[tl];simp)]
  show WJ _ _ (ae1 .bytes (ZR d.toArray (acy b.toArray 1 (x::r)))>>=_) _ _ s
  rw[←q,kW,oj]
  exact Wl (aaS (Wq ⟨_,rfl,h _ _⟩) (by rw[Wu,W5];exact p))
def TN(a b:List UInt8):Bool:=aaC a b != .gt
theorem rP:afr («bytes.__le__» ⟨[.bytes b.toArray t,.bytes c.toArray u],[]⟩) (.val (.bool (TN b c))):=by
 refine .of_wp λM A E s Q d=>?_
 show WJ M A (aaN (.bytes c.toArray u) (.type "bytes")>>=λr=>_) _ E s
 refine c6 (λ_ q=>Zw (Xn s _ u) F.sub_bytes_bytes q) ?_
 exact Wq ⟨_,rfl,d⟩
end
section
open PySem.Builtin
namespace FX
local macro_rules | `(tactic|walk_at "fx slot")=>`(tactic|exact .of (by rw[Xh,WY];kernel_rfl) (by decide +kernel) (by decide +kernel) (by decide +kernel) (by first|exact .inl (by decide +kernel)|exact .inr (by decide +kernel)) (by rw[XG];kernel_rfl))
theorem Rg:Slot "bytes" "find" "bytes.find" := .of (owner:= "bytes") (n:= "find") (by rw[Xh,WY];kernel_rfl) (by decide +kernel) (by decide +kernel) (by decide +kernel) (by first|exact .inl (by decide +kernel)|exact .inr (by decide +kernel)) (by rw[XG];kernel_rfl)
theorem Rh:abQ (.builtin "bytes.find")=pure (.type "method_descriptor"):=by show aan _=_;rw[YI];kernel_rfl
theorem Ot:YG aaf "bytes.find" = some XQ.«bytes.find»:=by first|exact XX (by kernel_rfl)|exact XY (by kernel_rfl)
theorem Ou(a b:Wn):Yu "bytes.find" ⟨[a,b],[]⟩:=by unfold Yu;kernel_rfl
theorem Ov(a b c:Wn):Yu "bytes.find" ⟨[a,b,c],[]⟩:=by unfold Yu;kernel_rfl
theorem TO:Slot "bytes" (cmpInfo .LtE).2.1 "bytes.__le__" := .of (owner:= "bytes") (n:= "__le__") (by rw[Xh,WY];kernel_rfl) (by decide +kernel) (by decide +kernel) (by decide +kernel) (by first|exact .inl (by decide +kernel)|exact .inr (by decide +kernel)) (by rw[XG];kernel_rfl)
theorem Ru:YG aaf "bytes.__le__" = some XQ.«bytes.__le__»:=by first|exact XX (by kernel_rfl)|exact XY (by kernel_rfl)
theorem TQ(a b:Wn):Yu "bytes.__le__" ⟨[a,b],[]⟩:=by unfold Yu;kernel_rfl
end FX
end
section
open PySem.SeqAt PySem.Builtin
theorem rQ:PySem.typeName (.type "bytes")=pure "bytes" := by rw[find?_eq_fast];kernel_rfl
theorem rR:abu (.type "bytes") "__index__" = pure none:=by rw[Xh,WY];kernel_rfl
theorem GA(b:List UInt8)(k:UInt8):(ac9 b.toArray [k].toArray 0 b.toArray.size).isSome=b.contains k:=by
 rw[Wu,CH]
 unfold findIn
 rw[X4,List.find?_isSome,WU]
 constructor
 ·rintro⟨x,hx,h⟩
  have q:(b.drop x).take 1=[k]:=by simpa using h
  have:k∈(b.drop x).take 1:=by rw[q];exact .head _
  exact aaF (aaE this)
 ·intro h
  obtain⟨i,d,e⟩:=ZV h
  refine⟨i,?_,?_⟩
  ·simp;omega
  ·simp only[aar,beq_iff_eq]
   rw[adW d,List.take_succ_cons,adN,e]
theorem jZ{b:List UInt8}{k:UInt8}{t u:Tok}:Meets (XQ.«bytes.__contains__» ⟨[.bytes b.toArray t,.bytes [k].toArray u],[]⟩)
 (λA R s=>A.handled=none∧∀h' n,(∀a o,s.heap.get? a=some o->h'.get? a=some o)->R (.ok (.ret (.bool (b.contains k)))) { s with heap:=h',toks:=n}):=by
 intro prog w A R s ⟨hh,h⟩
 have hT:s.TypeIs (.bytes [k].toArray u) "bytes" := Xn s _ _
 show WJ (YW prog w) A.in1 (abx "bytes.__contains__" (.bytes b.toArray t) (.bytes [k].toArray u)>>=λv=>ret (.bool v)) _ _ s
 unfold abx
 rw[ZF]
 refine Wl (Wl ?_)
 refine abP ?_
 refine Wl (m:=asInt? _) (Wq ?_)
 refine Wl (wpAny_callSpecial?_none (name:= "__index__") hT rR ?_)
 refine Wl (m:=typeNameOfCut _ _) ?_
 refine Wl (c6 (λ_ q=>adu hT q) ?_)
 refine Wq ?_
 rw[show typeNameCut 200 (.type "bytes")=PySem.typeName (.type "bytes")from rfl,rQ]
 refine Wq ?_
 refine wpAny_raiseTypeError (hh:A.in1.handled=none) (λh' tk e hx=>?_)
 refine Az (?_)
 refine Wl ?_
 rw[ZF]
 refine Wq ?_
 refine Wl (YD (Wq ?_))
 rw[GA]
 exact Wq (h _ _ hx.1)
end
section
set_option genSizeOf false
set_option genInjectivity false
theorem ff{P:Prop}(h:false=true):P:=Bool.noConfusion h
theorem tf{P:Prop}(h:true=false):P:=Bool.noConfusion h
theorem ns{P:Prop}{d:Type}{a:d}(h:aeo=some a):P:=Option.noConfusion rfl (heq_of_eq h)
theorem sn{P:Prop}{d:Type}{a:d}(h:some a=aeo):P:=ns h.symm
theorem an{d:Type}{P:d->Prop}:∀x∈([]:List d),P x:=λ_ h=>(abA h).elim
inductive V where
 |none
 |bool (b:Bool)
 |int (i:Int)
 |str (s:List Nat)
 |bytes (b:List UInt8)
 |raw (v:Wn)
 |ref (a:Addr)
 |tup (vs:List V)
 |lst (vs:List V)
 |inst (c:Addr) (vs:List V)
inductive DK where
 |s|b|i
abbrev DK.K:DK->Type
 | .s=>Str
 | .b=>List UInt8
 | .i=>Int
noncomputable instance DK.dec:(k:DK)->DecidableEq k.K
 | .s=>inferInstanceAs (DecidableEq Str)
 | .b=>inferInstanceAs (DecidableEq (List UInt8))
 | .i=>inferInstanceAs (DecidableEq Int)
noncomputable def DK.kind(k:DK)(p:abK)(w:abI):PySem.KeyKind p w k.K:=match k with
 | .s=>strKind p w
 | .b=>YX p w
 | .i=>intKind p w
noncomputable def DK.key:(k:DK)->V->Option k.K
 | .s,.str x=>some ⟨x.toArray⟩
 | .b,.bytes x=>some x
 | .i,.int x=>some x
 |_,_=>aeo
inductive O where
 |list (vs:List V)
 |inst (c d:Addr)
 |fields (c:Addr) (vs:List V)
 |dict (k:DK) (l:List (k.K×V))
 |ba (bs:List UInt8)
set_option genSizeOf true
set_option genInjectivity true
structure Gl where
 prog:abK
 w:abI
 B:Heap
 os:OsState
 tab:List (Addr×List Str)
 big:64<=B.objs.size
noncomputable abbrev Gl.P(g:Gl):Params:=g.w.params
noncomputable def Gl.names(g:Gl)(c:Addr):List Str:=(g.tab.lookup c).getD []
abbrev FZ:=Addr->Obj->Prop
abbrev sq(T:String)(xs:List Wn)(n:Nat):Obj:={cls:=.type T,data:=.seq xs.toArray n}
abbrev TR(d:List aaQ)(n:Nat):Obj:={cls:=.type "dict",data:=.dict d.toArray n}
abbrev GB(c d:Addr):Obj:={cls:=.ref c,dict:=some d,data:=.plain}
noncomputable def om(P:adR):List (Str×Tok)->List Wn->List aaQ
 |k::ks,x::xs=>⟨ZJ P k.1,.str k.1 k.2,x⟩::om P ks xs
 |_,_=>[]
inductive bQ(F:FZ)(T:String)(R:List Wn->Prop)(x:Wn):Prop
 |mk {a:Addr} {xs:List Wn} {n:Nat} (e:x=.ref a) (h:F a (sq T xs n)) (l:xs.length<=1000000) (r:R xs)
inductive uY(P:adR)(F:FZ)(c:Addr)(ns:List Str)(R:List Wn->Prop)(x:Wn):Prop
 |mk {a d:Addr} {ks:List (Str×Tok)} {xs:List Wn} {n:Nat} (e:x=.ref a) (h:F a (GB c d)) (h':F d (TR (om P ks xs) n)) (k:ks.map (·.1)=ns) (l:ks.length=xs.length) (r:R xs)
mutual
noncomputable def VR(g:Gl)(F:FZ):V->Wn->Prop
 | .none,x=>x=.none
 | .bool b,x=>x=.bool b
 | .int i,x=>∃t,x=.int i t
 | .str s,x=>s.length<=16777216∧∃t,x=.str ⟨s.toArray⟩ t
 | .bytes b,x=>b.length<=16777216∧∃t,x=.bytes b.toArray t
 | .raw v,x=>x=v
 | .ref a,x=>x=.ref a
 | .tup vs,x=>bQ F "tuple" (bo g F vs) x
 | .lst vs,x=>bQ F "list" (bo g F vs) x
 | .inst c vs,x=>(g.tab.lookup c).isSome=true∧uY g.P F c (g.names c) (bo g F vs) x
noncomputable def bo(g:Gl)(F:FZ):List V->List Wn->Prop
 | [],xs=>xs=[]
 |v::vs,xs=>match xs with
  | []=>False
  |x::r=>VR g F v x∧bo g F vs r
end
section
variable{g:Gl}{F F':FZ}
theorem bQ.imp(d:∀a o,F a o->F' a o)(q:∀xs,R xs->y xs)(h:bQ F T R x):bQ F' T y x:=by
 cases h with|mk e h l r=>exact .mk e (d _ _ h) l (q _ r)
theorem uY.imp{P:adR}{c:Addr}{ns:List Str}{R q:List Wn->Prop}{x:Wn}(d:∀a o,F a o->F' a o)(j:∀xs,R xs->q xs)(h:uY P F c ns R x):uY P F' c ns q x:=by
 cases h with|mk e h y k l r=>exact .mk e (d _ _ h) (d _ _ y) k l (j _ r)
theorem bo.mono'(vs:List V)(h:∀v∈vs,∀x,VR g F v x->VR g F' v x):∀xs,bo g F vs xs->bo g F' vs xs:=
 ae5 (motive:=λvs=>(∀v∈vs,∀x,VR g F v x->VR g F' v x)->∀xs,bo g F vs xs->bo g F' vs xs) (λ_ _ h=>h)
  (λv vs y h xs=>Yn (motive:=λxs=>bo g F (v::vs) xs->bo g F' (v::vs) xs) xs (λh=>h) λx r q=>⟨h v (.head _) x q.1,y (λu d=>h u (.tail _ d)) r q.2⟩) vs h
theorem VR.mono(q:∀a o,F a o->F' a o)(v:V):∀x,VR g F v x->VR g F' v x:=
 V.rec (motive_1:=λv=>∀x,VR g F v x->VR g F' v x) (motive_2:=λvs=>∀v∈vs,∀x,VR g F v x->VR g F' v x)
  (λ_ h=>h) (λ_ _ h=>h) (λ_ _ h=>h) (λ_ _ h=>h) (λ_ _ h=>h) (λ_ _ h=>h) (λ_ _ h=>h)
  (λvs d _=>bQ.imp q (bo.mono' vs d)) (λvs d _=>bQ.imp q (bo.mono' vs d)) (λ_ vs d _ h=>⟨h.1,uY.imp q (bo.mono' vs d) h.2⟩)
  (λ_ h=>nomatch h) (λv vs h1 y u j=>(Wo.mp j).elim (λe=>e▸h1) (y u)) v
theorem bo.mono(d:∀a o,F a o->F' a o)(vs:List V):bo g F vs xs->bo g F' vs xs:=bo.mono' vs (λv _=>VR.mono d v) xs
end
end
noncomputable def tS(g:Gl)(F:FZ){K:Type}:List (K×V)->List (K×Wn)->Prop
 | [],r=>r=[]
 |p::l,r=>match r with
  | []=>False
  |q::r=>p.1=q.1∧VR g F p.2 q.2∧tS g F l r
noncomputable def OR(g:Gl)(F:FZ)(o:O)(x:Obj):Prop:=match o with
 | .list vs=>∃xs n,x=sq "list" xs n∧xs.length<=1000000∧bo g F vs xs
 | .inst c d=>x=GB c d
 | .fields c vs=>∃ks xs n,x=TR (om g.P ks xs) n∧ks.map (·.1)=(g.names c).take vs.length∧ks.length=xs.length∧bo g F vs xs
 | .dict k l=>l.length<=1000000∧∃r,tS g F l r∧x.IsDictOf (k.kind g.prog g.w) r
 | .ba q=>q.length<=1000000∧x={cls:=.type "bytearray",data:=.bytearray q.toArray}
abbrev AH:=Addr->Option O
noncomputable def upd(h:AH)(a:Addr)(o:Option O):AH:=λb=>if b=a then o else h b
structure St where
 loc:List (Option V)
 h:AH
structure Cx where
 env:Env
 rv:List Addr
 keep:List (Addr×Obj)
 outer:List (Addr×(Str->Option Wn))
 frs:List Addr
 w:FZ
 stk:List Env
 names:List Str
 lvl:Nat
 ro:Bool
def NF(o:Obj):Prop:=∀vs,o.data≠.fields vs
def Fz(hp:Heap)(h:AH)(rv:List Addr)(a:Addr)(o:Obj):Prop:=hp.get? a=some o∧h a=none∧a∉rv∧NF o
abbrev Cx.F(cx:Cx)(st:St)(s:Ws):FZ:=Fz s.heap st.h cx.rv
inductive KI(env:Env)(m:Str->Option Wn)(hp:Heap)(x:Str)(val:Wn):Prop
 |loc (k:env.kindOf x=some .local) (h:m x=some val)
 |cell {c:Addr} (k:env.kindOf x=some .cell∨env.kindOf x=some .free) (h:env.cells.lookup x=some c) (hc:hp.IsCell c (some val))
structure Known(g:Gl)(cx:Cx)(F:FZ)(hp:Heap)(a:Addr)(o:O):Prop where
 low:g.B.objs.size<=a
 nrv:a∉cx.rv
 obj:∃x,hp.get? a=some x∧OR g F o x
structure gL(stk:List Env)(lvl:Nat)(A:Xm):Prop where
 frames:A.frames=some stk
 depth:A.depth+20*lvl<=900
 units:A.units+100*lvl<=9000
 handled:A.handled=none
def Rv(frs:List Addr)(env:Env):Prop:=env.scope.kind=.function∧∃L,env.frame=some L∧L∈frs
structure Rx(cx:Cx):Prop where
 kind:cx.env.scope.kind=.function
 globals:cx.env.globals=XH
 builtins:cx.env.builtins=aaO
 apart:cx.env.cells.Pairwise λx y=>x.2≠y.2
 names:cx.names.Nodup
 head:∃e r,cx.stk=e::r∧e.frame=cx.env.frame
 stk:∀env∈cx.stk,Rv cx.frs env
 own:cx.env.locals∈cx.rv
 frs:∀a∈cx.frs,a∈cx.rv
 cells:∀p∈cx.env.cells,p.2∈cx.rv∧p.2≠cx.env.locals∧p.2∉cx.frs
 keep:∀p∈cx.keep,p.1∈cx.rv∧p.1≠cx.env.locals∧p.1∉cx.frs
 outer:∀p∈cx.outer,p.1∈cx.rv∧p.1≠cx.env.locals
 free:∀p∈cx.env.cells,cx.ro=false->cx.env.kindOf p.1=some .cell->(∀q∈cx.keep,q.1≠p.2)∧∀q∈cx.outer,q.1≠p.2
structure aI(g:Gl)(cx:Cx)(tmp:List V)(vals:List Wn)(st:St)(s:Ws):Prop where
 ok:Rx cx
 base:g.B.StaysIn s.heap
 gens:s.gens=#[]
 os:s.os=g.os
 known:∀a o,st.h a=some o->Known g cx (cx.F st s) s.heap a o
 rsv:∀a∈cx.rv,g.B.objs.size<=a∧∃x,s.heap.get? a=some x
 frs:∀a∈cx.frs,∃x,s.heap.get? a=some x∧NF x
 keep:∀p∈cx.keep,s.heap.get? p.1=some p.2
 outer:∀p∈cx.outer,s.heap.Ns p.1 p.2
 cl:∀p∈cx.env.cells,∃v,s.heap.IsCell p.2 v
 loc:∃m,s.heap.Ns cx.env.locals m∧∀(i:Nat) x v,cx.names[i]? = some x->st.loc[i]? = some (some v)->∃val,VR g (cx.F st s) v val∧KI cx.env m s.heap x val
 wait:∀a o,cx.w a o->cx.F st s a o
 tmp:bo g (cx.F st s) tmp vals
section
variable{g:Gl}{F F':FZ}{cx:Cx}{tmp:List V}{vals:List Wn}{st:St}{s:Ws}{a:Addr}{hp:Heap}{tk:Nat}
theorem dJ{B:Heap}(h:B.objs.size<=a):B.get? a=none:=
 match e:B.get? a with
 |none=>rfl
 |some o=>absurd (W6 e) (Xq.mpr h)
theorem tS.mono(y:∀a o,F a o->F' a o){K:Type}:∀{l:List (K×V)} {r:List (K×Wn)},tS g F l r->tS g F' l r:=by
 intro d
 induction d with
 |nil=>
  intro _ h
  exact h
 |cons i u j=>
  intro q
  cases q with
  |nil=>
   intros;exact WC ‹_›
  |cons z c=>
   intro h
   exact⟨h.1,VR.mono y _ _ h.2.1,j h.2.2⟩
theorem OR.mono(q:∀a o,F a o->F' a o)(h:OR g F o x):OR g F' o x:=by
 cases o with
 |list vs=>exact h.imp λ_=>XS λ_ h=>⟨h.1,h.2.1,h.2.2.mono q⟩
 |inst c d=>exact h
 |fields c vs=>exact h.imp λ_=>XS λ_=>XS λ_ h=>⟨h.1,h.2.1,h.2.2.1,h.2.2.2.mono q⟩
 |dict k l=>exact⟨h.1,h.2.imp λ_ h=>⟨h.1.mono q,h.2⟩⟩
 |ba y=>exact h
theorem Vf(e:x.data=d)(h:∀vs,d≠.fields vs):NF x:=λvs q=>h vs (e.symm.trans q)
def Ry(d:Data):Bool:=match d with
 | .fields _=>true
 |_=>false
theorem c7(e:x.data=d)(h:Ry d=false):NF x:=λvs q=>tf ((congrArg Ry (q.symm.trans e)).trans h)
theorem OR.nf(h:OR g F o x):NF x:=by
 cases o with
 |list=>exact h.elim λ_ h=>h.elim λ_ h=>c7 (congrArg _ h.1) rfl
 |inst=>exact c7 (congrArg _ h) rfl
 |fields=>exact h.elim λ_ h=>h.elim λ_ h=>h.elim λ_ h=>c7 (congrArg _ h.1) rfl
 |dict=>exact h.2.elim λ_ h=>h.2.elim λ_ h=>h.elim λ_ h=>c7 h.2.1 rfl
 |ba=>exact c7 (congrArg _ h.2) rfl
theorem aB(h:AH)(a:Addr)(o:Option O):upd h a o a=o:=if_pos rfl
theorem aE(n:b≠a):upd h a o b=h b:=if_neg n
theorem aI.lt(R:aI g cx tmp vals st s)(e:st.h a=some o):a<s.heap.objs.size:=let⟨_,q,_⟩:=(R.known a o e).obj;W6 q
theorem aI.fresh(R:aI g cx tmp vals st s)(l:s.heap.objs.size<=a):st.h a=none:=
 match e:st.h a with
 |none=>rfl
 |some _=>absurd (R.lt e) (Xq.mpr l)
theorem aI.notRv(R:aI g cx tmp vals st s)(l:s.heap.objs.size<=a):a∉cx.rv:=λq=>let⟨_,h⟩:=(R.rsv a q).2;absurd (W6 h) (Xq.mpr l)
theorem aI.rvNone(R:aI g cx tmp vals st s)(h:a∈cx.rv):st.h a=none:=
 match e:st.h a with
 |none=>rfl
 |some _=>absurd h (R.known a _ e).nrv
theorem aI.bNone(R:aI g cx tmp vals st s)(h:a<g.B.objs.size):st.h a=none:=
 match e:st.h a with
 |none=>rfl
 |some _=>absurd h (Xq.mpr (R.known a _ e).low)
theorem aI.size(R:aI g cx tmp vals st s):g.B.objs.size<=s.heap.objs.size:=let⟨l,_,q⟩:=R.rsv _ R.ok.own;Wh l (Xy (W6 q))
theorem aI.chg(R:aI g cx tmp vals st s)(u:∀b o,s.heap.get? b=some o->st.h b=none->hp.get? b=some o∧h' b=none)
 (k:(∀b o,cx.F st s b o->Fz hp h' cx.rv b o)->∀b o,h' b=some o->Known g cx (Fz hp h' cx.rv) hp b o):aI g cx tmp vals ⟨st.loc,h'⟩ { s with heap:=hp,toks:=tk}:=
 have hF:∀b o,cx.F st s b o->Fz hp h' cx.rv b o:=λb o x=>⟨(u b o x.1 x.2.1).1,(u b o x.1 x.2.1).2,x.2.2⟩
 have r:∀{b o},s.heap.get? b=some o->b∈cx.rv->hp.get? b=some o:=λx y=>(u _ _ x (R.rvNone y)).1
 have cell:∀{b v},b∈cx.rv->s.heap.IsCell b v->hp.IsCell b v:=λy x=>x.imp λ_ x=>⟨r x.1 y,x.2⟩
 have ns:∀{b m},b∈cx.rv->s.heap.Ns b m->hp.Ns b m:=λy x=>x.imp λ_=>XS λ_=>XS λ_ x=>⟨r x.1 y,x.2⟩
 {ok:=R.ok
  base:=λb o e=>(u b o (R.base b o e) (R.bNone (W6 e))).1
  gens:=R.gens
  os:=R.os
  known:=k hF
  rsv:=λb h=>⟨(R.rsv b h).1,(R.rsv b h).2.imp λ_ x=>r x h⟩
  frs:=λb h=>(R.frs b h).imp λ_ x=>⟨r x.1 (R.ok.frs b h),x.2⟩
  keep:=λp h=>r (R.keep p h) (R.ok.keep p h).1
  outer:=λp h=>ns (R.ok.outer p h).1 (R.outer p h)
  cl:=λp h=>(R.cl p h).imp λ_ x=>cell (R.ok.cells p h).1 x
  loc:=R.loc.imp λm x=>⟨ns R.ok.own x.1,λi y v a b=>(x.2 i y v a b).imp λval z=>⟨z.1.mono hF,by
   cases z.2 with
   |loc k h=>exact .loc k h
   |cell k h hc=>exact .cell k h (cell (R.ok.cells (y,_) (by
    obtain⟨l1,l2,e,_⟩:=aee.mp h
    rw[e];exact WW _ (.head _))).1 hc)⟩⟩
  wait:=λa o x=>hF a o (R.wait a o x)
  tmp:=R.tmp.mono hF}
theorem aI.keeps(R:aI g cx tmp vals st s)(hk:∀b o,s.heap.get? b=some o->hp.get? b=some o):aI g cx tmp vals st { s with heap:=hp,toks:=tk}:=
 R.chg (λb o x y=>⟨hk b o x,y⟩) λhF b o e=>let k:=R.known b o e;⟨k.low,k.nrv,k.obj.imp λ_ x=>⟨hk _ _ x.1,x.2.mono hF⟩⟩
theorem aI.toks(R:aI g cx tmp vals st s):aI g cx tmp vals st { s with toks:=tk}:=R.keeps λ_ _ x=>x
theorem aI.put(R:aI g cx tmp vals st s)(ha:s.heap.objs.size<=a∨(∃o,st.h a=some o))(hk:∀b o,b≠a->s.heap.get? b=some o->hp.get? b=some o)(ho:hp.get? a=some x)
 (r:∀F',(∀b o,b≠a->cx.F st s b o->F' b o)->OR g F' o x):aI g cx tmp vals ⟨st.loc,upd st.h a (some o)⟩ { s with heap:=hp,toks:=tk}:=
 have ne:∀{b o},s.heap.get? b=some o->st.h b=none->b≠a:=λx y q=>ha.elim (λl=>absurd (W6 x) (Xq.mpr (q▸l))) λ⟨_,e⟩=>by rw[←q,y]at e;cases e
 R.chg (λb o x y=>⟨hk b o (ne x y) x,(aE (ne x y)).trans y⟩) λhF b o' e=>by
  by_cases q:b=a
  ·subst q
   rw[aB]at e;cases e
   exact⟨ha.elim (Wh (R.size)) λ⟨_,e⟩=>(R.known _ _ e).low,ha.elim R.notRv λ⟨_,e⟩=>(R.known _ _ e).nrv,x,ho,r _ λb o _ x=>hF b o x⟩
  ·rw[aE q]at e
   let k:=R.known b o' e
   exact⟨k.low,k.nrv,k.obj.imp λ_ x=>⟨hk _ _ q x.1,x.2.mono hF⟩⟩
theorem aI.alloc(R:aI g cx tmp vals st s)(hk:∀b o,s.heap.get? b=some o->hp.get? b=some o)(ha:s.heap.objs.size<=a)(ho:hp.get? a=some x)
 (r:OR g (cx.F st s) o x):aI g cx tmp vals ⟨st.loc,upd st.h a (some o)⟩ { s with heap:=hp,toks:=tk}:=
 R.put (.inl ha) (λb o _=>hk b o) ho λF' h=>r.mono λb o x=>h b o (λq=>absurd (W6 x.1) (Xq.mpr (q▸ha))) x
theorem aI.turn(R:aI g cx tmp vals st s)(e₀:st.h a=some o₀)(hs:Xp a s.heap hp)(ho:hp.get? a=some x)(r:OR g (cx.F st s) o x) :
 aI g cx tmp vals ⟨st.loc,upd st.h a (some o)⟩ { s with heap:=hp,toks:=tk}:=
 R.put (.inr ⟨_,e₀⟩) (λb o q e=>(hs.2 b q).trans e) ho λF' h=>r.mono λb o x=>h b o (λq=>by have:=x.2.1;rw[q,e₀]at this;cases this) x
theorem aI.forget(R:aI g cx tmp vals st s)(hs:∀a o,d a=some o->st.h a=some o):aI g cx tmp vals ⟨st.loc,d⟩ s:=
 R.chg (hp:=s.heap) (tk:=s.toks) (λb o x y=>⟨x,match e:d b with|none=>rfl|some _=>by rw[hs _ _ e]at y;cases y⟩) λq b o e=>let k:=R.known b o (hs b o e);⟨k.low,k.nrv,k.obj.imp λ_ x=>⟨x.1,x.2.mono q⟩⟩
theorem aI.new(R:aI g cx tmp vals st s)(y:∀b o,s.heap.get? b=some o->hp.get? b=some o)(ha:s.heap.objs.size<=a)(d:hp.get? a=some x)(q:NF x):Fz hp st.h cx.rv a x:=⟨d,R.fresh ha,R.notRv ha,q⟩
theorem aI.drop(R:aI g cx tmp vals st s):aI g cx [] [] st s:={R with tmp:=rfl}
theorem aI.push(R:aI g cx tmp vals st s)(h:VR g (cx.F st s) v x):aI g cx (v::tmp) (x::vals) st s:={R with tmp:=⟨h,R.tmp⟩}
theorem aI.pop(R:aI g cx (v::tmp) (x::vals) st s):aI g cx tmp vals st s:={R with tmp:=R.tmp.2}
end
section
open Sem (wp)
noncomputable abbrev Gl.M(g:Gl):Model:=YW g.prog g.w
noncomputable def GC(v:Wn):Code×Pos->Bool:=(⟨_,rfl⟩:{F:Code×Pos->Bool // ac2 v=(stack>>=λst=>pure (st.any F))}).1
theorem yE(v:Wn):ac2 v=(stack>>=λst=>pure (st.any (GC v))):=rfl
def j0(c:Code):Prop:=∀v p,GC v (c,p)=false
def ml(d:Ctx):Prop:=j0 d.code∧∀q∈d.below,j0 q.1
theorem ml.enter(h:ml d)(hc:j0 c)(hd:Option Wn)(p:Pos):ml (d.enter c hd p):=
 ⟨hc,λq y=>(Wo.mp y).elim (λe=>e▸h.1) (h.2 q)⟩
theorem ml.goto(h:ml d)(hc:j0 c):ml (d.goto c):=⟨hc,h.2⟩
theorem oq(f:Wn)(a:Args):j0 (.call f a):=λ_ _=>rfl
section
variable{α β:Type}{g:Gl}{A:Xm}{s:Ws}{E:Wn->Ws->Prop}
def wq(g:Gl)(A:Xm)(t:Sem α)(Q:α->Ws->Prop)(E:Wn->Ws->Prop)(s:Ws):Prop:=
 ∀d p,d.In A->ml d->wp g.M d t (λa _ q=>Q a q) (λe _ q=>E e q) p s
def cq(g:Gl)(A:Xm)(c:Code)(R:abU->Ws->Prop)(s:Ws):Prop:=
 ∀d p,d.code=c->d.Below A->ml d->wpCode g.M d (λr q=>R r q) p s
def AI(g:Gl)(A:Xm)(R:abU->Ws->Prop)(bc:aaT)(s:Ws):Prop:=match bc with
 | .done f=>R (.ok f) s
 | .again c=>c.quiet=true∧j0 c∧cq g A c R s
def Ri(Q:Flow->Ws->Prop)(E:Wn->Ws->Prop)(r:abU)(s:Ws):Prop:=match r with
 | .ok f=>Q f s
 | .error e=>E e s
def Ug(Q:Wn->Ws->Prop)(f:Flow)(s:Ws):Prop:=match f with
 | .ret v=>Q v s
 |_=>False
theorem aF(h:WJ g.M A t Q E s):wq g A t Q E s:=λq p d _=>h q p d
theorem be(h:wq g A t Q E s)(k:∀a d,Q a d->Q' a d)(e:∀a d,E a d->j a d):wq g A t Q' j s:=
 λy p q hc=>aad _ y t (λa _ d=>k a d) (λa _ d=>e a d) p s (h y p q hc)
theorem aV{t:Sem α}{Q Q':α->Ws->Prop}(h:wq g A t Q E s)(k:∀a d,Q a d->Q' a d):wq g A t Q' E s:=be h k λ_ _ x=>x
theorem aq{m:Sem α}{f:α->Sem β}{Q:β->Ws->Prop}(h:wq g A m (λa j=>wq g A (f a) Q E j) E s):wq g A (m>>=f) Q E s:=λy p d hc=>by
 rw[aeM]
 exact aad _ y m (λa i j q=>q y i d hc) (λ_ _ _ q=>q) p s (h y p d hc)
theorem b0{m:Sem α}{f:α->Sem β}{Q:α->Ws->Prop}{Q':β->Ws->Prop}(h:wq g A m Q E s)(k:∀a d,Q a d->wq g A (f a) Q' E d):wq g A (m>>=f) Q' E s:=aq (aV h k)
theorem ax(h:Q a s):wq g A (pure a) Q E s:=λ_ _ _ _=>h
theorem Ng{t:Sem α}{a:α}{Q:α->Ws->Prop}(e:t=pure a)(h:Q a s):wq g A t Q E s:=e▸ax h
theorem dZ{a:α}{f:α->Sem β}{Q:β->Ws->Prop}(h:wq g A (f a) Q E s):wq g A (pure a>>=f) Q E s:=h
theorem kK{m:Sem α}{a:α}{f:α->Sem β}{Q:β->Ws->Prop}(e:m=pure a)(h:wq g A (f a) Q E s):wq g A (m>>=f) Q E s:=e▸h
theorem Uh{m:Sem α}{a:α}{d:Ws}{f:α->Sem β}{Q:β->Ws->Prop}(l:∀R:α->Ws->Prop,R a d->wq g A m R E s)(h:wq g A (f a) Q E d):wq g A (m>>=f) Q E s:=aq (l _ h)
theorem fD{m:Sem α}{a:α}{d:Ws}{f:α->Sem β}{Q:β->Ws->Prop}(l:∀R:α->Ws->Prop,R a d->WJ g.M A m R E s)(h:wq g A (f a) Q E d):wq g A (m>>=f) Q E s:=aq (aF (l _ h))
theorem Rz(h:Q () s):wq g A (XO pos) Q E s:=aF (ac5 h)
theorem aU{pos:Pos}{t:Sem β}{Q:β->Ws->Prop}(h:wq g A t Q E s):wq g A (XO pos>>=λ_=>t) Q E s:=aq (Rz h)
theorem ay{vs:List Wn}{m:Sem α}{Q:α->Ws->Prop}(h:wq g A m Q E s):wq g A (XU vs m) Q E s:=λq p d hc=>by rw[Sem.wp_holding];exact h q p d hc
theorem KJ{vs:List Wn}{m:Sem α}{Q:α->Ws->Prop}(h:wq g A m Q E s):wq g A (m.keep vs) Q E s:=λq p d hc=>by rw[Sem.wp_keep];exact h q p d hc
theorem cI{m:Sem α}{k:Wn->Sem Unit}{Q:α->Ws->Prop}(h:wq g A m Q (λe z=>wq g A (k e) (λ_ q=>E e q) E z) s):wq g A (m.onRaise k) Q E s:=λj p d hc=>by
 rw[Sem.wp_onRaise]
 exact aad _ j m (λ_ _ _ y=>y) (λ_ i _ y=>y j i d hc) p s (h j p d hc)
theorem kX{m:Sem α}{Q:Except Wn α->Ws->Prop}(h:wq g A m (λa d=>Q (.ok a) d) (λe d=>Q (.error e) d) s):wq g A m.attempt Q E s:=λy p q hc=>by
 rw[Sem.wp_attempt];exact h y p q hc
theorem RA{c:Prop}[Decidable c]{x y:Sem α}{Q:α->Ws->Prop}(h1:c->wq g A x Q E s)(d:¬c->wq g A y Q E s):wq g A (if c then x else y) Q E s:=by
 split
 ·exact h1 ‹_›
 ·exact d ‹_›
set_option tactic.hygienic true in
theorem Ow{c:Code}{d:Ctx}{p:Pos}{Q:Flow->Ws->Prop}(h:wpCode g.M d (Ri Q E) p s):wpCode g.M d (λr q=>match r with | .ok f=>Q f q | .error e=>E e q) p s:=h.imp λ_=>XS λ_ x=>⟨x.1,by
 rename_i r _
 cases r <;> exact x.2⟩
theorem GD(hc:cq g A c (Ri Q E) s)(q:j0 c):wq g A (run c) Q E s:=λy p d hC=>by
 rw[Sem.wp_run]
 exact Ow (c:=c) (hc _ p rfl (d.enter c none p ns) (hC.enter q none p))
theorem ou(hc:cq g A c (Ri Q λe q=>cameBackBy g.M A env E e q) s)(d:j0 c):wq g A (runOwn c env) Q E s:=
 cI (aV (be (GD hc d) (λ_ _ x=>x) λ_ _ x=>aF x) λ_ _ x=>x)
theorem jN(hc:cq g A (.call f ⟨pos,kw⟩) (Ri (Ug Q) E) s):wq g A (call f pos kw) Q E s:=λΓ p hΓ hC=>by
 rw[Sem.wp_runValue]
 exact(hc _ p rfl (hΓ.enter _ none p ns) (hC.enter (oq _ _) none p)).imp λr=>XS λs' x=>⟨x.1,by
  cases r with
  |ok f=>cases f <;> exact x.2
  |error e=>exact x.2⟩
theorem Vg(h:ady g.M A c R s):cq g A c R s:=λq p hc d _=>h q p hc d
theorem mn(h:cq g A c R s)(k:∀f d,R f d->j f d):cq g A c j s:=λy p hc q hC=>(h y p hc q hC).imp λr=>XS λd x=>⟨x.1,k _ _ x.2⟩
theorem fE(hh:j0 c)(h:wq g (A.under c) (g.M.den c) (AI g A R) (λe s'=>R (.error e) s') s):cq g A c R s:=λΓ p hc hΓ hC=>by
 rw[wpCode_iff_wp,hc]
 refine aad _ Γ _ (λbc p' s' h'=>?_) (λ_ _ _ h'=>h') p s (h Γ p (hc▸hΓ.in) hC)
 cases bc with
 |done f=>exact h'
 |again c'=>exact⟨h'.1,h'.2.2 (Γ.goto c') p' rfl (hΓ.goto c') (hC.goto h'.2.1)⟩
theorem rm(hq:c.quiet=true)(hh:j0 c)(I:Nat->Ws->Prop)
 (turn:∀n s,I n s->wq g (A.under c) (g.M.den c) (λbc s'=>(bc=.again c∧∃m,m<n∧I m s')∨AI g A R bc s') (λe s'=>R (.error e) s') s) (n:Nat) (h:I n s):cq g A c R s:=by
 induction n using Nat.strongRecOn generalizing s with
 |ind n ih=>exact fE hh (aV (turn n s h) λbc s' hf=>hf.elim (λ⟨e,m,hm,hI⟩=>e▸⟨hq,hh,ih m hm hI⟩) id)
end
end
set_option backward.match.sparseCases false
abbrev PT:=(V->St->Prop)->(St->Prop)->St->Prop
noncomputable section
def vc(v:V)(fi:Int->Prop:=λ_=>False)(fb:List UInt8->Prop:=λ_=>False)(fs:List Nat->Prop:=λ_=>False)(fo:Bool->Prop:=λ_=>False)
 (ft:List V->Prop:=λ_=>False) (fl:List V->Prop:=λ_=>False) (fr:Addr->Prop:=λ_=>False) (fn:Prop:=False) (fc:Addr->List V->Prop:=λ_ _=>False):Prop:=
 V.casesOn (motive_1:=λ_=>Prop) v fn fo fi fs fb (λ_=>False) fr ft fl fc
def oc(o:O)(fl:List V->Prop:=λ_=>False)(fi:Addr->Addr->Prop:=λ_ _=>False)(ff:Addr->List V->Prop:=λ_ _=>False)(fd:(k:DK)->List (k.K×V)->Prop:=λ_ _=>False)(fb:List UInt8->Prop:=λ_=>False):Prop:=
 O.casesOn (motive:=λ_=>Prop) o fl fi ff fd fb
def dS(x:Option d)(k:d->Prop):Prop:=Xa (motive:=λ_=>Prop) x False k
def br(b:Bool)(t f:Prop):Prop:=Ze (motive:=λ_=>Prop) b f t
abbrev kL(v:V)(k:Int->Prop):Prop:=vc v (fi:=k)
abbrev AJ(v:V)(k:List UInt8->Prop):Prop:=vc v (fb:=k)
abbrev Nh(v:V)(k:List Nat->Prop):Prop:=vc v (fs:=k)
abbrev iF(v:V)(k:List V->Prop):Prop:=vc v (fl:=k)
abbrev Rj(v:V)(k:List V->Prop):Prop:=vc v (ft:=k)
abbrev Ox(v:V)(k:Addr->Prop):Prop:=vc v (fr:=k)
abbrev GF(v:V)(k:Bool->Prop):Prop:=vc v (fo:=k)
def res(h:AH)(v:V):V:=V.casesOn (motive_1:=λ_=>V) v .none .bool .int .str .bytes .raw
 (λa=>Xa (motive:=λ_=>V) (h a) (.ref a) λo=>O.casesOn (motive:=λ_=>V) o .lst (λ_ _=>.ref a) (λ_ _=>.ref a) (λ_ _=>.ref a) (λ_=>.ref a)) .tup .lst .inst
def vW(a:Addr)(us:List V)(vs:List V):List V:=
 V.rec_1 (motive_1:=λ_=>V) (motive_2:=λ_=>List V) .none .bool .int .str .bytes .raw (λb=>if b=a then .lst us else .ref b) (λ_ r=>.tup r) (λ_ r=>.lst r) (λc _ r=>.inst c r) [] (λ_ _ v r=>v::r) vs
def b9(a:Addr)(us:List V)(v:V):V:=
 V.rec (motive_1:=λ_=>V) (motive_2:=λ_=>List V) .none .bool .int .str .bytes .raw (λb=>if b=a then .lst us else .ref b) (λ_ r=>.tup r) (λ_ r=>.lst r) (λc _ r=>.inst c r) [] (λ_ _ v r=>v::r) v
def frSt(a:Addr)(vs:List V)(st:St):St:=⟨st.loc.map (Yw (b9 a vs)),upd st.h a none⟩
def GG(f:Bool->Bool->Bool)(x y:Option Bool):Option Bool:=x.bind λa=>y.map (f a)
def Ni(f:V->V->Option Bool)(vs ws:List V):Option Bool:=(List.zipWith f vs ws).foldr (GG and) (some true)
def j1(o:Option Bool)(f:V->V->Option Bool)(vs ws:List V):Option Bool:=if vs.length=ws.length then Ni f vs ws else o
def ji:Nat->V->V->Option Bool
 |0,_,_=>none
 |n+1,v,w=>match v with
  | .int i=>match w with | .int j=>some (i==j)|_=>none
  | .str i=>match w with | .str j=>some (i==j)|_=>none
  | .bytes i=>match w with | .bytes j=>some (i==j)|_=>none
  | .tup vs=>match w with | .tup ws=>j1 none (ji n) vs ws|_=>none
  | .lst vs=>match w with | .lst ws=>j1 (some false) (ji n) vs ws|_=>none
  |_=>none
def eqT(v w:V):Option Bool:=match v with
 | .none=>match w with | .none=>some true | .int _=>some false | .tup _=>some false|_=>none
 | .bool i=>match w with | .bool j=>some (i==j)|_=>none
 | .inst _ _=>match w with | .str _=>some false|_=>none
 | .tup vs=>match w with | .none=>some false | .tup ws=>j1 none (ji 3) vs ws|_=>none
 |v=>ji 4 v w
def GH(l:List (Option Bool)):Option Bool:=l.foldr (GG or) (some false)
def AK(n:Nat):Prop:=n<=16777216
def Ey(a b:V)(c:Int->Int->Prop)(f:Int->Int->Int)(Q:V->Prop):Prop:=kL a λi=>kL b λj=>c i j∧Q (.int (f i j))
def KL(a b:V)(h:AH)(Q:V->Prop):Prop:=vc (res h a)
 (fi:=λi=>kL b λj=>Q (.int (i+j)))
 (fb:=λx=>AJ b λy=>AK (x.length+y.length)∧Q (.bytes (x++y)))
 (fs:=λx=>Nh b λy=>AK (x.length+y.length)∧Q (.str (x++y)))
 (fl:=λx=>iF (res h b) λy=>x.length+y.length<=1000000∧Q (.lst (x++y)))
def RB(a b:V)(h:AH)(Q:V->Prop):Prop:=vc (res h a)
 (fi:=λi=>kL b λj=>adG i j∧Q (.int (i*j)))
 (fb:=λx=>kL b λn=>(x≠[]∧x.length<=16∧-1048576<=n∧n<=1048576)∧Q (.bytes (Xb n.toNat x).flatten))
 (fl:=λx=>kL b λn=>(0<=n∧n<=16∧x.length<=1000)∧Q (.lst (Xb n.toNat x).flatten))
def Ez(op:Operator)(a b:V)(h:AH)(Q:V->Prop):Prop:=match op with
 | .Add=>KL a b h Q
 | .Sub=>kL a λi=>kL b λj=>Q (.int (i-j))
 | .Mult=>RB a b h Q
 | .FloorDiv=>Ey a b (λi j=>j≠0∧aaB i j=false) Int.fdiv Q
 | .Mod=>Ey a b (λ_ j=>j≠0) Int.fmod Q
 | .RShift=>Ey a b (λ_ j=>0<=j) (λi j=>i.fdiv (2^j.toNat)) Q
 | .BitAnd=>kL a λi=>kL b λj=>Q (.int (adi i j))
 | .Pow=>Ey a b (λi j=>0<=j∧j<=1000∧i.natAbs<2^64) (λi j=>i^j.toNat) Q
 |_=>False
def atKey{K:Type}[DecidableEq K](l:List (K×V))(k:K):Option V:=(l.find? λd=>d.1=k).map (·.2)
def fF{K:Type}[DecidableEq K](l:List (K×V))(k:K)(v:V):List (K×V):=if l.any (λd=>d.1=k)then l.map (λd=>if d.1=k then(d.1,v)else d)else l++[(k,v)]
def among(vs:List V)(x:V)(P:Bool->Prop):Prop:=dS (GH (vs.map λv=>ji 4 v x)) P
def only(l:List d)(k:d->Prop):Prop:=Yn (motive:=λ_=>Prop) l False λa r=>Yn (motive:=λ_=>Prop) r (k a) λ_ _=>False
def RD(x c:V)(h:AH)(P:Bool->Prop):Prop:=vc (res h c)
 (fb:=λb=>vc x (fi:=λi=>(0<=i∧i<256)∧P (b.contains i.toNat.toUInt8)) (fb:=λk=>only k λk=>P (b.contains k)))
 (fs:=λb=>Nh x λk=>only k λk=>P (decide (k∈b)))
 (fr:=λa=>dS (h a) λo=>oc o (fd:=λk l=>dS (k.key x) λd=>P (atKey l d).isSome))
 (ft:=λvs=>among vs x P) (fl:=λvs=>among vs x P)
def isNone(v:V):Bool:=V.casesOn (motive_1:=λ_=>Bool) v true (λ_=>false) (λ_=>false) (λ_=>false) (λ_=>false) (λ_=>false) (λ_=>false) (λ_=>false) (λ_=>false) (λ_ _=>false)
def jj(v:V):Prop:=V.casesOn (motive_1:=λ_=>Prop) v True (λ_=>True) (λ_=>True) (λ_=>True) (λ_=>True) (λ_=>False) (λ_=>True) (λ_=>True) (λ_=>True) (λ_ _=>True)
def Ui(a b:V)(P:Bool->Prop):Prop:=vc b (fn:=jj a∧P (isNone a))
def KN(f:Int->Int->Bool)(a b:V)(P:Bool->Prop):Prop:=kL a λi=>kL b λj=>P (f i j)
def Vh(a b:V)(P:Bool->Prop):Prop:=vc a (fi:=λi=>kL b λj=>P (decide (i<=j))) (fb:=λx=>AJ b λy=>P (abw x y != .gt))
def tU(op:CmpOp)(a b:V)(h:AH)(P:Bool->Prop):Prop:=match op with
 | .Eq=>dS (eqT (res h a) (res h b)) P
 | .NotEq=>dS (eqT (res h a) (res h b)) λc=>P (!c)
 | .In=>RD a b h P
 | .NotIn=>RD a b h λc=>P (!c)
 | .Is=>Ui a b P
 | .IsNot=>Ui a b λc=>P (!c)
 | .Lt=>KN (λi j=>decide (i<j)) a b P
 | .Gt=>KN (λi j=>decide (i>j)) a b P
 | .GtE=>KN (λi j=>decide (i≥j)) a b P
 | .LtE=>Vh a b P
def GI(vs:List V)(k:Int)(Q:V->Prop):Prop:=if k=-1 then dS vs.getLast? Q else 0<=k∧dS vs[k.toNat]? Q
def Uj(k:Int)(l:List d)(Q:d->Prop):Prop:=0<=k∧dS l[k.toNat]? Q
def gn(o i:V)(h:AH)(Q:V->Prop):Prop:=vc (res h o)
 (fb:=λb=>kL i λk=>Uj k b λc=>Q (.int (c.toNat:Nat)))
 (fs:=λb=>kL i λk=>Uj k b λc=>Q (.str [c]))
 (ft:=λb=>kL i λk=>Uj k b Q)
 (fl:=λb=>kL i λk=>GI b k Q)
 (fr:=λa=>dS (h a) λo=>oc o (fd:=λk l=>dS (k.key i) λd=>dS (atKey l d) Q))
def KO(v:V)(k:Option Int->Prop):Prop:=vc v (fn:=k none) (fi:=λi=>k (some i))
def bY{d:Type}(l:List d)(lo q:Option Int):List d:=(l.drop (lo.elim 0 (abS l.length))).take (q.elim l.length (abS l.length)-lo.elim 0 (abS l.length))
def Uk(x:List Nat)(lo d:Option Int)(Q:V->Prop):Prop:=
 ∃a b:Nat,((lo=none∧a=0)∨lo=some (a:Int))∧((d=none∧b=x.length)∨d=some (b:Int))∧a<=b∧b<=x.length∧Q (.str ((x.drop a).take (b-a)))
def RE(v:V)(lo d:Option Int)(h:AH)(Q:V->Prop):Prop:=vc (res h v) (fb:=λb=>Q (.bytes (bY b lo d))) (fs:=λx=>Uk x lo d Q) (fl:=λvs=>Q (.lst (bY vs lo d)))
def vX:List (Option V)->List Nat->List V->List (Option V)
 |l,i::is,v::vs=>vX (l.set i (some v)) is vs
 |l,_,_=>l
abbrev gH:=V->(St->Prop)->St->Prop
def aj(i:Nat):gH:=λv Q st=>Q ⟨st.loc.set i (some v),st.h⟩
def Ul(is:List Nat):gH:=λv Q st=>Rj v λvs=>is.length=vs.length∧Q ⟨vX st.loc is vs,st.h⟩
def Oy(o i v:V)(Q:St->Prop)(st:St):Prop:=Ox o λa=>dS (st.h a) λd=>oc d
 (fl:=λvs=>kL i λk=>if k=-1 then vs≠[]∧Q ⟨st.loc,upd st.h a (some (.list (vs.set (vs.length-1) v)))⟩else(0<=k∧k<vs.length)∧Q ⟨st.loc,upd st.h a (some (.list (vs.set k.toNat v)))⟩)
 (fd:=λk l=>dS (k.key i) λq=>l.length<1000000∧Q ⟨st.loc,upd st.h a (some (.dict k (fF l q v)))⟩)
def putAt(vs:List V)(i:Nat)(v:V):List V:=if i<vs.length then vs.set i v else vs++[v]
abbrev Ix:=List (Addr×Nat)
def Oz(d:Ix)(c:Addr)(vs:List V)(Q:V->Prop):Prop:=dS (d.lookup c) λi=>dS vs[i]? λu=>jj u∧Q u
def GJ(q:Ix)(v:V)(h:AH)(Q:V->Prop):Prop:=vc v (fc:=λc vs=>Oz q c vs Q) (fr:=λa=>dS (h a) λo=>oc o (fi:=λc d=>dS (h d) λo=>oc o (ff:=λy vs=>c=y∧Oz q c vs Q)))
def OA(q:Ix)(o v:V)(Q:St->Prop)(st:St):Prop:=Ox o λa=>dS (st.h a) λo=>oc o (fi:=λc d=>dS (st.h d) λo=>oc o (ff:=λy vs=>c=y∧dS (q.lookup c) λi=>i<=vs.length∧Q ⟨st.loc,upd st.h d (some (.fields c (putAt vs i v)))⟩))
def fresh(o:O)(st:St)(Q:V->St->Prop):Prop:=∀c,st.h c=none->Q (.ref c) ⟨st.loc,upd st.h c (some o)⟩
def RG(v:V)(st:St)(Q:List V->St->Prop):Prop:=vc v
 (fb:=λb=>Q (b.map λc=>.int (c.toNat:Nat)) st) (fs:=λx=>Q (x.map λc=>.str [c]) st) (ft:=λvs=>Q vs st) (fl:=λvs=>Q vs st)
 (fr:=λa=>dS (st.h a) λo=>oc o (fl:=λvs=>Q vs (frSt a vs st)))
def fU(s:gH)(W:PT):List V->PT
 | [],Q,_,st=>Q .none st
 |v::r,Q,X,st=>s v (λq=>W (λf d=>br (isNone f) (fU s W r Q X d) (Q f d)) X q) st
def rS(y Wb:PT):Nat->PT
 |0,_,_,_=>False
 |n+1,Q,X,st=>y (λb q=>GF b λb=>br b (Wb (λf d=>br (isNone f) (rS y Wb n Q X d) (Q f d)) X q) (Q .none q)) X st
def uZ:St->Prop:=λ_=>False
def iH(s:gH)(i z:PT):List V->List V->(List V->St->Prop)->St->Prop
 | [],d,Q,st=>Q d st
 |v::r,d,Q,st=>s v (λj=>i (λb q=>GF b λb=>br b (z (λy u=>iH s i z r (d++[y]) Q u) uZ q) (iH s i z r d Q q)) uZ j) st
def j2:PT:=λQ _ st=>Q (.bool true) st
def fV(z u:gH)(c p:PT):List V->List V->(List V->St->Prop)->St->Prop
 | [],d,Q,st=>Q d st
 |v::r,d,Q,st=>z v (λj=>c (λvs y=>iF vs λvs=>d.length+vs.length<=900000∧iH u j2 p vs d (λq i=>fV z u c p r q Q i) y) uZ j) st
def eJ(is:List Nat)(loc:List (Option V)):List (Option V):=is.map λi=>(loc[i]?).join
def cJ:PT:=λ_ _ _=>False
def ae(i:Nat):PT:=λQ _ st=>dS (st.loc[i]?).join λv=>Q v st
def af(v:V):PT:=λQ _ st=>Q v st
def ao(op:Operator)(l r:PT):PT:=λQ X st=>l (λa q=>r (λb d=>Ez op a b d.h λv=>Q v d) X q) X st
def GK(e:PT):PT:=λQ X st=>e (λv d=>kL v λi=>Q (.int (-i)) d) X st
def gx(e:PT):PT:=λQ X st=>e (λv d=>GF v λb=>Q (.bool (!b)) d) X st
def aC(op:CmpOp)(l r:PT):PT:=λQ X st=>l (λa q=>r (λb d=>tU op a b d.h λc=>Q (.bool c) d) X q) X st
def rT(o p:CmpOp)(l a b:PT):PT:=λQ X st=>l (λx j=>a (λy d=>tU o x y d.h λc=>br c (b (λz q=>tU p y z q.h λc=>Q (.bool c) q) X d) (Q (.bool false) d)) X j) X st
def di(l r:PT):PT:=λQ X st=>l (λv d=>GF v λb=>br b (r Q X d) (Q (.bool false) d)) X st
def cF(l r:PT):PT:=λQ X st=>l (λv d=>GF v λb=>br b (Q (.bool true) d) (r Q X d)) X st
def bA(t x y:PT):PT:=λQ X st=>t (λv d=>GF v λb=>br b (x Q X d) (y Q X d)) X st
def ag:PT:=λQ _ st=>Q (.lst []) st
def aa(e y:PT):PT:=λQ X st=>e (λv q=>y (λvs d=>iF vs λvs=>Q (.lst (v::vs)) d) X q) X st
def aQ(o i:PT):PT:=λQ X st=>o (λa q=>i (λb d=>gn a b d.h λv=>Q v d) X q) X st
def bb(o lo i:PT):PT:=λQ X st=>o (λa j=>lo (λx q=>i (λy d=>KO x λx=>KO y λy=>RE a x y d.h λv=>Q v d) X q) X j) X st
def KP(o:PT):PT:=λQ X st=>o (λa d=>iF (res d.h a) λvs=>fresh (.list vs.reverse) d Q) X st
def c8(q:PT):PT:=λQ X st=>q (λvs d=>iF vs λvs=>vs.length<=1000000∧Q (.tup vs) d) X st
def bp(q:PT):PT:=λQ X st=>q (λvs d=>iF vs λvs=>vs.length<=1000000∧Q (.lst vs) d) X st
def gy(q:PT):PT:=λQ X st=>q (λvs d=>iF vs λvs=>vs.length<=1000000∧fresh (.list vs) d Q) X st
def a7(e:PT):PT:=λQ X st=>e (λv q=>RG v q λvs d=>Q (.lst vs) d) X st
def Vi(own:Nat)(iQ:List Nat)(s:gH)(y c e:PT):PT:=λQ X st=>y (λvs d=>iF vs λvs=>vs.length<=1000000∧iH s c e vs [] (λq st'=>Q (.lst q) ⟨d.loc,st'.h⟩) ⟨Xb own none++eJ iQ d.loc,d.h⟩) X st
def Um(own:Nat)(iQ:List Nat)(s u:gH)(y j e:PT):PT:=λQ X st=>y (λvs d=>iF vs λvs=>vs.length<=1000000∧fV s u j e vs [] (λq st'=>Q (.lst q) ⟨d.loc,st'.h⟩) ⟨Xb own none++eJ iQ d.loc,d.h⟩) X st
def ai:PT:=λQ _ st=>Q .none st
def ah(a r:PT):PT:=λQ X st=>a (λf d=>br (isNone f) (r Q X d) (Q f d)) X st
def aD(s:gH)(e:PT):PT:=λQ X st=>e (λv q=>s v (λd=>Q .none d) q) X st
def bZ(is:List Nat)(q:PT):PT:=λQ X st=>c8 q (λv d=>Rj v λvs=>is.length=vs.length∧Q .none ⟨vX d.loc is vs.reverse,d.h⟩) X st
def fW(o i:PT):gH:=λv Q st=>o (λa q=>i (λb d=>Oy a b v Q d) uZ q) uZ st
def bN(o:PT)(q:Ix):gH:=λv Q st=>o (λa d=>OA q a v Q d) uZ st
def aS(o:PT)(q:Ix):PT:=λQ X st=>o (λa d=>GJ q a d.h λv=>Q v d) X st
def KQ(o:PT)(z:Ix)(e:PT):PT:=λQ X st=>o (λa d=>GJ z a d.h λu=>e (λb y=>kL u λi=>kL b λj=>OA z a (.int (i+j)) (λq=>Q .none q) y) X d) X st
def VI(t a b:PT):PT:=bA t a b
def dq(s:gH)(q body:PT):PT:=λQ X st=>q (λvs d=>iF vs λvs=>fU s body vs Q X d) X st
def fX(t body:PT):PT:=λQ X st=>∃n,rS t body n Q X st
def aO(e:PT):PT:=λQ X st=>e (λv d=>Q (.tup [v]) d) X st
def fY(e:PT):PT:=λQ X st=>e (λ_ d=>Q .none d) X st
def bj(e:PT):PT:=λ_ X st=>e (λ_ d=>X d) X st
def vY(b:PT)(i:Nat)(v:V):PT:=λQ X st=>b Q (λd=>Q .none ⟨d.loc.set i (some v),d.h⟩) st
end
set_option backward.match.sparseCases true
def cp:Addr:=52
inductive Told(g:Gl)(L:Option Addr)(rv:List Addr)(hp:Heap)(e:Addr)(f:Wn):Prop
 |mk {T:Addr} {o:Obj} {ts:Array Wn} {l:Wn} (h:f=.ref T) (hb:g.B.get? T=none) (hr:T∉rv) (ne:T≠e) (ho:hp.get? T=some o) (hd:o.data=.fields ts) (h3:ts[3]? = some l) (hl:l=.none∨∃a,L=some a∧l=Zf a)
def Trace(g:Gl)(L:Option Addr)(rv:List Addr)(hp:Heap)(e:Addr)(f:Wn):Prop:=f=.none∨Told g L rv hp e f
inductive gM(g:Gl)(rv:List Addr)(hp:Heap)(tr:Addr->Wn->Prop)(x:Wn):Prop
 |mk {e:Addr} {o:Obj} {vs:Array Wn} {a f:Wn} (hx:x=.ref e) (ho:hp.get? e=some o) (hc:o.cls=.ref cp) (hd:o.data=.fields vs) (h0:vs[0]? = some a) (h1:vs[1]? = some f) (hb:g.B.get? e=none) (hr:e∉rv) (t:tr e f)
theorem gM.imp(h:gM g rv hp i x)(z:∀a,a∈j->a∈rv)(k:∀e f,i e f->y e f):gM g j hp y x:=by
 cases h with|mk a b c d e f g h t=>exact .mk a b c d e f g (λq=>h (z _ q)) (k _ _ t)
abbrev rU(g:Gl)(L:Option Addr)(rv:List Addr)(hp:Heap)(x:Wn):Prop:=gM g rv hp (Trace g L rv hp) x
abbrev mo(g:Gl)(L:Option Addr)(rv:List Addr)(hp:Heap)(x:Wn):Prop:=gM g rv hp (Told g L rv hp) x
section
variable(g:Gl)(cx:Cx)(tmp:List V)(vals:List Wn)
inductive Up(Q:V->St->Prop)(x:Wn)(s:Ws):Prop
 |mk {v:V} {st:St} (R:aI g cx (v::tmp) (x::vals) st s) (q:Q v st)
inductive TU(Q:V->St->Prop)(b:Bool)(s:Ws):Prop
 |mk {st:St} (R:aI g cx tmp vals st s) (q:Q (.bool b) st)
inductive RH(Q:V->St->Prop)(xs:List Wn)(s:Ws):Prop
 |mk {vs:List V} {st:St} (R:aI g cx (vs++tmp) (xs++vals) st s) (l:vs.length=xs.length) (q:Q (.lst vs) st)
inductive VJ(Q:St->Prop)(s:Ws):Prop
 |mk {st:St} (R:aI g cx tmp vals st s) (q:Q st)
inductive OB(Q:V->St->Prop):Flow->Ws->Prop
 |next {st:St} {s:Ws} (R:aI g cx [] [] st s) (q:Q .none st):OB Q .next s
 |ret {v:V} {x:Wn} {st:St} {s:Ws} (R:aI g cx [v] [x] st s) (q:Q (.tup [v]) st):OB Q (.ret x) s
inductive hJ(X:St->Prop)(x:Wn)(s:Ws):Prop
 |mk {st:St} (R:aI g cx [] [] st s) (f:rU g cx.env.frame cx.rv s.heap x) (q:X st)
def TE(t:Sem Wn)(W:PT):Prop:=∀{A s tmp vals st Q X},gL cx.stk cx.lvl A->aI g cx tmp vals st s->W Q X st->wq g A t (Up g cx tmp vals Q) (hJ g cx X) s
def TB(t:Sem Bool)(W:PT):Prop:=∀{A s tmp vals st Q X},gL cx.stk cx.lvl A->aI g cx tmp vals st s->W Q X st->wq g A t (TU g cx tmp vals Q) (hJ g cx X) s
def TL(t:Sem (List Wn))(W:PT):Prop:=∀{A s tmp vals st Q X},gL cx.stk cx.lvl A->aI g cx tmp vals st s->W Q X st->wq g A t (RH g cx tmp vals Q) (hJ g cx X) s
def TS(t:Sem Flow)(W:PT):Prop:=∀{A s st Q X},gL cx.stk cx.lvl A->aI g cx [] [] st s->W Q X st->wq g A t (OB g cx Q) (hJ g cx X) s
def TT(t:Wn->Sem Unit)(W:gH):Prop:=∀{A s v x tmp vals st Q},gL cx.stk cx.lvl A->aI g cx (v::tmp) (x::vals) st s->W v Q st->wq g A (t x) (λ_ d=>VJ g cx tmp vals Q d) (λ_ _=>False) s
abbrev bE(e:Expr)(W:PT):Prop:=TE g cx (eval e cx.env) W
abbrev u0(e:Expr)(W:PT):Prop:=TB g cx (abR e cx.env (eval e cx.env)) W
abbrev AA(pos:Pos)(d:List Expr)(W:PT):Prop:=TL g cx (abG (Zq pos (Yb d cx.env))) W
abbrev AL(ss:List Stmt)(W:PT):Prop:=TS g cx (aeE ss cx.env) W
abbrev j3(s:Stmt)(W:PT):Prop:=TS g cx (exec s cx.env) W
end
section
variable{g:Gl}{cx:Cx}{tmp:List V}{vals:List Wn}{st:St}{s:Ws}{A:Xm}{Q:V->St->Prop}{X:St->Prop}{x:Wn}
theorem Up.elim'{P:Prop}(u:Up g cx tmp vals Q x s)(k:∀v st,aI g cx (v::tmp) (x::vals) st s->Q v st->P):P:=u.casesOn λR q=>k _ _ R q
theorem TU.elim'{P:Prop}{b:Bool}(u:TU g cx tmp vals Q b s)(k:∀st,aI g cx tmp vals st s->Q (.bool b) st->P):P:=u.casesOn λR q=>k _ R q
theorem RH.elim'{P:Prop}{xs:List Wn}(u:RH g cx tmp vals Q xs s)(k:∀vs st,aI g cx (vs++tmp) (xs++vals) st s->vs.length=xs.length->Q (.lst vs) st->P):P:=u.casesOn λR l q=>k _ _ R l q
theorem TE.then_{d:Type}{m:Sem Wn}{f:Wn->Sem d}{Q':d->Ws->Prop}(h:TE g cx m W1)(y:gL cx.stk cx.lvl A)(R:aI g cx tmp vals st s)(w:W1 Q X st)
 (k:∀v x st s,aI g cx (v::tmp) (x::vals) st s->Q v st->wq g A (f x) Q' (hJ g cx X) s):wq g A (m>>=f) Q' (hJ g cx X) s:=b0 (h y R w) λx s u=>u.elim' λv st R q=>k v x st s R q
theorem TB.then_{d:Type}{m:Sem Bool}{f:Bool->Sem d}{Q':d->Ws->Prop}(h:TB g cx m W1)(y:gL cx.stk cx.lvl A)(R:aI g cx tmp vals st s)(w:W1 Q X st)
 (k:∀b st s,aI g cx tmp vals st s->Q (.bool b) st->wq g A (f b) Q' (hJ g cx X) s):wq g A (m>>=f) Q' (hJ g cx X) s:=b0 (h y R w) λb s u=>u.elim' λst R q=>k b st s R q
theorem TL.then_{d:Type}{m:Sem (List Wn)}{f:List Wn->Sem d}{Q':d->Ws->Prop}(h:TL g cx m W1)(y:gL cx.stk cx.lvl A)(R:aI g cx tmp vals st s)(w:W1 Q X st)
 (k:∀vs xs st s,aI g cx (vs++tmp) (xs++vals) st s->vs.length=xs.length->Q (.lst vs) st->wq g A (f xs) Q' (hJ g cx X) s):wq g A (m>>=f) Q' (hJ g cx X) s:=b0 (h y R w) λxs s u=>u.elim' λvs st R l q=>k vs xs st s R l q
theorem TE.hold(h:TE g cx m W)(vs:List Wn):TE g cx (XU vs m) W:=λd R w=>ay (h d R w)
theorem hM{E:Wn->Ws->Prop}{vs:List Wn}{m:Sem Wn}{Q:Wn->Ws->Prop}(h:wq g A m Q E s):wq g A (abj vs m) Q E s:=λq p d hc=>by
 rw[Sem.wp_operate];exact h q p d hc
theorem aI.up(R:aI g cx tmp vals st s)(h:VR g (cx.F st s) v x)(q:Q v st):Up g cx tmp vals Q x s:=⟨R.push h,q⟩
theorem cD{F:FZ}{i:Int}{t:Tok}:VR g F (.int i) (.int i t):=ad6 t rfl
theorem mq:VR g F (.bool b) (.bool b):=Eq.refl _
theorem gp:VR g F .none .none:=Eq.refl _
theorem e7{F:FZ}{i:List Nat}{t:Tok}(h:i.length<=16777216):VR g F (.str i) (.str ⟨i.toArray⟩ t):=Wm h (ad6 t rfl)
theorem cQ{F:FZ}{i:List UInt8}{t:Tok}(h:i.length<=16777216):VR g F (.bytes i) (.bytes i.toArray t):=Wm h (ad6 t rfl)
theorem Nj:bE g cx (.Constant (.int i) k pos) (af (.int i)):=λ_ R w=>aF (wpAny_Constant_int (R.toks.up cD w))
theorem OC:bE g cx (.Constant .none k pos) (af .none):=λ_ R w=>aF (wpAny_Constant_none (R.up gp w))
theorem OD:bE g cx (.Constant (.bool b) k pos) (af (.bool b)):=λ_ R w=>aF (wpAny_Constant_bool (R.up mq w))
theorem RI(d:decide (u.cps.toList.length<=16777216)=true):bE g cx (.Constant (.str u) k pos) (af (.str u.cps.toList)):=λ_ R w=>aF (wpAny_Constant_str (R.toks.up (e7 (of_decide_eq_true d)) w))
theorem KR(d:decide (u.length<=16777216)=true):bE g cx (.Constant (.bytes u) k pos) (af (.bytes u)):=λ_ R w=>aF λ_ _ _=>R.toks.up (cQ (of_decide_eq_true d)) w
theorem aT(h:dS o k):∃a,o=some a∧k a:=by
 cases o with
 |none=>exact h.elim
 |some a=>exact⟨a,rfl,h⟩
theorem GL{d:Type}{o:Option d}{k:d->Prop}{P:Prop}(h:dS o k)(f:∀a,o=some a->k a->P):P:=(aT h).elim λa h=>f a h.1 h.2
theorem OE{y:Str}(i:Nat)(z:cx.names[i]? = some y)(hd:(y==("__debug__" : Str))=false)(hc:(y==("__classdict__" : Str))=false):bE g cx (.Name y pos) (ae i):=λc R w=>
 GL w λv j q=>R.loc.elim λm d=>(d.2 i y v z (adT.mp j)).elim λu hx=>aF (wpAny_Name (match hx.2 with
  | .loc k h=>acL R.ok.kind k d.1 h (R.up hx.1 q)
  | .cell (.inl k) h hc=>wpAny_loadName_cell R.ok.kind k h hc (R.up hx.1 q)
  | .cell (.inr k) h hc'=>wpAny_loadName_free R.ok.kind k h hc' (R.up hx.1 q) hc) hd)
theorem bu(h:kL v k):∃i,v=.int i∧k i:=by cases v <;> first|exact⟨_,rfl,h⟩|exact WC h
theorem cK(h:AJ v k):∃i,v=.bytes i∧k i:=by cases v <;> first|exact⟨_,rfl,h⟩|exact WC h
theorem hN(h:Nh v k):∃i,v=.str i∧k i:=by cases v <;> first|exact⟨_,rfl,h⟩|exact WC h
theorem eT(h:iF v k):∃i,v=.lst i∧k i:=by cases v <;> first|exact⟨_,rfl,h⟩|exact WC h
theorem vZ(h:Rj v k):∃i,v=.tup i∧k i:=by cases v <;> first|exact⟨_,rfl,h⟩|exact WC h
theorem jO(h:Ox v k):∃i,v=.ref i∧k i:=by cases v <;> first|exact⟨_,rfl,h⟩|exact WC h
theorem rn(h:GF v k):∃i,v=.bool i∧k i:=by cases v <;> first|exact⟨_,rfl,h⟩|exact WC h
theorem Nk(h:bE g cx e W)(j:∀d,abR e cx.env d=(do let v ←d;XO e.pos;XU [v] (truthy v))):u0 g cx e (λQ X st=>W (λv st=>GF v λb=>Q (.bool b) st) X st):=λy R w=>by
 rw[j]
 exact h.then_ y R w λv x st s R q=>aU (ay (by
  obtain⟨b,rfl,q⟩:=rn q
  obtain rfl:x=.bool b:=R.tmp.1
  exact aF (Zh ⟨R.pop,q⟩)))
theorem RJ(h:u0 g cx e W):u0 g cx (.UnaryOp .Not e pos) (λQ X st=>W (λv st=>GF v λb=>Q (.bool (!b)) st) X st):=λd R w=>
 show wq _ _ (do return !(←abR e cx.env (eval e cx.env))) _ _ _ from h.then_ d R w λb st s R q=>ax ⟨R,q⟩
theorem RL(h:bE g cx e W):bE g cx (.UnaryOp .Not e pos) (gx W):=λd R w=>
 show wq _ _ (do let v ←eval e cx.env;XO pos;XU [v] (unaryOp .Not v)) _ _ _ from h.then_ d R w λv x st s R q=>aU (ay ((rn q).elim λb q=>by
  obtain⟨rfl,q⟩:=q
  obtain rfl:x=.bool b:=R.tmp.1
  exact aF (not_of (Zh (R.pop.up mq q)))))
theorem Nl(h:bE g cx e W):bE g cx (.UnaryOp .USub e pos) (GK W):=λd R w=>
 show wq _ _ (do let v ←eval e cx.env;XO pos;XU [v] (unaryOp .USub v)) _ _ _ from h.then_ d R w λv x st s R q=>aU (ay ((bu q).elim λb q=>by
  obtain⟨rfl,q⟩:=q
  obtain⟨t,rfl⟩:∃t,x=.int b t:=R.tmp.1
  exact aF (neg_int (R.pop.toks.up cD q))))
theorem yF{j Wa Wb:PT}{y:Type}{f:Bool->Sem y}{Q':y->Ws->Prop}(z:u0 g cx t j)(i:gL cx.stk cx.lvl A)(R:aI g cx tmp vals st s)(w:j (λv d=>GF v λb=>br b (Wa Q X d) (Wb Q X d)) X st)
 (h1:∀st s,aI g cx tmp vals st s->Wa Q X st->wq g A (f true) Q' (hJ g cx X) s) (u:∀st s,aI g cx tmp vals st s->Wb Q X st->wq g A (f false) Q' (hJ g cx X) s) :
 wq g A (abR t cx.env (eval t cx.env)>>=f) Q' (hJ g cx X) s:=z.then_ i R w λb st s R q=>by
 cases b with
 |true=>exact h1 st s R q
 |false=>exact u st s R q
theorem Un(i:u0 g cx t W)(h1:bE g cx l W1)(j:bE g cx r y):bE g cx (.IfExp t l r pos) (bA W W1 y):=λd R w=>
 show wq _ _ (do if←abR t cx.env (eval t cx.env)then eval l cx.env else eval r cx.env) _ _ _ from yF i d R w (λ_ _ R q=>h1 d R q) λ_ _ R q=>j d R q
theorem Uo(i:u0 g cx t W)(h1:u0 g cx l W1)(j:u0 g cx r y):u0 g cx (.IfExp t l r pos) (bA W W1 y):=λd R w=>
 show wq _ _ (do if←abR t cx.env (eval t cx.env)then abR l cx.env (eval l cx.env)else abR r cx.env (eval r cx.env)) _ _ _ from yF i d R w (λ_ _ R q=>h1 d R q) λ_ _ R q=>j d R q
theorem RM(h1:bE g cx l W1)(j:bE g cx r y):bE g cx (.BoolOp .And [l,r] pos) (di W1 y):=λd R w=>
 show wq _ _ (do let v ←eval l cx.env;XO pos;let t ←XU [v] (truthy v);match BoolOp.And,t with | .And,false | .Or,true=>pure v|_,_=>boolOp pos .And [eval r cx.env]) _ _ _ from
 h1.then_ d R w λv x st s R q=>aU ((rn q).elim λb q=>by
  obtain⟨rfl,q⟩:=q
  obtain rfl:x=.bool b:=R.tmp.1
  refine aq (ay (aF (Zh ?_)))
  cases b with
  |false=>exact ax ⟨R,q⟩
  |true=>exact j d R.pop q)
theorem Uq(h1:bE g cx l W1)(j:bE g cx r y):bE g cx (.BoolOp .Or [l,r] pos) (cF W1 y):=λd R w=>
 show wq _ _ (do let v ←eval l cx.env;XO pos;let t ←XU [v] (truthy v);match BoolOp.Or,t with | .And,false | .Or,true=>pure v|_,_=>boolOp pos .Or [eval r cx.env]) _ _ _ from
 h1.then_ d R w λv x st s R q=>aU ((rn q).elim λb q=>by
  obtain⟨rfl,q⟩:=q
  obtain rfl:x=.bool b:=R.tmp.1
  refine aq (ay (aF (Zh ?_)))
  cases b with
  |true=>exact ax ⟨R,q⟩
  |false=>exact j d R.pop q)
abbrev TA(op:BoolOp)(d:List Expr)(W:PT):Prop:=TB g cx (acn op d cx.env) W
theorem RN{d:List Expr}(h1:u0 g cx e W1)(i:TB g cx (acn .And d cx.env) j):TB g cx (acn .And (e::d) cx.env) (di W1 j):=λy R w=>
 show wq _ _ (do match BoolOp.And,←abR e cx.env (eval e cx.env)with | .And,false=>pure false | .Or,true=>pure true|_,_=>acn .And d cx.env) _ _ _ from
 yF (Wb:=λQ _ st=>Q (.bool false) st) h1 y R w (λ_ _ R q=>i y R q) λ_ _ R q=>ax ⟨R,q⟩
theorem Ur{d:List Expr}(h1:u0 g cx e W1)(i:TB g cx (acn .Or d cx.env) j):TB g cx (acn .Or (e::d) cx.env) (cF W1 j):=λy R w=>
 show wq _ _ (do match BoolOp.Or,←abR e cx.env (eval e cx.env)with | .And,false=>pure false | .Or,true=>pure true|_,_=>acn .Or d cx.env) _ _ _ from
 yF (Wa:=λQ _ st=>Q (.bool true) st) h1 y R w (λ_ _ R q=>ax ⟨R,q⟩) λ_ _ R q=>i y R q
theorem RO:TB g cx (acn op [] cx.env) (af (.bool (op==.And))):=λ_ R w=>ax ⟨R,w⟩
theorem RP:AL g cx [] ai:=λ_ R w=>ax (.next R w)
theorem OF(h1:j3 g cx a W1)(i:AL g cx d j):AL g cx (a::d) (ah W1 j):=λy R w=>
 show wq _ _ (do match←exec a cx.env with | .next=>aeE d cx.env|f=>pure f) _ _ _ from b0 (h1 y R w) λf s u=>by
  rcases u with⟨R,q⟩|⟨R,q⟩
  ·exact i y R q
  ·exact ax (.ret R q)
theorem Us(i:u0 g cx t W)(h1:AL g cx b W1)(j:AL g cx o y):j3 g cx (.If t b o pos) (bA W W1 y):=λd R w=>
 show wq _ _ (do XO pos;if←abR t cx.env (eval t cx.env)then aeE b cx.env else aeE o cx.env) _ _ _ from aU (yF i d R w (λ_ _ R q=>h1 d R q) λ_ _ R q=>j d R q)
theorem RQ(h:bE g cx e W):j3 g cx (.Return (some e) pos) (aO W):=λd R w=>
 show wq _ _ (do XO pos;return Flow.ret (←eval e cx.env):Sem Flow) (OB g cx _) _ _ from aU (h.then_ d R w λv x st s R q=>ax (.ret R q))
theorem OG:j3 g cx (.Pass pos) ai:=λ_ R w=>show wq _ _ (do XO pos;pure acr:Sem Flow) (OB g cx _) _ _ from aU (ax (.next R w))
theorem Ut(h:bE g cx e W)(hi:interactive cx.env=false)(hs:Z2 e none pos.line cx.env=pure false):j3 g cx (.Expr e pos) (fY W):=λoa R w=>by
 rw[exec_Expr _ _ _ hi hs]
 exact aU (h.then_ oa R w λv x st s R q=>aF (wpAny_dropValue (.next R.pop q)))
theorem GN:AA g cx pos [] ag:=λ_ R w=>aF (spliced_none (RH.mk (vs:=[]) R rfl w))
end
abbrev HG(s:Ws):FZ:=λa o=>s.heap.get? a=some o
def Uu(g:Gl)(F:FZ)(s:Ws)(w:V)(x:Wn):Prop:=V.casesOn (motive_1:=λ_=>Prop) w (VR g F .none x) (λb=>VR g F (.bool b) x) (λi=>VR g F (.int i) x) (λi=>VR g F (.str i) x) (λi=>VR g F (.bytes i) x) (λi=>VR g F (.raw i) x)
 (λa=>VR g F (.ref a) x) (λvs=>VR g F (.tup vs) x) (λvs=>bQ (HG s) "list" (bo g F vs) x) (λc vs=>VR g F (.inst c vs) x)
section
variable{g:Gl}{cx:Cx}{tmp:List V}{vals:List Wn}{st:St}{s:Ws}{A:Xm}{Q:V->St->Prop}{X:St->Prop}{x y:Wn}{a b v:V}{F:FZ}{E:Wn->Ws->Prop}
theorem aI.rsd(R:aI g cx tmp vals st s)(h:VR g (cx.F st s) v x):Uu g (cx.F st s) s (res st.h v) x:=by
 cases v with
 |lst vs=>exact bQ.imp (λ_ _ h=>h.1) (λ_ h=>h) h
 |ref a=>
  show Uu _ _ _ (Xa (motive:=λ_=>V) (st.h a) _ _) x
  generalize e:st.h a=q;cases q with
  |none=>exact h
  |some o=>cases o with
   |list vs=>
    obtain⟨z,i,xs,n,rfl,j,d⟩:=(R.known a _ e).obj
    exact .mk h i j d
   |_=>exact h
 |_=>exact h
theorem bo.length:∀{vs:List V} {xs:List Wn},bo g F vs xs->xs.length=vs.length:=by
 intro d
 induction d with
 |nil=>
  intro _ h
  cases h;rfl
 |cons u z j=>
  intro q
  cases q with
  |nil=>
   intros;exact WC ‹_›
  |cons i c=>
   intro h
   exact congrArg (· + 1) (j h.2)
theorem bo.append:∀{vs ws:List V} {xs ys:List Wn},bo g F vs xs->bo g F ws ys->bo g F (vs++ws) (xs++ys):=by
 intro q
 induction q with
 |nil=>
  intro _ _ _ h d
  cases h;exact d
 |cons c z i=>
  intro _ j
  cases j with
  |nil=>
   intros;exact WC ‹_›
  |cons u p=>
   intro _ h d
   exact⟨h.1,i h.2 d⟩
theorem bo.get:∀{vs:List V} {xs:List Wn},bo g F vs xs->∀{i:Nat} {v:V},vs[i]? = some v->∃x,xs[i]? = some x∧VR g F v x:=by
 intro w1
 induction w1 with
 |nil=>
  intros;contradiction
 |cons w2 w3 ih=>
  intro w4
  cases w4 with
  |nil=>
   intros;exact WC ‹_›
  |cons w5 w6=>
   intro h w7
   cases w7 with
   |zero=>
    intro _ e
    exact⟨_,rfl,by cases e;exact h.1⟩
   |succ _=>
    intro _ e
    exact ih h.2 (by simpa using e)
theorem bo.drop:∀(i:Nat) {vs:List V} {xs:List Wn},bo g F vs xs->bo g F (vs.drop i) (xs.drop i):=by
 intro w1
 induction w1 with
 |zero=>
  intro _ _ h
  exact h
 |succ w2 ih=>
  intro w3
  cases w3 with
  |nil=>
   intro _ h
   cases h;rfl
  |cons w4 w5=>
   intro w6
   cases w6 with
   |nil=>
    intros;exact WC ‹_›
   |cons w7 w8=>
    intro h
    exact ih h.2
theorem bo.take:∀(i:Nat) {vs:List V} {xs:List Wn},bo g F vs xs->bo g F (vs.take i) (xs.take i):=by
 intro w1
 induction w1 with
 |zero=>
  intro _ _ _
  rw[adN,adN];rfl
 |succ w2 ih=>
  intro w3
  cases w3 with
  |nil=>
   intro _ h
   cases h;rfl
  |cons w4 w5=>
   intro w6
   cases w6 with
   |nil=>
    intros;exact WC ‹_›
   |cons w7 w8=>
    intro h
    exact⟨h.1,ih h.2⟩
theorem bo.reverse:∀{vs:List V} {xs:List Wn},bo g F vs xs->bo g F vs.reverse xs.reverse:=by
 intro d
 induction d with
 |nil=>
  intro _ h
  cases h;rfl
 |cons u z j=>
  intro q
  cases q with
  |nil=>
   intros;exact WC ‹_›
  |cons i c=>
   intro h
   rw[abm,abm];exact(j h.2).append ⟨h.1,rfl⟩
theorem bo.set:∀{vs:List V} {xs:List Wn},bo g F vs xs->∀{v:V} {x:Wn},VR g F v x->∀(i:Nat),bo g F (vs.set i v) (xs.set i x):=by
 intro w1
 induction w1 with
 |nil=>
  intro _ h _ _ _ _
  cases h;rfl
 |cons w2 w3 ih=>
  intro w4
  cases w4 with
  |nil=>
   intros;exact WC ‹_›
  |cons w5 w6=>
   intro h _ _ hx w7
   cases w7 with
   |zero=>
    exact⟨hx,h.2⟩
   |succ i=>
    exact⟨h.1,ih h.2 hx i⟩
theorem aI.newL(R:aI g cx tmp vals st s)(hk:∀b o,s.heap.get? b=some o->hp.get? b=some o)(hi:s.heap.objs.size<=i)(ho:hp.get? i=some (sq "list" xs n))(hv:bo g (cx.F st s) vs xs)(hl:xs.length<=1000000)
 (q:Q (.lst vs) st):Up g cx tmp vals Q (.ref i) { s with heap:=hp,toks:=tk}:=
 (R.keeps (tk:=tk) hk).up (v:=.lst vs) (show bQ _ _ _ _ from .mk rfl (R.new hk hi ho (c7 rfl rfl)) hl (hv.mono λb o z=>⟨hk _ _ z.1,z.2⟩)) q
theorem aI.pushL(R:aI g cx tmp vals st s)(hv:bo g (cx.F st s) vs xs)(hl:xs.length<=1000000)(q:Q (.lst vs) st):Up g cx tmp vals Q (.ref s.heap.objs.size) { s with heap:=s.heap.push (sq "list" xs n)}:=
 R.newL (tk:=s.toks) (λb o e=>Wv _ e) (Wr _) (WR _ rfl) hv hl q
theorem dK(R:aI g cx tmp vals st s)(ha:VR g F a x)(hb:VR g F b y)(w:Ey a b c f λv=>Q v st)
 (k:∀i j u v d,x=.int i u->y=.int j v->c i j->(∀n,d (.int (f i j) n) { s with toks:=s.toks+1})->WJ g.M A t d E s):WJ g.M A t (Up g cx tmp vals Q) E s:=
 (bu w).elim λi w=>(bu w.2).elim λj q=>by
  obtain⟨rfl,_⟩:=w
  obtain⟨rfl,z,p⟩:=q
  obtain⟨u,rfl⟩:=(show ∃u,x=.int i u from ha)
  obtain⟨v,rfl⟩:=(show ∃u,y=.int j u from hb)
  exact k i j u v _ rfl rfl z λ_=>R.toks.up cD p
theorem EA(R:aI g cx tmp vals st s)(ha:VR g (cx.F st s) a x)(hb:VR g (cx.F st s) b y)(w:KL a b st.h λv=>Q v st):WJ g.M A (binaryOp .Add x y) (Up g cx tmp vals Q) E s:=by
 have ha':=R.rsd ha
 have w:vc (res st.h a) _ _ _ _ _ _:=w
 generalize res st.h a=a' at ha' w
 cases a' with
 |int i=>
  obtain⟨j,rfl,w⟩:=bu w
  obtain⟨u,rfl⟩:=(show ∃t,x=_ from ha')
  obtain⟨v,rfl⟩:=(show ∃t,y=_ from hb)
  exact add_int (R.toks.up cD w)
 |bytes i=>
  obtain⟨j,rfl,l,w⟩:=cK w
  obtain⟨_,t,rfl⟩:=(show _∧∃t,x=_ from ha')
  obtain⟨_,u,rfl⟩:=(show _∧∃t,y=_ from hb)
  refine KBy.add_bytes (by rw[Wu,Wu];exact l) λt' n=>?_
  rw[acA]
  exact R.toks.up (cQ (by rw[Wk];exact l)) w
 |str i=>
  obtain⟨j,rfl,l,w⟩:=hN w
  obtain⟨_,t,rfl⟩:=(show _∧∃t,x=_ from ha')
  obtain⟨_,u,rfl⟩:=(show _∧∃t,y=_ from hb)
  refine PyProof.Rows.add_str (λt' tk=>?_) (by rw[W5];exact l)
  rw[show(⟨i.toArray⟩:Str)++⟨j.toArray⟩=⟨(i++j).toArray⟩from congrArg Str.mk (acA ..)]
  exact(R.toks.up (e7 (by rw[Wk];exact l)) w)
 |lst vs=>
  have hb':=R.rsd hb
  obtain⟨ws,e,l,w⟩:=eT w
  rw[e]at hb'
  obtain⟨rfl,ho,hl,hv⟩:=ha'
  obtain⟨rfl,ho',hl',hv'⟩:=hb'
  have l1:=hv.length
  have l2:=hv'.length
  refine P.add_list ho ho' ?_ (by rw[Wu,Wu,W5];exact Wh (WH hl hl') dD)
  rw[acA]
  exact R.pushL (hv.append hv') (by rw[Wk];omega) w
 |_=>exact WC w
set_option tactic.hygienic true in
theorem EB(R:aI g cx tmp vals st s)(ha:VR g (cx.F st s) a x)(hb:VR g (cx.F st s) b y)(w:RB a b st.h λv=>Q v st):WJ g.M A (binaryOp .Mult x y) (Up g cx tmp vals Q) E s:=by
 have ha':=R.rsd ha
 have w:vc (res st.h a) _ _ _ _ _ _:=w
 generalize res st.h a=a' at ha' w
 cases a' with
 |int i=>exact dK (c:=adG) (a:=.int i) R ha' hb w λi j u v Qr e1 e2 c k=>by subst e1 e2;exact mul_int (k _) c
 |bytes l=>
  obtain⟨n,rfl,⟨w1,w2,w3,w4⟩,w5⟩:=bu w
  obtain⟨_,t,rfl⟩:=(show _∧∃t,x=_ from ha')
  obtain⟨u,rfl⟩:=(show ∃t,y=_ from hb)
  refine bytes_mul_any w1 w3 w4 w2 λt' m=>R.toks.up (cQ ?_) w5
  rw[afl,afu,aes]
  exact Wh (Nat.mul_le_mul (show n.toNat<=1048576 by lia) w2) dD
 |lst vs=>
  obtain⟨n,rfl,⟨w1,w2,w3⟩,w4⟩:=bu w
  obtain⟨u,rfl⟩:=(show ∃t,y=_ from hb)
  obtain⟨rfl,ho,hl,hv⟩:=ha'
  rename_i a xs' m
  have lx:xs'.toArray.size=vs.length:=by rw[Wu];exact hv.length
  have hsz:xs'.toArray.size*n.toNat<=1000*16:=by rw[lx];exact Nat.mul_le_mul w3 (Int.toNat_le.mpr w2)
  refine wpAny_binaryOp_repeat_ref (T:= "list") (U:= "int") dD ⟨_,ho,rfl⟩ (λs'=>typeIs_int s' n u) noFill_list_mul F.fills_int_mul F.slot_int_rmul repeat_list F.slot_int_index.lookup
   (ZX F.slot_int_rmul (typeIs_int s n u) F.entry_int_rmul (F.args_int_rmul_2 _ _) (lm_int_rmul_list_any n u a xs'.toArray m _ _)
    ⟨ho,rfl,⟨_,ho,rfl⟩,ZX F.slot_list_mul ⟨_,ho,rfl⟩ F.entry_list_mul (F.args_list_mul_2 _ _)
     (lm_list_mul_any a xs'.toArray m _ _ n u (by simp[aat];omega) (by omega) (by simp only[Builtin.List.listTooLong,W5];simp;simp at hsz;omega))
     ⟨ho,?_⟩⟩)
  rw[listMul_foldl_if]
  have hr:∀i,bo g (cx.F st s) (Xb i vs).flatten (Xb i xs').flatten:=λi=>by
   induction i with
   |zero=>rfl
   |succ i ih=>rw[afk,afk,YR,YR];exact hv.append ih
  exact R.pushL (hr _) (by rw[afl,afu,aes,Nat.mul_comm];exact Wh hsz dD) w4
 |_=>exact WC w
theorem CI{f:Int->Int->Int}{Q:V->Prop}(w:kL a λi=>kL b λj=>Q (.int (f i j))):Ey a b (λ_ _=>True) f Q:=by
 obtain⟨i,rfl,d⟩:=bu w
 obtain⟨j,rfl,q⟩:=bu d
 exact⟨trivial,q⟩
theorem EC(R:aI g cx tmp vals st s){op:Operator}(ha:VR g (cx.F st s) a x)(hb:VR g (cx.F st s) b y)(w:Ez op a b st.h λv=>Q v st):WJ g.M A (binaryOp op x y) (Up g cx tmp vals Q) E s:=by
 cases op with
 |Add=>exact EA R ha hb w
 |Mult=>exact EB R ha hb w
 |Sub=>exact dK R ha hb (CI w) λi j u v z d q c k=>by subst d q;exact sub_int (k _)
 |FloorDiv=>exact dK R ha hb w λi j u v z d q c k=>by subst d q;exact floordiv_int c.1 (k _) (.inl c.2)
 |Mod=>exact dK R ha hb w λi j u v z d q c k=>by subst d q;exact mod_int' c (k _)
 |RShift=>exact dK R ha hb w λi j u v z d q c k=>by subst d q;exact rshift_int c (k _)
 |BitAnd=>exact dK R ha hb (CI w) λi j u v z d q c k=>by subst d q;exact and_int (k _)
 |Pow=>exact dK R ha hb w λi j u v z d q c k=>by subst d q;exact pow_int_small c.1 (by omega) c.2.2 (k _)
 |_=>exact WC w
theorem RR(h1:bE g cx l W1)(i:bE g cx r j):bE g cx (.BinOp l op r pos) (ao op W1 j):=λd R w=>
 show wq _ _ (do let a ←eval l cx.env;let b ←XU [a] (eval r cx.env);XO pos;abj [a,b] (binaryOp op a b)) _ _ _ from
 h1.then_ d R w λa x st s R q=>TE.then_ (i.hold [x]) d R q λb y st s R q=>aU (hM (aF (EC R.pop.pop R.tmp.2.1 R.tmp.1 q)))
end
section
open PySem.SeqAt
section
variable{g:Gl}{s:Ws}{A:Xm}{F:FZ}
theorem str_beq(x y:List Nat):((⟨x.toArray⟩:Str)==⟨y.toArray⟩)=(x==y):=by
 rw[X4];simp
theorem ow(h:GG f x y=some b):∃c d,x=some c∧y=some d∧f c d=b:=by
 cases x with
 |none=>cases h
 |some c=>cases y with
  |none=>cases h
  |some d=>exact⟨c,d,rfl,rfl,W4 h⟩
theorem ED{f:V->V->Option Bool}{P:Wn->Wn->Bool->Prop}(u:∀{v w x y b},VR g F v x->VR g F w y->f v w=some b->P x y b):∀{vs ws:List V} {xs ys:List Wn} {b:Bool},bo g F vs xs->bo g F ws ys->vs.length=ws.length->Ni f vs ws=some b->
 ∃e:Nat->Bool,(∀j (h1:j<xs.length) (q:j<ys.length),P xs[j] ys[j] (e j))∧(XI xs.length).all e=b:=by
 intro i
 induction i with
 |nil=>
  intro a
  cases a with
  |nil=>
   intro _ _ b h1 q _ h
   cases h1;cases q;cases h;exact⟨λ_=>true,λj h=>absurd h (ab4 j),rfl⟩
  |cons S R=>
   intros;contradiction
 |cons v vs J=>
  intro z
  cases z with
  |nil=>
   intros;contradiction
  |cons w ws=>
   intro L
   cases L with
   |nil=>
    intros;exact WC ‹_›
   |cons x xs=>
    intro m
    cases m with
    |nil=>
     intros;exact WC ‹_›
    |cons y ys=>
     intro b h1 q p h
     obtain⟨c,d,k,D,rfl⟩:=ow h
     obtain⟨e,B,rfl⟩:=J h1.2 q.2 (XE p) D
     refine⟨λj=>Nat.casesOn j c e,λj=>Nat.casesOn j (λ_ _=>u h1.1 q.1 k) λj h o=>B j (Zy h) (Zy o),?_⟩
     rw[WX,aet,ad5,List.all_map]
     rfl
theorem GO(i:∀{v w x b},VR g F v x->VR g F w x->f v w=some b->b=true):∀{vs ws:List V} {xs:List Wn} {b:Bool},bo g F vs xs->bo g F ws xs->Ni f vs ws=some b->b=true:=by
 intro y
 induction y with
 |nil=>
  intro _ _ _ _ _ h
  cases h;rfl
 |cons v vs k=>
  intro u
  cases u with
  |nil=>
   intro _ _ _ _ h
   cases h;rfl
  |cons w ws=>
   intro j
   cases j with
   |nil=>
    intros;exact WC ‹_›
   |cons x xs=>
    intro b h1 q h
    obtain⟨c,d,z,p,rfl⟩:=ow h
    rw[i h1.1 q.1 z,k h1.2 q.2 p];rfl
theorem u3(i:∀{v w x b},VR g F v x->VR g F w x->f v w=some b->b=true)(j:∀a o o',F a o->F a o'->o=o')
 (h1:bQ F T (bo g F vs) x) (z:bQ F T (bo g F ws) x) (h:j1 o f vs ws=some b):b=true:=by
 obtain⟨rfl,q,_,d⟩:=h1
 obtain⟨e,y,_,v2⟩:=z
 cases e
 have e:=congrArg Obj.data (j _ _ _ q y)
 injection e with e
 have e:=congrArg acU e
 subst e
 unfold j1 at h
 rw[if_pos (d.length.symm.trans v2.length)]at h
 exact GO i d v2 h
theorem bS{d:Type}{x:d}{P:Prop}(h:none=some x):P:=ns h
theorem wa{n:Nat}{P:V->V->Bool->Prop}(q:∀i j,P (.int i) (.int j) (i==j))(hs:∀i j,P (.str i) (.str j) (i==j))(hb:∀i j,P (.bytes i) (.bytes j) (i==j))
 (d:∀vs ws b,j1 none (ji n) vs ws=some b->P (.tup vs) (.tup ws) b) (y:∀vs ws b,j1 (some false) (ji n) vs ws=some b->P (.lst vs) (.lst ws) b) {v w:V} {b:Bool}:ji (n+1) v w=some b->P v w b:=by
 cases v with
 |int i=>cases w with
  |int j=>exact λh=>W4 h▸q i j
  |_=>exact bS
 |str i=>cases w with
  |str j=>exact λh=>W4 h▸hs i j
  |_=>exact bS
 |bytes i=>cases w with
  |bytes j=>exact λh=>W4 h▸hb i j
  |_=>exact bS
 |tup vs=>cases w with
  |tup ws=>exact d vs ws b
  |_=>exact bS
 |lst vs=>cases w with
  |lst ws=>exact y vs ws b
  |_=>exact bS
 |_=>exact bS
theorem aN{i:Int}{x:Wn}{P:Prop}(h:VR g F (.int i) x)(k:∀t,x=.int i t->P):P:=aev h k
theorem aW{i:List Nat}{x:Wn}{P:Prop}(h:VR g F (.str i) x)(k:∀t,x=.str ⟨i.toArray⟩ t->P):P:=aev (aex h) k
theorem aA{i:List UInt8}{x:Wn}{P:Prop}(h:VR g F (.bytes i) x)(k:∀t,x=.bytes i.toArray t->P):P:=aev (aex h) k
theorem GP(hF:∀a o o',F a o->F a o'->o=o'):∀(n:Nat) {v w:V} {x:Wn} {b:Bool},VR g F v x->VR g F w x->ji n v w=some b->b=true:=by
 intro w1
 induction w1 with
 |zero=>
  intro _ _ _ _ _ _ h
  exact bS h
 |succ n ih=>
  intro v w x b hv hw h
  exact wa (P:=λv w b=>VR g F v x->VR g F w x->b=true)
   (λi j h1 h2=>aN h1 λt e=>aN h2 λu e'=>beq_iff_eq.mpr (by rw[e]at e';injection e'))
   (λi j h1 h2=>aW h1 λt e=>aW h2 λu e'=>beq_iff_eq.mpr (by rw[e]at e';injection e' with e';injection e' with e';exact congrArg acU e'))
   (λi j h1 h2=>aA h1 λt e=>aA h2 λu e'=>beq_iff_eq.mpr (by rw[e]at e';injection e' with e';exact congrArg acU e'))
   (λvs ws b h h1 h2=>u3 (ih) hF h1 h2 h) (λvs ws b h h1 h2=>u3 (ih) hF h1 h2 h) h hv hw
abbrev OI(A:Xm)(s:Ws)(x y:Wn)(b:Bool):Prop:=RcAt A s x y b∧RcNeAt A s x y (!b)
abbrev Rk(g:Gl)(A:Xm)(s:Ws)(f:V->V->Option Bool):Prop:=∀{v w x y b},VR g (HG s) v x->VR g (HG s) w y->f v w=some b->EqAt A s x y b
theorem u4(i:Rk g A.in1 s f)(h1:bo g (HG s) vs xs)(d:bo g (HG s) ws ys)(q:vs.length=ws.length)(h:Ni f vs ws=some b) :
 ∃e:Nat->Bool,(∀j (h1:j<xs.toArray.size) (d:j<ys.toArray.size),EqAt A.in1 s xs.toArray[j] ys.toArray[j] (e j))∧(XI xs.toArray.size).all e=b∧xs.toArray.size=ys.toArray.size:=by
 obtain⟨e,y,hb⟩:=ED i h1 d q h
 exact⟨e,λj h1 d=>y j h1 d,hb,h1.length.trans (q.trans d.length.symm)⟩
theorem CJ(m:Rk g A.in1 s f)(u:A.units<afq)
 (h1:bQ (HG s) "list" (bo g (HG s) vs) x) (w:bQ (HG s) "list" (bo g (HG s) ws) y) (h:j1 (some false) f vs ws=some b):OI A s x y b:=by
 obtain⟨rfl,i,_,p⟩:=h1
 obtain⟨rfl,z,_,v2⟩:=w
 unfold j1 at h
 by_cases c:vs.length=ws.length
 ·rw[if_pos c]at h
  obtain⟨e,k,rfl,d⟩:=u4 m p v2 c h
  exact⟨RcAt.lists ⟨_,i,rfl,_,rfl⟩ ⟨_,z,rfl,_,rfl⟩ d u k,RcNeAt.lists ⟨_,i,rfl,_,rfl⟩ ⟨_,z,rfl,_,rfl⟩ d u k⟩
 ·rw[if_neg c]at h
  cases h
  have j:¬_=_:=λq=>c (p.length.symm.trans (Eq.trans q v2.length))
  exact⟨RcAt.lists_lengths ⟨_,i,rfl,_,rfl⟩ ⟨_,z,rfl,_,rfl⟩ (bne_iff_ne.mpr j) u,RcNeAt.lists_lengths ⟨_,i,rfl,_,rfl⟩ ⟨_,z,rfl,_,rfl⟩ (bne_iff_ne.mpr j) u⟩
theorem wb(c:Rk g A.in1 s f)(z:A.units<afq)
 (h1:bQ (HG s) "tuple" (bo g (HG s) vs) x) (p:bQ (HG s) "tuple" (bo g (HG s) ws) y) (h:j1 none f vs ws=some b):OI A s x y b:=by
 obtain⟨rfl,j,_,k⟩:=h1
 obtain⟨rfl,i,_,v2⟩:=p
 unfold j1 at h
 by_cases d:vs.length=ws.length
 ·rw[if_pos d]at h
  obtain⟨e,u,rfl,q⟩:=u4 c k v2 d h
  have r1:=RcAt.tuples (A:=A) ⟨_,j,rfl,_,rfl⟩ ⟨_,i,rfl,_,rfl⟩ z u
  have r2:=RcNeAt.tuples (A:=A) ⟨_,j,rfl,_,rfl⟩ ⟨_,i,rfl,_,rfl⟩ z u
  rw[←q,Nat.min_self,beq_self_eq_true,acG]at r1 r2
  exact⟨r1,r2⟩
 ·rw[if_neg d]at h;cases h
set_option tactic.hygienic true in
theorem CK(h1:bQ (HG s) T R x)(d:bQ (HG s) T i y)(hs:x=y->b=true)(h:OI A s x y b):EqAt A s x y b:=by
 obtain⟨rfl,_⟩:=h1
 obtain⟨rfl,_⟩:=d
 rename_i a _ _ _ _ _ j _ _ _ _ _
 by_cases q:a=j
 ·rw[hs (congrArg _ q),q];exact EqAt.same _
 ·exact EqAt.of_refs q h.1
theorem OJ(h:HG s a o)(d:HG s a o'):o=o':=W4 (h.symm.trans d)
theorem AM:∀(n:Nat) {A:Xm},A.units+n<=9500->Rk g A s (ji n):=by
 intro zi
 induction zi with
 |zero=>
  intro _ _ _ _ _ _ _ _ _ h
  exact bS h
 |succ n ih=>
  intro A hu v w x y b hv hw h
  exact have hu':A.units<cLine:=Wz (Wh (WA _ _) hu) dD
  have ih:Rk g A.in1 s (ji n):=ih (by rw[Xd n,←WV]at hu;exact hu)
  have hx:x=y->b=true:=λe=>GP (F:=HG s) (λ_ _ _=>OJ) (n+1) hv (by rw[e];exact hw) h
  wa (P:=λv w b=>VR g (HG s) v x->VR g (HG s) w y->(x=y->b=true)->EqAt A s x y b)
   (λi j h1 h2 _=>aN h1 λt e=>aN h2 λu e'=>by rw[e,e'];exact EqAt.int_int _ _ _ _)
   (λi j h1 h2 _=>aW h1 λt e=>aW h2 λu e'=>by rw[e,e',←str_beq];exact EqAt.str_str _ _ _ _)
   (λi j h1 h2 _=>aA h1 λt e=>aA h2 λu e'=>by
    rw[e,e']
    exact λprog w E Q hq=>eqBool_bytes ((show decide (i.toArray.toList=j.toArray.toList)=(i==j)from X4.mpr (by simp))▸hq))
   (λvs ws b h h1 h2 hx=>CK h1 h2 hx (wb ih hu' h1 h2 h)) (λvs ws b h h1 h2 hx=>CK h1 h2 hx (CJ ih hu' h1 h2 h)) h hv hw hx
end
end
section
open PySem.SeqAt
def jk(g:Gl):Prop:=∀{c:Addr} {vs:List V} {u:Str} {t:Tok} {A:Xm} {s:Ws} {x:Wn},A.units<=9400->g.B.StaysIn s.heap->VR g (HG s) (.inst c vs) x->OI A s x (.str u t) false
section
variable{g:Gl}{cx:Cx}{tmp:List V}{vals:List Wn}{st:St}{s:Ws}{A:Xm}{x y:Wn}{a b v:V}{F:FZ}{E:Wn->Ws->Prop}
theorem RS{vs:List V}(h:VR g (HG s) (.tup vs) x){P:Prop}(k:∀a xs,x=.ref a->s.heap.IsTuple a xs->P):P:=match(show bQ _ _ _ _ from h)with | .mk e h _ _=>k _ _ e ⟨_,h,rfl,_,rfl⟩
theorem KS(p:A.units<=9400)(ha:VR g (HG s) a x)(hb:VR g (HG s) b y):ji 4 a b=some c->OI A s x y c:=
 have q:A.units<cLine:=Wz p dD
 have k:Rk g A.in1 s (ji 3):=AM 3 (Wh (WE p 4) dD)
 λe=>wa (P:=λv w b=>VR g (HG s) v x->VR g (HG s) w y->OI A s x y b)
  (λi j h1 d=>aN h1 λt e=>aN d λu z=>by rw[e,z];exact⟨RcAt.int_int _ _ _ _,RcNeAt.int_int _ _ _ _⟩)
  (λi j h1 d=>aW h1 λt e=>aW d λu z=>by rw[e,z,←str_beq];exact⟨RcAt.str_str _ _ _ _,RcNeAt.str_str _ _ _ _⟩)
  (λi j h1 d=>aA h1 λt e=>aA d λu z=>by rw[e,z];exact⟨λprog w E Q h=>eq_bytes h,λprog w E Q h=>ne_bytes h⟩)
  (λvs ws b h h1 d=>wb k q h1 d h) (λvs ws b h h1 d=>CJ k q h1 d h) e ha hb
theorem CL(p:jk g)(k:g.B.StaysIn s.heap)(z:A.units<=9400)(ha:VR g (HG s) a x)(hb:VR g (HG s) b y){c:Bool}(e:eqT a b=some c):OI A s x y c:=by
 have d:A.units<cLine:=Wz z dD
 cases a with
 |none=>
  obtain rfl:x=.none:=ha
  cases b with
  |none=>obtain rfl:y=.none:=hb;cases e;exact⟨RcAt.none_none,RcNeAt.none_none⟩
  |int i=>exact aN hb λt q=>by rw[q];cases e;exact⟨RcAt.none_int _ _,RcNeAt.none_int _ _⟩
  |tup vs=>exact RS hb λa xs q h=>by rw[q];cases e;exact⟨RcAt.none_tuple h d,RcNeAt.none_tuple h d⟩
  |_=>exact bS e
 |bool i=>
  obtain rfl:x=.bool i:=ha
  cases b with
  |bool j=>obtain rfl:y=.bool j:=hb;cases e;exact⟨RcAt.bool_bool _ _,RcNeAt.bool_bool _ _⟩
  |_=>exact bS e
 |inst c vs=>cases b with
  |str u=>exact aW hb λt q=>by rw[q];cases e;exact p z k ha
  |_=>exact bS e
 |tup vs=>cases b with
  |none=>exact RS ha λa xs q h=>by obtain rfl:y=.none:=hb;rw[q];cases e;exact⟨RcAt.tuple_none h d,RcNeAt.tuple_none h d⟩
  |tup ws=>exact wb (AM 3 (Wh (WE z 4) dD)) d ha hb e
  |_=>exact bS e
 |_=>exact KS z ha hb e
theorem aI.hg(R:aI g cx tmp vals st s)(h:VR g (cx.F st s) v x):VR g (HG s) (res st.h v) x:=by
 have h:=R.rsd h
 generalize res st.h v=w at h
 cases w with
 |lst vs=>exact bQ.imp (λ_ _ h=>h) (λ_ h=>h.mono λ_ _ h=>h.1) (show bQ _ _ _ _ from h)
 |_=>exact VR.mono (F:=cx.F st s) (λ_ _ h=>ZE h) _ _ h
theorem AN{vs:List V}{x:V}{b:Bool}(h:GH (vs.map λv=>ji 4 v x)=some b):(∀v∈vs,∃c,ji 4 v x=some c)∧vs.any (λv=>ji 4 v x==some true)=b:=by
 induction vs generalizing b with
 |nil=>cases h;exact⟨an,rfl⟩
 |cons v vs k=>
  obtain⟨c,d,j,p,rfl⟩:=ow h
  obtain⟨h1,z⟩:=k p
  exact⟨λu i=>(Wo.mp i).elim (λq=>q▸⟨c,j⟩) (h1 u),by rw[Y3,z,show ji 4 v x=some c from j];cases c <;> rfl⟩
theorem GQ(D:A.units<=9400){vs:List V}{xs:List Wn}(k:bo g (HG s) vs xs)(hx:VR g (HG s) v x){e:Bool}(h:GH (vs.map λu=>ji 4 u v)=some e) :
 ∃f:Wn->Bool,(∀y,y∈xs.toArray->EqAt A.in1 s y x (f y))∧xs.toArray.any f=e:=by
 classical
 obtain⟨h1,w⟩:=AN h
 have at_:=λu y (z:VR g (HG s) u y) c (hc:ji 4 u v=some c)=>AM (s:=s) (g:=g) 4 (A:=A.in1) (by show A.units+1+4<=9500;lia) z hx hc
 refine⟨λy=>decide (∃u∈vs,VR g (HG s) u y∧ji 4 u v=some true),λy z=>?_,?_⟩
 ·show EqAt A.in1 s y x (decide _)
  by_cases q:∃u∈vs,VR g (HG s) u y∧ji 4 u v=some true
  ·rw[decide_eq_true q]
   exact q.elim λu q=>at_ u y q.2.1 _ q.2.2
  ·rw[decide_eq_false q]
   obtain⟨i,p⟩:=afa (List.mem_toArray.mp z)
   have j:i<vs.length:=k.length▸(Xw.mp p).1
   obtain⟨B,e,r⟩:=k.get (Xk j)
   rw[p]at e;cases e
   obtain⟨c,hc⟩:=h1 _ (ZS j)
   cases c with
   |false=>exact at_ _ _ r _ hc
   |true=>exact absurd ⟨_,ZS j,r,hc⟩ q
 ·rw[←w,X4,List.any_toArray,ZT,ZT]
  constructor
  ·rintro⟨y,z,hd⟩
   obtain⟨u,d,_,m⟩:=of_decide_eq_true hd
   exact⟨u,d,beq_iff_eq.mpr m⟩
  ·rintro⟨u,d,hd⟩
   obtain⟨i,p⟩:=afa d
   obtain⟨y,z,o⟩:=k.get p
   exact⟨y,XJ z,decide_eq_true ⟨u,d,o,beq_iff_eq.mp hd⟩⟩
end
end
section
open PySem.SeqAt
section
variable{g:Gl}{cx:Cx}{tmp:List V}{vals:List Wn}{st:St}{s:Ws}{A:Xm}{x y:Wn}{a b v:V}{F:FZ}{E:Wn->Ws->Prop}{Qr:Wn->Ws->Prop}{P:Bool->Prop}
theorem OM(h:g.B.objs.size<=c):(c==aeA)=false:=beq_eq_false_iff_ne.mpr λe=>absurd (Wh g.big (e▸h)) dD
theorem DK.is{k:DK}(h:VR g F v x){d:k.K}(e:k.key v=some d):(k.kind g.prog g.w).is d x=true:=by
 cases k with
 |s=>cases v with
  |str i=>exact aW h λt q=>by rw[q];cases e;exact beq_self_eq_true _
  |_=>exact bS e
 |b=>cases v with
  |bytes i=>exact aA h λt q=>by rw[q];cases e;exact beq_self_eq_true _
  |_=>exact bS e
 |i=>cases v with
  |int i=>exact aN h λt q=>by rw[q];cases e;exact beq_self_eq_true _
  |_=>exact bS e
theorem tS.at_{K:Type}[DecidableEq K](k:K):∀{l:List (K×V)} {r:List (K×Wn)},tS g F l r->(atKey l k=none∧valueAt r k=none)∨∃v x,atKey l k=some v∧valueAt r k=some x∧VR g F v x:=by
 intro j
 induction j with
 |nil=>
  intro _ h
  cases h;exact .inl ⟨rfl,rfl⟩
 |cons p l d=>
  intro i
  cases i with
  |nil=>
   intros;exact WC ‹_›
  |cons q r=>
   intro h
   have d:=d h.2.2
   have e:=h.1
   unfold atKey valueAt at *
   rw[ZC,ZC,←e]
   by_cases c:p.1=k
   ·rw[decide_eq_true c];exact .inr ⟨_,_,rfl,rfl,h.2.1⟩
   ·rw[decide_eq_false c];exact d
theorem aI.dict(R:aI g cx tmp vals st s)(e:st.h d=some (.dict k l)):∃r,l.length<=1000000∧tS g (cx.F st s) l r∧s.heap.DictOf (k.kind g.prog g.w) d r∧(d==aeA)=false:=by
 have K:=R.known d _ e
 refine Wy λno=>?_
 obtain⟨o,i,q,r,j,hd⟩:=K.obj
 refine no ?_
 exact⟨r,q,j,aaI.mpr ⟨o,i,hd⟩,OM K.low⟩
abbrev VK(g:Gl)(A:Xm)(s:Ws)(x y:Wn)(c:Bool)(d:Ws):Prop:=(∀Qr E,Qr (.bool c) d->WJ g.M A (Z3 .In x y) Qr E s)∧∀Qr E,Qr (.bool (!c)) d->WJ g.M A (Z3 .NotIn x y) Qr E s
abbrev Vj(g:Gl)(cx:Cx)(tmp:List V)(vals:List Wn)(st:St)(A:Xm)(s:Ws)(x y:Wn)(P:Bool->Prop):Prop:=
 (∀Qr E,(∀c d,P c->aI g cx tmp vals st d->Qr (.bool c) d)->WJ g.M A (Z3 .In x y) Qr E s)∧(∀Qr E,(∀c d,P c->aI g cx tmp vals st d->Qr (.bool (!c)) d)->WJ g.M A (Z3 .NotIn x y) Qr E s)
theorem RU(p:P c)(q:aI g cx tmp vals st d)(h:VK g A s x y c d):Vj g cx tmp vals st A s x y P:=⟨λQr E k=>h.1 Qr E (k c d p q),λQr E k=>h.2 Qr E (k c d p q)⟩
theorem c9(h:only l k):∃a,l=[a]∧k a:=by
 cases l with
 |nil=>exact h.elim
 |cons a r=>cases r with
  |nil=>exact⟨a,rfl,h⟩
  |cons=>exact h.elim
theorem u5(U:gL cx.stk cx.lvl A)(R:aI g cx tmp vals st s)(ha:VR g (cx.F st s) a x)(hb:VR g (cx.F st s) b y)(w:RD a b st.h P):Vj g cx tmp vals st A s x y P:=by
 have G:A.units<=9400:=Wh (Wh (WA _ _) U.units) dD
 have z:=R.rsd hb
 have w:vc (res st.h b) _ _ _ _ _ _ _:=w
 generalize res st.h b=b' at z w
 have hs:∀{vs:List V} {xs:List Wn},bo g (cx.F st s) vs xs->among vs a P->∃c,P c∧∃f:Wn->Bool,(∀y,y∈xs.toArray->EqAt A.in1 s y x (f y))∧xs.toArray.any f=c:=λD w=>
  (aT w).elim λc w=>⟨c,w.2,GQ G (D.mono λ_ _ h=>h.1) (VR.mono (F:=cx.F st s) (λ_ _ h=>ZE h) _ _ ha) w.1⟩
 cases b' with
 |bytes l=>
  refine aA (g:=g) (F:=cx.F st s) z λt e=>?_
  subst e
  cases a with
  |int i=>
   refine aN ha λu e=>?_
   subst e
   exact RU w.2 R ⟨λQr E k=>in_gives (Xn s _ _) aap aag (Z6 _ _) (fT w.1.1 w.1.2) k,λQr E k=>notIn_gives (Xn s _ _) aap aag (Z6 _ _) (fT w.1.1 w.1.2) k⟩
  |bytes j=>
   refine aA ha λu e=>?_
   subst e
   obtain⟨k,rfl,w⟩:=c9 w
   have m:=@jZ l k t u
   exact⟨λQr E q=>SeqRoads2.in_meets (Xn s _ _) aap aag (Z6 _ _) m ⟨U.handled,λI n B=>⟨_,rfl,q _ _ w (R.keeps B)⟩⟩,λQr E q=>SeqRoads2.notIn_meets (Xn s _ _) aap aag (Z6 _ _) m ⟨U.handled,λI n B=>⟨_,rfl,q _ _ w (R.keeps B)⟩⟩⟩
  |_=>exact WC w
 |str l=>
  refine aW (g:=g) (F:=cx.F st s) z λt e=>?_
  subst e
  obtain⟨j,rfl,w⟩:=hN w
  refine aW ha λu e=>?_
  subst e
  obtain⟨k,rfl,w⟩:=c9 w
  exact RU w R ⟨λQr E q=>in_str (by rw[acB];exact q),λQr E q=>notIn_str (by rw[acB];exact q)⟩
 |ref d=>
  obtain rfl:y=.ref d:=z
  obtain⟨o,e,w⟩:=aT w
  cases o with
  |dict k l=>
   obtain⟨X,Y,w⟩:=aT w
   obtain⟨r,_,B,Z,S⟩:=R.dict e
   have hs:(valueAt r X).isSome=(atKey l X).isSome:=(B.at_ X).elim (λh=>by rw[h.1,h.2];rfl) λ⟨_,_,H,Q,_⟩=>by rw[H,Q];rfl
   exact RU w R.toks ⟨λQr E q=>wpAny_in_of (DK.is ha Y) S Z.mapOf (by rw[hs];exact q),λQr E q=>wpAny_notIn_of (DK.is ha Y) S Z.mapOf (by rw[hs];exact q)⟩
  |_=>exact WC w
 |tup vs=>
  obtain⟨rfl,h,_,D⟩:=(show bQ _ _ _ _ from z)
  obtain⟨c,p,f,J,L⟩:=hs D w
  exact RU p R ⟨λQr E q=>in_tupleAt f ⟨_,h.1,rfl,_,rfl⟩ J (by rw[L];exact q),λQr E q=>notIn_tupleAt f ⟨_,h.1,rfl,_,rfl⟩ J (by rw[L];exact q)⟩
 |lst vs=>
  obtain⟨rfl,h,_,D⟩:=(show bQ _ _ _ _ from z)
  obtain⟨c,p,f,J,L⟩:=hs D w
  exact RU p R ⟨λQr E q=>in_listAt f ⟨_,h,rfl,_,rfl⟩ J (by rw[L];exact q),λQr E q=>notIn_listAt f ⟨_,h,rfl,_,rfl⟩ J (by rw[L];exact q)⟩
 |_=>exact WC w
theorem rV(h:VR g F v x)(d:jj v):plainIs x .none=true∧(x==aaY)=isNone v:=by
 cases v with
 |none=>obtain rfl:x=.none:=h;exact⟨rfl,rfl⟩
 |bool b=>obtain rfl:x=.bool b:=h;exact⟨rfl,rfl⟩
 |int i=>exact aN h λt e=>e▸⟨rfl,rfl⟩
 |str i=>exact aW h λt e=>e▸⟨rfl,rfl⟩
 |bytes i=>exact aA h λt e=>e▸⟨rfl,rfl⟩
 |raw _=>exact d.elim
 |ref a=>obtain rfl:x=.ref a:=h;exact⟨rfl,rfl⟩
 |tup=>exact bQ.casesOn h λe _ _ _=>e▸⟨rfl,rfl⟩
 |lst=>exact bQ.casesOn h λe _ _ _=>e▸⟨rfl,rfl⟩
 |inst=>exact h.2.casesOn λe _ _ _ _ _=>e▸⟨rfl,rfl⟩
theorem yG(ha:VR g F a x)(hb:VR g F b y)(w:Ui a b P):y=.none∧plainIs x .none=true∧P (x==.none):=by
 cases b with
 |none=>exact⟨hb,(rV ha w.1).1,(rV ha w.1).2▸w.2⟩
 |_=>exact WC w
theorem jP(d:∀i j t u,Qr (.bool (f i j)) s->WJ g.M A (Z3 op (.int i t) (.int j u)) Qr E s)(ha:VR g F a x)(hb:VR g F b y)(w:KN f a b P)(k:∀c,P c->Qr (.bool c) s):WJ g.M A (Z3 op x y) Qr E s:=by
 obtain⟨i,rfl,w⟩:=bu w
 obtain⟨j,rfl,w⟩:=bu w
 exact aN ha λt e=>aN hb λu q=>by rw[e,q];exact d i j t u (k _ w)
theorem oy(f:jk g)(d:gL cx.stk cx.lvl A)(R:aI g cx tmp vals st s)(ha:VR g (cx.F st s) a x)(hb:VR g (cx.F st s) b y)(w:tU op a b st.h P)(k:∀c z,P c->aI g cx tmp vals st z->Qr (.bool c) z):WJ g.M A (Z3 op x y) Qr E s:=by
 have m:A.units<=9400:=Wh (Wh (WA _ _) d.units) dD
 cases op with
 |Eq=>obtain⟨c,e,p⟩:=aT w;exact(CL f R.base m (R.hg ha) (R.hg hb) e).1 _ _ _ _ (k _ _ p R)
 |NotEq=>obtain⟨c,e,p⟩:=aT w;exact(CL f R.base m (R.hg ha) (R.hg hb) e).2 _ _ _ _ (k _ _ p R)
 |In=>exact(u5 d R ha hb w).1 _ _ k
 |NotIn=>exact(u5 (P:=λc=>P (!c)) d R ha hb w).2 _ _ λc z=>k _ _
 |Is=>obtain⟨rfl,p,q⟩:=yG ha hb w;exact wpAny_is_plain p (k _ _ q R)
 |IsNot=>obtain⟨rfl,p,q⟩:=yG (P:=λc=>P (!c)) ha hb w;exact wpAny_isNot_plain p (k _ _ q R)
 |Lt=>exact jP (λi j t u h=>lt_int h) ha hb w λc p=>k c s p R
 |Gt=>exact jP (λi j t u h=>gt_int h) ha hb w λc p=>k c s p R
 |GtE=>exact jP (λi j t u h=>ge_int h) ha hb w λc p=>k c s p R
 |LtE=>
  have w:Vh a b P:=w
  cases a with
  |int i=>exact jP (a:=.int i) (λi j t u h=>le_int h) ha hb w λc p=>k c s p R
  |bytes i=>
   obtain⟨j,rfl,w⟩:=cK w
   exact aA ha λt e=>aA hb λu o=>by
    rw[e,o]
    exact compareOp_gives (op:=.LtE) (Xn s _ t) (Xn s _ u) FX.TO FX.Ru (FX.TQ _ _) rP (λe=>nomatch e) (k _ _ w R)
  |_=>exact WC w
end
end
section
variable{g:Gl}{cx:Cx}{tmp:List V}{vals:List Wn}{st:St}{s:Ws}{A:Xm}{x y:Wn}{a b v:V}{F:FZ}{E:Wn->Ws->Prop}{Qr:Wn->Ws->Prop}{Q:V->St->Prop}{X:St->Prop}
theorem GR(j:bE g cx r d)(q:abT op r=false):TE g cx (aeD op r (eval r cx.env)) d:=by rw[markedBehindIn_of_false q];exact j
theorem RV(u:jk g)(h1:bE g cx l W1)(k:bE g cx r j)(i:abT op r=false):bE g cx (.Compare l [op] [r] pos) (aC op W1 j):=λd R w=>
 show wq _ _ (do let a ←eval l cx.env;let b ←XU [a] (aeD op r (eval r cx.env));XO pos;abj [a,b] (Z3 op a b)) _ _ _ from
 h1.then_ d R w λa x st s R q=>TE.then_ (TE.hold (GR k i) [x]) d R q λb y st s R q=>
  aU (hM (aF (oy u d R.pop.pop R.tmp.2.1 R.tmp.1 q λc m p z=>z.up mq p)))
theorem yH(z:jk g){op:CmpOp}{t:Sem Wn}(u:TE g cx t j)(d:gL cx.stk cx.lvl A)(R:aI g cx (a::tmp) (x::vals) st s)(q:j (λb st=>tU op a b st.h λc=>Q (.bool c) st) X st) :
 wq g A (do let b ←XU [x] t;XO pos;let c ←abj [x,b] (Z3 op x b);XU [c] (truthy c)) (TU g cx tmp vals Q) (hJ g cx X) s:=
 TE.then_ (u.hold [x]) d R q λb y st s R q=>aU (aq (hM (aF (oy z d R.pop.pop R.tmp.2.1 R.tmp.1 q λc k p i=>ay (aF (Zh ⟨i,p⟩))))))
theorem RW(z:jk g)(h1:bE g cx l W1)(u:bE g cx r j)(i:abT op r=false):u0 g cx (.Compare l [op] [r] pos) (aC op W1 j):=λd R w=>
 show wq _ _ (do let a ←eval l cx.env;let b ←XU [a] (aeD op r (eval r cx.env));XO pos;let c ←abj [a,b] (Z3 op a b);XU [c] (truthy c)) _ _ _ from
 h1.then_ d R w λa x st s R q=>yH z (GR u i) d R q
theorem KU(i:jk g)(h:bE g cx l W)(h1:bE g cx r1 W1)(k:bE g cx r2 z)(u:lastMarks [o1,o2] [r1,r2]=false):u0 g cx (.Compare l [o1,o2] [r1,r2] pos) (rT o1 o2 W W1 z):=λd R w=>by
 show wq _ _ (do testChain pos (←eval l cx.env) [o1,o2] (markedEach [o1,o2] [r1,r2] (evalEach [r1,r2] cx.env))) _ _ _
 rw[markedEach_of_false _ _ _ u]
 refine h.then_ d R w λa x st s R q=>?_
 show wq _ _ (do
  let rv ←XU [x] (eval r1 cx.env)
  standAt pos
  let c ←XU [x,rv] (Z3 o1 x rv)
  release [x,rv] [c]
  if←XU [c,rv] (truthy c)then testChain pos rv [o2] [eval r2 cx.env]else pure false) _ _ _
 refine TE.then_ (h1.hold [x]) d R q λb y st s R q=>aU (aq (ay (aF (oy i d (tmp:=b::_) (vals:=y::_) { R with tmp:=Wm R.tmp.1 R.tmp.2.2} R.tmp.2.1 R.tmp.1 q λc m p j=>?_))))
 refine aq (aF (aby (aq (ay (aF (Zh ?_))))))
 cases c with
 |false=>exact ax ⟨j.pop,p⟩
 |true=>exact yH i k d j p
theorem bo.split(l:vs.length=xs.length)(h:bo g F (vs++ws) (xs++ys)):bo g F vs xs∧bo g F ws ys:=by
 induction vs generalizing xs with
 |nil=>cases xs with
  |nil=>exact⟨rfl,h⟩
  |cons=>cases l
 |cons v vs d=>cases xs with
  |nil=>cases l
  |cons x xs=>exact⟨⟨h.1,(d (XE l) h.2).1⟩,(d (XE l) h.2).2⟩
theorem AO(h1:bE g cx e W1)(c:AA g cx pos d i)(p:Yb (e::d) cx.env=(false,eval e cx.env)::Yb d cx.env):AA g cx pos (e::d) (aa W1 i):=λj R w=>by
 rw[p]
 show wq _ _ (abG ((false,eval e cx.env)::Zq pos (Yb d cx.env))) _ _ _
 rw[abG]
 refine h1.then_ j R w λv x st s R q=>?_
 rw[if_neg Xc]
 refine dZ ((aq (ay (aV (c j R q) λxs s u=>u.elim' λvs st R l q=>?_))))
 exact ax (RH.mk (vs:=v::vs) (have z:=bo.split l R.tmp;{R with tmp:=⟨z.2.1,z.1.append z.2.2⟩}) (congrArg (· + 1) l) q)
end
section
variable{g:Gl}{cx:Cx}{tmp:List V}{vals:List Wn}{st:St}{s:Ws}{A:Xm}{x y:Wn}{a b v:V}{F:FZ}{E:Wn->Ws->Prop}{Qr:Wn->Ws->Prop}{Q:V->St->Prop}{X:St->Prop}
theorem aI.unL(R:aI g cx (vs++tmp) (xs++vals) st s)(l:vs.length=xs.length):bo g (cx.F st s) vs xs∧aI g cx tmp vals st s:=have z:=bo.split l R.tmp;⟨z.1,{R with tmp:=z.2}⟩
theorem aI.pushT(R:aI g cx tmp vals st s)(hv:bo g (cx.F st s) vs xs)(hl:xs.length<=1000000)(q:Q (.tup vs) st):Up g cx tmp vals Q (.ref s.heap.objs.size) { s with heap:=s.heap.push (sq "tuple" xs n)}:=
 (R.keeps (tk:=s.toks) λb o e=>Wv _ e).up (v:=.tup vs) (show bQ _ _ _ _ from .mk rfl (R.new (λb o e=>Wv _ e) (Wr _) (WR _ rfl) (c7 rfl rfl)) hl (hv.mono λb o z=>⟨Wv _ z.1,z.2⟩)) q
theorem aI.pushO(R:aI g cx tmp vals st s){o:O}{x:Obj}(hf:x.isFreed=false)(r:OR g (cx.F st s) o x)(q:Mine.Internal.fresh o st Q):Up g cx tmp vals Q (.ref s.heap.objs.size) { s with heap:=s.heap.push x}:=
 ⟨(R.alloc (tk:=s.toks) (λb o e=>Wv _ e) (Wr _) (WR _ hf) r).push (v:=.ref s.heap.objs.size) rfl,q _ (R.fresh (Wr _))⟩
theorem GS{vs:List V}{xs:List Wn}(l:vs.length=xs.length)(h:vs.length<=1000000):xs.length<=sizeLine:=l▸Wh h (by rw[W5];decide)
theorem Nm{n:Nat}(h:AA g cx pos es W):bE g cx (.Tuple es n pos) (c8 W):=λoa R w=>
 show wq _ _ (do XO pos;newTuple (←abG (Zq pos (Yb es cx.env)))) _ _ _ from aU (TL.then_ h oa R w λvs xs st s R l q=>aF (aey ((R.unL l).2.pushT (n:=0) (R.unL l).1 (l▸q.1) q.2) (GS l q.1)))
theorem RX(h:AA g cx pos d W):bE g cx (.List d pos) (bp W):=λj R w=>
 show wq _ _ (do XO pos;newList (←abG (Zq pos (Yb d cx.env)))) _ _ _ from aU (TL.then_ h j R w λvs xs st s R l q=>aF (Zp ((R.unL l).2.pushL (n:=0) (R.unL l).1 (l▸q.1) q.2) (GS l q.1)))
theorem RY(h:AA g cx pos d W):bE g cx (.List d pos) (gy W):=λj R w=>
 show wq _ _ (do XO pos;newList (←abG (Zq pos (Yb d cx.env)))) _ _ _ from aU (TL.then_ h j R w λvs xs st s R l q=>aF (Zp ((R.unL l).2.pushO (o:=.list vs) (x:=sq "list" xs 0) rfl ⟨xs,0,rfl,l▸q.1,(R.unL l).1⟩ q.2) (GS l q.1)))
theorem wc(h0:0<=k)(d:k.toNat<n):acW k n=some k.toNat:=by
 unfold acW
 have h1:¬(k<0):=Y7.mpr h0
 have j:¬(k≥(n:Int)):=λq=>Xq.mpr (Int.le_toNat h0 |>.mpr q) d
 simp[h1,j]
theorem EE{l:Addr}{xs:List Wn}{n:Nat}{vs:List V}{k:Int}{t:Tok}{P:V->Prop}(c:s.heap.get? l=some (sq "list" xs n))(i:bo g F vs xs)(u:xs.length<=1000000)(w:GI vs k P)
 (q:∀v x,P v->VR g F v x->Qr x s):WJ g.M A (aei (.ref l) (.int k t)) Qr E s:=by
 have z:s.heap.IsList l xs.toArray:=⟨_,c,rfl,_,rfl⟩
 have d:=i.length
 unfold GI at w
 by_cases e:k=-1
 ·rw[if_pos e]at w
  subst e
  obtain⟨v,hx,hp⟩:=aT w
  rw[List.getLast?_eq_getElem?]at hx
  obtain⟨x,e,r⟩:=i.get hx
  have h1:=(Xw.mp hx).1
  have j:0<xs.length:=d▸Wz (WI _) h1
  refine wpAny_getItem_list_neg z dD (by rw[Wu];exact(Oq j).2.2.2) dD (x:=x) ?_ (q _ _ hp r)
  rw[Wu,(Oq j).1,d,X9];exact e
 ·rw[if_neg e]at w
  obtain⟨v,hx,hp⟩:=aT w.2
  obtain⟨x,e,r⟩:=i.get hx
  have:k.toNat<xs.length:=(Xw.mp e).1
  exact wpAny_getItem_list z w.1 (Ve w.1 this (Wh u dD)) (by rw[X9];exact e) (q _ _ hp r)
theorem AP(R:aI g cx tmp vals st s)(I:VR g (cx.F st s) a x)(B:VR g (cx.F st s) b y)(hs:∀o i,acO m false o i=abj [o,i] (aei o i))(w:gn a b st.h λv=>Q v st) :
 wpAny g.M A (abW J m x y) (Up g cx tmp vals Q) E s:=by
 have j:=R.rsd I
 have w:vc (res st.h a) _ _ _ _ _ _ _:=w
 generalize res st.h a=n at j w
 cases n with
 |bytes l=>
  obtain⟨k,rfl,h0,w⟩:=bu w
  obtain⟨c,hc,q⟩:=aT w
  refine aA (g:=g) (F:=cx.F st s) j λt e=>aN B λu p=>?_
  subst e p
  have z:=(Xw.mp hc).1
  have hb:l.length<=16777216:=ZE j
  exact acf (Xn s _ t) aaA.lookup (getItem_gives (Xn s _ t) dD aaA aeZ (aeL _ _) (gives_bytes_getitem _ k t u c (by simp only[Builtin.Bytes.fitsIndex,aay,decide_eq_true_eq];omega)
   (by rw[Wu,wc h0 z];simpa using hc)) (R.toks.up cD q)) (hs _ _)
 |str l=>
  obtain⟨k,rfl,h0,w⟩:=bu w
  obtain⟨c,hc,q⟩:=aT w
  refine aW (g:=g) (F:=cx.F st s) j λt e=>aN B λu p=>?_
  subst e p
  have z:=(Xw.mp hc).1
  have hb:l.length<=16777216:=ZE j
  exact acf (adf s _ t) slot_str_getitem.lookup (getItem_str (c:=c) (by simp;omega) (by show(acW k l.toArray.size).bind _=_;rw[Wu,wc h0 z];simpa using hc) (R.toks.up (v:=.str [c]) (e7 (by show 1<=16777216;decide)) q)) (hs _ _)
 |tup vs=>
  obtain⟨k,rfl,h0,w⟩:=bu w
  obtain⟨v,hc,q⟩:=aT w
  obtain⟨rfl,h,L,D⟩:=(show bQ _ _ _ _ from j)
  refine aN B λu p=>?_
  subst p
  obtain⟨x,e,r⟩:=D.get hc
  have z:=(Xw.mp e).1
  exact item_tupleT ⟨_,h.1,rfl,_,rfl⟩ (aa0 dD h0) (Ve h0 z (Wh L dD)) (wc h0 z) e (R.up r q) (hs _ _)
 |lst vs=>
  obtain⟨k,rfl,w⟩:=bu w
  obtain⟨rfl,h,L,D⟩:=(show bQ _ _ _ _ from j)
  refine aN B λu p=>?_
  subst p
  exact acf ⟨_,h,rfl⟩ adw.lookup (EE h D L w λv x q r=>R.up r q) (hs _ _)
 |ref d=>
  obtain rfl:x=.ref d:=j
  obtain⟨o,e,w⟩:=aT w
  cases o with
  |dict k l=>
   obtain⟨H,Y,w⟩:=aT w
   obtain⟨v,S,q⟩:=aT w
   obtain⟨r,_,hk,U,G⟩:=R.dict e
   rcases hk.at_ H with⟨f,_⟩|⟨v',x',f,Z,hr⟩
   ·rw[S]at f;cases f
   ·rw[S]at f;cases f
    exact acf U.typeIs slot_dict_getitem.lookup (wpAny_getItem_of (DK.is B Y) U.mapOf Z (R.toks.up hr q)) (hs _ _)
  |_=>exact WC w
 |_=>exact WC w
theorem ON(h1:bE g cx j W1)(c:bE g cx d u)(hs:∀o i,acO d false o i=abj [o,i] (aei o i)):bE g cx (.Subscript j d pos) (aQ W1 u):=λz R w=>
 show wq _ _ (do let o ←eval j cx.env;let i ←XU [o] (eval d cx.env);XO pos;abW j d o i) _ _ _ from
 h1.then_ z R w λa x st s R q=>TE.then_ (c.hold [x]) z R q λb y st s R q=>aU (aF (AP R.pop.pop R.tmp.2.1 R.tmp.1 hs q))
end
section
variable{g:Gl}{cx:Cx}{tmp:List V}{vals:List Wn}{st:St}{s:Ws}{A:Xm}{x y:Wn}{a b v:V}{F:FZ}{E:Wn->Ws->Prop}{Qr:Wn->Ws->Prop}{Q:V->St->Prop}{X:St->Prop}
theorem CM(l:List q)(lo d:Option Int):(bY l lo d).length<=l.length:=by
 unfold bY
 rw[Xr,W7]
 exact Wh (YM _ _) (Y6 _ _)
abbrev Uv(l u k:Wn):Obj:={cls:=.type "slice",data:=.fields #[l,u,k]}
abbrev OO(s:Ws)(l u k:Wn):Shared:={s with heap:=s.heap.push (Uv l u k)}
theorem aI.sl(R:aI g cx tmp vals st s)(l u k:Wn):aI g cx tmp vals st (OO s l u k):=R.keeps (tk:=s.toks) λb o e=>Wv _ e
theorem yI(h:VR g F v x)(w:KO v k):∃i,IsPart x i∧k i:=by
 cases v with
 |none=>obtain rfl:x=.none:=h;exact⟨_,.none,w⟩
 |int i=>exact aN h λt e=>⟨_,e▸.int i t,w⟩
 |_=>exact WC w
theorem CN{l:Wn}{lo:Option Int}(h:IsPart l lo):∃lt:Option (Int×Tok),l=partValue lt∧lt.map (·.1)=lo:=by
 cases h with
 |none=>exact⟨none,rfl,rfl⟩
 |int i t=>exact⟨some (i,t),rfl,rfl⟩
set_option tactic.hygienic true in
theorem EF{l u:Wn}{lo hi:Option Int}{value slice:Expr}(R:aI g cx tmp vals st s)(ho:VR g (cx.F st s) a x)(hl:IsPart l lo)(hu:IsPart u hi)(hs:∀o i,acO slice false o i=abj [i,o] (aei o i))(w:RE a lo hi st.h λv=>Q v st) :
 wpAny g.M A (abW value slice x (.ref s.heap.objs.size)) (Up g cx tmp vals Q) E (OO s l u .none):=by
 have RK:=R.sl l u .none
 have ho':Uu g (cx.F st (OO s l u .none)) (OO s l u .none) (res st.h a) x:=RK.rsd (VR.mono (λb o h=>⟨Wv _ h.1,h.2⟩) _ _ ho)
 have w:vc (res st.h a) _ _ _ _ _ _ _:=w
 generalize res st.h a=a' at ho' w
 cases a' with
 |bytes b=>
  refine aA (g:=g) (F:=cx.F st s) ho' λt e=>?_
  subst e
  have hb:b.length<=16777216:=ZE ho'
  refine acf (Xn _ _ t) aaA.lookup (getItem_meets (Xn _ _ _) dD aaA aeZ (aeL _ _) (KBc.meets_slice2 b.toArray t _ hl hu)
   ⟨abz _ _ _ _,Wh (KBc.size_picked_le _ lo hi) (by rw[Wu,W5];exact hb),λt' tk=>?_⟩) (hs _ _)
  rw[show KBy.picked b.toArray lo hi=(bY b lo hi).toArray by rw[KBc.picked_eq,Wu];rfl]
  exact RK.toks.up (v:=.bytes (bY b lo hi)) (cQ (Wh (CM _ _ _) hb)) w
 |str x=>
  refine aW (g:=g) (F:=cx.F st s) ho' λt e=>?_
  subst e
  have hx:x.length<=16777216:=ZE ho'
  obtain⟨a,b,h1,h2,h3,h4,hq⟩:=w
  have hlen:(⟨x.toArray⟩:Str).length=x.length:=Wu ..
  obtain⟨lt,rfl,el⟩:=CN hl
  obtain⟨ut,rfl,eu⟩:=CN hu
  have e2:aaq lo hi 1 (⟨x.toArray⟩:Str).length=aaq (some (a:Int)) (some (b:Int)) 1 (⟨x.toArray⟩:Str).length:=by
   rcases h1 with⟨rfl,rfl⟩|rfl <;> rcases h2 with⟨rfl,rfl⟩|rfl
   ·rw[adE,adF,hlen];rfl
   ·rw(config:={}) [adE];rfl
   ·rw[adF,hlen]
   ·rfl
  have hl3:((x.drop a).take (b-a)).length<=16777216:=Wh (by rw[Xr,W7];exact Wh (YM _ _) (Y6 _ _)) hx
  refine acf (adf _ _ t) slot_str_getitem.lookup (wpAny_getItem_str_slice (l:=lt) (u:=ut) (st:=none) ⟨_,WR _ rfl,rfl,rfl⟩ rfl ?_) (hs _ _)
  unfold sliceMade slicePicked
  simp only[Option.map_none,Option.getD_none,el,eu]
  split
  ·rename_i hh
   have hh':(aaq lo hi 1 (⟨x.toArray⟩:Str).length).length=x.length:=by rw[←hlen];simpa using hh
   rw[e2,StrLaws.strSliceIndices_plain h3 (by rw[hlen];exact h4),Wp,Zc]at hh'
   have hb:=ab6 h4 (hh'▸Y6 b a)
   have ha:=Nat.sub_sub_self h3
   rw[hh',hb,abZ]at ha
   subst ha hb
   rw[show(x.drop 0).take (x.length-0)=x by simp]at hq
   exact RK.up (v:=.str x) (e7 hx) hq
  ·rw[e2,StrLaws.sliced_plain _ h3 (by rw[hlen];exact h4)]
   exact⟨by show((x.drop a).take (b-a)).toArray.size<=_;rw[Wu,W5];exact hl3,RK.toks.up (e7 hl3) hq⟩
 |lst vs=>
  obtain⟨rfl,h,hlen,hv⟩:=(show bQ _ _ _ _ from ho')
  rename_i xs _
  have hlv:=hv.length
  have hc:bo g (cx.F st (OO s l u .none)) (bY vs lo hi) (bY xs lo hi):=by unfold bY;rw[hlv];exact(hv.drop _).take _
  refine acf ⟨_,h,rfl⟩ adw.lookup (afb (s:=OO s l u .none) ⟨_,h,rfl,_,rfl⟩ (abz _ _ _ _) hl hu .none dD ?_ (by rw[Wu,W5];exact Wh hlen dD)) (hs _ _)
  rw[slicePick_plain,show((xs.toArray.toList.drop (lo.elim 0 (abS xs.toArray.size))).take (hi.elim xs.toArray.size (abS xs.toArray.size)-lo.elim 0 (abS xs.toArray.size)))=bY xs lo hi by unfold bY;rw[Wu]]
  exact RK.pushL hc (Wh (CM _ _ _) hlen) w
 |_=>exact WC w
theorem OP:TE g cx (aaW none cx.env) (af .none):=λ_ R w=>ax (R.up gp w)
theorem RZ{value:Expr}{lo hi:Option Expr}(h1:bE g cx value W1)(h2:TE g cx (aaW lo cx.env) W2)(h3:TE g cx (aaW hi cx.env) W3)(hs:∀o i,acO (.Slice lo hi none p) false o i=abj [i,o] (aei o i)) :
 bE g cx (.Subscript value (.Slice lo hi none p) pos) (bb W1 W2 W3):=λoa R w=>
 show wq _ _ (do let o ←eval value cx.env;let i ←XU [o] (eval (.Slice lo hi none p) cx.env);XO pos;abW value (.Slice lo hi none p) o i) _ _ _ from
 h1.then_ oa R w λa x st s R q=>aq (ay (show wq _ _ (do
  let l ←aaW lo cx.env
  let u ←XU [l] (aaW hi cx.env)
  let s ←XU [l,u] (aaW none cx.env)
  newFields "slice" [l,u,s]) _ _ _ from h2.then_ oa R q λlo x1 st s R q=>TE.then_ (h3.hold [x1]) oa R q λhi x2 st s R q=>aq (ay (ax (by
   refine Wy λno=>?_
   obtain⟨i,p1,q⟩:=yI R.tmp.2.1 q
   obtain⟨j,p2,q⟩:=yI R.tmp.1 q
   refine no ?_
   exact aF (YE (aU (aF (EF R.pop.pop.pop R.tmp.2.2.1 p1 p2 hs q)))))))))
theorem R0(h1:bE g cx value W1)(h2:bE g cx k (af (.int (-1))))(hs:∀o i,acO (.Slice none none (some k) p) false o i=abj [o,i] (aei o i)) :
 bE g cx (.Subscript value (.Slice none none (some k) p) pos) (KP W1):=λoa R w=>
 show wq _ _ (do let o ←eval value cx.env;let i ←XU [o] (eval (.Slice none none (some k) p) cx.env);XO pos;abW value (.Slice none none (some k) p) o i) _ _ _ from
 h1.then_ oa R w λa x st s R q=>aq (ay (show wq _ _ (do
  let l ←aaW none cx.env
  let u ←XU [l] (aaW none cx.env)
  let s ←XU [l,u] (aaW (some k) cx.env)
  newFields "slice" [l,u,s]) _ _ _ from dZ ((aq (ay (ax (TE.then_ (W1:=af (.int (-1))) (Q:=λv st'=>v=.int (-1)∧st'=st) (h2.hold [.none,.none]) oa R ⟨rfl,rfl⟩ λv z st' s R2 q'=>(by
   obtain⟨rfl,rfl⟩:=q'
   obtain⟨t,rfl⟩:=(show ∃t,z=.int (-1) t from R2.tmp.1)
   have RK:=R2.pop.sl .none .none (.int (-1) t)
   obtain⟨vs,e,q⟩:=eT q
   have ho:=RK.rsd RK.tmp.1
   rw[e]at ho
   obtain⟨rfl,h,hlen,hv⟩:=(show bQ _ _ _ _ from ho)
   refine aF (YE (aU (aF (acf ⟨_,h,rfl⟩ adw.lookup (afb (s:=OO s .none .none (.int (-1) t)) ⟨_,h,rfl,_,rfl⟩ (abz _ _ _ _) .none .none (.int (-1) t) dD ?_ (by rw[Wu,W5];exact Wh hlen dD)) (hs _ _)))))
   rw[krv_pick]
   exact RK.pop.pushO (o:=.list vs.reverse) rfl ⟨_,0,rfl,by rw[YC];exact hlen,hv.reverse⟩ q))))))))
end
noncomputable def rW(K:Frag)(C:Addr)(name:Str):Bool:=plainGet K C name&&hasDictIn K C&&(match Xo K (.ref C) name with|some a=>noGet K a|none=>false)&&Xo K (.ref C) "__setattr__" == some (some (.builtin "object.__setattr__"))&&plainOver K C&&takerIn K C name==some none
structure Top(g:Gl)(K:Frag):Prop where
 nolim:g.B.NoLimit
 k:K.In g.B
 ns:∃mg mb,g.B.Ns XH mg∧g.B.Ns aaO mb∧∀x:Str,x≠ "__name__" -> mb x=acm x
 tab:∀c ns,g.tab.lookup c=some ns->ns.Nodup∧ns.length<=50∧∀name∈ns,rW K c name=true
 inst:jk g
section
variable{g:Gl}{cx:Cx}{tmp:List V}{vals:List Wn}{st:St}{s:Ws}{A:Xm}{x y z:Wn}{a b v u:V}{F:FZ}{E:Wn->Ws->Prop}{Qr:Wn->Ws->Prop}{Q:V->St->Prop}{X:St->Prop}
variable{W W1 W2 W3:PT}{l r e t:Expr}{pos p:Pos}{es:List Expr}{K:Frag}{P:adR}{name:Str}
theorem oz{a b:Str}(h:a≠b):(a==b)=false:=beq_eq_false_iff_ne.mpr h
theorem KV:∀{ks:List (Str×Tok)} {xs:List Wn},name∉ks.map (·.1)->(om P ks xs).find? (·.key.isStr name)=none:=by
 intro d
 induction d with
 |nil=>
  intro _ _
  exact rfl
 |cons k ks q=>
  intro j
  cases j with
  |nil=>
   intro _
   exact rfl
  |cons x xs=>
   intro h
   rw[WZ,Wo,not_or]at h
   show(match k.1==name with|true=>_|false=>_:Option aaQ)=none
   rw[oz (X6 h.1)];exact q h.2
theorem KW:∀{ks:List (Str×Tok)} {xs:List Wn} {i:Nat},(ks.map (·.1)).Nodup->(ks.map (·.1))[i]? = some name->xs[i]? = some x->∃e,(om P ks xs).find? (·.key.isStr name)=some e∧e.val=x:=by
 intro w1
 induction w1 with
 |nil=>
  intro _ _ _ h _
  cases h
 |cons k ks ih=>
  intro w2
  cases w2 with
  |nil=>
   intro _ _ _ h
   cases h
  |cons y xs=>
   intro i hn h hx
   show ∃e,(match k.1==name with|true=>_|false=>_:Option aaQ)=some e∧e.val=x
   cases i with
   |zero=>
    rw[show k.1=name from W4 h,beq_self_eq_true];exact⟨_,rfl,W4 hx⟩
   |succ i=>
    have hm:name∈ks.map (·.1):=XJ (i:=i) h
    rw[oz (a:=k.1) (b:=name) λe=>(XT.mp hn).1 (show k.1∈_ by rw[e];exact hm)];exact ih (XT.mp hn).2 h hx
theorem GU{hs:Int}{kv:Wn}:∀{ks:List (Str×Tok)} {xs:List Wn} {i:Nat},(ks.map (·.1)).Nodup->(ks.map (·.1))[i]? = some name->ks.length=xs.length->putL name hs kv y (om P ks xs)=om P ks (xs.set i y):=by
 intro w1
 induction w1 with
 |nil=>
  intro _ _ _ h _
  cases h
 |cons k ks ih=>
  intro w2
  cases w2 with
  |nil=>
   intro _ _ _ h
   cases h
  |cons x xs=>
   intro i hn h hl
   show(if(k.1==name)=true then _ else _)=_
   cases i with
   |zero=>rw[if_pos (beq_iff_eq.mpr (show k.1=name from W4 h))];rfl
   |succ i=>
    have hm:name∈ks.map (·.1):=XJ (i:=i) h
    rw[oz (a:=k.1) (b:=name) λe=>(XT.mp hn).1 (show k.1∈_ by rw[e];exact hm),if_neg Xc,ih (XT.mp hn).2 h (XE hl)];rfl
theorem GV{tk:Tok}:∀{ks:List (Str×Tok)} {xs:List Wn},name∉ks.map (·.1)->ks.length=xs.length->putL name (ZJ P name) (.str name tk) y (om P ks xs)=om P (ks++[(name,tk)]) (xs++[y]):=by
 intro d
 induction d with
 |nil=>
  intro i
  cases i with
  |nil=>
   intro _ _
   exact rfl
  |cons m w=>
   intro _ h
   cases h
 |cons k ks c=>
  intro q
  cases q with
  |nil=>
   intro _ h
   cases h
  |cons x xs=>
   intro h j
   rw[WZ,Wo,not_or]at h
   show(if(k.1==name)=true then _ else _)=_
   rw[oz (X6 h.1),if_neg Xc,c h.2 (XE j)];rfl
theorem rX:∀{ks:List (Str×Tok)} {xs:List Wn},List.any (om P ks xs) (·.refKey)=false
 | [],_=>rfl
 |_::_,[]=>rfl
 |_::ks,_::xs=>rX (ks:=ks) (xs:=xs)
theorem yJ:∀{ks:List (Str×Tok)} {xs:List Wn},(om P ks xs).length<=ks.length
 | [],_=>Wr _
 |_::_,[]=>WI _
 |_::ks,_::xs=>Ww (yJ (ks:=ks) (xs:=xs))
theorem handed(h:VR g F v x)(d:jj v):handedIn x=true:=by
 cases v with
 |none=>exact(show x=.none from h)▸rfl
 |bool b=>exact(show x=.bool b from h)▸rfl
 |int i=>exact aN h λt e=>e▸rfl
 |str i=>exact aW h λt e=>e▸rfl
 |bytes i=>exact aA h λt e=>e▸rfl
 |raw _=>exact d.elim
 |ref a=>exact(show x=.ref a from h)▸rfl
 |tup=>exact bQ.casesOn h λe _ _ _=>e▸rfl
 |lst=>exact bQ.casesOn h λe _ _ _=>e▸rfl
 |inst=>exact h.2.casesOn λe _ _ _ _ _=>e▸rfl
theorem aI.fr(R:aI g cx tmp vals st s):∃m,Fr g.B cx.env.locals s.heap m:=R.loc.imp λm h=>⟨h.1,R.base,(R.rsv _ R.ok.own).1⟩
inductive Nn(g:Gl)(F:FZ)(hp:Heap)(x:Wn)(c:Addr)(vs:List V):Prop
 |mk {a d:Addr} {ks:List (Str×Tok)} {xs:List Wn} {n:Nat} (e:x=.ref a) (h:hp.get? a=some (GB c d)) (h':hp.get? d=some (TR (om g.P ks xs) n)) (k:ks.map (·.1)=(g.names c).take vs.length) (l:ks.length=xs.length) (r:bo g F vs xs)
theorem yK{c:Addr}{j:Ix}{i:Nat}(q:∀c i,j.lookup c=some i->(g.names c)[i]? = some name)(h:j.lookup c=some i)(T:Top g K):(g.names c).Nodup∧(g.names c).length<=50∧rW K c name=true∧(g.names c)[i]? = some name:=by
 have d:=q c i h
 unfold Gl.names at *
 generalize e:g.tab.lookup c=k;cases k with
 |none=>rw[e]at d;cases d
 |some ns=>
  have t:=T.tab c ns e
  rw[e]at d
  exact⟨t.1,t.2.1,t.2.2 name (XJ d),d⟩
theorem mr(h:rW K C name=true):plainGet K C name=true∧hasDictIn K C=true∧(∃a,Xo K (.ref C) name=some a∧noGet K a=true)∧Xo K (.ref C) "__setattr__" = some (some (.builtin "object.__setattr__"))∧plainOver K C=true∧takerIn K C name=some none:=by
 unfold rW at h
 simp only[aay,beq_iff_eq]at h
 refine Wy λno=>?_
 obtain⟨⟨⟨⟨⟨h1,i⟩,d⟩,j⟩,c⟩,q⟩:=h
 refine no ?_
 refine⟨h1,i,?_,j,c,q⟩
 split at d
 ·exact⟨_,‹_›,d⟩
 ·cases d
theorem u6(T:Top g K){J:Ix}(j:∀c i,J.lookup c=some i->(g.names c)[i]? = some name)(R:aI g cx tmp vals st s){c:Addr}{vs:List V}(h:Nn g (cx.F st s) s.heap x c vs){P:V->Prop}(w:Oz J c vs P){d:Bool}
 (k:∀v y f,P v->aI g cx tmp vals st f->VR g (cx.F st f) v y->Qr y f):WJ g.M A (getAttr x name d) Qr E s:=by
 obtain⟨rfl,h,Z,D,hl,S⟩:=h
 obtain⟨i,H,w⟩:=aT w
 obtain⟨v,o,G,q⟩:=aT w
 obtain⟨n1,_,L,n⟩:=yK j H T
 obtain⟨o1,o2,⟨_,o3,o4⟩,_⟩:=mr L
 obtain⟨m,F⟩:=R.fr
 obtain⟨y,U,B⟩:=S.get o
 have Y:=(Xw.mp o).1
 obtain⟨e,I,rfl⟩:=KW (P:=g.P) (D▸n1.sublist (List.take_sublist _ _)) (show _=some name by rw[D,ad3 Y];exact n) U
 exact get_own F T.k ⟨h,rfl,rfl,Z⟩ o1 o2 o3 o4 (by unfold getL;rw[I]) (handed B G) (k _ _ _ q R.toks B)
theorem rY(T:Top g K){J:Ix}(j:∀c i,J.lookup c=some i->(g.names c)[i]? = some name)(R:aI g cx tmp vals st s)(ha:VR g (cx.F st s) a x){P:V->Prop}(w:GJ J a st.h P){q:Bool}
 (k:∀v y D,P v->aI g cx tmp vals st D->VR g (cx.F st D) v y->Qr y D):WJ g.M A (getAttr x name q) Qr E s:=by
 cases a with
 |inst c vs=>
  obtain⟨e,h,S,m,B,f⟩:=ha.2
  refine u6 T j R ⟨e,h.1,S.1,?_,B,f⟩ w k
  have h1:(g.names c).length=vs.length:=by rw[←m,Wp,B,f.length]
  rw[m,←h1,aau]
 |ref a=>
  obtain rfl:x=.ref a:=ha
  obtain⟨o,L,w⟩:=aT w
  cases o with
  |inst c d=>
   obtain⟨o,Z,w⟩:=aT w
   cases o with
   |fields H vs=>
    obtain⟨rfl,w⟩:=w
    obtain⟨Y,h1,r1⟩:=(R.known _ _ L).obj
    obtain⟨G,U,ks,xs,n,rfl,m,B,f⟩:=(R.known _ _ Z).obj
    obtain rfl:Y=GB c d:=r1
    exact u6 T j R ⟨rfl,h1,U,m,B,f⟩ w k
   |_=>exact WC w
  |_=>exact WC w
 |_=>exact WC w
theorem OQ(T:Top g K)(h:bE g cx e W)(j:∀c i,m.lookup c=some i->(g.names c)[i]? = some name)(d:ac6 e name cx.env (eval e cx.env)=eval e cx.env):bE g cx (.Attribute e name pos) (aS W m):=λf R w=>by
 show wq _ _ (do
  let o ←ac6 e name cx.env (eval e cx.env)
  standAt pos.atName
  let r ←XU [o] (getAttr o name true)
  letTemporaryGo e o r
  pure r) _ _ _
 rw[d]
 exact h.then_ f R w λv x st s R q=>aU (aq (ay (aF (rY T j R.pop R.tmp.1 q λv y B q k r=>aq (aF (wpAny_letTemporaryGo (ax (k.up r q))))))))
end
def jQ(cx:Cx)(x:Str):Prop:=cx.env.kindOf x=some .local∨(cx.ro=false∧cx.env.kindOf x=some .cell∧∃c,cx.env.cells.lookup x=some c)
section
variable{g:Gl}{cx:Cx}{tmp:List V}{vals:List Wn}{st:St}{s:Ws}{A:Xm}{x y z:Wn}{a b v u:V}{F:FZ}{E:Wn->Ws->Prop}{Qr:Wn->Ws->Prop}{Q:V->St->Prop}{X:St->Prop}
theorem aX{d q:Type}[BEq d][LawfulBEq d]{l:List (d×q)}{x:d}{c:q}(h:l.lookup x=some c):(x,c)∈l:=by
 obtain⟨j,l2,e,_⟩:=aee.mp h
 rw[e];exact WW _ (.head _)
theorem aI.ownc(R:aI g cx tmp vals st s){a:Addr}{loc:List (Option V)}(ha:a∈cx.rv)(hk:∀q∈cx.keep,q.1≠a)(ho:∀q∈cx.outer,q.1≠a)(hs:Xp a s.heap hp)(nx:∃x,hp.get? a=some x∧NF x)
 (cl:∀p∈cx.env.cells,∃v,hp.IsCell p.2 v) (lc:(∀v x,VR g (cx.F st s) v x->VR g (Fz hp st.h cx.rv) v x)->∃m,hp.Ns cx.env.locals m∧∀(i:Nat) x v,cx.names[i]? = some x->loc[i]? = some (some v)->∃val,VR g (Fz hp st.h cx.rv) v val∧KI cx.env m hp x val) :
 aI g cx tmp vals ⟨loc,st.h⟩ { s with heap:=hp,toks:=tk}:=
 have to:∀{b o},b≠a->s.heap.get? b=some o->hp.get? b=some o:=λq e=>(hs.2 _ q).trans e
 have hF:∀b o,cx.F st s b o->Fz hp st.h cx.rv b o:=λb o x=>⟨to (λq=>x.2.2.1 (q▸ha)) x.1,x.2⟩
 {R with
  base:=λb o e=>to (λq=>by rw[q,dJ (R.rsv a ha).1]at e;cases e) (R.base b o e)
  known:=λb o e=>let k:=R.known b o e;⟨k.low,k.nrv,k.obj.imp λ_ x=>⟨to (λq=>k.nrv (q▸ha)) x.1,x.2.mono hF⟩⟩
  rsv:=λb h=>⟨(R.rsv b h).1,(Yt (b=a)).elim (λq=>nx.imp λ_ x=>q▸x.1) λq=>(R.rsv b h).2.imp λ_ x=>to q x⟩
  frs:=λb h=>(Yt (b=a)).elim (λq=>nx.imp λ_ x=>q▸x) λq=>(R.frs b h).imp λ_ x=>⟨to q x.1,x.2⟩
  keep:=λq h=>to (hk q h) (R.keep q h)
  outer:=λq h=>(R.outer q h).imp λ_=>XS λ_=>XS λ_ x=>⟨to (ho q h) x.1,x.2⟩
  cl:=cl
  loc:=lc λv x=>VR.mono hF v x
  wait:=λa o x=>hF a o (R.wait a o x)
  tmp:=R.tmp.mono hF}
theorem KI.keep{env:Env}{m q:Str->Option Wn}{h j:Heap}{x:Str}{d:Wn}(H:KI env m h x d)(i:m x=q x)(hc:∀c v,env.cells.lookup x=some c->h.IsCell c v->j.IsCell c v):KI env q j x d:=by
 cases H with
 |loc k e=>exact .loc k (i▸e)
 |cell k e c=>exact .cell k e (hc _ _ e c)
theorem CP{loc:List (Option V)}{names:List Str}(m:names.Nodup){i j:Nat}{x y:Str}{v u:V}(c:names[i]? = some x)(d:names[j]? = some y)(h:(loc.set i (some v))[j]? = some (some u)):(y=x∧u=v)∨(y≠x∧loc[j]? = some (some u)):=by
 by_cases q:j=i
 ·subst q
  rw[c]at d;cases d
  rw[List.getElem?_set_self']at h
  generalize e:loc[j]? = k;cases k with
  |none=>rw[e]at h;cases h
  |some o=>rw[e]at h;cases h;exact .inl ⟨rfl,rfl⟩
 ·rw[List.getElem?_set_ne (X6 q)]at h
  refine .inr ⟨λe=>q ?_,h⟩
  subst e
  obtain⟨f,w⟩:=Xw.mp c
  obtain⟨B,p⟩:=Xw.mp d
  exact(List.getElem_inj m).mp (p.trans w.symm)
theorem mu{l:List (Str×Addr)}(h:l.Pairwise λx y=>x.2≠y.2){x y:Str}{c d:Addr}(hx:l.lookup x=some c)(o:l.lookup y=some d)(n:x≠y):c≠d:=by
 have B:=aX hx
 have f:=aX o
 intro e
 subst e
 obtain⟨i,m,k⟩:=ZV B
 obtain⟨j,w,p⟩:=ZV f
 rw[adV]at h
 rcases Nat.lt_trichotomy i j with q|q|q
 ·exact h i j m w q (by rw[k,p])
 ·subst q;rw[k]at p;exact n (congrArg Prod.fst p)
 ·exact h j i w m q (by rw[k,p])
theorem gq(R:aI g cx (v::tmp) (x::vals) st s){y:Str}{i:Nat}{Qr:Unit->Ws->Prop}(hi:cx.names[i]? = some y)(hk:jQ cx y)(k:∀s',aI g cx tmp vals ⟨st.loc.set i (some v),st.h⟩ s'->Qr () s'):WJ g.M A (storeName cx.env y x) Qr E s:=by
 obtain⟨m,hn,hl⟩:=R.loc
 have hv:=R.tmp.1
 rcases hk with hk|⟨hro,hk,c,hc⟩
 ·refine wpAny_storeName_local hk hn (λh' hn' hs=>k _ (R.pop.ownc (loc:=st.loc.set i (some v)) (tk:=s.toks+1) R.ok.own (λq h=>(R.ok.keep q h).2.1) (λq h=>(R.ok.outer q h).2) hs ?_ (λp h=>?_) λhF=>⟨_,hn',λj z u hz hu=>?_⟩)) (by rw[R.ok.kind];rfl)
  ·obtain⟨o,es,ep,h1,h2,_⟩:=hn'
   exact⟨o,h1,c7 h2 rfl⟩
  ·exact(R.cl p h).imp λ_=>XS λ_ x=>⟨(hs.2 _ (R.ok.cells p h).2.1).trans x.1,x.2⟩
  ·rcases CP R.ok.names hi hz hu with⟨rfl,rfl⟩|⟨n,hu⟩
   ·exact⟨x,hF _ _ hv,.loc hk (if_pos rfl)⟩
   ·obtain⟨val,r,H⟩:=hl j z u hz hu
    exact⟨val,hF _ _ r,H.keep (if_neg n).symm λc v e=>XS λ_ x=>⟨(hs.2 _ (R.ok.cells (z,c) (aX e)).2.1).trans x.1,x.2⟩⟩
 ·have hm:=aX hc
  obtain⟨v₀,h2⟩:=R.cl _ hm
  refine wpAny_storeName_cell R.ok.kind hk hc h2 λh' hcl hs=>k _ (R.pop.ownc (loc:=st.loc.set i (some v)) (tk:=s.toks) (R.ok.cells _ hm).1 (R.ok.free _ hm hro hk).1 (R.ok.free _ hm hro hk).2 hs ?_ (λp h=>?_) λhF=>⟨m,hn.sameBut hs (R.ok.cells _ hm).2.1.symm,λj z u hz hu=>?_⟩)
  ·obtain⟨o,h1,h2⟩:=hcl
   exact⟨o,h1,c7 h2 rfl⟩
  ·by_cases q:p.2=c
   ·exact⟨_,q▸hcl⟩
   ·exact(R.cl p h).imp λ_=>XS λ_ x=>⟨(hs.2 _ q).trans x.1,x.2⟩
  ·rcases CP R.ok.names hi hz hu with⟨rfl,rfl⟩|⟨n,hu⟩
   ·exact⟨x,hF _ _ hv,.cell (.inl hk) hc hcl⟩
   ·obtain⟨val,r,H⟩:=hl j z u hz hu
    exact⟨val,hF _ _ r,H.keep rfl λd v e=>XS λ_ x=>⟨(hs.2 _ (mu R.ok.apart e hc n)).trans x.1,x.2⟩⟩
theorem KY{c:Pos}{y:Str}(i:Nat)(j:cx.names[i]? = some y)(q:jQ cx y):TT g cx (Zb (.Name y c) cx.env) (aj i):=λ_ R w=>aF (wpAny_assign_Name (gq R j q λp d=>⟨d,w⟩))
def qk(sc:Zk):Env:={scope:=sc,locals:=0,globals:=0,cells:=[]}
theorem dH(h:env.scope=sc)(v:Expr)(t:Option Expr)(l:Nat):Z2 v t l env=Z2 v t l (qk sc):=by subst h;rfl
theorem fm(h:env.scope=sc)(t:List Expr)(v:Expr):ZL t v env=ZL t v (qk sc):=by subst h;rfl
theorem KZ{env:Env}{x:Wn}{t:Wn->Sem Unit}:assignStores env x none [t]=(t x>>=λ_=>pure acr):=rfl
theorem OS{sc:Zk}{T:gH}{to:Expr}(hsc:cx.env.scope=sc)(h:bE g cx e W)(ht:TT g cx (Zb to cx.env) T)(hs:Z2 e (some to) pos.line (qk sc)=pure false)(hw:ZL [to] e (qk sc)=pure none)(he:(aaP [to] cx.env).map (·.2)=[Zb to cx.env]) :
 j3 g cx (.Assign [to] e pos) (aD T W):=λoa R w=>by
 rw[ad9]
 refine aU ?_
 rw[show afc [to] e pos.line cx.env=pure false by show Z2 _ _ _ _=_;rw[dH hsc];exact hs]
 refine dZ (?_)
 rw[if_neg Xc]
 refine h.then_ oa R w λv x st s R q=>?_
 show wq _ _ (do assignStores cx.env x (←ZL [to] e cx.env) ((aaP [to] cx.env).map (·.2))) _ _ _
 rw[fm hsc,hw,he]
 refine dZ (?_)
 rw[KZ]
 exact aq (be (ht oa R q) (λ_ s u=>u.casesOn λR q=>ax (.next R q)) λ_ _ h=>WC h)
inductive u7(cx:Cx):List Str->List Nat->Prop
 |nil:u7 cx [] []
 |cons {x:Str} {i:Nat} {xs:List Str} {is:List Nat} (h:cx.names[i]? = some x) (hk:jQ cx x) (t:u7 cx xs is):u7 cx (x::xs) (i::is)
theorem AQ{xs:List Str}{is:List Nat}{Qr:Unit->Ws->Prop}(N:u7 cx xs is):∀{vs:List V} {d:List Wn} {st:St} {s:Ws},aI g cx (vs++tmp) (d++vals) st s->vs.length=d.length->(∀j,aI g cx tmp vals ⟨vX st.loc is vs,st.h⟩ j->Qr () j)->is.length=vs.length->
 wpAny g.M A (afe (xs.map λn=>bindName cx.env n) d) Qr E s:=by
 induction N with
 |nil=>
  intro vs d st s R l k q
  cases vs with
  |nil=>cases d with
   |nil=>exact Wq (k _ R)
   |cons=>cases l
  |cons=>cases q
 |cons h c t p=>
  intro vs d st s R l k q
  cases vs with
  |nil=>cases q
  |cons v vs=>cases d with
   |nil=>cases l
   |cons y ys=>exact Wl (Xu (wpAny_bindName (gq R h c λj i=>p i (XE l) k (XE q))))
theorem OT{sc:Zk}{n m:Nat}{p1 p2:Pos}{ts:List Expr}{xs:List Str}{is:List Nat}(hsc:cx.env.scope=sc)(h:AA g cx p2 es W)(hw:ZL [.Tuple ts n p1] (.Tuple es m p2) (qk sc)=pure (some xs))(hn:u7 cx xs.reverse is)(hx:xs.length=is.length) :
 j3 g cx (.Assign [.Tuple ts n p1] (.Tuple es m p2) pos) (bZ is W):=λoa R w=>by
 rw[ad9]
 refine aU ?_
 rw[show afc [.Tuple ts n p1] (.Tuple es m p2) pos.line cx.env=pure false from rfl]
 refine dZ (?_)
 rw[if_neg Xc]
 have h':bE g cx (.Tuple es m p2) (c8 W):=Nm h
 refine h'.then_ oa R w λv x st s R q=>?_
 rw[fm hsc,hw]
 refine dZ (?_)
 obtain⟨vs,rfl,hl,q⟩:=vZ q
 obtain @⟨a,xs',_,rfl,h,_,hv⟩:=(show bQ _ _ _ _ from R.tmp.1)
 show wq _ _ (do
  rule "assign.swapped-stores"
  let items ←unpackItems (.ref a) xs.length none
  assignInOrder (xs.reverse.map λn=>bindName cx.env n) items.reverse
  pure acr) _ _ _
 have hlv:=hv.length
 refine aF (c6 (λ_ q=>YD q) ?_)
 rw[show xs.length=xs'.toArray.size by rw[Wu,hlv,hx,hl]]
 refine Wl (afn oa.handled (items:=xs'.toArray) ⟨_,h.1,rfl,_,rfl⟩ λhp he=>?_)
 have R':=R.pop.keeps (tk:=s.toks) λb o e=>he b o (W8 (W6 e)) e
 have hr:bo g (cx.F st { s with heap:=hp}) vs.reverse xs'.reverse:=hv.reverse.mono λb o z=>⟨he b o (W8 (W6 z.1)) z.1,z.2⟩
 exact Wl (AQ hn { R' with tmp:=hr.append R'.tmp} (by rw[YC,YC,hlv]) (λs' R2=>Wq (.next R2 q)) (by rw[YC,hl]))
end
section
variable{s:Ws}{A:Xm}{K:Frag}
theorem p8(hl:s.heap.IsList l items)(hj:j<items.size)
 (hk:k=(j:Int)∨(k=-1∧j=items.size-1)) (hfit:aat k=true)
 (hQ:Q () { s with heap:=s.heap.update l (Xs (·.setIfInBounds j v))}):WJ (YW prog w) A (setItem (.ref l) (.int k t) v) Q E s:=by
 obtain⟨o,ho,hc,ne,hd⟩:=id hl
 have hx:items[j]? = some items[j]:=Array.getElem?_eq_getElem hj
 unfold setItem
 try with_reducible refine Xu ?_
 first|refine Wl (Wq ?_)|skip
 refine Wl (wpAny_sequenceKey hl.typeIs dD (Wl (YV (name:=Wg "__setitem__") hl.typeIs slot_list_setitem
  (Y9 slot_list_setitem hl.typeIs entry_list_setitem ?_ (args_list_setitem _ _ _)))))
 show WJ _ _ (Builtin.List.listSubscript? (.int k t)>>=_) _ _ s
 refine Wl (wpAny_listSubscript_int hfit ?_)
 rcases hk with rfl|⟨rfl,rfl⟩
 ·show WJ _ _ ((seqItemAt l j>>=λr=>pure (r.map (j,·)))>>=_) _ _ s
  refine Wl (Wl (wpAny_seqItemAt ho hd (Wq ?_)))
  rw[hx]
  refine Wl (wpAny_setSeqItemAt ho hd ?_)
  first
   |exact Wl (Wq (Wq ⟨.none,rfl,Wq hQ⟩))
   |exact Wq ⟨.none,rfl,Wq hQ⟩
 ·have hidx:acW (-1) items.size=some (items.size-1):=by
   have n1:=Oq (Wz (WI _) hj)
   simp[acW,n1.2.1,n1.2.2.1,n1.1]
  show WJ _ _ ((Builtin.List.listItems (.ref l)>>=λxs=>pure ((acW (-1) xs.size).bind λi=>xs[i]?.map (i,·)))>>=_) _ _ s
  refine Wl (Wl ?_)
  refine Wl (aaz ho hd (Wq (Wq ?_)))
  rw[hidx]
  simp only[aft,hx,Option.map_some]
  show WJ _ _ (setSeqItemAt l (items.size-1) v>>=_) _ _ s
  refine Wl (wpAny_setSeqItemAt ho hd ?_)
  first
   |exact Wl (Wq (Wq ⟨.none,rfl,Wq hQ⟩))
   |exact Wq ⟨.none,rfl,Wq hQ⟩
theorem EG(X:K.In s.heap)(h1:s.heap.get? x=some { cls:=.ref C,dict:=some dx,data:=.plain})
 (h2:s.heap.get? dx=some (dictOf es n)) (hs:Xo K (.ref C) "__setattr__" = some (some (.builtin "object.__setattr__"))) (hp:plainOver K C=true) (ht:takerIn K C name=some none) (hh:hasDictIn K C=true) (hr:es.any (·.refKey)=false) (hz:es.length<=900)
 (h:∀h',Xp dx s.heap h'->h'.get? dx=some (dictOf (putL name (ZJ w.params name) (.str name (s.toks+1)) v es) (putN name es n))->Q () { s with heap:=h',toks:=s.toks+2}) :
 wpAny (YW prog w) A (setAttr (.ref x) name v) Q E s:=by
 have I:InstAt s.heap x { cls:=.ref C,dict:=some dx,data:=.plain} C (some (dictOf es n)):=⟨h1,rfl,rfl,h2⟩
 refine set_plain X I hs (osa_open (s:={s with toks:=s.toks+1}) X I hp ht λb=>?_)
 refine Wy λno=>?_
 obtain⟨cd,hc,hd'⟩:=any_some hh
 refine no ?_
 have U:(s.heap.update dx (Obj.putName name (ZJ w.params name) (.str name (s.toks+1)) v)).get? dx=some (dictOf (putL name (ZJ w.params name) (.str name (s.toks+1)) v es) (putN name es n)):=by
  rw[Xi _ h2 (by rw[adA];rfl),adA]
 have lenL:∀(l:List aaQ) (k:Wn),(putL name (ZJ w.params name) k v l).length<=l.length+1:=by
  intro l k
  induction l with
  |nil=>simp[putL]
  |cons e r ih=>
   unfold putL
   split
   ·simp
   ·exact Ww ih
 have c:(!es.toArray.any (·.key.isStr name)&&es.toArray.any (·.refKey))=false:=by
  rw[←Array.any_toList,←Array.any_toList]
  rw[hr,aaj]
 refine Az ((Wl (Wl (acK h1 (c6 (λ_ q=>looks_clsIn (M:=YW prog w) X hc _ _ _ _ (λ_ _ e=>e) q) ?_)))))
 rw[hd']
 refine Wq (a:=some dx) (Az ((Wl ?_)))
 unfold nsSet
 refine Wl (Wl (Yx (Wq (Wl (wpAny_mkText (Wl (acK h2 ?_)))))))
 dsimp only
 rw[aRefKeyMayBeTheName_at,c]
 refine wpAny_updatePart h2 ?_
 refine Wl (adQ U (pastItsLine_dict (by rw[Wu,W5];exact Wh (lenL _ _) (Wh (Ww hz) dD))) ?_)
 exact Wq (h _ (Yd ..) U)
end
section
variable{g:Gl}{cx:Cx}{tmp:List V}{vals:List Wn}{st:St}{s:Ws}{A:Xm}{x y z:Wn}{a b v u:V}{F:FZ}{E:Wn->Ws->Prop}{Qr:Unit->Ws->Prop}{Q:V->St->Prop}{X:St->Prop}{Qs:St->Prop}
variable{W W1 W2 W3:PT}{l r e t o i:Expr}{pos p:Pos}{es:List Expr}{K:Frag}{P:adR}{name:Str}{hp:Heap}{tk:Nat}
theorem TE.quiet(h:TE g cx m W)(d:gL cx.stk cx.lvl A)(R:aI g cx tmp vals st s)(w:W Q uZ st):wq g A m (Up g cx tmp vals Q) (λ_ _=>False) s:=be (h d R w) (λ_ _ x=>x) λ_ _ u=>u.casesOn λ_ _ q=>q
theorem tS.any{K:Type}[DecidableEq K](k:K):∀{l:List (K×V)} {r:List (K×Wn)},tS g F l r->l.any (λd=>d.1=k)=r.any (λd=>d.1=k):=by
 intro j
 induction j with
 |nil=>
  intro _ h
  cases h;rfl
 |cons p l c=>
  intro m
  cases m with
  |nil=>
   intros;exact WC ‹_›
  |cons q r=>
   intro h
   rw[Y3,Y3,c h.2.2,h.1]
theorem tS.append{K:Type}{k:K}:∀{l:List (K×V)} {r:List (K×Wn)},tS g F l r->VR g F v x->tS g F (l++[(k,v)]) (r++[(k,x)]):=by
 intro q
 induction q with
 |nil=>
  intro _ h d
  cases h;exact⟨rfl,d,rfl⟩
 |cons f m c=>
  intro j
  cases j with
  |nil=>
   intros;exact WC ‹_›
  |cons w B=>
   intro h d
   exact⟨h.1,h.2.1,c h.2.2 d⟩
theorem tS.mapPut{K:Type}[DecidableEq K]{k:K}:∀{l:List (K×V)} {r:List (K×Wn)},tS g F l r->VR g F v x->tS g F (l.map λd=>if d.1=k then(d.1,v)else d) (r.map λd=>if d.1=k then(d.1,x)else d):=by
 intro m
 induction m with
 |nil=>
  intro _ h j
  cases h;rfl
 |cons p l c=>
  intro w
  cases w with
  |nil=>
   intros;exact WC ‹_›
  |cons q r=>
   intro h j
   show tS g F ((if p.1=k then _ else _)::_) ((if q.1=k then _ else _)::_)
   rw[←h.1]
   by_cases e:p.1=k
   ·rw[if_pos e,if_pos e];exact⟨rfl,j,c h.2.2 j⟩
   ·rw[if_neg e,if_neg e];exact⟨h.1,h.2.1,c h.2.2 j⟩
theorem tS.length{K:Type}:∀{l:List (K×V)} {r:List (K×Wn)},tS g F l r->r.length=l.length:=by
 intro d
 induction d with
 |nil=>
  intro _ h
  cases h;rfl
 |cons m k j=>
  intro q
  cases q with
  |nil=>
   intros;exact WC ‹_›
  |cons c w=>
   intro h
   exact congrArg (· + 1) (j h.2.2)
theorem tS.put{K:Type}[DecidableEq K]{k:K}{l:List (K×V)}{r:List (K×Wn)}(h:tS g F l r)(d:VR g F v x):tS g F (fF l k v) (stored r k x):=by
 unfold fF stored
 rw[h.any k]
 split
 ·exact h.mapPut d
 ·exact h.append d
theorem CQ{K:Type}[DecidableEq K](l:List (K×V))(k:K)(v:V):(fF l k v).length<=l.length+1:=by
 unfold fF;split
 ·rw[Wp];exact XC _
 ·rw[Wk];exact Wr _
theorem AR(R:aI g cx tmp vals st s)(ho:VR g (cx.F st s) a x)(hi:VR g (cx.F st s) b y)(hv:VR g (cx.F st s) v z)(w:Oy a b v Qs st)(k:∀st' s',Qs st'->aI g cx tmp vals st' s'->Qr () s'):WJ g.M A (setItem x y z) Qr E s:=by
 obtain⟨d,rfl,w⟩:=jO w
 obtain rfl:x=.ref d:=ho
 obtain⟨o,e,w⟩:=aT w
 cases o with
 |list vs=>
  obtain⟨i,rfl,w1⟩:=bu w
  refine aN hi λt e'=>?_
  subst e'
  obtain⟨x,hob,xs,n,rfl,hl,hvs⟩:=(R.known _ _ e).obj
  have hlv:=hvs.length
  have il:s.heap.IsList d xs.toArray:=⟨_,hob,rfl,_,rfl⟩
  have bc:∀j:Nat,Qs ⟨st.loc,upd st.h d (some (.list (vs.set j v)))⟩->Qr () { s with heap:=s.heap.update d (Xs (·.setIfInBounds j z))}:=λj q=>
   k _ _ q (R.turn (tk:=s.toks) (o:=.list (vs.set j v)) e (Yd ..) (show _=some (sq "list" (xs.set j z) n) by rw[Xi _ hob rfl];simp[Xs]) ⟨_,_,rfl,by rw[aaK];exact hl,hvs.set hv j⟩)
  by_cases q:i=-1
  ·rw[if_pos q]at w1
   subst q
   have h0:vs.length≠0:=λe=>w1.1 (Zn.mp e)
   exact p8 il (j:=vs.length-1) (by rw[Wu,hlv];exact Nat.sub_lt (Nat.pos_of_ne_zero h0) dD) (.inr ⟨rfl,by rw[Wu,hlv]⟩) dD (bc _ w1.2)
  ·rw[if_neg q]at w1
   have w2:=w1.1
   exact p8 il (j:=i.toNat) (by rw[Wu,hlv];exact(Int.toNat_lt w2.1).mpr w2.2) (.inl (YU w2.1).symm) (by simp[aat];omega) (bc _ w1.2)
 |dict kd l=>
  obtain⟨kk,ek,hl,q⟩:=aT w
  obtain⟨r,_,hk,hD,hne⟩:=R.dict e
  refine wpAny_setItem_pairs (DK.is hi ek) hD (λh' hD' hs=>?_) (by rw[W5,hk.length];omega)
  obtain⟨o',ho',hd'⟩:=aaI.mp hD'
  exact k _ _ q (R.turn (tk:=s.toks+1) (o:=.dict kd (fF l kk v)) e hs ho' ⟨Wh (CQ _ _ _) hl,_,hk.put hv,hd'⟩)
 |_=>exact WC w
theorem K0(h1:bE g cx o W1)(c:bE g cx i W2):TT g cx (Zb (.Subscript o i pos) cx.env) (fW W1 W2):=λd R w=>by
 rw[arm_assign_Subscript]
 refine aq (ay (aV (h1.quiet d R w) λm s u=>u.elim' λa st R q=>aq (ay (aV (c.quiet d R q) λk s u=>u.elim' λb st R q=>?_))))
 exact aU (aF (Wl (Xu (AR R.pop.pop.pop R.tmp.2.1 R.tmp.1 R.tmp.2.2.1 q λst' f q j=>aby ⟨j,q⟩))))
theorem rZ(T:Top g K)(hix:∀c i,ix.lookup c=some i->(g.names c)[i]? = some name)(R:aI g cx tmp vals st s)(ho:VR g (cx.F st s) a x)(hu:VR g (cx.F st s) u y)(w:OA ix a u Qs st)(k:∀st' s',Qs st'->aI g cx tmp vals st' s'->Qr () s') :
 wpAny g.M A (setAttr x name y) Qr E s:=by
 obtain⟨d,rfl,w⟩:=jO w
 obtain rfl:x=.ref d:=ho
 obtain⟨o,e1,w⟩:=aT w
 cases o with
 |inst c dd=>
  obtain⟨o,e2,w⟩:=aT w
  cases o with
  |fields c' vs=>
   obtain⟨rfl,w⟩:=w
   obtain⟨i,ei,hi,q⟩:=aT w
   obtain⟨x1,h1,r1⟩:=(R.known _ _ e1).obj
   obtain⟨x2,h2,ks,xs,n,rfl,hk,hl,hv⟩:=(R.known _ _ e2).obj
   obtain rfl:x1=GB c dd:=r1
   obtain⟨n1,n2,n3,n4⟩:=yK hix ei T
   refine Wy λno=>?_
   obtain⟨_,o2,_,o4,o5,o6⟩:=mr n3
   refine no ?_
   have lv:=hv.length
   have lk:ks.length<=50:=by rw[←Wp (·.1),hk];exact Wh (List.length_take_le' ..) n2
   refine EG (Frag.In.keeps T.k R.base) h1 h2 o4 o5 o6 o2 rX (Wh yJ (Wh lk dD)) λhp hs hd=>k _ _ q (R.turn (tk:=s.toks+2) e2 hs hd ?_)
   unfold putAt
   by_cases q:i<vs.length
   ·rw[if_pos q,GU (hk▸n1.sublist (List.take_sublist _ _)) (show _=some name by rw[hk,ad3 q];exact n4) hl]
    exact⟨_,_,_,rfl,by rw[aaK];exact hk,by rw[aaK];exact hl,hv.set hu i⟩
   ·rw[if_neg q]
    obtain rfl:i=vs.length:=ab6 hi (Xq.mp q)
    rw[GV (λz=>by
     rw[hk]at z
     obtain⟨j,hj,ej⟩:=ZV z
     rw[List.getElem_take]at ej
     obtain⟨hn,en⟩:=Xw.mp n4
     have:=(List.getElem_inj n1).mp (ej.trans en.symm)
     rw[Xr]at hj
     exact acH _ (WK (this▸hj) (ab5 _ _))) hl]
    refine⟨_,_,_,rfl,?_,by rw[Wk,Wk,hl];rfl,hv.append ⟨hu,rfl⟩⟩
    rw[WQ,hk,Wk,show[u].length=1 from rfl,abl,n4];rfl
  |_=>exact WC w
 |_=>exact WC w
theorem K1(T:Top g K)(h:bE g cx o W)(d:∀c i,k.lookup c=some i->(g.names c)[i]? = some name):TT g cx (Zb (.Attribute o name pos) cx.env) (bN W k):=λm R w=>by
 rw[arm_assign_Attribute]
 refine aq (ay (aV (h.quiet m R w) λf s u=>u.elim' λa st R q=>?_))
 exact aU (aF (Wl (Xu (rZ T d R.pop.pop R.tmp.1 R.tmp.2.1 q λst' B q j=>aby ⟨j,q⟩))))
theorem R6(T:Top g K)(h:bE g cx o W)(L:bE g cx e W2)(k:∀c i,D.lookup c=some i->(g.names c)[i]? = some name):j3 g cx (.AugAssign (.Attribute o name d) .Add e pos) (KQ W D W2):=λf R w=>by
 show wq _ _ (do
  standAt pos
  let ov ←eval o cx.env
  let new ←XU [ov] do
   standAt d.atName
   let old ←getAttr ov name true
   let v ←XU [old] (eval e cx.env)
   standAt pos
   operate [old,v] (inplaceOp .Add old v)
  standAt d.atName
  holding [new,ov] (setAttr ov name new)
  release [new,ov] []
  pure acr) (OB g cx _) _ _
 refine aU (h.then_ f R w λv x st s R q=>aq (ay (aU (aq (aF (rY (tmp:=[v]) (vals:=[x]) T k R R.tmp.1 q λu y S q m r=>?_))))))
 refine TE.then_ (L.hold [y]) f (m.push r) q λb z st s R q=>aU (hM (aF ?_))
 obtain⟨i,rfl,B⟩:=bu q
 obtain⟨j,rfl,Y⟩:=bu B
 refine aN R.tmp.2.1 λt J=>aN R.tmp.1 λZ U=>?_
 rw[J,U]
 exact iadd_int (aU (aF (Wl (Xu (rZ T k R.pop.pop.pop.toks R.tmp.2.2.1 cD Y λst' S q m=>Wl (aby (Wq (.next m q))))))))
end
@[irreducible] def bW(g:Gl)(lvl:Nat)(f:Wn)(vs:List V)(Q:V->AH->Prop)(X:AH->Prop)(h:AH):Prop:=
 ∀{cx:Cx} {A:Xm} {s:Ws} {tmp:List V} {vals xs:List Wn} {loc:List (Option V)},lvl<=cx.lvl->gL cx.stk cx.lvl A->aI g cx (vs++tmp) (xs++vals) ⟨loc,h⟩ s->vs.length=xs.length->
  wq g A (call f xs) (Up g cx tmp vals λv st=>st.loc=loc∧Q v st.h) (hJ g cx λst=>st.loc=loc∧X st.h) s
def ak(g:Gl)(n:Nat)(f:Wn)(q:PT):PT:=λQ X st=>q (λvs d=>iF vs λvs=>bW g n f vs (λv h=>Q v ⟨d.loc,h⟩) (λh=>X ⟨d.loc,h⟩) d.h) X st
def Keeps(g:Gl)(f:Wn):Prop:=∃k,(k=Keeper.frame∨k=.machine)∧ad1 g.M g.B (keeperOf f) k
section
variable{g:Gl}{cx:Cx}{tmp:List V}{vals:List Wn}{st:St}{s:Ws}{A:Xm}{x y z:Wn}{a b v u:V}{F:FZ}{E:Wn->Ws->Prop}{Q:V->St->Prop}{X:St->Prop}
theorem bO(i:Keeps g f)(d:(Zq pos (Yb j cx.env)).any (·.1)=false)
 (h:wq g A (abG (Zq pos (Yb j cx.env))) (λvs s=>g.B.StaysIn s.heap∧wq g A (call f (first++vs)) Qv E s) E s):wq g A (aeI pos f first (Zq pos (Yb j cx.env)) []) Qv E s:=by
 obtain⟨k,i,R⟩:=i
 have D:wq g A (evalArgs f true (Zq pos (Yb j cx.env)) []) (λa s=>a.kw=[]∧g.B.StaysIn s.heap∧wq g A (call f (first++a.pos) []) Qv E s) E s:=by
  generalize e:Zq pos (Yb j cx.env)=J;cases J with
  |nil=>
   rw[e]at h
   exact b0 h λvs s o=>dZ ((ay (dZ ((dZ ((ax ⟨rfl,o⟩)))))))
  |cons p r=>
   obtain⟨b,t⟩:=p
   rw[e]at d h
   rw[Y3,Ye]at d
   obtain rfl:b=false:=d.1
   exact b0 h λvs s o=>dZ ((ay (dZ ((aq (ax (ax ⟨rfl,o⟩)))))))
 refine aq (ay (aV D λa s q=>?_))
 obtain⟨w,c,q⟩:=q
 refine aU ?_
 rw[w]
 have tail:∀{t:Sem Wn},wq g A t Qv E s->wq g A (t>>=λr=>XU [r] point>>=λ_=>pure r) Qv E s:=
  λL=>b0 L λr s S=>aq (ay (aF (adX (ax S))))
 simp only[d,List.any_nil,ZD]
 refine aq (m:=keeperOf f) (aF (R _ _ _ _ c ?_))
 rcases i with rfl|rfl
 ·dsimp only
  split
  ·exact tail q
  ·refine tail ?_
   unfold callMarked
   exact KJ q
 ·exact tail q
theorem CR(j:cx.lvl=n)(d:gL cx.stk cx.lvl A)(R:aI g cx (vs++tmp) (xs++vals) st s)(l:vs.length=xs.length)(w:bW g n f vs (λv h=>Q v ⟨st.loc,h⟩) (λh=>X ⟨st.loc,h⟩) st.h):wq g A (call f xs) (Up g cx tmp vals Q) (hJ g cx X) s:=by
 unfold bW at w
 refine be (w (Xz j.symm) d R l) (λ_ _ u=>u.elim' λv st' R q=>⟨R,?_⟩) λ_ _ u=>?_
 ·rw[←q.1]at q;exact q.2
 ·cases u with|mk R f q=>exact⟨R,f,by rw[←q.1]at q;exact q.2⟩
theorem OU{n:Nat}(k:cx.lvl=n){y:Str}{i:Pos}(m:bE g cx (.Name y i) (af (.raw f)))(p:Keeps g f)(h:AA g cx pos c W)(d:(Zq pos (Yb c cx.env)).any (·.1)=false):bE g cx (.Call (.Name y i) c [] pos) (ak g n f W):=λj R w=>
 TE.then_ (Q:=λv st'=>v=.raw f∧ak g n f W _ _ st') m j R ⟨rfl,w⟩ λv x st s R q=>by
  obtain⟨rfl,q⟩:=q
  obtain rfl:x=f:=R.tmp.1
  exact bO p d (aV (h j R.pop q) λxs s u=>u.elim' λvs st R l q=>⟨R.base,CR k j R l q⟩)
end
section
abbrev VP:=V->AH->Prop
abbrev BW:=List V->AH->VP->Prop
def dn(w:BW)(q:PT):PT:=λQ X st=>q (λvs d=>iF vs λvs=>w vs d.h λv h=>Q v ⟨d.loc,h⟩) X st
def two(l:List V)(k:V->V->Prop):Prop:=Yn (motive:=λ_=>Prop) l False λa r=>only r (k a)
def three(l:List V)(k:V->V->V->Prop):Prop:=Yn (motive:=λ_=>Prop) l False λa r=>two r (k a)
def b1(k:V->AH->VP->Prop):BW:=λvs h Q=>only vs λv=>k v h Q
def b2(k:V->V->AH->VP->Prop):BW:=λvs h Q=>two vs λv u=>k v u h Q
def b3(k:V->V->V->AH->VP->Prop):BW:=λvs h Q=>three vs λv u z=>k v u z h Q
def GW(i:Int):Prop:=0<=i∧i<256
def kM(i:Int):List Nat:=(Wg (toString i)).cps.toList
noncomputable section
def yL(vs:List V):Option (List Int):=ae5 (motive:=λ_=>Option (List Int)) (some []) (λv _ r=>r.bind λl=>match v with | .int i=>some (i::l)|_=>none) vs
def OV(vs:List V)(h:AH)(Q:VP):Prop:=Q (.lst vs) h∨∀c,h c=none->Q (.ref c) (upd h c (some (.list vs)))
def c4:V->AH->VP->Prop:=λv h Q=>vc (res h v) (fb:=λb=>Q (.int b.length) h) (fs:=λb=>Q (.int b.length) h) (ft:=λb=>Q (.int b.length) h) (fl:=λb=>Q (.int b.length) h) (fr:=λa=>dS (h a) λo=>oc o (fb:=λb=>Q (.int b.length) h))
def K2:V->AH->VP->Prop:=λv h Q=>Nh v λs=>only s λc=>Q (.int c) h
def K3:V->AH->VP->Prop:=λv h Q=>kL v λi=>(0<=i∧i<1114112)∧Q (.str [i.toNat]) h
def K4:V->AH->VP->Prop:=λv h Q=>vc v (fi:=λi=>Q (.int i) h) (fo:=λb=>Q (.int (if b then 1 else 0)) h)
def EH:V->AH->VP->Prop:=λv h Q=>kL v λi=>i.natAbs.log2<1920∧Q (.str (kM i)) h
def CS:V->AH->VP->Prop:=λv h Q=>vc (res h v) (ft:=λvs=>OV vs h Q) (fl:=λvs=>OV vs h Q)
def wd:V->AH->VP->Prop:=λv h Q=>Rj v λvs=>Q (.tup vs) h
def du:V->AH->VP->Prop:=λv h Q=>vc (res h v) (fl:=λvs=>dS (yL vs) λns=>(∀n∈ns,GW n)∧Q (.bytes (ns.map λn=>n.toNat.toUInt8)) h) (fr:=λa=>dS (h a) λo=>oc o (fb:=λb=>Q (.bytes b) h))
end
def fG(g:Gl)(f:Wn)(w:BW):Prop:=∀{cx A s tmp vals st vs xs Q E},gL cx.stk cx.lvl A->aI g cx tmp vals st s->bo g (cx.F st s) vs xs->w vs st.h (λv h=>Q v ⟨st.loc,h⟩)->wq g A (call f xs) (Up g cx tmp vals Q) E s
abbrev tV(g:Gl)(f:Wn)(k:V->AH->VP->Prop):Prop:=∀{cx:Cx} {A:Xm} {s:Ws} {tmp:List V} {vals:List Wn} {st:St} {v:V} {x:Wn} {Q:V->St->Prop} {E:Wn->Ws->Prop},gL cx.stk cx.lvl A->aI g cx tmp vals st s->VR g (cx.F st s) v x->k v st.h (λv h=>Q v ⟨st.loc,h⟩)->WJ g.M A (call f [x]) (Up g cx tmp vals Q) E s
section
variable{g:Gl}{cx:Cx}{tmp:List V}{vals:List Wn}{st:St}{s:Ws}{A:Xm}{x y z:Wn}{a b v u:V}{F:FZ}{E:Wn->Ws->Prop}{Q:V->St->Prop}{X:St->Prop}
theorem R7{y:Str}{i:Pos}(m:bE g cx (.Name y i) (af (.raw f)))(p:Keeps g f)(k:fG g f w)(h:AA g cx pos c W)(d:(Zq pos (Yb c cx.env)).any (·.1)=false):bE g cx (.Call (.Name y i) c [] pos) (dn w W):=λj R q=>
 TE.then_ (Q:=λv st'=>v=.raw f∧dn w W _ _ st') m j R ⟨rfl,q⟩ λv x st s R q=>by
  obtain⟨rfl,q⟩:=q
  obtain rfl:x=f:=R.tmp.1
  exact bO p d (aV (h j R.pop q) λxs s u=>u.elim' λvs st R l q=>⟨R.base,k j (R.unL l).2 (R.unL l).1 q⟩)
theorem fG.one(h:tV g f k):fG g f (b1 k):=λ{cx A s tmp vals st vs xs Q E} oa R hv w=>by
 obtain⟨v,rfl,q⟩:=c9 w
 cases xs with
 |nil=>exact WC hv
 |cons x r=>
  obtain rfl:r=[]:=aex hv
  exact aF (h oa R (ZE hv) q)
theorem aI.seq{T:String}{vs:List V}{s:Ws}(h:bQ (HG s) T (bo g F vs) x){P:Prop}(k:∀a xs n,x=.ref a->s.heap.get? a=some (sq T xs n)->xs.length<=1000000->xs.length=vs.length->bo g F vs xs->P):P:=h.casesOn λe h l r=>k _ _ _ e h l r.length r
theorem OW{d:Type}{l:List d}(h:l.length<=16777216):(l.toArray.size:Int)<2^63:=by rw[Wu];exact aab (X2.mpr h) dD
theorem CT(h:n<=1000000):n<=16777216:=Wh h dD
theorem OX:tV g (.builtin "ord") K2:=λd R hx w=>by
 obtain⟨i,rfl,w⟩:=hN w
 obtain⟨c,rfl,w⟩:=c9 w
 exact aW hx λt e=>by rw[e];exact P.ord_of_char (c:=c) (R.toks.up cD w)
theorem OY:tV g (.builtin "chr") K3:=λj R hx w=>by
 obtain⟨i,rfl,q,d⟩:=bu w
 exact aN hx λt e=>by rw[e];exact P.chr_of_int (by simp;lia) (R.toks.up (v:=.str [i.toNat]) (e7 (by show 1<=_;decide)) d)
theorem OZ:tV g (.type "int") K4:=λ{cx A s tmp vals st v x Q E} oa R hx w=>by
 cases v with
 |int i=>exact aN hx λt e=>by rw[e];exact call_int_int (R.up cD w)
 |bool b=>obtain rfl:x=.bool b:=hx;exact call_int_bool (R.toks.up cD w)
 |_=>exact WC w
theorem O0:tV g (.type "str") EH:=λj R hx w=>by
 obtain⟨i,rfl,d,q⟩:=bu w
 exact aN hx λt e=>by rw[e];exact P.str_of_int d (R.toks.up (v:=.str (kM i)) (e7 (by unfold kM;rw[Yz];exact int_text_fits d)) q)
theorem u9{a:Addr}{T:String}{xs:List Wn}{n:Nat}(hT:T = "list" ∨ T = "tuple")(R:aI g cx tmp vals st s)(i:s.heap.get? a=some (sq T xs n))(j:bo g (cx.F st s) vs xs)(d:xs.length<=1000000)(w:OV vs st.h λv h=>Q v ⟨st.loc,h⟩) :
 wpAny g.M A (call (.type "list") [.ref a]) (Up g cx tmp vals Q) E s:=
 call_list_seq a hT i rfl rfl (λp c q hc=>w.elim (λw=>R.newL (tk:=s.toks) q (Wr _) hc j d w) λw=>⟨(R.alloc (tk:=s.toks) (o:=.list vs) q (Wr _) hc ⟨xs,_,rfl,d,j⟩).push (v:=.ref s.heap.objs.size) rfl,w _ (R.fresh (Wr _))⟩) (by rw[Wu,W5];exact Wh d dD)
theorem K5:tV g (.type "list") CS:=λ{cx A s tmp vals st v x Q E} oa R hx w=>by
 have d:=R.rsd hx
 have q:vc (res st.h v) _ _ _ _ _ _ _:=w
 generalize res st.h v=c at d q
 cases c with
 |tup b=>exact aI.seq (bQ.imp (λ_ _ h=>h.1) (λ_ h=>h) d) λa xs n e h l i j=>by rw[e];exact u9 (.inr rfl) R h j l q
 |lst b=>exact aI.seq d λa xs n e h l i j=>by rw[e];exact u9 (.inl rfl) R h j l q
 |_=>exact WC q
theorem GX:tV g (.type "tuple") wd:=λ{cx A s tmp vals st v x Q E} oa R hx w=>by
 obtain⟨vs,rfl,w⟩:=vZ w
 have d:=hx
 obtain⟨e,h,l,q⟩:=(show bQ _ _ _ _ from hx)
 rw[e]at d ⊢
 exact call_tuple_same ⟨_,h.1,rfl,_,rfl⟩ (R.up d w)
theorem yM:∀{vs:List V} {xs:List Wn} {ns:List Int},bo g F vs xs->yL vs=some ns->IntsAre xs ns:=by
 intro j
 induction j with
 |nil=>
  intro _ _ h e
  cases h;cases e;exact .nil
 |cons v r k=>
  intro p
  cases p with
  |nil=>
   intros;exact WC ‹_›
  |cons x xs=>
   intro ns h e
   obtain⟨l,c,d⟩:=YO.mp (show(yL r).bind _=some ns from e)
   cases v with
   |int i=>cases d;exact aN h.1 λt q=>by rw[q];exact .cons _ _ (k h.2 c)
   |_=>exact bS d
theorem AS(ns:List Int):byteArr ns=(ns.map λn=>n.toNat.toUInt8).toArray:=by unfold byteArr;simp
end
end
theorem yN(kindOf:Str->Option Zx):∀(binds:List (Str×Wn)) (m:Str->Option Wn) (x:Str),x∉binds.map (·.1)->bindL kindOf binds m x=m x:=by
 intro d
 induction d with
 |nil=>
  intro _ _ _
  exact rfl
 |cons q r j=>
  obtain⟨c,i⟩:=q
  intro m x h
  rw[WZ,Wo,not_or]at h
  rw[j _ x h.2]
  split
  ·exact if_neg h.1
  ·rfl
theorem EI(kindOf:Str->Option Zx):∀(binds:List (Str×Wn)) (m:Str->Option Wn) (x:Str) (v:Wn),(binds.map (·.1)).Nodup->(x,v)∈binds->kindOf x=some .local->bindL kindOf binds m x=some v:=by
 intro i
 induction i with
 |nil=>
  intros;contradiction
 |cons c r p=>
  obtain⟨w,k⟩:=c
  intro m x v q d j
  rw[WZ,XT]at q
  rcases Wo.mp d with e|d
  ·cases e
   rw[yN kindOf r _ _ q.1,if_pos j]
   exact if_pos rfl
  ·exact p _ x v q.2 d j
theorem yO(kindOf:Str->Option Zx):∀(binds:List (Str×Wn)) (m:Str->Option Wn) (x:Str),x∉binds.map (·.1)->bindC kindOf binds m x=m x:=by
 intro d
 induction d with
 |nil=>
  intro _ _ _
  exact rfl
 |cons q r j=>
  obtain⟨c,i⟩:=q
  intro m x h
  rw[WZ,Wo,not_or]at h
  rw[j _ x h.2]
  split
  ·rfl
  ·exact if_neg h.1
theorem EJ(kindOf:Str->Option Zx):∀(binds:List (Str×Wn)) (m:Str->Option Wn) (x:Str) (v:Wn),(binds.map (·.1)).Nodup->(x,v)∈binds->kindOf x≠some .local->bindC kindOf binds m x=some v:=by
 intro i
 induction i with
 |nil=>
  intros;contradiction
 |cons c r p=>
  obtain⟨w,k⟩:=c
  intro m x v q d j
  rw[WZ,XT]at q
  rcases Wo.mp d with e|d
  ·cases e
   rw[yO kindOf r _ _ q.1,if_neg j]
   exact if_pos rfl
  ·exact p _ x v q.2 d j
theorem cellsFrom_some:∀(names:List (Str×Zx)) (n:Nat) (d:List (Str×Addr)) (x:Str),((x,NameKind.cell)∈names∨(d.lookup x).isSome=true)->((acY n names d).lookup x).isSome=true:=by
 intro p
 induction p with
 |nil=>
  intro _ _ _ h
  rcases h with h|h;cases h;exact h
 |cons m r c=>
  obtain⟨i,k⟩:=m
  intro n d x h
  unfold acY
  by_cases j:(k==.cell)=true
  ·rw[if_pos j]
   refine c _ _ x ?_
   by_cases e:x=i
   ·subst e;right;simp
   ·rcases h with h|h
    ·rcases Wo.mp h with q|q
     ·cases q;exact absurd rfl e
     ·exact .inl q
    ·right
     rw[adb]
     have:(x==i)=false:=by simpa using e
     rw[this];exact h
  ·rw[if_neg j]
   refine c _ _ x ?_
   rcases h with h|h
   ·rcases Wo.mp h with q|q
    ·cases q;exact absurd rfl j
    ·exact .inl q
   ·exact .inr h
theorem EK{c j:Type}:∀{l:List c} {m:List j},l.Nodup->((l.zip m).map (·.1)).Nodup:=by
 intro d
 induction d with
 |nil=>
  intro _ _
  simp
 |cons x l k=>
  intro i
  cases i with
  |nil=>
   intro _
   simp
  |cons y m=>
   intro h
   rw[XT]at h
   rw[List.zip_cons_cons,WZ,XT]
   exact⟨λq=>by
    obtain⟨p,hp,rfl⟩:=WN.mp q
    exact h.1 (ab2 hp).1,k h.2⟩
theorem K6{α β:Type}:∀{l:List α} {m:List β} {i:Nat} {x:α} {y:β},l[i]? = some x->m[i]? = some y->(x,y)∈l.zip m:=by
 intro w1
 induction w1 with
 |nil=>
  intro _ _ _ _ h1 _
  simp at h1
 |cons w2 l ih=>
  intro w3
  cases w3 with
  |nil=>
   intro _ _ _ _ h2
   simp at h2
  |cons w4 m=>
   intro w5
   cases w5 with
   |zero=>
    intro _ _ h1 h2
    simp at h1 h2;subst h1 h2;exact .head _
   |succ i=>
    intro _ _ h1 h2
    exact .tail _ (ih (i:=i) (by simpa using h1) (by simpa using h2))
theorem jl:∀(names:List (Str×Zx)) (n:Nat) (d:List (Str×Addr)),(d.map (·.1)).Nodup->(∀p∈d,p.1∉names.map (·.1))->(names.map (·.1)).Nodup->((acY n names d).map (·.1)).Nodup:=by
 intro k
 induction k with
 |nil=>
  intro _ _ h _ _
  exact h
 |cons w r c=>
  obtain⟨m,f⟩:=w
  intro n d h hd i
  rw[WZ,XT]at i
  unfold acY
  have j:∀p∈d,p.1≠m∧p.1∉r.map (·.1):=λp hp=>by
   have:=hd p hp
   rw[WZ,Wo,not_or]at this
   exact this
  split
  ·refine c _ _ ?_ (λp hp=>?_) i.2
   ·rw[WZ,XT]
    exact⟨λq=>by obtain⟨p,hp,e⟩:=WN.mp q;exact(j p hp).1 e,h⟩
   ·rcases Wo.mp hp with rfl|hp
    ·exact i.1
    ·exact(j p hp).2
  ·exact c _ _ h (λp hp=>(j p hp).2) i.2
theorem dB{q i:Type}[BEq q][LawfulBEq q]:∀{l:List (q×i)} {x:q} {c:i},(l.map (·.1)).Nodup->(x,c)∈l->l.lookup x=some c:=by
 intro p
 induction p with
 |nil=>
  intros;contradiction
 |cons w l f=>
  obtain⟨m,o⟩:=w
  intro x c j k
  rw[WZ,XT]at j
  rw[adb]
  rcases Wo.mp k with e|d
  ·cases e;simp
  ·have:(x==m)=false:=by
    rw[beq_eq_false_iff_ne]
    rintro rfl
    exact j.1 (WN.mpr ⟨_,d,rfl⟩)
   rw[this];exact f j.2 d
structure EL(g:Gl)(f:Addr)(fd:aaZ)(body:List Stmt)(params names:List Str)(dvals:List Wn):Prop where
 at_:∃o,g.B.get? f=some o∧o.data=.func fd
 code:g.B.CodeRec fd.code fd.qualname
 body:fd.body=.stmts body
 clo:fd.closure=[]
 glob:fd.globals=XH
 bi:fd.builtins=aaO
 kind:fd.scope.kind=.function
 co:fd.scope.isCoroutine=false
 gen:fd.scope.isGenerator=false
 bind:∀(s:Ws) (vals:List Wn),g.B.StaysIn s.heap->vals.length+dvals.length=params.length->BindsTo s fd ⟨vals,[]⟩ (params.zip (vals++dvals))
 pre:∃r,names=params++r
 nodup:names.Nodup
 uniq:(fd.scope.names.map (·.1)).Nodup
 kinds:∀x∈params,fd.scope.names.lookup x=some .local∨fd.scope.names.lookup x=some .cell
structure c5(cx:Cx)(S:Zk)(names:List Str)(n:Nat)(fn:Bool):Prop where
 kinds:cx.env.scope.names=S.names
 scope:fn=true->cx.env.scope=S
 names:cx.names=names
 lvl:cx.lvl=n
 uniq:(S.names.map (·.1)).Nodup
 cell:fn=true->∀x,S.names.lookup x=some .cell->∃c,cx.env.cells.lookup x=some c
 top:fn=true->∃outer,cx.stk=cx.env::outer
 wr:fn=true->cx.ro=false
noncomputable def O1(hp:Heap)(l:List (Str×Addr)):List (Addr×Obj):=l.map λp=>(p.2,(hp.get? p.2).getD default)
def Sub(h d:AH):Prop:=∀a o,h a=some o->d a=some o
section
variable{g:Gl}{cx:Cx}{tmp:List V}{vals:List Wn}{st:St}{s:Ws}{A:Xm}{x y z:Wn}{a b v u:V}{F:FZ}{E:Wn->Ws->Prop}{Q:V->St->Prop}{X:St->Prop}{hp:Heap}{tk:Nat}
noncomputable def Cx.into(cx:Cx)(env:Env)(m:Str->Option Wn)(hp:Heap)(names:List Str)(n:Nat)(F:FZ):Cx:=
 {env,rv:=env.locals::env.cells.map (·.2)++cx.rv,keep:=O1 hp cx.env.cells++cx.keep,outer:=(cx.env.locals,m)::cx.outer,frs:=env.locals::cx.frs,w:=F,stk:=env::cx.stk,names,lvl:=n,ro:=false}
theorem aI.objs(R:aI g cx tmp vals st s)(h:q∈O1 s.heap cx.env.cells):(∃p∈cx.env.cells,q.1=p.2)∧s.heap.get? q.1=some q.2:=by
 obtain⟨p,hp,rfl⟩:=WN.mp h
 refine Wy λno=>?_
 obtain⟨v,o,e,_⟩:=R.cl p hp
 refine no ?_
 exact⟨⟨p,hp,rfl⟩,by show s.heap.get? p.2=some ((s.heap.get? p.2).getD default);rw[e];rfl⟩
theorem K7(R:aI g cx tmp vals st s){env:Env}{m:Str->Option Wn}{names:List Str}{n:Nat}(D:s.heap.objs.size<=env.locals)(hc:∀p∈env.cells,env.locals<p.2)(c:env.cells.Pairwise λx y=>x.2≠y.2)(o:env.scope.kind=.function)(hg:env.globals=XH)(hb:env.builtins=aaO)
 (d:env.frame=some env.locals) (B:names.Nodup) {hp:Heap}:Rx (cx.into env m s.heap names n F):=
 have old:∀{a},a∈cx.rv->a<env.locals:=λh=>let⟨_,e⟩:=(R.rsv _ h).2;WK (W6 e) D
 have j:∀q∈Mine.Internal.O1 s.heap cx.env.cells++cx.keep,q.1∈cx.rv:=λq h=>(WO.mp h).elim (λh=>let⟨p,h1,e⟩:=(R.objs h).1;e▸(R.ok.cells p h1).1) λh=>(R.ok.keep q h).1
 have f:∀q∈(cx.env.locals,m)::cx.outer,q.1∈cx.rv:=λq h=>(Wo.mp h).elim (λe=>e▸R.ok.own) λh=>(R.ok.outer q h).1
 have fr:∀a∈cx.frs,a∈cx.rv:=R.ok.frs
 {kind:=o,globals:=hg,builtins:=hb,apart:=c,names:=B,head:=⟨_,_,rfl,rfl⟩
  stk:=λe h=>(Wo.mp h).elim (λq=>by rw[q];exact⟨o,_,d,.head _⟩) λh=>let⟨k,L,e,i⟩:=R.ok.stk e h;⟨k,L,e,.tail _ i⟩
  own:=.head _
  frs:=λa h=>(Wo.mp h).elim (λq=>q▸.head _) λh=>WW _ (fr a h)
  cells:=λp h=>⟨Yp _ (.tail _ (WN.mpr ⟨p,h,rfl⟩)),YN (hc p h),λd=>(Wo.mp d).elim (λe=>YN (hc p h) e) λd=>aeS (old (fr _ d)) (hc p h)⟩
  keep:=λq h=>⟨WW _ (j q h),W8 (old (j q h)),λd=>(Wo.mp d).elim (λe=>W8 (old (j q h)) e) λd=>(WO.mp h).elim (λh=>let⟨p,h1,e⟩:=(R.objs h).1;(R.ok.cells p h1).2.2 (e▸d)) λh=>(R.ok.keep q h).2.2 d⟩
  outer:=λq h=>⟨WW _ (f q h),W8 (old (f q h))⟩
  free:=λp h _ _=>⟨λq w e=>aeS (old (j q w)) (e▸hc p h),λq w e=>aeS (old (f q w)) (e▸hc p h)⟩}
theorem CU{dvals:List Wn}{vs:List V}{xs:List Wn}{f:Addr}{fd:aaZ}{body:List Stmt}{params names:List Str}(fo:EL g f fd body params names dvals){F:FZ}(o:bo g F vs xs)(D:vs.length=params.length){k a:Nat}{s S:Ws}{env:Env}(G:env=aeJ fd a f)
 (x:InCallC s env.locals (bindL env.kindOf (params.zip xs) λ_=>none) env.cells (bindC env.kindOf (params.zip xs) λ_=>none) S) {i:Nat} {y:Str} {v:V} (L:names[i]? = some y) (d:(vs.map some++Xb k none)[i]? = some (some v)) :
 ∃j,VR g F v j∧KI env (bindL env.kindOf (params.zip xs) λ_=>none) S.heap y j:=by
 have J:∀y,env.kindOf y=fd.scope.names.lookup y:=by subst G;exact λ_=>rfl
 have I:∀y,fd.scope.names.lookup y=some .cell->∃c,env.cells.lookup y=some c:=by
  subst G
  exact λy L=>Yj.mp (cellsFrom_some _ _ _ _ (.inl (aX L)))
 obtain⟨r,p⟩:=fo.pre
 have R:i<(vs.map some).length:=Nat.lt_of_not_le λq=>by
  rw[ZP q,aef]at d
  split at d <;> cases d
 rw[abh R,YQ]at d
 obtain⟨n,Y,U⟩:=Yv.mp d
 cases U
 obtain⟨j,w,H⟩:=o.get Y
 rw[Wp,D]at R
 have B:params[i]? = some y:=by rwa [p,abh R]at L
 have Z:=K6 B w
 have e:=EK (m:=xs) (show params.Nodup from(List.nodup_append.mp (p▸fo.nodup)).1)
 refine⟨j,H,?_⟩
 rcases fo.kinds y (XJ B)with k|k
 ·exact .loc ((J y).trans k) (EI _ _ _ _ _ e Z ((J y).trans k))
 ·obtain⟨c,hc⟩:=I y k
  have:=x.cell y c hc
  rw[EJ _ _ _ _ _ e Z (by rw[J,k];decide)]at this
  exact .cell (.inl ((J y).trans k)) hc this
theorem GY(fo:EL g f fd body params names dvals)(hd:∀F,bo g F dvs dvals)(hlen:vs.length+dvs.length=params.length)
 (R:aI g cx tmp vals ⟨loc,h⟩ s) (hv:bo g (cx.F ⟨loc,h⟩ s) vs xs) (hmc:s.heap.Ns cx.env.locals mc) (he:env=aeJ fd s.heap.objs.size f)
 (x:InCallC s env.locals (bindL env.kindOf (params.zip (xs++dvals)) λ_=>none) env.cells (bindC env.kindOf (params.zip (xs++dvals)) λ_=>none) { s with heap:=hp,toks:=tk}) :
 aI g (cx.into env mc s.heap names n (cx.F ⟨loc,h⟩ s)) [] [] ⟨(vs++dvs).map some++Xb (names.length-params.length) none,h⟩ { s with heap:=hp,toks:=tk}:=
 have hL:s.heap.objs.size=env.locals:=by rw[he];rfl
 have hk:∀b o,s.heap.get? b=some o->hp.get? b=some o:=x.toInCall.keep
 have hns:hp.Ns env.locals _:=x.toInCall.ns
 have new:∀{a},a∈env.locals::env.cells.map (·.2)->s.heap.objs.size<=a:=λh=>(Wo.mp h).elim (λe=>Xz (hL.trans e.symm)) λh=>let⟨p,hp,e⟩:=WN.mp h;hL▸Xy (e▸x.above p.1 p.2 hp)
 have nn:∀{a o},s.heap.get? a=some o->a∉cx.rv->a∉env.locals::env.cells.map (·.2)++cx.rv:=λe h q=>(WO.mp q).elim (λq=>absurd (W6 e) (Xq.mpr (new q))) h
 have hF:∀a o,cx.F ⟨loc,h⟩ s a o->Fz hp h (env.locals::env.cells.map (·.2)++cx.rv) a o:=λa o z=>⟨hk _ _ z.1,z.2.1,nn z.1 z.2.2.1,z.2.2.2⟩
 have lookC:∀p∈env.cells,env.cells.lookup p.1=some p.2:=by
  subst he
  exact λp hp=>dB (jl fd.scope.names _ [] .nil (λ_ h=>nomatch h) fo.uniq) hp
 have R':=R.keeps (tk:=tk) hk
 have locOb:∃o,hp.get? env.locals=some o∧NF o:=hns.elim λo h=>h.elim λ_ h=>h.elim λ_ h=>⟨o,h.1,c7 h.2.1 rfl⟩
 {ok:=K7 R (Xz hL) (λp h=>x.above p.1 p.2 h) x.apart (he▸fo.kind) (he▸fo.glob) (he▸fo.bi) (by rw[he];rfl) fo.nodup (hp:=hp)
  base:=R'.base,gens:=R'.gens,os:=R'.os
  known:=λa o e=>let k:=R.known a o e;let⟨z,h1,h2⟩:=k.obj;⟨k.low,nn h1 k.nrv,z,hk _ _ h1,h2.mono hF⟩
  rsv:=λa h=>(WO.mp h).elim (λh=>⟨Wh R.size (new h),(Wo.mp h).elim (λe=>e▸locOb.imp λ_ z=>z.1) λh=>let⟨p,hp,e⟩:=WN.mp h;(x.cell p.1 p.2 (lookC p hp)).imp λ_ z=>e▸z.1⟩) (R'.rsv a)
  frs:=λa h=>(Wo.mp h).elim (λe=>e▸locOb) (R'.frs a)
  keep:=λq h=>(WO.mp h).elim (λh=>hk _ _ (R.objs h).2) (R'.keep q)
  outer:=λq h=>(Wo.mp h).elim (λe=>e▸hmc.keeps hk) (R'.outer q)
  cl:=λp h=>⟨_,x.cell p.1 p.2 (lookC p h)⟩
  loc:=⟨_,hns,λi y v hy hv'=>(CU fo (hv.append (hd _)) (by rw[Wk];exact hlen) he x hy hv').imp λval z=>⟨VR.mono hF _ _ z.1,z.2⟩⟩
  wait:=hF
  tmp:=rfl}
theorem va(R:aI g cx tmp vals ⟨loc,h⟩ s)(f:s.heap.Ns cx.env.locals mc∧∀(i:Nat) x v,cx.names[i]? = some x->loc[i]? = some (some v)->∃j,VR g (cx.F ⟨loc,h⟩ s) v j∧KI cx.env mc s.heap x j)
 (d:aI g (cx.into env mc s.heap names n (cx.F ⟨loc,h⟩ s)) us ys st' m) (hs:Sub h1 st'.h):aI g cx (us++tmp) (ys++vals) ⟨loc,h1⟩ m:=
 have d:=d.forget hs
 have out:∀{a},a∉(cx.into env mc s.heap names n (cx.F ⟨loc,h⟩ s)).rv->a∉cx.rv:=λh q=>h (WW _ q)
 have w:∀a o,(cx.into env mc s.heap names n (cx.F ⟨loc,h⟩ s)).F ⟨st'.loc,h1⟩ m a o->cx.F ⟨loc,h1⟩ m a o:=λa o z=>⟨z.1,z.2.1,out z.2.2.1,z.2.2.2⟩
 have B:∀a o,cx.F ⟨loc,h⟩ s a o->cx.F ⟨loc,h1⟩ m a o:=λa o z=>w a o (d.wait a o z)
 have cells:∀p∈cx.env.cells,∀v,s.heap.IsCell p.2 v->m.heap.IsCell p.2 v:=λp h v z=>by
  have:=d.keep _ (Yp _ (WN.mpr ⟨p,h,rfl⟩))
  obtain⟨o,D,J⟩:=z
  exact⟨o,by rw[this];show some ((s.heap.get? p.2).getD default)=_;rw[D];rfl,J⟩
 {ok:=R.ok,base:=d.base,gens:=d.gens,os:=d.os
  known:=λa o e=>let k:=d.known a o e;⟨k.low,out k.nrv,k.obj.imp λ_ z=>⟨z.1,z.2.mono w⟩⟩
  rsv:=λa h=>d.rsv a (WW _ h)
  frs:=λa h=>d.frs a (.tail _ h)
  keep:=λq h=>d.keep q (WW _ h)
  outer:=λq h=>d.outer q (.tail _ h)
  cl:=λp h=>(R.cl p h).imp λv z=>cells p h v z
  loc:=⟨mc,d.outer (cx.env.locals,mc) (.head _),λi y v a b=>(f.2 i y v a b).imp λj z=>⟨VR.mono B _ _ z.1,z.2.keep rfl λc v e q=>cells (y,c) (aX e) v q⟩⟩
  wait:=λa o z=>B a o (R.wait a o z)
  tmp:=(d.tmp.mono w).append (R.tmp.mono B)}
end
section
variable{g:Gl}{cx:Cx}{tmp:List V}{vals:List Wn}{st:St}{s:Ws}{A:Xm}{x y z:Wn}{a b v u:V}{F:FZ}{E:Wn->Ws->Prop}{Q:V->St->Prop}{X:St->Prop}{hp:Heap}{tk:Nat}
def Uw(g:Gl)(cx:Cx)(hp:Heap)(b:Addr):Prop:=b∈cx.frs∨(g.B.get? b=none∧b∉cx.rv∧∃o vs,hp.get? b=some o∧o.data=.fields vs)
theorem aI.slots(R:aI g cx tmp vals st s){hid:List Addr}(hu:∀b o,s.heap.get? b=some o->NF o->∃sl,hp.get? b=some { o with slots:=sl})(hk:∀b o,s.heap.get? b=some o->b∉hid->hp.get? b=some o)(hh:∀b∈hid,Uw g cx s.heap b) :
 aI g cx tmp vals st { s with heap:=hp,toks:=tk}:=
 have kn:∀{a m},s.heap.Ns a m->hp.Ns a m:=λh=>h.elim λo h=>h.elim λes h=>h.elim λep h=>(hu _ o h.1 (c7 h.2.1 rfl)).elim λsl e=>⟨_,es,ep,e,h.2⟩
 have kc:∀{c v},s.heap.IsCell c v->hp.IsCell c v:=λh=>h.elim λo h=>(hu _ o h.1 (c7 h.2 rfl)).elim λsl e=>⟨_,e,h.2⟩
 have nh:∀{b o},s.heap.get? b=some o->NF o->b∉cx.rv->hp.get? b=some o:=λe n r=>hk _ _ e λh=>(hh _ h).elim (λq=>r (R.ok.frs _ q)) λ⟨_,_,o',vs,e',d⟩=>by rw[e]at e';cases e';exact n vs d
 have hF:∀b o,cx.F st s b o->Fz hp st.h cx.rv b o:=λb o z=>⟨nh z.1 z.2.2.2 z.2.2.1,z.2⟩
 {R with
  base:=λb o e=>hk b o (R.base b o e) λh=>(hh _ h).elim (λq=>by rw[dJ (R.rsv b (R.ok.frs _ q)).1]at e;cases e) λq=>by rw[q.1]at e;cases e
  known:=λa o e=>let k:=R.known a o e;⟨k.low,k.nrv,k.obj.imp λ_ z=>⟨nh z.1 z.2.nf k.nrv,z.2.mono hF⟩⟩
  rsv:=λa h=>⟨(R.rsv a h).1,(R.rsv a h).2.elim λo e=>(Yt (a∈hid)).elim (λq=>(hh a q).elim (λq=>(R.frs a q).elim λo h=>(hu a o h.1 h.2).imp' _ λ_ e=>e) λq=>absurd h q.2.1) λq=>⟨o,hk _ _ e q⟩⟩
  frs:=λa h=>(R.frs a h).elim λo h=>(hu a o h.1 h.2).elim λsl e=>⟨_,e,h.2⟩
  keep:=λq h=>hk _ _ (R.keep q h) λz=>(hh _ z).elim (λz=>(R.ok.keep q h).2.2 z) λz=>z.2.1 (R.ok.keep q h).1
  outer:=λq h=>kn (R.outer q h)
  cl:=λp h=>(R.cl p h).imp λ_=>kc
  loc:=R.loc.imp λm z=>⟨kn z.1,λi y v a b=>(z.2 i y v a b).imp λval z=>⟨VR.mono hF _ _ z.1,z.2.keep rfl λ_ _ _=>kc⟩⟩
  wait:=λa o z=>hF a o (R.wait a o z)
  tmp:=R.tmp.mono hF}
theorem we(c:∀a∈frs,∃o,hp.get? a=some o∧∀vs,o.data≠.fields vs):∀{l:List Env},(∀env∈l,Rv frs env)->(∀env∈l,∀L,env.frame=some L->B.get? L=none)->hp.FunFrames B l:=by
 intro i
 induction i with
 |nil=>
  intro _ _
  exact trivial
 |cons env r m=>
  intro q hb
  obtain⟨k,L,e,j⟩:=q env (.head _)
  obtain⟨o,p,hd⟩:=c L j
  exact⟨by rw[k];decide,⟨L,o,e,hb env (.head _) L e,p,hd⟩,m (λe d=>q e (.tail _ d)) (λe d=>hb e (.tail _ d))⟩
set_option tactic.hygienic true in
theorem O2{P:Prop}(R:aI g cx tmp vals st s)(X:rU g cx.env.frame cx.rv s.heap x)(k:∀e j vs c hid,x=.ref e->s.heap.get? e=some j->j.cls=.ref cp->j.data=.fields vs->vs[0]? = some c->g.B.get? e=none->e∉cx.rv->(∀b∈hid,Uw g cx s.heap b)->e∈hid->s.heap.FunFrames (adC s.heap hid) cx.stk->
 (vs[1]? = some .none∨∃fl,s.heap.TracedAtW (adC s.heap hid) e (.ref cp) c fl∧(fl=.none∨∃a,cx.env.frame=some a∧fl=Zf a))->P):P:=by
 obtain⟨rfl,m,hc,hd,h0,h1,hb,w,t⟩:=X
 rename_i e j vs c f
 have fr:∀b,b∈cx.stk.filterMap (·.frame)->b∈cx.frs:=λb hb=>by
  obtain⟨d,D,o⟩:=aa5.mp hb
  obtain⟨_,L,Y,n⟩:=R.ok.stk d D
  rw[o]at Y;cases Y;exact n
 have ff:∀hid:List Addr,(∀b,b∈cx.stk.filterMap (·.frame)->b∈hid)->s.heap.FunFrames (adC s.heap hid) cx.stk:=λhid hs=>
  we R.frs R.ok.stk λd D L H=>abk _ (hs L (aa5.mpr ⟨d,D,H⟩))
 rcases t with h|@⟨T,U,Z,l,h,S,J,ne,i,p,G,I⟩
 ·subst h
  exact k e j vs c (e::cx.stk.filterMap (·.frame)) rfl m hc hd h0 hb w (λb h=>(Wo.mp h).elim (λq=>q▸.inr ⟨hb,w,j,vs,m,hd⟩) λh=>.inl (fr b h)) (.head _) (ff _ λb h=>.tail _ h) (.inl h1)
 ·subst h
  exact k e j vs c (e::T::cx.stk.filterMap (·.frame)) rfl m hc hd h0 hb w (λb h=>(Wo.mp h).elim (λq=>q▸.inr ⟨hb,w,j,vs,m,hd⟩) λh=>(Wo.mp h).elim (λq=>q▸.inr ⟨S,J,U,Z,i,p⟩) λh=>.inl (fr b h)) (.head _)
   (ff _ λb h=>.tail _ (.tail _ h)) (.inr ⟨l,⟨j,vs,T,U,Z,m,⟨hc,h0⟩,hd,h1,abk _ (.tail _ (.head _)),ne,i,p,G⟩,I⟩)
theorem rp(R:aI g cx tmp vals st s){e:Addr}{a0 fl:Wn}{hid:List Addr}{L:Option Addr}(hh:∀b∈hid,Uw g cx s.heap b)(x1:(adC s.heap hid).StaysIn hp)(x2:hp.TracedAtW (adC s.heap hid) e (.ref cp) a0 fl)(x4:∀b o,s.heap.get? b=some o->NF o->∃sl,hp.get? b=some { o with slots:=sl})
 (hbe:g.B.get? e=none) (hne:e∉cx.rv) (hl:fl=.none∨∃a,L=some a∧fl=Zf a):aI g cx tmp vals st { s with heap:=hp}∧mo g L cx.rv hp (.ref e):=by
 have R':aI g cx tmp vals st { s with heap:=hp}:=R.slots (tk:=s.toks) x4 (λb o ho hn=>x1 b o (hideAll_get _ ho hn)) hh
 refine Wy λno=>?_
 obtain⟨oe,vs,T,oT,ts,y1,⟨y2,y3⟩,y4,y5,y6,y7,y8,y9,y10⟩:=x2
 refine no ?_
 have nT:∀{o},s.heap.get? T=some o->T∈hid:=λh=>Wy λq=>by rw[hideAll_get _ h q]at y6;cases y6
 refine⟨R',.mk rfl y1 y2 y4 y3 y5 hbe hne (.mk rfl ?_ (λq=>?_) y7 y8 y9 y10 hl)⟩
 ·generalize q:g.B.get? T=zz;cases zz with
  |none=>rfl
  |some o=>exact(hh T (nT (R.base _ _ q))).elim (λw=>(dJ (R.rsv T (R.ok.frs _ w)).1).symm.trans q |>.symm▸rfl) λw=>w.1.symm.trans q |>.symm▸rfl
 ·exact(R.rsv T q).2.elim λo h=>(hh T (nT h)).elim (λw=>(R'.frs T w).elim λo h=>by
   have:hp.get? T=some o:=h.1
   rw[y8]at this;cases this;exact h.2 ts y9) λw=>w.2.1 q
theorem mo.flight(h:mo g L rv hp x):rU g L rv hp x:=h.imp (λ_ h=>h) λ_ _=>.inr
theorem yP{L:Addr}{outer:List Env}{Qr:Unit->Ws->Prop}(R:aI g cx tmp vals st s)(hf:A.frames=some cx.stk)(hs:cx.stk=cx.env::outer)(he:cx.env.frame=some L)(X:rU g cx.env.frame cx.rv s.heap x)(k:∀s',aI g cx tmp vals st s'->mo g none cx.rv s'.heap x->Qr () s') :
 wpAny g.M A (leaving cx.env x) Qr E s:=O2 R X λe oe vs a0 hid hx hoe hcls hd h0 hbe hne hh hm hF w=>by
 subst hx
 rw[hs]at hF hf
 have bc:∀h',Heap.LeftW (adC s.heap hid) (cx.env::outer) e (.ref cp) a0 s.heap h'->Qr () { s with heap:=h'}:=λh' z=>have q:=rp R hh z.1 z.2.2.1 z.2.2.2 hbe hne (L:=none) (.inl rfl);k _ q.1 q.2
 rcases w with h1|⟨fl,tr,hl⟩
 ·exact wpAny_leaving_firstW hf hF he hoe (λb o q=>acp _ q) (abk _ hm) hd h1 h0 (hcls▸bc)
 ·rcases hl with rfl|⟨l,hl,rfl⟩
  ·exact wpAny_leaving_nextW hf hF he tr (λb o q=>acp _ q) (abk _ hm) bc
  ·rw[he]at hl;cases hl
   exact Wl (wpAny_noteFrame_againW he tr (wpAny_setFlight_noneW (λb o q=>acp _ q) hF tr λh' x1 x2 x3 x4=>have q:=rp R hh x1 x3 (λb o a c=>⟨o.slots,x4 b o a c⟩) hbe hne (L:=none) (.inl rfl);k _ q.1 q.2))
theorem r0{L:Addr}{outer:List Env}{Qr:Unit->Ws->Prop}(R:aI g cx tmp vals st s)(hf:A.frames=some cx.stk)(hs:cx.stk=cx.env::outer)(he:cx.env.frame=some L)(X:rU g cx.env.frame cx.rv s.heap x)(k:∀s',aI g cx tmp vals st s'->mo g cx.env.frame cx.rv s'.heap x->Qr () s') :
 wpAny g.M A (ab8 x cx.env) Qr E s:=O2 R X λe oe vs a0 hid hx hoe hcls hd h0 hbe hne hh hm hF w=>by
 subst hx
 rw[hs]at hF hf
 have bc:∀h',Heap.NotedW (adC s.heap hid) (cx.env::outer) e (.ref cp) a0 (Zf L) s.heap h'->Qr () { s with heap:=h'}:=λh' z=>have q:=rp R hh z.1 z.2.2.1 z.2.2.2 hbe hne (L:=cx.env.frame) (.inr ⟨L,he,rfl⟩);k _ q.1 q.2
 rcases w with h1|⟨fl,tr,hl⟩
 ·unfold ab8
  simp only[he]
  refine Wl (acN hoe hd h1 ?_)
  rw[if_neg dD]
  exact wpAny_entryW hf hF he hoe (λb o q=>acp _ q) (abk _ hm) hd (aa1.mp h1).1 h0 (hcls▸bc)
 ·rcases hl with rfl|⟨l,hl,rfl⟩
  ·exact wpAny_noteFrame_onW hf hF he tr (λb o q=>acp _ q) (abk _ hm) bc
  ·rw[he]at hl;cases hl
   exact wpAny_noteFrame_againW he tr (have q:=rp (hp:=s.heap) R hh (λb o q=>acp _ q) tr (λb o h _=>⟨o.slots,h⟩) hbe hne (L:=cx.env.frame) (.inr ⟨L,he,rfl⟩);k _ q.1 q.2)
set_option tactic.hygienic true in
theorem AU{L:Addr}{Er:Wn->Ws->Prop}(R:aI g cx tmp vals st s)(he:cx.env.frame=some L)(X:mo g cx.env.frame cx.rv s.heap x)(k:∀s',aI g cx tmp vals st s'->mo g cx.env.frame cx.rv s'.heap x->Er x s'):cameBackBy g.M A cx.env Er x s:=by
 obtain⟨rfl,hoe,hcls,hd,h0,h1,hbe,hne,@⟨T,oT,ts,l,rfl,hbT,hnT,hTe,hoT,hdT,h3,hl⟩⟩:=X
 rename_i e oe vs a0
 refine Wl (acN hoe hd h1 ?_)
 rw[if_neg (by simp)]
 refine Wl (acN hoe hd h1 ?_)
 rw[if_pos (by simp)]
 have hsz:=(aa1.mp h3).1
 refine wpAny_setField hoT hdT hsz ?_
 have other:∀b,b≠T->(s.heap.update T (Obj.mapFields (·.setIfInBounds 3 (cx.env.frame.elim aaY λf=>Zf f)))).get? b=s.heap.get? b:=λb hb=>aem _ _ (X6 hb)
 refine k _ (R.slots (tk:=s.toks) (hid:=[T]) (λb o ho hn=>⟨o.slots,(other b λq=>?_).trans ho⟩) (λb o ho hn=>(other b λq=>hn (by rw[q];exact .head _)).trans ho) λb hb=>?_)
  (.mk rfl ((other e (X6 hTe)).trans hoe) hcls hd h0 h1 hbe hne (.mk rfl hbT hnT hTe (Xi _ hoT (acb (abc hdT _))) (abc hdT _) (l:=Zf L) ?_ (.inr ⟨L,he,rfl⟩)))
 ·rw[q,hoT]at ho;cases ho;exact hn ts hdT
 ·rw[WB.mp hb]
  exact .inr ⟨hbT,hnT,oT,ts,hoT,hdT⟩
 ·rw[he];simp[hsz]
end
inductive Fin(Q:V->AH->Prop):V->AH->Prop
 |mk {v:V} {h h1:AH} (s:Sub h1 h) (q:Q v h1):Fin Q v h
 |fr {v:V} {h:AH} (a:Addr) (vs:List V) (e:h a=some (.list vs)) (t:Fin Q (b9 a vs v) (upd h a none)):Fin Q v h
def yQ(X:AH->Prop)(h:AH):Prop:=∃h1,Sub h1 h∧X h1
noncomputable def EM(v:V):V:=V.casesOn (motive_1:=λ_=>V) v .none (λ_=>.none) (λ_=>.none) (λ_=>.none) (λ_=>.none) (λ_=>.none) (λ_=>.none) (λvs=>vs.headD .none) (λ_=>.none) (λ_ _=>.none)
@[irreducible] def iI(g:Gl)(lvl:Nat)(f:Wn)(vs:List V)(Q:V->AH->Prop)(X:AH->Prop)(h:AH):Prop:=
 ∀{cx:Cx} {A:Xm} {s:Ws} {tmp:List V} {vals xs:List Wn} {loc:List (Option V)},lvl<=cx.lvl->gL cx.stk cx.lvl A->aI g cx (vs++tmp) (xs++vals) ⟨loc,h⟩ s->vs.length=xs.length->
  cq g A (.call f ⟨xs,[]⟩) (Ri (Ug (Up g cx tmp vals λv st=>st.loc=loc∧Q v st.h)) (hJ g cx λst=>st.loc=loc∧X st.h)) s
section
variable{g:Gl}{cx:Cx}{tmp:List V}{vals xs:List Wn}{st:St}{s:Ws}{A:Xm}{x y z:Wn}{a b v u:V}{vs:List V}{F F':FZ}{E:Wn->Ws->Prop}{Q:V->AH->Prop}{X:AH->Prop}{hp:Heap}{tk n:Nat}{h:AH}{f:Wn}
theorem iI.call(c:iI g n f vs Q X h):bW g n f vs Q X h:=by
 unfold bW
 unfold iI at c
 exact λl d R q=>jN (c l d R q)
theorem bo.subst'(vs:List V)(k:∀v∈vs,∀x,VR g F v x->VR g F' (b9 c us v) x):∀xs,bo g F vs xs->bo g F' (vW c us vs) xs:=by
 induction vs with
 |nil=>exact λxs h=>h
 |cons v vs q=>
  intro xs h
  cases xs with
  |nil=>exact h
  |cons x xs=>exact⟨k v (.head _) x h.1,q (λu d=>k u (.tail _ d)) xs h.2⟩
theorem VR.subst(j:∀a o,F a o->F' a o)(hc:VR g F' (.lst us) (.ref c))(v:V):∀x,VR g F v x->VR g F' (b9 c us v) x:=
 V.rec (motive_1:=λv=>∀x,VR g F v x->VR g F' (b9 c us v) x) (motive_2:=λvs=>∀v∈vs,∀x,VR g F v x->VR g F' (b9 c us v) x)
  (λ_ h=>h) (λ_ _ h=>h) (λ_ _ h=>h) (λ_ _ h=>h) (λ_ _ h=>h) (λ_ _ h=>h) (λb x h=>by
   show VR g F' (if b=c then V.lst us else V.ref b) x
   by_cases q:b=c
   ·rw[if_pos q];obtain rfl:x=.ref b:=h;rw[q];exact hc
   ·rw[if_neg q];exact h)
  (λvs d _=>bQ.imp j (bo.subst' vs d)) (λvs d _=>bQ.imp j (bo.subst' vs d)) (λ_ vs d _ h=>⟨h.1,uY.imp j (bo.subst' vs d) h.2⟩)
  (λ_ h=>nomatch h) (λv vs h1 i u p=>(Wo.mp p).elim (λe=>e▸h1) (i u)) v
theorem aI.frz(R:aI g cx tmp vals st s)(e:st.h c=some (.list us)):aI g cx tmp vals ⟨st.loc,upd st.h c none⟩ s∧VR g (cx.F ⟨st.loc,upd st.h c none⟩ s) (.lst us) (.ref c)∧∀a o,cx.F st s a o->cx.F ⟨st.loc,upd st.h c none⟩ s a o:=by
 have d:∀a o,cx.F st s a o->cx.F ⟨st.loc,upd st.h c none⟩ s a o:=λa o z=>⟨z.1,(Yt (a=c)).elim (λq=>by rw[q];exact aB _ _ _) λq=>(aE q).trans z.2.1,z.2.2⟩
 have K:=R.known c _ e
 obtain⟨o,p,xs,n,rfl,j,i⟩:=K.obj
 exact⟨R.forget λa o q=>(Yt (a=c)).elim (λz=>by rw[z,aB]at q;cases q) λz=>(aE z).symm.trans q,show bQ _ _ _ _ from .mk rfl ⟨p,aB _ _ _,K.nrv,c7 rfl rfl⟩ j (i.mono d),d⟩
theorem Fin.out(F:Fin Q v h):∀{loc:List (Option V)},aI g cx [v] [x] ⟨loc,h⟩ s->∃d h1,aI g cx [d] [x] ⟨loc,h1⟩ s∧Q d h1:=by
 induction F with
 |mk hs q=>exact λR=>⟨_,_,R.forget hs,q⟩
 |fr a vs e t j=>exact λR=>have z:=R.frz e;j (z.1.pop.push (VR.subst z.2.2 z.2.1 _ _ R.tmp.1))
theorem CV(h:wq g (A.deeper env) (aeE body env) (λf s=>R (.ok (.ret (match f with | .ret v=>v|_=>.none))) s) (λe s=>WJ g.M (A.deeper env) (leaving env e) (λ_ s=>R (.error e) s) (λe s=>R (.error e) s) s) s):cq g A (.func body env) R s:=by
 refine fE (λ_ _=>rfl) ?_
 show wq g (A.deeper env) (do point;match←(aeE body env).onRaise (leaving env)with | .ret v=>ret v|_=>ret .none) _ _ s
 refine aq (aF (adX (aq (cI (be h (λf j d=>?_) λ_ _ q=>aF q)))))
 cases f <;> exact ax d
theorem p9(w:A.depth<recursionLimit)(G:s.heap.get? c=some o)(L:o.data=.func fd)(S:fd.scope.isCoroutine=false)(B:fd.scope.isGenerator=false)(k:fd.body=.stmts body)(J:s.heap.CodeRec fd.code fd.qualname)
 (h:WJ g.M A.in1 (aca fd args) (λbinds i=>WJ g.M A.in1 (aeB fd.scope fd.globals fd.closure binds (fd.qualname++ ".<locals>.") (some c) fd.code none fd.builtins) (λenv j=>j.heap.NoLimit∧cq g A (.func body env) R j) (λe s=>R (.error e) s) i) (λe s=>R (.error e) s) s) :
 cq g A (.call (.ref c) args) R s:=by
 refine fE (λ_ _=>rfl) ?_
 show wq g A.in1 (callAny (.ref c) args) _ _ s
 refine fD (λ_ q=>aaM G q) ?_
 refine Wy λno=>?_
 obtain⟨d,oc,vs,H,hc,Y,U,Z⟩:=J
 refine no ?_
 simp only[L,callFunction,S,B,k,hc]
 rw[hc]at h
 refine aq (m:=field (.ref d) 1) (aF (acN Y U Z (dZ (?_))))
 exact aq (aF (Ym h (λbinds i D=>aq (aF (Ym D (λenv j p=>aq (aF (wpAny_enterFrame p.1 w (ax (Wm rfl (Wm (λ_ _=>rfl) p.2)))))) λ_ _ e=>e))) λ_ _ e=>e))
theorem oA{K:Frag}(T:Top g K){f:Addr}{fd:aaZ}{body:List Stmt}{params names:List Str}{dvals:List Wn}{dvs:List V}{W:PT}(fo:EL g f fd body params names dvals)(hd:∀F,bo g F dvs dvals)(hT:∀cx,c5 cx fd.scope names n true->AL g cx body W)(p:vs.length+dvs.length=params.length)
 (hw:W (λfl st=>Fin Q (EM fl) st.h) (λst=>yQ X st.h) ⟨(vs++dvs).map some++Xb (names.length-params.length) none,h⟩):iI g (n+1) (.ref f) vs Q X h:=by
 unfold iI
 intro cx A s tmp vals xs loc G L R l
 obtain⟨o,ho,D⟩:=fo.at_
 have hv:=(R.unL l).1
 have U:=(R.unL l).2
 have lv:=(hd (cx.F ⟨loc,h⟩ s)).length
 refine p9 (o:=o) (fd:=fd) (Wz (Wh (WA _ _) L.depth) (Wj rfl)) (R.base _ _ ho) D fo.co fo.gen fo.body (fo.code.keeps R.base) ?_
 refine fo.bind s xs R.base (by rw[←l,lv];exact p) _ _ _ _ ?_
 rw[fo.clo]
 have m:∀x∈params.zip (xs++dvals),fd.scope.names.lookup x.1=some .local∨(fd.scope.names.lookup x.1=some .cell∧((acY (s.heap.objs.size+1) fd.scope.names []).lookup x.1).isSome=true):=λx hx=>
  (fo.kinds x.1 (ab2 hx).1).imp id λk=>⟨k,cellsFrom_some _ _ _ _ (.inl (aX k))⟩
 refine aez fo.kind m (λenv he s' x=>?_)
 have j:env=aeJ fd s.heap.objs.size f:=he
 obtain⟨h',t',rfl⟩:=x.toInCall.same
 obtain⟨mc,B⟩:=U.loc
 refine⟨(T.nolim.keeps R.base).keeps x.toInCall.keep,CV ?_⟩
 have I:=GY (n:=n) fo hd p U hv B.1 j x
 have ck:c5 (cx.into env mc s.heap names n (cx.F ⟨loc,h⟩ s)) fd.scope names n true:=⟨by rw[j];rfl,λ_=>by rw[j];rfl,rfl,rfl,fo.uniq,λ_ y H=>by rw[j];exact Yj.mp (cellsFrom_some _ _ _ _ (.inl (aX H))),λ_=>⟨_,rfl⟩,λ_=>rfl⟩
 have J:gL (cx.into env mc s.heap names n (cx.F ⟨loc,h⟩ s)).stk n (A.deeper env):=⟨by show A.frames.map _=_;rw[L.frames];rfl,Rt G dD L.depth,Rt G dD L.units,L.handled⟩
 have i:env.frame=some env.locals:=by rw[j];rfl
 refine be (hT _ ck J I hw) (λfl Z u=>?_) λe Z u=>?_
 ·have bc:∀{v:V} {x:Wn} {st':St},aI g (cx.into env mc s.heap names n (cx.F ⟨loc,h⟩ s)) [v] [x] st' Z->Fin Q v st'.h->Up g cx tmp vals (λv st=>st.loc=loc∧Q v st.h) x Z:=λw q=>by
   obtain⟨v',h1,Y,q'⟩:=Fin.out q (loc:=_) w
   exact⟨va U B Y (λ_ _ e=>e),rfl,q'⟩
  cases u with
  |next w q=>exact bc (w.push (v:=.none) (x:=.none) gp) q
  |ret w q=>exact bc w q
 ·cases u with
  |mk w hf q=>
   obtain⟨h1,S,q⟩:=q
   exact yP (cx:=cx.into env mc s.heap names n (cx.F ⟨loc,h⟩ s)) w J.frames rfl i hf λs3 Y X3=>⟨(va (us:=[]) (ys:=[]) U.drop B Y S),X3.imp (λ_ h=>WW _ h) (λ_ _ t=>.inr (by
    obtain⟨a,b,c,d,e,f,k,l⟩:=t
    exact .mk a b (λq=>c (WW _ q)) d e f k (.inl (l.elim id λ⟨_,z,_⟩=>ns z)))),rfl,q⟩
end
def Cx.addIt(cx:Cx)(I:Addr)(o:Obj)(F:FZ):Cx:={cx with rv:=I::cx.rv,keep:=(I,o)::cx.keep,w:=F}
def eC(d:Int):Nat->Int->List V
 |0,_=>[]
 |n+1,x=>.int x::eC d n (x+d)
def AV(o:Obj):Prop:=∃vs,o.data=.fields vs
structure cR(g:Gl)(cx:Cx)(st:St)(s:Ws)(I:Addr)(o:Obj):Prop where
 big:g.B.objs.size<=I
 unk:st.h I=none
 nrv:I∉cx.rv
 at_:s.heap.get? I=some o
 fld:AV o
inductive gm(g:Gl)(F:FZ)(o:Obj):List V->Prop
 |list {l:Addr} {xs:List Wn} {i n:Nat} {vs:List V} (hc:o.cls=.type "list_iterator") (hd:o.data=.fields #[.ref l,.int i 0]) (hl:F l (sq "list" xs n)) (hv:bo g F vs (xs.drop i)):gm g F o vs
 |tup {l:Addr} {xs:List Wn} {i n:Nat} {vs:List V} (hc:o.cls=.type "tuple_iterator") (hd:o.data=.fields #[.ref l,.int i 0]) (hl:F l (sq "tuple" xs n)) (hv:bo g F vs (xs.drop i)):gm g F o vs
 |bytes {b:List UInt8} {t:Tok} {i:Nat} (hc:o.cls=.type "bytes_iterator") (hd:o.data=.fields #[.bytes b.toArray t,.int i 0]):gm g F o ((b.drop i).map λc=>.int (c.toNat:Nat))
 |str {x:List Nat} {t:Tok} {i:Nat} (hc:o.cls=.type "str_ascii_iterator" ∨ o.cls=.type "str_iterator") (hd:o.data=.fields #[.str ⟨x.toArray⟩ t,.int i 0]):gm g F o ((x.drop i).map λc=>.str [c])
 |range {x step:Int} {n:Nat} (ho:o={cls:=.type "range_iterator",dict:=none,data:=.fields #[Zf x,Zf n,Zf step],slots:=#[]}):gm g F o (eC step n x)
section
variable{g:Gl}{cx:Cx}{tmp:List V}{vals:List Wn}{st:St}{s:Ws}{A:Xm}{x y z:Wn}{a b v u:V}{vs:List V}{F F':FZ}{E:Wn->Ws->Prop}{Q:V->St->Prop}{X:St->Prop}{hp:Heap}{tk n:Nat}{I:Addr}{o o':Obj}
theorem gm.mono(d:∀a o,F a o->F' a o)(h:gm g F o vs):gm g F' o vs:=by
 cases h with
 |list hc hd q j=>exact .list hc hd (d _ _ q) (j.mono d)
 |tup hc hd q j=>exact .tup hc hd (d _ _ q) (j.mono d)
 |bytes hc hd=>exact .bytes hc hd
 |str hc hd=>exact .str hc hd
 |range h=>exact .range h
theorem GZ{b:Addr}(L:cR g cx st s I o){o:Obj}(h:s.heap.get? b=some o)(n:NF o):b≠I:=λe=>L.fld.elim λvs d=>by rw[e,L.at_]at h;cases h;exact n vs d
theorem cR.turn(R:aI g cx tmp vals st s)(L:cR g cx st s I o)(hk:∀b o,b≠I->s.heap.get? b=some o->hp.get? b=some o):aI g cx tmp vals st { s with heap:=hp,toks:=tk}:=
 R.slots (hid:=[I]) (λb o h n=>⟨o.slots,hk b o (GZ L h n) h⟩) (λb o h q=>hk b o (λe=>q (e▸.head _)) h) λb h=>by rw[WB.mp h];exact .inr ⟨dJ L.big,L.nrv,L.fld.elim λvs d=>⟨_,vs,L.at_,d⟩⟩
theorem aI.addIt(R:aI g cx tmp vals st s)(L:cR g cx st s I o):aI g (cx.addIt I o (cx.F st s)) tmp vals st s∧∀a o,cx.F st s a o->Fz s.heap st.h (I::cx.rv) a o:=
 have ne:∀{b},b∈cx.rv->b≠I:=λh e=>L.nrv (e▸h)
 have d:∀a o,cx.F st s a o->Fz s.heap st.h (I::cx.rv) a o:=λa o z=>⟨z.1,z.2.1,λq=>(Wo.mp q).elim (GZ L z.1 z.2.2.2) z.2.2.1,z.2.2.2⟩
 ⟨{ok:={R.ok with
    own:=.tail _ R.ok.own
    frs:=λa h=>.tail _ (R.ok.frs a h)
    cells:=λp h=>⟨.tail _ (R.ok.cells p h).1,(R.ok.cells p h).2⟩
    keep:=λq h=>(Wo.mp h).elim (λe=>by rw[e];exact⟨.head _,(ne R.ok.own).symm,λq=>ne (R.ok.frs _ q) rfl⟩) λh=>⟨.tail _ (R.ok.keep q h).1,(R.ok.keep q h).2⟩
    outer:=λq h=>⟨.tail _ (R.ok.outer q h).1,(R.ok.outer q h).2⟩
    free:=λp h a b=>⟨λq j=>(Wo.mp j).elim (λe=>by rw[e];exact(ne (R.ok.cells p h).1).symm) ((R.ok.free p h a b).1 q),(R.ok.free p h a b).2⟩}
   base:=R.base,gens:=R.gens,os:=R.os
   known:=λa o e=>let k:=R.known a o e;⟨k.low,λq=>(Wo.mp q).elim (λq=>by rw[q,L.unk]at e;cases e) k.nrv,k.obj.imp λ_ z=>⟨z.1,z.2.mono d⟩⟩
   rsv:=λa h=>(Wo.mp h).elim (λe=>e▸⟨L.big,_,L.at_⟩) (R.rsv a)
   frs:=R.frs
   keep:=λq h=>(Wo.mp h).elim (λe=>by rw[e];exact L.at_) (R.keep q)
   outer:=R.outer,cl:=R.cl
   loc:=R.loc.imp λm z=>⟨z.1,λi y v a b=>(z.2 i y v a b).imp λc z=>⟨VR.mono d _ _ z.1,z.2⟩⟩
   wait:=d
   tmp:=R.tmp.mono d},d⟩
theorem aI.dropIt(j:aI g cx [] [] d s₀)(L:cR g cx d s₀ I o)(R:aI g (cx.addIt I o (cx.F d s₀)) tmp vals st s):aI g cx tmp vals st s∧cR g cx st s I o∧∀a o,cx.F d s₀ a o->cx.F st s a o:=
 have out:∀{a},a∉(cx.addIt I o (cx.F d s₀)).rv->a∉cx.rv:=λh q=>h (.tail _ q)
 have c:∀a o',(cx.addIt I o (cx.F d s₀)).F st s a o'->cx.F st s a o':=λa o z=>⟨z.1,z.2.1,out z.2.2.1,z.2.2.2⟩
 have p:∀a o',cx.F d s₀ a o'->cx.F st s a o':=λa o z=>c a o (R.wait a o z)
 ⟨{ok:=j.ok,base:=R.base,gens:=R.gens,os:=R.os
   known:=λa o e=>let k:=R.known a o e;⟨k.low,out k.nrv,k.obj.imp λ_ z=>⟨z.1,z.2.mono c⟩⟩
   rsv:=λa h=>R.rsv a (.tail _ h)
   frs:=R.frs
   keep:=λq h=>R.keep q (.tail _ h)
   outer:=R.outer,cl:=R.cl
   loc:=R.loc.imp λm z=>⟨z.1,λi y v a b=>(z.2 i y v a b).imp λw z=>⟨VR.mono c _ _ z.1,z.2⟩⟩
   wait:=λa o z=>p a o (j.wait a o z)
   tmp:=R.tmp.mono c},⟨L.big,R.rvNone (.head _),L.nrv,R.keep (I,o) (.head _),L.fld⟩,p⟩
end
inductive TV(g:Gl)(cx:Cx)(tmp:List V)(vals:List Wn)(Q:V->St->Prop)(x:Wn)(s:Ws):Prop
 |mk {vs:List V} {I:Addr} {o:Obj} {st:St} (hx:x=.ref I) (R:aI g cx tmp vals st s) (L:cR g cx st s I o) (it:gm g (cx.F st s) o vs) (q:Q (.lst vs) st)
def TI(g:Gl)(cx:Cx)(t:Sem Wn)(W:PT):Prop:=∀{A s tmp vals st Q X},gL cx.stk cx.lvl A->aI g cx tmp vals st s->W Q X st->wq g A t (λx d=>wq g A (adg x) (TV g cx tmp vals Q) (hJ g cx X) d) (hJ g cx X) s
inductive AW(g:Gl)(cx:Cx)(tmp:List V)(vals:List Wn)(st:St)(I:Addr)(v:V)(vs:List V):Option Wn->Ws->Prop
 |mk {x:Wn} {s:Ws} {o:Obj} (R:aI g cx (v::tmp) (x::vals) st s) (L:cR g cx st s I o) (it:gm g (cx.F st s) o vs):AW g cx tmp vals st I v vs (some x) s
inductive G1(g:Gl)(cx:Cx)(tmp:List V)(vals:List Wn)(st:St):Option Wn->Ws->Prop
 |mk {s:Ws} (R:aI g cx tmp vals st s):G1 g cx tmp vals st none s
section
variable{g:Gl}{cx:Cx}{tmp:List V}{vals:List Wn}{st:St}{s:Ws}{A:Xm}{x y z:Wn}{a b v u:V}{vs:List V}{F F':FZ}{E:Wn->Ws->Prop}{Q:V->St->Prop}{X:St->Prop}{hp:Heap}{tk n:Nat}{I:Addr}{o o':Obj}
theorem oB{d:Type}{xs ys:List d}{y:d}{i:Nat}(e:xs.drop i=y::ys):xs.toArray[i]? = some y∧xs.drop (i+1)=ys:=
 ⟨by rw[X9,←Z5,e];rfl,by rw[←adO,e];rfl⟩
theorem oD{d:Type}{xs:List d}{i:Nat}(e:xs.drop i=[]):xs.toArray[i]? = none:=by
 rw[X9,←Z5,e];rfl
theorem bo.drop1{P:Prop}{xs:List Wn}{i:Nat}(h:bo g F (v::vs) (xs.drop i))(k:∀x,xs.toArray[i]? = some x->VR g F v x->bo g F vs (xs.drop (i+1))->P):P:=by
 generalize e:xs.drop i=q;cases q with
 |nil=>rw[e]at h;exact WC h
 |cons y ys=>rw[e]at h;have d:=oB e;exact k y d.1 h.1 (d.2▸h.2)
theorem bo.drop0{xs:List Wn}{i:Nat}(h:bo g F [] (xs.drop i)):xs.toArray[i]? = none:=by
 generalize e:xs.drop i=d;cases d with
 |nil=>exact oD e
 |cons y ys=>rw[e]at h;cases h
theorem vb{P:Prop}{q:Type}{f:q->V}{xs:List q}{i:Nat}(h:v::vs=(xs.drop i).map f)(k:∀c,xs.toArray[i]? = some c->v=f c->vs=(xs.drop (i+1)).map f->P):P:=by
 generalize e:xs.drop i=j;cases j with
 |nil=>rw[e]at h;cases h
 |cons y ys=>rw[e]at h;have d:=oB e;exact k y d.1 (Zr h).1 (d.2▸(Zr h).2)
theorem oE{d:Type}{f:d->V}{xs:List d}{i:Nat}(h:[]=(xs.drop i).map f):xs.toArray[i]? = none:=oD (Zl.mp h.symm)
theorem oF(R:aI g cx tmp vals st s)(L:cR g cx st s I o)(it:gm g (cx.F st s) o (v::vs)):WJ g.M A (aa9 (.ref I)) (AW g cx tmp vals st I v vs) E s:=by
 generalize hvs:v::vs=ws at it
 have hF:∀{h' tk} a o,Xp I s.heap h'->cx.F st s a o->cx.F st { s with heap:=h',toks:=tk} a o:=λa o hs z=>⟨(hs.2 a (GZ L z.1 z.2.2.2)).trans z.1,z.2⟩
 have bc:∀{x h' o' tk},VR g (cx.F st s) v x->Xp I s.heap h'->h'.get? I=some o'->AV o'->gm g (cx.F st s) o' vs->AW g cx tmp vals st I v vs (some x) { s with heap:=h',toks:=tk}:=λhv hs ho hf hi=>
  .mk ((L.turn (R.push hv) λb o n e=>(hs.2 b n).trans e)) ⟨L.big,L.unk,L.nrv,ho,hf⟩ (hi.mono λa o=>hF a o hs)
 cases it with
 |list hc hd hl hv=>exact(hvs▸hv:bo g _ (v::vs) _).drop1 λx hx h1 h2=>wpAny_pyNext_list_item ⟨_,L.at_,hc,hd⟩ ⟨_,hl.1,rfl,_,rfl⟩ hx λh' hi hs=>hi.elim λo' y=>bc h1 hs y.1 ⟨_,y.2.2⟩ (.list y.2.1 y.2.2 hl h2)
 |tup hc hd hl hv=>exact(hvs▸hv:bo g _ (v::vs) _).drop1 λx hx h1 h2=>wpAny_pyNext_tuple_item ⟨_,L.at_,hc,hd⟩ ⟨_,hl.1,rfl,_,rfl⟩ hx λh' hi hs=>hi.elim λo' y=>bc h1 hs y.1 ⟨_,y.2.2⟩ (.tup y.2.1 y.2.2 hl h2)
 |bytes hc hd=>exact vb hvs λc hx h1 h2=>KBw.next_item ⟨_,L.at_,hc,hd⟩ hx λh' hi hs=>hi.elim λo' y=>bc (h1▸cD) hs y.1 ⟨_,y.2.2⟩ (h2▸.bytes y.2.1 y.2.2)
 |str hc hd=>exact vb hvs λc hx h1 h2=>Or.elim hc (λhc=>wpAny_pyNext_ascii_item ⟨_,L.at_,hc,hd⟩ hx λh' hi hs=>hi.elim λo' y=>bc (h1▸e7 (Wj rfl)) hs y.1 ⟨_,y.2.2⟩ (h2▸.str (.inl y.2.1) y.2.2)) λhc=>wpAny_pyNext_wide_item ⟨_,L.at_,hc,hd⟩ hx λh' hi hs=>hi.elim λo' y=>bc (h1▸e7 (Wj rfl)) hs y.1 ⟨_,y.2.2⟩ (h2▸.str (.inr y.2.1) y.2.2)
 |@range x step n ho=>
  subst ho
  cases n with
  |zero=>cases hvs
  |succ n=>
   obtain⟨rfl,rfl⟩:=Zr hvs
   refine wpAny_pyNext_range_item L.at_ (Int.ofNat_succ_pos n) λh' hi hs=>bc cD hs hi ⟨_,rfl⟩ (.range ?_)
   rw[adl,aac]
theorem r4(R:aI g cx tmp vals st s)(hh:A.handled=none)(L:cR g cx st s I o)(it:gm g (cx.F st s) o []):WJ g.M A (aa9 (.ref I)) (G1 g cx tmp vals st) E s:=by
 generalize hvs:([]:List V)=ws at it
 have k:∀h',acg I s.heap h'->G1 g cx tmp vals st none { s with heap:=h'}:=λh' he=>.mk (L.turn (tk:=s.toks) R λb o n e=>he b o n e)
 cases it with
 |list hc hd hl hv=>exact wpAny_pyNext_list_end hh ⟨_,L.at_,hc,hd⟩ ⟨_,hl.1,rfl,_,rfl⟩ (hvs▸hv:bo g _ [] _).drop0 k
 |tup hc hd hl hv=>exact wpAny_pyNext_tuple_end hh ⟨_,L.at_,hc,hd⟩ ⟨_,hl.1,rfl,_,rfl⟩ (hvs▸hv:bo g _ [] _).drop0 k
 |bytes hc hd=>exact KBw.next_end hh ⟨_,L.at_,hc,hd⟩ (oE hvs) k
 |str hc hd=>exact hc.elim (λhc=>wpAny_pyNext_ascii_end hh ⟨_,L.at_,hc,hd⟩ (oE hvs) k) λhc=>wpAny_pyNext_wide_end hh ⟨_,L.at_,hc,hd⟩ (oE hvs) k
 |@range x step n ho=>
  subst ho
  cases n with
  |zero=>exact wpAny_pyNext_range_end hh L.at_ (aaH 0) k
  |succ n=>cases hvs
theorem aI.frSt(R:aI g cx tmp vals st s)(e:st.h c=some (.list us)):aI g cx tmp vals (frSt c us st) s∧VR g (cx.F (frSt c us st) s) (.lst us) (.ref c):=
 have f:=R.frz e
 ⟨{f.1 with loc:=R.loc.imp λm z=>⟨z.1,λi y v a b=>by
    have b:(st.loc.map (Yw (b9 c us)))[i]? = some (some v):=b
    rw[YQ]at b
    obtain⟨w,b',hw⟩:=Yv.mp b
    obtain⟨u,rfl,rfl⟩:=Yv.mp hw
    exact(z.2 i y u a b').imp λval z=>⟨VR.subst f.2.2 f.2.1 _ _ z.1,z.2⟩⟩},f.2.1⟩
theorem bQ.elim'{P:Prop}{T:String}{R:List Wn->Prop}(h:bQ F T R x)(k:∀a xs n,x=.ref a->F a (sq T xs n)->xs.length<=1000000->R xs->P):P:=h.casesOn λe h l r=>k _ _ _ e h l r
theorem aI.newIt(R:aI g cx tmp vals st s)(hf:AV o)(it:gm g (cx.F st s) o vs)(q:Q (.lst vs) st):TV g cx tmp vals Q (.ref s.heap.objs.size) { s with heap:=s.heap.push o,toks:=tk}:=
 .mk rfl (R.keeps λb o e=>Wv _ e) ⟨R.size,R.fresh (Wr _),R.notRv (Wr _),WR _ (hf.elim λ_ d=>acb d),hf⟩
  (it.mono λa o z=>⟨Wv _ z.1,z.2⟩) q
set_option tactic.hygienic true in
theorem Np{e:Expr}{W:PT}(h:bE g cx e W):TI g cx (eval e cx.env) (a7 W):=λoa R w=>aV (h oa R w) λx s u=>u.elim' λv st R q=>aF (by
 have hv:=R.tmp.1
 cases v <;> first|exact WC q|skip
 case str c=>
  obtain⟨l,t,rfl⟩:=hv
  generalize ha:((⟨c.toArray⟩:Str).cps.all (· < 128))=zz;cases zz with
  |true=>exact wpAny_pyIter_ascii ha (R.pop.newIt ⟨_,rfl⟩ (.str (i:=0) (.inl rfl) rfl) q)
  |false=>exact wpAny_pyIter_wide ha (R.pop.newIt ⟨_,rfl⟩ (.str (i:=0) (.inr rfl) rfl) q)
 case bytes c=>
  obtain⟨l,t,rfl⟩:=hv
  exact KBw.pyIter_bytes (R.pop.newIt ⟨_,rfl⟩ (.bytes (i:=0) rfl rfl) q)
 case ref c=>
  obtain rfl:x=.ref c:=hv
  obtain⟨o,e,q⟩:=aT q
  cases o <;> first|exact WC q|skip
  have f:=R.pop.frSt e
  exact bQ.elim' f.2 λa xs n hx hF hl hr=>by
   cases hx
   exact adv (items:=xs.toArray) ⟨_,hF.1,rfl,_,rfl⟩ (f.1.newIt (tk:=s.toks) ⟨_,rfl⟩ (.list (i:=0) rfl rfl hF hr) q)
 case tup c=>
  exact bQ.elim' hv λa xs n hx hF hl hr=>by
   cases hx
   exact wpAny_pyIter_tuple (items:=xs.toArray) ⟨_,hF.1,rfl,_,rfl⟩ (R.pop.newIt (tk:=s.toks) ⟨_,rfl⟩ (.tup (i:=0) rfl rfl hF hr) q)
 case lst c=>
  exact bQ.elim' hv λa xs n hx hF hl hr=>by
   cases hx
   exact adv (items:=xs.toArray) ⟨_,hF.1,rfl,_,rfl⟩ (R.pop.newIt (tk:=s.toks) ⟨_,rfl⟩ (.list (i:=0) rfl rfl hF hr) q))
end
inductive R8(g:Gl)(cx:Cx)(W:List V->St->Prop)(I:Addr)(n:Nat)(s:Ws):Prop
 |mk {vs:List V} {st:St} {o:Obj} (e:vs.length=n) (R:aI g cx [] [] st s) (L:cR g cx st s I o) (it:gm g (cx.F st s) o vs) (q:W vs st)
section
theorem Trace.less(z:∀a,a∈y->a∈rv)(h:Trace g L rv hp e f):Trace g L y hp e f:=h.imp id λ⟨a,b,c,d,e,f,i,j⟩=>⟨a,b,λq=>c (z _ q),d,e,f,i,j⟩
theorem hJ.dropIt(y:aI g cx [] [] d s₀)(L:cR g cx d s₀ I o)(u:hJ g (cx.addIt I o (cx.F d s₀)) X x s):hJ g cx X x s:=match u with
 | .mk R f q=>.mk (y.dropIt L R).1 (gM.imp f (λ_ h=>.tail _ h) λe f=>Trace.less λ_ h=>.tail _ h) q
theorem R9(i:gL cx.stk cx.lvl A)(hs:cx.stk=cx.env::outer)(u:hJ g cx X x s):wq g A (do ab8 x cx.env;acu x) (λ_ y=>cameBackBy g.M A cx.env (hJ g cx X) x y) E s:=match u with
 | .mk R f q=>(R.ok.stk cx.env (hs▸.head _)).2.elim λL h=>aq (aF (r0 R i.frames hs h.1 f λy j n=>aF (wpAny_theTreesLotGoes (AU j h.1 n λz d n=>.mk d n.flight q))))
theorem gm.plain(d:gm g F o vs):∃n vs,o.cls=.type n∧o.data=.fields vs∧["enumerate", "zip", "dict_itemiterator", "dict_reverseitemiterator", "odict_iterator", "itertools.zip_longest", "itertools.pairwise"].contains n=false:=by
 cases d with
 |list hc hd=>exact⟨_,_,hc,hd,dD⟩
 |tup hc hd=>exact⟨_,_,hc,hd,dD⟩
 |bytes hc hd=>exact⟨_,_,hc,hd,dD⟩
 |str hc hd=>exact hc.elim (λhc=>⟨_,_,hc,hd,dD⟩) λhc=>⟨_,_,hc,hd,dD⟩
 |range q=>subst q;exact⟨_,_,rfl,rfl,dD⟩
theorem oG{Q:Unit->Ws->Prop}(u:s.heap.get? I=some o)(y:gm g F o vs)(h:Q () s):WJ g.M A (ad8 d (.ref I) x) Q E s:=by
 have q:∀a,WJ g.M A (do
  let o ←load I
  match o.cls,o.data with
  | .type n,.fields vs=>
   if["enumerate", "zip", "dict_itemiterator", "dict_reverseitemiterator", "odict_iterator", "itertools.zip_longest", "itertools.pairwise"].contains n&&vs[0]?==some (Zf a)then
    rule "for.unpacks-the-owned-tuple"
    updateField I 0 .none
  |_,_=>pure ():Sem Unit) Q E s:=λa=>Wl (aaM u (by
  refine Wy λno=>?_
  obtain⟨n,vs,j,i,z⟩:=y.plain
  refine no ?_
  rw[j,i]
  show WJ _ _ (if(_&&_)=true then _ else _) _ _ _
  rw[z,Bool.false_and]
  exact Wq h))
 cases d <;> first|exact Wq h|(cases x <;> first|exact q _|exact Wq h)
theorem wg(h:R (.ok .next) s):cq g A (.block [] env) R s:=
 fE (λ_ _=>rfl) (show wq _ A (do return PySem.Fin.done (←(aeE [] env).onRaise (λx=>do ab8 x env;acu x))) _ _ s from aq (cI (ax (ax h))))
set_option tactic.hygienic true in
theorem Sa(htop:cx.stk=cx.env::outer)(hi:TI g cx (eval iter cx.env) Wi)(ht:∀I o F,TT g (cx.addIt I o F) (Zb target cx.env) Wt)(hb:∀I o F,AL g (cx.addIt I o F) body Wb)(hset:∀x,YF iter cx.env x=pure x) :
 j3 g cx (.For target iter body [] pos) (dq Wt Wi Wb):=@λA s st Q X oa R w=>
 show wq _ _ (do XO pos;let x ←YF iter cx.env (←eval iter cx.env);XO iter.pos;runOwn (.forLoop target (←XU [x] (adg x)) body [] cx.env) cx.env) _ _ _ from
 aU (b0 (hi oa R w) λx s h=>(kK (hset x) (aU (aq (ay (aV h λy s u=>by
  obtain⟨hx,R,L,it,q⟩:=u
  subst hx
  rename_i vs I o st
  refine ou (rm rfl (λ_ _=>rfl) (R8 g cx (λvs st=>fU Wt Wb vs Q X st) I) (λn s h=>?_) vs.length (.mk rfl R L it q)) λ_ _=>rfl
  obtain⟨e,R,L,it,q⟩:=h
  rename_i vs st o
  refine show wq _ A ((forTurn target (.ref I) body [] cx.env).onRaise (λx=>do ab8 x cx.env;acu x)) _ _ s from
   cI (be (E:=hJ g cx X) (aU (aq (cI ?_))) (λ_ _ h=>h) λx s u=>R9 oa htop u)
  cases vs with
  |nil=>
   refine aV (aF (r4 R oa.handled L it)) λr s h=>?_
   obtain⟨R⟩:=h
   exact ax (.inr ⟨rfl,λ_ _=>rfl,wg (.next R q)⟩)
  |cons v r=>
   refine aV (aF (oF R L it)) λx s h=>?_
   obtain⟨R₁,L₁,it₁⟩:=h
   refine aq (aF (oG L₁.at_ it₁ (aq (be (ht I _ _ oa (R₁.addIt L₁).1 q) (λ_ s h=>?_) λ_ _ h=>h.elim))))
   obtain⟨R₂,q₂⟩:=h
   refine aq (be (hb I _ _ oa R₂ q₂) (λf s h=>?_) λx s u=>hJ.dropIt R₁.pop L₁ u)
   rcases h with⟨R₃,q₃⟩|⟨R₃,q₃⟩
   ·have D:=R₁.pop.dropIt L₁ R₃
    exact ax (.inl ⟨rfl,r.length,e▸X7 _,.mk rfl D.1 D.2.1 (it₁.mono D.2.2) q₃⟩)
   ·exact ax (.inr (.ret (R₁.pop.dropIt L₁ R₃).1 q₃))))))))
end
inductive Sb(g:Gl)(cx:Cx)(W:Nat->St->Prop)(n:Nat)(s:Ws):Prop
 |mk {st:St} (R:aI g cx [] [] st s) (q:W n st)
section
theorem K8(htop:cx.stk=cx.env::outer)(ht:u0 g cx t W)(hb:AL g cx body Wb):j3 g cx (.While t body [] pos) (fX W Wb):=@λA s st Q X oa R w=>
 show wq _ _ (do XO pos;runOwn (.whileLoop t body [] cx.env) cx.env) _ _ _ from
 w.elim λn w=>aU (ou (rm rfl (λ_ _=>rfl) (Sb g cx λn st=>rS W Wb n Q X st) (λn s h=>by
  obtain⟨R,q⟩:=h
  refine show wq _ A ((whileTurn t body [] cx.env).onRaise (λx=>do ab8 x cx.env;acu x)) _ _ s from cI (be (E:=hJ g cx X) ?_ (λ_ _ h=>h) λx s u=>R9 oa htop u)
  cases n with
  |zero=>exact WC q
  |succ n=>
   refine ht.then_ oa R q λb st s R q=>?_
   cases b with
   |false=>exact dZ ((ax (.inr (.next R q))))
   |true=>
    refine aq (be (hb oa R q) (λf s h=>?_) λ_ _ u=>u)
    rcases h with⟨R,q⟩|⟨R,q⟩
    ·exact ax (.inl ⟨rfl,n,X7 n,.mk R q⟩)
    ·exact ax (.inr (.ret R q))) n (.mk R w)) λ_ _=>rfl)
end
def Ux(vs:List V)(k:V->Prop):Prop:=Yn (motive:=λ_=>Prop) vs False λa r=>Yn (motive:=λ_=>Prop) r False λb r=>Yn (motive:=λ_=>Prop) r False λc r=>a=.int 0∧c=.int 2∧r=[]∧k b
def G2(vs:List V)(P:List V->Prop):Prop:=Yn (motive:=λ_=>Prop) vs False λa r=>Yn (motive:=λ_=>Prop) r (kL a λn=>(-1000000<=n∧n<=1000000)∧P (eC 1 n.toNat 0))
 λb r=>Ux (a::b::r) λv=>kL v λn=>(0<=n∧n<=1000000)∧P (eC 2 ((n+1)/2).toNat 0)
def da(q:PT):PT:=λQ X st=>q (λvs d=>iF vs λvs=>G2 vs λus=>Q (.lst us) d) X st
section
variable{g:Gl}{cx:Cx}{tmp:List V}{vals:List Wn}{st st₀:St}{s s₀:Ws}{A:Xm}{x y z:Wn}{a b v u:V}{vs:List V}{F F':FZ}{E:Wn->Ws->Prop}{Q:V->St->Prop}{X:St->Prop}{hp:Heap}{tk n:Nat}{I:Addr}{o o':Obj}
theorem dc(id:String):Keeps g (.type id):=⟨.machine,.inr rfl,λA Q E s _ h=>Wq h⟩
theorem O4{y:Str}{i:Pos}{f:Wn}{k:List V->PT}(m:bE g cx (.Name y i) (af (.raw f)))(p:Keeps g f)(h:AA g cx pos c W)(d:(Zq pos (Yb c cx.env)).any (·.1)=false)
 (key:∀{A s tmp vals st vs xs Q X},aI g cx tmp vals st s->bo g (cx.F st s) vs xs->k vs Q X st->WJ g.M A (call f xs) (λx w=>WJ g.M A (adg x) (TV g cx tmp vals Q) (hJ g cx X) w) (hJ g cx X) s) :
 TI g cx (eval (.Call (.Name y i) c [] pos) cx.env) (λQ X st=>W (λvs j=>iF vs λvs=>k vs Q X j) X st):=λ{A s tmp vals st Q X} oa R q=>
 TE.then_ (Q:=λv st'=>v=.raw f∧W (λvs j=>iF vs λvs=>k vs Q X j) X st') m oa R ⟨rfl,q⟩ λv x st s R q=>by
  obtain⟨rfl,q⟩:=q
  obtain rfl:x=f:=R.tmp.1
  exact bO p d (aV (h oa R.pop q) λxs s u=>u.elim' λvs st R l q=>⟨R.base,aF (Ym (key (R.unL l).2 (R.unL l).1 q) (λ_ _ h=>aF h) λ_ _ h=>h)⟩)
theorem aI.range(R:aI g cx tmp vals st s){a b c:Int}{t u v:Tok}{tk m:Nat}(h1:aah a b c=true)(h2:ZN a b c=(m:Int))(q:Q (.lst (eC c m a)) st) :
 wpAny g.M A (adg (.ref s.heap.objs.size)) (TV g cx tmp vals Q) E { s with heap:=s.heap.push { cls:=.type "range",data:=.fields #[.int a t,.int b u,.int c v]},toks:=tk}:=
 have R3:aI g cx tmp vals st { s with heap:=s.heap.push { cls:=.type "range",data:=.fields #[.int a t,.int b u,.int c v]},toks:=tk}:=R.keeps λb o e=>Wv _ e
 wpAny_pyIter_range (IsRange.new ..) h1 (h2▸R3.newIt (tk:=tk) ⟨_,rfl⟩ (.range rfl) q)
set_option tactic.hygienic true in
theorem CW{n:Int}(h1:-1000000<=n)(d:n<=1000000):aah 0 n 1=true∧ZN 0 n 1=(n.toNat:Int):=
 ⟨small_one dD dD (aa0 dD h1) (aab d dD),by
  rw[rangeSize_one]
  split
  ·rename_i h
   rw[Int.sub_zero,YU (Int.le_of_lt h)]
  ·rename_i h
   rw[Int.toNat_of_nonpos (Y7.mp h)];rfl⟩
theorem CX{b:Int}(h1:0<=b)(h2:b<=1000000):aah 0 b 2=true∧ZN 0 b 2=(((b+1)/2).toNat:Int):=by
 obtain⟨m,rfl⟩:=abF h1
 have hm:m<=1000000:=X2.mp h2
 have hsz:ZN 0 m 2=((((m:Int)+1)/2).toNat:Int):=by
  cases m with
  |zero=>rfl
  |succ k=>
   show(if(0:Int)<((k+1:Nat):Int)then(((k+1:Nat):Int)-0-1)/2+1 else 0)=_
   rw[if_pos (Int.natCast_pos.mpr (XF k)),Int.sub_zero,adl,aac]
   exact(congrArg Int.ofNat (Nat.add_div_right k dD)).symm
 have f:∀k:Nat,k<=1000001->aak k=true:=λk h=>Yg.mpr ⟨decide_eq_true (aa0 dD (WG k)),decide_eq_true (aab (X2.mpr h) dD)⟩
 refine⟨?_,hsz⟩
 unfold aah
 rw[hsz]
 have e2:aak ((((m:Int)+1)/2).toNat:Int)=true:=f ((m+1)/2) (Wh (Nat.div_le_self _ _) (Ww hm))
 have e3:aak ((m:Int)+(2-1))=true:=f (m+1) (Ww hm)
 rw(config:={}) [f m (YA hm),e2,if_pos dD,e3,Zd]
 rfl
theorem bo.one{P:Prop}{xs:List Wn}(h:bo g F [v] xs)(k:∀x,xs=[x]->VR g F v x->P):P:=by
 cases xs with
 |nil=>exact WC h
 |cons x r=>exact k x (congrArg (x::·) h.2) h.1
theorem bo.three{P:Prop}{xs:List Wn}{a b c:V}(h:bo g F [a,b,c] xs)(k:∀x y z,xs=[x,y,z]->VR g F a x->VR g F b y->VR g F c z->P):P:=by
 cases xs with
 |nil=>exact WC h
 |cons x r=>cases r with
  |nil=>exact WC h.2
  |cons y r=>exact bo.one h.2.2 λz e d=>k x y z (congrArg (x::y::·) e) h.1 h.2.1 d
theorem K9(h:Ux vs k):∃b,vs=[.int 0,b,.int 2]∧k b:=by
 cases vs with
 |nil=>exact WC h
 |cons a r=>cases r with
  |nil=>exact WC h
  |cons b r=>cases r with
   |nil=>exact WC h
   |cons c r=>
    obtain⟨rfl,rfl,rfl,h⟩:=h
    exact⟨b,rfl,h⟩
theorem La{y:Str}{np:Pos}(hf:bE g cx (.Name y np) (af (.raw (.type "range"))))(h:AA g cx pos es W)(hplain:(Zq pos (Yb es cx.env)).any (·.1)=false):TI g cx (eval (.Call (.Name y np) es [] pos) cx.env) (da W):=
 O4 (k:=λvs Q X st=>G2 vs λus=>Q (.lst us) st) hf (dc _) h hplain λ{A s tmp vals st vs xs Q X} R hv q=>match vs,hv,q with
  | [v],hv,q=>(bu q).elim λn q=>hv.one λx e hx=>by
   obtain⟨rfl,q⟩:=q
   obtain⟨t,rfl⟩:=hx
   subst e
   exact call_range_1 (R.range (CW q.1.1 q.1.2).1 (CW q.1.1 q.1.2).2 q.2)
  |a::b::r,hv,q=>by
   have q:Ux (a::b::r) λv=>kL v λn=>(0<=n∧n<=1000000)∧Q (.lst (eC 2 ((n+1)/2).toNat 0)) st:=q
   obtain⟨v,e,q⟩:=K9 q
   obtain⟨n,rfl,q⟩:=bu q
   rw[e]at hv
   exact hv.three λx y z e hx hy hz=>by
    obtain⟨t,rfl⟩:=hx
    obtain⟨t,rfl⟩:=hy
    obtain⟨t,rfl⟩:=hz
    subst e
    exact call_range_3 dD (R.range (CX q.1.1 q.1.2).1 (CX q.1.1 q.1.2).2 q.2) (.inl (PyProof.noPylong_small dD))
end
section
open PySem.Builtin PySem.Builtin.ObjectAttr
inductive G3(h:Heap)(C:Addr)(bm:List Wn):Prop
 |mk {nm q N bs hdct sn sub ab col dd k0 k1 k2 k3 k5} (e:h.get? C=some (excClassObj nm q C N bs bm hdct sn sub ab col dd k0 k1 k2 k3 k5 "Exception.__new__"))
structure tW(h:Heap)(C:Addr)(bm:List Wn):Prop where
 at_:G3 h C bm
 b1:bm.contains (.type "Exception")=true
 b2:bm.contains (.type "BaseException")=true
 b3:bm.contains (.type "AttributeError")=false
 b4:bm.contains (.type "NameError")=false
section
variable{prog:abK}{w:abI}{A:Xm}{E:Wn->Ws->Prop}{R:abU->Ws->Prop}{h:Heap}{g:Array GenState}{d:Drawn}{t:Nat}{os:OsState}{C fI:Addr}{bm:List Wn}{K:Frag}
theorem Lb(X:tW h C bm)(y:q.length<=acP)
 (c:R (.ok (.ret (.ref (h.objs.size+1)))) ⟨(h.push { cls:=.type "tuple",data:=.seq q.toArray}).push { cls:=.ref C,data:=.fields #[.ref h.objs.size,.none,.none,.none,.bool false,.none]},g,d,t,os⟩) :
 codeAny (YW prog w) A (.builtin "Exception.__new__" ⟨.ref C::q,[]⟩) R ⟨h,g,d,t,os⟩:=by
 refine Wy λno=>?_
 obtain⟨⟨hC⟩,b1,b2,b3,b4⟩:=X
 refine no ?_
 have F:=adn
 have u:(ZA C::bm).contains (.type "Exception")=true:=by rw[Z9,b1,Zd]
 have z:(ZA C::bm).contains (.type "AttributeError")=false:=by rw[Z9,b3];rfl
 have i:(ZA C::bm).contains (.type "NameError")=false:=by rw[Z9,b4];rfl
 have j:=F.ends
 refine codeAny_builtinAt F.entry ?_
 refine PySem.wpAt_bind ?_
 refine PySem.wpAt_bind (PySem.wpAt_stack λp below=>aeY ?_)
 wp_walk
 refine aeY ?_
 rw[F.owner]
 repeat (first|with_reducible refine wpAny_madeHere_exc F.canon hC ?_|with_reducible refine Zi hC ?_|(with_reducible refine aaa hC ?_;first|rw(config:={}) [u]|rw(config:={}) [z]|rw(config:={}) [i])|wp_step)
 show R _ _
 rw[aa2]
 exact c
theorem G4(X:tW h C bm)(k:K.In h)(chk:∀S,peek K S (XZ "Exception.__new__" ⟨.ref C::q,[]⟩)=some ())(a:Xo K (.ref C) "__init__" = some (some (.ref fI)))(B:typeIn K (.ref fI)=some (.type "function"))(z:q.length<=acP)
 (D:∀p e,Heap.MadeExcOf h p e (.ref C) q->WJ (YW prog w) (A.under (.builtin "type.__call__" ⟨.ref C::q,[]⟩)) (call (.ref fI) (.ref e::q)) (λr c=>r=.none∧Q (.ref e) c) E ⟨p,g,d,t,os⟩) :
 wpAny (YW prog w) A (call (.ref C) q) Q E ⟨h,g,d,t,os⟩:=by
 have m:=X
 obtain⟨⟨hC⟩,b1,b2,b3,b4⟩:=X
 have F:=adn
 have L:=tc_lookup
 have U:=tc_bind (.ref C)
 have hT:(⟨h,g,d,t,os⟩:Ws).TypeIs (.ref C) "type" := ⟨_,hC,rfl⟩
 refine abt (aba ?_)
 show WJ _ _ (callAny (.ref C) _) _ _ _
 repeat (any_goals (first|assumption|with_reducible refine Zi hC ?_|wp_step))
 refine⟨rfl,codeAny_call_builtin_at (YK _ dD) aeF (wpAny_check_type_call_sub hC ?_)⟩
 repeat (first|with_reducible refine Zi hC ?_|with_reducible refine wpAny_madeBy_exc hC ?_|wp_step)
 have j:=Wv { cls:=.ref C,data:=.fields #[.ref h.objs.size,.none,.none,.none,.bool false,.none]}
  (Wv { cls:=.type "tuple",data:=.seq q.toArray} hC)
 refine codeAny_call_builtin_code (YK _ F.quiet) ((Looks.of_peek (M:=YW prog w) k (chk _)).here ?_)
 refine Lb m z ?_
 have y:K.In ((h.push { cls:=.type "tuple",data:=.seq q.toArray}).push { cls:=.ref C,data:=.fields #[.ref h.objs.size,.none,.none,.none,.bool false,.none]}):=k.keeps λb o e=>Wv _ (Wv _ e)
 have i:((h.push { cls:=.type "tuple",data:=.seq q.toArray}).push
  {cls:=.ref C,data:=.fields #[.ref h.objs.size,.none,.none,.none,.bool false,.none]}).get? (h.objs.size+1)=some
  {cls:=.ref C,data:=.fields #[.ref h.objs.size,.none,.none,.none,.bool false,.none]}:=by heap_get
 have u:(ZA C::bm).contains (.ref C)=true:=by simp
 unfold aaN
 repeat (first|with_reducible refine Zi i ?_|(with_reducible refine aaa j ?_;rw[u])|wp_step)
 refine aaa j ?_
 rw[u]
 repeat (first|with_reducible refine Zi i ?_|wp_step)
 refine adB (M:=YW prog w) y a _ _ _ _ (λ_ _ e=>e) ?_
 refine Xu (Wl (bind_fn (M:=YW prog w) y _ B _ _ _ _ (λ_ _ e=>e) ?_))
 refine Wl (Ym (D _ (h.objs.size+1) ⟨λb o hb=>Wv _ (Wv _ hb),ae0 (XC _),h.objs.size,i,ae0 (Wr _),?_⟩) (λr c J=>?_) λ_ _ x=>x)
 ·exact Wv _ (Heap.get?_push_at rfl rfl)
 ·obtain⟨rfl,f⟩:=J
  wp_walk
  exact f
theorem EN(X:tW s.heap C bm)(XK:K.In s.heap)(he:s.heap.get? e=some { cls:=.ref C,data:=.fields vs})
 (hs:Xo K (.ref C) "__setattr__" = some (some (.builtin "object.__setattr__"))) (hn:Xo K (.ref C) name=some none) (hpass:∀self,refuseLoop self "__setattr__" (.ref C::bm)=pure ()) (hobj:bm.contains (.type "object")=true)
 (hh:(clsIn K C).any (·.hasDict)=true)
 (h:∀h' tk,(∀b o,b≠e->s.heap.get? b=some o->h'.get? b=some o)->(∃o,h'.get? e=some o∧o.cls=.ref C∧o.data=.fields vs)->Q () { s with heap:=h',toks:=tk}) :
 wpAny (YW prog w) A (setAttr (.ref e) name v) Q E s:=by
 have I:InstAt s.heap e { cls:=.ref C,data:=.fields vs} C none:=⟨he,rfl,rfl,trivial⟩
 have SF:=PySem.F.store_object
 obtain⟨⟨hC⟩,b1,b2,b3,b4⟩:=X
 have cO:(ZA C::bm).contains (.type "object")=true:=by rw[Z9,hobj,Zd]
 have hm:ad1 (YW prog w) s.heap (mroOf (.ref C)) (.ref C::bm):=λA Q E s' hk q=>by
  obtain⟨hh,gg,d,t,os⟩:=s'
  exact wpAny_mroOf_exc (hk _ _ hC) q
 have sb:ad1 (YW prog w) s.heap (aaN (.ref e) (.type "object")) true:=I.type.andThen λA Q E s' hk q=>by
  obtain⟨hh,gg,d,t,os⟩:=s'
  exact aaa (hk _ _ hC) (by rw[cO];exact q)
 refine set_plain XK I hs ?_
 refine aaX SF.slot.plain SF.entry (@check_slot (YW prog w) _ _ _ "object.__setattr__" "object" "__setattr__" (.ref e) [.str name s.toks,v] [] _ SF.kind SF.split sb (SF.args (.ref e) (.str name s.toks) v) ?_)
 rw[osa_eq,refuse_eq]
 refine Wl (Wl (I.type _ _ _ _ (λ_ _ e=>e) (Wl (hm _ _ _ _ (λ_ _ e=>e) ?_))))
 rw[hpass]
 refine Wq (Wl (I.type _ _ _ _ (λ_ _ e=>e) (Wl (adB (M:=YW prog w) XK hn _ _ _ _ (λ_ _ e=>e) (Az (?_))))))
 obtain⟨cd,hc,hd'⟩:=any_some hh
 refine Az ((Wl (Wl (acK he (c6 (λ_ q=>looks_clsIn (M:=YW prog w) XK hc _ _ _ _ (λ_ _ e=>e) q) ?_)))))
 rw[hd']
 have hes:e≠s.heap.objs.size:=W8 (W6 he)
 have he₁:(s.heap.push { cls:=.type "dict",data:=.dict #[]}).get? e=some { cls:=.ref C,data:=.fields vs}:=Wv _ he
 show WJ _ _ (alloc { cls:=.type "dict",data:=.dict #[]}>>=λd=>update e (λo=>{cls:=o.cls,dict:=some d,data:=o.data,slots:=o.slots})>>=λ_=>pure (some d)) _ _ _
 refine Wl (wpAny_alloc (Wl (wpAny_update' he₁ (Wq ?_))))
 have U:((s.heap.push { cls:=.type "dict",data:=.dict #[]}).update e λo=>{cls:=o.cls,dict:=some s.heap.objs.size,data:=o.data,slots:=o.slots}).get? s.heap.objs.size=some (dictOf [] 0):=
  (ZU _ _ _ _ hes.symm).trans (Heap.get?_push_at rfl rfl)
 have Ue:((s.heap.push { cls:=.type "dict",data:=.dict #[]}).update e λo=>{cls:=o.cls,dict:=some s.heap.objs.size,data:=o.data,slots:=o.slots}).get? e=some { cls:=.ref C,dict:=some s.heap.objs.size,data:=.fields vs}:=
  Xi _ he₁ rfl
 refine Az ((Wl ?_))
 unfold nsSet
 refine Wl (Wl (Yx (Wq (Wl (wpAny_mkText (Wl (acK U ?_)))))))
 dsimp only
 rw[aRefKeyMayBeTheName_at,show(!([]:List aaQ).toArray.any (·.key.isStr name)&&([]:List aaQ).toArray.any (·.refKey))=false from by simp]
 refine wpAny_updatePart U ?_
 have U2:=Xi (Obj.putName name (ZJ w.params name) (.str name (s.toks+1)) v) U (by rw[adA];rfl)
 rw[adA]at U2
 refine Wl (adQ U2 (pastItsLine_dict (by rw[Wu,W5];simp[putL])) ?_)
 refine Wq (h _ _ (λb o hb hbo=>?_) ⟨_,(ZU _ _ _ _ hes).trans Ue,rfl,rfl⟩)
 have hbs:b≠s.heap.objs.size:=W8 (W6 hbo)
 exact(ZU _ _ _ _ hbs).trans ((ZU _ _ _ _ hb).trans (Wv _ hbo))
end
section
variable{prog:abK}{w:abI}{A:Xm}{E:Wn->Ws->Prop}{s:Ws}{C fI:Addr}{bm:List Wn}{K:Frag}
structure oH(K:Frag)(C fI:Addr)(fd:aaZ)(me told:Str):Prop where
 at_:∃o,K.lookup fI=some o∧o.data=.func fd
 code:codeIn K fd.code fd.qualname=true
 body:∃p1 p2 p3 p4,fd.body=.stmts [.Assign [.Attribute (.Name me p1) told p2] (.Name told p3) p4]
 n1:fd.scope.names.lookup me=some .local
 n2:fd.scope.names.lookup told=some .local
 ne:(told==me)=false
 d1:(me==("__debug__" : Str))=false
 d2:(told==("__debug__" : Str))=false
 cells:∀x∈fd.scope.names,x.2≠.cell
 co:fd.scope.isCoroutine=false
 gen:fd.scope.isGenerator=false
 kind:fd.scope.kind=.function
 setter:Xo K (.ref C) "__setattr__" = some (some (.builtin "object.__setattr__"))
 free:Xo K (.ref C) told=some none
 dict:(clsIn K C).any (·.hasDict)=true
 bind:∀(s:Ws) (e x:Wn),K.In s.heap->BindsTo s fd ⟨[e,x],[]⟩ [(me,e),(told,x)]
theorem tX(I:oH K C fI fd me told)(X:tW s.heap C bm)(XK:K.In s.heap)(hlim:s.heap.NoLimit)(hpass:∀me,refuseLoop me "__setattr__" (.ref C::bm)=pure ())(hobj:bm.contains (.type "object")=true)(hroom:A.depth<recursionLimit)(he:s.heap.get? e=some { cls:=.ref C,data:=.fields vs})
 (h:∀h' tk,(∀b o,b≠e->s.heap.get? b=some o->h'.get? b=some o)->(∃o,h'.get? e=some o∧o.cls=.ref C∧o.data=.fields vs)->Q .none { s with heap:=h',toks:=tk}) :
 wpAny (YW prog w) A (call (.ref fI) [.ref e,x]) Q E s:=by
 refine Wy λno=>?_
 obtain⟨fo,hfo,hfd⟩:=I.at_
 refine no ?_
 refine Wy λno=>?_
 obtain⟨p1,p2,p3,p4,hbody⟩:=I.body
 refine no ?_
 refine abt (codeAny_call_def (o:=fo) (fd:=fd) (binds:=[(me,.ref e),(told,x)]) hroom (XK _ _ hfo) hfd hlim (codeRec_of XK I.code) hbody (I.bind s _ _ XK) I.cells (λy hy=>?_) (λh₀ hns hk=>?_) I.co I.gen I.kind)
 ·rcases Wo.mp hy with rfl|hy
  ·exact I.n1
  ·rcases Wo.mp hy with rfl|hy
   ·exact I.n2
   ·cases hy
 ·have ekind:(callEnv fd s.heap.objs.size fI).scope.kind=.function:=I.kind
  have m2:(λy=>[(me,ZA e),(told,x)].reverse.lookup y) told=some x:=by
   show adj told [(told,x),(me,ZA e)]=some x
   simp
  have m1:(λy=>[(me,ZA e),(told,x)].reverse.lookup y) me=some (.ref e):=by
   show adj me [(told,x),(me,ZA e)]=some (.ref e)
   have:(me==told)=false:=by
    have:=I.ne
    rw[beq_eq_false_iff_ne]at *
    exact λq=>this q.symm
   simp[adj,this]
  have X₀:tW h₀ C bm:=⟨by obtain⟨hC⟩:=X.at_;exact⟨hk _ _ hC⟩,X.b1,X.b2,X.b3,X.b4⟩
  refine wpAny_execs_cons ?_
  rw[ad9]
  refine c6 (λ_ q=>ac5 q) ?_
  rw[show afc [.Attribute (.Name me p1) told p2] (.Name told p3) p4.line (callEnv fd s.heap.objs.size fI)=pure false from rfl]
  refine Az (?_)
  rw[if_neg dD]
  refine Wl (wpAny_Name (acL ekind I.n2 hns m2 ?_) I.d2)
  rw[show ZL [.Attribute (.Name me p1) told p2] (.Name told p3) (callEnv fd s.heap.objs.size fI)=pure none from rfl]
  refine Az (?_)
  show WJ _ _ (do assignAll x [Zb (.Attribute (.Name me p1) told p2) (callEnv fd s.heap.objs.size fI)];pure acr) _ _ _
  refine Wl ?_
  show WJ _ _ (do XU [] (Zb (.Attribute (.Name me p1) told p2) (callEnv fd s.heap.objs.size fI) x)) _ _ _
  refine Xu ?_
  rw[arm_assign_Attribute]
  refine Wl (Xu (wpAny_Name (acL ekind I.n1 hns m1 ?_) I.d1))
  refine Wl (ac5 (Wl (Xu ?_)))
  refine EN X₀ (XK.keeps hk) (hk _ _ he) I.setter I.free hpass hobj I.dict λh' tk hk' ho=>?_
  refine aby (Wq (wpAny_execs_nil ?_))
  exact h h' tk (λb o hb hbo=>hk' b o hb (hk b o hbo)) ho
end
end
structure yR(g:Gl)(K:Frag)(bm:List Wn)(fI:Addr)(fd:aaZ)(me told:Str):Prop where
 cls:tW g.B cp bm
 init:Xo K (.ref cp) "__init__" = some (some (.ref fI))
 isf:typeIn K (.ref fI)=some (.type "function")
 facts:oH K cp fI fd me told
 pass:∀x,refuseLoop x "__setattr__" (.ref cp::bm)=pure ()
 obj:bm.contains (.type "object")=true
 keeps:Keeps g (.ref cp)
 chk:∀S rest,peek K S (XZ "Exception.__new__" ⟨.ref cp::rest,[]⟩)=some ()
inductive Sd(g:Gl)(cx:Cx)(bm:List Wn)(X:St->Prop)(x:Wn)(s:Ws):Prop
 |mk {e:Addr} {o:Obj} {vs:Array Wn} (hx:x=.ref e) (C:tW s.heap cp bm) (ho:s.heap.get? e=some o) (hc:o.cls=.ref cp) (hd:o.data=.fields vs) (h1:vs[1]? = some .none) (u:hJ g cx X x s)
section
variable{g:Gl}{cx:Cx}{tmp:List V}{vals:List Wn}{st st₀:St}{s s₀:Ws}{A:Xm}{x y z:Wn}{a b v u:V}{vs:List V}{F F':FZ}{E:Wn->Ws->Prop}{Q:V->St->Prop}{X:St->Prop}{hp:Heap}{tk n:Nat}{I:Addr}{o o':Obj}
variable{W W1 W2 W3 Wi Wb:PT}{Wt:gH}{target iter t e:Expr}{body:List Stmt}{pos:Pos}{outer:List Env}{es:List Expr}{K:Frag}{bm:List Wn}{fI:Addr}{fd:aaZ}{me told:Str}
theorem tW.keeps(X:tW h C bm)(k:∀b o,h.get? b=some o->d.get? b=some o):tW d C bm:=⟨by
 obtain⟨hC⟩:=X.at_
 exact⟨k _ _ hC⟩,X.b1,X.b2,X.b3,X.b4⟩
theorem EO(T:Top g K)(B:yR g K bm fI fd me told)(J:gL cx.stk cx.lvl A)(R:aI g cx [v] [z] st s)(q:X st):WJ g.M A (call (.ref cp) [z]) (Sd g cx bm X) E s:=by
 have base:=R.base
 refine G4 (B.cls.keeps base) (T.k.keeps base) (λS=>B.chk S _) B.init B.isf (by show 1<=acP;rw[W5];decide) λZ e M=>?_
 refine Wy λno=>?_
 obtain⟨t,f,L,Y⟩:=M.there
 refine no ?_
 refine tX B.facts ((B.cls.keeps base).keeps M.keeps) ((T.k.keeps base).keeps M.keeps) ((T.nolim.keeps base).keeps M.keeps) B.pass B.obj ?_ f λp tk w U=>⟨rfl,?_⟩
 ·exact Wz (Ww (Wh (WA _ _) J.depth)) (Wj rfl)
 have c:∀b o,s.heap.get? b=some o->b≠e:=λb o q z=>by rw[z,M.new]at q;cases q
 have k:∀b o,s.heap.get? b=some o->p.get? b=some o:=λb o q=>w b o (c b o q) (M.keeps b o q)
 refine Wy λno=>?_
 obtain⟨o,j,i,d⟩:=U
 refine no ?_
 exact .mk rfl ((B.cls.keeps base).keeps k) j i d rfl (.mk (R.pop.keeps k) (.mk rfl j i d rfl rfl (match q:g.B.get? e with
  |none=>rfl
  |some D=>absurd rfl (c _ _ (base _ _ q))) (λq=>(R.rsv e q).2.elim λD m=>c _ _ m rfl) (.inl rfl)) q)
set_option tactic.hygienic true in
theorem ER{env:Env}{Q:Flow->Ws->Prop}(hh:A.handled=none)(b:Sd g cx bm X x s):WJ g.M A (acX env (some (pure x)) none) Q (hJ g cx X) s:=by
 obtain⟨rfl,C,he,hcls,hd,h1,hE⟩:=b
 rename_i e o vs
 obtain⟨⟨hC⟩,b1,b2,b3,b4⟩:=C
 have hcB:(ZA cp::bm).contains (.type "BaseException")=true:=by rw[Z9,b2,Zd]
 obtain⟨hp,gg,d,tk,os⟩:=s
 obtain⟨oc,od,odt,osl⟩:=o
 subst hcls hd
 unfold acX
 refine Wl (Wq ?_)
 repeat (first|with_reducible refine Zi he ?_|with_reducible refine Zi hC ?_|(with_reducible refine aaa hC ?_;rw[hcB])|wp_step)
 rw[h1]
 refine Wq ?_
 rw[if_neg dD]
 exact Wq (wpAny_raiseNew_none hh hE)
theorem O5{P:Prop}{xs:List Wn}(l:[v].length=xs.length)(k:∀z,xs=[z]->P):P:=by
 cases xs with
 |nil=>cases l
 |cons z r=>cases r with
  |nil=>exact k z rfl
  |cons=>cases l
theorem G5{env:Env}{m:Sem Wn}{Q:Flow->Ws->Prop}(h:wq g A m (λx s'=>WJ g.M A (acX env (some (pure x)) none) Q E s') E s):wq g A (acX env (some m) none) Q E s:=by
 unfold acX at *
 exact aq (aV h λx s h=>aF h)
theorem Lc(T:Top g K)(B:yR g K bm fI fd me told){x:Str}{np cpos:Pos}{arg:Expr}(hf:bE g cx (.Name x np) (af (.raw (.ref cp))))(ha:AA g cx cpos [arg] (aa W ag))(hplain:(Zq cpos (Yb [arg] cx.env)).any (·.1)=false) :
 j3 g cx (.Raise (some (.Call (.Name x np) [arg] [] cpos)) none pos) (bj W):=@λA s st Q X oa R w=>by
 refine aU (t:=acX cx.env (some (do let v ←eval (.Call (.Name x np) [arg] [] cpos) cx.env;XO pos;pure v)) none) ?_
 refine G5 (aq (?_:wq g A (do aeI cpos (←eval (.Name x np) cx.env) [] (Zq cpos (Yb [arg] cx.env)) (backToKw cpos (adZ [] cx.env))) _ _ _))
 exact TE.then_ (Q:=λv st'=>v=.raw (.ref cp)∧W (λ_ st1=>X st1) X st') hf oa R ⟨rfl,w⟩ λv x st s R q=>by
  obtain⟨rfl,q⟩:=q
  obtain rfl:x=.ref cp:=R.tmp.1
  refine bO B.keeps hplain (aV (ha (Q:=λvs st1=>iF vs λvs=>only vs λ_=>X st1) oa R.pop q) λxs s u=>u.elim' λvs st R l q=>⟨R.base,?_⟩)
  obtain⟨v,rfl,q⟩:=c9 q
  refine O5 l λz e=>?_
  subst e
  exact aF (Ym (EO T B oa R q) (λ_ _ h=>aU (ax (ER oa.handled h))) λ_ _ h=>h)
set_option tactic.hygienic true in
theorem r5(R:aI g cx tmp vals st s)(X:mo g L cx.rv s.heap x)(k:∀Z,aI g cx tmp vals st Z->mo g none cx.rv Z.heap x->h () Z):WJ g.M A (setFlight x none) h E s:=by
 obtain⟨rfl,w,c,hd,h0,h1,S,U,@⟨T,oT,G,l,rfl,J,D,p,i,j,H,hl⟩⟩:=X
 rename_i e oe vs a0
 refine Wl (acN w hd h1 ?_)
 rw[if_pos (by simp)]
 have m:=(aa1.mp H).1
 refine wpAny_setField i j m ?_
 have d:∀b,b≠T->(s.heap.update T (Obj.mapFields (·.setIfInBounds 3 ((none:Option Addr).elim aaY λf=>Zf f)))).get? b=s.heap.get? b:=λb hb=>aem _ _ (X6 hb)
 refine k _ (R.slots (tk:=s.toks) (hid:=[T]) (λb o B Y=>⟨o.slots,(d b λq=>?_).trans B⟩) (λb o B Y=>(d b λq=>Y (by rw[q];exact .head _)).trans B) λb hb=>?_)
  (.mk rfl ((d e (X6 p)).trans w) c hd h0 h1 S U (.mk rfl J D p (Xi _ i (acb (abc j _))) (abc j _) (l:=.none) (by simp[m]) (.inl rfl)))
 ·rw[q,i]at B;cases B;exact Y G j
 ·rw[WB.mp hb]
  exact .inr ⟨J,D,oT,G,i,j⟩
def CY(g:Gl)(cx:Cx)(e:Expr)(v:V):Prop:=∀{A:Xm} {d:Wn->Ws->Prop} {q:Wn->Ws->Prop} {s:Ws},(∀t x,(∀F,VR g F v x)->d x { s with toks:=t})->WJ g.M A (eval e cx.env) d q s
theorem Se(T:Top g K)(B:yR g K bm fI fd me told)(htop:cx.stk=cx.env::outer){sc:Zk}(hsc:cx.env.scope=sc){x y:Str}{np py ap hp kp:Pos}{i:Nat}{e:Expr}
 (hb:AL g cx body W) (hx:cx.env.kindOf x=some .globalImplicit) (hxd:(x==("__debug__" : Str))=false) (e1:nsIn K XH x=some (some (.ref cp))) (hi:cx.names[i]? = some y) (hk:jQ cx y) (hs:Z2 e (some (.Name y py)) ap.line (qk sc)=pure false) (hv:CY g cx e v) :
 j3 g cx (.Try body [.ExceptHandler (some (.Name x np)) none [.Assign [.Name y py] e ap] hp] [] [] pos) (vY W i v):=@λA s st Q X oa R w=>by
 refine aU (t:=tryStmt false (aeE body cx.env) _ (aeE [] cx.env) [] cx.env) ?_
 refine aq (kX (be (hb oa R w) (λf s u=>?_) λx s u=>?_))
 ·cases u with
  |next R q=>exact ax (.next R q)
  |ret R q=>exact ax (.ret R q)
 ·obtain⟨R,f,q⟩:=u
  obtain⟨L,hL⟩:=(R.ok.stk cx.env (htop▸.head _)).2
  refine aq (aF (r0 R oa.frames htop hL.1 f λs2 R2 N2=>aq (aF (r5 R2 N2 λs3 R3 N3=>aF ?_))))
  obtain⟨rfl,hoe,hcls,hd,h0,h1,hbe,hne,ht⟩:=id N3
  refine wpAny_handleBy_cons (codeAny_handlers_test ?_) (by intro q;cases q)
  refine Wy λno=>?_
  obtain⟨mg,mb,g1,g2,g3⟩:=T.ns
  obtain⟨hh,gg,dd,tt,os⟩:=s3
  obtain⟨hC⟩:=B.cls.at_
  refine no ?_
  refine acR R.ok.kind hx (loadGlobal_global (by rw[R.ok.globals];exact g1.keeps R3.base) (mg_of T.k g1 e1) ?_) hxd
  refine wpAny_excMatches_sub_self (R3.base _ _ hC) hoe hcls B.cls.b2 (codeAny_handlers_suite (r5 R3 N3 λs4 R4 N4=>wpAny_execs_cons (wpAny_Assign_Name ?_ (by rw[dH hsc];exact hs))))
  exact hv λt z hz=>gq ((R4.toks (tk:=t)).push (hz _)) hi hk λs5 R5=>wpAny_execs_nil (.next R5 q)
end
def rq(k:Zx)(l:List (Str×Zx)):List Str:=(l.filter (·.2==k)).map (·.1)
theorem CZ:x∈rq k l↔(x,k)∈l:=
 ⟨λh=>let⟨⟨a,b⟩,d,e⟩:=WN.mp h;have⟨m1,m2⟩:=ab3.mp d;by
  obtain rfl:a=x:=e
  obtain rfl:b=k:=eq_of_beq m2
  exact m1,λh=>WN.mpr ⟨_,ab3.mpr ⟨h,beq_self_eq_true k⟩,rfl⟩⟩
def cap(cells:List (Str×Addr))(p:Str×Zx):Option (Str×Addr):=if p.2==.free then(cells.lookup p.1).map λc=>(p.1,c)else none
def iQ(cells:List (Str×Addr))(l:List (Str×Zx)):List (Str×Addr):=(l.filterMap (cap cells)).reverse
section
theorem r6(h:cap cells p=some q):p.2=.free∧q.1=p.1∧cells.lookup p.1=some q.2:=by
 unfold cap at h
 generalize d:(p.2==.free)=y;cases y with
 |false=>rw[d]at h;cases h
 |true=>
  rw[d,if_pos rfl]at h
  obtain⟨c,h1,rfl⟩:=Yv.mp h
  exact⟨eq_of_beq d,rfl,h1⟩
theorem G6(h:p∈iQ cells l):(p.1,Zs)∈l∧cells.lookup p.1=some p.2:=by
 obtain⟨q,d,e⟩:=aa5.mp (aav.mp h)
 obtain⟨y,j,i⟩:=r6 e
 rw[j]
 exact⟨by rw[←y];exact d,i⟩
theorem G7(h:(x,Zs)∈l)(hc:cells.lookup x=some c):(x,c)∈iQ cells l:=
 aav.mpr (aa5.mpr ⟨_,h,by unfold cap;rw[if_pos (beq_self_eq_true _),hc];rfl⟩)
theorem vd(hs:∀a b,R a b->R b a)(z:(l.map (·.1)).Nodup)(h:∀p q:Str×Addr,p.1≠q.1->cells.lookup p.1=some p.2->cells.lookup q.1=some q.2->R p q):(iQ cells l).Pairwise R:=
 List.pairwise_reverse.mpr (((ZI.mp z).filterMap _ λa k n b hb c d=>by
  obtain⟨_,j,u⟩:=r6 hb
  obtain⟨_,y,i⟩:=r6 d
  exact hs _ _ (h b c (by rw[j,y];exact n) (by rw[j];exact u) (by rw[y];exact i))))
theorem AX(ha:cells.Pairwise λx y=>x.2≠y.2)(d:(l.map (·.1)).Nodup):(iQ cells l).Pairwise λx y=>x.2≠y.2:=vd (λ_ _=>X6) d λp q n h1 j=>mu ha h1 j n
theorem ES(d:(l.map (·.1)).Nodup)(h:(x,Zs)∈l)(hc:cells.lookup x=some c):(iQ cells l).lookup x=some c:=
 dB (ZI.mpr (vd (λ_ _=>X6) d λp q n _ _=>n)) (G7 h hc)
theorem AY(scope:Zk)(h:∀x,(x,Zs)∈scope.names->∃c,env.cells.lookup x=some c):aeG scope env=pure (iQ env.cells scope.names):=by
 unfold aeG
 have main:∀(l:List (Str×Zx)) (acc:List (Str×Addr)),(∀x,(x,Zs)∈l->∃c,env.cells.lookup x=some c)->
  (forIn l acc λ(x:Str×Zx) (r:List (Str×Addr))=>(if x.2==.free then(do let c ←cellOf env x.1;pure (abr ((x.1,c)::r)))else pure (abr r):Sem (ForInStep (List (Str×Addr)))))=pure (iQ env.cells l++acc):=by
  intro l
  induction l with
  |nil=>intro acc _;rfl
  |cons p r ih=>
   intro acc h
   rw[adq]
   unfold iQ
   rw[List.filterMap_cons]
   generalize hk:(p.2==.free)=zz;cases zz with
   |true=>
    obtain⟨c,hc⟩:=h p.1 (eq_of_beq hk▸.head _)
    have e1:cellOf env p.1=pure c:=by unfold cellOf;rw[hc]
    have e2:cap env.cells p=some (p.1,c):=by unfold cap;rw[hk,if_pos rfl,hc];rfl
    rw[if_pos rfl,e1,e2,abm,Wx]
    exact ih _ λx hx=>h x (.tail _ hx)
   |false=>
    have e2:cap env.cells p=none:=by unfold cap;rw[hk];rfl
    rw[if_neg dD,e2]
    exact ih _ λx hx=>h x (.tail _ hx)
 have:=main scope.names [] h
 rw[WT]at this
 exact(congrArg (λt=>t>>=λcs=>pure cs) this).trans rfl
def eV(S:Zk)(scope:Zk):Scope:={scope with names:=scope.names.map λ(n,k)=>if(k==.free&&aea==aea&&S.names.lookup n==some .cell)then(n,.cell)else(n,k)}
theorem yS(d:env.scope.kind=.function)(h:env.scope.names=S.names):acj scope env=eV S scope:=by
 unfold acj eV Env.kindOf
 rw[d,h]
theorem ve(S scope:Zk):(eV S scope).names.map (·.1)=scope.names.map (·.1):=by
 unfold eV
 rw[XM]
 exact acz λx _=>show(if _ then _ else _:Str×Zx).1=_ by split <;> rfl
theorem Rm(h:(x,k)∈scope.names)(d:(k==Zs)=false):(x,k)∈(eV S scope).names:=
 WN.mpr ⟨(x,k),h,show(if _ then _ else _)=_ by rw[d];rfl⟩
theorem AZ(h:(x,Zs)∈scope.names)(hc:S.names.lookup x=some .cell):(x,NameKind.cell)∈(eV S scope).names:=
 WN.mpr ⟨(x,.free),h,show(if _ then _ else _)=_ by rw[hc];rfl⟩
end
noncomputable def Cx.comp(cx:Cx)(env:Env)(m:Str->Option Wn)(hp:Heap)(names:List Str)(D:Addr)(F:FZ):Cx:=
 {cx with env,rv:=D::env.locals::cx.rv,keep:=O1 hp cx.env.cells++cx.keep,outer:=(cx.env.locals,m)::cx.outer,w:=F,names,ro:=true}
def Cx.res(cx:Cx)(C:Addr):Cx:={cx with rv:=C::cx.rv}
structure hO(cx:Cx)(D:Addr):Prop where
 rv:D∈cx.rv
 loc:D≠cx.env.locals
 frs:D∉cx.frs
 keep:∀q∈cx.keep,q.1≠D
 outer:∀q∈cx.outer,q.1≠D
 cells:∀p∈cx.env.cells,p.2≠D
def Cx.hold(cx:Cx)(D:Addr)(o:Obj):Cx:={cx with keep:=(D,o)::cx.keep}
def Nq(S:Zk)(names frees:List Str)(is:List Nat):Prop:=is.length=frees.length∧∀(j:Nat) (x:Str) (i:Nat),frees[j]? = some x->is[j]? = some i->names[i]? = some x∧S.names.lookup x=some .cell
section
variable{g:Gl}{cx:Cx}{tmp:List V}{vals:List Wn}{st st₀:St}{s s₀:Ws}{A:Xm}{x y z:Wn}{a b v u:V}{vs us:List V}{ys:List Wn}{F F':FZ}{E:Wn->Ws->Prop}{Q:V->St->Prop}{X:St->Prop}{hp:Heap}{tk n:Nat}{I C D:Addr}{o o':Obj}
variable{S scope:Zk}{names frees:List Str}{is:List Nat}{loc:List (Option V)}{h:AH}{m m':Str->Option Wn}{env:Env}
theorem aI.into(R:aI g cx tmp vals ⟨loc,h⟩ s)(c:c5 cx S names n true)(G:Nq S names (rq .free scope.names) is)(hnd:cn=rq .local scope.names++rq .free scope.names)(hn:cn.Nodup)(L:(scope.names.map (·.1)).Nodup)(J:scope.kind=.function)
 (he:env=compEnvC scope (iQ cx.env.cells scope.names) C cx.env) (hC:s.heap.objs.size<=C) (hD:s.heap.objs.size<=D) (hCD:D≠C) (U:∀b o,s.heap.get? b=some o->hp.get? b=some o) (hDo:∃o,hp.get? D=some o) (Z:hp.Ns C m')
 (hm:s.heap.Ns cx.env.locals m∧∀(i:Nat) x v,cx.names[i]? = some x->loc[i]? = some (some v)->∃w,VR g (cx.F ⟨loc,h⟩ s) v w∧KI cx.env m s.heap x w) :
 aI g (cx.comp env m s.heap cn D (cx.F ⟨loc,h⟩ s)) [] [] ⟨Xb (rq .local scope.names).length none++eJ is loc,h⟩ { s with heap:=hp,toks:=tk}∧hO (cx.comp env m s.heap cn D (cx.F ⟨loc,h⟩ s)) D:=by
 subst he
 have old:∀{a},a∈cx.rv->a<s.heap.objs.size:=λh=>let⟨_,e⟩:=(R.rsv _ h).2;W6 e
 have nC:∀{a},a∈cx.rv->a≠C:=λh=>W8 (WK (old h) hC)
 have H:∀{a},a∈cx.rv->a≠D:=λh=>W8 (WK (old h) hD)
 have cell:∀{p},p∈iQ cx.env.cells scope.names->p∈cx.env.cells:=λh=>aX (G6 h).2
 have kk:∀q∈Mine.Internal.O1 s.heap cx.env.cells++cx.keep,q.1∈cx.rv∧q.1∉cx.frs:=λq h=>(WO.mp h).elim (λh=>let⟨p,h1,e⟩:=(R.objs h).1;e▸⟨(R.ok.cells p h1).1,(R.ok.cells p h1).2.2⟩) λh=>⟨(R.ok.keep q h).1,(R.ok.keep q h).2.2⟩
 have oo:∀q∈(cx.env.locals,m)::cx.outer,q.1∈cx.rv:=λq h=>(Wo.mp h).elim (λe=>e▸R.ok.own) λh=>(R.ok.outer q h).1
 have up:∀{a},a∈cx.rv->a∈D::C::cx.rv:=λh=>.tail _ (.tail _ h)
 have nn:∀{a o},s.heap.get? a=some o->a∉cx.rv->a∉D::C::cx.rv:=λe h q=>(Wo.mp q).elim (λq=>Xq.mpr hD (q▸W6 e)) λq=>(Wo.mp q).elim (λq=>Xq.mpr hC (q▸W6 e)) h
 have hF:∀a o,cx.F ⟨loc,h⟩ s a o->Fz hp h (D::C::cx.rv) a o:=λa o z=>⟨U _ _ z.1,z.2.1,nn z.1 z.2.2.1,z.2.2.2⟩
 have f:=R.keeps (tk:=tk) U
 refine⟨
 {ok:=
  {kind:=J,globals:=R.ok.globals,builtins:=R.ok.builtins,apart:=AX R.ok.apart L,names:=hn,head:=R.ok.head,stk:=R.ok.stk
   own:=.tail _ (.head _)
   frs:=λa h=>up (R.ok.frs a h)
   cells:=λp h=>let k:=R.ok.cells p (cell h);⟨up k.1,nC k.1,k.2.2⟩
   keep:=λq h=>let k:=kk q h;⟨up k.1,nC k.1,k.2⟩
   outer:=λq h=>⟨up (oo q h),nC (oo q h)⟩
   free:=λp h e=>tf e}
  base:=f.base,gens:=f.gens,os:=f.os
  known:=λa o e=>let k:=R.known a o e;let⟨z,h1,h2⟩:=k.obj;⟨k.low,nn h1 k.nrv,z,U _ _ h1,h2.mono hF⟩
  rsv:=λa h=>(Wo.mp h).elim (λe=>e▸⟨Wh R.size hD,hDo⟩) λh=>(Wo.mp h).elim (λe=>e▸⟨Wh R.size hC,Z.imp λ_ z=>z.elim λ_ z=>z.elim λ_ z=>z.1⟩) (f.rsv a)
  frs:=f.frs
  keep:=λq h=>(WO.mp h).elim (λh=>U _ _ (R.objs h).2) (f.keep q)
  outer:=λq h=>(Wo.mp h).elim (λe=>e▸hm.1.keeps U) (f.outer q)
  cl:=λp h=>f.cl p (cell h)
  loc:=⟨_,Z,λi y v Y d=>?_⟩
  wait:=hF
  tmp:=rfl},
 {rv:=.head _,loc:=hCD,frs:=λq=>H (R.ok.frs _ q) rfl,keep:=λq h=>H (kk q h).1,outer:=λq h=>H (oo q h),cells:=λp h=>H (R.ok.cells p (cell h)).1}⟩
 have B:(Xb (rq .local scope.names).length (none:Option V)).length=(rq .local scope.names).length:=List.length_replicate ..
 have d:(Xb (rq .local scope.names).length none++eJ is loc)[i]? = some (some v):=d
 have Y:cn[i]? = some y:=Y
 have q:(rq .local scope.names).length<=i:=Xq.mp λq=>by
  rw[abh (B.symm▸q),aef,if_pos q]at d;cases d
 rw[ZP (B.symm▸q),B]at d
 rw[hnd,ZP q]at Y
 unfold eJ at d
 rw[YQ]at d
 refine Wy λno=>?_
 obtain⟨j,hj,d⟩:=Yv.mp d
 obtain⟨h1,h2⟩:=G.2 _ y j Y hj
 refine no ?_
 refine Wy λno=>?_
 obtain⟨w,w1,w2⟩:=hm.2 j y v (c.names.symm▸h1) (adT.mp d)
 refine no ?_
 have hf:=CZ.mp (XJ Y)
 have ck:cx.env.kindOf y=some .cell:=(congrArg (adj y) c.kinds).trans h2
 refine⟨w,VR.mono hF _ _ w1,?_⟩
 cases w2 with
 |loc k=>rw[k]at ck;cases ck
 |@cell cc k e hc=>
  exact .cell (.inl (by
   show(acj scope cx.env).names.lookup y=_
   rw[yS R.ok.kind c.kinds]
   exact dB (by rw[ve];exact L) (AZ hf h2))) (ES L hf e) (hc.imp λ_ z=>⟨U _ _ z.1,z.2⟩)
theorem aI.outof(R:aI g cx tmp vals ⟨loc,h⟩ s)(hC:s.heap.objs.size<=env.locals)(Z:s.heap.objs.size<=D)(f:D≠env.locals)
 (L:s.heap.Ns cx.env.locals m∧∀(i:Nat) x v,cx.names[i]? = some x->loc[i]? = some (some v)->∃j,VR g (cx.F ⟨loc,h⟩ s) v j∧KI cx.env m s.heap x j)
 (d:aI g ((cx.comp env m s.heap H D (cx.F ⟨loc,h⟩ s)).hold D (sq "list" xs n)) us xs st s₀) (U:us.length<=1000000):aI g (cx.res env.locals) (.lst us::tmp) (.ref D::vals) ⟨loc,st.h⟩ s₀:=
 have old:∀{a},a∈cx.rv->a<s.heap.objs.size:=λh=>let⟨_,e⟩:=(R.rsv _ h).2;W6 e
 have nC:∀{a},a∈cx.rv->a≠env.locals:=λh=>W8 (WK (old h) hC)
 have out:∀{a},a∉D::env.locals::cx.rv->a∉env.locals::cx.rv:=λh q=>h (.tail _ q)
 have w:∀a o,Fz s₀.heap st.h (D::env.locals::cx.rv) a o->Fz s₀.heap st.h (env.locals::cx.rv) a o:=λa o z=>⟨z.1,z.2.1,out z.2.2.1,z.2.2.2⟩
 have J:∀a o,cx.F ⟨loc,h⟩ s a o->Fz s₀.heap st.h (env.locals::cx.rv) a o:=λa o z=>w a o (d.wait a o z)
 have cells:∀p∈cx.env.cells,∀v,s.heap.IsCell p.2 v->s₀.heap.IsCell p.2 v:=λp h v z=>by
  have:=d.keep _ (.tail _ (Yp _ (WN.mpr ⟨p,h,rfl⟩)))
  obtain⟨o,Y,G⟩:=z
  exact⟨o,by rw[this];show some ((s.heap.get? p.2).getD default)=_;rw[Y];rfl,G⟩
 have B:D∉env.locals::cx.rv:=λq=>(Wo.mp q).elim f λq=>Xq.mpr Z (old q)
 {ok:={R.ok with
   own:=.tail _ R.ok.own
   frs:=λa h=>.tail _ (R.ok.frs a h)
   cells:=λp h=>⟨.tail _ (R.ok.cells p h).1,(R.ok.cells p h).2⟩
   keep:=λp h=>⟨.tail _ (R.ok.keep p h).1,(R.ok.keep p h).2⟩
   outer:=λp h=>⟨.tail _ (R.ok.outer p h).1,(R.ok.outer p h).2⟩}
  base:=d.base,gens:=d.gens,os:=d.os
  known:=λa o e=>let k:=d.known a o e;⟨k.low,out k.nrv,k.obj.imp λ_ z=>⟨z.1,z.2.mono w⟩⟩
  rsv:=λa h=>d.rsv a (.tail _ h)
  frs:=d.frs
  keep:=λq h=>d.keep q (.tail _ (WW _ h))
  outer:=λq h=>d.outer q (.tail _ h)
  cl:=λp h=>(R.cl p h).imp λv z=>cells p h v z
  loc:=⟨m,d.outer (cx.env.locals,m) (.head _),λi y v a b=>(L.2 i y v a b).imp λj z=>⟨VR.mono J _ _ z.1,z.2.keep rfl λc v e q=>cells (y,c) (aX e) v q⟩⟩
  wait:=λa o z=>J a o (R.wait a o z)
  tmp:=⟨show bQ _ _ _ _ from .mk rfl ⟨d.keep _ (.head _),d.rvNone (.head _),B,c7 rfl rfl⟩ (d.tmp.length▸U) (d.tmp.mono w),R.tmp.mono J⟩}
theorem aI.unres(R₀:aI g cx [] [] st₀ s₀)(R:aI g (cx.res C) tmp vals st s)(hC:C∉cx.rv)(hs:Xp C s.heap hp):aI g cx tmp vals st { s with heap:=hp,toks:=tk}:=
 have to:∀{b o},b≠C->s.heap.get? b=some o->hp.get? b=some o:=λq e=>(hs.2 _ q).trans e
 have ne:∀{b},b∈cx.rv->b≠C:=λh e=>hC (e▸h)
 have hF:∀b o,Fz s.heap st.h (C::cx.rv) b o->Fz hp st.h cx.rv b o:=λb o z=>⟨to (λe=>z.2.2.1 (e▸.head _)) z.1,z.2.1,λq=>z.2.2.1 (.tail _ q),z.2.2.2⟩
 have kc:∀{c v},c∈cx.rv->s.heap.IsCell c v->hp.IsCell c v:=λh z=>z.imp λ_ z=>⟨to (ne h) z.1,z.2⟩
 have kn:∀{a m},a∈cx.rv->s.heap.Ns a m->hp.Ns a m:=λh z=>z.imp λ_=>XS λ_=>XS λ_ z=>⟨to (ne h) z.1,z.2⟩
 {ok:=R₀.ok,gens:=R.gens,os:=R.os
  base:=λb o e=>to (λq=>by rw[q,dJ (R.rsv C (.head _)).1]at e;cases e) (R.base b o e)
  known:=λb o e=>let k:=R.known b o e;⟨k.low,λq=>k.nrv (.tail _ q),k.obj.imp λ_ z=>⟨to (λq=>k.nrv (q▸.head _)) z.1,z.2.mono hF⟩⟩
  rsv:=λa h=>⟨(R.rsv a (.tail _ h)).1,(R.rsv a (.tail _ h)).2.imp λ_ z=>to (ne h) z⟩
  frs:=λa h=>(R.frs a h).imp λ_ z=>⟨to (ne (R₀.ok.frs a h)) z.1,z.2⟩
  keep:=λq h=>to (ne (R₀.ok.keep q h).1) (R.keep q h)
  outer:=λq h=>kn (R₀.ok.outer q h).1 (R.outer q h)
  cl:=λp h=>(R.cl p h).imp λv z=>kc (R₀.ok.cells p h).1 z
  loc:=R.loc.imp λm z=>⟨kn R₀.ok.own z.1,λi y v a b=>(z.2 i y v a b).imp λval z=>⟨VR.mono hF _ _ z.1,z.2.keep rfl λc v e q=>kc (R₀.ok.cells (y,c) (aX e)).1 q⟩⟩
  wait:=λa o z=>hF a o (R.wait a o z)
  tmp:=R.tmp.mono hF}
end
section
variable{g:Gl}{cx c0:Cx}{tmp tmp':List V}{vals vals':List Wn}{st st₀:St}{s s₀:Ws}{A:Xm}{x y z:Wn}{a b v u:V}{vs us acc:List V}{xs ys:List Wn}{F F':FZ}{E:Wn->Ws->Prop}{Q:V->St->Prop}{X:St->Prop}{hp:Heap}{tk n m:Nat}{I C D:Addr}{o o' ob ob':Obj}
theorem aI.less(R:aI g cx tmp vals st s)(h:∀p∈k,p∈cx.keep):aI g { cx with keep:=k} tmp vals st s:=
 {R with
  ok:={R.ok with keep:=λp q=>R.ok.keep p (h p q),free:=λp hp a b=>⟨λq d=>(R.ok.free p hp a b).1 q (h q d),(R.ok.free p hp a b).2⟩}
  known:=λa o e=>let k:=R.known a o e;⟨k.low,k.nrv,k.obj⟩
  keep:=λp q=>R.keep p (h p q)}
theorem aI.held(R:aI g cx tmp vals st s)(L:hO cx D)(e:s.heap.get? D=some o):aI g (cx.hold D o) tmp vals st s:=
 {R with
  ok:={R.ok with
   keep:=λp q=>(Wo.mp q).elim (λe=>e▸⟨L.rv,L.loc,L.frs⟩) (R.ok.keep p)
   free:=λp hp a b=>⟨λq d=>(Wo.mp d).elim (λe=>by rw[e];exact(L.cells p hp).symm) ((R.ok.free p hp a b).1 q),(R.ok.free p hp a b).2⟩}
  known:=λa o e=>let k:=R.known a o e;⟨k.low,k.nrv,k.obj⟩
  keep:=λp q=>(Wo.mp q).elim (λh=>by rw[h];exact e) (R.keep p)}
theorem cR.ne(L:cR g cx st s I o)(h:D∈cx.rv):I≠D:=λe=>L.nrv (e▸h)
theorem hO.addIt(L:hO cx D)(h:I≠D):hO (cx.addIt I o F) D:={L with rv:=.tail _ L.rv,keep:=λq d=>(Wo.mp d).elim (λe=>by rw[e];exact h) (L.keep q)}
theorem aI.forth(R:aI g (c0.hold D ob) tmp vals st s)(L:cR g c0 st s I o):aI g ((c0.addIt I o (c0.F st s)).hold D ob) tmp vals st s:=
 ((R.addIt (cx:=c0.hold D ob) ⟨L.big,L.unk,L.nrv,L.at_,L.fld⟩).1).less λp h=>(Wo.mp h).elim (λe=>e▸.tail _ (.head _)) λh=>(Wo.mp h).elim (λe=>e▸.head _) λh=>.tail _ (.tail _ h)
theorem aI.back(q:aI g (c0.hold D ob) tmp' vals' st₀ s₀)(j:hO c0 D)(L:cR g c0 st₀ s₀ I o)(R:aI g ((c0.addIt I o (c0.F st₀ s₀)).hold D ob') tmp vals st s):aI g (c0.hold D ob') tmp vals st s∧cR g c0 st s I o∧∀a o,c0.F st₀ s₀ a o->c0.F st s a o:=
 have d:=((q.less λp h=>.tail _ h).drop:aI g c0 [] [] st₀ s₀).dropIt L (R.less λp h=>.tail _ h)
 ⟨d.1.held j (R.keep _ (.head _)),d.2⟩
theorem aI.append(R:aI g (cx.hold D (sq "list" xs m)) (v::acc) (z::xs) st s)(L:hO cx D)(hs:Xp D s.heap hp)(e:hp.get? D=some (sq "list" (xs++[z]) (m+1))):aI g (cx.hold D (sq "list" (xs++[z]) (m+1))) (acc++[v]) (xs++[z]) st { s with heap:=hp,toks:=tk}:=
 have R1:aI g cx (v::acc) (z::xs) st s:=R.less λp h=>.tail _ h
 have to:∀{b o},b≠D->s.heap.get? b=some o->hp.get? b=some o:=λq e=>(hs.2 _ q).trans e
 have kc:∀{c w},c≠D->s.heap.IsCell c w->hp.IsCell c w:=λn z=>z.imp λ_ z=>⟨to n z.1,z.2⟩
 have R2:aI g cx (v::acc) (z::xs) st { s with heap:=hp,toks:=tk}:=R1.ownc L.rv L.keep L.outer hs ⟨_,e,c7 rfl rfl⟩ (λp h=>(R1.cl p h).imp λ_ z=>kc (L.cells p h) z) λup=>
  R1.loc.imp λm z=>⟨z.1.imp λ_=>XS λ_=>XS λ_ z=>⟨to (X6 L.loc) z.1,z.2⟩,λi y v a b=>(z.2 i y v a b).imp λval z=>⟨up _ _ z.1,z.2.keep rfl λc w e q=>kc (L.cells (y,c) (aX e)) q⟩⟩
 {R2.held L e with tmp:=bo.append R2.tmp.2 ⟨R2.tmp.1,rfl⟩}
theorem wh(R:aI g (cx.hold D (sq "list" xs m)) (v::acc) (z::xs) st s)(L:hO cx D)(hl:acc.length<=1000000)
 (k:∀s',aI g (cx.hold D (sq "list" (xs++[z]) (m+1))) (acc++[v]) (xs++[z]) st s'->Xp D s.heap s'.heap->Qr .none s'):WJ g.M A (call (.builtin "list.append") [.ref D,z]) Qr E s:=
 have hD:s.heap.get? D=some (sq "list" xs m):=R.keep (D,_) (.head _)
 call_meets ac1 ⟨_,hD,rfl⟩ F.entry_list_append (F.args_list_append_2 _ _) (list_append D xs.toArray m z (by rw[Wu,W5,R.tmp.2.length];exact Wh hl (Wj rfl))) ⟨hD,by
  have e1:(s.heap.update D (Xs λx=>x.push z)).get? D=some (sq "list" (xs++[z]) (m+1)):=by
   rw[Xi _ hD rfl]
   unfold sq Xs
   simp
  exact k _ (R.append (tk:=s.toks) L (.update ..) e1) (.update ..)⟩
end
inductive r7(g:Gl)(c0:Cx)(W:List V->List V->St->Prop)(I D:Addr)(n:Nat)(s:Ws):Prop
 |mk {vs acc:List V} {xs:List Wn} {m:Nat} {st:St} {o:Obj} (e:vs.length=n) (R:aI g (c0.hold D (sq "list" xs m)) acc xs st s) (L:cR g c0 st s I o) (it:gm g (c0.F st s) o vs) (l:acc.length<=1000000) (q:W vs acc st)
inductive Made(g:Gl)(c0:Cx)(D:Addr)(Q:List V->St->Prop):abU->Ws->Prop
 |mk {acc:List V} {xs:List Wn} {m:Nat} {st:St} {s:Ws} (R:aI g (c0.hold D (sq "list" xs m)) acc xs st s) (l:acc.length<=1000000) (q:Q acc st):Made g c0 D Q (.ok .next) s
theorem c5.hold{cx:Cx}{S:Zk}{names:List Str}{n:Nat}{fn:Bool}{D:Addr}{o:Obj}(c:c5 cx S names n fn):c5 (cx.hold D o) S names n fn:={c with}
theorem c5.addIt{cx:Cx}{S:Zk}{names:List Str}{n:Nat}{fn:Bool}{D:Addr}{o:Obj}{F:FZ}(c:c5 cx S names n fn):c5 (cx.addIt D o F) S names n fn:={c with}
noncomputable abbrev vf(d:List Expr)(env:Env):Sem Bool:=forIn d true λc r=>if r=true then do let ok ←abR c env (eval c env);pure (abr ok)else pure (abr r)
noncomputable abbrev A0(d iter:Expr)(i:List Expr)(j e:Expr)(c:Nat)(q acc:Wn)(env:Env):Sem aaT:=do
 standAt iter.pos
 match←aa9 q with
 |none=>pure (.done .next)
 |some v=>
  letOwnedTupleGo d q v
  assign d env v
  let ok ←vf i env
  if ok then
   (do let _ ←call (.builtin "list.append") [acc,←eval j env])
  again (.compLoop e c q acc env)
section
variable{g:Gl}{cx c0:Cx}{tmp tmp':List V}{vals vals':List Wn}{st st₀:St}{s s₀:Ws}{A:Xm}{x y z:Wn}{a b v u:V}{vs us acc:List V}{xs ys:List Wn}{F F':FZ}{E:Wn->Ws->Prop}{Q:V->St->Prop}{X:St->Prop}{hp:Heap}{tk n m:Nat}{I C D:Addr}{o o' ob ob':Obj}
theorem G8:TB g cx (vf [] cx.env) j2:=λ_ R w=>ax ⟨R,w⟩
theorem O6(h:u0 g cx e q):TB g cx (vf [e] cx.env) q:=λd R w=>aq (aq (aV (h d R w) λb s u=>ax (ax u)))
theorem ET(h:s.heap.get? I=some o)(d:gm g F o vs){Q:Wn->Ws->Prop}(q:Q (.ref I) s):WJ g.M A (adg (.ref I)) Q E s:=by
 cases d with
 |list hc hd=>exact wpAny_pyIter_listiter ⟨_,h,hc,hd⟩ q
 |tup hc hd=>exact wpAny_pyIter_tupleiter ⟨_,h,hc,hd⟩ q
 |bytes hc hd=>exact KBw.pyIter_self ⟨_,h,hc,hd⟩ q
 |str hc hd=>exact hc.elim (λhc=>wpAny_pyIter_striter_ascii ⟨_,h,hc,hd⟩ q) λhc=>wpAny_pyIter_striter_wide ⟨_,h,hc,hd⟩ q
 |range j=>exact wpAny_pyIter_rangeiter (j▸h) q
theorem yT(h:s.heap.get? I=some o)(k:gm g F o vs)(q:cq g A (.compLoop (.ListComp d gens scope pos) p (.ref I) x env) R s)(hg:((afp (.ListComp d gens scope pos))[p]?).elim false (·.is_async != 0)=false) :
 cq g A (.compStart (.ListComp d gens scope pos) p (.ref I) x env) R s:=fE (λ_ _=>rfl) (by
 show wq _ _ ((compStart (.ListComp d gens scope pos) p (.ref I) x env).onRaise (λx=>do ab8 x env;XO theWindowsPlace)) _ _ s
 have bc:AI g (A.under (.compStart (.ListComp d gens scope pos) p (.ref I) x env)) R (.again (.compLoop (.ListComp d gens scope pos) p (.ref I) x env)) s:=⟨rfl,λ_ _=>rfl,q⟩
 have j:WJ g.M A (adg (.ref I)>>=λi=>ad0 (.compLoop (.ListComp d gens scope pos) p i x env)) (AI g (A.under (.compStart (.ListComp d gens scope pos) p (.ref I) x env)) R) (λ_ _=>False) s:=Wl (ET h k (Wq bc))
 refine cI (be (E:=λ_ _=>False) (aF ?_) (λ_ _ h=>h) λ_ _ h=>h.elim)
 unfold compStart
 rw[hg]
 refine Wl (Yx (wpAny_ite ?_))
 split
 ·exact Az ((Wq bc))
 ·refine Wl (YD ?_)
  cases (afp (.ListComp d gens scope pos))[p]? with
  |none=>exact j
  |some c=>exact Wl (ac5 j))
theorem cR.but(L:cR g cx st s I o)(d:hO cx D)(hs:Xp D s.heap s₀.heap):cR g cx st s₀ I o:=⟨L.big,L.unk,L.nrv,(hs.2 _ (L.ne d.rv)).trans L.at_,L.fld⟩
theorem Sf(d:hO cx D)(hs:Xp D s.heap s₀.heap){a:Addr}{o:Obj}(h:cx.F st s a o):cx.F st s₀ a o:=⟨(hs.2 _ λe=>h.2.2.1 (by rw[e];exact d.rv)).trans h.1,h.2⟩
theorem step{d:Type}{acc r:List d}{v y:d}{n:Nat}(h:acc.length+(v::r).length<=n):(acc++[y]).length+r.length<=n:=by
 rw[Wk]
 exact Wh (Xz (by rw[WX,WX,Yh,WV,Xd 1])) h
theorem vg(heq:adx (.ListComp i gens scope pos) dp (.ref I) (.ref D) c0.env=A0 k iter ifs i (.ListComp i gens scope pos) dp (.ref I) (.ref D) c0.env)(c:c5 c0 S names n false)(G:hO c0 D)(oa:gL c0.stk c0.lvl A)
 (ht:∀cx,c5 cx S names n false->TT g cx (Zb k cx.env) Wt) (hc:∀cx,c5 cx S names n false->TB g cx (vf ifs cx.env) Wc) (he:∀cx,c5 cx S names n false->bE g cx i We)
 {Q:List V->St->Prop} {m:Nat} (h:r7 g c0 (λvs acc st=>acc.length+vs.length<=1000000∧iH Wt Wc We vs acc Q st) I D m s):cq g A (.compLoop (.ListComp i gens scope pos) dp (.ref I) (.ref D) c0.env) (Made g c0 D Q) s:=by
 refine rm rfl (λ_ _=>rfl) (r7 g c0 (λvs acc st=>acc.length+vs.length<=1000000∧iH Wt Wc We vs acc Q st) I D) (λn s h=>?_) m h
 refine cI (be (E:=λ_ _=>False) (show wq g A (adx (.ListComp i gens scope pos) dp (.ref I) (.ref D) c0.env) _ _ s from heq▸aU (aq ?_)) (λ_ _ h=>h) λ_ _ f=>f.elim)
 obtain⟨e,R,L,it,l,q⟩:=h
 cases vs with
 |nil=>
  refine aV (aF (r4 R oa.handled ⟨L.big,L.unk,L.nrv,L.at_,L.fld⟩ it)) λr s h=>?_
  obtain⟨R⟩:=h
  exact ax (.inr (.mk R l q.2))
 |cons v r=>
  refine aV (aF (oF R ⟨L.big,L.unk,L.nrv,L.at_,L.fld⟩ it)) λx s h=>?_
  obtain⟨p,d,j⟩:=h
  have d:cR g c0 _ _ _ _:=⟨d.big,d.unk,d.nrv,d.at_,d.fld⟩
  have e:r.length<n:=e▸X7 _
  refine aq (aF (oG d.at_ j (aq (be (ht _ (c.addIt.hold) oa (p.forth d) q.2) (λ_ s h=>?_) λ_ _ h=>h.elim))))
  obtain⟨R₂,H⟩:=h
  refine aq (be (hc _ (c.addIt.hold) oa R₂ H) (λb s h=>?_) λ_ _ u=>u.casesOn λ_ _ q=>q.elim)
  obtain⟨J,w⟩:=h
  cases b with
  |false=>
   have B:=p.back G d J
   exact ax (.inl ⟨rfl,r.length,e,.mk rfl B.1 B.2.1 (j.mono B.2.2) l ⟨Yk q.1,w⟩⟩)
  |true=>
   refine aq (aq (be (he _ (c.addIt.hold) oa J w) (λy s h=>?_) λ_ _ u=>u.casesOn λ_ _ q=>q.elim))
   obtain⟨Y,U⟩:=h
   have B:=p.back G d Y
   exact aq (aF (wh B.1 G l λs' Z hs=>ax (ax (.inl ⟨rfl,r.length,e,.mk rfl Z (B.2.1.but G hs) ((j.mono B.2.2).mono λa o=>Sf G hs) (Wh (WA _ _) (step q.1)) ⟨step q.1,U⟩⟩))))
end
section
variable{elt target iter e t0 t1 i0 i1:Expr}{ifs:List Expr}{gens:List abV}{dp:Nat}{scope S:Zk}{pos:Pos}{Wt Wt0 Wt1:gH}{W Wc We Wi:PT}{names:List Str}{is:List Nat}
theorem Ld(q d:Wn)(env:Env):adx (.ListComp elt [⟨t0,i0,[],0⟩,⟨t1,i1,[],0⟩] scope pos) 1 q d env=A0 t1 i1 [] elt (.ListComp elt [⟨t0,i0,[],0⟩,⟨t1,i1,[],0⟩] scope pos) 1 q d env:=rfl
theorem G9(q d:Wn)(env:Env):adx (.ListComp elt [⟨target,iter,ifs,0⟩] scope pos) 0 q d env=A0 target iter ifs elt (.ListComp elt [⟨target,iter,ifs,0⟩] scope pos) 0 q d env:=rfl
theorem Ha(it acc:Wn)(env:Env):adx (.ListComp elt [⟨t0,i0,[],0⟩,⟨t1,i1,[],0⟩] scope pos) 0 it acc env=(do
 standAt i0.pos
 match←aa9 it with
 |none=>pure (.done .next)
 |some v=>
  letOwnedTupleGo t0 it v
  assign t0 env v
  let x ←eval i1 env
  standAt i1.pos
  let x ←YF i1 env x
  let _ ←runOwn (.compStart (.ListComp elt [⟨t0,i0,[],0⟩,⟨t1,i1,[],0⟩] scope pos) 1 (←XU [x] (adg x)) acc env) env
  again (.compLoop (.ListComp elt [⟨t0,i0,[],0⟩,⟨t1,i1,[],0⟩] scope pos) 0 it acc env)):=rfl
theorem A1(c:c5 c0 S names n false)(Lo:hO c0 D)(oa:gL c0.stk c0.lvl A)
 (ht0:∀cx,c5 cx S names n false->TT g cx (Zb t0 cx.env) Wt0) (hi:∀cx,c5 cx S names n false->TI g cx (eval i1 cx.env) Wi) (ht1:∀cx,c5 cx S names n false->TT g cx (Zb t1 cx.env) Wt1) (he:∀cx,c5 cx S names n false->bE g cx elt We) (hset:∀env x,YF i1 env x=pure x)
 {Q:List V->St->Prop} {m:Nat} (h:r7 g c0 (λvs acc st=>fV Wt0 Wt1 Wi We vs acc Q st) I D m s):cq g A (.compLoop (.ListComp elt [⟨t0,i0,[],0⟩,⟨t1,i1,[],0⟩] scope pos) 0 (.ref I) (.ref D) c0.env) (Made g c0 D Q) s:=by
 refine rm rfl (λ_ _=>rfl) (r7 g c0 (λvs acc st=>fV Wt0 Wt1 Wi We vs acc Q st) I D) (λn s h=>?_) m h
 refine cI (be (E:=λ_ _=>False) (show wq g A (adx (.ListComp elt [⟨t0,i0,[],0⟩,⟨t1,i1,[],0⟩] scope pos) 0 (.ref I) (.ref D) c0.env) _ _ s from Ha _ _ _▸aU (aq ?_)) (λ_ _ h=>h) λ_ _ f=>f.elim)
 obtain⟨e,R,L,it,l,q⟩:=h
 cases vs with
 |nil=>
  refine aV (aF (r4 R oa.handled ⟨L.big,L.unk,L.nrv,L.at_,L.fld⟩ it)) λr s h=>?_
  obtain⟨R⟩:=h
  exact ax (.inr (.mk R l q))
 |cons v r=>
  refine aV (aF (oF R ⟨L.big,L.unk,L.nrv,L.at_,L.fld⟩ it)) λx s h=>?_
  obtain⟨R₁,L₁,it₁⟩:=h
  have L₁:cR g c0 _ _ _ _:=⟨L₁.big,L₁.unk,L₁.nrv,L₁.at_,L₁.fld⟩
  have e:r.length<n:=e▸X7 _
  refine aq (aF (oG L₁.at_ it₁ (aq (be (ht0 _ (c.addIt.hold) oa (R₁.forth L₁) q) (λ_ s h=>?_) λ_ _ h=>h.elim))))
  obtain⟨R₂,q₂⟩:=h
  refine aq (be (hi _ (c.addIt.hold) oa R₂ q₂) (λy s h=>aU ((kK (hset _ _) (aq (ay (be h (λy s h=>?_) λ_ _ u=>u.casesOn λ_ _ q=>q.elim)))))) λ_ _ u=>u.casesOn λ_ _ q=>q.elim)
  obtain⟨hy,R₃,L₃,it₃,q₃⟩:=h
  subst hy
  refine aq (be (ou (Q:=λ_ s=>r7 g c0 (λvs acc st=>fV Wt0 Wt1 Wi We vs acc Q st) I D r.length s) (E:=λ_ _=>False)
   (mn (yT L₃.at_ it₃ (vg (Ld _ _ _) c.addIt (Lo.addIt (L₁.ne Lo.rv)) oa ht1 (λ_ _=>G8) he (.mk rfl R₃ ⟨L₃.big,L₃.unk,L₃.nrv,L₃.at_,L₃.fld⟩ it₃ l ⟨Wh q₃.1 (Wj rfl),q₃.2⟩)) rfl) λr s h=>?_) λ_ _=>rfl) (λ_ s h=>ax (.inl ⟨rfl,_,e,h⟩)) λ_ _ f=>f.elim)
  obtain⟨R₄,l₄,q₄⟩:=h
  have B:=R₁.back Lo L₁ R₄
  exact .mk rfl B.1 B.2.1 (it₁.mono B.2.2) l₄ q₄
end
def rt(M:Model)(A:Xm)(E:Wn->Ws->Prop)(use:Option (Wn->Sem Unit))(Q:Wn->Ws->Prop)(acc:Wn)(C:Addr)(r:abU)(s':Ws):Prop:=
 r=.ok .next∧match use with
 |none=>∃m,s'.heap.Ns C m∧∀h',Xp C s'.heap h'->Q acc { s' with heap:=h'}
 |some u=>WJ M A (u acc) (λ_ s''=>∃m,s''.heap.Ns C m∧∀h',Xp C s''.heap h'->Q .none { s'' with heap:=h'}) E s'
section
theorem A2[Decidable c](h:wq g A (k ()) Q E s):wq g A (if c then(XO pos>>=k)else k ()) Q E s:=RA (λ_=>aU h) λ_=>h
theorem gP
 (hcl:afp e=k::ks) (hs:∀x,YF k.iter env x=pure x) (hclos:aeG scope env=pure cl)
 (hkind:scope.kind=.function) (hnames:∀x∈scope.names,x.2=.local->scope.names.lookup x.1=some .local)
 (h:wq g A first (λx s₁=>wq g A (adg x) (λit s₂=>WJ g.M A newAcc (λacc s₃=>
  wpAny g.M A (aeB scope env.globals cl [] env.qual none .none (some env)) (λcenv s₄=>
   cq g A (.compStart e 0 it acc { cenv with scope:=acj scope env}) (rt g.M A E use Q acc cenv.locals) s₄) E s₃) E s₂) E s₁) E s) (hh:∀it acc env,j0 (.compStart e 0 it acc env)) :
 wq g A (afd e scope env pos newAcc false first use) Q E s:=by
 unfold afd
 rw[hclos,hcl]
 refine b0 h λx s₁ h₁=>aU ((kK (hs x) (aq (ay (aV h₁ λit s₂ h₂=>A2 (aq (aF (Ym h₂ (λacc s₃ h₃=>dZ ((aq (aF (Ym h₃ (λcenv s₄ h₄=>?_) λ_ _ x=>x))))) λ_ _ x=>x))))))))
 dsimp only
 have hv:∀x∈(scope.names.filter λx=>(x.2==.local||x.2==.cell)&&x.1 != (".0" : Str)).reverse,x.2=.local->
  Env.kindOf { cenv with scope:=acj scope env} x.1=some .local:=λx hx hl=>lookup_relabel_local (hnames x (ab3.mp (aav.mp hx)).1 hl)
 refine ay (aq (kX (ay (be (GD (Q:=λf s'=>rt g.M A E use Q acc cenv.locals (.ok f) s') (E:=λ_ _=>False) (mn h₄ λr s' hr=>?_) (hh _ _ _)) (λf s' hr=>?_) λ_ _ f=>f.elim))))
 ·cases r with
  |ok f=>exact hr
  |error x=>cases hr.1
 ·cases use with
  |none=>exact hr.2.elim λm hr=>aF (Wl (Xu (wpAny_comp_letGo (cenv:={cenv with scope:=acj scope env}) hkind _ s' m hv hr.1 λh' m' _ hs'=>Wq (hr.2 h' hs'))))
  |some u=>exact aF (Wl (YD (Wl (Xu (Ym hr.2 (λ_ s'' hr=>hr.elim λm hr=>Wl (wpAny_comp_letGo (cenv:={cenv with scope:=acj scope env}) hkind _ s'' m (λx hx=>(WO.mp hx).elim (λq=>hv x (aaF q)) λq=>hv x (aaE q)) hr.1 λh' m' _ hs'=>Wq (hr.2 h' hs'))) λ_ _ x=>x)))))
end
abbrev bM(scope:Zk):List Str:=rq .local scope.names++rq .free scope.names
structure d0(S scope:Zk)(names:List Str)(is:List Nat):Prop where
 cap:Nq S names (rq .free scope.names) is
 nd:(bM scope).Nodup
 uq:(scope.names.map (·.1)).Nodup
 kind:scope.kind=.function
 noCell:∀y∈scope.names,y.2≠.cell
abbrev wi(scope:Zk)(is:List Nat)(loc:List (Option V)):List (Option V):=Xb (rq .local scope.names).length none++eJ is loc
section
variable{g:Gl}{cx c0:Cx}{tmp tmp':List V}{vals vals':List Wn}{st st₀:St}{s s₀:Ws}{A:Xm}{x y z:Wn}{a b v u:V}{vs us acc:List V}{xs ys:List Wn}{F F':FZ}{E:Wn->Ws->Prop}{Q:V->St->Prop}{X:St->Prop}{hp:Heap}{tk n m:Nat}{I C D:Addr}{o o' ob ob':Obj}
theorem d0.frees(O:d0 S scope names is){y:Str}(h:(y,Zs)∈scope.names):S.names.lookup y=some .cell:=by
 obtain⟨j,d,q⟩:=ZV (CZ.mpr h)
 have h1:(rq .free scope.names)[j]? = some y:=by rw[Xk d,q]
 have i:j<is.length:=O.cap.1.symm▸d
 exact(O.cap.2 j y _ h1 (Xk i)).2
theorem d0.clos(O:d0 S scope names is)(c:c5 cx S names n true):aeG scope cx.env=pure (iQ cx.env.cells scope.names):=AY scope λx hx=>c.cell rfl x (O.frees hx)
theorem d0.sees(O:d0 S scope names is)(c:c5 cx S names n true)(d:cx.env.scope.kind=.function){env:Env}{m:Str->Option Wn}{F:FZ}(q:env.scope=acj scope cx.env):c5 (cx.comp env m hp (bM scope) D F) (eV S scope) (bM scope) n false:=
 {kinds:=by show env.scope.names=_;rw[q,yS d c.kinds],scope:=ff,names:=rfl,lvl:=c.lvl,uniq:=by rw[ve];exact O.uq,cell:=ff,top:=ff,wr:=ff}
theorem vh(O:d0 S scope names is)(c:c5 cx S names n true)(oa:gL cx.stk cx.lvl A)(R:aI g cx tmp vals st s)(L:cR g cx st s I o)(H:gm g (cx.F st s) o vs){W:List V->List V->St->Prop}{P:Wn->Addr->abU->Ws->Prop}
 (J:∀c0 D s,c5 c0 (eV S scope) (bM scope) n false->hO c0 D->gL c0.stk c0.lvl A->r7 g c0 W I D vs.length s->cq g A (.compLoop (.ListComp B gens scope pos) 0 (.ref I) (.ref D) c0.env) (Made g c0 D λacc st'=>Q (.lst acc) ⟨st.loc,st'.h⟩) s)
 (hg:((afp (.ListComp B gens scope pos))[0]?).elim false (·.is_async != 0)=false) (w:W vs [] ⟨wi scope is st.loc,st.h⟩)
 (k:∀C D us h' Z,aI g (cx.res C) (.lst us::tmp) (.ref D::vals) ⟨st.loc,h'⟩ Z->C∉cx.rv->(∃m,Z.heap.Ns C m)->Q (.lst us) ⟨st.loc,h'⟩->P (.ref D) C (.ok .next) Z) :
 wpAny g.M A (newList []) (λacc Y=>WJ g.M A (aeB scope cx.env.globals (iQ cx.env.cells scope.names) [] cx.env.qual none .none (some cx.env)) (λcenv f=>
  cq g A (.compStart (.ListComp B gens scope pos) 0 (.ref I) acc { cenv with scope:=acj scope cx.env}) (P acc cenv.locals) f) E Y) E s:=by
 refine Zp (wpAny_newFunctionEnv O.noCell (λ_ h=>nomatch h) (λj U i=>?_) O.kind) (by rw[W5];decide)
 generalize hC:(s.heap.push { cls:=.type "list",data:=.seq ([]:List Wn).toArray}).objs.size=C at U i ⊢
 have hC:C=s.heap.objs.size+1:=hC.symm.trans (aa2 _ _)
 have d:s.heap.objs.size<=C:=hC▸XC _
 have G:∀{b},b<C->b≠C:=λh=>W8 h
 have hk:∀b o,s.heap.get? b=some o->j.get? b=some o:=λb o e=>(i.2 b (G (WK (W6 e) d))).trans (Wv _ (Wv _ e))
 have p:s.heap.objs.size≠C:=G (hC▸X7 _)
 have hD:j.get? s.heap.objs.size=some (sq "list" [] 0):=(i.2 _ p).trans (Wv _ (WR _ rfl))
 obtain⟨m,hm⟩:=R.loc
 have N:=R.into (tk:=s.toks+0) c O.cap rfl O.nd O.uq O.kind rfl d (Wr _) p hk ⟨_,hD⟩ U hm
 have c1:=O.sees (hp:=s.heap) (D:=s.heap.objs.size) (F:=cx.F st s) (m:=m) (env:=compEnvC scope (iQ cx.env.cells scope.names) C cx.env) c R.ok.kind rfl
 have lt:=W6 L.at_
 have L1:cR g (cx.comp (compEnvC scope (iQ cx.env.cells scope.names) C cx.env) m s.heap (bM scope) s.heap.objs.size (cx.F st s)) ⟨wi scope is st.loc,st.h⟩ { s with heap:=j,toks:=s.toks+0} I o:=
  ⟨L.big,L.unk,λq=>(Wo.mp q).elim (λe=>acH _ (e▸lt)) λq=>(Wo.mp q).elim (λe=>G (WK lt d) e) L.nrv,hk _ _ L.at_,L.fld⟩
 refine mn (yT L1.at_ H (J _ _ _ c1 N.2 oa (.mk rfl (N.1.held N.2 hD) L1 (H.mono N.1.wait) (WI _) w)) hg) λr Z h=>?_
 cases h with
 |mk R2 l q=>exact k C _ _ _ _ (R.outof d (Wr _) p hm R2 l) (R.notRv d) (R2.loc.imp λ_ z=>z.1) q
end
section
variable{g:Gl}{cx c0:Cx}{tmp tmp':List V}{vals vals':List Wn}{st st₀:St}{s s₀:Ws}{A:Xm}{x y z:Wn}{a b v u:V}{vs us acc:List V}{xs ys:List Wn}{F F':FZ}{E:Wn->Ws->Prop}{Q:V->St->Prop}{X:St->Prop}{hp:Heap}{tk n m:Nat}{I C D:Addr}{o o' ob ob':Obj}
def wj(g:Gl)(S scope:Zk)(n:Nat)(d:Expr)(gens:List abV)(pos:Pos)(W:List V->List V->(List V->St->Prop)->St->Prop):Prop:=
 ∀{A:Xm} {Q:List V->St->Prop} {I:Addr} {m:Nat} (c0:Cx) (D:Addr) (s:Ws),c5 c0 (eV S scope) (bM scope) n false->hO c0 D->gL c0.stk c0.lvl A->r7 g c0 (λvs acc st=>W vs acc Q st) I D m s->cq g A (.compLoop (.ListComp d gens scope pos) 0 (.ref I) (.ref D) c0.env) (Made g c0 D Q) s
theorem yU(k:∀cx,c5 cx (eV S scope) (bM scope) n false->TT g cx (Zb d cx.env) f)(hc:∀cx,c5 cx (eV S scope) (bM scope) n false->TB g cx (vf j cx.env) i)(e:∀cx,c5 cx (eV S scope) (bM scope) n false->bE g cx q w) :
 wj g S scope n q [⟨d,iter,j,0⟩] pos (λvs acc Q st=>acc.length+vs.length<=1000000∧iH f i w vs acc Q st):=λc0 D s c B p h=>vg (G9 _ _ _) c B p k hc e h
theorem yV(ht0:∀cx,c5 cx (eV S scope) (bM scope) n false->TT g cx (Zb t0 cx.env) Wt0)(hi:∀cx,c5 cx (eV S scope) (bM scope) n false->TI g cx (eval i1 cx.env) Wi)(ht1:∀cx,c5 cx (eV S scope) (bM scope) n false->TT g cx (Zb t1 cx.env) Wt1)
 (he:∀cx,c5 cx (eV S scope) (bM scope) n false->bE g cx elt We) (hset:∀env x,YF i1 env x=pure x):wj g S scope n elt [⟨t0,i0,[],0⟩,⟨t1,i1,[],0⟩] pos (fV Wt0 Wt1 Wi We):=λc0 D s c Lo oa h=>A1 c Lo oa ht0 hi ht1 he hset h
abbrev ru(scope:Zk)(is:List Nat)(W:List V->List V->(List V->St->Prop)->St->Prop)(q:PT):PT:=λQ X st=>q (λvs d=>iF vs λvs=>W vs [] (λacc st'=>Q (.lst acc) ⟨d.loc,st'.h⟩) ⟨wi scope is d.loc,d.h⟩) X st
theorem d0.own(O:d0 S scope names is):∀x∈scope.names,x.2=.local->scope.names.lookup x.1=some .local:=λx hx d=>dB O.uq (by rw[←d];exact hx)
theorem yW(O:d0 S scope names is)(c:c5 cx S names n true)(hi:TI g cx (eval iter cx.env) Wi)(loop:wj g S scope n elt (⟨target,iter,ifs,0⟩::rest) pos WL)(hset:∀x,YF iter cx.env x=pure x) :
 bE g cx (.ListComp elt (⟨target,iter,ifs,0⟩::rest) scope pos) (ru scope is WL Wi):=λ{A s tmp vals st Q X} oa R w=>
 gP (use:=none) rfl hset (O.clos c) O.kind O.own (aV (hi oa R w) λx s h=>aV h λy s u=>match u with
  | .mk hx R L it q=>hx▸vh O c oa R L it (P:=rt g.M A (hJ g cx X) none (Up g cx tmp vals Q)) loop rfl q λC D us h' s' R' nC hn q'=>⟨rfl,hn.imp λm z=>⟨z,λh' hs=>⟨R.drop.unres (tk:=s'.toks) R' nC hs,q'⟩⟩⟩) λ_ _ _ _ _=>rfl
theorem Hb(R:aI g cx tmp vals st s)(h:C∉cx.rv):hO (cx.res C) C:=
 have ne:∀{a},a∈cx.rv->a≠C:=λq e=>h (e▸q)
 {rv:=.head _,loc:=(ne R.ok.own).symm,frs:=λq=>h (R.ok.frs _ q),keep:=λq d=>ne (R.ok.keep q d).1,outer:=λq d=>ne (R.ok.outer q d).1,cells:=λp hp=>ne (R.ok.cells p hp).1}
theorem yX(O:d0 S scope names is)(c:c5 cx S names n true)(hi:TI g cx (eval iter cx.env) Wi)(loop:wj g S scope n elt (⟨target,iter,ifs,0⟩::rest) pos WL)(hset:∀x,YF iter cx.env x=pure x)
 {y:Str} {py spos:Pos} {i:Nat} (hy:cx.names[i]? = some y) (hk:jQ cx y) (hsw:Z2 (.ListComp elt (⟨target,iter,ifs,0⟩::rest) scope pos) (some (.Name y py)) spos.line (qk S)=pure true) :
 j3 g cx (.Assign [.Name y py] (.ListComp elt (⟨target,iter,ifs,0⟩::rest) scope pos) spos) (aD (aj i) (ru scope is WL Wi)):=λ{A s st Q X} oa R w=>by
 rw[exec_Assign_Name_used _ _ _ _ (by rw[dH (c.scope rfl)];exact hsw)]
 refine aU (aq (?_:wq g A (do let _ ←afd (.ListComp elt (⟨target,iter,ifs,0⟩::rest) scope pos) scope cx.env _ (newList []) false (eval iter cx.env) (some (Zb (.Name y py) cx.env))) _ _ _))
 refine aq (gP (Q:=λ_ s'=>wq g A (pure ()) (λ_ s'=>wq g A (pure acr) (OB g cx Q) (hJ g cx X) s') (hJ g cx X) s') (use:=some (Zb (.Name y py) cx.env)) rfl hset (O.clos c) O.kind O.own (aV (hi oa R w) λx s h=>aV h λz s u=>match u with
  | .mk hx R L it q=>hx▸vh O c oa R L it (Q:=λv st1=>Q .none ⟨st1.loc.set i (some v),st1.h⟩) (P:=rt g.M A (hJ g cx X) (some (Zb (.Name y py) cx.env)) _) loop rfl q λC D us h' s' R' nC hn q'=>⟨rfl,?_⟩) λ_ _ _ _ _=>rfl)
 refine Wy λno=>?_
 obtain⟨m,oC,es,ep,e1,e2⟩:=hn
 refine no ?_
 have Lo:=Hb R nC
 exact wpAny_assign_Name (gq (cx:=(cx.res C).hold C oC) (R'.held Lo e1) hy hk λs'' R4=>⟨m,⟨oC,es,ep,R4.keep _ (.head _),e2⟩,λh' hs=>ax (ax (.next (R.unres (tk:=s''.toks) (R4.less λp h=>.tail _ h) nC hs) q'))⟩)
end
section
theorem Le(j:s.heap.get? a=some o)(h:wq g A (k o) Q E s):wq g A (.load a p k) Q E s:=λy q d hc=>⟨o,j,h y q d hc⟩
theorem mv(l:ad1 g.M s.heap t a)(h:wq g A (k a) Q E s):wq g A (t>>=k) Q E s:=aq (aF (l _ _ _ _ (λ_ _ e=>e) h))
theorem gr{c:Code}{x:Wn}{id:String}(h:∀v p,GC v (c,p)=(Builtin.Bytes.sameRef x v&&ace.contains id))(hd:ace.contains id=false):j0 c:=λv p=>by rw[h v p,hd,aaj]
theorem Hc{id:String}{args:Args}{b:XQ}(hb:YG aaf id=some b)(d:j0 (.builtin id args))(h:wq g (A.under (.builtin id args)) (b args) (AI g A R) (λe q=>R (.error e) q) s):cq g A (.builtin id args) R s:=
 fE d (by
  show wq _ _ (match YG aaf id with|some b=>b args|none=>unsupported ((withoutEnding? id "#data").getD id)) _ _ s
  rw[hb];exact h)
theorem kY{id:String}{args:Args}{b:XQ}(i:(Code.builtin id args).quiet=true)(hb:YG aaf id=some b)(j:j0 (.builtin id args))
 (h:WJ g.M A.in1 (XZ id args) (λ_ d=>wq g (A.under (.builtin id args)) (b args) (AI g A R) (λe y=>R (.error e) y) d) (λe y=>R (.error e) y) s):cq g A (.call (.builtin id) args) R s:=
 fE (oq _ _) (show wq _ A.in1 (do XZ id args;ad0 (.builtin id args)) _ _ s from aq (aF (Ym h (λ_ d q=>ax ⟨i,j,Hc hb j q⟩) λ_ _ x=>x)))
theorem Lf{rest:List Wn}{init:Wn}(Y:Makes g.M s.heap C)(hi:ad1 g.M s.heap (abu (.ref C) "__init__") (some init))(hb:∀self,ad1 g.M s.heap (bindSpecial init self) (init,[self]))(hne:(some init != some (Value.builtin "object.__init__"))=true)
 (hq:cq g (A.under (.builtin "type.__call__" ⟨.ref C::rest,[]⟩)) (.call init ⟨.ref (s.heap.objs.size+1)::rest,[]⟩) (InitBack (s.heap.objs.size+1) R) { s with heap:=(s.heap.push aao).push (acq C s.heap.objs.size)}) :
 cq g A (.call (.ref C) ⟨rest,[]⟩) R s:=by
 have Y':=Y
 obtain⟨h,gg,d,t,os⟩:=s
 refine Wy λno=>?_
 obtain⟨⟨oc,od,cd,sl,hC,e1,e2,e4⟩,made,base,self,top,cal,typ⟩:=Y
 refine no ?_
 refine fE (λ_ _=>rfl) ?_
 refine Le hC ?_
 show wq _ _ (callAny.viaDunder (.ref C) _) _ _ _
 refine fD (λ_ q=>cal.at q) ?_
 dsimp only
 rw[tc_bind]
 refine dZ ((dZ (?_)))
 refine ax (a:=PySem.Fin.again (.call (.builtin "type.__call__") ⟨.ref C::rest,[]⟩)) ⟨rfl,λ_ _=>rfl,?_⟩
 refine kY (YK _ dD) aeF (gr (x:=.ref C) (id:= "type.__call__") (λ_ _=>rfl) rfl) (aeK tc_kind tc_split typ (tc_args _ _ _) ?_)
 have hm:ad1 g.M h (mroOf (.ref C)) cd.mro:=((Looks.ld (part:=none) hC).andThen .now).andThen .now
 refine mv hm ?_
 rw[e4]
 refine mv made ?_
 show wq _ _ (XU _ (call (.builtin "object.__new__") (.ref C::rest) [])>>=_) _ _ _
 refine aq (ay (aF (abt (new_K Y' hi (.inl hne) ?_))))
 have k:∀b o,h.get? b=some o->((h.push aao).push (acq C h.objs.size)).get? b=some o:=λb o e=>Wv _ (Wv _ e)
 have hx:((h.push aao).push (acq C h.objs.size)).get? (h.objs.size+1)=some (acq C h.objs.size):=by heap_get
 have t1:ad1 g.M ((h.push aao).push (acq C h.objs.size)) (abQ (.ref (h.objs.size+1))) (.ref C):=(Looks.ld hx).andThen .now
 have s1:=self.keeps k
 have i1:=hi.keeps k
 have b1:=(hb (.ref (h.objs.size+1))).keeps k
 have ii:ad1 g.M ((h.push aao).push (acq C h.objs.size)) (aaN (.ref (h.objs.size+1)) (.ref C)) true:=t1.andThen s1
 have sp:ad1 g.M ((h.push aao).push (acq C h.objs.size)) (specialOf (.ref (h.objs.size+1)) "__init__") (some init):=t1.andThen i1
 refine mv (s:=⟨(h.push aao).push (acq C h.objs.size),gg,d,t,os⟩) ii ?_
 refine aq (ay (mv sp (ay (mv b1 (aq (jN (mn hq λr s' z=>?_)))))))
 cases r with
 |error e=>exact z
 |ok f=>cases f with
  |ret v=>
   obtain⟨rfl,z⟩:=z
   exact ax (ax z)
  |_=>exact z.elim
end
inductive Kept(g:Gl)(C:Addr)(x d:Addr)(Q:V->AH->Prop)(v:V)(h:AH):Prop
 |inst {fs:List V} (hv:v=.none) (e1:h x=some (.inst C d)) (e2:h d=some (.fields C fs)) (t:(g.tab.lookup C).isSome=true) (l:fs.length=(g.names C).length) (q:Q (.inst C fs) (upd (upd h x none) d none))
 |ref (hv:v=.none) (q:Q (.ref x) h)
def Cx.down(cx:Cx):Cx:={cx with lvl:=cx.lvl-1}
section
variable{g:Gl}{cx c0:Cx}{tmp tmp':List V}{vals vals':List Wn}{st st₀:St}{s s₀:Ws}{A:Xm}{x y z:Wn}{a b v u:V}{vs us acc:List V}{xs ys:List Wn}{F F':FZ}{E:Wn->Ws->Prop}{Q:V->AH->Prop}{X:AH->Prop}{hp:Heap}{tk n m:Nat}{I C D:Addr}{o o' ob ob':Obj}{K:Frag}{h:AH}{fI:Addr}
theorem aI.down(R:aI g cx tmp vals st s):aI g cx.down tmp vals st s:={R with ok:={R.ok with},known:=λa o e=>let k:=R.known a o e;⟨k.low,k.nrv,k.obj⟩}
theorem aI.raised(R:aI g cx.down tmp vals st s):aI g cx tmp vals st s:={R with ok:={R.ok with},known:=λa o e=>let k:=R.known a o e;⟨k.low,k.nrv,k.obj⟩}
theorem hJ.raised{X:St->Prop}(u:hJ g cx.down X x s):hJ g cx X x s:=u.casesOn λR f q=>.mk R.raised f q
theorem gL.down(d:gL cx.stk cx.lvl A)(l:n+1<=cx.lvl):gL cx.down.stk cx.down.lvl (A.under (.builtin "type.__call__" ⟨.ref C::xs,[]⟩)) where
 frames:=by simp only[Around.under,d.frames];rfl
 depth:=Rt (u:=1) (Xz (abd (Wh (Ww (WI _)) l))) dD d.depth
 units:=Rt (u:=1) (Xz (abd (Wh (Ww (WI _)) l))) dD d.units
 handled:=d.handled
theorem aI.frzI(R:aI g cx tmp vals st s){x d:Addr}{fs:List V}(J:st.h x=some (.inst C d))(L:st.h d=some (.fields C fs))(t:(g.tab.lookup C).isSome=true)(l:fs.length=(g.names C).length) :
 aI g cx tmp vals ⟨st.loc,upd (upd st.h x none) d none⟩ s∧VR g (cx.F ⟨st.loc,upd (upd st.h x none) d none⟩ s) (.inst C fs) (.ref x):=
 have sub:∀a o,upd (upd st.h x none) d none a=some o->st.h a=some o:=λa o q=>(Yt (a=d)).elim (λz=>by rw[z,aB]at q;cases q) λz=>(Yt (a=x)).elim (λw=>by rw[aE z,w,aB]at q;cases q) λw=>by rwa [aE z,aE w]at q
 have no:∀{a},st.h a=none->upd (upd st.h x none) d none a=none:=λ{a} q=>match e:upd (upd st.h x none) d none a with
  |none=>rfl
  |some o=>by rw[sub a o e]at q;cases q
 have f:∀a o,cx.F st s a o->cx.F ⟨st.loc,upd (upd st.h x none) d none⟩ s a o:=λa o z=>⟨z.1,no z.2.1,z.2.2⟩
 have i:=R.known x _ J
 have c:=R.known d _ L
 ⟨R.forget sub,i.obj.elim λo1 h1=>c.obj.elim λo2 j=>by
  obtain⟨h1,rfl⟩:=h1
  obtain⟨j,ks,ys,n,rfl,p,k,B⟩:=j
  have hx:upd (upd st.h x none) d none x=none:=(Yt (x=d)).elim (λz=>by rw[z,aB]) λz=>by rw[aE z,aB]
  exact⟨t,.mk rfl ⟨h1,hx,i.nrv,c7 rfl rfl⟩ ⟨j,aB _ _ _,c.nrv,c7 rfl rfl⟩ (by rw[p,l,aau]) k (B.mono f)⟩⟩
theorem qa(T:Top g K)(S:makesIn K C=true)(Y:Xo K (.ref C) "__init__" = some (some (.ref fI)))(Z:typeIn K (.ref fI)=some (.type "function"))
 (G:∀x d,h x=none->h d=none->x≠d->iI g n (.ref fI) (.ref x::vs) (Kept g C x d Q) X (upd (upd h d (some (.fields C []))) x (some (.inst C d)))):iI g (n+1) (.ref C) vs Q X h:=by
 unfold iI at *
 intro cx A s tmp vals xs loc B U R c
 have j:K.In s.heap:=T.k.keeps R.base
 refine Lf (makes_of j S) (adB j Y) (λi=>bind_fn j i Z) rfl ?_
 have L:=R.alloc (tk:=s.toks) (a:=s.heap.objs.size) (o:=.fields C []) (hp:=s.heap.push aao) (λb o e=>Wv _ e) (Wr _) (WR _ rfl) ⟨[],[],0,rfl,rfl,rfl,rfl⟩
 have J:=L.alloc (tk:=s.toks) (a:=(s.heap.push aao).objs.size) (o:=.inst C s.heap.objs.size) (hp:=(s.heap.push aao).push (acq C s.heap.objs.size)) (λb o e=>Wv _ e) (Wr _) (WR _ rfl) rfl
 rw[aa2]at J
 refine mn (G _ _ (R.fresh (XC _)) (R.fresh (Wr _)) (Nat.succ_ne_self _) (cx:=cx.down) (Nat.le_sub_of_add_le B) (U.down B) (J.down.push (v:=.ref _) rfl) (congrArg adU c)) λr s' z=>?_
 match r,z with
 | .error e,z=>  exact z.raised
 | .ok (.ret w),.mk R' ⟨e,q⟩=>
  cases q with
  |inst p H e2 t l q=>
   have f:=R'.raised.pop.frzI H e2 t l
   exact⟨by have:=R'.tmp.1;rw[p]at this;exact this,.mk (f.1.push f.2) ⟨e,q⟩⟩
  |ref p q=>exact⟨by have:=R'.tmp.1;rw[p]at this;exact this,.mk (R'.raised.pop.push (v:=.ref _) rfl) ⟨e,q⟩⟩
end
structure MT where
 b:Option (String×BW):=none
 s:Option (String×BW):=none
 l:Option (String×BW):=none
 d:Option (String×BW):=none
 a:Option (String×BW):=none
 c:List (Addr×Addr):=[]
noncomputable def pick(m:MT)(v:V)(h:AH)(k:String×BW->Prop)(q:Addr->Prop):Prop:=vc (res h v) (fb:=λ_=>dS m.b k) (fs:=λ_=>dS m.s k) (fl:=λ_=>dS m.l k) (fc:=λc _=>dS (m.c.lookup c) q)
 (fr:=λa=>dS (h a) λo=>oc o (fd:=λ_ _=>dS m.d k) (fb:=λ_=>dS m.a k) (fi:=λc d=>dS (h d) λo=>oc o (ff:=λj _=>c=j∧dS (m.c.lookup c) q)))
noncomputable def av(g:Gl)(n:Nat)(m:MT)(o j:PT):PT:=λQ X st=>o (λv q=>pick m v q.h (λe=>j (λvs d=>iF vs λvs=>e.2 (v::vs) d.h λu h=>Q u ⟨d.loc,h⟩) X q)
 (λf=>j (λvs d=>iF vs λvs=>bW g n (.ref f) (v::vs) (λv h=>Q v ⟨d.loc,h⟩) (λh=>X ⟨d.loc,h⟩) d.h) X q)) X st
structure Nr(T:String)(name:Str)(id:String):Prop where
 attrs:PlainAttrs T
 slot:Slot T name id
 isM:abQ (.builtin id)=pure (.type "method_descriptor")
def BM(g:Gl)(T:String)(name:Str)(e:Option (String×BW)):Prop:=∀p,e=some p->Nr T name p.1∧fG g (.builtin p.1) p.2
noncomputable def oI(K:Frag)(C:Addr)(name:Str)(f:Addr):Bool:=plainGet K C name&&Xo K (.ref C) name==some (some (.ref f))&&isFn K (.ref f)&&keepIn K (.ref f)
structure TX(g:Gl)(K:Frag)(name:Str)(m:MT):Prop where
 b:BM g "bytes" name m.b
 s:BM g "str" name m.s
 l:BM g "list" name m.l
 d:BM g "dict" name m.d
 a:BM g "bytearray" name m.a
 c:∀c f,m.c.lookup c=some f->oI K c name f=true∧name∉g.names c
section
variable{g:Gl}{cx:Cx}{tmp:List V}{vals:List Wn}{st:St}{s:Ws}{A:Xm}{x y z:Wn}{a b v u:V}{F:FZ}{E:Wn->Ws->Prop}{Q:V->St->Prop}{X:St->Prop}{K:Frag}{name:Str}
theorem dC(id:String):Keeps g (.builtin id):=⟨.machine,.inr rfl,λA Q E s _ h=>Wq h⟩
theorem wk(T:Top g K)(e:keepIn K f=true):Keeps g f:=let⟨k,q,d⟩:=looks_keep (M:=g.M) e T.k;⟨k,q,d⟩
theorem r8(T:Top g K)(M:TX g K name m)(R:aI g cx tmp vals st s)(h:Nn g (cx.F st s) s.heap x c vs)(w:dS (m.c.lookup c) i)
 (k:∀f,Keeps g (.ref f)->i f->d (.ref f,[x]) s):WJ g.M A (getMethod x name pl) d E s:=by
 obtain⟨rfl,h,e,j,S,J⟩:=h
 obtain⟨f,p,w⟩:=aT w
 obtain⟨n1,n2⟩:=M.c c f p
 obtain⟨L,F⟩:=R.fr
 unfold oI at n1
 simp only[aay,beq_iff_eq]at n1
 obtain⟨⟨⟨h1,B⟩,D⟩,o⟩:=n1
 refine method_inst (C:=c) F T.k ⟨h,rfl,rfl,e⟩ h1 B D ?_ (k f (wk T o) w)
 unfold getL
 rw[KV (by rw[j];exact λq=>n2 (aaE q)),rX];rfl
end
section
variable{g:Gl}{cx:Cx}{tmp:List V}{vals:List Wn}{st:St}{s:Ws}{A:Xm}{x y z:Wn}{a b v u:V}{F:FZ}{E:Wn->Ws->Prop}{Q:V->St->Prop}{X:St->Prop}{K:Frag}{name:Str}{n:Nat}
theorem A3(T:Top g K)(M:TX g K name m)(R:aI g cx tmp vals st s)(i:VR g (cx.F st s) v x)(w:pick m v st.h k I)
 (h1:∀p,fG g (.builtin p.1) p.2->k p->Y (.builtin p.1,[x]) s) (J:∀f,Keeps g (.ref f)->I f->Y (.ref f,[x]) s):WJ g.M A (getMethod x name pl) Y E s:=by
 have bi:∀{T:String} {e:Option (String×BW)},BM g T name e->dS e k->s.TypeIs x T->(∀a,x=.ref a->∃o,s.heap.get? a=some o∧o.dict=none)->WJ g.M A (getMethod x name pl) Y E s:=λ{T e} B w t d=>by
  obtain⟨p,Z,w⟩:=aT w
  have b:=B p Z
  exact getMethod_builtin t b.1.attrs b.1.slot b.1.isM d (h1 p b.2 w)
 have q:=R.rsd i
 have D:vc (res st.h v) _ _ _ _ _ _ _ _ _:=w
 generalize res st.h v=v' at q D
 cases v' with
 |bytes b=>exact aA (g:=g) (F:=cx.F st s) q λt e=>by subst e;exact bi M.b D (Xn _ _ _) λa e=>nomatch e
 |str b=>exact aW (g:=g) (F:=cx.F st s) q λt e=>by subst e;exact bi M.s D (adf _ _ _) λa e=>nomatch e
 |lst b=>exact aI.seq q λa xs n e h l l' i=>by subst e;exact bi M.l D ⟨_,h,rfl⟩ λa e=>by cases e;exact⟨_,h,rfl⟩
 |inst c vs=>
  obtain⟨e,h,h',L,S,i⟩:=q.2
  have h1:(g.names c).length=vs.length:=by rw[←L,Wp,S,i.length]
  exact r8 T M R ⟨e,h.1,h'.1,by rw[L,←h1,aau],S,i⟩ D J
 |ref a=>
  obtain rfl:x=.ref a:=q
  obtain⟨o,G,w⟩:=aT D
  obtain⟨ob,j,r⟩:=(R.known _ _ G).obj
  cases o with
  |inst c d=>
   obtain⟨o,H,w⟩:=aT w
   cases o with
   |fields c' vs=>
    obtain⟨rfl,w⟩:=w
    obtain⟨x2,U,ks,xs,n,rfl,L,S,i⟩:=(R.known _ _ H).obj
    obtain rfl:ob=GB c d:=r
    exact r8 T M R ⟨rfl,j,U,L,S,i⟩ w J
   |_=>exact WC w
  |dict k l=>
   refine Wy λno=>?_
   obtain⟨_,rr,_,es,Z,⟨h1,J,h3⟩,h4⟩:=r
   refine no ?_
   exact bi M.d w ⟨_,j,h1⟩ λa e=>by cases e;exact⟨_,j,J⟩
  |ba bs=>
   obtain⟨_,rfl⟩:=r
   exact bi M.a w ⟨_,j,rfl⟩ λa e=>by cases e;exact⟨_,j,rfl⟩
  |_=>exact WC w
 |_=>exact WC D
theorem O7(T:Top g K)(M:TX g K name m)(S:cx.lvl=n)(Y:bE g cx o W1)(ha:AA g cx pos B D)(k:ac6 o name cx.env (eval o cx.env)=eval o cx.env)
 (e:aeC (B.length+([]:List ael).length) (Zq pos (Yb B cx.env)) (backToKw pos (adZ [] cx.env))=true) (c:(j.endLine==pos.line)=true) (d:(Zq pos (Yb B cx.env)).any (·.1)=false) :
 bE g cx (.Call (.Attribute o name j) B [] pos) (av g n m W1 D):=λ{A s tmp vals st Q X} oa R w=>by
 have i:methodCallPos true o cx.env j pos=pure pos:=by unfold methodCallPos;simp[c]
 rw[arm_eval_Call,k]
 refine Y.then_ oa R w λv x st s R q=>aU ?_
 unfold methodCall
 rw[e]
 refine aq (ay (aF (A3 T M R.pop R.tmp.1 q (λp hb w=>aq (Ng i (bO (dC _) d (aV (ha oa R w) λxs s u=>u.elim' λvs st R l q=>⟨R.base,?_⟩)))) λf L w=>aq (Ng i (bO L d (aV (ha oa R w) λxs s u=>u.elim' λvs st R l q=>⟨R.base,?_⟩))))))
 ·have U:=R.unL l
  have J:bo g (cx.F st s) (v::vs) ([x]++xs):=Wm U.2.tmp.1 U.1
  exact hb oa U.2.pop J q
 ·have U:=R.unL l
  exact CR S oa ({U.2.pop with tmp:=⟨U.2.tmp.1,bo.append U.1 U.2.tmp.2⟩}:aI g cx (v::vs++tmp) (x::xs++vals) st s) (congrArg adU l) q
end
section
open PySem.Builtin
namespace FX
theorem Gi:Slot "bytes" "join" "bytes.join" := .of (owner:= "bytes") (n:= "join") (by rw[Xh,WY];kernel_rfl) (by decide +kernel) (by decide +kernel) (by decide +kernel) (by first|exact .inl (by decide +kernel)|exact .inr (by decide +kernel)) (by rw[XG];kernel_rfl)
theorem Gj:abQ (.builtin "bytes.join")=pure (.type "method_descriptor"):=by show aan _=_;rw[YI];kernel_rfl
theorem EU:YG aaf "bytes.join" = some XQ.«bytes.join»:=by first|exact XX (by kernel_rfl)|exact XY (by kernel_rfl)
theorem EV:Slot "bytes" "split" "bytes.split" := .of (owner:= "bytes") (n:= "split") (by rw[Xh,WY];kernel_rfl) (by decide +kernel) (by decide +kernel) (by decide +kernel) (by first|exact .inl (by decide +kernel)|exact .inr (by decide +kernel)) (by rw[XG];kernel_rfl)
theorem EW:abQ (.builtin "bytes.split")=pure (.type "method_descriptor"):=by show aan _=_;rw[YI];kernel_rfl
theorem C0:YG aaf "bytes.split" = some XQ.«bytes.split»:=by first|exact XX (by kernel_rfl)|exact XY (by kernel_rfl)
theorem A4:Slot "bytes" "replace" "bytes.replace" := .of (owner:= "bytes") (n:= "replace") (by rw[Xh,WY];kernel_rfl) (by decide +kernel) (by decide +kernel) (by decide +kernel) (by first|exact .inl (by decide +kernel)|exact .inr (by decide +kernel)) (by rw[XG];kernel_rfl)
theorem A5:abQ (.builtin "bytes.replace")=pure (.type "method_descriptor"):=by show aan _=_;rw[YI];kernel_rfl
theorem AB:YG aaf "bytes.replace" = some XQ.«bytes.replace»:=by first|exact XX (by kernel_rfl)|exact XY (by kernel_rfl)
theorem EX:Slot "bytes" "lower" "bytes.lower" := .of (owner:= "bytes") (n:= "lower") (by rw[Xh,WY];kernel_rfl) (by decide +kernel) (by decide +kernel) (by decide +kernel) (by first|exact .inl (by decide +kernel)|exact .inr (by decide +kernel)) (by rw[XG];kernel_rfl)
theorem EY:abQ (.builtin "bytes.lower")=pure (.type "method_descriptor"):=by show aan _=_;rw[YI];kernel_rfl
theorem C1:YG aaf "bytes.lower" = some XQ.«bytes.lower»:=by first|exact XX (by kernel_rfl)|exact XY (by kernel_rfl)
theorem EZ:Slot "bytes" "upper" "bytes.upper" := .of (owner:= "bytes") (n:= "upper") (by rw[Xh,WY];kernel_rfl) (by decide +kernel) (by decide +kernel) (by decide +kernel) (by first|exact .inl (by decide +kernel)|exact .inr (by decide +kernel)) (by rw[XG];kernel_rfl)
theorem E0:abQ (.builtin "bytes.upper")=pure (.type "method_descriptor"):=by show aan _=_;rw[YI];kernel_rfl
theorem C2:YG aaf "bytes.upper" = some XQ.«bytes.upper»:=by first|exact XX (by kernel_rfl)|exact XY (by kernel_rfl)
theorem E1(a:Wn):Yu "bytes.lower" ⟨[a],[]⟩:=by unfold Yu;kernel_rfl
theorem E2(a:Wn):Yu "bytes.upper" ⟨[a],[]⟩:=by unfold Yu;kernel_rfl
theorem Gk(a b:Wn):Yu "bytes.join" ⟨[a,b],[]⟩:=by unfold Yu;kernel_rfl
theorem E4(a b:Wn):Yu "bytes.split" ⟨[a,b],[]⟩:=by unfold Yu;kernel_rfl
theorem A6(a b c:Wn):Yu "bytes.replace" ⟨[a,b,c],[]⟩:=by unfold Yu;kernel_rfl
theorem wm(a b c:Wn):Yu "bytes.startswith" ⟨[a,b,c],[]⟩:=by unfold Yu;kernel_rfl
end FX
noncomputable section
def hU(vs:List V):Option (List (List UInt8)):=ae5 (motive:=λ_=>Option (List (List UInt8))) (some []) (λv _ r=>r.bind λl=>match v with | .bytes i=>some (i::l)|_=>none) vs
def yY(vs:List V):Option (List (List Nat)):=ae5 (motive:=λ_=>Option (List (List Nat))) (some []) (λv _ r=>r.bind λl=>match v with | .str i=>some (i::l)|_=>none) vs
def He:BW:=λvs h Q=>Yn (motive:=λ_=>Prop) vs False λa r=>AJ a λb=>Yn (motive:=λ_=>Prop) r False λc r=>AJ c λc=>Yn (motive:=λ_=>Prop) r (Q (.int (a4 b c 0)) h) λk r=>kL k λk=>(0<=k∧r=[])∧Q (.int (a4 b c k.toNat)) h
def yZ:BW:=b3 λa c k h Q=>AJ a λb=>AJ c λc=>kL k λk=>0<=k∧Q (.bool (dA b c k.toNat)) h
def C3:BW:=b1 λa h Q=>AJ a λb=>Q (.bytes (b.map acw)) h
def C4:BW:=b1 λa h Q=>AJ a λb=>Q (.bytes (b.map acv)) h
def C5:BW:=b2 λa c h Q=>AJ a λb=>AJ c λc=>only c λc=>b.length<=900000∧Q (.lst ((aL c b).map .bytes)) h
def vi:BW:=b3 λa c w h Q=>AJ a λb=>AJ c λc=>AJ w λw=>only c λc=>(b.length+b.length*w.length<=16777216∧(aM w (aL c b)).length<=16777216)∧Q (.bytes (aM w (aL c b))) h
def Hf:BW:=b2 λa l h Q=>AJ a λb=>iF (res h l) λvs=>dS (hU vs) λps=>(aM b ps).length<=16777216∧Q (.bytes (aM b ps)) h
def Hg:BW:=b2 λa l h Q=>Nh a λb=>iF (res h l) λvs=>dS (yY vs) λps=>(b=[]∧ps.flatten.length<=16777216)∧Q (.str ps.flatten) h
def iJ(x:List Nat)(c:Nat):Int:=match ac8 ⟨x.toArray⟩ ⟨#[c]⟩ 0 x.length 1 with
 |i::_=>(i:Int)
 | []=>-1
def Hh:BW:=b2 λa c h Q=>Nh a λx=>Nh c λc=>only c λc=>Q (.int (iJ x c)) h
def C6:BW:=b1 λa h Q=>Nh a λx=>(∀c∈x,c<128)∧Q (.str (x.map X0)) h
def y0:BW:=b2 λa v h Q=>Ox a λa=>dS (h a) λo=>oc o (fl:=λvs=>vs.length<1000000∧Q .none (upd h a (some (.list (vs++[v])))))
def Nt:BW:=b1 λa h Q=>Ox a λa=>dS (h a) λo=>oc o (fl:=λvs=>dS vs.getLast? λv=>Q v (upd h a (some (.list vs.dropLast))))
def Hi:BW:=b3 λa i d h Q=>Ox a λa=>dS (h a) λo=>oc o (fd:=λk l=>dS (k.key i) λq=>Q ((atKey l q).getD d) h)
end
end
section
open PySem.Builtin
section
theorem wo(h:two vs k):∃a b,vs=[a,b]∧k a b:=match vs,h with
 |a::r,h=>let⟨b,e,q⟩:=c9 h;⟨a,b,by rw[e],q⟩
theorem E5(h:three vs k):∃a b c,vs=[a,b,c]∧k a b c:=match vs,h with
 |a::r,h=>let⟨b,c,e,q⟩:=wo h;⟨a,b,c,by rw[e],q⟩
theorem bo.two{P:Prop}(h:bo g F [a,b] xs)(k:∀x y,xs=[x,y]->VR g F a x->VR g F b y->P):P:=by
 cases xs with
 |nil=>exact WC h
 |cons x r=>exact bo.one h.2 λy e hy=>k x y (congrArg (x::·) e) h.1 hy
theorem fG.two{k:V->V->AH->VP->Prop}(h:∀{cx A s tmp vals st a b x y Q E},gL cx.stk cx.lvl A->aI g cx tmp vals st s->VR g (cx.F st s) a x->VR g (cx.F st s) b y->k a b st.h (λv h=>Q v ⟨st.loc,h⟩)->WJ g.M A (call f [x,y]) (Up g cx tmp vals Q) E s):fG g f (b2 k):=λoa R hv w=>by
 obtain⟨a,b,rfl,q⟩:=wo w
 exact hv.two λx y e hx hy=>by subst e;exact aF (h oa R hx hy q)
theorem fG.three(h:∀{cx A s tmp vals st a b c x y z Q E},gL cx.stk cx.lvl A->aI g cx tmp vals st s->VR g (cx.F st s) a x->VR g (cx.F st s) b y->VR g (cx.F st s) c z->k a b c st.h (λv h=>Q v ⟨st.loc,h⟩)->WJ g.M A (call f [x,y,z]) (Up g cx tmp vals Q) E s):fG g f (b3 k):=λoa R hv w=>by
 obtain⟨a,b,c,rfl,q⟩:=E5 w
 exact hv.three λx y z e hx hy hz=>by subst e;exact aF (h oa R hx hy hz q)
theorem Hj:fG g (.builtin "bytes.find") He:=λ{cx A s tmp vals st vs xs Q E} oa R hv w=>by
 cases vs with
 |nil=>exact WC w
 |cons a r=>cases r with
  |nil=>
   obtain⟨b,rfl,w⟩:=cK w
   exact WC w
  |cons c r=>
   obtain⟨b,rfl,w1⟩:=cK w
   obtain⟨c,rfl,w2⟩:=cK w1
   cases r with
   |nil=>exact hv.two λx y e hx hy=>aA hx λt e1=>aA hy λt' e2=>by subst e e1 e2;exact aF (abv FX.Rg (Xn s _ _) FX.Ot (FX.Ou _ _) yv (R.toks.up cD w2))
   |cons k r=>
    obtain⟨k,rfl,w3⟩:=bu w2
    obtain⟨⟨h0,rfl⟩,w3⟩:=w3
    obtain⟨j,rfl⟩:=abF h0
    exact hv.three λx y z e hx hy hz=>aA hx λt e1=>aA hy λt' e2=>aN hz λt2 e3=>by subst e e1 e2 e3;exact aF (abv FX.Rg (Xn s _ _) FX.Ot (FX.Ov _ _ _) (yw j) (R.toks.up cD w3))
theorem A7:fG g (.builtin "bytes.startswith") yZ:=fG.three λ{cx A s tmp vals st a b c x y z Q E} oa R hx hy hz w=>by
 obtain⟨b,rfl,w1⟩:=cK w
 obtain⟨c,rfl,w2⟩:=cK w1
 obtain⟨k,rfl,h0,w3⟩:=bu w2
 obtain⟨j,rfl⟩:=abF h0
 exact aA hx λt e1=>aA hy λt' e2=>aN hz λt2 e3=>by subst e1 e2 e3;exact abv aej (Xn s _ _) FB.entry_bytes_startswith (FX.wm _ _ _) (mi j) (R.up mq w3)
theorem E6:fG g (.builtin "bytes.lower") C3:=fG.one λ{cx A s tmp vals st v x Q E} oa R hx w=>by
 obtain⟨b,rfl,w1⟩:=cK w
 have hz:(b.map acw).length<=16777216:=by rw[Wp];exact ZE hx
 exact aA hx λt e=>by subst e;exact abv FX.EX (Xn s _ _) FX.C1 (FX.E1 _) yx ⟨by rw[Wu,W5];exact hz,R.toks.up (v:=.bytes _) (cQ hz) w1⟩
theorem za{b:List UInt8}{t:Tok}:afr (XQ.«bytes.upper» ⟨[.bytes b.toArray t],[]⟩) (.bytes (b.map acv).toArray):=
 .of_wp λM A E s Q hq=>by
  show WJ M A (mkBytes (b.map acv).toArray>>=λv=>ret v) _ E s
  exact Wl (aaS (Wq ⟨_,rfl,hq.2⟩) hq.1)
theorem E7:fG g (.builtin "bytes.upper") C4:=fG.one λ{cx A s tmp vals st v x Q E} oa R hx w=>by
 obtain⟨b,rfl,w1⟩:=cK w
 have hz:(b.map acv).length<=16777216:=by rw[Wp];exact ZE hx
 exact aA hx λt e=>by subst e;exact abv FX.EZ (Xn s _ _) FX.C2 (FX.E2 _) za ⟨by rw[Wu,W5];exact hz,R.toks.up (v:=.bytes _) (cQ hz) w1⟩
theorem Sg(t:gJ ps xs):(∀p∈ps,p.length<=16777216)->bo g F (ps.map .bytes) xs:=by
 induction t with
 |nil=>exact λ_=>rfl
 |cons t ih=>exact λh=>⟨cQ (h _ (.head _)),ih λp hp=>h p (.tail _ hp)⟩
theorem E8:fG g (.builtin "bytes.split") C5:=fG.two λ{cx A s tmp vals st a b x y Q E} oa R hx hy w=>by
 obtain⟨b,rfl,w1⟩:=cK w
 obtain⟨c,rfl,w2⟩:=cK w1
 obtain⟨c,rfl,hb,w3⟩:=c9 w2
 exact aA hx λt e1=>aA hy λt' e2=>by
  subst e1 e2
  refine ZX FX.EV (Xn s _ _) FX.C0 (FX.E4 _ _) (yA (Wh hb dD)) λxs n hxs=>?_
  have hv:bo g (cx.F st s) ((aL c b).map .bytes) xs:=Sg hxs λp hp=>Wh (mj c b p hp) (Wh hb dD)
  have R':=R.keeps (tk:=n) (hp:=s.heap.push (sq "list" xs 0)) λb o e=>Wv _ e
  exact⟨R'.push (v:=.lst _) (show bQ _ _ _ _ from .mk rfl (R.new (λb o e=>Wv _ e) (Wr _) (WR _ rfl) (c7 rfl rfl)) (by rw[hxs.length];exact Wh (rM c b) (Wh (Ww hb) dD)) (hv.mono λa o z=>⟨Wv _ z.1,z.2⟩)),w3⟩
theorem zb:fG g (.builtin "bytes.replace") vi:=fG.three λ{cx A s tmp vals st a b c x y z Q E} oa R hx hy hz w=>by
 obtain⟨b,rfl,w1⟩:=cK w
 obtain⟨c,rfl,w2⟩:=cK w1
 obtain⟨nw,rfl,w3⟩:=cK w2
 obtain⟨c,rfl,hl,w4⟩:=c9 w3
 exact aA hx λt e1=>aA hy λt' e2=>aA hz λt2 e3=>by subst e1 e2 e3;exact ZX FX.A4 (Xn s _ _) FX.AB (FX.A6 _ _ _) (tT hl.1 hl.2) λt' k=>R.toks.up (v:=.bytes _) (cQ hl.2) w4
end
end
section
open PySem.Builtin
section
variable{g:Gl}{cx:Cx}{tmp:List V}{vals:List Wn}{st:St}{s:Ws}{A:Xm}{x y z:Wn}{a b c v u:V}{F:FZ}{E:Wn->Ws->Prop}{Q:V->St->Prop}{X:St->Prop}{K:Frag}{f:Wn}{vs:List V}{xs:List Wn}
theorem wt:∀{vs:List V} {xs:List Wn} {ps:List (List UInt8)},bo g F vs xs->hU vs=some ps->gJ ps xs:=by
 intro w1
 induction w1 with
 |nil=>
  intro _ _ h e
  cases h;cases e;exact .nil
 |cons v r ih=>
  intro w2
  cases w2 with
  |nil=>
   intros;exact WC ‹_›
  |cons x xs=>
   intro ps h e
   obtain⟨l,e1,e2⟩:=YO.mp (show(hU r).bind _=some ps from e)
   cases v with
   |bytes i=>cases e2;exact aA h.1 λt q=>by rw[q];exact .cons (ih h.2 e1)
   |_=>exact bS e2
theorem zc:∀{vs:List V} {xs:List Wn} {ps:List (List Nat)},bo g F vs xs->yY vs=some ps->∃l:List (Str×Tok),xs=strValues l∧l.map (·.1)=ps.map λp=>(⟨p.toArray⟩:Str):=by
 intro w1
 induction w1 with
 |nil=>
  intro _ _ h e
  cases h;cases e;exact⟨[],rfl,rfl⟩
 |cons v r ih=>
  intro w2
  cases w2 with
  |nil=>
   intros;exact WC ‹_›
  |cons x xs=>
   intro ps h e
   obtain⟨l,e1,e2⟩:=YO.mp (show(yY r).bind _=some ps from e)
   cases v with
   |str i=>
    cases e2
    refine aW h.1 λt q=>?_
    obtain⟨l',e3,e4⟩:=ih h.2 e1
    exact⟨(_,t)::l',by rw[q,e3];rfl,by rw[WZ,e4];rfl⟩
   |_=>exact bS e2
theorem vj{P:Prop}{vs:List V}(R:aI g cx tmp vals st s)(h:VR g (cx.F st s) v x)(e:res st.h v=.lst vs)(k:∀a xs n,x=.ref a->s.heap.get? a=some (sq "list" xs n)->xs.length<=1000000->xs.length=vs.length->bo g (cx.F st s) vs xs->P):P:=by
 have h':=R.rsd h
 rw[e]at h'
 exact aI.seq h' k
theorem Hk:fG g (.builtin "bytes.join") Hf:=fG.two λ{cx A s tmp vals st a b x y Q E} oa R hx hy w=>by
 obtain⟨b,rfl,w1⟩:=cK w
 obtain⟨vs,e,w2⟩:=eT w1
 obtain⟨ps,ep,hl,w3⟩:=aT w2
 exact aA hx λt e1=>vj R hy e λa xs n e2 ho _ _ hv=>by subst e1 e2;exact ZX FX.Gi (Xn s _ _) FX.EU (FX.Gk _ _) (AG (wt hv ep) hl) ⟨ho,λt' k=>R.toks.up (v:=.bytes _) (cQ hl) w3⟩
theorem zd(ps:List (List Nat)):(ZZ ⟨#[]⟩ (ps.map λp=>(⟨p.toArray⟩:Str)))=⟨ps.flatten.toArray⟩:=by
 have main:∀(l:List (List Nat)) (acc:List Nat),(l.map λp=>(⟨p.toArray⟩:Str)).foldl (λacc p=>acc++(#[]:Array Nat)++p.cps) acc.toArray=(acc++l.flatten).toArray:=by
  intro l
  induction l with
  |nil=>intro acc;simp
  |cons a r ih=>
   intro acc
   have:acc.toArray++(#[]:Array Nat)++(⟨a.toArray⟩:Str).cps=(acc++a).toArray:=by simp
   rw[WZ,aaL]
   rw[this,ih];simp
 unfold ZZ
 cases ps with
 |nil=>rfl
 |cons a r=>
  rw[WZ]
  have:=main r a
  rw[this];simp
theorem E9(l:List (List Nat))(k:Nat):(l.map λp=>(⟨p.toArray⟩:Str)).toArray.foldl (λn (x:Str)=>n+x.length+(⟨([]:List Nat).toArray⟩:Str).length) k=k+l.flatten.length:=by
 rw(config:={}) [←Array.foldl_toList]
 show(l.map λp=>(⟨p.toArray⟩:Str)).foldl (λn (x:Str)=>n+x.length+0) k=_
 induction l generalizing k with
 |nil=>rfl
 |cons a r ih=>
  have e1:(⟨a.toArray⟩:Str).length=a.length:=Wu ..
  rw(config:={}) [WZ,aaL,ih,e1,YR,Wk,aeT,WV]
theorem Hl:fG g (.builtin "str.join") Hg:=fG.two λ{cx A s tmp vals st a b x y Q E} oa R hx hy w=>by
 obtain⟨b,rfl,w1⟩:=hN w
 obtain⟨vs,e,w2⟩:=eT w1
 obtain⟨ps,ep,⟨rfl,hl⟩,w3⟩:=aT w2
 refine aW hx λt e1=>vj R hy e λa xs n e2 ho _ _ hv=>?_
 subst e1 e2
 obtain⟨l,rfl,el⟩:=zc hv ep
 refine ZX F.slot_str_join (adf s _ _) F.entry_str_join (F.args_str_join_2 _ _) (meets_str_join_list ⟨([]:List Nat).toArray⟩ t a l ?_) ⟨⟨_,ho,rfl,_,rfl⟩,?_⟩
 ·rw[el]
  rw[E9 ps 0,W5,Xx]
  exact decide_eq_false (Xq.mpr hl)
 ·have eg:ZZ ⟨([]:List Nat).toArray⟩ (l.map (·.1))=⟨ps.flatten.toArray⟩:=by rw[el];exact zd ps
  have bc:∀t' tk,Up g cx tmp vals Q (.str ⟨ps.flatten.toArray⟩ t') { s with toks:=tk}:=λt' tk=>R.toks.up (v:=.str _) (e7 hl) w3
  have szf:(⟨ps.flatten.toArray⟩:Str).length<=sizeLine:=by show ps.flatten.toArray.size<=_;rw[Wu,W5];exact hl
  rcases l with _|⟨p,_|⟨p',r⟩⟩
  ·show Made.post (.str (ZZ _ _)) _ _
   rw[eg];exact⟨szf,bc _ _⟩
  ·have e2:p.1=⟨ps.flatten.toArray⟩:=by
    rcases ps with _|⟨z,_|⟨z',r'⟩⟩
    ·cases el
    ·have:p.1=⟨z.toArray⟩:=(Zr el).1
     rw[this,YR,List.flatten_nil,WT]
    ·cases (Zr el).2
   show Up g cx tmp vals Q (.str p.1 p.2) s
   rw[e2];exact bc _ _
  ·show Made.post (.str (ZZ _ _)) _ _
   rw[eg];exact⟨szf,bc _ _⟩
end
end
section
open PySem.Builtin
section
theorem Hm:fG g (.builtin "str.find") Hh:=fG.two λ{cx A s tmp vals st a b x y Q E} oa R hx hy w=>by
 obtain⟨x,rfl,w1⟩:=hN w
 obtain⟨c,rfl,w2⟩:=hN w1
 obtain⟨c,rfl,w3⟩:=c9 w2
 refine aW hx λt e1=>aW hy λt' e2=>?_
 subst e1 e2
 refine abv F.slot_str_find (adf s _ _) F.entry_str_find (F.args_str_find_2 _ _) (gives_str_find _ _ _ _) ?_
 rw[show(⟨x.toArray⟩:Str).length=x.length from Wu ..]
 exact R.toks.up (v:=.int (iJ x c)) cD w3
theorem Fb:fG g (.builtin "str.upper") C6:=fG.one λ{cx A s tmp vals st v x Q E} oa R hx w=>by
 obtain⟨x,rfl,hA,w1⟩:=hN w
 refine aW hx λt e1=>?_
 subst e1
 have hl:(x.map X0).length<=16777216:=by rw[Wp];exact ZE hx
 have e:Txt.upper ⟨x.toArray⟩=⟨(x.map X0).toArray⟩:=by
  rw[PyProof.Rows.upper_ascii (by simpa using hA)]
  simp
 refine SC.upper ?_ ?_
 ·rw[e]
  show Builtin.Str.tooLong (x.map X0).toArray.size=false
  rw[Wu,W5]
  exact decide_eq_false (Xq.mpr hl)
 ·rw[e]
  exact R.toks.up (v:=.str _) (e7 hl) w1
set_option tactic.hygienic true in
theorem A8:fG g (.builtin "list.append") y0:=fG.two λ{cx A s tmp vals st a v x y Q E} oa R hx hy w=>by
 obtain⟨a,rfl,w1⟩:=jO w
 obtain⟨o,e,w2⟩:=aT w1
 obtain rfl:x=.ref a:=hx
 cases o <;> first|exact WC w2|skip
 rename_i vs
 obtain⟨hl,q⟩:=w2
 obtain⟨ob,ho,xs,n,rfl,hn,hv⟩:=(R.known _ _ e).obj
 refine ZX ac1 ⟨_,ho,rfl⟩ F.entry_list_append (F.args_list_append_2 _ _) (list_append a xs.toArray n y (by rw[Wu,W5];exact Wh hn dD)) ⟨ho,?_⟩
 have e1:(s.heap.update a (Xs λx=>x.push y)).get? a=some (sq "list" (xs++[y]) (n+1)):=by
  rw[Xi _ ho rfl]
  unfold sq Xs
  simp
 exact⟨(R.turn (tk:=s.toks) (o:=.list (vs++[v])) e (.update ..) e1 ⟨xs++[y],_,rfl,by rw[Wk,hv.length];exact hl,bo.append hv ⟨hy,rfl⟩⟩).push (v:=.none) gp,q⟩
set_option tactic.hygienic true in
theorem Lg:fG g (.builtin "dict.get") Hi:=fG.three λ{cx A s tmp vals st a i d x y z Q E} oa R hx hy hz w=>by
 obtain⟨a,rfl,w1⟩:=jO w
 obtain⟨o,e,w2⟩:=aT w1
 obtain rfl:x=.ref a:=hx
 cases o <;> first|exact WC w2|skip
 rename_i k l
 obtain⟨kk,hkk,q⟩:=aT w2
 obtain⟨r,hl,hr,hD,hsys⟩:=R.dict e
 refine call_meetsIn F.slot_dict_get hD.typeIs F.entry_dict_get (F.args_dict_get_3 _ _ _) (meets_dict_get_default (k.kind g.prog g.w) a (k:=kk) (DK.is hy hkk) hsys z) ⟨_,hD.mapOf,?_⟩
 rcases hr.at_ kk with⟨e1,e2⟩|⟨v,x,e1,e2,h⟩
 ·rw[e2]
  rw[e1]at q
  exact R.toks.up (VR.mono (λa o h=>h) _ _ hz) q
 ·rw[e2]
  rw[e1]at q
  exact R.toks.up (VR.mono (λa o h=>h) _ _ h) q
set_option tactic.hygienic true in
theorem Lh:fG g (.builtin "list.pop") Nt:=fG.one λ{cx A s tmp vals st v x Q E} oa R hx w=>by
 obtain⟨a,rfl,w1⟩:=jO w
 obtain⟨o,e,w2⟩:=aT w1
 obtain rfl:x=.ref a:=hx
 cases o <;> first|exact WC w2|skip
 rename_i vs
 obtain⟨v,ev,q⟩:=aT w2
 obtain⟨ob,ho,xs,n,rfl,hn,hv⟩:=(R.known _ _ e).obj
 obtain⟨us,rfl⟩:∃us,vs=us++[v]:=⟨vs.dropLast,by rw[List.getLast?_eq_some_iff]at ev;obtain⟨us,rfl⟩:=ev;rw[aci]⟩
 obtain⟨ys,y,rfl,h1,h2⟩:∃ys y,xs=ys++[y]∧bo g (cx.F st s) us ys∧VR g (cx.F st s) v y:=by
  have hl:us.length=(xs.take us.length).length:=by rw[Xr,hv.length,Wk];exact(Z8 (WA _ _)).symm
  rw[←YJ us.length xs]at hv
  have z:=bo.split hl hv
  exact z.2.one λy e2 hy=>⟨_,y,by rw[←e2,YJ],z.1,hy⟩
 rw[aci]at q
 refine ZX F.slot_list_pop ⟨_,ho,rfl⟩ F.entry_list_pop (F.args_list_pop_1 _) (PySem.MeetsSeq.list_pop_last a (ys++[y]).toArray n y (by simp) (by rw[Wu,W5];exact Wh hn dD)) ⟨ho,?_⟩
 have e1:(s.heap.update a (Xs λxs=>xs.eraseIdxIfInBounds ((ys++[y]).toArray.size-1))).get? a=some (sq "list" ys (n+1)):=by
  rw[Xi _ ho rfl]
  have z:(ys++[y]).toArray.eraseIdxIfInBounds ((ys++[y]).toArray.size-1)=ys.toArray:=by
   rw[List.eraseIdxIfInBounds_toArray]
   congr 1
   simp[List.eraseIdx_append_of_length_le]
  unfold sq Xs
  simp only[z]
  simp
 exact⟨(R.push h2).turn (tk:=s.toks) (o:=.list us) e (.update ..) e1 ⟨ys,_,rfl,Wh (by rw[Wk];exact WA _ _) hn,h1⟩,q⟩
end
end
section
open Sem (wp)
open PySem.Builtin
namespace FX
theorem Hn:mroOf (.type "bytearray")=pure [.type "bytearray",.type "object"]:=by rw[mroOf_type];kernel_rfl
theorem tY:abu (.type "bytearray") "__new__" = pure (some (.builtin "bytearray.__new__")):=by rw[Xh,WY];kernel_rfl
theorem wu:Slot "bytearray" "__init__" "bytearray.__init__" := .of (owner:= "bytearray") (n:= "__init__") (by rw[Xh,WY];kernel_rfl) dD dD dD (.inl dD) (by rw[XG];kernel_rfl)
theorem Ho:Slot "bytearray" "append" "bytearray.append" := .of (owner:= "bytearray") (n:= "append") (by rw[Xh,WY];kernel_rfl) dD dD dD (.inr dD) (by rw[XG];kernel_rfl)
theorem Gn:Slot "bytearray" "reverse" "bytearray.reverse" := .of (owner:= "bytearray") (n:= "reverse") (by rw[Xh,WY];kernel_rfl) dD dD dD (.inr dD) (by rw[XG];kernel_rfl)
theorem Nu:Slot "bytearray" "__len__" "bytearray.__len__" := .of (owner:= "bytearray") (n:= "__len__") (by rw[Xh,WY];kernel_rfl) dD dD dD (.inl dD) (by rw[XG];kernel_rfl)
theorem Rn:TypeCalled "bytearray" "bytearray.__new__" "bytearray.__init__" :=
 ⟨dD,dD,⟨_,_,Hn⟩,madeBy_type Hn tY dD,dD,by rw[XG];kernel_rfl,wu⟩
theorem Nv:checkTypeCall "bytearray" ⟨[],[]⟩=pure ():=by kernel_rfl
theorem O8:XZ "bytearray.__new__" ⟨[.type "bytearray"],[]⟩=pure ():=by kernel_rfl
theorem Li:YG aaf "bytearray.__new__" = some XQ.«list.__new__»:=entryFor_alias (id':= "list.__new__") (by rw[abH];kernel_rfl) dD dD (by rw[abH];kernel_rfl)
theorem KD:YG aaf "bytearray.__init__" = some XQ.«bytearray.__init__»:=by first|exact XX (by kernel_rfl)|exact XY (by kernel_rfl)
theorem Gp:YG aaf "bytearray.append" = some XQ.«bytearray.append»:=by first|exact XX (by kernel_rfl)|exact XY (by kernel_rfl)
theorem Fe:YG aaf "bytearray.reverse" = some XQ.«bytearray.reverse»:=by first|exact XX (by kernel_rfl)|exact XY (by kernel_rfl)
theorem Lj:YG aaf "bytearray.__len__" = some XQ.«bytearray.__len__»:=by first|exact XX (by kernel_rfl)|exact XY (by kernel_rfl)
theorem Lk:plainId "bytearray.__new__" = true:=dD
theorem Nw:afo (.type "bytearray") (.type "bytearray")=pure true:=by rw[XG];kernel_rfl
theorem Hp(a b:Wn):Yu "bytearray.append" ⟨[a,b],[]⟩:=by unfold Yu;kernel_rfl
theorem Gq(a:Wn):Yu "bytearray.reverse" ⟨[a],[]⟩:=by unfold Yu;kernel_rfl
theorem Nx(a:Wn):Yu "bytearray.__len__" ⟨[a],[]⟩:=by unfold Yu;kernel_rfl
theorem Ll(a:Wn):Yu "bytearray.__init__" ⟨[a],[]⟩:=by unfold Yu;kernel_rfl
theorem Hq:abQ (.builtin "bytearray.append")=pure (.type "method_descriptor"):=by show aan _=_;rw[YI];kernel_rfl
theorem Gr:abQ (.builtin "bytearray.reverse")=pure (.type "method_descriptor"):=by show aan _=_;rw[YI];kernel_rfl
theorem O9:abu (.type "bytearray") "__release_buffer__" = pure (some (.builtin "bytearray.__release_buffer__")):=by rw[Xh,WY];kernel_rfl
theorem Ny:abu (.type "bytearray") "__bytes__" = pure none:=by rw[Xh,WY];kernel_rfl
theorem Nz:abu (.type "bytearray") "__index__" = pure none:=by rw[Xh,WY];kernel_rfl
theorem Ro:abu (.type "bytearray") "__buffer__" = pure (some (.builtin "bytearray.__buffer__")):=by rw[Xh,WY];kernel_rfl
theorem Sh:PlainAttrs "bytearray" := ⟨⟨"bytearray.__getattribute__",by rw[Xh,WY];kernel_rfl,dD⟩,by rw[Xh,WY];kernel_rfl⟩
end FX
abbrev Ff(b:List UInt8):Obj:={cls:=.type "bytearray",data:=.bytearray b.toArray}
section
variable{g:Gl}{cx:Cx}{tmp:List V}{vals:List Wn}{st:St}{s:Ws}{A:Xm}{x y z:Wn}{a v u:V}{F:FZ}{E:Wn->Ws->Prop}{Q:V->St->Prop}{X:St->Prop}{K:Frag}{f:Wn}{vs:List V}{xs:List Wn}{d:Addr}{b:List UInt8}
theorem ze{Q:Bool->Ws->Prop}(h:Q false s):wq g A (Bytes.exported (.ref d)) Q E s:=λj p _ hC=>by
 rw[yE,aeM]
 show wp _ j (Sem.stack _) _ _ p s
 rw[Sem.wp_stack]
 refine @Eq.subst Bool (λb=>Q b s) false _ (Eq.symm ?_) h
 rw[aai]
 intro q i
 rw[Bool.not_eq_true]
 exact(Wo.mp i).elim (λe=>by rw[e];exact hC.1 _ _) λh=>hC.2 q h _ _
theorem C7{Q:Bool->Ws->Prop}(q:s.heap.get? d=some (Ff b))(h:Q false s):wq g A (Bytes.exported (.ref d) <||> (do return (←Bytes.exportsOf (.ref d))>0)) Q E s:=by
 refine aq (ze ?_)
 show wq _ _ (do let n ←Bytes.exportsOf (.ref d);pure (decide (n>0)):Sem Bool) _ _ _
 refine aq ?_
 exact aF (Wl (aaM q (Wq (ax h))))
theorem r9{f:Array UInt8->Array UInt8}{Q:Unit->Ws->Prop}(ho:s.heap.get? d=some (Ff b))(hsz:(f b.toArray).size<=16777216)
 (h:∀h',Xp d s.heap h'->h'.get? d=some (Ff (f b.toArray).toList)->Q () { s with heap:=h'}):wq g A (aeN (.ref d) f) Q E s:=by
 refine aF ?_
 show WJ _ _ (updateBytearray d f) _ _ s
 refine c6 (λ_ q=>aaM ho q) ?_
 show WJ _ _ (update d (adh f)>>=λ_=>lookBehind d) _ _ _
 refine Wl (wpAny_update ho ?_)
 have hS:(s.heap.update d (adh f)).get? d=some (Ff (f b.toArray).toList):=by
  rw[Xi (adh f) ho rfl];rfl
 refine adQ hS ?_ (h _ (Yd ..) hS)
 show(if(f b.toArray).toList.toArray.size>acP then some "bytearray:memory" else none)=none
 rw[if_neg (by rw[W5];exact Xq.mpr hsz)]
theorem kZ{id:String}{args:List Wn}{w:XQ}{j:Wn->Ws->Prop}(i:(Code.builtin id ⟨args,[]⟩).quiet=true)(hb:YG aaf id=some w)(c:j0 (.builtin id ⟨args,[]⟩))
 (h:WJ g.M A.in1 (XZ id ⟨args,[]⟩) (λ_ q=>wq g (A.under (.builtin id ⟨args,[]⟩)) (w ⟨args,[]⟩) (AI g A (Ri (Ug j) E)) E q) E s):wq g A (call (.builtin id) args) j E s:=
 jN (kY i hb c h)
theorem aI.ba(R:aI g cx tmp vals st s)(e:st.h d=some (.ba b)):b.length<=1000000∧s.heap.get? d=some (Ff b):=by
 obtain⟨j,q,r⟩:=(R.known _ _ e).obj
 exact⟨r.1,by rw[q,r.2]⟩
def Uy(k:Addr->List UInt8->AH->VP->Prop):V->AH->VP->Prop:=λa h Q=>Ox a λa=>dS (h a) λo=>oc o (fb:=λb=>k a b h Q)
theorem C8{k:Addr->List UInt8->AH->VP->Prop}{h:AH}{Q:VP}(w:Uy k a h Q):∃d b,a=.ref d∧h d=some (.ba b)∧k d b h Q:=by
 obtain⟨d,rfl,w⟩:=jO w
 obtain⟨o,e,w⟩:=aT w
 cases o <;> first|exact WC w|skip
 exact⟨d,_,rfl,e,w⟩
def vk:BW:=b2 λa v=>Uy (λa b h Q=>kL v λi=>(GW i∧b.length<1000000)∧Q .none (upd h a (some (.ba (b++[i.toNat.toUInt8]))))) a
def sa:BW:=b1 (Uy λa b h Q=>Q .none (upd h a (some (.ba b.reverse))))
def wx:BW:=λvs h Q=>vs=[]∧∀c,h c=none->Q (.ref c) (upd h c (some (.ba [])))
theorem zf:fG g (.builtin "bytearray.append") vk:=λ{cx A s tmp vals st vs xs Q E} oa R hv w=>by
 obtain⟨a,r,rfl,w1⟩:=wo w
 obtain⟨d,b,rfl,e,w2⟩:=C8 w1
 obtain⟨i,rfl,⟨hi,hl⟩,q⟩:=bu w2
 refine bo.two hv λx y e1 hx hy=>?_
 obtain rfl:x=.ref d:=hx
 refine aN hy λt e2=>?_
 subst e1 e2
 have z:=R.ba e
 refine kZ (YK _ dD) FX.Gp (gr (x:=.ref d) (id:= "bytearray.append") (λ_ _=>rfl) rfl) (FX.Ho.check _ _ _ _ _ _ _ _ ⟨_,z.2,rfl⟩ (FX.Hp _ _) ?_)
 show wq _ _ (Bytes.byteValue (.int i t)>>=λc=>afs (.ref d)>>=λ_=>aeN (.ref d) (·.push c)>>=λ_=>ret .none) _ _ s
 refine(kK (a:=i.toNat.toUInt8) ?_ (aq ?_))
 ·show(if(decide (i<0)||decide (i≥256))=true then _ else _)=_
  rw[if_neg (by rw[decide_eq_false (Y7.mpr hi.1),decide_eq_false (Int.not_le.mpr hi.2)];decide)]
 ·unfold afs
  refine aq (C7 z.2 (ax (aq (r9 z.2 (by rw[adm,Wu];exact Wh hl dD) λh' hs he=>ax ?_))))
  exact⟨(R.turn (tk:=s.toks) (o:=.ba (b++[i.toNat.toUInt8])) e hs he ⟨by rw[Wk];exact hl,by simp⟩).push (v:=.none) gp,q⟩
theorem wy:fG g (.builtin "bytearray.reverse") sa:=λ{cx A s tmp vals st vs xs Q E} oa R hv w=>by
 obtain⟨a,rfl,w1⟩:=c9 w
 obtain⟨d,b,rfl,e,q⟩:=C8 w1
 refine bo.one hv λx e1 hx=>?_
 subst e1
 obtain rfl:x=.ref d:=hx
 have z:=R.ba e
 refine kZ (YK _ dD) FX.Fe (gr (x:=.ref d) (id:= "bytearray.reverse") (λ_ _=>rfl) rfl) (FX.Gn.check _ _ _ _ _ _ _ _ ⟨_,z.2,rfl⟩ (FX.Gq _) ?_)
 show wq _ _ (aeN (.ref d) (·.reverse)>>=λ_=>ret .none) _ _ s
 refine aq (r9 z.2 (by rw[Array.size_reverse,Wu];exact Wh z.1 dD) λh' hs he=>ax ?_)
 exact⟨(R.turn (tk:=s.toks) (o:=.ba b.reverse) e hs he ⟨by rw[YC];exact z.1,by simp⟩).push (v:=.none) gp,q⟩
end
end
section
open Sem (wp)
open PySem.Builtin
section
variable{g:Gl}{cx:Cx}{tmp:List V}{vals:List Wn}{st:St}{s:Ws}{A:Xm}{x y z:Wn}{a v u:V}{F:FZ}{E:Wn->Ws->Prop}{Q:V->St->Prop}{X:St->Prop}{K:Frag}{f:Wn}{vs:List V}{xs:List Wn}{d:Addr}{b:List UInt8}
theorem mw{q:Type}{c:Prop}[Decidable c]{x y:Sem q}{Q:q->Ws->Prop}(hc:¬c)(h:wq g A y Q E s):wq g A (if c then x else y) Q E s:=by rw[if_neg hc];exact h
abbrev Rp(s:Ws):Shared:={s with heap:=s.heap.push (Ff [])}
theorem Pa(h:Q₁ (.ref s.heap.objs.size) (Rp s)):WJ g.M A (call (.builtin "bytearray.__new__") [.type "bytearray"]) Q₁ E s:=by
 refine abt (aba ?_)
 show WJ _ A.in1 (do XZ "bytearray.__new__" ⟨[.type "bytearray"],[]⟩;ad0 (.builtin "bytearray.__new__" ⟨[.type "bytearray"],[]⟩)) _ _ s
 refine(vS FX.O8 (Wq ⟨ZM FX.Lk _,codeAny_builtin_stack FX.Li rfl λp st=>?_⟩))
 rw[XW FX.Lk _]
 have e:("bytearray.__new__".splitOn ".__new__").headD "" = "bytearray" := by rw[split_bytearray];rfl
 dsimp only
 rw[e]
 refine(vS (a:=true) rfl ?_)
 refine(vS FX.Nw ?_)
 exact Az ((Wl (YE (T:= "bytearray") (Wq h) (WI _))))
theorem Lm:acD "bytearray.__init__" "bytearray" ["source", "encoding", "errors"] [] []=pure [none,none,none]:=by rfl
theorem kN{Q:Bool->Ws->Prop}(j:s.heap.get? d=some (Ff b))(h:Q false s):WJ g.M A (Bytes.ownRelease (.ref d)) Q E s:=by
 have hT:s.TypeIs (.ref d) "bytearray" := ⟨_,j,rfl⟩
 refine Wl (c6 (λ_ q=>Zg (name:=Wg "__release_buffer__") hT FX.O9 q) ?_)
 dsimp only
 rw[if_neg (by decide +kernel)]
 refine Zw (b:=true) hT ?_ (Wq h)
 exact(congrArg (λx=>afo (.type "bytearray") (.type x)) (show "bytearray.__release_buffer__".dropRight ("__release_buffer__".length+1) = "bytearray" by decide +kernel)).trans FX.Nw
theorem Ln(h:∀h',Xp s.heap.objs.size (Rp s).heap h'->h'.get? s.heap.objs.size=some (Ff [])->Qr .none { s with heap:=h'}):wq g A (call (.builtin "bytearray.__init__") [.ref s.heap.objs.size]) Qr E (Rp s):=by
 have ho:(Rp s).heap.get? s.heap.objs.size=some (Ff []):=WR _ rfl
 refine kZ (YK _ dD) FX.KD (gr (x:=.ref s.heap.objs.size) (id:= "bytearray.__init__") (λ_ _=>rfl) rfl) (FX.wu.check _ _ _ _ _ _ _ _ ⟨_,ho,rfl⟩ (FX.Ll _) ?_)
 refine fD (λ_ q=>kN ho q) ?_
 refine mw dD ?_
 refine(kK Lm ?_)
 dsimp only
 refine(kK (a:=()) rfl ?_)
 refine(kK (a:=()) rfl ?_)
 refine aq (C7 ho ?_)
 refine mw dD ?_
 refine aq (r9 (b:=[]) ho (WI _) λh' hs he=>?_)
 refine aq (mw dD (mw dD (ax ?_)))
 exact ax (h h' hs he)
theorem Si{Qr:Wn->Ws->Prop}(h:∀h',Xp s.heap.objs.size (Rp s).heap h'->h'.get? s.heap.objs.size=some (Ff [])->Qr (.ref s.heap.objs.size) { s with heap:=h'}):wq g A (call (.type "bytearray") []) Qr E s:=by
 obtain⟨c,tl,hmro⟩:=FX.Rn.mro
 refine jN (fE (oq _ _) ?_)
 refine ax ⟨YK _ dD,gr (x:=.type "bytearray") (id:= "type.__call__") (λ_ _=>rfl) rfl,Hc aeF (gr (x:=.type "bytearray") (id:= "type.__call__") (λ_ _=>rfl) rfl) ?_⟩
 unfold XQ.«type.__call__»
 refine mw (by rw[FX.Rn.notType];decide) ?_
 refine mw (by rw[FX.Rn.canCreate];decide) ?_
 refine(kK FX.Nv ?_)
 refine(kK hmro ?_)
 refine mw ff ?_
 refine(kK FX.Rn.made ?_)
 refine dZ (?_)
 refine aq (ay (aF (Pa ?_)))
 have hT:(Rp s).TypeIs (.ref s.heap.objs.size) "bytearray" := ⟨_,WR _ rfl,rfl⟩
 refine fD (λ_ q=>Zw (b:=true) hT FX.Rn.sub q) ?_
 refine mw dD ?_
 refine aq (ay ?_)
 refine fD (λ_ q=>Zg hT FX.Rn.init.lookup q) ?_
 refine ay (aq (aF (adY (FX.Rn.init.bind _) ?_)))
 refine aq (Ln λh' hs he=>?_)
 refine ax ?_
 exact mw dD (ax (h h' hs he))
theorem Sj:fG g (.type "bytearray") wx:=λ{cx A s tmp vals st vs xs Q E} oa R hv w=>by
 obtain⟨rfl,q⟩:=w
 obtain rfl:xs=[]:=hv
 exact Si λh' hs he=>⟨(R.alloc (tk:=s.toks) (o:=.ba []) (λb o e=>(hs.2 b (W8 (W6 e))).trans (Wv _ e)) (Wr _) he ⟨WI _,rfl⟩).push (v:=.ref s.heap.objs.size) rfl,q _ (R.fresh (Wr _))⟩
theorem wz:Meets (XQ.«bytearray.__len__» ⟨[.ref d],[]⟩) (λ_ R s=>s.heap.get? d=some (Ff b)∧R (.ok (.ret (.int b.length s.toks))) { s with toks:=s.toks+1}):=by
 refine .of_wp λprog w A R s ⟨q,h⟩=>?_
 show WJ _ _ (acx (.ref d)>>=λr=>_) _ _ s
 refine Wl ?_
 refine Wl (Wl (aaM q (Wq (Wq ?_))))
 exact Wl (acJ (Wq ⟨_,rfl,by rw[Wu];exact h⟩))
theorem Pb{Q:Wn->Ws->Prop}(j:s.heap.get? d=some (Ff b))(hb:b.length<=1000000)(h:∀t k,Q (.int b.length t) { s with toks:=k}):WJ g.M A (call (.builtin "len") [.ref d]) Q E s:=by
 have hT:s.TypeIs (.ref d) "bytearray" := ⟨_,j,rfl⟩
 refine adM kind_len plain_len entry_len (args_len1 _) ?_
 refine Wl (m:=oneArg "len" _) (Wq ?_)
 refine Wl (m:=callSpecial? (.ref d) (Wg "__len__")) (YV (name:=Wg "__len__") hT FX.Nu (ZX FX.Nu hT FX.Lj (FX.Nx _) wz ⟨j,?_⟩))
 show WJ _ _ _ _ _ { s with toks:=s.toks+1}
 refine Wl (Xu (Wq ?_))
 refine c6 (λ_ q=>wpAny_letGo q) ?_
 rw[if_neg (Y7.mpr (WG _))]
 show WJ _ _ (if((b.length:Nat):Int)≥2^63 then _ else _) _ _ _
 rw[if_neg (Int.not_le.mpr (aab (X2.mpr (show b.length<=1000000 by assumption)) dD))]
 exact Wl (acJ (Wq ⟨_,rfl,h _ _⟩))
theorem A9{Q:Bool->Ws->Prop}(hT:s.TypeIs (.ref d) "bytearray")(h:Q true s):WJ g.M A (Bytes.slotIsOwn (.ref d) "__buffer__") Q E s:=by
 unfold Bytes.slotIsOwn
 refine c6 (λ_ q=>Zg (name:=Wg "__buffer__") hT FX.Ro q) ?_
 dsimp only
 rw[if_neg (by decide +kernel)]
 refine Zw (b:=true) hT ?_ h
 exact(congrArg (λx=>afo (.type "bytearray") (.type x)) (show "bytearray.__buffer__".dropRight ("__buffer__".length+1) = "bytearray" by decide +kernel)).trans FX.Nw
theorem fN{q:Type}{c:Bool}{x y:Sem q}{Q:q->Ws->Prop}(hc:c=false)(h:WJ g.M A y Q E s):WJ g.M A (if c then x else y) Q E s:=by rw[if_neg (by rw[hc];decide)];exact h
theorem Hr{Q:Wn->Ws->Prop}(j:s.heap.get? d=some (Ff b))(hb:b.length<=1000000)(h:∀t k,Q (.bytes b.toArray t) { s with toks:=k}):WJ g.M A (call (.type "bytes") [.ref d]) Q E s:=by
 have hT:s.TypeIs (.ref d) "bytearray" := ⟨_,j,rfl⟩
 refine callType_codes F.bm_called (F.bm_typeCall _) F.entry_object_init (Q₁:=λv c=>∃t k,v=.bytes b.toArray t∧c={s with toks:=k}) ?_ ?_
 ·refine aba ?_
  show WJ _ A.in1.in1 (do XZ "bytes.__new__" ⟨[.type "bytes",.ref d],[]⟩;ad0 (.builtin "bytes.__new__" ⟨[.type "bytes",.ref d],[]⟩)) _ _ s
  refine(vS (F.bm_newCall _) (Wq ⟨ZM F.bm_plain _,Y1 F.bm_entry ?_⟩))
  rw[XW F.bm_plain _]
  refine(vS (a:=true) rfl ?_)
  refine fN rfl ?_
  refine(vS F.bm_sub ?_)
  refine fN rfl ?_
  refine(vS (F.bm_bind _) ?_)
  refine(vS (a:=()) rfl ?_)
  refine(vS (a:=()) rfl ?_)
  refine fN rfl ?_
  refine Wl (Zg hT FX.Ny ?_)
  refine Wl (Wl ?_)
  refine c6 (λ_ q=>aaM j q) ?_
  refine Wq (Wq ?_)
  refine fN rfl ?_
  refine Wl (Zg hT FX.Nz ?_)
  refine bm_if_true rfl ?_
  refine Wl ?_
  refine Wl (Zg (name:=Wg "__buffer__") hT FX.Ro ?_)
  refine c6 (λ_ q=>A9 hT q) ?_
  refine fN rfl ?_
  refine Wl (Zg (name:=Wg "__buffer__") hT FX.Ro ?_)
  refine c6 (λ_ q=>kN j q) ?_
  refine fN rfl ?_
  refine Wl (Wl (Wl (aaM j (Wq (Wq (Wq ?_))))))
  refine Wl (YD ?_)
  refine Wl (aaS ?_ (by rw[W5,Wu];exact CT hb))
  exact Wq ⟨_,_,rfl,rfl⟩
 ·rintro obj i ⟨t,k,rfl,rfl⟩
  exact⟨Xn _ _ _,F.args_object_init_2 _ _,object_init_meets F.bm_called.init.lookup F.bm_called.made dD _ _ A.in1 _ _ ⟨Xn _ _ _,rfl,h _ _⟩⟩
theorem Pc:tV g (.builtin "len") c4:=λ{cx A s tmp vals st v x Q E} oa R hx w=>by
 have q:=R.rsd hx
 have j:vc (res st.h v) _ _ _ _ _ _ _:=w
 generalize res st.h v=m at q j
 cases m with
 |bytes b=>
  refine aA (g:=g) (F:=cx.F st s) q λt e=>?_
  subst e
  refine len_bytes (Wh (show b.toArray.size<=16777216 by rw[Wu];exact ZE q) dD) ?_
  rw[Wu];exact R.toks.up cD j
 |str b=>
  refine aW (g:=g) (F:=cx.F st s) q λt e=>?_
  subst e
  refine P.len_str (Int.not_le.mpr (OW (ZE q))) ?_
  rw[show(⟨b.toArray⟩:Str).length=b.length from Wu ..];exact R.toks.up cD j
 |tup b=>
  refine aI.seq (bQ.imp (λ_ _ h=>h.1) (λ_ h=>h) q) λa xs n e h l i p=>?_
  subst e
  refine len_tuple ⟨_,h,rfl,_,rfl⟩ (OW (CT l)) ?_
  rw[Wu,i];exact R.toks.up cD j
 |lst b=>
  refine aI.seq q λa xs n e h l i p=>?_
  subst e
  refine call_len_list ⟨_,h,rfl,_,rfl⟩ (OW (CT l)) ?_
  rw[Wu,i];exact R.toks.up cD j
 |ref d=>
  obtain rfl:x=.ref d:=q
  obtain⟨o,e,c⟩:=aT j
  cases o <;> first|exact WC c|exact Pb (R.ba e).2 (R.ba e).1 λt k=>R.toks.up cD c
 |_=>exact WC j
theorem Hs:tV g (.type "bytes") du:=λ{cx A s tmp vals st v x Q E} oa R hx w=>by
 have j:=R.rsd hx
 have i:vc (res st.h v) _ _ _ _ _ _ _:=w
 generalize res st.h v=D at j i
 cases D with
 |lst b=>
  refine aI.seq j λa xs n e h l L B=>?_
  subst e
  obtain⟨ns,e,J,q⟩:=aT i
  have c:=yM B e
  refine call_bytes_ints ⟨_,h,rfl,_,rfl⟩ c J (by rw[W5];exact Wh l dD) oa.handled λS t k m=>?_
  rw[AS]
  exact(R.keeps m).up (v:=.bytes (ns.map λn=>n.toNat.toUInt8)) (cQ (by rw[Wp,←c.length];exact Wh l dD)) q
 |ref d=>
  obtain rfl:x=.ref d:=j
  obtain⟨o,e,p⟩:=aT i
  cases o <;> first|exact WC p|exact Hr (R.ba e).2 (R.ba e).1 λt k=>R.toks.up (v:=.bytes _) (cQ (CT (R.ba e).1)) p
 |_=>exact WC i
end
end
section
def a5(e:Expr):Bool:=match e with
 | .Starred _ _=>false
 |_=>true
theorem eU(d:List Expr)(env:Env)(h:a5 e=true):Yb (e::d) env=(false,eval e env)::Yb d env:=by
 cases e <;> first|rfl|cases h
theorem e8(d:List Expr)(env:Env)(h:a5 e=true):aaP (e::d) env=(false,Zb e env)::aaP d env:=by
 cases e <;> first|rfl|cases h
def zg:List gH->List V->(St->Prop)->St->Prop
 | [],[],Q,st=>Q st
 |t::q,v::vs,Q,st=>t v (λd=>zg q vs Q d) st
 |_,_,_,_=>False
def Uz(d:List gH):gH:=λv Q st=>Rj v λvs=>zg d vs Q st
noncomputable section
def jm(k:DK):List (k.K×V)->List V->Option (List (k.K×V))
 |d,[]=>some d
 |d,a::b::r=>(k.key a).bind λq=>jm k (fF d q b) r
 |_,_=>none
def qb(k:DK)(W:PT):PT:=λQ X st=>∀d,st.h d=none->W (λv q=>iF v λl=>dS (jm k [] l) λout=>(l.length<=100∧q.h d=some (.dict k []))∧Q (.ref d) ⟨q.loc,upd q.h d (some (.dict k out))⟩) X ⟨st.loc,upd st.h d (some (.dict k []))⟩
def sd(k:DK):PT:=λQ _ st=>fresh (.dict k []) st Q
end
def vl(l:List (Wn×Wn)):List Value:=l.flatMap λp=>[p.1,p.2]
inductive Vk(g:Gl)(cx:Cx)(tmp:List V)(vals:List Wn)(Q:V->St->Prop)(n:Nat)(rs:List (Wn×Wn))(s:Ws):Prop
 |mk {l:List V} {st:St} (R:aI g cx (l++tmp) (vl rs++vals) st s) (e:l.length=(vl rs).length) (q:Q (.lst l) st):Vk g cx tmp vals Q n rs s
def TP(g:Gl)(cx:Cx)(t:Sem (List (Wn×Wn)))(W:PT):Prop:=∀{A s tmp vals st Q X},gL cx.stk cx.lvl A->aI g cx tmp vals st s->W Q X st->wq g A t (Vk g cx tmp vals Q 0) (hJ g cx X) s
section
variable{g:Gl}{cx:Cx}{tmp:List V}{vals:List Wn}{st:St}{s:Ws}{A:Xm}{x y z:Wn}{a b v u:V}{F:FZ}{E:Wn->Ws->Prop}{Q:V->St->Prop}{X:St->Prop}{Qs:St->Prop}
theorem Ba(c:gL cx.stk cx.lvl A):∀{d:List Expr} {vs:List V} {xs:List Wn} {st:St} {s:Ws},(∀t∈d,a5 t=true∧TT g cx (Zb t cx.env) (f t))->aI g cx (vs++tmp) (xs++vals) st s->vs.length=xs.length->zg (d.map f) vs Qs st->(∀st j,aI g cx tmp vals st j->Qs st->i () j)->
 wq g A (afe ((aaP d cx.env).map (·.2)) xs) i (λ_ _=>False) s:=by
 intro d
 induction d with
 |nil=>
  intro vs xs st s h R l w k
  cases vs with
  |nil=>cases xs with
   |nil=>exact ax (k _ _ R w)
   |cons=>cases l
  |cons=>exact WC w
 |cons t d p=>
  intro vs xs st s h R l w k
  cases vs with
  |nil=>exact WC w
  |cons v vs=>cases xs with
   |nil=>cases l
   |cons x xs=>
    rw[e8 d cx.env (h t (.head _)).1]
    exact aq (ay (aV ((h t (.head _)).2 c R w) λ_ s u=>match u with
     | .mk R q=>p (λt m=>h t (.tail _ m)) R (XE l) q k))
theorem oJ(h:∀t∈d,a5 t=true)(env:Env):(aaP d env).length=d.length∧(aaP d env).findIdx? (·.1)=none:=by
 induction d with
 |nil=>exact⟨rfl,rfl⟩
 |cons t d j=>
  have i:=j λt q=>h t (.tail _ q)
  rw[e8 d env (h t (.head _))]
  exact⟨congrArg (· + 1) i.1,by rw[List.findIdx?_cons,i.2];rfl⟩
theorem Rq:∀{d:List gH} {vs:List V} {st:St},zg d vs Qs st->(∀T∈d,∀v P st,T v P st->∃st,P st)->d.length=vs.length:=by
 intro j
 induction j with
 |nil=>
  intro c
  cases c with
  |nil=>
   intro _ _ _
   exact rfl
  |cons m k=>
   intro _ w _
   exact w.elim
 |cons T d p=>
  intro i
  cases i with
  |nil=>
   intro _ w _
   exact w.elim
  |cons v vs=>
   intro st w h
   exact let⟨_,q⟩:=h T (.head _) v _ _ w;congrArg (· + 1) (p q λT hT=>h T (.tail _ hT))
def cL(n:Nat)(d:List gH):gH:=λv Q st=>Rj v λvs=>vs.length=n∧zg d vs Q st
theorem Lp(h:∀t∈ts,a5 t=true∧TT g cx (Zb t cx.env) (f t)):TT g cx (Zb (.Tuple ts k pos) cx.env) (cL ts.length (ts.map f)):=@λA s v x tmp vals st Q oa R w=>by
 obtain⟨vs,rfl,hl,w⟩:=vZ w
 obtain @⟨a,xs,_,rfl,h1,_,hv⟩:=(show bQ _ _ _ _ from R.tmp.1)
 have pl:=oJ (λt ht=>(h t ht).1) cx.env
 show wq _ _ (do XO pos;unpack (.ref a) (aaP ts cx.env)) _ _ _
 refine aU ?_
 unfold unpack
 rw[pl.1,pl.2]
 have hlv:=hv.length
 refine aq (ay ?_)
 rw[←hl,←hlv,show xs.length=xs.toArray.size from(Wu ..).symm]
 refine aF (afn oa.handled (items:=xs.toArray) ⟨_,h1.1,rfl,_,rfl⟩ λhp he=>?_)
 have R':=R.pop.keeps (tk:=s.toks) λb o e=>he b o (W8 (W6 e)) e
 have hr:bo g (cx.F st { s with heap:=hp}) vs xs:=hv.mono λb o z=>⟨he b o (W8 (W6 z.1)) z.1,z.2⟩
 exact Ba oa h { R' with tmp:=hr.append R'.tmp} hlv.symm w λst s' R q=>⟨R,q⟩
theorem Ht:TP g cx (ab9 []) ag:=λ_ R w=>ax (.mk (l:=[]) R rfl w)
theorem Pd{k v:Sem Wn}{r:List (Sem Wn×Sem Wn)}(h1:TE g cx k W1)(p:TE g cx v j)(m:TP g cx (ab9 r) i):TP g cx (ab9 ((k,v)::r)) (aa W1 (aa j i)):=λd R w=>by
 rw[ab9]
 refine h1.then_ d R w λa x st s R q=>TE.then_ (p.hold [x]) d R q λb y st s R q=>aq (ay (aV (m d R q) λrs s u=>?_))
 obtain @⟨l,st,R,e,q⟩:=u
 obtain⟨f,c,q⟩:=eT q
 have z:=bo.split e R.tmp
 cases c
 exact ax (.mk (l:=a::b::l) { R with tmp:=⟨z.2.2.1,z.2.1,z.1.append z.2.2.2⟩} (congrArg (· + 2) e) q)
theorem Lq(h:AH)(d:Addr)(o o':Option O):upd (upd h d o) d o'=upd h d o':=funext λb=>by unfold upd;split <;> rfl
theorem Pe(e:h d=o):upd h d o=h:=funext λb=>by unfold upd;split;subst_vars;rfl;rfl
theorem zh:∀{rs:List (Wn×Wn)} {l:List V} {q out:List (j.K×V)} {st:St} {s:Ws},aI g cx (l++tmp) (vl rs++vals) st s->l.length=(vl rs).length->st.h d=some (.dict j q)->jm j q l=some out->q.length+rs.length<=1000000->
 (∀i,aI g cx tmp vals ⟨st.loc,upd st.h d (some (.dict j out))⟩ i->Qr PUnit.unit i)->WJ g.M A (storeAll d rs) Qr E s:=by
 intro I
 induction I with
 |nil=>
  intro l q out st s R e hd hp L k
  obtain rfl:l=[]:=Zn.mp e
  cases hp
  unfold storeAll
  rw[List.forIn_nil]
  exact Wq (k s (by rw[Pe hd];exact R))
 |cons G rs Z=>
  obtain⟨w3,w4⟩:=G
  intro l q out st s R e hd hp L k
  match l,e with
  |a::b::l,e=>
   obtain⟨D,U,hp⟩:=YO.mp (show(j.key a).bind _=some out from hp)
   obtain⟨r,f,J,hD,_⟩:=R.dict hd
   have c:=J.length
   have Y:aI g cx (l++tmp) (vl rs++vals) st s:=R.pop.pop
   unfold storeAll
   rw[adq]
   refine Wl (Wl (wpAny_dictSet_pairs (DK.is R.tmp.1 U) hD (λh' w hs=>Wq ?_) (by rw[W5,c];exact Wh f dD)))
   obtain⟨o',m,p⟩:=aaI.mp w
   have B:=CQ q D b
   have S:q.length+1+rs.length<=1000000:=by rw[WV,Xd 1];exact L
   have H:=Y.turn (tk:=s.toks+1) (o:=.dict j (fF q D b)) hd hs m ⟨Wh B (Wh (WA _ _) S),_,J.put R.tmp.2.1,p⟩
   exact Z H (XE (XE e)) (aB _ _ _) hp (Wh (WE B _) S) λi n=>k i (by rw[←Lq];exact n)
theorem Lr:bE g cx (.Dict [] [] pos) (sd q):=λi R w=>aF (by
 refine Wy λno=>?_
 obtain⟨o,j,d⟩:=aaI.mp (aen (knd:=q.kind g.prog g.w) _)
 refine no ?_
 exact wpAny_Dict_empty ⟨(R.alloc (tk:=_) (o:=.dict q []) (λb o e=>Wv _ e) (Wr _) j ⟨WI _,[],rfl,d⟩).push (v:=.ref _) rfl,w _ (R.fresh (Wr _))⟩)
theorem Bb{pairs:List (Sem Wn×Sem Wn)}{Q:Addr->Ws->Prop}{E:Wn->Ws->Prop}(hlen:pairs.length<=15)
 (h:wq g A (ab9 pairs) (λvs s₁=>WJ g.M A (storeAll s.heap.objs.size vs) (λ_ s'=>Q s.heap.objs.size s') E s₁) E { s with heap:=s.heap.push { cls:=.type "dict",data:=.dict #[]} }):wq g A (subDict pairs) Q E s:=by
 unfold subDict
 refine fD (λ_ q=>wpAny_alloc q) ?_
 refine aq (ay ?_)
 rw[if_pos hlen]
 exact b0 h λvs s₁ h₁=>ay (aF (Wl (Ym h₁ (λ_ _ h=>Wq (ax h)) λ_ _ h=>h)))
theorem Fg:∀rs:List (Wn×Wn),rs.length<=(vl rs).length:=by
 intro d
 induction d with
 |nil=>
  exact Wr _
 |cons _ rs q=>
  exact Ww (YA (q))
theorem Pf(hall:ks.all (·.isSome)=true)(hl:ks.length=es.length)(h0:ks≠[])(hlen:ks.length<=15)(h:TP g cx (ab9 (pairTrees ks es cx.env pos)) W):bE g cx (.Dict ks es pos) (qb kd W):=@λA s tmp vals st Q X oa R w=>by
 have pl:=pairTrees_length ks es cx.env pos hall hl
 obtain⟨o,ho,hio⟩:=aaI.mp (aen (knd:=kd.kind g.prog g.w) s.heap)
 rw[arm_eval_Dict,zip_pairTrees ks es cx.env pos hall hl,dictDisplay_pairs _ (λe=>h0 (Zn.mp (by rw[←pl,e];rfl))) (by rw[pl];exact Wz hlen dD)]
 have R1:=R.alloc (tk:=s.toks) (o:=.dict kd []) (λb o e=>Wv _ e) (Wr _) ho ⟨WI _,[],rfl,hio⟩
 refine aU (aq (Bb (by rw[pl];exact hlen) (aV (h oa R1 (w _ (R.fresh (Wr _)))) λrs s u=>?_)))
 obtain @⟨l,st,R2,e,q⟩:=u
 obtain⟨l',e',q⟩:=eT q
 cases e'
 obtain⟨out,eo,⟨hl,hd⟩,q⟩:=aT q
 exact zh R2 e hd eo (Wh (Wh (WD (Fg rs) _) (by rw[Yh,Xx,←e];exact hl)) dD) λs' R3=>ax ⟨R3.push (v:=.ref _) rfl,q⟩
end
end
set_option backward.match.sparseCases false
abbrev wA(a b:List UInt8):Prop:=TN a b=true
noncomputable def hV:V->AH->VP->Prop:=λv h Q=>iF (res h v) λvs=>dS (hU vs) λd=>d.length<64∧∀l:List (List UInt8),l.Perm d->l.Pairwise wA->Q (.lst (l.map .bytes)) h
noncomputable def de(w:PT):PT:=λQ X st=>w (λv d=>iF (res d.h v) λvs=>dS (hU vs) λq=>q.length<64∧∀l:List (List UInt8),l.Nodup->(∀x,x∈l↔x∈q)->l.Pairwise wA->Q (.lst (l.map .bytes)) d) X st
noncomputable def eW(g:Gl)(n:Nat)(f:Wn)(w:PT):PT:=λQ X st=>w (λvs d=>iF vs λus=>only us λv=>iF (res d.h v) λws=>(1<=n∧ws.length<64∧∀u∈ws,∃k:List UInt8,k.length<=16777216∧bW g (n-1) f [u] (λr q=>r=.bytes k∧q=d.h) (λ_=>False) d.h)∧∀l:List V,l.Perm ws->Q (.lst l) d) X st
section
open PySem.Builtin
noncomputable def fp(a:List UInt8):List Nat:=a.map ac4
theorem Hu(h:fp a=fp b):a=b:=(List.map_inj_right (f:=ac4) (λx y e=>UInt8.toNat_inj.mp e)).mp h
inductive zj:Ordering->List Nat->List Nat->Prop
 |lt {a b:List Nat} (h:a<b):zj .lt a b
 |gt {a b:List Nat} (h:b<a):zj .gt a b
 |eq {a:List Nat}:zj .eq a a
theorem Hv:∀a b:List UInt8,zj (aaC a b) (fp a) (fp b):=by
 intro i
 induction i with
 |nil=>
  intro u
  cases u with
  |nil=>
   exact .eq
  |cons c k=>
   exact .lt (List.nil_lt_cons _ _)
 |cons x xs d=>
  intro z
  cases z with
  |nil=>
   exact .gt (List.nil_lt_cons _ _)
  |cons y ys=>
   show zj (if x<y then .lt else if x>y then .gt else aaC xs ys) (x.toNat::fp xs) (y.toNat::fp ys)
   by_cases h1:x<y
   ·rw[if_pos h1];exact .lt (aas.mpr (.inl (aam.mp h1)))
   ·rw[if_neg h1]
    by_cases j:x>y
    ·rw[if_pos j];exact .gt (aas.mpr (.inl (aam.mp j)))
    ·rw[if_neg j]
     have e:x.toNat=y.toNat:=ab6 (Xq.mp λh=>j (aam.mpr h)) (Xq.mp λh=>h1 (aam.mpr h))
     rw[e]
     have d:=d ys
     generalize aaC xs ys=o at d
     generalize fp xs=p at d
     generalize fp ys=q at d
     cases d with
     |lt h=>exact .lt (aas.mpr (.inr ⟨rfl,h⟩))
     |gt h=>exact .gt (aas.mpr (.inr ⟨rfl,h⟩))
     |eq=>exact .eq
noncomputable def rx(a b:List UInt8):Bool:=decide (fp a<fp b)
theorem Ls(a b:List UInt8):(aaC a b==.lt)=rx a b:=by
 unfold rx
 have h:=Hv a b
 revert h
 generalize aaC a b=o
 generalize fp a=p
 generalize fp b=q
 intro h
 cases h with
 |lt h=>exact(decide_eq_true h).symm
 |gt h=>exact(decide_eq_false λd=>aa7 _ (ad2 h d)).symm
 |eq=>exact(decide_eq_false (aa7 _)).symm
theorem C9(a b:List UInt8):TN a b=!rx b a:=by
 unfold TN rx
 have h:=Hv a b
 revert h
 generalize aaC a b=o
 generalize fp a=p
 generalize fp b=q
 intro h
 cases h with
 |lt h=>rw[decide_eq_false λh'=>aa7 _ (ad2 h h')];rfl
 |gt h=>rw[decide_eq_true h];rfl
 |eq=>rw[decide_eq_false (aa7 _)];rfl
theorem Dc(a:List UInt8):rx a a=false:=decide_eq_false (aa7 _)
theorem oK(h1:rx a b=true)(d:rx b c=true):rx a c=true:=decide_eq_true (ad2 (of_decide_eq_true h1) (of_decide_eq_true d))
theorem wB(h1:rx a b=false)(d:rx b a=false):a=b:=Hu (List.le_antisymm (ae6.mp (of_decide_eq_false d)) (ae6.mp (of_decide_eq_false h1)))
theorem Lu(h:rx a c=true):rx a b=true∨rx b c=true:=by
 by_cases d:fp a<fp b
 ·exact .inl (decide_eq_true d)
 ·exact .inr (decide_eq_true (List.lt_of_le_of_lt (ae6.mp d) (of_decide_eq_true h)))
theorem mx:wA a b↔rx b a=false:=by unfold wA;rw[C9,Bool.not_eq_true']
theorem Hw(h1:wA a b)(d:wA b a):a=b:=wB (mx.mp d) (mx.mp h1)
end
section
open PySem.Builtin
noncomputable def Lv(v:Wn):Option (List UInt8):=match v with | .bytes x _=>some x.toList|_=>none
@[reducible] noncomputable def bK:PyProof.Rows.KeyKind where
 α:=List UInt8
 blt:=rx
 irrefl:=Dc
 trans _ _ _:=oK
 negTrans _ _ _:=Lu
 total _ _:=wB
 keyOf:=Lv
 dflt:=[]
noncomputable def bv(v:Wn):List UInt8:=(Lv v).getD []
namespace FX
theorem TY:Slot "bytes" "__lt__" "bytes.__lt__" := .of (owner:= "bytes") (n:= "__lt__") (by rw[Xh,WY];kernel_rfl) dD dD dD (.inl dD) (by rw[XG];kernel_rfl)
theorem Sk:YG aaf "bytes.__lt__" = some XQ.«bytes.__lt__»:=by first|exact XX (by kernel_rfl)|exact XY (by kernel_rfl)
theorem TZ(a b:Wn):Yu "bytes.__lt__" ⟨[a,b],[]⟩:=by unfold Yu;kernel_rfl
end FX
theorem se:afr («bytes.__lt__» ⟨[.bytes b t,.bytes c u],[]⟩) (.val (.bool (rx b.toList c.toList))):=.of_wp λM A E s Q d=>
 show WJ M A (aaN (.bytes c u) (.type "bytes")>>=λr=>_) _ E s from Wl (Zw (Xn s _ u) F.sub_bytes_bytes (Wq ⟨_,rfl,by rw[←Ls]at d;exact d⟩))
theorem jR(h:Lv x=some a):∃b t,x=.bytes b t∧b.toList=a:=by
 cases x <;> first|cases h;done|skip
 exact⟨_,_,rfl,W4 h⟩
theorem Hx:bK.OneLt:=by
 intro prog w A E s x y a b Q ha hb h
 obtain⟨x,t,rfl,rfl⟩:=jR ha
 obtain⟨y,u,rfl,rfl⟩:=jR hb
 rw[oneLt'_eq,if_pos rfl]
 exact Wl (wpAny_cRoomFor_byValue rfl (Wl (wpAny_callSpecialIfBound?_slot (Xn s x t) FX.TY (abv FX.TY (Xn s x t) FX.Sk (FX.TZ _ _) se (Zh h)))))
theorem Hy{α β:Type}{f:α->Sem β}{c:β}:∀{xs:List α},(∀x∈xs,f x=pure c)->xs.mapM f=pure (xs.map λ_=>c):=by
 intro zi
 induction zi with
 |nil=>
  intro _
  exact rfl
 |cons x r ih=>
  intro h
  rw[List.mapM_cons,h x (.head _),ih λy hy=>h y (.tail _ hy)]
  rfl
def AllB(xs:List Wn):Prop:=∀x∈xs,∃a,Lv x=some a
theorem Bc{a b:Wn}{r:List Wn}(h:AllB (a::b::r)):keyKind' (a::b::r).toArray=pure oneType':=by
 have h1:∀x∈a::b::r,firstOfTuple' x=pure none:=λx hx=>(h x hx).elim λk e=>(jR e).elim λy z=>z.elim λt z=>by rw[z.1];rfl
 have h2:∀x∈a::b::r,abQ x=pure (.type "bytes"):=λx hx=>(h x hx).elim λk e=>(jR e).elim λy z=>z.elim λt z=>by rw[z.1];rfl
 rw[keyKind'_eq,List.mapM_toArray,Hy h1]
 show(if((a::b::r).map λ_=>(none:Option Wn)).toArray.all (·.isSome)=true then _ else _:Sem SortKind)=_
 rw[if_neg (by rw[List.all_toArray];exact Xc)]
 show(oneTypeOnly' _>>=λo=>_)=_
 rw[oneTypeOnly'_eq,List.mapM_toArray,Hy h2]
 show((pure (if((a::b::r).map λ_=>Yo "bytes").toArray.all (·==.type "bytes")=true then some (.type "bytes")else none):Sem (Option Wn))>>=λo=>pure (if o.isSome=true then aeQ else general'))=_
 rw[if_pos (by rw[List.all_toArray];exact W0.mpr λx hx=>(WN.mp hx).elim λ_ z=>by rw[←z.2];rfl)]
 rfl
section
def tZ(g:Gl)(F:FZ)(xs:List Wn):Prop:=∀x∈xs,∃b t,x=.bytes b t∧VR g F (.bytes b.toList) x
theorem Lw(h:VR g F (.bytes i) x)(d:xs.map bv=l∧tZ g F xs):(x::xs).map bv=i::l∧tZ g F (x::xs):=
 aA h λt q=>⟨by rw[WZ,d.1,q];rfl,λy j=>(Wo.mp j).elim (λz=>⟨_,t,z.trans q,by rw[z];exact h⟩) (d.2 y)⟩
theorem NA:∀{vs:List V} {xs:List Wn} {q:List (List UInt8)},bo g F vs xs->hU vs=some q->xs.map bv=q∧tZ g F xs:=by
 intro j
 induction j with
 |nil=>
  intro c
  cases c with
  |nil=>
   intro _ _ e
   cases e;exact⟨rfl,λx h=>nomatch h⟩
  |cons k p=>
   intros;contradiction
 |cons v r d=>
  intro z
  cases z with
  |nil=>
   intros;exact WC ‹_›
  |cons x xs=>
   intro ps h e
   obtain⟨l,u,y⟩:=YO.mp (show(hU r).bind _=some ps from e)
   have d:=d h.2 u
   have h1:=h.1
   cases v with
   |bytes i=>
    rw[←W4 y]
    exact Lw h1 d
   |_=>exact bS y
theorem NB:∀{xs:List Wn},tZ g F xs->bo g F ((xs.map bv).map .bytes) xs:=by
 intro d
 induction d with
 |nil=>
  intro _
  exact rfl
 |cons x r j=>
  intro h
  exact⟨by obtain⟨b,t,e,w⟩:=h x (.head _);rw[e]at w ⊢;exact w,j λy q=>h y (.tail _ q)⟩
theorem tZ.all(h:tZ g F xs):AllB xs:=λx hx=>(h x hx).elim λb z=>z.elim λt z=>⟨b.toList,z.1▸rfl⟩
theorem Lx(hs:SortedToK bK d d.size):(d.toList.map λp=>bv p.1).Pairwise wA:=ZI.mpr (adV.mpr λi j c z q=>by
 have h1:=hs i j (Xy q) z
 have u:∀m (y:m<d.toList.length),KK bK d m=bv d.toList[m].1:=λm y=>by
  unfold KK
  rw[getElem?_pos d m y];rfl
 rw[u i c,u j z]at h1
 exact mx.mpr h1)
theorem Hz(h:xs.Perm ys):∀{vs:List V},bo g F vs xs->∃us:List V,us.Perm vs∧bo g F us ys:=by
 induction h with
 |nil=>exact λh=>⟨_,.refl _,h⟩
 |cons x _ ih=>exact λ{vs} h=>match vs,h with
  |v::vs,h=>(ih h.2).elim λus z=>⟨v::us,z.1.cons v,h.1,z.2⟩
 |swap x y l=>exact λ{vs} h=>match vs,h with
  |v::w::vs,h=>⟨w::v::vs,.swap ..,h.2.1,h.1,h.2.2⟩
 |trans _ _ i1 i2=>exact λh=>(i1 h).elim λus z=>(i2 z.2).elim λws y=>⟨ws,y.1.trans z.1,y.2⟩
theorem zk(d:(abM st').Perm (pairsOf xs))(hs:SortedToK bK (abM st') (pairsOf xs).size):((abM st').map (·.2)).toList.Perm xs∧(((abM st').map (·.2)).toList.map bv).Pairwise wA:=by
 have q:(abM st').toList.Perm (xs.zip xs):=by rw[←pairsOf_toList xs];exact adL.mp d
 rw[Array.toList_map]
 refine⟨by
  have:=q.map (·.2)
  rw[List.map_snd_zip (Wr _)]at this
  exact this,?_⟩
 have y:=Lx (by rw[←d.size_eq]at hs;exact hs)
 rw[XM]
 rw[show(abM st').toList.map (bv∘λx=>x.2)=(abM st').toList.map (λp=>bv p.1)from acz λp h=>(congrArg bv (mem_zip_self (q.mem_iff.mp h)).1).symm]
 exact y
theorem NC(h:AllB xs):KeysOf bK (pairsOf xs):=λp hp=>h _ (mem_zip_self ((pairsOf_toList xs)▸hp)).2
theorem Fh:tV g (.builtin "sorted") hV:=λ{cx A s tmp vals st v x Q E} oa R hx w=>by
 have q:=R.rsd hx
 obtain⟨vs,e,w⟩:=eT w
 rw[e]at q
 obtain⟨S,hb,w⟩:=aT w
 refine aI.seq q λa xs n D J m L k=>?_
 subst D
 have B:=NA k hb
 refine sortedK Hx (l:=a) (vs:=xs) ⟨_,J,rfl,_,rfl⟩ (NC B.2.all) (λz u c e=>Bc (e▸B.2.all)) (by rw[←Wp (f:=bv),B.1];exact w.1) λst' i hs=>?_
 have j:=zk i hs
 generalize (abM st').map (·.2)=out at *
 obtain⟨n,d⟩:=sortedAll_at s.heap xs out
 rw[←aeW (xs:=out)]at d
 exact R.newL (tk:=s.toks) (λb o e=>sortedAll_old e) (XC _) d (NB λy p=>B.2 y (j.1.mem_iff.mp p)) (by rw[j.1.length_eq];exact m) (w.2 _ (by rw[←B.1];exact j.1.map bv) j.2)
end
end
section
open PySem.Builtin
noncomputable def Cx.sk(cx:Cx)(l:Nat)(D K:Addr)(od:Obj)(F:FZ):Cx:={cx with lvl:=l,rv:=D::K::cx.rv,keep:=(D,od)::cx.keep,w:=F}
section
variable{g:Gl}{cx:Cx}{tmp:List V}{vals:List Wn}{st:St}{s s₀:Ws}{A:Xm}{x y z:Wn}{a b c v u:V}{E:Wn->Ws->Prop}{Q:V->St->Prop}{X:St->Prop}{vs us:List V}{xs ys:List Wn}{D K:Addr}{od ok:Obj}{hp:Heap}{tk l:Nat}
theorem aI.sk(R:aI g cx tmp vals st s)(hD:s.heap.objs.size<=D)(hK:s.heap.objs.size<=K)(n:D≠K)(hk:∀b o,s.heap.get? b=some o->hp.get? b=some o)(eD:hp.get? D=some od)(eK:hp.get? K=some ok) :
 aI g ((cx.sk l D K od (cx.F st s)).hold K ok) [] [] st { s with heap:=hp,toks:=tk}∧hO (cx.sk l D K od (cx.F st s)) K:=
 have R':=R.keeps (tk:=tk) hk
 have old:∀{a},a∈cx.rv->a<s.heap.objs.size:=λh=>let⟨_,e⟩:=(R.rsv _ h).2;W6 e
 have nD:∀{a},a∈cx.rv->a≠D:=λh=>W8 (WK (old h) hD)
 have nK:∀{a},a∈cx.rv->a≠K:=λh=>W8 (WK (old h) hK)
 have up:∀{a},a∈cx.rv->a∈D::K::cx.rv:=λh=>.tail _ (.tail _ h)
 have nn:∀{a o},s.heap.get? a=some o->a∉cx.rv->a∉D::K::cx.rv:=λe h q=>(Wo.mp q).elim (λq=>Xq.mpr hD (q▸W6 e)) λq=>(Wo.mp q).elim (λq=>Xq.mpr hK (q▸W6 e)) h
 have hF:∀a o,cx.F st s a o->Fz hp st.h (D::K::cx.rv) a o:=λa o z=>⟨hk _ _ z.1,z.2.1,nn z.1 z.2.2.1,z.2.2.2⟩
 have L:hO (cx.sk l D K od (cx.F st s)) K:={rv:=.tail _ (.head _),loc:=(nK R.ok.own).symm,frs:=λq=>nK (R.ok.frs _ q) rfl,keep:=λq h=>(Wo.mp h).elim (λe=>by rw[e];exact n) λh=>nK (R.ok.keep q h).1,outer:=λq h=>nK (R.ok.outer q h).1,cells:=λp h=>nK (R.ok.cells p h).1}
 have R1:aI g (cx.sk l D K od (cx.F st s)) [] [] st { s with heap:=hp,toks:=tk}:=
 {ok:={R.ok with
   own:=up R.ok.own
   frs:=λa h=>up (R.ok.frs a h)
   cells:=λp h=>⟨up (R.ok.cells p h).1,(R.ok.cells p h).2⟩
   keep:=λq h=>(Wo.mp h).elim (λe=>by rw[e];exact⟨.head _,(nD R.ok.own).symm,λq=>nD (R.ok.frs _ q) rfl⟩) λh=>⟨up (R.ok.keep q h).1,(R.ok.keep q h).2⟩
   outer:=λq h=>⟨up (R.ok.outer q h).1,(R.ok.outer q h).2⟩
   free:=λp h a b=>⟨λq hq=>(Wo.mp hq).elim (λe=>by rw[e];exact(nD (R.ok.cells p h).1).symm) ((R.ok.free p h a b).1 q),(R.ok.free p h a b).2⟩}
  base:=R'.base,gens:=R'.gens,os:=R'.os
  known:=λa o e=>let k:=R.known a o e;let⟨z,h1,h2⟩:=k.obj;⟨k.low,nn h1 k.nrv,z,hk _ _ h1,h2.mono hF⟩
  rsv:=λa h=>(Wo.mp h).elim (λe=>e▸⟨Wh R.size hD,_,eD⟩) λh=>(Wo.mp h).elim (λe=>e▸⟨Wh R.size hK,_,eK⟩) (R'.rsv a)
  frs:=R'.frs
  keep:=λq h=>(Wo.mp h).elim (λe=>by rw[e];exact eD) (R'.keep q)
  outer:=R'.outer,cl:=R'.cl
  loc:=R.loc.imp λm z=>⟨z.1.keeps hk,λi y v a b=>(z.2 i y v a b).imp λval z=>⟨VR.mono hF _ _ z.1,z.2.keep rfl λc v e q=>q.imp λ_ z=>⟨hk _ _ z.1,z.2⟩⟩⟩
  wait:=hF
  tmp:=rfl}
 ⟨R1.held L eK,L⟩
theorem aI.unsk(R:aI g cx tmp vals st s)(hD:s.heap.objs.size<=D)(hK:s.heap.objs.size<=K)(R2:aI g ((cx.sk l D K od (cx.F st s)).hold K ok) us ys st s₀)(hs:∀b o,b≠D->b≠K->s₀.heap.get? b=some o->hp.get? b=some o) :
 aI g cx tmp vals st { s₀ with heap:=hp,toks:=tk}∧(∀a o,cx.F st s a o->cx.F st { s₀ with heap:=hp,toks:=tk} a o)∧∀o,hp.get? D=some o->NF o->cx.F st { s₀ with heap:=hp,toks:=tk} D o:=
 have old:∀{a},a∈cx.rv->a<s.heap.objs.size:=λh=>let⟨_,e⟩:=(R.rsv _ h).2;W6 e
 have nD:∀{a},a∈cx.rv->a≠D:=λh=>W8 (WK (old h) hD)
 have nK:∀{a},a∈cx.rv->a≠K:=λh=>W8 (WK (old h) hK)
 have to:∀{b o},b∉D::K::cx.rv->s₀.heap.get? b=some o->hp.get? b=some o:=λq=>hs _ _ (λe=>q (e▸.head _)) λe=>q (e▸.tail _ (.head _))
 have tr:∀{b o},b∈cx.rv->s₀.heap.get? b=some o->hp.get? b=some o:=λq=>hs _ _ (nD q) (nK q)
 have out:∀{a},a∉D::K::cx.rv->a∉cx.rv:=λh q=>h (.tail _ (.tail _ q))
 have hF:∀a o,Fz s₀.heap st.h (D::K::cx.rv) a o->cx.F st { s₀ with heap:=hp,toks:=tk} a o:=λa o z=>⟨to z.2.2.1 z.1,z.2.1,out z.2.2.1,z.2.2.2⟩
 have hW:∀a o,cx.F st s a o->cx.F st { s₀ with heap:=hp,toks:=tk} a o:=λa o z=>hF a o (R2.wait a o z)
 have kn:∀{a m},a∈cx.rv->s₀.heap.Ns a m->hp.Ns a m:=λh z=>z.imp λ_=>XS λ_=>XS λ_ z=>⟨tr h z.1,z.2⟩
 have kc:∀{c v},c∈cx.rv->s₀.heap.IsCell c v->hp.IsCell c v:=λh z=>z.imp λ_ z=>⟨tr h z.1,z.2⟩
 ⟨{ok:=R.ok,gens:=R2.gens,os:=R2.os
   base:=λb o e=>hs b o (λq=>by rw[q,dJ (R2.rsv D (.head _)).1]at e;cases e) (λq=>by rw[q,dJ (R2.rsv K (.tail _ (.head _))).1]at e;cases e) (R2.base b o e)
   known:=λa o e=>let k:=R2.known a o e;⟨k.low,out k.nrv,k.obj.imp λ_ z=>⟨to k.nrv z.1,z.2.mono hF⟩⟩
   rsv:=λa h=>⟨(R2.rsv a (.tail _ (.tail _ h))).1,(R2.rsv a (.tail _ (.tail _ h))).2.imp λ_ z=>tr h z⟩
   frs:=λa h=>(R2.frs a h).imp λ_ z=>⟨tr (R.ok.frs a h) z.1,z.2⟩
   keep:=λq h=>tr (R.ok.keep q h).1 (R2.keep q (.tail _ (.tail _ h)))
   outer:=λq h=>kn (R.ok.outer q h).1 (R2.outer q h)
   cl:=λp h=>(R2.cl p h).imp λv z=>kc (R.ok.cells p h).1 z
   loc:=R2.loc.imp λm z=>⟨kn R.ok.own z.1,λi y v a b=>(z.2 i y v a b).imp λval z=>⟨VR.mono hF _ _ z.1,z.2.keep rfl λc v e q=>kc (R.ok.cells (y,c) (aX e)).1 q⟩⟩
   wait:=λa o z=>hW a o (R.wait a o z)
   tmp:=R.tmp.mono hW},hW,λo e nf=>⟨e,R2.rvNone (.head _),λq=>nD q rfl,nf⟩⟩
end
end
section
open PySem.Builtin
section
variable{g:Gl}{cx:Cx}{tmp:List V}{vals:List Wn}{st:St}{s s₀:Ws}{A:Xm}{x y z f:Wn}{a b c v u:V}{E:Wn->Ws->Prop}{Q:V->St->Prop}{X:St->Prop}{vs us acc:List V}{xs ys kA:List Wn}{D K:Addr}{od ok:Obj}{hp:Heap}{tk n m N:Nat}
theorem HA{id:String}{args:Args}{b:XQ}{Qv:Wn->Ws->Prop}(hp:plainId id=true)(hb:YG aaf id=some b)(i:j0 (.builtin id args))
 (h:WJ g.M A.in1 (XZ id args) (λ_ d=>wq g A.in1 (b args) (λbc j=>∃v,bc=.done (.ret v)∧Qv v j) E d) E s):wq g A (call (.builtin id) args.pos args.kw) Qv E s:=
 jN (kY (ZM hp args) hb i (Ym h (λ_ d q=>by
  rw[XW hp args]
  exact be q (λbc j z=>z.elim λv z=>by rw[z.1];exact z.2) λ_ _ x=>x) λ_ _ x=>x))
theorem HB{id:String}{args:Args}(hk:builtinKind id=none)(ha:Yu id args):XZ id args=pure ():=by
 unfold Yu at ha
 simp only[XZ,hk]
 generalize e:Manifest.signature? id=zz;cases zz with
 |none=>rfl
 |some sig=>rw[e]at ha;exact ha
theorem Ly{body:Wn->PUnit->Sem (ForInStep PUnit)}{I:List Wn->Ws->Prop}(step:∀x r s,I (x::r) s->wq g A (body x ⟨⟩) (λk s'=>k=.yield ⟨⟩∧I r s') E s):∀(xs:List Wn) (s:Ws),I xs s->wq g A (forIn xs PUnit.unit body) (λ_ s'=>I [] s') E s:=by
 intro zi
 induction zi with
 |nil=>
  intro s h
  rw[List.forIn_nil];exact ax h
 |cons x r ih=>
  intro s h
  rw[adq]
  exact b0 (step x r s h) λk s' q=>by rw[q.1];exact ih s' q.2
theorem Lz(hK:s.heap.get? K=some (sq "list" kA m))(hD:s.heap.get? D=some (YT "list" #[] e1))(n:D≠K)(h1:kA.length<=1000)(h2:(abM st').size<=1000)(hf:failedOf st'=none) :
 wpAny g.M A (ksk_tail D false e1 (.ref K) st') (λbc s'=>bc=.done (.ret .none)∧∃hp c,s'={s with heap:=hp}∧hp.get? D=some (YT "list" ((abM st').map (·.2)) c)∧∀b o,b≠D->b≠K->s.heap.get? b=some o->hp.get? b=some o) E s:=by
 have t1:=Yd s.heap K (Xs λ_=>(#[]:Array Wn))
 have hD7:=(t1.2 D n).trans hD
 generalize hh6:s.heap.update K (Xs λ_=>(#[]:Array Wn))=h6 at t1 hD7
 have t2:=Yd h6 D (Xs λ_=>(abM st').map (·.2))
 refine Wl (ada hK rfl ?_ (by rw[Wu,W5];exact Wh h1 dD) (WI _))
 rw[hh6]
 refine Wl (wpAny_letGo (Wl (seqEpoch_at hD7 rfl (Wl (ada hD7 rfl ?_ (WI _) (by rw[W5];exact Wh (Xz (Array.size_map ..)) (Wh h2 dD)))))))
 rw[hf,bne_self_eq_false]
 exact Wq (Wm rfl ⟨_,_,rfl,get?_update_seq hD7 λ_=>(abM st').map (λp:Keyed=>p.2),λb o n1 n2 e=>(t2.2 b n1).trans ((t1.2 b n2).trans e)⟩)
theorem Pg(kb:AllB kA)(hK:s.heap.get? K=some (sq "list" kA m))(hD:s.heap.get? D=some (YT "list" #[] e1))(n:D≠K)(hl:kA.length=xs.length)(h64:xs.length<64) :
 wpAny g.M A (ksk_end D false xs.toArray e1 (.ref K) kA.toArray) (λbc s'=>bc=.done (.ret .none)∧∃hp c ys,s'={s with heap:=hp}∧hp.get? D=some (sq "list" ys c)∧ys.Perm xs∧∀b o,b≠D->b≠K->s.heap.get? b=some o->hp.get? b=some o) E s:=by
 have hz:(kA.toArray.zip xs.toArray).toList=kA.zip xs:=by rw[Array.toList_zip]
 have hzs:(kA.toArray.zip xs.toArray).size=xs.length:=by rw[Array.size_zip,Wu,Wu,hl,Nat.min_self]
 have go:∀st':SortSt,(abM st').Perm (kA.toArray.zip xs.toArray)->failedOf st'=none->WJ g.M A (ksk_tail D false e1 (.ref K) st') (λbc s'=>bc=.done (.ret .none)∧∃hp c ys,s'={s with heap:=hp}∧hp.get? D=some (sq "list" ys c)∧ys.Perm xs∧∀b o,b≠D->b≠K->s.heap.get? b=some o->hp.get? b=some o) E s:=λst' p f=>
  wpAny_mono (Lz hK hD n (by rw[hl];exact Wh (Xy h64) dD) (by rw[p.size_eq,hzs];exact Wh (Xy h64) dD) f) (λbc s' z=>⟨z.1,z.2.imp λhp z=>z.imp λc z=>⟨((abM st').map (·.2)).toList,z.1,z.2.1,by
   have:=(adL.mp p).map (·.2)
   rw[hz,List.map_snd_zip (Xz hl.symm)]at this
   rw[Array.toList_map];exact this,z.2.2⟩⟩) λ_ _ x=>x
 let F:SortKind->Sem aaT:=λkind=>((if xs.toArray.size<2 then pure ()else sortRuns'):StateT SortSt Sem Unit).run (ae2 kind (kA.toArray.zip xs.toArray) #[] 7 none)>>=λr=>ksk_tail D false e1 (.ref K) r.2
 show WJ g.M A (if xs.toArray.size<2 then(pure general'>>=F)else(keyKind' kA.toArray>>=F)) _ E s
 by_cases h2:xs.toArray.size<2
 ·rw[if_pos h2]
  show WJ g.M A (F general') _ E s
  unfold F
  rw[if_pos h2]
  exact Az ((go (ae2 general' (kA.toArray.zip xs.toArray) #[] 7 none) (aeX _) rfl))
 ·rw[if_neg h2]
  have h2':2<=xs.length:=Xq.mp (by rw[Wu]at h2;exact h2)
  have hkk:keyKind' kA.toArray=pure oneType':=by
   cases kA with
   |nil=>rw[←hl]at h2';exact absurd h2' (afh 1)
   |cons a r=>cases r with
    |nil=>rw[←hl]at h2';exact absurd h2' (afi 1)
    |cons b r=>exact Bc kb
  rw[hkk]
  show WJ g.M A (F aeQ) _ E s
  unfold F
  rw[if_neg h2]
  refine Wl (Ym (wpS_sortRunsK Hx (a₀:=kA.toArray.zip xs.toArray) (st:=ae2 aeQ (kA.toArray.zip xs.toArray) #[] 7 none)
   (Q:=λ_ st'=>(abM st').Perm (kA.toArray.zip xs.toArray)∧failedOf st'=none) (λp hp=>kb _ (ab2 (hz▸hp)).1) ⟨aeX _,rfl,rfl,rfl⟩ (by rw[hzs];exact h2') (by rw[hzs];exact h64) λst' a1 a2 a3=>⟨a1,a2⟩) (λr s' z=>?_) λ_ _ x=>x)
  rw[z.1]
  exact go r.2 z.2.1 z.2.2
inductive Rr(g:Gl)(cx:Cx)(st:St)(s₀:Ws)(D K:Addr)(od:Obj)(n:Nat)(f:Wn)(N:Nat)(rest:List Wn)(s:Ws):Prop
 |mk {us acc:List V} {kA:List Wn} {m:Nat} (hv:bo g (cx.F st s₀) us rest) (hc:∀u∈us,∃k:List UInt8,k.length<=16777216∧bW g n f [u] (λr h'=>r=.bytes k∧h'=st.h) (λ_=>False) st.h)
  (R:aI g ((cx.sk n D K od (cx.F st s₀)).hold K (sq "list" kA m)) acc kA st s) (kb:AllB kA) (l:kA.length+rest.length=N):Rr g cx st s₀ D K od n f N rest s
set_option tactic.hygienic true in
theorem HC(L:hO (cx.sk n D K od (cx.F st s₀)) K)(S:gL cx.stk n A)(w:N<64)(I:Rr g cx st s₀ D K od n f N (y::r) s) :
 wq g A ((call f [y]).attempt) (λk d=>∃z,k=.ok z∧WJ g.M A (Builtin.List.listUpdate (.ref K) (·.push z)) (λ_ p=>Rr g cx st s₀ D K od n f N r p) E d) E s:=by
 refine Wy λno=>?_
 obtain⟨i,hc,R,G,l⟩:=I
 refine no ?_
 rename_i us acc kA m
 cases us with
 |nil=>cases i
 |cons u us=>
 refine Wy λno=>?_
 obtain⟨k,H,C⟩:=hc u (.head _)
 refine no ?_
 unfold bW at C
 have o:kA.length<=1000:=Wh (Wh (WA _ _) (Xz l)) (Wh (Xy w) dD)
 refine kX (be (C (cx:=(cx.sk n D K od (cx.F st s₀)).hold K (sq "list" kA m)) (A:=A) (tmp:=acc) (vals:=kA) (xs:=[y]) (loc:=st.loc) (Wr _) S (R.push (VR.mono R.wait _ _ i.1)) rfl) (λz d U=>⟨z,rfl,?_⟩) λe d U=>?_)
 ·cases U with
  |@mk v st' j q=>
  have Z:(⟨st'.loc,st'.h⟩:St)=⟨st.loc,st.h⟩:=by rw[q.1,q.2.2]
  have j:aI g ((cx.sk n D K od (cx.F st s₀)).hold K (sq "list" kA m)) (.bytes k::acc) (z::kA) st d:=q.2.1▸show aI _ _ _ _ (⟨st.loc,st.h⟩:St) _ from Z▸j
  have B:=j.keep (K,_) (.head _)
  refine ada B rfl ?_ (by rw[Wu,W5];exact Wh o dD) (by rw[adm,Wu,W5];exact Ww (Wh o dD))
  have Y:(d.heap.update K (Xs (·.push z))).get? K=some (sq "list" (kA++[z]) (m+1)):=by
   rw[Xi _ B rfl]
   unfold sq Xs
   simp
  exact .mk i.2 (λu J=>hc u (.tail _ J)) (j.append (tk:=d.toks) L (.update ..) Y) (λx hx=>(WO.mp hx).elim (G x) λh=>by rw[WB.mp h];exact aA j.tmp.1 λt q=>⟨_,by rw[q];rfl⟩) (by rw[Wk,WV,Xd [z].length];exact l)
 ·cases U with|mk R f q=>exact WC q.2
end
end
section
open PySem.Builtin
section
variable{g:Gl}{cx:Cx}{tmp:List V}{vals:List Wn}{st:St}{s s₀:Ws}{A:Xm}{x y z f:Wn}{a b c v u:V}{E:Wn->Ws->Prop}{Q:V->St->Prop}{X:St->Prop}{vs us acc ws:List V}{xs ys kA:List Wn}{D K fa:Addr}{od ok:Obj}{hp:Heap}{tk n m N:Nat}
inductive LA(h:Heap)(xs:List Wn):Heap->Prop
 |mk {h2:Heap} (at_:h2.get? (h.objs.size+1)=some (YT "list" xs.toArray 0)) (sz:h2.objs.size=h.objs.size+2) (keep:∀b o,h.get? b=some o->h2.get? b=some o):LA h xs h2
theorem Ph(h:Heap)(xs:List Wn):LA h xs (((h.push (YT "list" #[] 0)).update h.objs.size (Xs (·++xs.toArray))).push (YT "list" xs.toArray 0)):=
 have j:((h.push (YT "list" #[] 0)).update h.objs.size (Xs (·++xs.toArray))).objs.size=h.objs.size+1:=by rw[ac7,aaR]
 .mk (by rw[←j];exact WR _ rfl) (by rw[aaR,j]) λb o q=>by
  have d:b<h.objs.size:=W6 q
  rw[Heap.get?_push_ne _ _ _ (by rw[j];exact W8 (Nat.lt_succ_of_lt d)),ZU _ _ _ _ (W8 d),Heap.get?_push_ne _ _ _ (W8 d)]
  exact q
inductive wC(g:Gl)(cx:Cx)(tmp:List V)(vals:List Wn)(st:St)(ws:List V)(D:Addr)(s:Ws):Prop
 |mk {us:List V} {ys:List Wn} {c:Nat} (p:us.Perm ws) (R:aI g cx tmp vals st s) (hv:bo g (cx.F st s) us ys) (hl:ys.length<=1000000) (hD:cx.F st s D (sq "list" ys c)):wC g cx tmp vals st ws D s
set_option tactic.hygienic true in
theorem LB(d:aI g cx tmp vals st s)(L:s.heap.objs.size<=D)(Y:s.heap.objs.size<=K)(B:D≠K)(k:bo g (cx.F st s) ws xs)(q:xs.length<64)(I:Rr g cx st s D K (YT "list" #[] S) n f xs.length [] s₀) :
 ∃kA:List Wn,∃m,s₀.heap.get? K=some (sq "list" kA m)∧WJ g.M A (ksk_end D false xs.toArray S (.ref K) kA.toArray) (λbc i=>bc=.done (.ret .none)∧wC g cx tmp vals st ws D i) E s₀:=by
 obtain⟨e,o,R,Z,l⟩:=I
 rename_i us acc kA m
 refine⟨kA,m,R.keep (K,_) (.head _),Ym (Pg Z (R.keep (K,_) (.head _)) (R.keep (D,_) (.tail _ (.head _))) B l q) (λbc i z=>⟨z.1,?_⟩) λ_ _ x=>x⟩
 obtain⟨_,hp,c,ys,rfl,h1,j,J⟩:=z
 obtain⟨us,p,w⟩:=Hz j.symm k
 have U:=d.unsk (tk:=s₀.toks) L Y R J
 exact .mk p U.1 (w.mono U.2.1) (by rw[j.length_eq];exact Wh (Xy q) dD) (U.2.2 _ h1 (c7 rfl rfl))
theorem Fi(T:LA s.heap xs h2)(s1:Xp (s.heap.objs.size+1) h2 h3)(sz3:h3.objs.size=s.heap.objs.size+2)(ho1:h3.get? (s.heap.objs.size+1)=some (YT "list" #[] e1))(R:aI g cx tmp vals st s)(hv:bo g (cx.F st s) ws xs)
 (hc:∀u∈ws,∃k:List UInt8,k.length<=16777216∧bW g n f [u] (λr h'=>r=.bytes k∧h'=st.h) (λ_=>False) st.h) (K:Addr) (hK:K=s.heap.objs.size+3) :
 hO (cx.sk n (s.heap.objs.size+1) K (YT "list" #[] e1) (cx.F st s)) K∧Rr g cx st s (s.heap.objs.size+1) K (YT "list" #[] e1) n f xs.length xs { s with heap:=(h3.push (YT "tuple" xs.toArray 0)).push (YT "list" #[] 0)}:=by
 refine Wy λno=>?_
 obtain⟨at_,sz,keep⟩:=T
 refine no ?_
 have up:∀b o,h3.get? b=some o->((h3.push (YT "tuple" xs.toArray 0)).push (YT "list" #[] 0)).get? b=some o:=λb o e=>Wv _ (Wv _ e)
 have eK:((h3.push (YT "tuple" xs.toArray 0)).push (YT "list" #[] 0)).get? K=some (sq "list" [] 0):=by
  have:K=(h3.push (YT "tuple" xs.toArray 0)).objs.size:=by rw[aaR,sz3];exact hK
  rw[this];exact WR _ rfl
 have S:=R.sk (l:=n) (tk:=s.toks) (D:=s.heap.objs.size+1) (K:=K) (XC _) (by rw[hK];exact WA _ _) (by rw[hK];exact W8 (WK (X7 _) (XC _))) (λb o e=>up b o ((s1.2 b λq=>by rw[q]at e;exact absurd (W6 e) (Xq.mpr (XC _))).trans (keep b o e))) (up _ _ ho1) eK
 exact⟨S.2,.mk hv hc S.1 (λx h=>nomatch h) (Xx _)⟩
theorem wD(T:LA s.heap xs h2)(R:aI g cx tmp vals st s)(oa:gL cx.stk n A.in1)(hv:bo g (cx.F st s) ws xs)(h64:xs.length<64)
 (hc:∀u∈ws,∃k:List UInt8,k.length<=16777216∧bW g n (.ref fa) [u] (λr h'=>r=.bytes k∧h'=st.h) (λ_=>False) st.h) :
 wq g A (call (.builtin "list.sort") [.ref (s.heap.objs.size+1)] [(Wg "key",.ref fa)]) (λ_ s'=>wC g cx tmp vals st ws (s.heap.objs.size+1) s') E { s with heap:=h2}:=by
 obtain⟨at_,sz,keep⟩:=T
 refine HA (args:=⟨[.ref (s.heap.objs.size+1)],[(Wg "key",.ref fa)]⟩) aeP.plain entry_list_sort (gr (x:=.ref (s.heap.objs.size+1)) (id:= "list.sort") (λ_ _=>rfl) rfl) (aeP.check _ _ _ _ _ _ _ _ ⟨_,at_,rfl⟩ (ksk_l1 _ _) ?_)
 rw[ksk_t1]
 have s1:=Yd h2 (s.heap.objs.size+1) (Xs λ_=>(#[]:Array Wn))
 have sz3:(h2.update (s.heap.objs.size+1) (Xs λ_=>(#[]:Array Wn))).objs.size=s.heap.objs.size+2:=by rw[ac7,sz]
 have ho1:=get?_update_seq at_ λ_=>(#[]:Array Wn)
 have hx:xs.length<=16777216:=Wh (Xy h64) dD
 refine fD (λ_ q=>listItems_at at_ rfl q) ?_
 refine aq (aF (ada at_ rfl ?_ (by rw[Wu,W5];exact hx) (WI _)))
 show wq _ _ _ _ _ { s with heap:=h2.update (s.heap.objs.size+1) (Xs λ_=>(#[]:Array Wn))}
 generalize h2.update (s.heap.objs.size+1) (Xs λ_=>(#[]:Array Wn))=h3 at s1 sz3 ho1 ⊢
 obtain⟨e1,ho1⟩:∃e1,h3.get? (s.heap.objs.size+1)=some (YT "list" #[] e1):=⟨_,ho1⟩
 refine fD (λ_ q=>seqEpoch_at ho1 rfl q) ?_
 refine aq (aF (aey ?_ (by rw[W5];exact hx)))
 refine aq (aF (Zp ?_ (WI _)))
 refine ay ?_
 have eK:(h3.push (YT "tuple" xs.toArray 0)).objs.size=s.heap.objs.size+3:=by rw[aaR,sz3]
 have S:=Fi ⟨at_,sz,keep⟩ s1 sz3 ho1 R hv hc _ eK
 show wq _ _ (ksk_rest (s.heap.objs.size+1) (.ref fa) false xs.toArray e1 (.ref (h3.push (YT "tuple" xs.toArray 0)).objs.size)) _ _ { s with heap:=(h3.push (YT "tuple" xs.toArray 0)).push (YT "list" #[] 0)}
 generalize (h3.push (YT "tuple" xs.toArray 0)).objs.size=K at eK S ⊢
 refine fD (λ_ q=>YD q) ?_
 rw[List.forIn_toArray]
 refine b0 (Ly (I:=λr s'=>Rr g cx st s (s.heap.objs.size+1) K (YT "list" #[] e1) n (.ref fa) xs.length r s') (λy r s' I=>b0 (HC S.1 oa h64 I) λk s'' z=>?_) xs _ S.2) λ_ s' I=>?_
 ·obtain⟨z,rfl,h⟩:=z
  exact aq (aF (Ym h (λ_ _ I=>ax ⟨rfl,I⟩) λ_ _ x=>x))
 ·obtain⟨kA,m,hK,W⟩:=LB (A:=A.in1) (E:=E) R (XC _) (by rw[eK];exact WA _ _) (by rw[eK];exact W8 (WK (X7 _) (XC _))) hv h64 I
  refine aq (aF (listItems_at hK rfl (aV (aF W) λbc s' z=>⟨_,z.1,z.2⟩)))
theorem gL.in2(d:gL stk n A)(l:1<=n):gL stk (n-1) A.in1.in1 where
 frames:=d.frames
 depth:=Wh (WD (W9 20 (Y6 n 1)) _) d.depth
 units:=Rt (u:=2) (Xz (abd l)) dD d.units
 handled:=d.handled
theorem Bd(oa:gL cx.stk cx.lvl A)(hn:cx.lvl=n)(R:aI g cx (v::tmp) (x::vals) st s)
 (w:iF (res st.h v) λws=>(1<=n∧ws.length<64∧∀u∈ws,∃k:List UInt8,k.length<=16777216∧bW g (n-1) (.ref fa) [u] (λr h'=>r=.bytes k∧h'=st.h) (λ_=>False) st.h)∧∀l:List V,l.Perm ws->Q (.lst l) st) :
 wq g A (call (.builtin "sorted") [x] [(Wg "key",.ref fa)]) (Up g cx tmp vals Q) E s:=by
 have hx:=R.rsd R.tmp.1
 obtain⟨ws,e,⟨l1,h64,hc⟩,q⟩:=eT w
 rw[e]at hx
 refine aI.seq hx λa xs m ex ho hl hlen hv=>?_
 subst ex
 have h64:xs.length<64:=hlen▸h64
 have hx:xs.length<=16777216:=Wh (Xy h64) dD
 have T:=Ph s.heap xs
 refine HA (args:=⟨[.ref a],[(Wg "key",.ref fa)]⟩) plain_sorted entry_sorted (gr (x:=.ref a) (id:= "sorted") (λ_ _=>rfl) rfl) ?_
 rw[HB kind_sorted (ksk_s1 _ _)]
 refine Wq ?_
 refine aq (m:=checkCount "sorted" 1 1 _) (ax ?_)
 refine aq (aF (collect_list (vs:=xs) ⟨_,ho,rfl,_,rfl⟩ ?_ (by rw[W5];exact hx)))
 refine aq (aF (Zp ?_ (by rw[W5];exact hx)))
 show wq _ _ _ _ _ { s with heap:=((s.heap.push (YT "list" #[] 0)).update s.heap.objs.size (Xs (·++xs.toArray))).push (YT "list" xs.toArray 0)}
 rw[show((s.heap.push (YT "list" #[] 0)).update s.heap.objs.size (Xs (·++xs.toArray))).objs.size=s.heap.objs.size+1 by rw[ac7,aaR]]
 refine b0 (ay (wD (n:=n-1) T R.pop ((hn▸oa).in2 l1) hv h64 hc)) λ_ s' S=>?_
 obtain⟨p,R',hu,hul,hD⟩:=S
 exact ax ⟨_,rfl,.mk (R'.push (v:=.lst _) (show bQ _ _ _ _ from .mk rfl hD hul hu)) (q _ p)⟩
end
end
section
open PySem.Builtin
section
theorem wF{id:String}{t:Sem Wn}{k:Str}{q:Sem Wn}{Qv:Wn->Ws->Prop}
 (h:wq g A (abG [(false,t)]) (λvs d=>wq g A q (λz y=>wq g A (call (.builtin id) vs [(k,z)]) Qv E y) E d) E s):wq g A (aeI pos (.builtin id) [] [(false,t)] [(some k,q)]) Qv E s:=by
 unfold aeI
 have u:wq g A (evalArgs (.builtin id) true [(false,t)] [(some k,q)]) (λa s=>wq g A (call (.builtin id) ([]++a.pos) a.kw) Qv E s) E s:=by
  unfold evalArgs
  refine b0 h λvs s i=>dZ ((ay ?_))
  show wq g A (evalAll [q]>>=λp=>_) _ E s
  refine aq ?_
  show wq g A (q>>=λv=>XU [v] (evalAll [])>>=λr=>pure (v::r)) _ E s
  exact b0 i λz s i=>aq (ay (ax (ax (dZ ((ax i))))))
 refine aq (ay (aV u λa s j=>aU ?_))
 exact aq (m:=keeperOf _) (ax (b0 j λr s c=>aq (ay (aF (adX (ax c))))))
theorem wG(h:a5 e=true)(env:Env):Zq pos (Yb [e] env)=[(false,eval e env)]:=by
 cases e <;> first|rfl|cases h
theorem Fj{y:Str}(b:cx.lvl=n)(m:bE g cx (.Name y f) (af (.raw (.builtin "sorted"))))(ha:AA g cx pos [d] W)(hp:a5 d=true)(c:bE g cx p (af (.raw (.ref j)))) :
 bE g cx (.Call (.Name y f) [d] [⟨some (Wg "key"),p,kp⟩] pos) (eW g n (.ref j) W):=λ{A s tmp vals st Q X} oa R w=>
 TE.then_ (Q:=λv st'=>v=.raw (.builtin "sorted")∧eW g n (.ref j) W Q X st') m oa R ⟨rfl,w⟩ λv x st s R q=>by
  obtain⟨rfl,q⟩:=q
  obtain rfl:x=.builtin "sorted" := R.tmp.1
  have hs:Zq pos (Yb [d] cx.env)=[(false,eval d cx.env)]:=wG hp cx.env
  rw[hs]
  refine wF ?_
  have h1:=ha oa R.pop q
  rw[hs]at h1
  refine aV h1 λxs s u=>u.elim' λvs st R l q=>?_
  obtain⟨us,e,q⟩:=eT q
  cases e
  obtain⟨v,rfl,q⟩:=c9 q
  cases xs with
  |nil=>cases l
  |cons x r=>
  obtain rfl:r=[]:=Xg (XE l).symm
  refine TE.then_ (Q:=λk st'=>k=.raw (.ref j)∧st'=st) c oa R ⟨rfl,rfl⟩ λk z st' o i e=>?_
  obtain⟨rfl,rfl⟩:=e
  obtain rfl:z=.ref j:=i.tmp.1
  exact aU (ax (Bd oa b i.pop q))
end
end
section
open PySem.Builtin
noncomputable def Gl.text(g:Gl):Bool:=g.w.params.followText "set-order"
abbrev Sl:=List (Int×Wn)
def wH(g:Gl)(q:Sl)(d:List (List UInt8)):Prop:=ElemsOf (YX g.prog g.w) q∧(q.map λe=>bv e.2)=d∧d.Nodup
noncomputable abbrev eL(y:Array (Int×Wn))(q:Nat)(t:Zj):Obj:={cls:=.type "set",dict:=none,data:=.set y q t}
inductive eX(g:Gl)(h:Heap)(S:Addr)(d:List (List UInt8)):Prop
 |mk {es:Array (Int×Wn)} {ep:Nat} {t:Zj} (at_:h.get? S=some (eL es ep t)) (ok:wH g es.toList d) (b:es.size<ab7) (f:t.fits es.size=true) (led:t.led=!g.text) (pl:es.size=0∨t.plain=false):eX g h S d
theorem Be(t:Zj)(q:Array (Int×Wn))(h:Int)(x:Wn):(layNew t q h x).2.1.led=t.led:=by
 unfold layNew
 cases t.freeSlot h with
 |none=>rfl
 |some p=>
  show(aek (t.put p.1).1 _).led=t.led
  unfold aek
  split <;> rfl
theorem sf(t:Zj)(q:Array (Int×Wn))(n:Nat)(hp:t.plain=false):(acQ t q n).2.1.led=t.led∧(acQ t q n).2.1.plain=false:=by
 unfold acQ
 generalize e:t.relaid (q.map (·.1)) n=i;cases i with
 |none=>exact⟨rfl,rfl⟩
 |some p=>
  have j:p.1.led=t.led∧p.1.plain=t.plain:=by
   unfold SetTable.relaid SetTable.laid at e
   obtain⟨o,u,z⟩:=YO.mp e
   rw[←W4 z];exact⟨rfl,rfl⟩
  have key:∀(c:Bool) (y:Array (Int×Wn)),(if c=true then(y,p.1,false)else(q,t.standIn q.size,true):Array (Int×Wn)×Zj×Bool).2.1.led=t.led∧(if c=true then(y,p.1,false)else(q,t.standIn q.size,true):Array (Int×Wn)×Zj×Bool).2.1.plain=false:=λc y=>by
   cases c with
   |false=>exact⟨rfl,rfl⟩
   |true=>exact⟨j.1,j.2.trans hp⟩
  exact key _ _
theorem HD{g:Gl}{k:List UInt8}{v:Wn}(h:(YX g.prog g.w).is k v=true):bv v=k:=by
 obtain⟨t,rfl⟩:=aff h;rfl
theorem wH.perm(h:wH g j d)(p:q.Perm j):∃y,y.Perm d∧wH g q y:=
 ⟨q.map λe=>bv e.2,by rw[←h.2.1];exact p.map _,h.1.perm p,rfl,(((h.2.1▸p.map λe=>bv e.2:(q.map λe=>bv e.2).Perm d)).nodup_iff).mpr h.2.2⟩
theorem wH.has(h:wH g j d):k∈d↔∃e∈j,(YX g.prog g.w).is k e.2=true:=by
 rw[←h.2.1,WN]
 exact⟨λ⟨e,q,y⟩=>(h.1 e q).1.elim λi z=>⟨e,q,by rw[←y,HD z.1];exact z.1⟩,λ⟨e,q,y⟩=>⟨e,q,HD y⟩⟩
section
variable{g:Gl}{A:Xm}{E:Wn->Ws->Prop}{s:Ws}{S:Addr}{d:List (List UInt8)}{k:List UInt8}{x:Wn}
theorem wI{b:Bool}{f:Bool->Sem Unit}(h0:f false=pure ())(h1:∃r,f true=rule r){Q:Unit->Ws->Prop}(q:Q () s):WJ g.M A (f b) Q E s:=by
 cases b with
 |false=>rw[h0];exact Wq q
 |true=>obtain⟨r,e⟩:=h1;rw[e];exact YD q
theorem k4[Decidable c](h1:c->WJ g.M A t Q E s)(q:¬c->WJ g.M A u Q E s):WJ g.M A (if c then t else u) Q E s:=by
 by_cases h:c
 ·rw[if_pos h];exact h1 h
 ·rw[if_neg h];exact q h
theorem HE(ho:s.heap.get? S=some (eL es ep t))(hb:es'.size<ab7)
 (q:∀h' ep',Xp S s.heap h'->h'.get? S=some (eL es' ep' t')->Q () { s with heap:=h'}):WJ g.M A (storeSet S es' t') Q E s:=
 wpAny_storeSet_of ho rfl (q _ (ep+1) (.update ..) (by rw[Xi _ ho rfl];rfl)) (fits_of_scanBound hb)
theorem HF{es es1:Array (Int×Wn)}{ep:Nat}{t:Zj}(hkey:(YX g.prog g.w).is k x=true)(hsc:x.scannable=true)(ho:s.heap.get? S=some (eL es ep t))(hok:wH g es.toList d)(hn:k∉d)(hb:es.size+1<ab7)(hperm:es1.toList.Perm (es.push ((YX g.prog g.w).hash k,x)).toList){b:Bool}{t2:Zj}
 (ht2:t2.led=!g.text∧t2.plain=false∧t2.fits es1.size=true) {f:Bool->Sem Unit} (hf:∀(b:Bool) (s₁:Ws) (Q':Unit->Ws->Prop),Q' () s₁->WJ g.M A (f b) Q' E s₁) {Q:Option Bool->Ws->Prop}
 (q:∀h' d',Xp S s.heap h'->eX g h' S d'->(∀y,y∈d'↔y∈d∨y=k)->d'.length=d.length+1->Q (some true) { s with heap:=h'}) :
 wpAny g.M A (do
  storeSet S es1 t2
  if(!b&&t2.tooFull)=true then do
   f (acQ t2 es1 (ZG es1.size)).2.2
   storeSet S (acQ t2 es1 (ZG es1.size)).1 (acQ t2 es1 (ZG es1.size)).2.1
   pure (some true)
   else pure (some true)) Q E s:=by
 rw[afx]at hperm
 have hok1:wH g (es.toList++[((YX g.prog g.w).hash k,x)]) (d++[k]):=⟨hok.1.push hkey hsc,by rw[WQ,hok.2.1];show d++[bv x]=_;rw[HD hkey],List.nodup_append.mpr ⟨hok.2.2,aed ..,λa ha b hb e=>hn (by rw[←WB.mp hb,←e];exact ha)⟩⟩
 have hsz:es1.size=es.size+1:=by rw[←Yz,hperm.length_eq,Wk,Yz];rfl
 have hb1:es1.size<scanBound:=by rw[hsz];exact hb
 obtain⟨d1,p1,Pj⟩:=hok1.perm hperm
 have bc:∀{d':List (List UInt8)},d'.Perm (d++[k])->(∀y,y∈d'↔y∈d∨y=k)∧d'.length=d.length+1:=λp=>⟨λy=>by rw[p.mem_iff,WO,WB],by rw[p.length_eq,Wk];rfl⟩
 refine Wl (HE ho hb1 λh1 ep1 s1 e1=>?_)
 have done:=q h1 d1 s1 (.mk e1 Pj hb1 ht2.2.2 ht2.1 (.inr ht2.2.1)) (bc p1).1 (bc p1).2
 refine k4 (λ_=>?_) λ_=>?_
 ·have hp:=relayAll_perm t2 es1 (ZG es1.size)
  have hf2:=relayAll_fits t2 es1 (ZG es1.size)
  have hl:=sf t2 es1 (ZG es1.size) ht2.2.1
  generalize acQ t2 es1 (ZG es1.size)=Rl at *
  obtain⟨d2,p2,ok2⟩:=Pj.perm hp
  have hb2:Rl.1.size<scanBound:=by rw[←Yz,hp.length_eq,Yz];exact hb1
  refine Wl (hf _ _ _ (Wl (HE e1 hb2 λh2 ep2 s2 e2=>Wq ?_)))
  exact q h2 d2 (s1.trans s2) (.mk e2 ok2 hb2 hf2 (hl.1.trans ht2.1) (.inr hl.2)) (bc (p2.trans p1)).1 (bc (p2.trans p1)).2
 ·exact Wq done
set_option tactic.hygienic true in
theorem LC(u:(YX g.prog g.w).is k x=true)(hS:eX g s.heap S d)(hr:d.length+1<ab7){Q:Bool->Ws->Prop}
 (q:∀a o b,Xp S s.heap a->eX g a S o->(∀y,y∈o↔y∈d∨y=k)->o.length<=d.length+1->Q b { s with heap:=a}):WJ g.M A (setAddHashed S x ((YX g.prog g.w).hash k)) Q E s:=by
 have G:=hS
 obtain⟨X,i,hb,hf,p,hpl⟩:=hS
 rename_i m ep t
 obtain⟨tt,ex⟩:=aff u
 have c:x.scannable=true:=by rw[ex];rfl
 have hes:m.size=d.length:=by rw[←i.2.1,Wp,Yz]
 refine Xu (c6 (λ_ q=>Yc X rfl hf q) ?_)
 dsimp only
 rw[byScan_of c hb i.1,if_pos rfl]
 refine Wl (Wl (YD (Wl (wpAny_setScan_of u X rfl hf i.1 ?_))))
 generalize R:List.findIdx? (λe=>(YX g.prog g.w).is k e.2) m.toList=zz;cases zz with
 |some j=>
  refine Wy λno=>?_
  obtain⟨hj,n,_⟩:=acS.mp R
  refine no ?_
  have Y:k∈d:=i.has.mpr ⟨_,ZS hj,n⟩
  exact Wq (Wq (q s.heap d _ (Heap.SameBut.refl _ _) G (λy=>⟨.inl,λh=>h.elim id λe=>e▸Y⟩) (XC _)))
 |none=>
  have Y:k∉d:=λh=>(i.has.mp h).elim λe z=>by
   have:=List.findIdx?_eq_none_iff.mp R e z.1
   rw[z.2]at this;cases this
  have hl:=Be t m ((YX g.prog g.w).hash k) x
  have J:=layNew_fits t m ((YX g.prog g.w).hash k) x
  have B:=layNew_perm t m ((YX g.prog g.w).hash k) x
  have U:m.size+1<scanBound:=by rw[hes];exact hr
  generalize layNew t m ((YX g.prog g.w).hash k) x=L at *
  refine Wl (wI (f:=_) rfl ⟨_,rfl⟩ ?_)
  refine k4 (λhp=>?_) λhp=>?_
  ·refine Wl ?_
   rw[hashByValue_scannable 8 c,show plainKind x=false by rw[ex];rfl]
   refine Wq ?_
   refine HF (t2:={L.2.1 with plain:=false}) u c X i Y U B ⟨hl.trans p,rfl,SetTable.fits_plain_off J⟩ ?_ λa o h1 H I Z=>?_
   ·exact λb D Q' h=>wI rfl ⟨_,rfl⟩ h
   exact Wq (q a o _ h1 H I (Xz Z))
  ·refine Wl (Wq ?_)
   refine HF u c X i Y U B ⟨hl.trans p,YS.mpr hp,J⟩ ?_ λa o h1 H I Z=>?_
   ·exact λb D Q' h=>wI rfl ⟨_,rfl⟩ h
   exact Wq (q a o _ h1 H I (Xz Z))
end
end
section
open PySem.Builtin
section
variable{g:Gl}{A:Xm}{E:Wn->Ws->Prop}{s s₀:Ws}{S I l N:Addr}{d:List (List UInt8)}{k:List UInt8}{x:Wn}{xs:List Wn}{h h0:Heap}{R:abU->Ws->Prop}
def Pk(N:Nat)(h q:Heap):Prop:=∀b o,b<N->h.get? b=some o->q.get? b=some o
theorem eX.but(y:eX g h S d)(n:S≠I)(hb:Xp I h j):eX g j S d:=by
 obtain⟨at_,ok,b,f,q,pl⟩:=y
 exact .mk ((hb.2 S n).trans at_) ok b f q pl
theorem eX.ext(y:eX g h S d)(n:S≠I)(hb:acg I h j):eX g j S d:=by
 obtain⟨at_,ok,b,f,q,pl⟩:=y
 exact .mk (hb S _ n at_) ok b f q pl
theorem HH(hh:A.handled=none)(hx:∀x∈xs,∃b t,x=YZ b t)(h64:xs.length<64)(hl:h0.IsList l xs.toArray)(lN:l<N)(SN:N<=S)(IN:N<=I)(SI:S≠I)
 (hR:∀h tk d,Pk N h0 h->eX g h S d->(∀y,y∈d↔y∈xs.map bv)->d.length<=xs.length->R (.ok (.ret .none)) { s₀ with heap:=h,toks:=tk}) :
 ∀(r:List Wn) (i:Nat) (h:Heap) (tk:Nat) (d:List (List UInt8)),xs.drop i=r->h.IsListIter I l i->Pk N h0 h->eX g h S d->(∀y,y∈d↔y∈(xs.take i).map bv)->d.length<=i->i<=xs.length->ady g.M A (.builtin "set.update.loop" ⟨[.ref S,.ref I],[]⟩) R { s₀ with heap:=h,toks:=tk}:=by
 intro zi
 induction zi with
 |nil=>
  intro i h tk d e hi ho hS hm hd hil
  obtain⟨ol,l1,l2⟩:=hl
  refine Y1 ae3 ?_
  rw[XW abX _]
  refine Wl (wpAny_pyNext_list_end hh hi ⟨ol,ho _ _ lN l1,l2⟩ (oD e) λh' he=>Wq (hR h' tk d (λb o q e=>he b o (W8 (WK q IN)) (ho b o q e)) (hS.ext SI he) ?_ (Wh hd hil)))
  rw[Zt (List.drop_eq_nil_iff.mp e)]at hm
  exact hm
 |cons x r ih=>
  intro i h tk d e hi ho hS hm hd hil
  have D:=oB e
  obtain⟨ol,l1,l2⟩:=id hl
  have il:i<xs.length:=Nat.lt_of_not_le λq=>by rw[List.drop_of_length_le q]at e;cases e
  obtain⟨b,t,ex⟩:=hx x (XJ (X9 (xs:=xs)▸D.1))
  have hk:(YX g.prog g.w).is b.toList x=true:=by rw[ex];exact beq_self_eq_true _
  refine Y1 ae3 ?_
  rw[XW abX _]
  refine Wl (wpAny_pyNext_list_item hi ⟨ol,ho _ _ lN l1,l2⟩ D.1 λh1 i1 b1=>?_)
  refine Wl (Xu ?_)
  refine Xu (Wl ((YX g.prog g.w).pyHash (k:=b.toList) hk (LC hk (hS.but SI b1) ?_ λh2 d2 _ b2 S2 m2 l2=>?_)))
  ·exact Wz (Ww hd) (XN (Nat.succ_lt_succ (XN il h64)) dD)
  ·refine Wq ⟨ZM abX _,ih (i+1) h2 _ d2 D.2 ?_ ?_ S2 ?_ (Wh l2 (Ww hd)) il⟩
   ·obtain⟨o,o1,o2⟩:=i1
    exact⟨o,(b2.2 I (X6 SI)).trans o1,o2⟩
   ·exact λb o q e=>(b2.2 b (W8 (WK q SN))).trans ((b1.2 b (W8 (WK q IN))).trans (ho b o q e))
   ·intro y
    rw[m2 y,hm y,abl,show xs[i]? = some x from X9 (xs:=xs)▸D.1,WQ,WO]
    show _↔_∨y∈[bv x]
    rw[WB,ex];rfl
end
end
section
open PySem.Builtin
section
variable{g:Gl}{A:Xm}{E:Wn->Ws->Prop}{s s₀:Ws}{S I l N:Addr}{d:List (List UInt8)}{k:List UInt8}{x:Wn}{xs:List Wn}{h h0:Heap}{R:abU->Ws->Prop}
theorem t4(a:Wn)(h:Q₁ (.ref s.heap.objs.size) { s with heap:=s.heap.push (eL #[] 0 (.fresh 0 0 (!g.text)))}) :
 codeAny g.M A (.call (.builtin "set.__new__") ⟨[.type "set",a],[]⟩) (wants Q₁ E) s:=by
 refine aba ?_
 show WJ _ A.in1 (do XZ "set.__new__" ⟨[.type "set",a],[]⟩;ad0 (.builtin "set.__new__" ⟨[.type "set",a],[]⟩)) _ _ s
 refine(vS (F.newCall_set_1 a) (Wq ⟨ZM F.plain_set_new _,Y1 F.entry_set_new ?_⟩))
 rw[XW F.plain_set_new _]
 have hsub:=sub_set_self
 obtain⟨hp,gg,d,tk,os⟩:=s
 wp_walk
 refine Yx (Wq ?_)
 refine Wl (wpAny_alloc (Wq ?_))
 exact Wq h
theorem HI(e:q=!g.text)(y:h.get? S=some (eL #[] 0 (.fresh 0 0 q))):eX g h S []:=.mk y ⟨λx h=>(nomatch h),rfl,List.nodup_nil⟩ (by show 0<_;decide) rfl e (.inl rfl)
abbrev Pl(g:Gl)(s:Ws)(xs:List Wn)(s':Ws):Prop:=∃h tk d,s'={s with heap:=h,toks:=tk}∧Pk s.heap.objs.size s.heap h∧eX g h s.heap.objs.size d∧(∀y,y∈d↔y∈xs.map bv)∧d.length<=xs.length
theorem HJ(hh:A.handled=none)(hx:∀x∈xs,∃b t,x=YZ b t)(h64:xs.length<64)(hl:s.heap.get? l=some (sq "list" xs n)) :
 codeAny g.M A (.call (.builtin "set.__init__") ⟨[.ref s.heap.objs.size,.ref l],[]⟩) (wants (λr s'=>r=.none∧Pl g s xs s') E) { s with heap:=s.heap.push (eL #[] 0 (.fresh 0 0 (!g.text)))}:=by
 have hS:(s.heap.push (eL #[] 0 (.fresh 0 0 (!g.text)))).get? s.heap.objs.size=some (eL #[] 0 (.fresh 0 0 (!g.text))):=WR _ rfl
 have hT:Shared.TypeIs { s with heap:=s.heap.push (eL #[] 0 (.fresh 0 0 (!g.text)))} (.ref s.heap.objs.size) "set" := ⟨_,hS,rfl⟩
 have hl':(s.heap.push (eL #[] 0 (.fresh 0 0 (!g.text)))).get? l=some (sq "list" xs n):=Wv _ hl
 refine aaX ZY.init.plain F.entry_set_init (check_set_init_1 hT ?_)
 have hl1:(s.heap.push (eL #[] 0 (.fresh 0 0 (!g.text)))).IsList l xs.toArray:=⟨_,hl',rfl,n,rfl⟩
 have hsls:=F.sub_list_set
 have hslf:=F.sub_list_frozenset
 have hne:(Yo "list" == Yo "dict")=false:=dD
 unfold XQ.«set.__init__» noKeywords Builtin.Frozenset.updateFrom
 generalize hPI:adg=PI
 wp_walk
 subst hPI
 refine adv hl1 ?_
 refine Wl (wpAny_runValue ?_)
 have lS:l<s.heap.objs.size:=W6 hl
 refine HH (A:=A.in1) (h0:=s.heap) (N:=s.heap.objs.size) (l:=l) (s₀:=s) (xs:=xs) hh hx h64 ⟨_,hl,rfl,n,rfl⟩ lS (Wr _) (by show _<=(s.heap.push _).objs.size;rw[aa2];exact XC _) (by show _≠(s.heap.push _).objs.size;rw[aa2];exact W8 (X7 _)) (λh tk d o S m le=>?_) xs 0 _ _ [] rfl ⟨{cls:=.type "list_iterator",data:=.fields #[.ref l,.int 0 0]},WR _ rfl,rfl,rfl⟩ (λb o q e=>Wv _ (Wv _ e)) (HI rfl (Wv _ hS)) (λy=>⟨λh=>(nomatch h),λh=>(nomatch h)⟩) (Wr _) (WI _)
 exact Wq (Wq ⟨rfl,h,tk,d,rfl,o,S,m,le⟩)
set_option maxHeartbeats 3200000 in
theorem Fk(hh:A.handled=none)(hx:∀x∈xs,∃b t,x=YZ b t)(h64:xs.length<64)(hl:s.heap.get? l=some (sq "list" xs n))
 (q:∀s',Pl g s xs s'->Q (.ref s.heap.objs.size) s'):WJ g.M A (call (.type "set") [.ref l]) Q E s:=by
 obtain⟨c,tl,hmro⟩:=ZY.mro
 have hmade:=ZY.made
 have hsub:=ZY.sub
 refine abt (aba ?_)
 refine Wq ⟨YK _ dD,Y1 F.entry_type_call ?_⟩
 rw[Around.under_plain (weight_type_call_type "set" [.ref l] []) rfl]
 have h1:=ZY.notType
 have h2:=ZY.canCreate
 have hct:=F.typeCall_set_1 (.ref l)
 repeat (any_goals (first|assumption|wp_step))
 refine codeAny_mono (t4 (g:=g) (.ref l) (E:=E) (Q₁:=λobj s₁=>obj=.ref s.heap.objs.size∧s₁={s with heap:=s.heap.push (eL #[] 0 (.fresh 0 0 (!g.text)))}) ⟨rfl,rfl⟩) λr s₁ hr=>?_
 cases r with
 |error e=>exact hr
 |ok fl=>
  cases fl with
  |ret obj=>
   obtain⟨rfl,rfl⟩:=hr
   have hS:(s.heap.push (eL #[] 0 (.fresh 0 0 (!g.text)))).get? s.heap.objs.size=some (eL #[] 0 (.fresh 0 0 (!g.text))):=WR _ rfl
   have hT:Shared.TypeIs { s with heap:=s.heap.push (eL #[] 0 (.fresh 0 0 (!g.text)))} (.ref s.heap.objs.size) "set" := ⟨_,hS,rfl⟩
   have hli:=ZY.init.lookup
   have hbi:=ZY.init.bind (.ref s.heap.objs.size)
   repeat (any_goals (first|assumption|wp_step))
   refine codeAny_mono (HJ (g:=g) (E:=E) hh hx h64 hl) λr₂ s₂ hr₂=>?_
   cases r₂ with
   |error e=>exact hr₂
   |ok fl₂=>
    cases fl₂ with
    |ret r=>
     obtain⟨rfl,hq⟩:=hr₂
     have hq:=q _ hq
     repeat (any_goals (first|assumption|wp_step))
    |_=>exact hr₂.elim
  |_=>exact hr.elim
end
end
section
open PySem.Builtin
namespace FX
theorem Gs:Slot "set_iterator" "__next__" "set_iterator.__next__" :=
 .of (owner:= "set_iterator") (n:= "__next__") (by rw[Xh,WY];kernel_rfl) dD dD dD (.inl dD) (by rw[XG];kernel_rfl)
theorem Fl:YG aaf "set_iterator.__next__" = some XQ.«set_iterator.__next__»:=by first|exact XX (by kernel_rfl)|exact XY (by kernel_rfl)
theorem Gu(a:Wn):Yu "set_iterator.__next__" ⟨[a],[]⟩:=by unfold Yu;kernel_rfl
end FX
noncomputable abbrev HK(first:Wn)(i n ep:Nat)(S:Addr):Obj:={cls:=.type "set_iterator",data:=.fields #[first,Zf i,.ref S,Zf n,Zf ep]}
section
variable{g:Gl}{A:Xm}{E:Wn->Ws->Prop}{s s₀:Ws}{S I l N P:Addr}{x first:Wn}{xs rest:List Wn}{h h0:Heap}{es:Array (Int×Wn)}{ep i n m:Nat}{t:Zj}
theorem Dd{Q:Option Wn->Ws->Prop}{Q1:aaT->Ws->Prop}(hh:A.handled=none)(q:∀h',(∀b o,s.heap.get? b=some o->h'.get? b=some o)->Q none { s with heap:=h'}) :
 wpAny g.M A.in1 (do let e ←newExc (.type "StopIteration") [];raiseNew e) Q1 (λe s'=>WJ g.M A (do if(←aaN e (.type "StopIteration"))=true then pure none else throw e) Q E s') s:=by
 refine Wl ?_
 refine Wl (YE ?_ (by size_fits))
 refine Wl (m:=firstArgMember _ _) (adY (a:=aaY) rfl ?_)
 refine YE ?_ (by size_fits)
 refine c6 (λ_ q=>wpAny_handled q) ?_
 rw[show A.in1.handled=none from hh]
 refine Wl (Wq (wpAny_throw ?_))
 refine Wl (Zw (T:= "StopIteration") (b:=true) ⟨_,WR _ rfl,rfl⟩ isSubtype_stop ?_)
 exact Wq (q _ λb o e=>Wv _ (Wv _ e))
theorem qc{Q:Option Wn->Ws->Prop}{sl nx:Nat}(hS:s.heap.get? S=some (eL es ep t))(hf:t.fits es.size=true)(hI:s.heap.get? I=some (HK (Zf sl) i es.size ep S))
 (hn:∀{A E Q'},Q' (some (x,nx)) s->WJ g.M A (acV S sl i ep) Q' E s) (q:∀h',Xp I s.heap h'->h'.get? I=some (HK (Zf nx) (i+1) es.size ep S)->Q (some x) { s with heap:=h'}) :
 wpAny g.M A (aa9 (.ref I)) Q E s:=by
 unfold aa9
 refine Wl (abP (YV (name:=Wg "__next__") ⟨_,hI,rfl⟩ FX.Gs (Y9 FX.Gs ⟨_,hI,rfl⟩ FX.Fl ?_ (FX.Gu _))))
 show WJ _ _ (fieldsOf (.ref I)>>=_) _ _ s
 refine c6 (λ_ q=>acM hI rfl q) ?_
 refine Wl (Wl (Yc hS rfl hf (Wq ?_)))
 rw[if_neg (by rw[bne_self_eq_false];exact Xc)]
 show WJ _ _ (acV S sl i ep>>=_) _ _ s
 refine c6 (λ_ q=>hn q) ?_
 refine Wl (ZH hI (Wj rfl) λh1 e1 b1=>?_)
 refine Wl (ZH e1 (Wj rfl) λh2 e2 b2=>?_)
 exact Wq ⟨_,rfl,Wq (q h2 (b1.trans b2) e2)⟩
theorem k7{Q:Option Wn->Ws->Prop}{sl:Nat}(hh:A.handled=none)(hS:s.heap.get? S=some (eL es ep t))(hf:t.fits es.size=true)(hI:s.heap.get? I=some (HK (Zf sl) i es.size ep S))
 (hn:∀{A E Q'},Q' none s->WJ g.M A (acV S sl i ep) Q' E s) (q:∀h',acg I s.heap h'->Q none { s with heap:=h'}) :
 wpAny g.M A (aa9 (.ref I)) Q E s:=by
 unfold aa9
 refine Wl (abP (YV (name:=Wg "__next__") ⟨_,hI,rfl⟩ FX.Gs (Y9 FX.Gs ⟨_,hI,rfl⟩ FX.Fl ?_ (FX.Gu _))))
 show WJ _ _ (fieldsOf (.ref I)>>=_) _ _ s
 refine Wl (acM hI rfl ?_)
 refine Wl (Wl (Yc hS rfl hf (Wq ?_)))
 rw[if_neg (by rw[bne_self_eq_false];exact Xc)]
 show WJ _ _ (acV S sl i ep>>=_) _ _ s
 refine c6 (λ_ q=>hn q) ?_
 refine Wl (ZH hI (Wj rfl) λh1 e1 b1=>?_)
 exact Dd hh λh' k=>q h' λb o n e=>k b o ((b1.2 b n).trans e)
theorem zl{Q:Option Wn->Ws->Prop}{ps:List Wn}{p:Nat}{c:Int}(hS:s.heap.get? S=some (eL es ep t))(hf:t.fits es.size=true)(hI:s.heap.get? I=some (HK (.ref P) i es.size ep S))
 (hP:s.heap.get? P=some (sq "tuple" ps m)) (hp:ps[i]? = some (Zf p)) (hx:es[p]? = some (c,x)) (q:∀h',Xp I s.heap h'->h'.get? I=some (HK (.ref P) (i+1) es.size ep S)->Q (some x) { s with heap:=h'}) :
 wpAny g.M A (aa9 (.ref I)) Q E s:=by
 unfold aa9
 refine Wl (abP (YV (name:=Wg "__next__") ⟨_,hI,rfl⟩ FX.Gs (Y9 FX.Gs ⟨_,hI,rfl⟩ FX.Fl ?_ (FX.Gu _))))
 show WJ _ _ (fieldsOf (.ref I)>>=_) _ _ s
 refine c6 (λ_ q=>acM hI rfl q) ?_
 refine Wl (Wl (Yc hS rfl hf (Wq ?_)))
 rw[if_neg (by rw[bne_self_eq_false];exact Xc)]
 show WJ _ _ (seqItems? (.ref P)>>=_) _ _ s
 refine c6 (λ_ q=>aaz hP rfl q) ?_
 dsimp only
 rw[show ps.toArray[(i:Int).toNat]? = some (Zf p) by rw[X9];exact hp]
 refine Wl (c6 (λ_ q=>Yc hS rfl hf q) ?_)
 dsimp only
 rw[if_neg (by rw[bne_self_eq_false];exact Xc),hx]
 refine Wq (Wl (ZH hI (Wj rfl) λh1 e1 b1=>?_))
 exact Wq ⟨_,rfl,Wq (q h1 b1 e1)⟩
theorem Bf{Q:Option Wn->Ws->Prop}{ps:List Wn}(hh:A.handled=none)(hS:s.heap.get? S=some (eL es ep t))(hf:t.fits es.size=true)(hI:s.heap.get? I=some (HK (.ref P) i es.size ep S))
 (hP:s.heap.get? P=some (sq "tuple" ps m)) (hp:ps[i]? = none) (q:∀h',acg I s.heap h'->Q none { s with heap:=h'}) :
 wpAny g.M A (aa9 (.ref I)) Q E s:=by
 unfold aa9
 refine Wl (abP (YV (name:=Wg "__next__") ⟨_,hI,rfl⟩ FX.Gs (Y9 FX.Gs ⟨_,hI,rfl⟩ FX.Fl ?_ (FX.Gu _))))
 show WJ _ _ (fieldsOf (.ref I)>>=_) _ _ s
 refine c6 (λ_ q=>acM hI rfl q) ?_
 refine Wl (Wl (Yc hS rfl hf (Wq ?_)))
 rw[if_neg (by rw[bne_self_eq_false];exact Xc)]
 show WJ _ _ (seqItems? (.ref P)>>=_) _ _ s
 refine Wl (aaz hP rfl ?_)
 dsimp only
 rw[show ps.toArray[(i:Int).toNat]? = none by rw[X9];exact hp]
 refine Wl (ZH hI (Wj rfl) λh1 e1 b1=>?_)
 refine Wl (ZH e1 (Wj rfl) λh2 e2 b2=>?_)
 exact Dd hh λh' k=>q h' λb o n e=>k b o ((b2.2 b n).trans ((b1.2 b n).trans e))
end
end
section
open PySem.Builtin
noncomputable abbrev Gl.pick(g:Gl)(S:Addr)(ep:Nat)(es:Array (Int×Wn)):Sl:=(pickOrder (g.w.params.setOrder S ep) es).toList
inductive fq(g:Gl)(h:Heap)(S I:Addr):List Wn->Prop
 |text {es:Array (Int×Wn)} {ep i sl:Nat} {t:Zj} (hS:h.get? S=some (eL es ep t)) (f:t.fits es.size=true) (hI:h.get? I=some (HK (Zf sl) i es.size ep S)) (tx:g.text=true):fq g h S I (((g.pick S ep es).drop i).map (·.2))
 |drawn {es:Array (Int×Wn)} {ep i m:Nat} {t:Zj} {P:Addr} {ps:List Nat} (hS:h.get? S=some (eL es ep t)) (f:t.fits es.size=true) (hI:h.get? I=some (HK (.ref P) i es.size ep S)) (hP:h.get? P=some (sq "tuple" (ps.map λ(p:Nat)=>Zf p) m)) (b:∀p∈ps,p<es.size):fq g h S I ((ps.drop i).map λp=>(es[p]?.getD default).2)
 |none {ep sl i:Nat} {t:Zj} (hS:h.get? S=some (eL #[] ep t)) (f:t.fits 0=true) (hI:h.get? I=some (HK (Zf sl) i 0 ep S)) (tx:g.text=false):fq g h S I []
 |one {e:Int×Wn} {ep j:Nat} {t:Zj} (hS:h.get? S=some (eL #[e] ep t)) (f:t.fits 1=true) (pl:t.place=#[j]) (led:t.led=true) (hI:h.get? I=some (HK (Zf (0:Nat)) 0 1 ep S)) (tx:g.text=false):fq g h S I [e.2]
 |over {e:Int×Wn} {ep j:Nat} {t:Zj} (hS:h.get? S=some (eL #[e] ep t)) (f:t.fits 1=true) (pl:t.place=#[j]) (led:t.led=true) (hI:h.get? I=some (HK (Zf (j+1:Nat)) 1 1 ep S)) (tx:g.text=false):fq g h S I []
section
variable{g:Gl}{A:Xm}{E:Wn->Ws->Prop}{s s₀:Ws}{S I l N P D:Addr}{x first:Wn}{xs rest:List Wn}{h h' h0:Heap}{es:Array (Int×Wn)}{ep i n m:Nat}{t:Zj}
theorem sg(h1:h.get? a=some o)(d:h.get? b=some p)(n:o.cls≠p.cls):a≠b:=λe=>n (by rw[e,d]at h1;rw[W4 h1])
theorem zm:Yo "set" ≠ .type "list" := dD
theorem HM:Yo "set_iterator" ≠ .type "list" := dD
theorem Sm:Yo "tuple" ≠ .type "list" := dD
theorem fq.but(J:fq g h S I xs)(u:h.get? D=some (sq "list" rest m))(hb:Xp D h h'):fq g h' S I xs:=by
 have d:∀{b o},h.get? b=some o->o.cls≠.type "list" -> h'.get? b=some o:=λe n=>(hb.2 _ (sg e u n)).trans e
 cases J with
 |text y f q j=>exact .text (d y zm) f (d q HM) j
 |drawn y f q hP b=>exact .drawn (d y zm) f (d q HM) (d hP Sm) b
 |none y f q j=>exact .none (d y zm) f (d q HM) j
 |one y f pl z q j=>exact .one (d y zm) f pl z (d q HM) j
 |over y f pl z q j=>exact .over (d y zm) f pl z (d q HM) j
theorem vm(d:s.heap.get? S=some (eL es ep t))(y:t.fits es.size=true)(j:g.text=true)(q:Q (((g.pick S ep es)[i]?).map λe=>(e.2,sl)) s):WJ g.M A (acV S sl i ep) Q E s:=by
 unfold acV
 refine Wl (Yc d rfl y ?_)
 refine Wl (Wl (Yx (Wq ?_)))
 refine k4 (λ_=>?_) λh=>absurd j h
 rw[if_neg (by rw[bne_self_eq_false];exact Xc)]
 refine Wl (c6 (λ_ q=>Yc d rfl y q) ?_)
 refine Wl (Wl (Yx (Wq ?_)))
 refine k4 (λ_=>?_) λh=>absurd j h
 refine Wl (Yx (Wq (Wq ?_)))
 rw[←Array.getElem?_toList];exact q
theorem sh(u:s.heap.get? S=some (eL es ep t))(z:t.fits es.size=true)(y:g.text=false)(l:es.size<=1)(d:es.size=0∨t.led=true)(q:∀r,(∀c x j,es[Z7 t.place sl]? = some (c,x)->t.place[Z7 t.place sl]? = some j->r=some (x,j+1))->(es[Z7 t.place sl]? = none->r=none)->Q r s):WJ g.M A (acV S sl i ep) Q E s:=by
 unfold acV
 refine c6 (λ_ q=>Yc u rfl z q) ?_
 dsimp only
 refine Wl (Wl (Yx (Wq ?_)))
 refine k4 (λh=>absurd h (YS.mp y)) λ_=>k4 (λh=>?_) λ_=>?_
 ·have h:(!t.plain&&decide (es.size>1))=true:=h
  rw[decide_eq_false (Xq.mpr l),aaj]at h
  cases h
 ·refine(vS (a:=()) ?_ (Wq (q _ (λc x j h1 p=>by rw[h1,p]) λh=>by rw[h])))
  show(if(!t.led&&!es.isEmpty)=true then _ else _)=_
  rw[if_neg]
  rcases d with h|h
  ·rw[show es.isEmpty=true from decide_eq_true h,Bool.not_true,aaj];exact Xc
  ·rw[h];exact Xc
theorem T1:Z7 #[] n=0:=rfl
theorem T2:Z7 #[j] 0=0:=rfl
theorem LD:Z7 #[j] (j+1)=1:=
 have h:∀(f lo d:Nat),abJ #[j] (j+1) (f+1) lo d=(if lo<d then(if(#[j]:Array Nat).getD ((lo+d)/2) (j+1)<j+1 then abJ #[j] (j+1) f ((lo+d)/2+1) d else abJ #[j] (j+1) f lo ((lo+d)/2))else lo):=λf lo d=>rfl
 (h 0 0 1).trans ((if_pos dD).trans ((if_pos (show j<j+1 from X7 j)).trans rfl))
theorem fq.next(J:fq g s.heap S I xs)(e:xs=x::rest)(q:∀h',Xp I s.heap h'->fq g h' S I rest->Q (some x) { s with heap:=h'}):WJ g.M A (aa9 (.ref I)) Q E s:=by
 have to:∀{h' b o},Xp I s.heap h'->s.heap.get? b=some o->b≠I->h'.get? b=some o:=λhb e n=>(hb.2 _ n).trans e
 cases J with
 |@text es ep i sl t hS f hI tx=>
  have nS:=sg hS hI (show Yo "set" ≠ .type "set_iterator" by decide)
  obtain⟨y,r,e1,e2,e3⟩:=ae8.mp e
  have h1:(g.pick S ep es)[i]? = some y:=by rw[←Z5,e1];rfl
  have h2:(g.pick S ep es).drop (i+1)=r:=by rw[←adO,e1];rfl
  refine qc hS f hI (x:=x) (nx:=sl) (λ{A E Q'} q=>vm hS f tx (by rw[h1];show Q' (some (y.2,sl)) _;rw[e2];exact q)) λh' hb hI'=>q h' hb ?_
  rw[←e3,←h2]
  exact .text (to hb hS nS) f hI' tx
 |@drawn es ep i m t P ps hS f hI hP b=>
  have nS:=sg hS hI (show Yo "set" ≠ .type "set_iterator" by decide)
  have nP:=sg hP hI (show Yo "tuple" ≠ .type "set_iterator" by decide)
  obtain⟨p,r,e1,e2,e3⟩:=ae8.mp e
  have h1:ps[i]? = some p:=by rw[←Z5,e1];rfl
  have h2:ps.drop (i+1)=r:=by rw[←adO,e1];rfl
  have hx:es[p]? = some ((es[p]?.getD default).1,x):=by
   rw[←e2,getElem?_pos es p (b p (XJ h1))];rfl
  refine zl hS f hI hP (by rw[YQ,h1];rfl) hx λh' hb hI'=>q h' hb ?_
  rw[←e3,←h2]
  exact .drawn (to hb hS nS) f hI' (to hb hP nP) b
 |none=>cases e
 |@one e' ep j t hS f pl led hI tx=>
  cases e
  have nS:=sg hS hI (show Yo "set" ≠ .type "set_iterator" by decide)
  exact qc hS f hI (x:=e'.2) (nx:=j+1) (λq=>sh hS f tx (Wr _) (.inr led) λr h1 h2=>by
   rw[h1 e'.1 e'.2 j (by rw[pl];rfl) (by rw[pl];rfl)];exact q) λh' hb hI'=>q h' hb (.over (to hb hS nS) f pl led hI' tx)
 |over=>cases e
theorem fq.stop(hh:A.handled=.none)(J:fq g s.heap S I xs)(e:xs=[])(q:∀h',acg I s.heap h'->Q .none { s with heap:=h'}):WJ g.M A (aa9 (.ref I)) Q E s:=by
 cases J with
 |@text es ep i sl t hS f hI tx=>
  have h1:(g.pick S ep es)[i]? = .none:=by rw[←Z5,Zl.mp e];rfl
  exact k7 hh hS f hI (λq=>vm hS f tx (by rw[h1];exact q)) q
 |@drawn es ep i m t P ps hS f hI hP b=>
  have h1:ps[i]? = .none:=by rw[←Z5,Zl.mp e];rfl
  exact Bf hh hS f hI hP (by rw[YQ,h1];rfl) q
 |none hS f hI tx=>exact k7 hh hS f hI (λq=>sh hS f tx (WI _) (.inl rfl) λr h1 h2=>by rw[h2 rfl];exact q) q
 |one=>cases e
 |over hS f pl led hI tx=>exact k7 hh hS f hI (λq=>sh hS f tx (Wr _) (.inr led) λr h1 h2=>by rw[h2 (by rw[pl,LD];rfl)];exact q) q
end
end
section
open PySem.Builtin
namespace FX
theorem HN:YG aaf "set.__iter__" = some XQ.«frozenset.__iter__»:=entryFor_alias (id':= "frozenset.__iter__") (by rw[abH];kernel_rfl) rfl dD (by rw[abH];kernel_rfl)
end FX
section
variable{g:Gl}{A:Xm}{E:Wn->Ws->Prop}{s s₀:Ws}{S I l N P D:Addr}{x first:Wn}{xs rest:List Wn}{h h' h0:Heap}{es:Array (Int×Wn)}{ep i n m:Nat}{t:Zj}{d:List (List UInt8)}
theorem Fm(y:n≠0)(q:∀x dr,x<n->Q x { s with drawn:=dr}):WJ g.M A (choose src n) Q E s:=λj p _=>⟨y,q _ _ (ab1 _ (Nat.pos_of_ne_zero y))⟩
theorem k8{q:Type}:∀{xs:List q} {i:Nat} {x:q},xs[i]? = some x->xs.Perm (x::xs.eraseIdx i)
 | [],_,_,h=>ns h
 |y::r,0,x,h=>by cases h;exact .refl _
 |y::r,i+1,x,h=>((k8 (xs:=r) (i:=i) h).cons y).trans (.swap x y _)
theorem Bg:∀(n:Nat) (xs:List α) {s:Ws} {Q:List α->Ws->Prop},xs.length=n->(∀ys dr,ys.Perm xs->Q ys { s with drawn:=dr})->WJ g.M A (drawOrder n xs) Q E s:=by
 intro w1
 induction w1 with
 |zero=>
  intro xs s Q l q
  rw[Xg l]at q ⊢
  exact show WJ g.M A (pure []) Q E s from Wq (q [] s.drawn (.refl _))
 |succ n ih=>
  intro w2
  cases w2 with
  |nil=>
   intro s Q l q
   exact nomatch l
  |cons y r=>
   intro s Q l q
   refine Wl (Fm (Nat.succ_ne_zero _) λi dr hi=>?_)
   have e:(y::r)[i]? = some ((y::r)[i]):=Xk hi
   have p:=k8 e
   rw[e]
   refine Wl (ih ((y::r).eraseIdx i) (by rw[ZO hi,l];rfl) λys dr hp=>Wq (q _ dr ((hp.cons _).trans p.symm)))
theorem Fn(f:Nat->Nat):∀(n k:Nat) (left:List α) (out:Array α),left.length=n->(pickOrder.go f n k left out).toList.Perm (out.toList++left):=by
 intro zi
 induction zi with
 |zero=>
  intro k left out l
  rw[Xg l,WT];exact .refl _
 |succ n ih=>
  intro k left out l
  have hi:f k%left.length<left.length:=ab1 _ (by rw[l];exact XF n)
  have e:left[f k%left.length]? = some left[f k%left.length]:=Xk hi
  show(match left[f k%left.length]? with|some x=>pickOrder.go f n (k+1) (left.eraseIdx (f k%left.length)) (out.push x)|none=>out).toList.Perm _
  rw[e]
  refine(ih (k+1) _ (out.push left[f k%left.length]) (by rw[ZO hi,l];rfl)).trans ?_
  rw[afx,Wx]
  exact(k8 e).symm.append_left _
inductive HO(g:Gl)(s:Ws)(S:Addr)(d:List (List UInt8))(I:Addr)(s':Ws):Prop
 |mk {rest:List Wn} {hp:Heap} {dr:_} (e:s'={s with heap:=hp,drawn:=dr}) (keep:∀b o,s.heap.get? b=some o->hp.get? b=some o) (new:s.heap.objs.size<=I) (J:fq g hp S I rest) (p:(rest.map bv).Perm d) (b:∀x∈rest,∃b t,x=YZ b t):HO g s S d I s'
theorem De(ok:wH g es.toList d)(keep:∀b o,s.heap.get? b=some o->hp.get? b=some o)(new:s.heap.objs.size<=I)(J:fq g hp S I rest)(p:rest.Perm (es.toList.map (·.2))):HO g s S d I { s with heap:=hp,drawn:=dr}:=
 .mk rfl keep new J (by
  have:=p.map bv
  rw[XM]at this
  rw[←ok.2.1];exact this) λx hx=>by
  obtain⟨e,he,rfl⟩:=WN.mp (p.mem_iff.mp hx)
  obtain⟨k,hk,_⟩:=(ok.1 e he).1
  obtain⟨t,ht⟩:=aff hk
  exact⟨_,t,ht⟩
theorem Bh:(XI es.size).map (λp=>(es[p]?.getD default).2)=es.toList.map (·.2):=List.ext_getElem (by rw[Wp,Wp,Zc,Yz]) λi h1 y=>by
 have q:i<es.size:=by rw[Wp,Zc]at h1;exact h1
 rw[List.getElem_map,List.getElem_map,List.getElem_range,getElem?_pos es i q,Array.getElem_toList];rfl
set_option tactic.hygienic true in
theorem HP(hS:eX g s.heap S d)(q:∀I s',HO g s S d I s'->s'.TypeIs (.ref I) "set_iterator" -> Q (.ref I) s'):WJ g.M A (call (.builtin "set.__iter__") [.ref S]) Q E s:=by
 obtain⟨at_,ok,b,f,led,pl⟩:=hS
 rename_i es ep t
 refine Y9 F.slot_set_iter ⟨_,at_,rfl⟩ FX.HN ?_ (F.args_set_iter_1 _)
 show WJ _ _ (Frozenset.sizeOf S>>=_) _ _ s
 refine Wl (Wl (Wl (Yc at_ rfl f (Wq (Wq ?_)))))
 refine Wl (Wl (Yc at_ rfl f ?_))
 refine Wl (Wl (Yx (Wq (Wq ?_))))
 refine k4 (λc=>?_) λc=>?_
 ·refine Wl (Bg es.size (XI es.size) Zc λys dr hp=>?_)
  refine Wl (aey ?_ ?_)
  refine Wl (wpAny_setEpoch_of (Wv _ at_) rfl f ?_)
  refine Wl (YE (Wq ⟨_,rfl,q _ _ (De ok (λb o e=>Wv _ (Wv _ e)) ?_ (.drawn (i:=0) (ps:=ys) (Wv _ (Wv _ at_)) f (WR _ rfl) (Wv _ (WR _ rfl)) λp h=>List.mem_range.mp (hp.mem_iff.mp h)) ?_) ⟨_,WR _ rfl,rfl⟩⟩))
  ·rw[aaR];exact XC _
  ·rw[←Bh];exact hp.map _
  ·rw[Wp,hp.length_eq,Zc];exact fits_of_scanBound b
 ·refine Az (?_)
  refine c6 (λ_ q=>wpAny_setEpoch_of at_ rfl f q) ?_
  have up:∀{o},s.heap.get? S=some o->∀{p},(s.heap.push p).get? S=some o:=λe=>Wv _ e
  generalize tx:g.text=zz;cases zz with
  |true=>exact Wl (YE (Wq ⟨_,rfl,q _ _ (De (dr:=s.drawn) ok (λb o e=>Wv _ e) (Wr _) (.text (i:=0) (sl:=0) (up at_) f (WR _ rfl) tx) ((Fn _ _ _ _ _ (Yz ..)).map _)) ⟨_,WR _ rfl,rfl⟩⟩))
  |false=>
   have c1:¬(!g.text&&(!t.plain&&decide (es.size>1)))=true:=c
   rw[tx]at c1 led
   have l1:es.size<=1:=by
    rcases pl with p|p
    ·rw[p];exact WI _
    ·rw[p]at c1
     exact Xq.mp λh=>c1 (by rw[decide_eq_true h];rfl)
   rcases es with⟨_|⟨e,_|⟨e',r⟩⟩⟩
   ·exact Wl (YE (Wq ⟨_,rfl,q _ _ (De (dr:=s.drawn) ok (λb o e=>Wv _ e) (Wr _) (.none (i:=0) (sl:=0) (up at_) f (WR _ rfl) tx) (.refl _)) ⟨_,WR _ rfl,rfl⟩⟩))
   ·obtain⟨j,hj⟩:=Array.size_eq_one_iff.mp (show t.place.size=1 from eq_of_beq (Yg.mp (show(t.place.size==1&&decide (t.fill<=t.mask))=true from f)).1)
    exact Wl (YE (Wq ⟨_,rfl,q _ _ (De (dr:=s.drawn) ok (λb o e=>Wv _ e) (Wr _) (.one (up at_) f hj led (WR _ rfl) tx) (.refl _)) ⟨_,WR _ rfl,rfl⟩⟩))
   ·exact absurd l1 (afh _∘Yi)
end
end
section
open PySem.Builtin
section
variable{g:Gl}{A:Xm}{E:Wn->Ws->Prop}{s s₀:Ws}{S I l N P D:Addr}{x first:Wn}{xs rest all:List Wn}{h h' h0:Heap}{d:List (List UInt8)}{R:abU->Ws->Prop}
theorem HQ(hh:A.handled=none)(DN:N<=D)(IN:N<=I)(ha:all.length<=5000)(hR:∀h c,Pk N h0 h->h.get? D=some (sq "list" all c)->R (.ok (.ret (.ref D))) { s₀ with heap:=h}) :
 ∀(rest acc:List Wn) (c:Nat) (h:Heap),acc++rest=all->fq g h S I rest->h.get? D=some (sq "list" acc c)->Pk N h0 h->D≠I->ady g.M A (.builtin "list.extend.loop" ⟨[.ref D,.ref I,.ref D],[]⟩) R { s₀ with heap:=h}:=by
 intro zi
 induction zi with
 |nil=>
  intro acc c h e J hD o n
  refine Y1 F.entry_extend_loop ?_
  rw[XW aa3 _]
  refine Wl (J.stop (s:={s₀ with heap:=h}) hh rfl λh' he=>Wq (hR h' c (λb x q e=>he b x (W8 (WK q IN)) (o b x q e)) ?_))
  rw[←e,WT]
  exact he D _ n hD
 |cons x r ih=>
  intro acc c h e J hD o n
  refine Y1 F.entry_extend_loop ?_
  rw[XW aa3 _]
  refine Wl (J.next (s:={s₀ with heap:=h}) rfl λh1 b1 J1=>?_)
  have hD1:=(b1.2 D n).trans hD
  have hl:acc.length<=5000:=Wh (WA _ _) (by rw[←e,Wk]at ha;exact ha)
  show WJ _ A.in1 (updateSeq D (·.push x)>>=_) _ _ _
  refine Wl (ad7 hD1 rfl (Wq ⟨ZM aa3 _,?_⟩) (by rw[Wu,W5];exact Wh hl dD) (by rw[adm,Wu,W5];exact Ww (Wh hl dD)))
  have e1:(h1.update D (Xs (·.push x))).get? D=some (sq "list" (acc++[x]) (c+1)):=by
   rw[Xi _ hD1 rfl]
   unfold sq Xs
   simp
  have b2:=Yd h1 D (Xs (·.push x))
  exact ih (acc++[x]) (c+1) _ (by rw[Wx];exact e) (J1.but hD1 b2) e1 (λb y q e=>(b2.2 b (W8 (WK q DN))).trans ((b1.2 b (W8 (WK q IN))).trans (o b y q e))) n
theorem HR(hT:s.TypeIs (.ref S) "set")(q:Q false s):WJ g.M A (acC (.ref S)) Q E s:=by
 unfold acC
 refine c6 (λ_ q=>Zg hT PySem.F.slot_set_len.lookup q) ?_
 generalize hid:("set.__len__" : String)=j
 wp_delta
 rw[show splitId j=some ("set", "__len__")from by subst hid;decide +kernel]
 subst hid
 refine c6 (λ_ q=>Zw (T:= "set") (b:=true) hT sub_set_self q) ?_
 refine wpAny_ite_split (λy=>absurd y dD) (λ_=>?_)
 refine wpAny_ite_split (λ_=>?_) (λy=>absurd dD y)
 refine c6 (λ_ q=>adu hT q) ?_
 exact Wq q
end
end
section
open PySem.Builtin
section
variable{g:Gl}{A:Xm}{E:Wn->Ws->Prop}{s s₀:Ws}{S I l N P D:Addr}{x first:Wn}{xs rest all:List Wn}{h h' h0:Heap}{d:List (List UInt8)}{R:abU->Ws->Prop}
theorem eX.push(y:eX g h S d)(o:Obj):eX g (h.push o) S d:=by
 obtain⟨at_,ok,b,f,q,pl⟩:=y
 exact .mk (Wv _ at_) ok b f q pl
theorem eX.typeIs(q:eX g s.heap S d):s.TypeIs (.ref S) "set" := by
 obtain⟨at_,ok,b,f,y,pl⟩:=q
 exact⟨_,at_,rfl⟩
theorem eX.lt(q:eX g h S d):S<h.objs.size:=by
 obtain⟨at_,ok,b,f,y,pl⟩:=q
 exact W6 at_
inductive Dg(g:Gl)(s:Ws)(d:List (List UInt8))(all:List Wn)(s':Ws):Prop
 |mk {hp:Heap} {dr:Drawn} (e:s'={s with heap:=hp,drawn:=dr}) (old:Pk s.heap.objs.size s.heap hp) (p:(all.map bv).Perm d) (b:∀x∈all,∃b t,x=YZ b t):Dg g s d all s'
set_option tactic.hygienic true in
theorem Bi(hh:A.handled=none)(hs:s₁={s with heap:=s.heap.push (sq "list" [] 0)})(hS:eX g s.heap S d)(hl:d.length<=5000)
 (q:∀all s' c,Dg g s d all s'->s'.heap.get? s.heap.objs.size=some (sq "list" all c)->R (.ok (.ret (.ref s.heap.objs.size))) s') :
 codeAny g.M A (.builtin "list.__iadd__" ⟨[.ref s.heap.objs.size,.ref S],[]⟩) R s₁:=by
 have hS1:eX g s₁.heap S d:=by rw[hs];exact hS.push _
 refine Y1 F.entry_list_iadd ?_
 rw[XW F.plain_list_iadd _]
 show WJ _ A.in1 (Builtin.List.listExtendWith (.ref s.heap.objs.size) (.ref S) (.ref s.heap.objs.size)) _ _ s₁
 refine c6 (λ_ q=>adu hS1.typeIs q) ?_
 rw[if_neg (by
  rw[show Builtin.List.listSameRef (.ref s.heap.objs.size) (.ref S)=false from beq_false_of_ne (YN hS.lt)]
  decide)]
 refine Wl (wpAny_pyIter_slot hS1.typeIs F.slot_set_iter (HP hS1 λI s2 J T=>⟨_,_,T,FX.Gs.lookup,?_⟩))
 obtain⟨e2,keep,new,J,p,b⟩:=J
 rename_i rest hp dr
 have hD:hp.get? s.heap.objs.size=some (sq "list" [] 0):=keep _ _ (by rw[hs];exact WR _ rfl)
 have hT:s2.TypeIs (.ref S) "set" := by
  obtain⟨at_,_⟩:=hS1
  exact⟨_,by rw[e2];exact keep _ _ at_,rfl⟩
 refine Wl (Xu (HR hT ?_))
 show WJ _ A.in1 (rule "list.extend.makes-room" >>= λ_=>Builtin.List.listTouch (.ref s.heap.objs.size)>>=λ_=>
  again (.builtin "list.extend.loop" ⟨[.ref s.heap.objs.size,.ref I,.ref s.heap.objs.size],[]⟩)) _ _ _
 refine Wl (YD (Wl ?_))
 rw[e2]
 show WJ _ A.in1 (updateSeq s.heap.objs.size (·.push .none)>>=λ_=>updateSeq s.heap.objs.size (·.pop)) _ _ _
 refine c6 (λ_ q=>ad7 hD rfl q) ?_
 have h2:=Xi (Xs (·.push aaY)) hD rfl
 refine ad7 h2 rfl ?_
 have h3:=Xi (Xs (·.pop)) h2 rfl
 have b1:=(Yd hp s.heap.objs.size (Xs (·.push aaY))).trans (Yd _ s.heap.objs.size (Xs (·.pop)))
 have new:s.heap.objs.size+1<=I:=by rw[hs]at new;exact Wh (Xz (aaR ..).symm) new
 have keep:Pk s.heap.objs.size s.heap hp:=λb o _ e=>keep b o (by rw[hs];exact Wv _ e)
 have hlr:rest.length<=5000:=by rw[←Wp (f:=bv),p.length_eq];exact hl
 rw[hs]
 refine Wq ⟨ZM aa3 _,HQ (A:=A) (s₀:={s with drawn:=dr}) (N:=s.heap.objs.size) (h0:=s.heap) hh (Wr _) (Yk new) hlr (λh c o hD=>q rest _ c (.mk rfl o p b) hD) rest [] _ _ rfl (J.but hD b1) h3 (λb o q e=>(b1.2 b (W8 q)).trans (keep b o q e)) (W8 new)⟩
theorem zo(hh:A.handled=none)(hS:eX g s.heap S d)(hl:d.length<=5000)(q:∀all s',Dg g s d all s'->s.heap.objs.size<s'.heap.objs.size->Q all s'):WJ g.M A (collect (.ref S)) Q E s:=by
 unfold collect
 refine Wl (wpAny_runValue (Y1 F.entry_proto_collect ?_))
 rw[XW F.plain_proto_collect _]
 show WJ _ A.in1 (newList []>>=λl=>ad0 (.builtin "list.__iadd__" ⟨[l,.ref S],[]⟩)) _ _ s
 refine Wl (Zp (Wq ⟨ZM F.plain_list_iadd _,?_⟩))
 refine Bi (A:=A) hh rfl hS hl λall s' c T hD=>?_
 exact Wl (aaM hD (Wq (q all s' T (W6 hD))))
set_option tactic.hygienic true in
theorem Bj(G:A.handled=none)(H:eX g s.heap S d)(i:d.length<64)
 (q:∀B D ys c,Dg g s d ys B->s.heap.objs.size<=D->B.heap.get? D=some (sq "list" ys c)->(ys.map bv).Pairwise wA->Q (.ref D) B):WJ g.M A (call (.builtin "sorted") [.ref S]) Q E s:=by
 refine adM kind_sorted plain_sorted entry_sorted (args_sorted1 _) ?_
 refine Wl (m:=checkCount "sorted" 1 1 _) (Wq ?_)
 refine Wl (zo (A:=A.in1) G H (Wh (Xy i) dD) λall s1 T lt=>?_)
 obtain⟨rfl,o,p,b⟩:=T
 rename_i hp dr
 have lt:s.heap.objs.size<hp.objs.size:=lt
 have X:all.length<64:=by rw[←Wp (f:=bv),p.length_eq];exact i
 refine Wl (Zp ?_ (by rw[W5];exact Wh (Xy X) dD))
 have j:AllB all:=λx hx=>(b x hx).elim λa z=>z.elim λt z=>⟨a.toList,z▸rfl⟩
 have k:(hp.push (sq "list" all 0)).get? hp.objs.size=some (sq "list" all 0):=WR _ rfl
 refine Wl (Xu (Y9 aeP ⟨_,k,rfl⟩ entry_list_sort (list_sort_treeK Hx k (NC j) (λJ U rest e=>Bc (e▸j)) X λst' a1 a2=>⟨_,rfl,?_⟩) (args_list_sort _)))
 have w:=zk a1 a2
 generalize (abM st').map (·.2)=out at *
 refine Wy λno=>?_
 obtain⟨n,u⟩:=sortedHeap_at (out:=out) k
 refine no ?_
 rw[←aeW (xs:=out)]at u
 refine Wq ⟨_,rfl,q _ hp.objs.size out.toList n (.mk (dr:=dr) rfl (λb' o' hb Z=>?_) ((w.1.map bv).trans p) λy Y=>b y (w.1.mem_iff.mp Y)) (Xy lt) u w.2⟩
 have L:=XN hb lt
 exact(sortedHeap_old (W8 L) (by rw[aaR];exact Nat.lt_succ_of_lt L)).trans (Wv _ (o b' o' hb Z))
end
end
section
open PySem.Builtin
section
variable{g:Gl}{cx:Cx}{tmp:List V}{vals:List Wn}{st:St}{s:Ws}{A:Xm}{x y z:Wn}{v:V}{F:FZ}{E:Wn->Ws->Prop}{Q:V->St->Prop}{X:St->Prop}{W:PT}{pos np p2 yp:Pos}{arg e:Expr}{xs ys:List Wn}{hp:Heap}{tk:Nat}{dr:Drawn}{d:List (List UInt8)}
theorem aI.moved(R:aI g cx tmp vals st s)(hk:∀b o,s.heap.get? b=some o->hp.get? b=some o):aI g cx tmp vals st { s with heap:=hp,toks:=tk,drawn:=dr}:=
 have R':=R.keeps (tk:=tk) hk
 {ok:=R'.ok,base:=R'.base,gens:=R'.gens,os:=R'.os,known:=R'.known,rsv:=R'.rsv,frs:=R'.frs,keep:=R'.keep,outer:=R'.outer,cl:=R'.cl,loc:=R'.loc,wait:=R'.wait,tmp:=R'.tmp}
theorem LF(B:tZ g F xs)(m:∀y∈ys,bv y∈xs.map bv)(b:∀y∈ys,∃b t,y=YZ b t):tZ g F ys:=λy j=>by
 obtain⟨c,t,e⟩:=b y j
 obtain⟨x,hx,q⟩:=WN.mp (m y j)
 obtain⟨i,p,u,w⟩:=B x hx
 refine⟨c,t,e,?_⟩
 rw[u,e]at q
 have q:i.toList=c.toList:=q
 rw[e]
 exact Wm (q▸ZE w) ⟨t,rfl⟩
set_option tactic.hygienic true in
theorem Bk(hh:A.handled=none)(R:aI g cx tmp vals st s)(B:xs.map bv=bs∧tZ g (cx.F st s) xs)(ho:s.heap.get? a=some (sq "list" xs m))(h64:bs.length<64)
 (q:∀l:List (List UInt8),l.Nodup->(∀x,x∈l↔x∈bs)->l.Pairwise wA->Q (.lst (l.map .bytes)) st) (T:Pl g s xs s2) :
 g.B.StaysIn s2.heap∧wq g A (call (.builtin "sorted") [.ref s.heap.objs.size]) (Up g cx tmp vals Q) E s2:=by
 obtain⟨h,tk,d,rfl,o,S,mm,le⟩:=T
 have k1:∀b o',s.heap.get? b=some o'->h.get? b=some o':=λb o' e=>o b o' (W6 e) e
 refine⟨(R.keeps (tk:=tk) k1).base,aF (Bj hh S (Wz le (by rw[←Wp (f:=bv),B.1];exact h64)) λs3 D ys c T hD hD2 pw=>?_)⟩
 obtain⟨rfl,o2,p,b⟩:=T
 rename_i hp dr
 have hlt:s.heap.objs.size<h.objs.size:=S.lt
 have k2:∀b o',s.heap.get? b=some o'->hp.get? b=some o':=λb o' e=>o2 b o' (XN (W6 e) hlt) (k1 b o' e)
 have nd:d.Nodup:=by obtain⟨_,ok,_⟩:=S;exact ok.2.2
 have B2:tZ g (cx.F st s) ys:=LF B.2 (λy hy=>(mm _).mp (p.mem_iff.mp (X8 hy))) b
 have hl:ys.length<=1000000:=by rw[←Wp (f:=bv),p.length_eq];exact Wh le (by rw[←Wp (f:=bv),B.1];exact Wh (Xy h64) dD)
 exact .mk ((R.moved k2).push (v:=.lst ((ys.map bv).map .bytes)) (show bQ _ _ _ _ from .mk rfl (R.new k2 (Wh (Xy hlt) hD) hD2 (c7 rfl rfl)) hl ((NB B2).mono λb o z=>⟨k2 _ _ z.1,z.2⟩))) (q _ (p.nodup_iff.mpr nd) (λy=>by rw[p.mem_iff,mm y,B.1]) pw)
theorem Dh(h:wq g A t (λv j=>i [v] j) E s):wq g A (abG [(false,t)]) i E s:=by
 rw[abG]
 exact b0 h λv j q=>aq (ax (aq (ay (ax (ax q)))))
theorem Fo{x y:Str}(S:bE g cx (.Name x np) (af (.raw (.builtin "sorted"))))(D:Keeps g (.builtin "sorted"))(J:bE g cx (.Name y yp) (af (.raw (.type "set"))))(c:Keeps g (.type "set"))(ha:bE g cx arg W)(hp:a5 arg=true) :
 bE g cx (.Call (.Name x np) [.Call (.Name y yp) [arg] [] p2] [] pos) (de W):=λ{A s tmp vals st Q X} oa R w=>
 TE.then_ (Q:=λv st'=>v=.raw (.builtin "sorted")∧de W Q X st') S oa R ⟨rfl,w⟩ λv z st s p q=>by
  obtain⟨rfl,q⟩:=q
  obtain rfl:z=.builtin "sorted" := p.tmp.1
  refine bO D rfl (Dh (show wq _ _ (do aeI p2 (←eval (.Name y yp) cx.env) [] (Zq p2 (Yb [arg] cx.env)) (backToKw p2 (adZ [] cx.env))) _ _ _ from ?_))
  refine TE.then_ (Q:=λv st'=>v=.raw (.type "set")∧de W Q X st') J oa p.pop ⟨rfl,q⟩ λv z st s k q=>?_
  obtain⟨rfl,q⟩:=q
  obtain rfl:z=.type "set" := k.tmp.1
  refine bO c (by rw[wG hp];rfl) ?_
  rw[wG hp]
  refine Dh (aV (ha oa k.pop q) λz s u=>u.elim' λv st i q=>⟨i.base,?_⟩)
  obtain⟨vs,e,q⟩:=eT q
  obtain⟨G,hb,j,q⟩:=aT q
  have hx:=i.rsd i.tmp.1
  rw[e]at hx
  refine aI.seq hx λa xs m ex o Z U L=>?_
  subst ex
  have B:=NA L hb
  exact aF (Fk oa.handled (λx hx=>(B.2 x hx).elim λb z=>z.elim λt z=>⟨b,t,z.1⟩) (by rw[←Wp (f:=bv),B.1];exact j) o λY T=>Bk oa.handled i.pop B o j q T)
end
end
inductive FK where
 |fn (v:Wn)
 |bw (v:Wn) (w:BW)
 |range
 |sort
 |set
structure Gm where
 n:Nat
 exc:Str
 tops:List (Str×V)
 fns:List (Str×FK)
 attr:List (Str×Ix)
 meth:List (Str×MT)
structure Sc where
 S:Zk
 names:List Str
 fn:Bool
 grow:List Str
structure Rc where
 e:Sc->Expr->PT
 b:Sc->Expr->PT
 i:Sc->Expr->PT
 t:Sc->Expr->gH
 ss:Sc->List Stmt->PT
noncomputable def cG(a b:Str):Bool:=a.cps.toList==b.cps.toList
noncomputable def iR{d:Type}(l:List (Str×d))(x:Str):Option d:=(l.find? λp=>cG p.1 x).map (·.2)
noncomputable def place(l:List Str)(x:Str):Option Nat:=l.findIdx? λy=>cG y x
noncomputable def cu(w:PT):PT:=λQ X st=>w (λv st=>GF v λb=>Q (.bool b) st) X st
noncomputable def a8(own:Nat)(is:List Nat)(W:List V->List V->(List V->St->Prop)->St->Prop)(y:PT):PT:=λQ X st=>y (λvs d=>iF vs λvs=>W vs [] (λq st'=>Q (.lst q) ⟨d.loc,st'.h⟩) ⟨Xb own none++eJ is d.loc,d.h⟩) X st
noncomputable def hZ(y:gH)(j q:PT):List V->List V->(List V->St->Prop)->St->Prop:=λvs d Q st=>d.length+vs.length<=1000000∧iH y j q vs d Q st
noncomputable def T3:=(ak,av,dn,qb,sd,a8,hZ,fV,cL,fW,bN,vY,da,bZ,KQ,dq,fX,cu,de,eW)
noncomputable def gd(c:Bool)(w:PT):PT:=Ze (motive:=λ_=>PT) c (abO _ cJ T3) w
noncomputable def badT:gH:=λ_ _ _=>False
noncomputable def gt(c:Bool)(w:gH):gH:=Ze (motive:=λ_=>gH) c (abO _ badT T3) w
noncomputable def og{d:Type}(o:Option d)(w:d->PT):PT:=Xa (motive:=λ_=>PT) o (abO _ cJ T3) w
noncomputable def ot{d:Type}(o:Option d)(w:d->gH):gH:=Xa (motive:=λ_=>gH) o (abO _ badT T3) w
noncomputable def pureOf(t:Sem d):Option d:=match t with
 | .pure a=>some a
 |_=>none
noncomputable def kindIs(S:Zk)(x:Str)(k:Zx):Bool:=match iR S.names x with
 |some j=>j==k
 |none=>false
noncomputable def jn(sc:Sc)(x:Str):Bool:=kindIs sc.S x .local||(sc.fn&&kindIs sc.S x .cell)
noncomputable def h8:Str:=⟨#[95,95,100,101,98,117,103,95,95]⟩
noncomputable def HS:Str:=⟨#[95,95,99,108,97,115,115,100,105,99,116,95,95]⟩
noncomputable def HT(G:Gm)(sc:Sc)(x:Str):PT:=match place sc.names x with
 |some i=>gd (!cG x h8&&!cG x HS) (ae i)
 |none=>gd (kindIs sc.S x .globalImplicit) (og (iR G.tops x) af)
noncomputable def Pm(b:Bool)(v:V):Option V:=Ze (motive:=λ_=>Option V) b none (some v)
noncomputable def wJ(c:Const):Option V:=match c with
 | .int i=>some (.int i)
 | .none=>some .none
 | .bool b=>some (.bool b)
 | .str u=>Pm (decide (u.cps.toList.length<=16777216)) (.str u.cps.toList)
 | .bytes u=>Pm (decide (u.length<=16777216)) (.bytes u)
 |_=>none
noncomputable def Bl(e:Expr):Option V:=match e with
 | .Constant c _ _=>wJ c
 |_=>none
noncomputable def iK(w:Expr->PT)(d:List Expr):PT:=d.foldr (λe r=>aa (w e) r) ag
noncomputable def Bm(o:Expr):Bool:=match o with
 | .Call _ args _ _=>!args.isEmpty
 |_=>true
noncomputable def k9(e:Expr):Bool:=match e with
 | .Set _ _ _=>false
 |_=>true
noncomputable def jo:List Str->Bool
 | []=>true
 |x::l=>!l.any (cG x)&&jo l
noncomputable def Di(S scope:Zk)(names:List Str):Bool:=
 (rq .free scope.names).all (λx=>(place names x).isSome&&kindIs S x .cell)&&jo (bM scope)&&jo (scope.names.map (·.1))&&scope.kind==.function&&scope.names.all λy=>!(y.2==.cell)
noncomputable def bf(sc:Sc)(scope:Zk):Sc:=⟨eV sc.S scope,bM scope,false,[]⟩
noncomputable def Pn(w:Expr->PT)(d:List Expr):PT:=match d with
 | []=>j2
 |c::r=>gd r.isEmpty (w c)
noncomputable def T4(r:Rc)(sc:Sc)(d:Expr)(gens:List abV)(scope:Zk):PT:=gd (sc.fn&&Di sc.S scope sc.names) (match gens with
 | []=>cJ
 |c0::rest=>gd (c0.is_async==0&&k9 c0.iter) (match rest with
  | []=>a8 (rq .local scope.names).length ((rq .free scope.names).filterMap (place sc.names)) (hZ (r.t (bf sc scope) c0.target) (Pn (r.b (bf sc scope)) c0.ifs) (r.e (bf sc scope) d)) (r.i sc c0.iter)
  |c1::more=>gd (c1.is_async==0&&k9 c1.iter&&more.isEmpty&&c0.ifs.isEmpty&&c1.ifs.isEmpty)
   (a8 (rq .local scope.names).length ((rq .free scope.names).filterMap (place sc.names)) (fV (r.t (bf sc scope) c0.target) (r.t (bf sc scope) c1.target) (r.i (bf sc scope) c1.iter) (r.e (bf sc scope) d)) (r.i sc c0.iter))))
noncomputable def Po(w:Expr->PT)(o:Option Expr):PT:=match o with
 |some e=>w e
 |none=>af .none
noncomputable def ND(c:Const):Bool:=match c with
 | .int i=>i==1
 |_=>false
noncomputable def Sn(e:Expr):Bool:=match e with
 | .Constant c _ _=>ND c
 |_=>false
noncomputable def So(e:Expr):Bool:=match e with
 | .UnaryOp op a _=>op==.USub&&Sn a
 |_=>false
noncomputable def HU(r:Rc)(sc:Sc)(v:Expr)(lo d step:Option Expr):PT:=match step with
 |none=>bb (r.e sc v) (Po (r.e sc) lo) (Po (r.e sc) d)
 |some k=>gd (So k&&lo.isNone&&d.isNone) (KP (r.e sc v))
noncomputable def Sp(r:Rc)(sc:Sc)(v s:Expr):PT:=match s with
 | .Slice lo d step _=>HU r sc v lo d step
 |s=>aQ (r.e sc v) (r.e sc s)
noncomputable def NG(op:BoolOp):PT->PT->PT:=match op with
 | .And=>di
 | .Or=>cF
noncomputable def Vl(g:Gl)(n:Nat)(k:FK)(d:PT):PT:=match k with
 | .fn v=>ak g n v d
 | .bw _ w=>dn w d
 | .sort=>dn (b1 hV) d
 |_=>cJ
noncomputable def wK(k:FK):Bool:=match k with
 | .sort=>true
 |_=>false
noncomputable def HV(k:FK):Bool:=match k with
 | .set=>true
 |_=>false
noncomputable def NH(k:FK):Option Addr:=match k with
 | .fn (.ref a)=>some a
 |_=>none
noncomputable def wL(e:Expr):Option Str:=match e with
 | .Name x _=>some x
 |_=>none
noncomputable def vn(l:List d):Option d:=match l with
 | [a]=>some a
 |_=>none
noncomputable def setArg(e:Expr):Option (Expr×Expr):=match e with
 | .Call f args d _=>Xa (motive:=λ_=>Option (Expr×Expr)) (vn args) none λa=>Ze (motive:=λ_=>Option (Expr×Expr)) d.isEmpty none (some (f,a))
 |_=>none
noncomputable def Sq{d:Type}(o:Option d)(w:PT)(f:d->PT):PT:=Xa (motive:=λ_=>PT) o w f
noncomputable def NI(G:Gm)(r:Rc)(sc:Sc)(k:FK)(args:List Expr)(w:PT):PT:=Sq (vn args) w λe=>Sq (setArg e) w λq=>Sq (wL q.1) w λy=>Sq (iR G.fns y) w λd=>Ze (motive:=λ_=>PT) (wK k&&HV d) w (gd (a5 q.2&&kindIs sc.S y .globalImplicit) (de (r.e sc q.2)))
noncomputable def NJ(g:Gl)(G:Gm)(r:Rc)(sc:Sc)(f:Expr)(args:List Expr)(pos:Pos):PT:=match f with
 | .Name x _=>og (iR G.fns x) λk=>gd (args.all a5&&kindIs sc.S x .globalImplicit) (NI G r sc k args (Vl g G.n k (iK (r.e sc) args)))
 | .Attribute o name d=>og (iR G.meth name) λm=>gd (args.all a5&&Bm o&&decide (args.length<30)&&d.endLine==pos.line) (av g G.n m (r.e sc o) (iK (r.e sc) args))
 |_=>cJ
noncomputable def HW:Str:=Wg "key"
noncomputable def HX(g:Gl)(G:Gm)(r:Rc)(sc:Sc)(f:Expr)(args:List Expr)(d:ael):PT:=og d.arg λk=>og (wL f) λx=>og (wL d.value) λy=>og (vn args) λa=>og (iR G.fns x) λi=>og (iR G.fns y) λq=>og (NH q) λj=>
 gd (cG k HW&&wK i&&a5 a&&kindIs sc.S x .globalImplicit&&kindIs sc.S y .globalImplicit) (eW g G.n (.ref j) (iK (r.e sc) [a]))
noncomputable def Sr(g:Gl)(G:Gm)(r:Rc)(sc:Sc)(f:Expr)(args:List Expr)(pos:Pos)(d:List ael):PT:=match d with
 | []=>NJ g G r sc f args pos
 |kw::l=>gd l.isEmpty (HX g G r sc f args kw)
noncomputable def UA(w:Expr->PT)(k:Option Expr)(v:Expr)(r:PT):PT:=match k with
 |some k=>aa (w k) (aa (w v) r)
 |none=>cJ
noncomputable def HY(w:Expr->PT):List (Option Expr)->List Expr->PT
 |k::ks,v::vs=>UA w k v (HY w ks vs)
 |_,_=>ag
noncomputable def UB(v:V):DK:=match v with
 | .str _=>.s
 | .int _=>.i
 |_=>.b
noncomputable def Ss(k:Option Expr):DK:=match k with
 |some e=>UB ((Bl e).getD .none)
 |none=>.b
noncomputable def NK(w:Expr->PT)(ks:List (Option Expr))(vs:List Expr):PT:=match ks with
 | []=>gd vs.isEmpty (sd .b)
 |k::r=>gd ((k::r).all (·.isSome)&&(k::r).length==vs.length&&decide ((k::r).length<=15)) (qb (Ss k) (HY w (k::r) vs))
noncomputable def NL(g:Gl)(G:Gm)(r:Rc)(sc:Sc)(e:Expr):PT:=match e with
 | .Constant c _ _=>og (wJ c) af
 | .Name x _=>HT G sc x
 | .BinOp a op b _=>ao op (r.e sc a) (r.e sc b)
 | .UnaryOp op a _=>(match op with
  | .Not=>gx (r.e sc a)
  | .USub=>GK (r.e sc a)
  |_=>cJ)
 | .BoolOp op d _=>(match d with
  | [a,b]=>NG op (r.e sc a) (r.e sc b)
  |_=>cJ)
 | .Compare a j d _=>(match j,d with
  | [op],[b]=>gd (!abT op b) (aC op (r.e sc a) (r.e sc b))
  |_,_=>cJ)
 | .IfExp t a b _=>bA (r.b sc t) (r.e sc a) (r.e sc b)
 | .Attribute o name _=>gd (Bm o) (og (iR G.attr name) λi=>aS (r.e sc o) i)
 | .Subscript v s _=>Sp r sc v s
 | .Tuple d _ _=>gd (d.all a5) (c8 (iK (r.e sc) d))
 | .List d _=>gd (d.all a5) (bp (iK (r.e sc) d))
 | .ListComp q gens scope _=>T4 r sc q gens scope
 | .Call f args y pos=>Sr g G r sc f args pos y
 | .Dict ks vs _=>NK (r.e sc) ks vs
 |_=>cJ
noncomputable def Su(op:BoolOp)(w:Expr->PT)(d:List Expr):PT:=d.foldr (λe r=>NG op (w e) r) (af (.bool (op==.And)))
noncomputable def NM(r:Rc)(sc:Sc)(e:Expr):PT:=match e with
 | .UnaryOp .Not a _=>gx (r.b sc a)
 | .BoolOp op d _=>Su op (r.b sc) d
 | .Compare a q d _=>(match q,d with
  | [op],[b]=>gd (!abT op b) (aC op (r.e sc a) (r.e sc b))
  | [o1,o2],[b1,b2]=>gd (!lastMarks [o1,o2] [b1,b2]) (rT o1 o2 (r.e sc a) (r.e sc b1) (r.e sc b2))
  |_,_=>cJ)
 | .IfExp t a b _=>bA (r.b sc t) (r.b sc a) (r.b sc b)
 |e=>cu (r.e sc e)
noncomputable def Pp(k:FK)(w v:PT):PT:=match k with
 | .range=>v
 |_=>w
noncomputable def HZ(o:Option FK)(w v:PT):PT:=Xa (motive:=λ_=>PT) o w λk=>Pp k w v
noncomputable def H0(G:Gm)(r:Rc)(sc:Sc)(f:Expr)(args:List Expr)(d:List ael)(w:PT):PT:=match f with
 | .Name x _=>HZ (iR G.fns x) w (gd (args.all a5&&kindIs sc.S x .globalImplicit&&d.isEmpty) (da (iK (r.e sc) args)))
 |_=>w
noncomputable def stepI(G:Gm)(r:Rc)(sc:Sc)(e:Expr):PT:=match e with
 | .Call f args d _=>H0 G r sc f args d (a7 (r.e sc e))
 |e=>a7 (r.e sc e)
noncomputable def stepT(G:Gm)(r:Rc)(sc:Sc)(e:Expr):gH:=match e with
 | .Name x _=>ot (place sc.names x) λi=>gt (jn sc x) (aj i)
 | .Subscript o i _=>fW (r.e sc o) (r.e sc i)
 | .Attribute o name _=>ot (iR G.attr name) λq=>bN (r.e sc o) q
 | .Tuple d _ _=>gt (d.all a5) (cL d.length (d.map (r.t sc)))
 |_=>badT
noncomputable def NN(sc:Sc)(d:Expr):Bool:=match d with
 | .Name x _=>(place sc.grow x).isSome
 |_=>false
noncomputable def H2(r:Rc)(sc:Sc)(q e:Expr):PT:=match e with
 | .List d _=>Ze (motive:=λ_=>PT) (NN sc q) (r.e sc e) (gd (d.all a5) (gy (iK (r.e sc) d)))
 |e=>r.e sc e
noncomputable def H3(r:Rc)(sc:Sc):List Expr->List Expr->PT
 |t::q,e::d=>aa (H2 r sc t e) (H3 r sc q d)
 | [],[]=>ag
 |_,_=>cJ
noncomputable def H4(r:Rc)(sc:Sc)(d e:Expr)(xs:List Str):PT:=match d,e with
 | .Tuple ts _ _,.Tuple es _ _=>gd (es.all a5&&xs.all λx=>jn sc x&&(place sc.names x).isSome) (bZ (xs.reverse.filterMap (place sc.names)) (H3 r sc ts es))
 |_,_=>cJ
noncomputable def Pq(r:Rc)(sc:Sc)(d e:Expr):PT:=match d,e with
 | .Name x _,.ListComp elt gens scope _=>og (place sc.names x) λi=>gd (jn sc x) (aD (aj i) (T4 r sc elt gens scope))
 |_,_=>cJ
noncomputable def Sv(r:Rc)(sc:Sc)(d e:Expr)(pos:Pos):PT:=og (pureOf (Z2 e (some d) pos.line (qk sc.S))) λb=>Ze (motive:=λ_=>PT) b
 (og (pureOf (ZL [d] e (qk sc.S))) λo=>match o with
  |none=>gd (a5 d) (aD (r.t sc d) (H2 r sc d e))
  |some xs=>H4 r sc d e xs)
 (Pq r sc d e)
noncomputable def H5(G:Gm)(r:Rc)(sc:Sc)(e:Expr):PT:=match e with
 | .Call f args d _=>(match f,args with
  | .Name x _,[a]=>gd (cG x G.exc&&d.isEmpty&&a5 a&&kindIs sc.S x .globalImplicit) (bj (r.e sc a))
  |_,_=>cJ)
 |_=>cJ
noncomputable def H6(G:Gm)(sc:Sc)(w:PT)(d t e:Expr):PT:=match d,t with
 | .Name x _,.Name y _=>gd (cG x G.exc&&kindIs sc.S x .globalImplicit&&jn sc y) (og (place sc.names y) λi=>og (Bl e) λv=>vY w i v)
 |_,_=>cJ
noncomputable def H7(G:Gm)(sc:Sc)(w:PT)(d:Expr)(s:Stmt):PT:=match s with
 | .Assign q e _=>(match q with
  | [t]=>H6 G sc w d t e
  |_=>cJ)
 |_=>cJ
noncomputable def NO(G:Gm)(sc:Sc)(w:PT)(h:ExceptHandler):PT:=match h with
 | .ExceptHandler (some ty) none [s] _=>H7 G sc w ty s
 |_=>cJ
noncomputable def Sw(G:Gm)(r:Rc)(sc:Sc)(d e:Expr):PT:=match d with
 | .Attribute o name _=>og (iR G.attr name) λq=>KQ (r.e sc o) q (r.e sc e)
 |_=>cJ
noncomputable def NP(G:Gm)(r:Rc)(sc:Sc)(s:Stmt):PT:=match s with
 | .Return e _=>og e λe=>aO (r.e sc e)
 | .Pass _=>ai
 | .Expr e pos=>og (pureOf (Z2 e none pos.line (qk sc.S))) λb=>gd (!b) (fY (r.e sc e))
 | .If t b o _=>bA (r.b sc t) (r.ss sc b) (r.ss sc o)
 | .For t q body o _=>gd (o.isEmpty&&k9 q) (dq (r.t sc t) (r.i sc q) (r.ss sc body))
 | .While t body o _=>gd o.isEmpty (fX (r.b sc t) (r.ss sc body))
 | .Assign y e pos=>(match y with
  | [d]=>Sv r sc d e pos
  |_=>cJ)
 | .AugAssign d op e _=>gd (op==.Add) (Sw G r sc d e)
 | .Raise e c _=>gd c.isNone (og e λe=>H5 G r sc e)
 | .Try body hs o f _=>gd (o.isEmpty&&f.isEmpty) (match hs with
  | [h]=>NO G sc (r.ss sc body) h
  |_=>cJ)
 |_=>cJ
noncomputable def H8(G:Gm)(r:Rc)(sc:Sc)(ss:List Stmt):PT:=gd sc.fn (ss.foldr (λs w=>ah (NP G r sc s) w) ai)
noncomputable def rc(g:Gl)(G:Gm):Nat->Rc
 |0=>⟨λ_ _=>cJ,λ_ _=>cJ,λ_ _=>cJ,λ_ _=>badT,λ_ _=>cJ⟩
 |n+1=>⟨NL g G (rc g G n),NM (rc g G n),stepI G (rc g G n),stepT G (rc g G n),H8 G (rc g G n)⟩
def lg(g:Gl)(x:Str)(v:V):Prop:=∀{cx:Cx} {pos:Pos},cx.env.kindOf x=some .globalImplicit->bE g cx (.Name x pos) (af v)
inductive my(g:Gl)(x:Str):FK->Prop
 |fn {v:Wn} (h:lg g x (.raw v)) (k:Keeps g v):my g x (.fn v)
 |bw {v:Wn} {w:BW} (h:lg g x (.raw v)) (k:Keeps g v) (b:fG g v w):my g x (.bw v w)
 |range (h:lg g x (.raw (.type "range"))):my g x .range
 |sort (h:lg g x (.raw (.builtin "sorted"))) (k:Keeps g (.builtin "sorted")):my g x .sort
 |set (h:lg g x (.raw (.type "set"))) (k:Keeps g (.type "set")):my g x .set
structure fe(g:Gl)(K:Frag)(G:Gm):Prop where
 top:Top g K
 bad:∃bm fI fd me told,yR g K bm fI fd me told
 excN:lg g G.exc (.raw (.ref cp))
 excK:nsIn K XH G.exc=some (some (.ref cp))
 excD:cG G.exc h8=false
 tops:∀x v,iR G.tops x=some v->lg g x v
 fns:∀x k,iR G.fns x=some k->my g x k
 attr:∀name ix,iR G.attr name=some ix->∀c i,ix.lookup c=some i->(g.names c)[i]? = some name
 meth:∀name m,iR G.meth name=some m->TX g K name m
structure fZ(g:Gl)(n:Nat)(r:Rc):Prop where
 e:∀{sc:Sc} {cx:Cx} (x:Expr),c5 cx sc.S sc.names n sc.fn->bE g cx x (r.e sc x)
 b:∀{sc:Sc} {cx:Cx} (x:Expr),c5 cx sc.S sc.names n sc.fn->u0 g cx x (r.b sc x)
 i:∀{sc:Sc} {cx:Cx} (x:Expr),c5 cx sc.S sc.names n sc.fn->TI g cx (eval x cx.env) (r.i sc x)
 t:∀{sc:Sc} {cx:Cx} (x:Expr),c5 cx sc.S sc.names n sc.fn->TT g cx (Zb x cx.env) (r.t sc x)
 ss:∀{sc:Sc} {cx:Cx} (x:List Stmt),c5 cx sc.S sc.names n sc.fn->AL g cx x (r.ss sc x)
section
variable{g:Gl}{cx:Cx}{K:Frag}{G:Gm}{r:Rc}{sc:Sc}{x y:Str}{e:Expr}{es ts:List Expr}{pos p:Pos}{W W1 W2:PT}{a:Wn}{c:Bool}{w:PT}{n:Nat}{S:Zk}
theorem NQ{P:PT->Prop}(hb:P cJ)(h:c=true->P w):P (gd c w):=by
 cases c with
 |false=>exact hb
 |true=>exact h rfl
theorem VL{P:gH->Prop}{w:gH}(hb:P badT)(h:c=true->P w):P (gt c w):=by
 cases c with
 |false=>exact hb
 |true=>exact h rfl
theorem Vm{d:Type}{P:PT->Prop}{o:Option d}{w:d->PT}(hb:P cJ)(h:∀a,o=some a->P (w a)):P (og o w):=by
 cases o with
 |none=>exact hb
 |some a=>exact h a rfl
theorem VM{d:Type}{P:gH->Prop}{o:Option d}{w:d->gH}(hb:P badT)(h:∀a,o=some a->P (w a)):P (ot o w):=by
 cases o with
 |none=>exact hb
 |some a=>exact h a rfl
theorem jq:TE g cx t cJ:=λ_ _ w=>WC w
theorem wM:TB g cx t cJ:=λ_ _ w=>WC w
theorem Pr:TL g cx t cJ:=λ_ _ w=>WC w
theorem eN:TS g cx t cJ:=λ_ _ w=>WC w
theorem Sx:TI g cx t cJ:=λ_ _ w=>WC w
theorem Dj:TT g cx t badT:=λ_ _ w=>WC w
theorem UC:TP g cx t cJ:=λ_ _ w=>WC w
theorem eG{t:Sem Wn}(h:c=true->TE g cx t w):TE g cx t (gd c w):=NQ (P:=λw=>TE g cx t w) jq h
theorem lG{t:Sem (List Wn)}(h:c=true->TL g cx t w):TL g cx t (gd c w):=NQ (P:=λw=>TL g cx t w) Pr h
theorem bG{t:Sem Bool}(h:c=true->TB g cx t w):TB g cx t (gd c w):=NQ (P:=λw=>TB g cx t w) wM h
theorem sG{t:Sem Flow}(h:c=true->TS g cx t w):TS g cx t (gd c w):=NQ (P:=λw=>TS g cx t w) eN h
theorem iG{t:Sem Wn}(h:c=true->TI g cx t w):TI g cx t (gd c w):=NQ (P:=λw=>TI g cx t w) Sx h
theorem tG{t:Wn->Sem Unit}{w:gH}(h:c=true->TT g cx t w):TT g cx t (gt c w):=VL (P:=λw=>TT g cx t w) Dj h
theorem eO{d:Type}{o:Option d}{w:d->PT}{t:Sem Wn}(h:∀a,o=some a->TE g cx t (w a)):TE g cx t (og o w):=Vm (P:=λw=>TE g cx t w) jq h
theorem sO{d:Type}{o:Option d}{w:d->PT}{t:Sem Flow}(h:∀a,o=some a->TS g cx t (w a)):TS g cx t (og o w):=Vm (P:=λw=>TS g cx t w) eN h
theorem tO{d:Type}{o:Option d}{w:d->gH}{t:Wn->Sem Unit}(h:∀a,o=some a->TT g cx t (w a)):TT g cx t (ot o w):=VM (P:=λw=>TT g cx t w) Dj h
theorem aJ{a b:Bool}(h:(a&&b)=true):a=true∧b=true:=by simpa using h
theorem cw{a:Bool}(h:(!a)=true):a=false:=by simpa using h
theorem b6{a b:Str}:cG a b=true↔a=b:=by
 unfold cG
 rw[beq_iff_eq]
 cases a;cases b
 constructor
 ·intro h;exact congrArg Str.mk (Array.toList_inj.mp h)
 ·intro h;cases h;rfl
theorem mz{a b:Str}(h:cG a b=false):(a==b)=false:=oz λe=>by rw[b6.mpr e]at h;cases h
theorem ry{d:Type}(l:List (Str×d))(x:Str):iR l x=l.lookup x:=by
 unfold iR
 induction l with
 |nil=>rfl
 |cons p l q=>
  rw[ZC,adb]
  generalize h:cG p.1 x=j;cases j with
  |true=>rw[b6.mp h];simp
  |false=>
   have:(x==p.1)=false:=oz λe=>by rw[e,b6.mpr rfl]at h;cases h
   rw[this];exact q
theorem dM{l:List Str}{i:Nat}(h:place l x=some i):l[i]? = some x:=by
 obtain⟨d,q,_⟩:=acS.mp h
 rw[Xk d,b6.mp q]
theorem f5(h:kindIs S x k=true):S.names.lookup x=some k:=by
 unfold kindIs at h
 rw[ry]at h
 generalize e:S.names.lookup x=d;cases d with
 |none=>rw[e]at h;cases h
 |some j=>rw[e]at h;rw[eq_of_beq h]
theorem c5.kind{fn:Bool}{names:List Str}(c:c5 cx S names n fn){k:Zx}(h:kindIs S x k=true):cx.env.kindOf x=some k:=by
 have:=f5 h
 unfold Env.kindOf
 rw[c.kinds];exact this
theorem c5.store(c:c5 cx sc.S sc.names n sc.fn)(h:jn sc x=true):jQ cx x:=by
 unfold jn at h
 rcases afm.mp h with h|h
 ·exact .inl (c.kind h)
 ·obtain⟨h1,d⟩:=aJ h
  exact .inr ⟨c.wr h1,c.kind d,c.cell h1 x (f5 d)⟩
theorem si:h8=("__debug__" : Str):=dD
theorem H9:HS=("__classdict__" : Str):=dD
theorem Ia(H:fe g K G)(c:c5 cx sc.S sc.names G.n sc.fn):bE g cx (.Name x p) (HT G sc x):=by
 unfold HT
 generalize h:place sc.names x=j;cases j with
 |some i=>exact eG λq=>OE i (c.names▸dM h) (si▸mz (cw (aJ q).1)) (H9▸mz (cw (aJ q).2))
 |none=>exact eG λq=>eO λv d=>H.tops x v d (c.kind q)
theorem mA(h:Pm b v=some u):b=true∧v=u:=by
 cases b with
 |false=>cases h
 |true=>exact⟨rfl,W4 h⟩
theorem Fp(h:wJ k=some v):bE g cx (.Constant k i p) (af v):=by
 cases k with
 |int i=>cases h;exact Nj
 |none=>cases h;exact OC
 |bool b=>cases h;exact OD
 |str u=>obtain⟨d,rfl⟩:=mA h;exact RI d
 |bytes u=>obtain⟨d,rfl⟩:=mA h;exact KR d
 |_=>cases h
theorem d4(h:∀e,bE g cx e (f e)):∀{es:List Expr},es.all a5=true->AA g cx pos es (iK f es):=by
 intro d
 induction d with
 |nil=>
  intro _
  exact GN
 |cons e es j=>
  intro q
  exact have q:=aJ (show(a5 e&&es.all a5)=true from q);AO (h e) (j q.2) (eU es _ q.1)
theorem f6:∀{es:List Expr},es.all a5=true->∀env,(Zq pos (Yb es env)).any (·.1)=false:=by
 intro d
 induction d with
 |nil=>
  intro _ _
  exact rfl
 |cons e es j=>
  intro q env
  have q:=aJ (show(a5 e&&es.all a5)=true from q)
  rw[eU es env q.1]
  exact j q.2 env
end
section
variable{g:Gl}{cx:Cx}{K:Frag}{G:Gm}{r:Rc}{sc:Sc}{x y:Str}{e:Expr}{es ts:List Expr}{pos p:Pos}{W W1 W2:PT}{a:Wn}{c:Bool}{w:PT}{n:Nat}{S:Zk}
theorem Pt{P:Const->Prop}{k:Const}(h:ND k=true)(f:P (.int 1)):P k:=by
 cases k with
 |int z=>exact(show z=1 from eq_of_beq h)▸f
 |_=>exact ff h
theorem Sy{P:Expr->Prop}(h:Sn e=true)(f:∀i p,P (.Constant (.int 1) i p)):P e:=by
 cases e with
 |Constant k i p=>exact Pt (P:=λk=>P (.Constant k i p)) h (f i p)
 |_=>exact ff h
theorem Sz{P:Expr->Prop}(h:So e=true)(f:∀i p q,P (.UnaryOp .USub (.Constant (.int 1) i p) q)):P e:=by
 cases e with
 |UnaryOp op a q=>exact(show op=.USub from eq_of_beq (aJ h).1)▸Sy (P:=λa=>P (.UnaryOp .USub a q)) (aJ h).2 λi p=>f i p q
 |_=>exact ff h
theorem Dk(h:∀e,bE g cx e (f e))(o:Option Expr):TE g cx (aaW o cx.env) (Po f o):=by
 cases o with
 |none=>exact OP
 |some e=>exact h e
theorem Fq(O:fZ g n r)(c:c5 cx sc.S sc.names n sc.fn){v:Expr}{lo hi st:Option Expr}:bE g cx (.Subscript v (.Slice lo hi st p) pos) (HU r sc v lo hi st):=by
 cases st with
 |none=>exact RZ (O.e v c) (Dk (λe=>O.e e c) lo) (Dk (λe=>O.e e c) hi) λ_ _=>rfl
 |some k=>
  refine @eG _ _ _ _ _ λq=>?_
  have q1:=aJ q
  have q2:=aJ q1.1
  obtain rfl:=Y8.mp q2.2
  obtain rfl:=Y8.mp q1.2
  show bE g cx _ _
  exact Sz (P:=λk=>bE g cx (.Subscript v (.Slice none none (some k) p) pos) (KP (r.e sc v))) q2.1 λi p1 p2=>R0 (O.e v c) (Nl Nj) λ_ _=>rfl
theorem LG(O:fZ g n r)(c:c5 cx sc.S sc.names n sc.fn):bE g cx (.Subscript v s pos) (Sp r sc v s):=by
 cases s with
 |Slice lo hi st p=>exact Fq O c
 |_=>exact ON (O.e v c) (O.e _ c) λ_ _=>rfl
theorem Dl(h:Bm o=true)(env:Env):ac6 o name env (eval o env)=eval o env:=by
 cases o with
 |Call f args k p=>cases args with
  |nil=>exact ff h
  |cons a l=>cases f <;> rfl
 |_=>rfl
theorem Pu(h:es.all a5=true)(hn:es.length<30)(env:Env):aeC (es.length+([]:List ael).length) (Zq pos (Yb es env)) (backToKw pos (adZ [] env))=true:=by
 unfold aeC
 rw[aay,aay]
 refine⟨⟨?_,rfl⟩,decide_eq_true hn⟩
 have:=f6 (pos:=pos) h env
 rw[aai]at this
 rw[W0]
 intro q hq
 have:=this q hq
 simpa using this
theorem Pw(H:fe g K G)(O:fZ g G.n r)(c:c5 cx sc.S sc.names G.n sc.fn)(hk:my g x k)(hp:es.all a5=true)(hx:kindIs sc.S x .globalImplicit=true):bE g cx (.Call (.Name x p) es [] pos) (Vl g G.n k (iK (r.e sc) es)):=by
 cases hk with
 |fn h k=>exact OU c.lvl (h (c.kind hx)) k (d4 (λe=>O.e e c) hp) (f6 hp _)
 |bw h k b=>exact R7 (h (c.kind hx)) k b (d4 (λe=>O.e e c) hp) (f6 hp _)
 |range h=>exact jq
 |sort h k=>exact R7 (h (c.kind hx)) k (fG.one Fh) (d4 (λe=>O.e e c) hp) (f6 hp _)
 |set=>exact jq
theorem T5{P:FK->Prop}{k:FK}(h:wK k=true)(f:P .sort):P k:=by cases k <;> first|exact f|exact ff h
theorem UD{P:FK->Prop}{k:FK}(h:HV k=true)(f:P .set):P k:=by cases k <;> first|exact f|exact ff h
theorem wN{P:Expr->Prop}{e:Expr}{y:Str}(h:wL e=some y)(f:∀p,P (.Name y p)):P e:=by
 cases e <;> first|(cases h;done)|skip
 exact W4 h▸f _
theorem Bn{α:Type}{P:List α->Prop}{l:List α}{a:α}(h:vn l=some a)(f:P [a]):P l:=by
 cases l with
 |nil=>cases h
 |cons b r=>cases r with
  |nil=>exact W4 h▸f
  |cons=>cases h
set_option tactic.hygienic true in
theorem LH{P:Expr->Prop}{e:Expr}{q:Expr×Expr}(h:setArg e=some q)(k:∀p,P (.Call q.1 [q.2] [] p)):P e:=by
 cases e <;> first|(cases h;done)|skip
 rename_i f args kws p
 have h:Xa (motive:=λ_=>Option (Expr×Expr)) (vn args) none (λa=>Ze (motive:=λ_=>Option (Expr×Expr)) kws.isEmpty none (some (f,a)))=some q:=h
 generalize e:vn args=zz;cases zz with
 |none=>rw[e]at h;cases h
 |some a=>
  rw[e]at h
  cases kws with
  |nil=>cases h;exact Bn (P:=λl=>P (.Call f l [] p)) e (k p)
  |cons=>cases h
theorem T6{α:Type}{P:PT->Prop}{o:Option α}{w:PT}{f:α->PT}(hb:P w)(h:∀a,o=some a->P (f a)):P (Sq o w f):=by
 cases o with
 |none=>exact hb
 |some a=>exact h a rfl
theorem VN{P:PT->Prop}{b:Bool}{w v:PT}(hb:P w)(h:b=true->P v):P (Ze (motive:=λ_=>PT) b w v):=by
 cases b with
 |false=>exact hb
 |true=>exact h rfl
theorem my.sortE(h:my g x k)(e:wK k=true):lg g x (.raw (.builtin "sorted"))∧Keeps g (.builtin "sorted"):=by
 cases h <;> first|exact ff e|exact⟨‹_›,‹_›⟩
theorem my.setE(h:my g x k)(e:HV k=true):lg g x (.raw (.type "set"))∧Keeps g (.type "set"):=by
 cases h <;> first|exact ff e|exact⟨‹_›,‹_›⟩
theorem Ib(H:fe g K G)(O:fZ g G.n r)(c:c5 cx sc.S sc.names G.n sc.fn){k:FK}(hk:my g x k)(hx:kindIs sc.S x .globalImplicit=true)(b:bE g cx (.Call (.Name x p) es [] pos) w):bE g cx (.Call (.Name x p) es [] pos) (NI G r sc k es w):=
 T6 (P:=λw=>bE g cx _ w) b λe h1=>T6 (P:=λw=>bE g cx _ w) b λq h2=>T6 (P:=λw=>bE g cx _ w) b λy h3=>T6 (P:=λw=>bE g cx _ w) b λk2 h4=>VN (P:=λw=>bE g cx _ w) b λh5=>eG λh6=>by
  have S:=hk.sortE (aJ h5).1
  have T:=(H.fns y k2 h4).setE (aJ h5).2
  refine @Bn _ (λl=>bE g cx (.Call (.Name x p) l [] pos) (de (r.e sc q.2))) _ _ h1 ?_
  refine @LH (λe=>bE g cx (.Call (.Name x p) [e] [] pos) (de (r.e sc q.2))) _ _ h2 λp2=>?_
  refine @wN (λf=>bE g cx (.Call (.Name x p) [.Call f [q.2] [] p2] [] pos) (de (r.e sc q.2))) _ _ h3 λyp=>?_
  show bE g cx _ _
  exact Fo (S.1 (c.kind hx)) S.2 (T.1 (c.kind (aJ h6).2)) T.2 (O.e q.2 c) (aJ h6).1
theorem Ic(H:fe g K G)(O:fZ g G.n r)(c:c5 cx sc.S sc.names G.n sc.fn):bE g cx (.Call f es [] pos) (NJ g G r sc f es pos):=by
 cases f with
 |Name x p=>exact eO λk hk=>eG λq=>Ib H O c (H.fns x k hk) (aJ q).2 (Pw H O c (H.fns x k hk) (aJ q).1 (aJ q).2)
 |Attribute o name apos=>
  refine @eO _ _ _ _ _ _ λm hm=>@eG _ _ _ _ _ λq=>?_
  have q1:=aJ q
  have q2:=aJ q1.1
  have q3:=aJ q2.1
  show bE g cx _ _
  exact O7 H.top (H.meth name m hm) c.lvl (O.e o c) (d4 (λe=>O.e e c) q3.1) (Dl q3.2 _) (Pu q3.1 (of_decide_eq_true q2.2) _) q1.2 (f6 q3.1 _)
 |_=>exact jq
theorem my.fnE(h:my g x k)(e:NH k=some fa):lg g x (.raw (.ref fa)):=by
 cases h with
 |@fn v h k=>
  cases v <;> first|(cases e;done)|skip
  exact W4 e▸h
 |_=>cases e
theorem Ie(H:fe g K G)(O:fZ g G.n r)(c:c5 cx sc.S sc.names G.n sc.fn){f:Expr}{kw:ael}:bE g cx (.Call f es [kw] pos) (HX g G r sc f es kw):=
 eO λk h1=>eO λx h2=>eO λy h3=>eO λa h4=>eO λfk h5=>eO λkf h6=>eO λfa h7=>eG λq=>by
  obtain⟨arg,value,kp⟩:=kw
  have q1:=aJ q
  have q2:=aJ q1.1
  have q3:=aJ q2.1
  have q4:=aJ q3.1
  have S:=(H.fns x fk h5).sortE q4.2
  have T:lg g y (.raw (.ref fa)):=@λcx pos=>(H.fns y kf h6).fnE h7
  obtain rfl:arg=some k:=h1
  obtain rfl:k=HW:=b6.mp q4.1
  refine @wN (λf=>bE g cx (.Call f es [⟨some HW,value,kp⟩] pos) (eW g G.n (.ref fa) (iK (r.e sc) [a]))) _ _ h2 λnp=>?_
  refine @wN (λv=>bE g cx (.Call (.Name x np) es [⟨some HW,v,kp⟩] pos) (eW g G.n (.ref fa) (iK (r.e sc) [a]))) _ _ h3 λyp=>?_
  refine @Bn _ (λl=>bE g cx (.Call (.Name x np) l [⟨some HW,.Name y yp,kp⟩] pos) (eW g G.n (.ref fa) (iK (r.e sc) [a]))) _ _ h4 ?_
  show bE g cx _ _
  exact Fj c.lvl (S.1 (c.kind q2.2)) (d4 (λe=>O.e e c) (by rw[ad5,q3.2];rfl)) q3.2 (T (c.kind q1.2))
theorem LI(H:fe g K G)(O:fZ g G.n r)(c:c5 cx sc.S sc.names G.n sc.fn):bE g cx (.Call f es kws pos) (Sr g G r sc f es pos kws):=by
 cases kws with
 |nil=>exact Ic H O c
 |cons kw l=>cases l with
  |nil=>exact(Ie H O c:bE g cx (.Call f es [kw] pos) (HX g G r sc f es kw))
  |cons=>exact jq
theorem Ig(h:TE g cx t W):TE g cx (do let x ←t;XO pos;pure x) W:=λoa R w=>h.then_ oa R w λv x st s R q=>aU (ax ⟨R,q⟩)
theorem Ih(h:∀e,bE g cx e (f e)):∀{ks:List (Option Expr)} {vs:List Expr},TP g cx (ab9 (pairTrees ks vs cx.env pos)) (HY f ks vs):=by
 intro w1
 induction w1 with
 |nil=>
  intro _
  exact Ht
 |cons w2 ks ih=>
  cases w2 with
  |none=>
   intro w3
   cases w3 with
   |nil=>
    exact Ht
   |cons w4 w5=>
    exact UC
  |some k=>
   intro w6
   cases w6 with
   |nil=>
    exact Ht
   |cons v vs=>
    exact Pd (h k) (Ig (h v)) (ih)
theorem Ii(h:∀e,bE g cx e (f e)):bE g cx (.Dict ks vs pos) (NK f ks vs):=by
 cases ks with
 |nil=>
  refine @eG _ _ _ _ _ λq=>?_
  obtain rfl:=Xj.mp q
  exact Lr
 |cons k ks=>
  refine @eG _ _ _ _ _ λq=>?_
  have q1:=aJ q
  have q2:=aJ q1.1
  show bE g cx _ _
  exact Pf q2.1 (eq_of_beq q2.2) (λh=>nomatch h) (of_decide_eq_true q1.2) (Ih h)
theorem gQ:∀{l:List Str},jo l=true->l.Nodup:=by
 intro zi
 induction zi with
 |nil=>
  intro _
  exact .nil
 |cons x l ih=>
  intro h
  have q:=aJ (show(!l.any (cG x)&&jo l)=true from h)
  refine .cons (λy hy e=>?_) (ih q.2)
  have:=aai.mp (cw q.1) y hy
  exact this (b6.mpr e)
theorem kO{α β:Type}{f:α->Option β}:∀{l:List α},(∀x∈l,(f x).isSome=true)->(l.filterMap f).length=l.length∧∀(j:Nat) x i,l[j]? = some x->(l.filterMap f)[j]? = some i->f x=some i:=by
 intro zi
 induction zi with
 |nil=>
  intro _
  exact⟨rfl,λj x i h=>by cases h⟩
 |cons x l ih=>
  intro h
  obtain⟨i,hi⟩:=Yj.mp (h x (.head _))
  have ih:=ih λy hy=>h y (.tail _ hy)
  rw[ad4 hi]
  refine⟨congrArg (· + 1) ih.1,λj y k hj hk=>?_⟩
  cases j with
  |zero=>cases hj;cases hk;exact hi
  |succ j=>exact ih.2 j y k hj hk
theorem vo{scope:Zk}(h:Di sc.S scope sc.names=true):d0 sc.S scope sc.names ((rq .free scope.names).filterMap (place sc.names)):=by
 have q1:=aJ h
 have q2:=aJ q1.1
 have q3:=aJ q2.1
 have q4:=aJ q3.1
 have q5:=λx hx=>aJ (W0.mp q4.1 x hx)
 have fl:=kO λx hx=>(q5 x hx).1
 exact⟨⟨fl.1,λj x i h1 h2=>⟨dM (fl.2 j x i h1 h2),f5 (q5 x (XJ h1)).2⟩⟩,gQ q4.2,gQ q3.2,eq_of_beq q2.2,λy hy e=>by
  have:=cw (W0.mp q1.2 y hy)
  rw[e]at this;cases this⟩
theorem h9(h:k9 e=true)(env:Env)(x:Wn):YF e env x=pure x:=by
 cases e <;> first|rfl|cases h
theorem Dm(h:∀e,u0 g cx e (f e))(ifs:List Expr):TB g cx (vf ifs cx.env) (Pn f ifs):=by
 cases ifs with
 |nil=>exact G8
 |cons c r=>
  refine @bG _ _ _ _ _ λq=>?_
  obtain rfl:=Xj.mp q
  exact O6 (h c)
theorem zp{scope:Zk}{gens:List abV}{P:PT->Prop}(hb:P cJ)
 (one:∀t i ifs,gens=[⟨t,i,ifs,0⟩]->k9 i=true->sc.fn=true->d0 sc.S scope sc.names ((rq .free scope.names).filterMap (place sc.names))->P (ru scope ((rq .free scope.names).filterMap (place sc.names)) (hZ (r.t (bf sc scope) t) (Pn (r.b (bf sc scope)) ifs) (r.e (bf sc scope) e)) (r.i sc i)))
 (two:∀t i t1 i1,gens=[⟨t,i,[],0⟩,⟨t1,i1,[],0⟩]->k9 i=true->k9 i1=true->sc.fn=true->d0 sc.S scope sc.names ((rq .free scope.names).filterMap (place sc.names))->P (ru scope ((rq .free scope.names).filterMap (place sc.names)) (fV (r.t (bf sc scope) t) (r.t (bf sc scope) t1) (r.i (bf sc scope) i1) (r.e (bf sc scope) e)) (r.i sc i))) :
 P (T4 r sc e gens scope):=NQ hb λq=>by
 have q:=aJ q
 cases gens with
 |nil=>exact hb
 |cons c0 rest=>
  refine NQ hb λq2=>?_
  have q2:=aJ q2
  obtain⟨t,i,ifs,a⟩:=c0
  obtain rfl:=eq_of_beq q2.1
  cases rest with
  |nil=>exact one t i ifs rfl q2.2 q.1 (vo q.2)
  |cons c1 more=>
   refine NQ hb λq3=>?_
   have q3:=aJ q3
   have q4:=aJ q3.1
   have q5:=aJ q4.1
   have q6:=aJ q5.1
   obtain⟨t1,i1,ifs1,a1⟩:=c1
   obtain rfl:=eq_of_beq q6.1
   obtain rfl:=Xj.mp q5.2
   obtain rfl:=Xj.mp q4.2
   obtain rfl:=Xj.mp q3.2
   exact two t i t1 i1 rfl q2.2 q6.2 q.1 (vo q.2)
theorem T7(c:c5 cx S sc.names n sc.fn)(h:sc.fn=true):c5 cx S sc.names n true:=h▸c
theorem Px(O:fZ g n r)(c:c5 cx sc.S sc.names n sc.fn){elt:Expr}{gens:List abV}{scope:Zk}:bE g cx (.ListComp elt gens scope pos) (T4 r sc elt gens scope):=
 zp (P:=λW=>bE g cx (.ListComp elt gens scope pos) W) jq (λt i ifs e hi hf K=>by
  subst e
  exact yW K (T7 c hf) (O.i i c) (yU (λcx k=>O.t (sc:=bf sc scope) t k) (λcx k=>Dm (λe=>O.b (sc:=bf sc scope) e k) ifs) λcx k=>O.e (sc:=bf sc scope) elt k) (h9 hi _))
  λt i t1 i1 e hi hi1 hf K=>by
   subst e
   exact yW K (T7 c hf) (O.i i c) (yV (λcx k=>O.t (sc:=bf sc scope) t k) (λcx k=>O.i (sc:=bf sc scope) i1 k) (λcx k=>O.t (sc:=bf sc scope) t1 k) (λcx k=>O.e (sc:=bf sc scope) elt k) (h9 hi1)) (h9 hi _)
theorem Ij(H:fe g K G)(O:fZ g G.n r)(c:c5 cx sc.S sc.names G.n sc.fn)(e:Expr):bE g cx e (NL g G r sc e):=by
 cases e with
 |Constant k i p=>exact eO λv h=>Fp h
 |Name x p=>exact Ia H c
 |BinOp a op b p=>exact RR (O.e a c) (O.e b c)
 |UnaryOp op a p=>cases op with
  |Not=>exact RL (O.e a c)
  |USub=>exact Nl (O.e a c)
  |_=>exact jq
 |BoolOp op es p=>
  rcases es with _|⟨a,_|⟨b,_|⟨d,l⟩⟩⟩
  ·exact jq
  ·exact jq
  ·cases op with
   |And=>exact RM (O.e a c) (O.e b c)
   |Or=>exact Uq (O.e a c) (O.e b c)
  ·exact jq
 |Compare a ops es p=>
  rcases ops with _|⟨op,_|⟨o2,l⟩⟩
  ·exact jq
  ·rcases es with _|⟨b,_|⟨d,l⟩⟩
   ·exact jq
   ·exact eG λq=>RV H.top.inst (O.e a c) (O.e b c) (cw q)
   ·exact jq
  ·exact jq
 |IfExp t a b p=>exact Un (O.b t c) (O.e a c) (O.e b c)
 |Attribute o name p=>exact eG λq=>eO λix h=>OQ H.top (O.e o c) (H.attr name ix h) (Dl q _)
 |Subscript v s p=>exact LG O c
 |Tuple es k p=>exact eG λq=>Nm (d4 (λe=>O.e e c) q)
 |List es p=>exact eG λq=>RX (d4 (λe=>O.e e c) q)
 |ListComp elt gens scope p=>exact Px O c
 |Call f args kws p=>exact LI H O c
 |Dict ks vs p=>exact Ii λe=>O.e e c
 |_=>exact jq
end
section
variable{g:Gl}{cx:Cx}{K:Frag}{G:Gm}{r:Rc}{sc:Sc}{x y:Str}{e to:Expr}{es ts:List Expr}{pos p:Pos}{W W1 W2:PT}{a:Wn}{c:Bool}{w:PT}{n:Nat}{S:Zk}
theorem LJ(h:∀e,u0 g cx e (f e))(op:BoolOp)(es:List Expr):TB g cx (acn op es cx.env) (Su op f es):=by
 induction es with
 |nil=>exact RO
 |cons e es ih=>cases op with
  |And=>exact RN (h e) ih
  |Or=>exact Ur (h e) ih
theorem Ik(H:fe g K G)(O:fZ g G.n r)(c:c5 cx sc.S sc.names G.n sc.fn)(e:Expr):u0 g cx e (NM r sc e):=by
 cases e with
 |UnaryOp op a p=>cases op with
  |Not=>exact RJ (O.b a c)
  |_=>exact Nk (O.e _ c) λ_=>rfl
 |BoolOp op es p=>exact LJ (λe=>O.b e c) op es
 |Compare a ops es p=>
  rcases ops with _|⟨o1,_|⟨o2,_|⟨o3,l⟩⟩⟩
  ·exact wM
  ·rcases es with _|⟨b,_|⟨d,l⟩⟩
   ·exact wM
   ·exact bG λq=>RW H.top.inst (O.e a c) (O.e b c) (cw q)
   ·exact wM
  ·rcases es with _|⟨b,_|⟨d,_|⟨f,l⟩⟩⟩
   ·exact wM
   ·exact wM
   ·exact bG λq=>KU H.top.inst (O.e a c) (O.e b c) (O.e d c) (cw q)
   ·exact wM
  ·exact wM
 |IfExp t a b p=>exact Uo (O.b t c) (O.b a c) (O.b b c)
 |_=>exact Nk (O.e _ c) λ_=>rfl
theorem Fs(h:TI g cx t w)(k:o=some .range->TI g cx t v):TI g cx t (HZ o w v):=by
 cases o with
 |none=>exact h
 |some f=>cases f with
  |range=>exact k rfl
  |_=>exact h
theorem Ft(H:fe g K G)(O:fZ g G.n r)(c:c5 cx sc.S sc.names G.n sc.fn)(h:TI g cx (eval (.Call f es kws pos) cx.env) W):TI g cx (eval (.Call f es kws pos) cx.env) (H0 G r sc f es kws W):=by
 cases f with
 |Name x p=>
  refine @Fs _ _ _ _ _ _ h λe=>@iG _ _ _ _ _ λq=>?_
  have q:=aJ q
  have q1:=aJ q.1
  obtain rfl:=Xj.mp q.2
  have z:=H.fns x _ e
  cases z with
  |range z=>
   show TI g cx (eval _ _) _
   exact La (z (c.kind q1.2)) (d4 (λe=>O.e e c) q1.1) (f6 q1.1 _)
 |_=>exact h
theorem Il(H:fe g K G)(O:fZ g G.n r)(c:c5 cx sc.S sc.names G.n sc.fn)(e:Expr):TI g cx (eval e cx.env) (stepI G r sc e):=by
 cases e with
 |Call f args kws p=>exact Ft H O c (Np (O.e _ c))
 |_=>exact Np (O.e _ c)
theorem Im(H:fe g K G)(O:fZ g G.n r)(c:c5 cx sc.S sc.names G.n sc.fn)(e:Expr):TT g cx (Zb e cx.env) (stepT G r sc e):=by
 cases e with
 |Name x p=>exact tO λi h=>tG λq=>KY i (c.names▸dM h) (c.store q)
 |Subscript o i p=>exact K0 (O.e o c) (O.e i c)
 |Attribute o name p=>exact tO λix h=>K1 H.top (O.e o c) (H.attr name ix h)
 |Tuple ts k p=>exact tG λq=>Lp λt ht=>⟨W0.mp q t ht,O.t t c⟩
 |_=>exact Dj
theorem jr{α:Type}{t:Sem α}{a:α}(h:pureOf t=some a):t=pure a:=by
 cases t <;> first|exact(congrArg Sem.pure (W4 h))|cases h
theorem Dn(O:fZ g n r)(c:c5 cx sc.S sc.names n sc.fn):bE g cx e (H2 r sc to e):=by
 cases e with
 |List es p=>
  unfold H2
  generalize h:NN sc to=zz;cases zz with
  |false=>exact O.e _ c
  |true=>exact eG λq=>RY (d4 (λe=>O.e e c) q)
 |_=>exact O.e _ c
theorem Io(O:fZ g n r)(c:c5 cx sc.S sc.names n sc.fn):∀{ts es:List Expr},es.all a5=true->AA g cx pos es (H3 r sc ts es):=by
 intro w1
 induction w1 with
 |nil=>
  intro w2
  cases w2 with
  |nil=>
   intro _
   exact GN
  |cons w3 w4=>
   intro _
   exact Pr
 |cons t ts ih=>
  intro w5
  cases w5 with
  |nil=>
   intro _
   exact Pr
  |cons e es=>
   intro q
   exact have q:=aJ (show(a5 e&&es.all a5)=true from q);AO (Dn O c) (ih q.2) (eU es _ q.1)
theorem Ip(c:c5 cx sc.S sc.names n sc.fn):∀{xs:List Str},(∀x∈xs,jn sc x=true∧(place sc.names x).isSome=true)->u7 cx xs (xs.filterMap (place sc.names)):=by
 intro zi
 induction zi with
 |nil=>
  intro _
  exact .nil
 |cons x xs ih=>
  intro h
  obtain⟨i,hi⟩:=Yj.mp (h x (.head _)).2
  rw[ad4 hi]
  exact .cons (c.names▸dM hi) (c.store (h x (.head _)).1) (ih λy hy=>h y (.tail _ hy))
theorem Ir(O:fZ g n r)(c:c5 cx sc.S sc.names n sc.fn)(hf:sc.fn=true)(h:ZL [to] e (qk sc.S)=pure (some xs)):j3 g cx (.Assign [to] e pos) (H4 r sc to e xs):=by
 cases to with
 |Tuple ts k p=>cases e with
  |Tuple es k p=>
   refine @sG _ _ _ _ _ λq=>?_
   have q:=aJ q
   have q2:∀x∈xs.reverse,jn sc x=true∧(place sc.names x).isSome=true:=λx hx=>aJ (W0.mp q.2 x (aav.mp hx))
   have l:=(kO λx hx=>(q2 x hx).2).1
   show j3 g cx _ _
   exact OT (c.scope hf) (Io O c q.1) h (Ip c q2) (by rw[l,YC])
  |_=>exact eN
 |_=>exact eN
theorem LK(O:fZ g n r)(c:c5 cx sc.S sc.names n sc.fn)(h:Z2 e (some to) pos.line (qk sc.S)=pure true):j3 g cx (.Assign [to] e pos) (Pq r sc to e):=by
 cases to with
 |Name x p=>cases e with
  |ListComp elt gens scope q=>
   refine @sO _ _ _ _ _ _ λi hi=>@sG _ _ _ _ _ λhs=>?_
   refine @zp _ _ _ _ _ (λW=>j3 g cx (.Assign [.Name x p] (.ListComp elt gens scope q) pos) (aD (aj i) W)) (λ_ _ w=>WC w) (λt i0 ifs e hi0 hf K=>?_) (λt i0 t1 i1 e hi0 hi1 hf K=>?_)
   ·subst e
    exact yX K (T7 c hf) (O.i i0 c) (yU (λcx k=>O.t (sc:=bf sc scope) t k) (λcx k=>Dm (λe=>O.b (sc:=bf sc scope) e k) ifs) λcx k=>O.e (sc:=bf sc scope) elt k) (h9 hi0 _) (c.names▸dM hi) (c.store hs) h
   ·subst e
    exact yX K (T7 c hf) (O.i i0 c) (yV (λcx k=>O.t (sc:=bf sc scope) t k) (λcx k=>O.i (sc:=bf sc scope) i1 k) (λcx k=>O.t (sc:=bf sc scope) t1 k) (λcx k=>O.e (sc:=bf sc scope) elt k) (h9 hi1)) (h9 hi0 _) (c.names▸dM hi) (c.store hs) h
  |_=>exact eN
 |_=>exact eN
theorem LL(O:fZ g n r)(c:c5 cx sc.S sc.names n sc.fn)(hf:sc.fn=true):j3 g cx (.Assign [to] e pos) (Sv r sc to e pos):=by
 refine @sO _ _ _ _ _ _ λb hb=>?_
 have hb:=jr hb
 cases b with
 |true=>
  show j3 g cx _ (Pq r sc to e)
  exact LK O c hb
 |false=>
  refine @sO _ _ _ _ _ _ λo ho=>?_
  have ho:=jr ho
  cases o with
  |some xs=>
   show j3 g cx _ (H4 r sc to e xs)
   exact Ir O c hf ho
  |none=>
   show j3 g cx _ (gd (a5 to) (aD (r.t sc to) (H2 r sc to e)))
   exact sG λq=>OS (c.scope hf) (Dn O c) (O.t to c) hb ho (by rw[e8 [] cx.env q];rfl)
theorem Fu(H:fe g K G)(O:fZ g G.n r)(c:c5 cx sc.S sc.names G.n sc.fn):j3 g cx (.Raise (some e) none pos) (H5 G r sc e):=by
 obtain⟨bm,fI,fd,me,told,B⟩:=H.bad
 cases e with
 |Call f args kws p=>cases f with
  |Name x q=>
   rcases args with _|⟨a,_|⟨b,l⟩⟩
   ·exact eN
   ·refine @sG _ _ _ _ _ λq=>?_
    have q1:=aJ q
    have q2:=aJ q1.1
    have q3:=aJ q2.1
    obtain rfl:=b6.mp q3.1
    obtain rfl:=Xj.mp q3.2
    have z:[a].all a5=true:=by show(a5 a&&true)=true;rw[q2.2];rfl
    show j3 g cx _ _
    exact Lc H.top B (H.excN (c.kind q1.2)) (AO (O.e a c) GN (eU [] _ q2.2)) (f6 z _)
   ·exact eN
  |_=>exact eN
 |_=>exact eN
theorem Bo(h:Bl e=some v):CY g cx e v∧∀t l env,Z2 e t l env=pure false:=by
 cases e with
 |Constant k i p=>
  refine⟨?_,λ_ _ _=>rfl⟩
  have h:wJ k=some v:=h
  intro A Qr Er s q
  cases k with
  |int i=>cases h;exact wpAny_Constant_int (q _ _ λ_=>cD)
  |none=>cases h;exact wpAny_Constant_none (q _ _ λ_=>gp)
  |bool b=>cases h;exact wpAny_Constant_bool (q _ _ λ_=>mq)
  |str u=>obtain⟨d,rfl⟩:=mA h;exact wpAny_Constant_str (q _ _ λ_=>e7 (of_decide_eq_true d))
  |bytes u=>obtain⟨d,rfl⟩:=mA h;exact λ_ _ _=>q _ _ λ_=>cQ (of_decide_eq_true d)
  |_=>cases h
 |_=>cases h
theorem Fv(H:fe g K G)(c:c5 cx sc.S sc.names G.n sc.fn)(hf:sc.fn=true){body:List Stmt}{ty t:Expr}{q ap:Pos}(hb:AL g cx body W):j3 g cx (.Try body [.ExceptHandler (some ty) none [.Assign [t] e ap] q] [] [] pos) (H6 G sc W ty t e):=by
 obtain⟨bm,fI,fd,me,told,B⟩:=H.bad
 cases ty with
 |Name x np=>cases t with
  |Name y py=>
   refine @sG _ _ _ _ _ λq=>@sO _ _ _ _ _ _ λi hi=>@sO _ _ _ _ _ _ λv hv=>?_
   have q1:=aJ q
   have q2:=aJ q1.1
   obtain rfl:=b6.mp q2.1
   have k:=Bo (g:=g) (cx:=cx) hv
   obtain⟨outer,ht⟩:=c.top hf
   show j3 g cx _ _
   exact Se (kp:=ap) H.top B ht (c.scope hf) hb (c.kind q2.2) (si▸mz H.excD) H.excK (c.names▸dM hi) (c.store q1.2) (k.2 _ _ _) k.1
  |_=>exact eN
 |_=>exact eN
theorem Fw(H:fe g K G)(c:c5 cx sc.S sc.names G.n sc.fn)(hf:sc.fn=true){body:List Stmt}{ty:Expr}{s:Stmt}{q:Pos}(hb:AL g cx body W):j3 g cx (.Try body [.ExceptHandler (some ty) none [s] q] [] [] pos) (H7 G sc W ty s):=by
 cases s with
 |Assign ts e ap=>
  rcases ts with _|⟨t,_|⟨b,l⟩⟩
  ·exact eN
  ·exact Fv H c hf hb
  ·exact eN
 |_=>exact eN
theorem Iu(H:fe g K G)(c:c5 cx sc.S sc.names G.n sc.fn)(hf:sc.fn=true)(hb:AL g cx body W):j3 g cx (.Try body [h] [] [] pos) (NO G sc W h):=by
 obtain⟨ty,nm,bd,q⟩:=h
 cases ty with
 |none=>exact eN
 |some ty=>cases nm with
  |some x=>exact eN
  |none=>
   rcases bd with _|⟨s,_|⟨b,l⟩⟩
   ·exact eN
   ·exact Fw H c hf hb
   ·exact eN
theorem LN(H:fe g K G)(O:fZ g G.n r)(c:c5 cx sc.S sc.names G.n sc.fn):j3 g cx (.AugAssign to .Add e pos) (Sw G r sc to e):=by
 cases to with
 |Attribute o name p=>exact sO λix h=>R6 H.top (O.e o c) (O.e e c) (H.attr name ix h)
 |_=>exact eN
theorem Iv(H:fe g K G)(O:fZ g G.n r)(c:c5 cx sc.S sc.names G.n sc.fn)(hf:sc.fn=true)(s:Stmt):j3 g cx s (NP G r sc s):=by
 obtain⟨outer,ht⟩:=c.top hf
 cases s with
 |Return e p=>cases e with
  |none=>exact eN
  |some e=>exact RQ (O.e e c)
 |Pass p=>exact OG
 |Expr e p=>exact sO λb hb=>sG λq=>λoa R w=>Ut (O.e e c) (by unfold interactive;rw[R.ok.kind];rfl) (by
  have hb:=jr hb
  rw[cw q]at hb
  rw[dH (c.scope hf)];exact hb) oa R w
 |If t b o p=>exact Us (O.b t c) (O.ss b c) (O.ss o c)
 |For t it body o p=>
  refine @sG _ _ _ _ _ λq=>?_
  have q:=aJ q
  obtain rfl:=Xj.mp q.1
  show j3 g cx _ _
  exact Sa ht (O.i it c) (λI o F=>O.t t c.addIt) (λI o F=>O.ss body c.addIt) (h9 q.2 _)
 |While t body o p=>
  refine @sG _ _ _ _ _ λq=>?_
  obtain rfl:=Xj.mp q
  exact K8 ht (O.b t c) (O.ss body c)
 |Assign ts e p=>
  rcases ts with _|⟨t,_|⟨b,l⟩⟩
  ·exact eN
  ·exact LL O c hf
  ·exact eN
 |AugAssign to op e p=>
  refine @sG _ _ _ _ _ λq=>?_
  obtain rfl:=eq_of_beq q
  exact LN H O c
 |Raise e k p=>
  refine @sG _ _ _ _ _ λq=>@sO _ _ _ _ _ _ λe' he=>?_
  subst he
  obtain rfl:=Y8.mp q
  exact Fu H O c
 |Try body hs o f p=>
  refine @sG _ _ _ _ _ λq=>?_
  have q:=aJ q
  obtain rfl:=Xj.mp q.1
  obtain rfl:=Xj.mp q.2
  rcases hs with _|⟨h,_|⟨b,l⟩⟩
  ·show j3 g cx _ cJ
   exact eN
  ·show j3 g cx _ _
   exact Iu H c hf (O.ss body c)
  ·show j3 g cx _ cJ
   exact eN
 |_=>exact eN
theorem Fx(H:fe g K G)(O:fZ g G.n r)(c:c5 cx sc.S sc.names G.n sc.fn)(ss:List Stmt):AL g cx ss (H8 G r sc ss):=by
 refine @sG _ _ _ _ _ λhf=>?_
 induction ss with
 |nil=>exact RP
 |cons s ss ih=>exact OF (Iv H O c hf s) ih
theorem Dp(H:fe g K G):∀m,fZ g G.n (rc g G m):=by
 intro zi
 induction zi with
 |zero=>
  exact⟨λ_ _=>jq,λ_ _=>wM,λ_ _=>Sx,λ_ _=>Dj,λ_ _=>eN⟩
 |succ m ih=>
  exact⟨λx c=>Ij H (ih) c x,λx c=>Ik H (ih) c x,λx c=>Il H (ih) c x,λx c=>Im H (ih) c x,λx c=>Fx H (ih) c x⟩
end
noncomputable def ql:List (Addr×List Str):=[(141,[Wg "name",Wg "email",Wg "when",Wg "zone"]),(190,[Wg "mode",Wg "name",Wg "oid"]),(239,[Wg "entries"]),(330,[Wg "heads",Wg "at"]),(365,[Wg "tree",Wg "parents",Wg "author",Wg "committer",Wg "extra",Wg "message"]),(415,[Wg "target",Wg "kind",Wg "name",Wg "tagger",Wg "message",Wg "signature"])]
noncomputable def NR:List (Str×V):=[(Wg "FILE",.int 33188),(Wg "EXEC",.int 33261),(Wg "LINK",.int 40960),(Wg "DIR",.int 16384),(Wg "SUB",.int 57344),(Wg "HEX_SIGNS",.str [48,49,50,51,52,53,54,55,56,57,97,98,99,100,101,102]),(Wg "NOUGHT_SIGN",.int 48),(Wg "OBJECT_KINDS",.tup [.bytes [98,108,111,98],.bytes [116,114,101,101],.bytes [99,111,109,109,105,116],.bytes [116,97,103]]),(Wg "OBJECT_MODES",.tup [.int 33188,.int 33261,.int 40960,.int 16384,.int 57344]),(Wg "OBJECT_OLD_MODE",.int 33204),(Wg "OBJECT_HEX",.bytes [48,49,50,51,52,53,54,55,56,57,97,98,99,100,101,102]),(Wg "OBJECT_DIGITS",.bytes [48,49,50,51,52,53,54,55,56,57]),(Wg "OBJECT_HEADS",.tup [.bytes [116,114,101,101],.bytes [112,97,114,101,110,116],.bytes [97,117,116,104,111,114],.bytes [99,111,109,109,105,116,116,101,114]]),(Wg "OBJECT_SIGNATURES",.tup [.bytes [45,45,45,45,45,66,69,71,73,78,32,80,71,80,32,83,73,71,78,65,84,85,82,69,45,45,45,45,45],.bytes [45,45,45,45,45,66,69,71,73,78,32,80,71,80,32,77,69,83,83,65,71,69,45,45,45,45,45],.bytes [45,45,45,45,45,66,69,71,73,78,32,83,73,71,78,69,68,32,77,69,83,83,65,71,69,45,45,45,45,45],.bytes [45,45,45,45,45,66,69,71,73,78,32,83,83,72,32,83,73,71,78,65,84,85,82,69,45,45,45,45,45]])]
noncomputable def NS:List (Str×Addr):=[(Wg "text_of",59),(Wg "octets_of",64),(Wg "hex_of",71),(Wg "hex_digit",78),(Wg "octets_of_hex",85),(Wg "number_by",92),(Wg "number_of",99),(Wg "object_has_sign",110),(Wg "object_are_all",117),(Wg "read_person",152),(Wg "object_by_eights",201),(Wg "object_name_fault",208),(Wg "tree_faults",250),(Wg "check_tree",257),(Wg "object_mode_of",264),(Wg "read_tree",271),(Wg "object_head_row",278),(Wg "object_head_id",285),(Wg "object_heads",292),(Wg "read_commit",376),(Wg "object_signature_at",383),(Wg "read_tag",426),(Wg "read_object",433),(Wg "object_octets",440),(Wg "split_object",447),(Wg "_law_octets",452),(Wg "_law_signs_of",457),(Wg "_law_deck",462),(Wg "_law_draw",469),(Wg "_law_pick",476),(Wg "_law_hex",481),(Wg "_law_oid",486),(Wg "_law_heard",493),(Wg "_law_bent",500),(Wg "_law_number",505),(Wg "_law_split",512),(Wg "_law_split_told",519),(Wg "_law_heads_right",524),(Wg "_law_hex_right",531),(Wg "_law_rows",538),(Wg "_law_key",545),(Wg "_law_are_fit",550),(Wg "_law_tree_right",555),(Wg "_law_trees_right",560),(Wg "_law_person",567),(Wg "_law_person_row",574),(Wg "_law_parts",581),(Wg "_law_made",588),(Wg "_law_odd_person",595),(Wg "_law_odd_id",602),(Wg "_law_spoilt",609),(Wg "_law_commits_right",614),(Wg "_law_tags_right",619),(Wg "Person",141),(Wg "Entry",190),(Wg "Tree",239),(Wg "ObjectHeadWalk",330),(Wg "Commit",365),(Wg "Tag",415)]
noncomputable def LO:List (Str×Wn×BW):=[(Wg "len",.builtin "len",b1 c4),(Wg "ord",.builtin "ord",b1 K2),(Wg "chr",.builtin "chr",b1 K3),(Wg "int",.type "int",b1 K4),(Wg "str",.type "str",b1 EH),(Wg "list",.type "list",b1 CS),(Wg "tuple",.type "tuple",b1 wd),(Wg "bytes",.type "bytes",b1 du),(Wg "bytearray",.type "bytearray",wx)]
noncomputable def sj:Ix:=[(330,1)]
noncomputable def gR:Ix:=[(365,2)]
noncomputable def d5:Ix:=[(365,3)]
noncomputable def js:Ix:=[(141,1)]
noncomputable def dN:Ix:=[(239,0)]
noncomputable def jt:Ix:=[(365,4)]
noncomputable def gS:Ix:=[(330,0)]
noncomputable def jS:Ix:=[(415,1)]
noncomputable def cf:Ix:=[(365,5),(415,4)]
noncomputable def fH:Ix:=[(190,0)]
noncomputable def bH:Ix:=[(141,0),(190,1),(415,2)]
noncomputable def ju:Ix:=[(190,2)]
noncomputable def f7:Ix:=[(365,1)]
noncomputable def d6:Ix:=[(415,5)]
noncomputable def cV:Ix:=[(415,3)]
noncomputable def fO:Ix:=[(415,0)]
noncomputable def mB:Ix:=[(365,0)]
noncomputable def mC:Ix:=[(141,2)]
noncomputable def mD:Ix:=[(141,3)]
noncomputable def NT:List (Str×Ix):=[(Wg "at",sj),(Wg "author",gR),(Wg "committer",d5),(Wg "email",js),(Wg "entries",dN),(Wg "extra",jt),(Wg "heads",gS),(Wg "kind",jS),(Wg "message",cf),(Wg "mode",fH),(Wg "name",bH),(Wg "oid",ju),(Wg "parents",f7),(Wg "signature",d6),(Wg "tagger",cV),(Wg "target",fO),(Wg "tree",mB),(Wg "when",mC),(Wg "zone",mD)]
noncomputable def aK:MT:={l:=some ("list.append",y0),a:=some ("bytearray.append",vk)}
noncomputable def m_find:MT:={b:=some ("bytes.find",He),s:=some ("str.find",Hh),c:=[(239,236)]}
noncomputable def Iw:MT:={d:=some ("dict.get",Hi)}
noncomputable def fP:MT:={c:=[(330,313)]}
noncomputable def bB:MT:={b:=some ("bytes.join",Hf),s:=some ("str.join",Hg)}
noncomputable def Py:MT:={c:=[(190,180)]}
noncomputable def m_lower:MT:={b:=some ("bytes.lower",C3)}
noncomputable def df:MT:={c:=[(141,138),(190,187),(239,229),(365,355),(415,412)]}
noncomputable def Dq:MT:={l:=some ("list.pop",Nt)}
noncomputable def m_replace:MT:={b:=some ("bytes.replace",vi)}
noncomputable def oL:MT:={c:=[(330,327)]}
noncomputable def vp:MT:={a:=some ("bytearray.reverse",sa)}
noncomputable def kP:MT:={c:=[(415,405)]}
noncomputable def ll:MT:={c:=[(190,173)]}
noncomputable def m_split:MT:={b:=some ("bytes.split",C5)}
noncomputable def m_startswith:MT:={b:=some ("bytes.startswith",yZ)}
noncomputable def fg:MT:={c:=[(330,320)]}
noncomputable def m_upper:MT:={b:=some ("bytes.upper",C4),s:=some ("str.upper",C6)}
noncomputable def Iy:List (Str×MT):=[(Wg "append",aK),(Wg "find",m_find),(Wg "get",Iw),(Wg "is_next",fP),(Wg "join",bB),(Wg "kind",Py),(Wg "lower",m_lower),(Wg "octets",df),(Wg "pop",Dq),(Wg "replace",m_replace),(Wg "rest",oL),(Wg "reverse",vp),(Wg "signed_part",kP),(Wg "sort_key",ll),(Wg "split",m_split),(Wg "startswith",m_startswith),(Wg "take",fg),(Wg "upper",m_upper)]
noncomputable def NU(n:Nat):Gm:=⟨n,Wg "BadObject",NR,NS.map (λp=>(p.1,FK.fn (.ref p.2)))++LO.map (λp=>(p.1,FK.bw p.2.1 p.2.2))++[(Wg "range",FK.range),(Wg "sorted",FK.sort),(Wg "set",FK.set)],NT,Iy⟩
noncomputable def fdOf(o:Option Obj):FuncData:=match o with
 |some ⟨_,_,.func fd,_⟩=>fd
 |_=>default
noncomputable def Iz(o:Option Obj):Bool:=match o with
 |some ⟨_,_,.func _,_⟩=>true
 |_=>false
noncomputable def lq(K:Frag)(a:Addr):FuncData:=fdOf (K.lookup a)
noncomputable def Ds(b:FuncBody):List PySem.Stmt:=match b with
 | .stmts b=>b
 |_=>[]
noncomputable def Dt(b:FuncBody):Bool:=match b with
 | .stmts _=>true
 |_=>false
noncomputable def ls(K:Frag)(a:Addr):List PySem.Stmt:=Ds (lq K a).body
noncomputable def Fy(K:Frag)(a:Addr)(names grow:List Str):Sc:=⟨(lq K a).scope,names,true,grow⟩
noncomputable def Bp:List Str->List Str->Bool
 | [],[]=>true
 |a::l,b::r=>cG a b&&Bp l r
 |_,_=>false
noncomputable def Pz(K:Frag)(fd:aaZ)(params names:List Str):Bool:=
 codeIn K fd.code fd.qualname&&Dt fd.body&&fd.closure.isEmpty&&YB fd.globals XH&&YB fd.builtins aaO&&fd.scope.kind==.function&&!fd.scope.isCoroutine&&!fd.scope.isGenerator
  && Bp (names.take params.length) params&&jo names&&jo (fd.scope.names.map (·.1))&&params.all λx=>kindIs fd.scope x .local||kindIs fd.scope x .cell
noncomputable def Bq(K:Frag)(a:Addr)(params names:List Str):Bool:=Iz (K.lookup a)&&Pz K (lq K a) params names
structure Df where
 a:Addr
 params:List Str
 names:List Str
 grow:List Str
def vq:Nat->(List Wn->Prop)->Prop
 |0,P=>P []
 |n+1,P=>∀v,vq n λl=>P (v::l)
theorem sm(l:List Wn):∀{P:List Wn->Prop},vq l.length P->P l:=by
 induction l with
 |nil=>exact λh=>h
 |cons v l d=>exact λh=>d (h v)
structure aR(K:Frag)(d:Df)(W:Gl->Nat->PT):Prop where
 good:Bq K d.a d.params d.names=true
 bind:vq d.params.length λl=>aca (lq K d.a) ⟨l,[]⟩=pure (d.params.zip l)
 word:∀g n,(rc g (NU n) 14).ss (Fy K d.a d.names d.grow) (ls K d.a)=W g n
theorem Br:∀{l r:List Str},Bp l r=true->l=r:=by
 intro d
 induction d with
 |nil=>
  intro y
  cases y with
  |nil=>
   intro _
   exact rfl
  |cons i z=>
   intro h
   exact ff h
 |cons a l j=>
  intro q
  cases q with
  |nil=>
   intro h
   exact ff h
  |cons b r=>
   intro h
   rw[b6.mp (aJ h).1,j (aJ h).2]
section
variable{g:Gl}{K:Frag}{cx:Cx}{x:Str}{pos:Pos}{v:V}{val:Wn}
theorem zq(h:Iz (K.lookup a)=true):∃c d sl,K.lookup a=some ⟨c,d,.func (lq K a),sl⟩:=by
 unfold lq
 generalize e:K.lookup a=zz;cases zz with
 |none=>rw[e]at h;exact ff h
 |some o=>
  obtain⟨c,d,dt,sl⟩:=o
  rw[e]at h
  cases dt with
  |func fd=>exact⟨c,d,sl,rfl⟩
  |_=>exact ff h
theorem Bs(h:Dt b=true):b=.stmts (Ds b):=by
 cases b with
 |stmts b=>rfl
 |_=>exact ff h
theorem rz(T:K.In g.B)(h:Bq K a params names=true)(hb:∀(s:Ws) (vals:List Wn),g.B.StaysIn s.heap->vals.length+dvals.length=params.length->BindsTo s (lq K a) ⟨vals,[]⟩ (params.zip (vals++dvals))) :
 EL g a (lq K a) (ls K a) params names dvals:=by
 have h0:=aJ h
 have h1:=aJ h0.2
 have p:=aJ h1.1
 have b:=aJ p.1
 have i:=aJ b.1
 have m:=aJ i.1
 have j:=aJ m.1
 have u:=aJ j.1
 have k:=aJ u.1
 have z:=aJ k.1
 have q:=aJ z.1
 have y:=aJ q.1
 obtain⟨c,d,sl,e⟩:=zq h0.1
 exact⟨⟨_,T _ _ e,rfl⟩,codeRec_of T y.1,Bs y.2,Xj.mp q.2,Yl z.2,Yl k.2,eq_of_beq u.2,cw j.2,cw m.2,hb,
  ⟨names.drop params.length,by conv=>lhs;rw[←YJ params.length names,Br i.2]⟩,gQ b.2,gQ p.2,λx hx=>(afm.mp (W0.mp h1.2 x hx)).imp f5 f5⟩
theorem aH(H:fe g K (NU n))(D:aR K d W)(q:vs.length=d.params.length)
 (j:W g n (λfl st=>Fin Q (EM fl) st.h) (λst=>yQ X st.h) ⟨vs.map some++Xb (d.names.length-d.params.length) none,h⟩):iI g (n+1) (.ref d.a) vs Q X h:=
 oA (dvs:=[]) (dvals:=[]) H.top (rz H.top.k D.good λs vals _ y=>BindsTo.of_eq (by rw[WT];exact sm vals (y▸D.bind))) (λ_=>rfl)
  (λcx c=>D.word g n▸(Dp H 14).ss (sc:=Fy K d.a d.names d.grow) (ls K d.a) c) q (by rw[WT];exact j)
structure IA(K:Frag)(d:Df)(W:Gl->Nat->PT):Prop where
 good:Bq K d.a d.params d.names=true
 bind7:vq 7 λl=>∀S,peek K S (aca (lq K d.a) ⟨l,[]⟩)=some (d.params.zip l)
 bind6:vq 6 λl=>∀S,peek K S (aca (lq K d.a) ⟨l,[]⟩)=some (d.params.zip (l++[.bytes #[] 751]))
 word:∀g n,(rc g (NU n) 14).ss (Fy K d.a d.names d.grow) (ls K d.a)=W g n
theorem vr(e:l.length=n)(h:vq n P):P l:=by
 subst e;exact sm l h
theorem lu(X:K.In s.heap)(e:∀S,peek K S (aca fd args)=some binds):BindsTo s fd args binds:=
 λM _ _ _ q=>(Looks.of_peek (M:=M) X (e _)).here q
theorem IB(H:fe g K (NU n))(D:IA K d W)(hp:d.params.length=7)(q:vs.length=d.params.length)
 (j:W g n (λfl st=>Fin Q (EM fl) st.h) (λst=>yQ X st.h) ⟨vs.map some++Xb (d.names.length-d.params.length) none,h⟩):iI g (n+1) (.ref d.a) vs Q X h:=
 oA (dvs:=[]) (dvals:=[]) H.top (rz H.top.k D.good λs vals hs y=>lu (H.top.k.keeps hs) λS=>by rw[WT];exact vr (P:=λl=>∀S,peek K S (aca (lq K d.a) ⟨l,[]⟩)=some (d.params.zip l)) (y.trans hp) D.bind7 S) (λ_=>rfl)
  (λcx c=>D.word g n▸(Dp H 14).ss (sc:=Fy K d.a d.names d.grow) (ls K d.a) c) q (by rw[WT];exact j)
theorem IC(H:fe g K (NU n))(D:IA K d W)(hp:d.params.length=7)(q:vs.length+1=d.params.length)
 (j:W g n (λfl st=>Fin Q (EM fl) st.h) (λst=>yQ X st.h) ⟨(vs++[V.bytes []]).map some++Xb (d.names.length-d.params.length) none,h⟩):iI g (n+1) (.ref d.a) vs Q X h:=
 oA (dvs:=[V.bytes []]) (dvals:=[.bytes #[] 751]) H.top (rz H.top.k D.good λs vals hs y=>lu (H.top.k.keeps hs) λS=>vr (P:=λl=>∀S,peek K S (aca (lq K d.a) ⟨l,[]⟩)=some (d.params.zip (l++[.bytes #[] 751]))) (XE (y.trans hp)) D.bind6 S) (λ_=>⟨⟨WI _,751,rfl⟩,rfl⟩)
  (λcx c=>D.word g n▸(Dp H 14).ss (sc:=Fy K d.a d.names d.grow) (ls K d.a) c) q j
theorem bW.up(l:n<=m)(c:bW g n f vs Q X h):bW g m f vs Q X h:=by
 unfold bW at *
 exact λd=>c (Wh l d)
theorem LP(B:∀F,(∀a o,g.B.get? a=some o->NF o->F a o)->VR g F v val){tmp:List V}{vals:List Wn}{st:St}{s:Ws}(R:aI g cx tmp vals st s):VR g (cx.F st s) v val:=
 B _ λa o e n=>⟨R.base a o e,R.bNone (W6 e),λq=>Xq.mpr (R.rsv a q).1 (W6 e),n⟩
theorem vt(T:Top g K)(e:nsIn K XH x=some (some val))(hd:(x==("__debug__" : Str))=false)(B:∀F,(∀a o,g.B.get? a=some o->NF o->F a o)->VR g F v val):lg g x v:=λd=>by
 intro A s tmp vals st Q X q R w
 obtain⟨y,j,h1,i,z⟩:=T.ns
 exact aF (acR R.ok.kind d (loadGlobal_global (by rw[R.ok.globals];exact h1.keeps R.base) (mg_of T.k h1 e) (R.up (LP B R) w)) hd)
theorem Bt(T:Top g K)(e:nsIn K XH x=some none)(q:acm x=some val)(y:x≠ "__name__")(hd:(x==("__debug__" : Str))=false):lg g x (.raw val):=λd=>by
 intro A s tmp vals st Q X z R w
 obtain⟨u,c,h1,j,i⟩:=T.ns
 exact aF (acR R.ok.kind d (loadGlobal_builtin (by rw[R.ok.globals];exact h1.keeps R.base) (mg_none_of T.k h1 e) (by rw[R.ok.builtins];exact j.keeps R.base) ((i x y).trans q) (R.up (v:=.raw val) rfl w)) hd)
end
noncomputable def FA:Df:=⟨59,[Wg "octets"],[Wg "octets"],[]⟩
def FC(g:Gl)(n:Nat):=(ah (aO (av g n bB (af (.str [])) (aa (a8 2 [] (hZ (aj 1) j2 (dn (b1 K3) (aa (ae 1) ag))) (a7 (ae 0))) ag))) ai)
noncomputable def zr:Df:=⟨64,[Wg "text"],[Wg "text",Wg "numbers",Wg "number"],[]⟩
def t5(g:Gl)(n:Nat):=(ah (bA (aC .Gt (ae 2) (af (.int 255))) (ah (bj (ae 0)) ai) ai) ai)
def t6(g:Gl)(n:Nat):=(ah (dq (aj 2) (a7 (ae 1)) (t5 g n)) (ah (aO (dn (b1 du) (aa (ae 1) ag))) ai))
def zt(g:Gl)(n:Nat):=(ah (aD (aj 1) (a8 2 [] (hZ (aj 1) j2 (dn (b1 K2) (aa (ae 1) ag))) (a7 (ae 0)))) (t6 g n))
noncomputable def ID:Df:=⟨71,[Wg "octets"],[Wg "octets",Wg "found",Wg "octet"],[Wg "found"]⟩
def Bu(g:Gl)(n:Nat):=(ah (fY (av g n aK (ae 1) (aa (aQ (af (.str [48,49,50,51,52,53,54,55,56,57,97,98,99,100,101,102])) (ao .BitAnd (ae 2) (af (.int 15)))) ag))) ai)
def Bv(g:Gl)(n:Nat):=(ah (fY (av g n aK (ae 1) (aa (aQ (af (.str [48,49,50,51,52,53,54,55,56,57,97,98,99,100,101,102])) (ao .RShift (ae 2) (af (.int 4)))) ag))) (Bu g n))
def Bw(g:Gl)(n:Nat):=(ah (aO (av g n bB (af (.str [])) (aa (ae 1) ag))) ai)
def Bx(g:Gl)(n:Nat):=(ah (dq (aj 2) (a7 (ae 0)) (Bv g n)) (Bw g n))
def IE(g:Gl)(n:Nat):=(ah (aD (aj 1) (gy ag)) (Bx g n))
noncomputable def zu:Df:=⟨78,[Wg "sign"],[Wg "sign",Wg "place"],[]⟩
def t7(g:Gl)(n:Nat):=(ah (aO (bA (aC .GtE (ae 1) (af (.int 0))) (ae 1) (af .none))) ai)
def t8(g:Gl)(n:Nat):=(ah (bA (di (aC .Lt (ae 1) (af (.int 0))) (di (aC .In (ae 0) (af (.str [65,66,67,68,69,70]))) (af (.bool .true)))) (ah (aO (ao .Add (af (.int 10)) (av g n m_find (af (.str [65,66,67,68,69,70])) (aa (ae 0) ag)))) ai) ai) (t7 g n))
def zv(g:Gl)(n:Nat):=(ah (aD (aj 1) (av g n m_find (af (.str [48,49,50,51,52,53,54,55,56,57,97,98,99,100,101,102])) (aa (ae 0) ag))) (t8 g n))
noncomputable def qm:Df:=⟨85,[Wg "text"],[Wg "text",Wg "found",Wg "at",Wg "high",Wg "low"],[Wg "found"]⟩
def mE(g:Gl)(n:Nat):=(ah (fY (av g n aK (ae 1) (aa (ao .Add (ao .Mult (af (.int 16)) (ae 3)) (ae 4)) ag))) ai)
def mF(g:Gl)(n:Nat):=(ah (bA (cF (aC .Is (ae 3) (af .none)) (cF (aC .Is (ae 4) (af .none)) (af (.bool .false)))) (ah (bj (ae 0)) ai) ai) (mE g n))
def mG(g:Gl)(n:Nat):=(ah (aD (aj 4) (ak g n (.ref 78) (aa (aQ (ae 0) (ao .Add (ae 2) (af (.int 1)))) ag))) (mF g n))
def mH(g:Gl)(n:Nat):=(ah (aD (aj 3) (ak g n (.ref 78) (aa (aQ (ae 0) (ae 2)) ag))) (mG g n))
def mI(g:Gl)(n:Nat):=(ah (dq (aj 2) (da (aa (af (.int 0)) (aa (dn (b1 c4) (aa (ae 0) ag)) (aa (af (.int 2)) ag)))) (mH g n)) (ah (aO (dn (b1 du) (aa (ae 1) ag))) ai))
def qn(g:Gl)(n:Nat):=(ah (bA (aC .NotEq (ao .Mod (dn (b1 c4) (aa (ae 0) ag)) (af (.int 2))) (af (.int 0))) (ah (bj (ae 0)) ai) ai) (ah (aD (aj 1) (gy ag)) (mI g n)))
noncomputable def zw:Df:=⟨92,[Wg "octets",Wg "base"],[Wg "octets",Wg "base",Wg "number",Wg "octet",Wg "digit"],[]⟩
def t9(g:Gl)(n:Nat):=(ah (aD (aj 2) (ao .Add (ao .Mult (ae 1) (ae 2)) (ae 4))) ai)
def ua(g:Gl)(n:Nat):=(ah (bA (gx (rT .LtE .Lt (af (.int 0)) (ae 4) (ae 1))) (ah (aO (af .none)) ai) ai) (t9 g n))
def ub(g:Gl)(n:Nat):=(ah (aD (aj 4) (ao .Sub (ae 3) (af (.int 48)))) (ua g n))
def uc(g:Gl)(n:Nat):=(ah (dq (aj 3) (a7 (ae 0)) (ub g n)) (ah (aO (ae 2)) ai))
def zx(g:Gl)(n:Nat):=(ah (bA (aC .Eq (dn (b1 c4) (aa (ae 0) ag)) (af (.int 0))) (ah (aO (af .none)) ai) ai) (ah (aD (aj 2) (af (.int 0))) (uc g n)))
noncomputable def zy:Df:=⟨99,[Wg "octets"],[Wg "octets"],[]⟩
def ud(g:Gl)(n:Nat):=(ah (aO (ak g n (.ref 92) (aa (ae 0) (aa (af (.int 10)) ag)))) ai)
def zA(g:Gl)(n:Nat):=(ah (bA (di (aC .Gt (dn (b1 c4) (aa (ae 0) ag)) (af (.int 1))) (di (aC .Eq (aQ (ae 0) (af (.int 0))) (af (.int 48))) (af (.bool .true)))) (ah (aO (af .none)) ai) ai) (ud g n))
noncomputable def mJ:Df:=⟨110,[Wg "octets",Wg "signs"],[Wg "octets",Wg "signs",Wg "sign"],[]⟩
def j4(g:Gl)(n:Nat):=(ah (bA (aC .GtE (av g n m_find (ae 0) (aa (dn (b1 du) (aa (bp (aa (ae 2) ag)) ag)) ag)) (af (.int 0))) (ah (aO (af (.bool .true))) ai) ai) ai)
def mK(g:Gl)(n:Nat):=(ah (dq (aj 2) (a7 (ae 1)) (j4 g n)) (ah (aO (af (.bool .false))) ai))
noncomputable def oM:Df:=⟨117,[Wg "octets",Wg "signs"],[Wg "octets",Wg "signs",Wg "sign"],[]⟩
def ly(g:Gl)(n:Nat):=(ah (bA (aC .NotIn (ae 2) (ae 1)) (ah (aO (af (.bool .false))) ai) ai) ai)
def oN(g:Gl)(n:Nat):=(ah (dq (aj 2) (a7 (ae 0)) (ly g n)) (ah (aO (af (.bool .true))) ai))
noncomputable def ue:Df:=⟨131,[Wg "self",Wg "name",Wg "email",Wg "when",Wg "zone"],[Wg "self",Wg "name",Wg "email",Wg "when",Wg "zone"],[]⟩
def qo(g:Gl)(n:Nat):=(ah (aD (bN (ae 0) mC) (ae 3)) (ah (aD (bN (ae 0) mD) (ae 4)) ai))
def qp(g:Gl)(n:Nat):=(ah (aD (bN (ae 0) js) (ae 2)) (qo g n))
def uf(g:Gl)(n:Nat):=(ah (aD (bN (ae 0) bH) (ae 1)) (qp g n))
noncomputable def qq:Df:=⟨138,[Wg "self"],[Wg "self"],[]⟩
def qr(g:Gl)(n:Nat):=(ah (aO (ao .Add (ao .Add (ao .Add (ao .Add (ao .Add (ao .Add (aS (ae 0) bH) (af (.bytes [32,60]))) (aS (ae 0) js)) (af (.bytes [62,32]))) (ak g n (.ref 64) (aa (dn (b1 EH) (aa (aS (ae 0) mC) ag)) ag))) (af (.bytes [32]))) (aS (ae 0) mD))) ai)
noncomputable def ug:Df:=⟨152,[Wg "octets"],[Wg "octets",Wg "start",Wg "name",Wg "rest",Wg "end",Wg "email",Wg "blank",Wg "when",Wg "zone"],[]⟩
def qt(g:Gl)(n:Nat):=(ah (aO (ak g n (.ref 141) (aa (ae 2) (aa (ae 5) (aa (ae 7) (aa (ae 8) ag)))))) ai)
def qu(g:Gl)(n:Nat):=(ah (bA (cF (aC .NotEq (dn (b1 c4) (aa (ae 8) ag)) (af (.int 5))) (cF (aC .NotIn (aQ (ae 8) (af (.int 0))) (af (.bytes [43,45]))) (cF (gx (cu (ak g n (.ref 117) (aa (bb (ae 8) (af (.int 1)) (af .none)) (aa (af (.bytes [48,49,50,51,52,53,54,55,56,57])) ag))))) (af (.bool .false))))) (ah (bj (af (.str [97,32,122,111,110,101,32,116,104,97,116,32,105,115,32,110,111,110,101]))) ai) ai) (qt g n))
def qv(g:Gl)(n:Nat):=(ah (bA (aC .Is (ae 7) (af .none)) (ah (bj (af (.str [97,32,109,111,109,101,110,116,32,116,104,97,116,32,105,115,32,110,111,32,110,117,109,98,101,114]))) ai) ai) (qu g n))
def qw(g:Gl)(n:Nat):=(ah (bZ [8,7] (aa (ak g n (.ref 99) (aa (bb (ae 3) (af .none) (ae 6)) ag)) (aa (bb (ae 3) (ao .Add (ae 6) (af (.int 1))) (af .none)) ag))) (qv g n))
def iL(g:Gl)(n:Nat):=(ah (bA (aC .Lt (ae 6) (af (.int 0))) (ah (bj (af (.str [97,32,112,101,114,115,111,110,32,119,105,116,104,111,117,116,32,97,32,122,111,110,101]))) ai) ai) (qw g n))
def qx(g:Gl)(n:Nat):=(ah (aD (aj 6) (av g n m_find (ae 3) (aa (af (.bytes [32])) ag))) (iL g n))
def qy(g:Gl)(n:Nat):=(ah (bA (cu (ak g n (.ref 110) (aa (ao .Add (ae 2) (ae 5)) (aa (af (.bytes [60,62,10,0])) ag)))) (ah (bj (af (.str [115,105,103,110,115,32,116,104,97,116,32,110,111,32,112,101,114,115,111,110,32,104,97,115]))) ai) ai) (qx g n))
def qz(g:Gl)(n:Nat):=(ah (bZ [3,5] (aa (bb (ae 3) (af .none) (ae 4)) (aa (bb (ae 3) (ao .Add (ae 4) (af (.int 2))) (af .none)) ag))) (qy g n))
def qA(g:Gl)(n:Nat):=(ah (bA (aC .Lt (ae 4) (af (.int 0))) (ah (bj (af (.str [97,32,112,101,114,115,111,110,32,119,105,116,104,111,117,116,32,98,114,97,99,107,101,116,115]))) ai) ai) (qz g n))
def gT(g:Gl)(n:Nat):=(ah (aD (aj 4) (av g n m_find (ae 3) (aa (af (.bytes [62,32])) ag))) (qA g n))
def oO(g:Gl)(n:Nat):=(ah (bZ [3,2] (aa (bb (ae 0) (af .none) (ae 1)) (aa (bb (ae 0) (ao .Add (ae 1) (af (.int 2))) (af .none)) ag))) (gT g n))
def oP(g:Gl)(n:Nat):=(ah (bA (aC .Lt (ae 1) (af (.int 0))) (ah (bj (af (.str [97,32,112,101,114,115,111,110,32,119,105,116,104,111,117,116,32,98,114,97,99,107,101,116,115]))) ai) ai) (oO g n))
def uh(g:Gl)(n:Nat):=(ah (aD (aj 1) (av g n m_find (ae 0) (aa (af (.bytes [32,60])) ag))) (oP g n))
noncomputable def wO:Df:=⟨166,[Wg "self",Wg "mode",Wg "name",Wg "oid"],[Wg "self",Wg "mode",Wg "name",Wg "oid"],[]⟩
def sr(g:Gl)(n:Nat):=(ah (aD (bN (ae 0) bH) (ae 2)) (ah (aD (bN (ae 0) ju) (ae 3)) ai))
def wQ(g:Gl)(n:Nat):=(ah (aD (bN (ae 0) fH) (ae 1)) (sr g n))
noncomputable def oQ:Df:=⟨173,[Wg "self"],[Wg "self"],[]⟩
def oR(g:Gl)(n:Nat):=(ah (aO (bA (aC .Eq (aS (ae 0) fH) (af (.int 16384))) (ao .Add (aS (ae 0) bH) (af (.bytes [47]))) (aS (ae 0) bH))) ai)
noncomputable def su:Df:=⟨187,[Wg "self"],[Wg "self"],[]⟩
def sv(g:Gl)(n:Nat):=(ah (aO (ao .Add (ao .Add (ao .Add (ao .Add (ak g n (.ref 201) (aa (aS (ae 0) fH) ag)) (af (.bytes [32]))) (aS (ae 0) bH)) (af (.bytes [0]))) (aS (ae 0) ju))) ai)
noncomputable def lz:Df:=⟨201,[Wg "number"],[Wg "number",Wg "digits"],[]⟩
def jv(g:Gl)(n:Nat):=(ah (aD (aj 0) (ao .FloorDiv (ae 0) (af (.int 8)))) ai)
def jw(g:Gl)(n:Nat):=(ah (fY (av g n aK (ae 1) (aa (ao .Add (af (.int 48)) (ao .Mod (ae 0) (af (.int 8)))) ag))) (jv g n))
def jx(g:Gl)(n:Nat):=(ah (fY (av g n vp (ae 1) ag)) (ah (aO (dn (b1 du) (aa (ae 1) ag))) ai))
def jy(g:Gl)(n:Nat):=(ah (fX (cF (aC .Gt (ae 0) (af (.int 0))) (cF (aC .Eq (dn (b1 c4) (aa (ae 1) ag)) (af (.int 0))) (af (.bool .false)))) (jw g n)) (jx g n))
def lA(g:Gl)(n:Nat):=(ah (aD (aj 1) (dn wx ag)) (jy g n))
noncomputable def j5:Df:=⟨208,[Wg "name"],[Wg "name"],[]⟩
def iS(g:Gl)(n:Nat):=(ah (bA (cu (ak g n (.ref 110) (aa (ae 0) (aa (af (.bytes [47,0])) ag)))) (ah (aO (af (.str [97,32,110,97,109,101,32,119,105,116,104,32,97,32,115,116,114,111,107,101,32,111,114,32,97,32,110,111,117,103,104,116]))) ai) ai) (ah (aO (af .none)) ai))
def iU(g:Gl)(n:Nat):=(ah (bA (aC .Eq (av g n m_lower (ae 0) ag) (af (.bytes [46,103,105,116]))) (ah (aO (af (.str [116,104,101,32,110,97,109,101,32,111,102,32,116,104,101,32,115,116,111,114,101,32,105,116,115,101,108,102]))) ai) ai) (iS g n))
def iV(g:Gl)(n:Nat):=(ah (bA (aC .In (ae 0) (c8 (aa (af (.bytes [46])) (aa (af (.bytes [46,46])) ag)))) (ah (aO (af (.str [97,32,110,97,109,101,32,111,102,32,100,111,116,115]))) ai) ai) (iU g n))
def j6(g:Gl)(n:Nat):=(ah (bA (aC .Eq (ae 0) (af (.bytes []))) (ah (aO (af (.str [97,110,32,101,109,112,116,121,32,110,97,109,101]))) ai) ai) (iV g n))
noncomputable def zB:Df:=⟨222,[Wg "self",Wg "entries"],[Wg "self",Wg "entries"],[]⟩
def zC(g:Gl)(n:Nat):=(ah (aD (bN (ae 0) dN) (ae 1)) ai)
noncomputable def ui:Df:=⟨229,[Wg "self"],[Wg "self",Wg "parts",Wg "entry"],[Wg "parts"]⟩
def qB(g:Gl)(n:Nat):=(ah (fY (av g n aK (ae 1) (aa (av g n df (ae 2) ag) ag))) ai)
def qC(g:Gl)(n:Nat):=(ah (aO (av g n bB (af (.bytes [])) (aa (ae 1) ag))) ai)
def qD(g:Gl)(n:Nat):=(ah (dq (aj 2) (a7 (aS (ae 0) dN)) (qB g n)) (qC g n))
def uj(g:Gl)(n:Nat):=(ah (aD (aj 1) (gy ag)) (qD g n))
noncomputable def zD:Df:=⟨236,[Wg "self",Wg "name"],[Wg "self",Wg "name",Wg "entry"],[]⟩
def uk(g:Gl)(n:Nat):=(ah (bA (aC .Eq (aS (ae 2) bH) (ae 1)) (ah (aO (ae 2)) ai) ai) ai)
def zE(g:Gl)(n:Nat):=(ah (dq (aj 2) (a7 (aS (ae 0) dN)) (uk g n)) (ah (aO (af .none)) ai))
noncomputable def um:Df:=⟨250,[Wg "tree"],[Wg "tree",Wg "found",Wg "known",Wg "ahead",Wg "entry",Wg "odd"],[Wg "found"]⟩
def qE(g:Gl)(n:Nat):=(ah (aD (fW (ae 2) (aS (ae 4) bH)) (af (.bool .true))) (ah (aD (aj 3) (av g n ll (ae 4) ag)) ai))
def qF(g:Gl)(n:Nat):=(ah (bA (cu (ak g n (.ref 117) (aa (aS (ae 4) ju) (aa (af (.bytes [0])) ag)))) (ah (fY (av g n aK (ae 1) (aa (af (.str [97,110,32,105,100,32,111,102,32,110,111,117,103,104,116,115])) ag))) ai) ai) (qE g n))
def qG(g:Gl)(n:Nat):=(ah (bA (aC .In (aS (ae 4) bH) (ae 2)) (ah (fY (av g n aK (ae 1) (aa (af (.str [97,32,110,97,109,101,32,116,119,105,99,101])) ag))) ai) (ah (bA (di (aC .IsNot (ae 3) (af .none)) (di (aC .LtE (av g n ll (ae 4) ag) (ae 3)) (af (.bool .true)))) (ah (fY (av g n aK (ae 1) (aa (af (.str [101,110,116,114,105,101,115,32,111,117,116,32,111,102,32,111,114,100,101,114])) ag))) ai) ai) ai)) (qF g n))
def qH(g:Gl)(n:Nat):=(ah (bA (aC .IsNot (ae 5) (af .none)) (ah (fY (av g n aK (ae 1) (aa (ae 5) ag))) ai) ai) (qG g n))
def qI(g:Gl)(n:Nat):=(ah (aD (aj 5) (ak g n (.ref 208) (aa (aS (ae 4) bH) ag))) (qH g n))
def qJ(g:Gl)(n:Nat):=(ah (bA (aC .NotIn (aS (ae 4) fH) (af (.tup [.int 33188,.int 33261,.int 40960,.int 16384,.int 57344]))) (ah (fY (av g n aK (ae 1) (aa (af (.str [97,32,109,111,100,101,32,116,104,97,116,32,105,115,32,110,111,110,101])) ag))) ai) ai) (qI g n))
def qK(g:Gl)(n:Nat):=(ah (dq (aj 4) (a7 (aS (ae 0) dN)) (qJ g n)) (ah (aO (ae 1)) ai))
def uo(g:Gl)(n:Nat):=(ah (bZ [3,2,1] (aa (gy ag) (aa (sd .b) (aa (af .none) ag)))) (qK g n))
noncomputable def wR:Df:=⟨257,[Wg "tree"],[Wg "tree",Wg "found"],[]⟩
def sx(g:Gl)(n:Nat):=(ah (bA (aC .Gt (dn (b1 c4) (aa (ae 1) ag)) (af (.int 0))) (ah (bj (aQ (ae 1) (af (.int 0)))) ai) ai) ai)
def wU(g:Gl)(n:Nat):=(ah (aD (aj 1) (ak g n (.ref 250) (aa (ae 0) ag))) (sx g n))
noncomputable def oS:Df:=⟨264,[Wg "octets"],[Wg "octets",Wg "mode",Wg "sign"],[]⟩
def lB(g:Gl)(n:Nat):=(ah (aD (aj 1) (ao .Sub (ao .Add (ao .Mult (af (.int 8)) (ae 1)) (ae 2)) (af (.int 48)))) ai)
def lC(g:Gl)(n:Nat):=(ah (bA (di (aC .NotIn (ae 1) (af (.tup [.int 33188,.int 33261,.int 40960,.int 16384,.int 57344]))) (di (aC .NotEq (ae 1) (af (.int 33204))) (af (.bool .true)))) (ah (bj (af (.str [97,32,109,111,100,101,32,116,104,97,116,32,105,115,32,110,111,110,101]))) ai) ai) (ah (aO (ae 1)) ai))
def lD(g:Gl)(n:Nat):=(ah (dq (aj 2) (a7 (ae 0)) (lB g n)) (lC g n))
def oU(g:Gl)(n:Nat):=(ah (bA (cF (aC .Eq (ae 0) (af (.bytes []))) (cF (gx (cu (ak g n (.ref 117) (aa (ae 0) (aa (af (.bytes [48,49,50,51,52,53,54,55])) ag))))) (cF (aC .Eq (aQ (ae 0) (af (.int 0))) (af (.int 48))) (cF (aC .Gt (dn (b1 c4) (aa (ae 0) ag)) (af (.int 6))) (af (.bool .false)))))) (ah (bj (af (.str [97,32,109,111,100,101,32,116,104,97,116,32,105,115,32,119,114,105,116,116,101,110,32,111,116,104,101,114,119,105,115,101]))) ai) ai) (ah (aD (aj 1) (af (.int 0))) (lD g n)))
noncomputable def zF:Df:=⟨271,[Wg "octets",Wg "size"],[Wg "octets",Wg "size",Wg "entries",Wg "at",Wg "blank",Wg "mode",Wg "end"],[Wg "entries"]⟩
def ur(g:Gl)(n:Nat):=(ah (aD (aj 3) (ao .Add (ao .Add (ae 6) (af (.int 1))) (ae 1))) ai)
def uu(g:Gl)(n:Nat):=(ah (fY (av g n aK (ae 2) (aa (ak g n (.ref 190) (aa (ae 5) (aa (bb (ae 0) (ao .Add (ae 4) (af (.int 1))) (ae 6)) (aa (bb (ae 0) (ao .Add (ae 6) (af (.int 1))) (ao .Add (ao .Add (ae 6) (af (.int 1))) (ae 1))) ag)))) ag))) (ur g n))
def uv(g:Gl)(n:Nat):=(ah (bA (aC .Eq (ae 6) (ao .Add (ae 4) (af (.int 1)))) (ah (bj (af (.str [97,110,32,101,109,112,116,121,32,110,97,109,101]))) ai) ai) (uu g n))
def uw(g:Gl)(n:Nat):=(ah (bA (cF (aC .Lt (ae 6) (af (.int 0))) (cF (aC .Gt (ao .Add (ao .Add (ae 6) (af (.int 1))) (ae 1)) (dn (b1 c4) (aa (ae 0) ag))) (af (.bool .false)))) (ah (bj (af (.str [97,32,116,114,101,101,32,99,117,116,32,115,104,111,114,116]))) ai) ai) (uv g n))
def ux(g:Gl)(n:Nat):=(ah (aD (aj 6) (av g n m_find (ae 0) (aa (af (.bytes [0])) (aa (ao .Add (ae 4) (af (.int 1))) ag)))) (uw g n))
def uy(g:Gl)(n:Nat):=(ah (aD (aj 5) (ak g n (.ref 264) (aa (bb (ae 0) (ae 3) (ae 4)) ag))) (ux g n))
def uz(g:Gl)(n:Nat):=(ah (bA (aC .Lt (ae 4) (af (.int 0))) (ah (bj (af (.str [97,32,116,114,101,101,32,99,117,116,32,115,104,111,114,116]))) ai) ai) (uy g n))
def uA(g:Gl)(n:Nat):=(ah (aD (aj 4) (av g n m_find (ae 0) (aa (af (.bytes [32])) (aa (ae 3) ag)))) (uz g n))
def uB(g:Gl)(n:Nat):=(ah (fX (aC .Lt (ae 3) (dn (b1 c4) (aa (ae 0) ag))) (uA g n)) (ah (aO (ak g n (.ref 239) (aa (ae 2) ag))) ai))
def zG(g:Gl)(n:Nat):=(ah (bZ [3,2] (aa (gy ag) (aa (af (.int 0)) ag))) (uB g n))
noncomputable def mL:Df:=⟨278,[Wg "key",Wg "value"],[Wg "key",Wg "value"],[]⟩
def mM(g:Gl)(n:Nat):=(ah (aO (ao .Add (ao .Add (ao .Add (ae 0) (af (.bytes [32]))) (av g n bB (af (.bytes [10,32])) (aa (av g n m_split (ae 1) (aa (af (.bytes [10])) ag)) ag))) (af (.bytes [10])))) ai)
noncomputable def oV:Df:=⟨285,[Wg "octets",Wg "size"],[Wg "octets",Wg "size"],[]⟩
def lE(g:Gl)(n:Nat):=(ah (aO (ak g n (.ref 85) (aa (ak g n (.ref 59) (aa (ae 0) ag)) ag))) ai)
def oW(g:Gl)(n:Nat):=(ah (bA (cF (aC .NotEq (dn (b1 c4) (aa (ae 0) ag)) (ao .Mult (af (.int 2)) (ae 1))) (cF (gx (cu (ak g n (.ref 117) (aa (ae 0) (aa (af (.bytes [48,49,50,51,52,53,54,55,56,57,97,98,99,100,101,102])) ag))))) (af (.bool .false)))) (ah (bj (af (.str [97,110,32,105,100,32,116,104,97,116,32,105,115,32,110,111,110,101]))) ai) ai) (lE g n))
noncomputable def sy:Df:=⟨292,[Wg "octets"],[Wg "octets",Wg "heads",Wg "at",Wg "end",Wg "row",Wg "key",Wg "value",Wg "blank"],[Wg "heads"]⟩
def oX(g:Gl)(n:Nat):=(ah (aD (fW (ae 1) (GK (af (.int 1)))) (c8 (aa (ae 5) (aa (ao .Add (ao .Add (ae 6) (af (.bytes [10]))) (bb (ae 4) (af (.int 1)) (af .none))) ag)))) ai)
def oY(g:Gl)(n:Nat):=(ah (aD (cL 2 [(aj 5),(aj 6)]) (aQ (ae 1) (GK (af (.int 1))))) (oX g n))
def oZ(g:Gl)(n:Nat):=(ah (fY (av g n aK (ae 1) (aa (c8 (aa (bb (ae 4) (af .none) (ae 7)) (aa (bb (ae 4) (ao .Add (ae 7) (af (.int 1))) (af .none)) ag))) ag))) ai)
def pb(g:Gl)(n:Nat):=(ah (bA (aC .Lt (ae 7) (af (.int 1))) (ah (bj (af (.str [97,32,104,101,97,100,32,119,105,116,104,111,117,116,32,97,32,118,97,108,117,101]))) ai) ai) (oZ g n))
def gU(g:Gl)(n:Nat):=(ah (bA (aC .Eq (bb (ae 4) (af .none) (af (.int 1))) (af (.bytes [32]))) (ah (bA (aC .Eq (dn (b1 c4) (aa (ae 1) ag)) (af (.int 0))) (ah (bj (af (.str [97,32,104,101,97,100,32,116,104,97,116,32,103,111,101,115,32,111,110,32,97,110,100,32,104,97,115,32,110,111,116,32,98,101,103,117,110]))) ai) ai) (oY g n)) (ah (aD (aj 7) (av g n m_find (ae 4) (aa (af (.bytes [32])) ag))) (pb g n))) ai)
def pd(g:Gl)(n:Nat):=(ah (bZ [2,4] (aa (bb (ae 0) (ae 2) (ae 3)) (aa (ao .Add (ae 3) (af (.int 1))) ag))) (gU g n))
def pe(g:Gl)(n:Nat):=(ah (bA (aC .Eq (ae 3) (ae 2)) (ah (aO (c8 (aa (ae 1) (aa (bb (ae 0) (ao .Add (ae 3) (af (.int 1))) (af .none)) ag)))) ai) ai) (pd g n))
def pf(g:Gl)(n:Nat):=(ah (bA (aC .Lt (ae 3) (af (.int 0))) (ah (bj (af (.str [104,101,97,100,115,32,119,105,116,104,111,117,116,32,97,110,32,101,110,100]))) ai) ai) (pe g n))
def pg(g:Gl)(n:Nat):=(ah (aD (aj 3) (av g n m_find (ae 0) (aa (af (.bytes [10])) (aa (ae 2) ag)))) (pf g n))
def mN(g:Gl)(n:Nat):=(ah (fX (cu (af (.bool .true))) (pg g n)) ai)
def mO(g:Gl)(n:Nat):=(ah (bZ [2,1] (aa (gy ag) (aa (af (.int 0)) ag))) (mN g n))
def sA(g:Gl)(n:Nat):=(ah (bA (aC .GtE (av g n m_find (ae 0) (aa (af (.bytes [0])) ag)) (af (.int 0))) (ah (bj (af (.str [97,32,110,111,117,103,104,116]))) ai) ai) (mO g n))
noncomputable def iW:Df:=⟨306,[Wg "self",Wg "heads"],[Wg "self",Wg "heads"],[]⟩
def iX(g:Gl)(n:Nat):=(ah (aD (bN (ae 0) gS) (ae 1)) (ah (aD (bN (ae 0) sj) (af (.int 0))) ai))
noncomputable def gz:Df:=⟨313,[Wg "self",Wg "key"],[Wg "self",Wg "key"],[]⟩
def gA(g:Gl)(n:Nat):=(ah (aO (di (aC .Lt (aS (ae 0) sj) (dn (b1 c4) (aa (aS (ae 0) gS) ag))) (aC .Eq (aQ (aQ (aS (ae 0) gS) (aS (ae 0) sj)) (af (.int 0))) (ae 1)))) ai)
noncomputable def iY:Df:=⟨320,[Wg "self",Wg "key"],[Wg "self",Wg "key"],[]⟩
def gV(g:Gl)(n:Nat):=(ah (aO (aQ (aQ (aS (ae 0) gS) (ao .Sub (aS (ae 0) sj) (af (.int 1)))) (af (.int 1)))) ai)
def gW(g:Gl)(n:Nat):=(ah (KQ (ae 0) sj (af (.int 1))) (gV g n))
def iZ(g:Gl)(n:Nat):=(ah (bA (gx (cu (av g n fP (ae 0) (aa (ae 1) ag)))) (ah (bj (ao .Add (ao .Add (af (.str [110,111,32])) (ak g n (.ref 59) (aa (ae 1) ag))) (af (.str [32,105,110,32,105,116,115,32,112,108,97,99,101])))) ai) ai) (gW g n))
noncomputable def i3:Df:=⟨327,[Wg "self"],[Wg "self"],[]⟩
def i4(g:Gl)(n:Nat):=(ah (aO (bb (aS (ae 0) gS) (aS (ae 0) sj) (af .none))) ai)
noncomputable def uC:Df:=⟨348,[Wg "self",Wg "tree",Wg "parents",Wg "author",Wg "committer",Wg "extra",Wg "message"],[Wg "self",Wg "tree",Wg "parents",Wg "author",Wg "committer",Wg "extra",Wg "message"],[]⟩
def qL(g:Gl)(n:Nat):=(ah (aD (bN (ae 0) jt) (ae 5)) (ah (aD (bN (ae 0) cf) (ae 6)) ai))
def qM(g:Gl)(n:Nat):=(ah (aD (bN (ae 0) d5) (ae 4)) (qL g n))
def qN(g:Gl)(n:Nat):=(ah (aD (bN (ae 0) gR) (ae 3)) (qM g n))
def qO(g:Gl)(n:Nat):=(ah (aD (bN (ae 0) f7) (ae 2)) (qN g n))
def uD(g:Gl)(n:Nat):=(ah (aD (bN (ae 0) mB) (ae 1)) (qO g n))
noncomputable def qP:Df:=⟨355,[Wg "self"],[Wg "self",Wg "parts",Wg "oid",Wg "key",Wg "value"],[Wg "parts"]⟩
def mP(g:Gl)(n:Nat):=(ah (fY (av g n aK (ae 1) (aa (ao .Add (ao .Add (af (.bytes [112,97,114,101,110,116,32])) (ak g n (.ref 64) (aa (ak g n (.ref 71) (aa (ae 2) ag)) ag))) (af (.bytes [10]))) ag))) ai)
def mQ(g:Gl)(n:Nat):=(ah (fY (av g n aK (ae 1) (aa (ak g n (.ref 278) (aa (ae 3) (aa (ae 4) ag))) ag))) ai)
def mR(g:Gl)(n:Nat):=(ah (aO (av g n bB (af (.bytes [])) (aa (ae 1) ag))) ai)
def mS(g:Gl)(n:Nat):=(ah (fY (av g n aK (ae 1) (aa (ao .Add (af (.bytes [10])) (aS (ae 0) cf)) ag))) (mR g n))
def mT(g:Gl)(n:Nat):=(ah (dq (cL 2 [(aj 3),(aj 4)]) (a7 (aS (ae 0) jt)) (mQ g n)) (mS g n))
def mU(g:Gl)(n:Nat):=(ah (fY (av g n aK (ae 1) (aa (ao .Add (ao .Add (af (.bytes [99,111,109,109,105,116,116,101,114,32])) (av g n df (aS (ae 0) d5) ag)) (af (.bytes [10]))) ag))) (mT g n))
def mV(g:Gl)(n:Nat):=(ah (fY (av g n aK (ae 1) (aa (ao .Add (ao .Add (af (.bytes [97,117,116,104,111,114,32])) (av g n df (aS (ae 0) gR) ag)) (af (.bytes [10]))) ag))) (mU g n))
def mW(g:Gl)(n:Nat):=(ah (dq (aj 2) (a7 (aS (ae 0) f7)) (mP g n)) (mV g n))
def qQ(g:Gl)(n:Nat):=(ah (aD (aj 1) (gy (aa (ao .Add (ao .Add (af (.bytes [116,114,101,101,32])) (ak g n (.ref 64) (aa (ak g n (.ref 71) (aa (aS (ae 0) mB) ag)) ag))) (af (.bytes [10]))) ag))) (mW g n))
noncomputable def uE:Df:=⟨376,[Wg "octets",Wg "size"],[Wg "octets",Wg "size",Wg "heads",Wg "message",Wg "walk",Wg "tree",Wg "parents",Wg "author",Wg "committer",Wg "key",Wg "value"],[Wg "parents"]⟩
def qR(g:Gl)(n:Nat):=(ah (fY (av g n aK (ae 6) (aa (ak g n (.ref 285) (aa (av g n fg (ae 4) (aa (af (.bytes [112,97,114,101,110,116])) ag)) (aa (ae 1) ag))) ag))) ai)
def qS(g:Gl)(n:Nat):=(ah (bA (aC .In (ae 9) (af (.tup [.bytes [116,114,101,101],.bytes [112,97,114,101,110,116],.bytes [97,117,116,104,111,114],.bytes [99,111,109,109,105,116,116,101,114]]))) (ah (bj (af (.str [97,32,104,101,97,100,32,111,117,116,32,111,102,32,105,116,115,32,112,108,97,99,101]))) ai) ai) ai)
def qT(g:Gl)(n:Nat):=(ah (aO (ak g n (.ref 365) (aa (ae 5) (aa (ae 6) (aa (ae 7) (aa (ae 8) (aa (av g n oL (ae 4) ag) (aa (ae 3) ag)))))))) ai)
def iM(g:Gl)(n:Nat):=(ah (dq (cL 2 [(aj 9),(aj 10)]) (a7 (av g n oL (ae 4) ag)) (qS g n)) (qT g n))
def qU(g:Gl)(n:Nat):=(ah (aD (aj 8) (ak g n (.ref 152) (aa (av g n fg (ae 4) (aa (af (.bytes [99,111,109,109,105,116,116,101,114])) ag)) ag))) (iM g n))
def qV(g:Gl)(n:Nat):=(ah (aD (aj 7) (ak g n (.ref 152) (aa (av g n fg (ae 4) (aa (af (.bytes [97,117,116,104,111,114])) ag)) ag))) (qU g n))
def iN(g:Gl)(n:Nat):=(ah (fX (cu (av g n fP (ae 4) (aa (af (.bytes [112,97,114,101,110,116])) ag))) (qR g n)) (qV g n))
def qW(g:Gl)(n:Nat):=(ah (bZ [6,5] (aa (ak g n (.ref 285) (aa (av g n fg (ae 4) (aa (af (.bytes [116,114,101,101])) ag)) (aa (ae 1) ag))) (aa (gy ag) ag))) (iN g n))
def qX(g:Gl)(n:Nat):=(ah (aD (aj 4) (ak g n (.ref 330) (aa (ae 2) ag))) (qW g n))
def uF(g:Gl)(n:Nat):=(ah (aD (cL 2 [(aj 2),(aj 3)]) (ak g n (.ref 292) (aa (ae 0) ag))) (qX g n))
noncomputable def i5:Df:=⟨383,[Wg "message"],[Wg "message",Wg "found",Wg "at",Wg "opening",Wg "end"],[]⟩
def gX(g:Gl)(n:Nat):=(ah (bA (cu (av g n m_startswith (ae 0) (aa (ae 3) (aa (ae 2) ag)))) (ah (aD (aj 1) (ae 2)) ai) ai) ai)
def gY(g:Gl)(n:Nat):=(ah (aD (aj 2) (bA (aC .Lt (ae 4) (af (.int 0))) (dn (b1 c4) (aa (ae 0) ag)) (ao .Add (ae 4) (af (.int 1))))) ai)
def gZ(g:Gl)(n:Nat):=(ah (aD (aj 4) (av g n m_find (ae 0) (aa (af (.bytes [10])) (aa (ae 2) ag)))) (gY g n))
def g0(g:Gl)(n:Nat):=(ah (dq (aj 3) (a7 (af (.tup [.bytes [45,45,45,45,45,66,69,71,73,78,32,80,71,80,32,83,73,71,78,65,84,85,82,69,45,45,45,45,45],.bytes [45,45,45,45,45,66,69,71,73,78,32,80,71,80,32,77,69,83,83,65,71,69,45,45,45,45,45],.bytes [45,45,45,45,45,66,69,71,73,78,32,83,73,71,78,69,68,32,77,69,83,83,65,71,69,45,45,45,45,45],.bytes [45,45,45,45,45,66,69,71,73,78,32,83,83,72,32,83,73,71,78,65,84,85,82,69,45,45,45,45,45]]))) (gX g n)) (gZ g n))
def g4(g:Gl)(n:Nat):=(ah (fX (aC .Lt (ae 2) (dn (b1 c4) (aa (ae 0) ag))) (g0 g n)) (ah (aO (ae 1)) ai))
def i6(g:Gl)(n:Nat):=(ah (bZ [2,1] (aa (dn (b1 c4) (aa (ae 0) ag)) (aa (af (.int 0)) ag))) (g4 g n))
noncomputable def By:Df:=⟨398,[Wg "self",Wg "target",Wg "kind",Wg "name",Wg "tagger",Wg "message",Wg "signature"],[Wg "self",Wg "target",Wg "kind",Wg "name",Wg "tagger",Wg "message",Wg "signature"],[]⟩
def wV(g:Gl)(n:Nat):=(ah (aD (bN (ae 0) cf) (ae 5)) (ah (aD (bN (ae 0) d6) (ae 6)) ai))
def wW(g:Gl)(n:Nat):=(ah (aD (bN (ae 0) bH) (ae 3)) (ah (aD (bN (ae 0) cV) (ae 4)) (wV g n)))
def Bz(g:Gl)(n:Nat):=(ah (aD (bN (ae 0) fO) (ae 1)) (ah (aD (bN (ae 0) jS) (ae 2)) (wW g n)))
noncomputable def mX:Df:=⟨405,[Wg "self"],[Wg "self",Wg "parts"],[Wg "parts"]⟩
def j7(g:Gl)(n:Nat):=(ah (aO (av g n bB (af (.bytes [])) (aa (ae 1) ag))) ai)
def fu(g:Gl)(n:Nat):=(ah (fY (av g n aK (ae 1) (aa (ao .Add (af (.bytes [10])) (aS (ae 0) cf)) ag))) (j7 g n))
def j8(g:Gl)(n:Nat):=(ah (bA (aC .IsNot (aS (ae 0) cV) (af .none)) (ah (fY (av g n aK (ae 1) (aa (ao .Add (ao .Add (af (.bytes [116,97,103,103,101,114,32])) (av g n df (aS (ae 0) cV) ag)) (af (.bytes [10]))) ag))) ai) ai) (fu g n))
def j9(g:Gl)(n:Nat):=(ah (fY (av g n aK (ae 1) (aa (ao .Add (ao .Add (af (.bytes [116,97,103,32])) (aS (ae 0) bH)) (af (.bytes [10]))) ag))) (j8 g n))
def ka(g:Gl)(n:Nat):=(ah (fY (av g n aK (ae 1) (aa (ao .Add (ao .Add (af (.bytes [116,121,112,101,32])) (aS (ae 0) jS)) (af (.bytes [10]))) ag))) (j9 g n))
def mY(g:Gl)(n:Nat):=(ah (aD (aj 1) (gy (aa (ao .Add (ao .Add (af (.bytes [111,98,106,101,99,116,32])) (ak g n (.ref 64) (aa (ak g n (.ref 71) (aa (aS (ae 0) fO) ag)) ag))) (af (.bytes [10]))) ag))) (ka g n))
noncomputable def wX:Df:=⟨412,[Wg "self"],[Wg "self"],[]⟩
def wY(g:Gl)(n:Nat):=(ah (aO (ao .Add (av g n kP (ae 0) ag) (aS (ae 0) d6))) ai)
noncomputable def BA:Df:=⟨426,[Wg "octets",Wg "size"],[Wg "octets",Wg "size",Wg "heads",Wg "message",Wg "walk",Wg "target",Wg "kind",Wg "name",Wg "tagger",Wg "at"],[]⟩
def wZ(g:Gl)(n:Nat):=(ah (aO (ak g n (.ref 415) (aa (ae 5) (aa (ae 6) (aa (ae 7) (aa (ae 8) (aa (bb (ae 3) (af .none) (ae 9)) (aa (bb (ae 3) (ae 9) (af .none)) ag)))))))) ai)
def w0(g:Gl)(n:Nat):=(ah (aD (aj 9) (ak g n (.ref 383) (aa (ae 3) ag))) (wZ g n))
def mZ(g:Gl)(n:Nat):=(ah (bA (aC .Gt (dn (b1 c4) (aa (av g n oL (ae 4) ag) ag)) (af (.int 0))) (ah (bj (af (.str [97,32,104,101,97,100,32,111,117,116,32,111,102,32,105,116,115,32,112,108,97,99,101]))) ai) ai) (w0 g n))
def w9(g:Gl)(n:Nat):=(ah (aD (aj 8) (bA (cu (av g n fP (ae 4) (aa (af (.bytes [116,97,103,103,101,114])) ag))) (ak g n (.ref 152) (aa (av g n fg (ae 4) (aa (af (.bytes [116,97,103,103,101,114])) ag)) ag)) (af .none))) (mZ g n))
def xa(g:Gl)(n:Nat):=(ah (bA (cF (aC .Eq (ae 7) (af (.bytes []))) (cF (aC .GtE (av g n m_find (ae 7) (aa (af (.bytes [10])) ag)) (af (.int 0))) (af (.bool .false)))) (ah (bj (af (.str [97,32,116,97,103,32,119,105,116,104,111,117,116,32,97,32,110,97,109,101]))) ai) ai) (w9 g n))
def m3(g:Gl)(n:Nat):=(ah (bA (aC .NotIn (ae 6) (af (.tup [.bytes [98,108,111,98],.bytes [116,114,101,101],.bytes [99,111,109,109,105,116],.bytes [116,97,103]]))) (ah (bj (af (.str [97,32,107,105,110,100,32,116,104,97,116,32,105,115,32,110,111,110,101]))) ai) ai) (xa g n))
def xb(g:Gl)(n:Nat):=(ah (bZ [7,6,5] (aa (ak g n (.ref 285) (aa (av g n fg (ae 4) (aa (af (.bytes [111,98,106,101,99,116])) ag)) (aa (ae 1) ag))) (aa (av g n fg (ae 4) (aa (af (.bytes [116,121,112,101])) ag)) (aa (av g n fg (ae 4) (aa (af (.bytes [116,97,103])) ag)) ag)))) (m3 g n))
def xc(g:Gl)(n:Nat):=(ah (aD (aj 4) (ak g n (.ref 330) (aa (ae 2) ag))) (xb g n))
def BB(g:Gl)(n:Nat):=(ah (aD (cL 2 [(aj 2),(aj 3)]) (ak g n (.ref 292) (aa (ae 0) ag))) (xc g n))
noncomputable def uG:Df:=⟨433,[Wg "kind",Wg "octets",Wg "size"],[Wg "kind",Wg "octets",Wg "size"],[]⟩
def qY(g:Gl)(n:Nat):=(ah (bA (aC .NotEq (ae 0) (af (.bytes [98,108,111,98]))) (ah (bj (af (.str [97,32,107,105,110,100,32,116,104,97,116,32,105,115,32,110,111,110,101]))) ai) ai) (ah (aO (ae 1)) ai))
def qZ(g:Gl)(n:Nat):=(ah (bA (aC .Eq (ae 0) (af (.bytes [116,97,103]))) (ah (aO (ak g n (.ref 426) (aa (ae 1) (aa (ae 2) ag)))) ai) ai) (qY g n))
def q0(g:Gl)(n:Nat):=(ah (bA (aC .Eq (ae 0) (af (.bytes [99,111,109,109,105,116]))) (ah (aO (ak g n (.ref 376) (aa (ae 1) (aa (ae 2) ag)))) ai) ai) (qZ g n))
def uH(g:Gl)(n:Nat):=(ah (bA (aC .Eq (ae 0) (af (.bytes [116,114,101,101]))) (ah (aO (ak g n (.ref 271) (aa (ae 1) (aa (ae 2) ag)))) ai) ai) (q0 g n))
noncomputable def q7:Df:=⟨440,[Wg "kind",Wg "content"],[Wg "kind",Wg "content"],[]⟩
def q8(g:Gl)(n:Nat):=(ah (aO (ao .Add (ao .Add (ao .Add (ao .Add (ae 0) (af (.bytes [32]))) (ak g n (.ref 64) (aa (dn (b1 EH) (aa (dn (b1 c4) (aa (ae 1) ag)) ag)) ag))) (af (.bytes [0]))) (ae 1))) ai)
noncomputable def sC:Df:=⟨447,[Wg "octets"],[Wg "octets",Wg "end",Wg "blank",Wg "kind",Wg "many"],[]⟩
def ph(g:Gl)(n:Nat):=(ah (aO (c8 (aa (ae 3) (aa (bb (ae 0) (ao .Add (ae 1) (af (.int 1))) (af .none)) ag)))) ai)
def pj(g:Gl)(n:Nat):=(ah (bA (cF (aC .Is (ae 4) (af .none)) (cF (aC .NotEq (ae 4) (ao .Sub (ao .Sub (dn (b1 c4) (aa (ae 0) ag)) (ae 1)) (af (.int 1)))) (af (.bool .false)))) (ah (bj (af (.str [97,32,108,101,110,103,116,104,32,116,104,97,116,32,105,115,32,97,110,111,116,104,101,114,32,111,110,101]))) ai) ai) (ph g n))
def g5(g:Gl)(n:Nat):=(ah (bA (aC .NotIn (ae 3) (af (.tup [.bytes [98,108,111,98],.bytes [116,114,101,101],.bytes [99,111,109,109,105,116],.bytes [116,97,103]]))) (ah (bj (af (.str [97,32,107,105,110,100,32,116,104,97,116,32,105,115,32,110,111,110,101]))) ai) ai) (pj g n))
def pk(g:Gl)(n:Nat):=(ah (bZ [4,3] (aa (bb (ae 0) (af .none) (ae 2)) (aa (ak g n (.ref 99) (aa (bb (ae 0) (ao .Add (ae 2) (af (.int 1))) (ae 1)) ag)) ag))) (g5 g n))
def pn(g:Gl)(n:Nat):=(ah (bA (cF (aC .Lt (ae 1) (af (.int 0))) (cF (aC .Lt (ae 2) (af (.int 0))) (cF (aC .Gt (ae 2) (ae 1)) (af (.bool .false))))) (ah (bj (af (.str [97,110,32,111,98,106,101,99,116,32,119,105,116,104,111,117,116,32,97,32,104,101,97,100]))) ai) ai) (pk g n))
def pq(g:Gl)(n:Nat):=(ah (aD (aj 2) (av g n m_find (ae 0) (aa (af (.bytes [32])) ag))) (pn g n))
def sD(g:Gl)(n:Nat):=(ah (aD (aj 1) (av g n m_find (ae 0) (aa (af (.bytes [0])) ag))) (pq g n))
noncomputable def xd:Df:=⟨452,[Wg "text"],[Wg "text"],[]⟩
def xe(g:Gl)(n:Nat):=(ah (aO (dn (b1 du) (aa (a8 2 [] (hZ (aj 1) j2 (dn (b1 K2) (aa (ae 1) ag))) (a7 (ae 0))) ag))) ai)
noncomputable def sE:Df:=⟨457,[Wg "octets"],[Wg "octets"],[]⟩
def sF(g:Gl)(n:Nat):=(ah (aO (av g n bB (af (.str [])) (aa (a8 2 [] (hZ (aj 1) j2 (dn (b1 K3) (aa (ae 1) ag))) (a7 (ae 0))) ag))) ai)
noncomputable def BC:Df:=⟨462,[Wg "script"],[Wg "script",Wg "cells",Wg "mixed",Wg "cell"],[]⟩
def xf(g:Gl)(n:Nat):=(ah (aD (aj 2) (ao .Mod (ao .Add (ao .Add (ao .Mult (ae 2) (af (.int 48271))) (ao .Mod (ae 3) (af (.int 2147483629)))) (af (.int 404))) (af (.int 2147483587)))) ai)
def xg(g:Gl)(n:Nat):=(ah (aO (qb .s (aa (af (.str [99,101,108,108,115])) (aa (KP (ae 1)) (aa (af (.str [109,105,120,101,100])) (aa (ae 2) (aa (af (.str [116,117,114,110])) (aa (af (.int 0)) ag)))))))) ai)
def xh(g:Gl)(n:Nat):=(ah (dq (aj 3) (a7 (ae 1)) (xf g n)) (xg g n))
def BD(g:Gl)(n:Nat):=(ah (bZ [2,1] (aa (a8 2 [] (hZ (aj 1) j2 (dn (b1 K4) (aa (ae 1) ag))) (a7 (bb (ae 0) (af .none) (af (.int 8))))) (aa (af (.int 404)) ag))) (xh g n))
noncomputable def BE:Df:=⟨469,[Wg "deck",Wg "below"],[Wg "deck",Wg "below",Wg "figure",Wg "cell"],[]⟩
def xk(g:Gl)(n:Nat):=(ah (aD (aj 2) (ao .Add (ae 2) (ao .Mod (ae 3) (af (.int 2147483563))))) ai)
def m4(g:Gl)(n:Nat):=(ah (bA (aC .GtE (ae 3) (af (.int 1000000))) (ah (fY (av g n aK (aQ (ae 0) (af (.str [99,101,108,108,115]))) (aa (ao .FloorDiv (ae 3) (ae 1)) ag))) (ah (aO (ao .Mod (ae 3) (ae 1))) ai)) ai) (xk g n))
def xl(g:Gl)(n:Nat):=(ah (aO (ao .Mod (ao .FloorDiv (ao .Mod (ao .Mult (ae 2) (af (.int 39373))) (af (.int 2147483579))) (af (.int 64))) (ae 1))) ai)
def xm(g:Gl)(n:Nat):=(ah (aD (aj 2) (ao .Mod (ao .Add (ao .Mult (ae 2) (ae 2)) (af (.int 404))) (af (.int 2147483587)))) (xl g n))
def ia(g:Gl)(n:Nat):=(ah (aD (aj 2) (ao .Mod (ao .Mult (ao .Mod (ae 2) (af (.int 2147483629))) (af (.int 40692))) (af (.int 2147483647)))) (xm g n))
def xn(g:Gl)(n:Nat):=(ah (bA (aC .NotEq (aQ (ae 0) (af (.str [99,101,108,108,115]))) (bp ag)) (ah (aD (aj 3) (av g n Dq (aQ (ae 0) (af (.str [99,101,108,108,115]))) ag)) (m4 g n)) ai) (ia g n))
def xo(g:Gl)(n:Nat):=(ah (aD (aj 2) (ao .Add (aQ (ae 0) (af (.str [109,105,120,101,100]))) (ao .Mult (ao .Mult (af (.int 60404)) (aQ (ae 0) (af (.str [116,117,114,110])))) (aQ (ae 0) (af (.str [116,117,114,110])))))) (xn g n))
def BF(g:Gl)(n:Nat):=(ah (aD (fW (ae 0) (af (.str [116,117,114,110]))) (ao .Add (aQ (ae 0) (af (.str [116,117,114,110]))) (af (.int 1)))) (xo g n))
noncomputable def BG:Df:=⟨476,[Wg "deck",Wg "some"],[Wg "deck",Wg "some"],[]⟩
def BH(g:Gl)(n:Nat):=(ah (aO (aQ (ae 1) (ak g n (.ref 469) (aa (ae 0) (aa (dn (b1 c4) (aa (ae 1) ag)) ag))))) ai)
noncomputable def FD:Df:=⟨481,[Wg "oid"],[Wg "oid",Wg "signs"],[]⟩
def zH(g:Gl)(n:Nat):=(ah (aO (dn (b1 du) (aa (a8 3 [1] (fV (aj 1) (aj 2) (a7 (c8 (aa (af (.int 0)) (aa (af (.int 1)) ag)))) (aQ (ae 3) (ao .Add (ao .Mult (ao .FloorDiv (ae 1) (af (.int 16))) (ao .Sub (af (.int 1)) (ae 2))) (ao .Mult (ao .Mod (ae 1) (af (.int 16))) (ae 2))))) (a7 (ae 0))) ag))) ai)
def FE(g:Gl)(n:Nat):=(ah (aD (aj 1) (af (.bytes [48,49,50,51,52,53,54,55,56,57,97,98,99,100,101,102]))) (zH g n))
noncomputable def FG:Df:=⟨486,[Wg "deck",Wg "size"],[Wg "deck",Wg "size"],[]⟩
def FH(g:Gl)(n:Nat):=(ah (aO (dn (b1 du) (aa (ao .Add (bp (aa (af (.int 171)) ag)) (a8 2 [0] (hZ (aj 1) j2 (ao .Add (af (.int 1)) (ak g n (.ref 469) (aa (ae 2) (aa (af (.int 255)) ag))))) (da (aa (ao .Sub (ae 1) (af (.int 1))) ag)))) ag))) ai)
noncomputable def zI:Df:=⟨493,[Wg "kind",Wg "octets",Wg "size"],[Wg "kind",Wg "octets",Wg "size",Wg "found"],[]⟩
def uI(g:Gl)(n:Nat):=(ah (vY (ah (aD (aj 3) (ak g n (.ref 433) (aa (ae 0) (aa (ae 1) (aa (ae 2) ag))))) ai) 3 (.str [98,97,100])) (ah (aO (ae 3)) ai))
def zJ(g:Gl)(n:Nat):=(ah (aD (aj 3) (af (.str [98,97,100]))) (uI g n))
noncomputable def BI:Df:=⟨500,[Wg "deck",Wg "octets",Wg "most"],[Wg "deck",Wg "octets",Wg "most",Wg "at",Wg "way",Wg "fresh"],[]⟩
def xp(g:Gl)(n:Nat):=(ah (aO (bA (aC .Eq (ae 4) (af (.int 1))) (ao .Add (bb (ae 1) (af .none) (ae 3)) (bb (ae 1) (ao .Add (ae 3) (af (.int 1))) (af .none))) (ao .Add (ao .Add (bb (ae 1) (af .none) (ae 3)) (ae 5)) (bb (ae 1) (ae 3) (af .none))))) ai)
def xq(g:Gl)(n:Nat):=(ah (bA (aC .Eq (ae 4) (af (.int 0))) (ah (aO (ao .Add (ao .Add (bb (ae 1) (af .none) (ae 3)) (ae 5)) (bb (ae 1) (ao .Add (ae 3) (af (.int 1))) (af .none)))) ai) ai) (xp g n))
def xr(g:Gl)(n:Nat):=(ah (aD (aj 5) (dn (b1 du) (aa (bp (aa (bA (aC .Gt (ak g n (.ref 469) (aa (ae 0) (aa (af (.int 3)) ag))) (af (.int 0))) (ak g n (.ref 476) (aa (ae 0) (aa (af (.bytes [0,32,47,48,49,52,57,97,98,103,46,10,65,71])) ag))) (ak g n (.ref 469) (aa (ae 0) (aa (af (.int 256)) ag)))) ag)) ag))) (xq g n))
def BJ(g:Gl)(n:Nat):=(ah (bZ [4,3] (aa (ak g n (.ref 469) (aa (ae 0) (aa (ae 2) ag))) (aa (ak g n (.ref 469) (aa (ae 0) (aa (af (.int 3)) ag))) ag))) (xr g n))
noncomputable def xt:Df:=⟨505,[Wg "octets"],[Wg "octets",Wg "found",Wg "sign"],[]⟩
def sH(g:Gl)(n:Nat):=(ah (aD (aj 1) (ao .Sub (ao .Add (ao .Mult (af (.int 10)) (ae 1)) (ae 2)) (af (.int 48)))) ai)
def sI(g:Gl)(n:Nat):=(ah (dq (aj 2) (a7 (ae 0)) (sH g n)) (ah (aO (ae 1)) ai))
def xu(g:Gl)(n:Nat):=(ah (bA (cF (aC .Eq (ae 0) (af (.bytes []))) (cF (di (aC .Gt (dn (b1 c4) (aa (ae 0) ag)) (af (.int 1))) (di (aC .Eq (bb (ae 0) (af .none) (af (.int 1))) (af (.bytes [48]))) (af (.bool .true)))) (cF (aC .NotEq (a8 2 [] (hZ (aj 1) (gx (rT .LtE .LtE (af (.int 48)) (ae 1) (af (.int 57)))) (ae 1)) (a7 (ae 0))) (bp ag)) (af (.bool .false))))) (ah (aO (af .none)) ai) ai) (ah (aD (aj 1) (af (.int 0))) (sI g n)))
noncomputable def zK:Df:=⟨512,[Wg "octets"],[Wg "octets",Wg "at",Wg "words"],[]⟩
def uJ(g:Gl)(n:Nat):=(ah (aO (bA (aC .Eq (ak g n (.ref 505) (aa (aQ (ae 2) (af (.int 1))) ag)) (ao .Sub (ao .Sub (dn (b1 c4) (aa (ae 0) ag)) (ae 1)) (af (.int 1)))) (c8 (aa (aQ (ae 2) (af (.int 0))) (aa (bb (ae 0) (ao .Add (ae 1) (af (.int 1))) (af .none)) ag))) (af .none))) ai)
def kQ(g:Gl)(n:Nat):=(ah (bA (cF (aC .NotEq (dn (b1 c4) (aa (ae 2) ag)) (af (.int 2))) (cF (aC .NotIn (aQ (ae 2) (af (.int 0))) (c8 (aa (af (.bytes [98,108,111,98])) (aa (af (.bytes [116,114,101,101])) (aa (af (.bytes [99,111,109,109,105,116])) (aa (af (.bytes [116,97,103])) ag)))))) (af (.bool .false)))) (ah (aO (af .none)) ai) ai) (uJ g n))
def uK(g:Gl)(n:Nat):=(ah (aD (aj 2) (bA (aC .GtE (ae 1) (af (.int 0))) (av g n m_split (bb (ae 0) (af .none) (ae 1)) (aa (af (.bytes [32])) ag)) (bp ag))) (kQ g n))
def zL(g:Gl)(n:Nat):=(ah (aD (aj 1) (av g n m_find (ae 0) (aa (af (.bytes [0])) ag))) (uK g n))
noncomputable def pv:Df:=⟨519,[Wg "octets"],[Wg "octets",Wg "found"],[]⟩
def lF(g:Gl)(n:Nat):=(ah (vY (ah (aD (aj 1) (dn (b1 wd) (aa (ak g n (.ref 447) (aa (ae 0) ag)) ag))) ai) 1 .none) (ah (aO (ae 1)) ai))
def px(g:Gl)(n:Nat):=(ah (aD (aj 1) (af .none)) (lF g n))
noncomputable def m6:Df:=⟨524,[Wg "deck",Wg "size"],[Wg "deck",Wg "size",Wg "kind",Wg "size_now",Wg "content",Wg "octets",Wg "turn",Wg "some"],[]⟩
def ke(g:Gl)(n:Nat):=(ah (bA (aC .NotEq (ak g n (.ref 519) (aa (ae 7) ag)) (ak g n (.ref 512) (aa (ae 7) ag))) (ah (aO (af (.bool .false))) ai) ai) ai)
def kg(g:Gl)(n:Nat):=(ah (aD (aj 7) (ak g n (.ref 500) (aa (ae 0) (aa (ae 5) (aa (ao .Add (ao .Sub (dn (b1 c4) (aa (ae 5) ag)) (ae 3)) (af (.int 1))) ag))))) (ke g n))
def fv(g:Gl)(n:Nat):=(ah (dq (aj 6) (da (aa (af (.int 2)) ag)) (kg g n)) (ah (aO (af (.bool .true))) ai))
def kh(g:Gl)(n:Nat):=(ah (bA (cF (aC .NotEq (ak g n (.ref 433) (aa (af (.bytes [98,108,111,98])) (aa (ae 4) (aa (ae 1) ag)))) (ae 4)) (cF (aC .NotEq (ak g n (.ref 493) (aa (af (.bytes [116,104,105,110,103])) (aa (ae 4) (aa (ae 1) ag)))) (af (.str [98,97,100]))) (af (.bool .false)))) (ah (aO (af (.bool .false))) ai) ai) (fv g n))
def ki(g:Gl)(n:Nat):=(ah (bA (cF (aC .NotEq (ak g n (.ref 440) (aa (ae 2) (aa (ae 4) ag))) (ae 5)) (cF (aC .NotEq (ak g n (.ref 519) (aa (ae 5) ag)) (c8 (aa (ae 2) (aa (ae 4) ag)))) (af (.bool .false)))) (ah (aO (af (.bool .false))) ai) ai) (kh g n))
def kj(g:Gl)(n:Nat):=(ah (aD (aj 5) (ao .Add (ao .Add (ao .Add (ao .Add (ae 2) (af (.bytes [32]))) (ak g n (.ref 452) (aa (dn (b1 EH) (aa (ae 3) ag)) ag))) (af (.bytes [0]))) (ae 4))) (ki g n))
def kl(g:Gl)(n:Nat):=(ah (aD (aj 4) (dn (b1 du) (aa (a8 2 [0] (hZ (aj 1) j2 (ak g n (.ref 476) (aa (ae 2) (aa (af (.bytes [0,97,32,49])) ag)))) (da (aa (ae 3) ag))) ag))) (kj g n))
def m7(g:Gl)(n:Nat):=(ah (bZ [3,2] (aa (ak g n (.ref 476) (aa (ae 0) (aa (bp (aa (af (.bytes [98,108,111,98])) (aa (af (.bytes [116,114,101,101])) (aa (af (.bytes [99,111,109,109,105,116])) (aa (af (.bytes [116,97,103])) ag))))) ag))) (aa (ak g n (.ref 476) (aa (ae 0) (aa (bp (aa (af (.int 0)) (aa (af (.int 1)) (aa (af (.int 3)) (aa (af (.int 9)) (aa (af (.int 10)) (aa (af (.int 12)) ag))))))) ag))) ag))) (kl g n))
noncomputable def q9:Df:=⟨531,[Wg "deck",Wg "oid"],[Wg "deck",Wg "oid",Wg "page",Wg "at",Wg "some",Wg "found"],[]⟩
def m9(g:Gl)(n:Nat):=(ah (bA (aC .IsNot (ae 5) (af .none)) (ah (aO (af (.bool .false))) ai) ai) ai)
def nc(g:Gl)(n:Nat):=(ah (vY (ah (aD (aj 5) (ak g n (.ref 85) (aa (ae 4) ag))) ai) 5 .none) (m9 g n))
def gs(g:Gl)(n:Nat):=(ah (dq (aj 4) (a7 (c8 (aa (ao .Add (bb (ae 2) (af .none) (ae 3)) (bb (ae 2) (ao .Add (ae 3) (af (.int 1))) (af .none))) (aa (ao .Add (ao .Add (bb (ae 2) (af .none) (ae 3)) (af (.str [103]))) (bb (ae 2) (ao .Add (ae 3) (af (.int 1))) (af .none))) (aa (ao .Add (ae 2) (af (.str [45]))) ag))))) (ah (aD (aj 5) (af .none)) (nc g n))) (ah (aO (af (.bool .true))) ai))
def ng(g:Gl)(n:Nat):=(ah (aD (aj 3) (ak g n (.ref 469) (aa (ae 0) (aa (dn (b1 c4) (aa (ae 2) ag)) ag)))) (gs g n))
def ni(g:Gl)(n:Nat):=(ah (bA (cF (aC .NotEq (ak g n (.ref 71) (aa (ae 1) ag)) (ae 2)) (cF (aC .NotEq (ak g n (.ref 85) (aa (ae 2) ag)) (ae 1)) (cF (aC .NotEq (ak g n (.ref 85) (aa (av g n m_upper (ae 2) ag) ag)) (ae 1)) (af (.bool .false))))) (ah (aO (af (.bool .false))) ai) ai) (ng g n))
def ra(g:Gl)(n:Nat):=(ah (aD (aj 2) (ak g n (.ref 457) (aa (ak g n (.ref 481) (aa (ae 1) ag)) ag))) (ni g n))
noncomputable def BK:Df:=⟨538,[Wg "octets",Wg "size"],[Wg "octets",Wg "size",Wg "modes",Wg "found",Wg "at",Wg "blank",Wg "nought"],[Wg "found"]⟩
def xv(g:Gl)(n:Nat):=(ah (aD (aj 4) (ao .Add (ao .Add (ae 6) (af (.int 1))) (ae 1))) ai)
def xw(g:Gl)(n:Nat):=(ah (fY (av g n aK (ae 3) (aa (c8 (aa (aQ (ae 2) (bb (ae 0) (ae 4) (ae 5))) (aa (bb (ae 0) (ao .Add (ae 5) (af (.int 1))) (ae 6)) (aa (bb (ae 0) (ao .Add (ae 6) (af (.int 1))) (ao .Add (ao .Add (ae 6) (af (.int 1))) (ae 1))) ag)))) ag))) (xv g n))
def xx(g:Gl)(n:Nat):=(ah (bA (cF (aC .Lt (ae 6) (af (.int 0))) (cF (aC .NotIn (bb (ae 0) (ae 4) (ae 5)) (ae 2)) (cF (aC .Eq (ae 6) (ao .Add (ae 5) (af (.int 1)))) (cF (aC .Gt (ao .Add (ao .Add (ae 6) (af (.int 1))) (ae 1)) (dn (b1 c4) (aa (ae 0) ag))) (af (.bool .false)))))) (ah (aO (af .none)) ai) ai) (xw g n))
def xy(g:Gl)(n:Nat):=(ah (aD (aj 6) (bA (aC .GtE (ae 5) (af (.int 0))) (av g n m_find (ae 0) (aa (af (.bytes [0])) (aa (ae 5) ag))) (GK (af (.int 1))))) (xx g n))
def xA(g:Gl)(n:Nat):=(ah (aD (aj 5) (av g n m_find (ae 0) (aa (af (.bytes [32])) (aa (ae 4) ag)))) (xy g n))
def xB(g:Gl)(n:Nat):=(ah (fX (aC .Lt (ae 4) (dn (b1 c4) (aa (ae 0) ag))) (xA g n)) (ah (aO (ae 3)) ai))
def nj(g:Gl)(n:Nat):=(ah (bZ [4,3] (aa (gy ag) (aa (af (.int 0)) ag))) (xB g n))
def xC(g:Gl)(n:Nat):=(ah (aD (fW (ae 2) (af (.bytes [49,48,48,54,54,52]))) (af (.int 33204))) (nj g n))
def BL(g:Gl)(n:Nat):=(ah (aD (aj 2) (qb .b (aa (af (.bytes [49,48,48,54,52,52])) (aa (af (.int 33188)) (aa (af (.bytes [49,48,48,55,53,53])) (aa (af (.int 33261)) (aa (af (.bytes [49,50,48,48,48,48])) (aa (af (.int 40960)) (aa (af (.bytes [52,48,48,48,48])) (aa (af (.int 16384)) (aa (af (.bytes [49,54,48,48,48,48])) (aa (af (.int 57344)) ag)))))))))))) (xC g n))
noncomputable def FI:Df:=⟨545,[Wg "row"],[Wg "row"],[]⟩
def FJ(g:Gl)(n:Nat):=(ah (aO (bA (aC .Eq (aQ (ae 0) (af (.int 0))) (af (.int 16384))) (ao .Add (aQ (ae 0) (af (.int 1))) (af (.bytes [47]))) (aQ (ae 0) (af (.int 1))))) ai)
noncomputable def uL:Df:=⟨550,[Wg "rows"],[Wg "rows",Wg "names_now",Wg "bad"],[]⟩
def rb(g:Gl)(n:Nat):=(ah (aO (di (aC .Eq (ae 2) (bp ag)) (aC .NotIn (af (.int 33204)) (a8 2 [] (hZ (aj 1) j2 (aQ (ae 1) (af (.int 0)))) (a7 (ae 0)))))) ai)
def rd(g:Gl)(n:Nat):=(ah (aD (aj 2) (a8 2 [] (hZ (aj 1) (cF (aC .In (af (.bytes [47])) (ae 1)) (cF (aC .In (ae 1) (c8 (aa (af (.bytes [46])) (aa (af (.bytes [46,46])) ag)))) (cF (aC .Eq (av g n m_lower (ae 1) ag) (af (.bytes [46,103,105,116]))) (af (.bool .false))))) (ae 1)) (a7 (ae 1)))) (rb g n))
def rf(g:Gl)(n:Nat):=(ah (bA (cF (aC .NotEq (de (ae 1)) (dn (b1 hV) (aa (ae 1) ag))) (cF (aC .NotEq (a8 2 [] (hZ (aj 1) j2 (ak g n (.ref 545) (aa (ae 1) ag))) (a7 (ae 0))) (dn (b1 hV) (aa (a8 2 [] (hZ (aj 1) j2 (ak g n (.ref 545) (aa (ae 1) ag))) (a7 (ae 0))) ag))) (af (.bool .false)))) (ah (aO (af (.bool .false))) ai) ai) (rd g n))
def uM(g:Gl)(n:Nat):=(ah (aD (aj 1) (a8 2 [] (hZ (aj 1) j2 (aQ (ae 1) (af (.int 1)))) (a7 (ae 0)))) (rf g n))
noncomputable def pz:Df:=⟨555,[Wg "octets",Wg "size"],[Wg "octets",Wg "size",Wg "rows",Wg "it",Wg "made",Wg "is_fit",Wg "told"],[]⟩
def lH(g:Gl)(n:Nat):=(ah (aO (di (aC .Is (av g n m_find (ae 3) (aa (af (.bytes [110,111,116,104,105,110,103])) ag)) (af .none)) (aC .Eq (a8 2 [] (hZ (aj 1) j2 (c8 (aa (aS (ae 1) fH) (aa (aS (ae 1) bH) (aa (aS (ae 1) ju) ag))))) (a7 (ae 6))) (ae 2)))) ai)
def f9(g:Gl)(n:Nat):=(ah (aD (aj 6) (a8 2 [3] (hZ (aj 1) j2 (av g n m_find (ae 2) (aa (aQ (ae 1) (af (.int 1))) ag))) (a7 (ae 2)))) (lH g n))
def lI(g:Gl)(n:Nat):=(ah (bA (gx (cu (ae 5))) (ah (aO (af (.bool .true))) ai) ai) (f9 g n))
def gb(g:Gl)(n:Nat):=(ah (bA (cF (aC .NotEq (av g n df (ae 4) ag) (ae 0)) (cF (aC .NotEq (ae 5) (ak g n (.ref 550) (aa (ae 2) ag))) (af (.bool .false)))) (ah (aO (af (.bool .false))) ai) ai) (lI g n))
def lJ(g:Gl)(n:Nat):=(ah (vY (ah (fY (ak g n (.ref 257) (aa (ae 3) ag))) ai) 5 (.bool .false)) (gb g n))
def gc(g:Gl)(n:Nat):=(ah (bZ [5,4] (aa (ak g n (.ref 239) (aa (a8 2 [] (hZ (aj 1) j2 (ak g n (.ref 190) (aa (aQ (ae 1) (af (.int 0))) (aa (aQ (ae 1) (af (.int 1))) (aa (aQ (ae 1) (af (.int 2))) ag))))) (a7 (ae 2))) ag)) (aa (af (.bool .true)) ag))) (lJ g n))
def lK(g:Gl)(n:Nat):=(ah (bA (cF (aC .NotEq (a8 2 [] (hZ (aj 1) j2 (c8 (aa (aS (ae 1) fH) (aa (aS (ae 1) bH) (aa (aS (ae 1) ju) ag))))) (a7 (aS (ae 3) dN))) (ae 2)) (cF (aC .NotEq (av g n df (ae 3) ag) (ae 0)) (af (.bool .false)))) (ah (aO (af (.bool .false))) ai) ai) (gc g n))
def lL(g:Gl)(n:Nat):=(ah (bA (cF (aC .Is (ae 2) (af .none)) (cF (aC .Eq (ae 3) (af (.str [98,97,100]))) (af (.bool .false)))) (ah (aO (di (aC .Is (ae 2) (af .none)) (aC .Eq (ae 3) (af (.str [98,97,100]))))) ai) ai) (lK g n))
def pA(g:Gl)(n:Nat):=(ah (aD (cL 2 [(aj 2),(aj 3)]) (c8 (aa (ak g n (.ref 538) (aa (ae 0) (aa (ae 1) ag))) (aa (ak g n (.ref 493) (aa (af (.bytes [116,114,101,101])) (aa (ae 0) (aa (ae 1) ag)))) ag)))) (lL g n))
noncomputable def nk:Df:=⟨560,[Wg "deck",Wg "size"],[Wg "deck",Wg "size",Wg "rows",Wg "texts",Wg "turn",Wg "mode",Wg "name",Wg "octets",Wg "row",Wg "some"],[Wg "rows",Wg "some"]⟩
def km(g:Gl)(n:Nat):=(ah (fY (av g n aK (ae 2) (aa (c8 (aa (ae 5) (aa (ae 6) (aa (ak g n (.ref 486) (aa (ae 0) (aa (ae 1) ag))) ag)))) ag))) ai)
def ko(g:Gl)(n:Nat):=(ah (aD (aj 6) (ak g n (.ref 476) (aa (ae 0) (aa (bp (aa (af (.bytes [97])) (aa (af (.bytes [97,46,98])) (aa (af (.bytes [97,45])) (aa (af (.bytes [97,98])) (aa (af (.bytes [98])) (aa (af (.bytes [97,48])) (aa (af (.bytes [255])) (aa (af (.bytes [99,32,100])) (aa (bA (aC .Gt (ae 4) (af (.int 0))) (af (.bytes [46,46,46])) (af (.bytes [46,71,105,116]))) ag)))))))))) ag)))) (km g n))
def fw(g:Gl)(n:Nat):=(ah (aD (aj 5) (ak g n (.ref 476) (aa (ae 0) (aa (bp (aa (af (.int 33188)) (aa (af (.int 16384)) (aa (af (.int 16384)) (aa (af (.int 33261)) (aa (af (.int 40960)) (aa (af (.int 57344)) (aa (bA (aC .Eq (ae 4) (af (.int 2))) (af (.int 33204)) (af (.int 33188))) ag)))))))) ag)))) (ko g n))
def fx(g:Gl)(n:Nat):=(ah (aD (aj 7) (ao .Add (ao .Add (ao .Add (ao .Add (ao .Add (ae 7) (av g n Iw (ae 3) (aa (aQ (ae 8) (af (.int 0))) (aa (af (.bytes [49,48,48,54,52,52])) ag)))) (af (.bytes [32]))) (aQ (ae 8) (af (.int 1)))) (af (.bytes [0]))) (aQ (ae 8) (af (.int 2))))) ai)
def kq(g:Gl)(n:Nat):=(ah (fY (av g n aK (ae 9) (aa (ak g n (.ref 500) (aa (ae 0) (aa (ae 7) (aa (dn (b1 c4) (aa (ae 7) ag)) ag)))) ag))) ai)
def ku(g:Gl)(n:Nat):=(ah (aO (aC .Eq (a8 2 [1] (hZ (aj 1) (gx (cu (ak g n (.ref 555) (aa (ae 1) (aa (ae 2) ag))))) (ae 1)) (a7 (ae 9))) (bp ag))) ai)
def kx(g:Gl)(n:Nat):=(ah (dq (aj 4) (da (aa (bA (aC .NotEq (ae 7) (af (.bytes []))) (af (.int 2)) (af (.int 0))) ag)) (kq g n)) (ku g n))
def dv(g:Gl)(n:Nat):=(ah (aD (aj 9) (gy (aa (ae 7) ag))) (kx g n))
def fy(g:Gl)(n:Nat):=(ah (dq (aj 8) (a7 (ae 2)) (fx g n)) (dv g n))
def eY(g:Gl)(n:Nat):=(ah (aD (aj 2) (bA (aC .Gt (ak g n (.ref 469) (aa (ae 0) (aa (af (.int 5)) ag))) (af (.int 0))) (eW g n (.ref 545) (aa (ae 2) ag)) (ae 2))) (ah (aD (aj 7) (af (.bytes []))) (fy g n)))
def jz(g:Gl)(n:Nat):=(ah (dq (aj 4) (da (aa (ak g n (.ref 469) (aa (ae 0) (aa (af (.int 4)) ag))) ag)) (fw g n)) (eY g n))
def nq(g:Gl)(n:Nat):=(ah (bZ [3,2] (aa (gy ag) (aa (qb .i (aa (af (.int 16384)) (aa (af (.bytes [52,48,48,48,48])) (aa (af (.int 40960)) (aa (af (.bytes [49,50,48,48,48,48])) (aa (af (.int 57344)) (aa (af (.bytes [49,54,48,48,48,48])) (aa (af (.int 33261)) (aa (af (.bytes [49,48,48,55,53,53])) (aa (af (.int 33204)) (aa (af (.bytes [49,48,48,54,54,52])) ag))))))))))) ag))) (jz g n))
noncomputable def xD:Df:=⟨567,[Wg "deck"],[Wg "deck",Wg "name",Wg "email",Wg "when"],[]⟩
def sJ(g:Gl)(n:Nat):=(ah (aO (c8 (aa (ae 1) (aa (ae 2) (aa (ae 3) (aa (ak g n (.ref 476) (aa (ae 0) (aa (bp (aa (af (.bytes [43,48,48,48,48])) (aa (af (.bytes [45,48,49,51,48])) (aa (af (.bytes [43,49,50,52,53])) ag)))) ag))) ag)))))) ai)
def sL(g:Gl)(n:Nat):=(ah (aD (aj 3) (ak g n (.ref 476) (aa (ae 0) (aa (bp (aa (af (.int 0)) (aa (af (.int 1)) (aa (af (.int 1234567890)) (aa (ao .Pow (af (.int 10)) (af (.int 12))) ag))))) ag)))) (sJ g n))
def xE(g:Gl)(n:Nat):=(ah (bZ [2,1] (aa (ak g n (.ref 476) (aa (ae 0) (aa (bp (aa (af (.bytes [65])) (aa (af (.bytes [65,110,110,32,66,46,32,67,101,101])) (aa (af (.bytes [195,169])) (aa (af (.bytes [])) ag))))) ag))) (aa (ak g n (.ref 476) (aa (ae 0) (aa (bp (aa (af (.bytes [97,64,98])) (aa (af (.bytes [120,32,121])) (aa (af (.bytes [97,110,110,64,99,46,100])) ag)))) ag))) ag))) (sL g n))
noncomputable def pB:Df:=⟨574,[Wg "it"],[Wg "it"],[]⟩
def pC(g:Gl)(n:Nat):=(ah (aO (ao .Add (ao .Add (ao .Add (ao .Add (ao .Add (ao .Add (aQ (ae 0) (af (.int 0))) (af (.bytes [32,60]))) (aQ (ae 0) (af (.int 1)))) (af (.bytes [62,32]))) (ak g n (.ref 452) (aa (dn (b1 EH) (aa (aQ (ae 0) (af (.int 2))) ag)) ag))) (af (.bytes [32]))) (aQ (ae 0) (af (.int 3))))) ai)
noncomputable def zM:Df:=⟨581,[Wg "person"],[Wg "person"],[]⟩
def zN(g:Gl)(n:Nat):=(ah (aO (c8 (aa (aS (ae 0) bH) (aa (aS (ae 0) js) (aa (aS (ae 0) mC) (aa (aS (ae 0) mD) ag)))))) ai)
noncomputable def BN:Df:=⟨588,[Wg "it"],[Wg "it"],[]⟩
def BO(g:Gl)(n:Nat):=(ah (aO (ak g n (.ref 141) (aa (aQ (ae 0) (af (.int 0))) (aa (aQ (ae 0) (af (.int 1))) (aa (aQ (ae 0) (af (.int 2))) (aa (aQ (ae 0) (af (.int 3))) ag)))))) ai)
noncomputable def pD:Df:=⟨595,[Wg "deck"],[Wg "deck",Wg "some"],[]⟩
def lM(g:Gl)(n:Nat):=(ah (aO (ak g n (.ref 476) (aa (ae 0) (aa (ae 1) ag)))) ai)
def lO(g:Gl)(n:Nat):=(ah (aD (aj 1) (ao .Add (ae 1) (bp (aa (af (.bytes [65,32,60,97,64,98,62,32,49])) (aa (af (.bytes [65,32,60,97,0,98,62,32,49,32,43,48,48,48,48])) ag))))) (lM g n))
def lP(g:Gl)(n:Nat):=(ah (aD (aj 1) (ao .Add (ae 1) (bp (aa (af (.bytes [65,32,60,97,64,98,62,32,48,49,32,43,48,48,48,48])) (aa (af (.bytes [65,32,60,97,64,98,62,32,49,32,48,48,48,48])) (aa (af (.bytes [65,32,60,97,64,98,62,32,49,32,43,48,48,48])) (aa (af (.bytes [65,32,60,97,64,98,62,32,49,32,43,48,48,48,48,48])) (aa (af (.bytes [65,32,60,97,64,98,62,32,49,32,43,48,97,48,48])) ag)))))))) (lO g n))
def pE(g:Gl)(n:Nat):=(ah (aD (aj 1) (bp (aa (af (.bytes [65,32,97,64,98,62,32,49,32,43,48,48,48,48])) (aa (af (.bytes [65,32,60,97,64,98,32,49,32,43,48,48,48,48])) (aa (af (.bytes [65,32,60,97,64,98,62,32,43,48,48,48,48])) (aa (af (.bytes [65,32,60,97,64,98,62,32,120,32,43,48,48,48,48])) (aa (af (.bytes [65,32,60,97,64,98,62,32,45,49,32,43,48,48,48,48])) ag))))))) (lP g n))
noncomputable def xF:Df:=⟨602,[Wg "deck",Wg "oid"],[Wg "deck",Wg "oid",Wg "page",Wg "at",Wg "some"],[]⟩
def sM(g:Gl)(n:Nat):=(ah (aO (ak g n (.ref 476) (aa (ae 0) (aa (ae 4) ag)))) ai)
def sN(g:Gl)(n:Nat):=(ah (aD (aj 4) (bp (aa (ao .Add (bb (ae 2) (af .none) (ae 3)) (bb (ae 2) (ao .Add (ae 3) (af (.int 1))) (af .none))) (aa (ao .Add (ae 2) (af (.bytes [48]))) (aa (av g n m_upper (ae 2) ag) (aa (ao .Add (ao .Add (bb (ae 2) (af .none) (ae 3)) (af (.bytes [103]))) (bb (ae 2) (ao .Add (ae 3) (af (.int 1))) (af .none))) (aa (ao .Add (af (.bytes [32])) (ae 2)) (aa (af (.bytes [])) ag)))))))) (sM g n))
def sP(g:Gl)(n:Nat):=(ah (aD (aj 3) (ak g n (.ref 469) (aa (ae 0) (aa (dn (b1 c4) (aa (ae 2) ag)) ag)))) (sN g n))
def xG(g:Gl)(n:Nat):=(ah (aD (aj 2) (ak g n (.ref 481) (aa (ae 1) ag))) (sP g n))
noncomputable def xH:Df:=⟨609,[Wg "deck",Wg "rows",Wg "order"],[Wg "deck",Wg "rows",Wg "order",Wg "at",Wg "way",Wg "mate",Wg "some"],[]⟩
def sQ(g:Gl)(n:Nat):=(ah (aD (cL 2 [(fW (ae 6) (ae 3)),(fW (ae 6) (ae 5))]) (c8 (aa (aQ (ae 1) (ae 5)) (aa (aQ (ae 1) (ae 3)) ag)))) (ah (aO (ae 6)) ai))
def sR(g:Gl)(n:Nat):=(ah (aD (aj 6) (dn (b1 CS) (aa (ae 1) ag))) (sQ g n))
def jA(g:Gl)(n:Nat):=(ah (aD (aj 5) (ao .Mod (ao .Add (ae 3) (af (.int 1))) (ae 2))) (sR g n))
def sS(g:Gl)(n:Nat):=(ah (bA (aC .Eq (ae 4) (af (.int 1))) (ah (aO (ao .Add (bb (ae 1) (af .none) (ao .Add (ae 3) (af (.int 1)))) (bb (ae 1) (ae 3) (af .none)))) ai) ai) (jA g n))
def sT(g:Gl)(n:Nat):=(ah (bA (aC .Eq (ae 4) (af (.int 0))) (ah (aO (ao .Add (bb (ae 1) (af .none) (ae 3)) (bb (ae 1) (ao .Add (ae 3) (af (.int 1))) (af .none)))) ai) ai) (sS g n))
def sU(g:Gl)(n:Nat):=(ah (aD (aj 4) (ak g n (.ref 469) (aa (ae 0) (aa (af (.int 3)) ag)))) (sT g n))
def xI(g:Gl)(n:Nat):=(ah (aD (aj 3) (ak g n (.ref 469) (aa (ae 0) (aa (ae 2) ag)))) (sU g n))
noncomputable def ky:Df:=⟨614,[Wg "deck",Wg "size"],[Wg "deck",Wg "size",Wg "tree",Wg "parents_now",Wg "author",Wg "committer",Wg "extra",Wg "message",Wg "fixed",Wg "middle",Wg "tail",Wg "octets",Wg "it",Wg "ends",Wg "odd"],[Wg "odd"]⟩
def eE(g:Gl)(n:Nat):=(ah (aO (aC .Eq (a8 2 [1] (hZ (aj 1) (aC .NotEq (ak g n (.ref 493) (aa (af (.bytes [99,111,109,109,105,116])) (aa (ae 1) (aa (ae 2) ag)))) (af (.str [98,97,100]))) (ae 1)) (a7 (a8 2 [0,14] (hZ (aj 1) j2 (ak g n (.ref 476) (aa (ae 2) (aa (ae 3) ag)))) (da (aa (af (.int 3)) ag))))) (bp ag))) ai)
def i7(g:Gl)(n:Nat):=(ah (aD (aj 14) (ao .Add (ae 14) (bp (aa (ao .Add (av g n bB (af (.bytes [10])) (aa (ao .Add (ae 8) (bp (aa (af (.bytes [32,109,111,114,101])) ag))) ag)) (ae 13)) (aa (ao .Add (av g n bB (af (.bytes [10])) (aa (ae 8) ag)) (af (.bytes [10,10,97,0,98]))) (aa (af (.bytes [])) (aa (ae 7) ag))))))) (eE g n))
def i8(g:Gl)(n:Nat):=(ah (fY (av g n aK (ae 14) (aa (ao .Add (av g n bB (af (.bytes [10])) (aa (ao .Add (ae 8) (bp (aa (ak g n (.ref 476) (aa (ae 0) (aa (ae 8) ag))) ag))) ag)) (ae 13)) ag))) (i7 g n))
def i9(g:Gl)(n:Nat):=(ah (fY (av g n aK (ae 14) (aa (ao .Add (av g n bB (af (.bytes [10])) (aa (ao .Add (ao .Add (bb (ae 8) (af .none) (af (.int 2))) (bp (aa (ao .Add (af (.bytes [112,97,114,101,110,116,32])) (ak g n (.ref 481) (aa (ae 2) ag))) ag))) (bb (ae 8) (af (.int 2)) (af .none))) ag)) (ae 13)) ag))) (i8 g n))
def ja(g:Gl)(n:Nat):=(ah (fY (av g n aK (ae 14) (aa (ao .Add (av g n bB (af (.bytes [10])) (aa (ao .Add (bb (ae 8) (af .none) (af (.int 2))) (bp (aa (ao .Add (af (.bytes [99,111,109,109,105,116,116,101,114,32])) (ak g n (.ref 595) (aa (ae 0) ag))) ag))) ag)) (ae 13)) ag))) (i9 g n))
def jb(g:Gl)(n:Nat):=(ah (fY (av g n aK (ae 14) (aa (ao .Add (av g n bB (af (.bytes [10])) (aa (ao .Add (ao .Add (bb (ae 8) (af .none) (af (.int 1))) (bp (aa (ao .Add (af (.bytes [97,117,116,104,111,114,32])) (ak g n (.ref 595) (aa (ae 0) ag))) ag))) (bb (ae 8) (af (.int 2)) (af .none))) ag)) (ae 13)) ag))) (ja g n))
def jc(g:Gl)(n:Nat):=(ah (fY (av g n aK (ae 14) (aa (ao .Add (av g n bB (af (.bytes [10])) (aa (ao .Add (ao .Add (ao .Add (bb (ae 8) (af .none) (af (.int 1))) (ae 9)) (bp (aa (ao .Add (af (.bytes [112,97,114,101,110,116,32])) (ak g n (.ref 602) (aa (ae 0) (aa (ae 2) ag)))) ag))) (bb (ae 8) (af (.int 1)) (af .none))) ag)) (ae 13)) ag))) (jb g n))
def jd(g:Gl)(n:Nat):=(ah (fY (av g n aK (ae 14) (aa (ao .Add (av g n bB (af (.bytes [10])) (aa (ao .Add (bp (aa (ao .Add (af (.bytes [116,114,101,101,32])) (ak g n (.ref 602) (aa (ae 0) (aa (ae 2) ag)))) ag)) (bb (ae 8) (af (.int 1)) (af .none))) ag)) (ae 13)) ag))) (jc g n))
def je(g:Gl)(n:Nat):=(ah (aD (aj 14) (gy (aa (ao .Add (av g n bB (af (.bytes [10])) (aa (ak g n (.ref 609) (aa (ae 0) (aa (ae 8) (aa (af (.int 3)) ag)))) ag)) (ae 13)) (aa (av g n bB (af (.bytes [10])) (aa (ae 8) ag)) (aa (ao .Add (av g n bB (af (.bytes [10])) (aa (ae 8) ag)) (af (.bytes [10]))) ag))))) (jd g n))
def bT(g:Gl)(n:Nat):=(ah (aD (aj 13) (ao .Add (af (.bytes [10,10])) (ae 7))) (je g n))
def ib(g:Gl)(n:Nat):=(ah (bA (aC .NotEq (av g n df (ak g n (.ref 365) (aa (ae 2) (aa (ae 3) (aa (ak g n (.ref 588) (aa (ae 4) ag)) (aa (ak g n (.ref 588) (aa (ae 5) ag)) (aa (ae 6) (aa (ae 7) ag))))))) ag) (ae 11)) (ah (aO (af (.bool .false))) ai) ai) (bT g n))
def ic(g:Gl)(n:Nat):=(ah (bA (cF (aC .NotEq (bp (aa (ak g n (.ref 581) (aa (aS (ae 12) gR) ag)) (aa (ak g n (.ref 581) (aa (aS (ae 12) d5) ag)) ag))) (bp (aa (ae 4) (aa (ae 5) ag)))) (cF (aC .NotEq (a8 2 [] (hZ (aj 1) j2 (dn (b1 wd) (aa (ae 1) ag))) (a7 (aS (ae 12) jt))) (ae 6)) (af (.bool .false)))) (ah (aO (af (.bool .false))) ai) ai) (ib g n))
def ie(g:Gl)(n:Nat):=(ah (bA (cF (aC .Eq (ae 12) (af (.str [98,97,100]))) (cF (aC .NotEq (av g n df (ae 12) ag) (ae 11)) (cF (aC .NotEq (bp (aa (aS (ae 12) mB) (aa (dn (b1 CS) (aa (aS (ae 12) f7) ag)) (aa (aS (ae 12) cf) ag)))) (bp (aa (ae 2) (aa (ae 3) (aa (ae 7) ag))))) (af (.bool .false))))) (ah (aO (af (.bool .false))) ai) ai) (ic g n))
def d7(g:Gl)(n:Nat):=(ah (aD (aj 12) (ak g n (.ref 493) (aa (af (.bytes [99,111,109,109,105,116])) (aa (ae 11) (aa (ae 1) ag))))) (ie g n))
def ig(g:Gl)(n:Nat):=(ah (aD (aj 11) (ao .Add (ao .Add (av g n bB (af (.bytes [10])) (aa (ao .Add (ao .Add (ao .Add (bb (ae 8) (af .none) (af (.int 1))) (ae 9)) (bb (ae 8) (af (.int 1)) (af .none))) (ae 10)) ag)) (af (.bytes [10,10]))) (ae 7))) (d7 g n))
def ij(g:Gl)(n:Nat):=(ah (aD (aj 10) (a8 3 [] (hZ (cL 2 [(aj 1),(aj 2)]) j2 (ao .Add (ao .Add (ae 1) (af (.bytes [32]))) (av g n m_replace (ae 2) (aa (af (.bytes [10])) (aa (af (.bytes [10,32])) ag))))) (a7 (ae 6)))) (ig g n))
def ik(g:Gl)(n:Nat):=(ah (aD (aj 9) (a8 2 [] (hZ (aj 1) j2 (ao .Add (af (.bytes [112,97,114,101,110,116,32])) (ak g n (.ref 481) (aa (ae 1) ag)))) (a7 (ae 3)))) (ij g n))
def cM(g:Gl)(n:Nat):=(ah (aD (aj 8) (bp (aa (ao .Add (af (.bytes [116,114,101,101,32])) (ak g n (.ref 481) (aa (ae 2) ag))) (aa (ao .Add (af (.bytes [97,117,116,104,111,114,32])) (ak g n (.ref 574) (aa (ae 4) ag))) (aa (ao .Add (af (.bytes [99,111,109,109,105,116,116,101,114,32])) (ak g n (.ref 574) (aa (ae 5) ag))) ag))))) (ik g n))
def ip(g:Gl)(n:Nat):=(ah (aD (aj 7) (ak g n (.ref 476) (aa (ae 0) (aa (bp (aa (af (.bytes [])) (aa (af (.bytes [111,110,101,10])) (aa (af (.bytes [111,110,101,10,10,116,119,111,32,116,104,114,101,101])) (aa (af (.bytes [10])) (aa (af (.bytes [97,10,98,10,10])) ag)))))) ag)))) (cM g n))
def iq(g:Gl)(n:Nat):=(ah (aD (aj 6) (ao .Add (ao .Mult (bp (aa (c8 (aa (af (.bytes [101,110,99,111,100,105,110,103])) (aa (af (.bytes [108,97,116,105,110,49])) ag))) ag)) (ak g n (.ref 469) (aa (ae 0) (aa (af (.int 2)) ag)))) (ao .Mult (bp (aa (c8 (aa (af (.bytes [110,111,116,101,45,120])) (aa (af (.bytes [111,110,101,10,116,119,111,10,10,102,111,117,114])) ag))) ag)) (ak g n (.ref 469) (aa (ae 0) (aa (af (.int 2)) ag)))))) (ip g n))
def ir(g:Gl)(n:Nat):=(ah (bZ [5,4] (aa (ak g n (.ref 567) (aa (ae 0) ag)) (aa (ak g n (.ref 567) (aa (ae 0) ag)) ag))) (iq g n))
def fz(g:Gl)(n:Nat):=(ah (bZ [3,2] (aa (ak g n (.ref 486) (aa (ae 0) (aa (ae 1) ag))) (aa (a8 2 [0,1] (hZ (aj 1) j2 (ak g n (.ref 486) (aa (ae 2) (aa (ae 3) ag)))) (da (aa (ak g n (.ref 469) (aa (ae 0) (aa (af (.int 3)) ag))) ag))) ag))) (ir g n))
noncomputable def pF:Df:=⟨619,[Wg "deck",Wg "size"],[Wg "deck",Wg "size",Wg "goal",Wg "kind",Wg "name",Wg "person",Wg "message",Wg "fixed",Wg "is_signed_by",Wg "rows",Wg "octets",Wg "it",Wg "tagger",Wg "odd"],[Wg "odd"]⟩
def lQ(g:Gl)(n:Nat):=(ah (bA (cF (di (cu (ae 8)) (di (aC .NotEq (ak g n (.ref 581) (aa (aS (ae 11) cV) ag)) (ae 5)) (af (.bool .true)))) (cF (di (gx (cu (ae 8))) (di (aC .IsNot (aS (ae 11) cV) (af .none)) (af (.bool .true)))) (af (.bool .false)))) (ah (aO (af (.bool .false))) ai) ai) ai)
def lR(g:Gl)(n:Nat):=(ah (bA (aC .NotEq (av g n df (ak g n (.ref 415) (aa (ae 2) (aa (ae 3) (aa (ae 4) (aa (ae 12) (aa (ae 6) ag)))))) ag) (ae 10)) (ah (aO (af (.bool .false))) ai) ai) (lQ g n))
def lT(g:Gl)(n:Nat):=(ah (aD (aj 12) (bA (cu (ae 8)) (ak g n (.ref 588) (aa (ae 5) ag)) (af .none))) (lR g n))
def lU(g:Gl)(n:Nat):=(ah (bA (cF (aC .Eq (ae 11) (af (.str [98,97,100]))) (cF (aC .NotEq (av g n df (ae 11) ag) (ae 10)) (cF (aC .NotEq (bp (aa (aS (ae 11) fO) (aa (aS (ae 11) jS) (aa (aS (ae 11) bH) (aa (aS (ae 11) cf) ag))))) (bp (aa (ae 2) (aa (ae 3) (aa (ae 4) (aa (ae 6) ag)))))) (af (.bool .false))))) (ah (aO (af (.bool .false))) ai) ai) (lT g n))
def lV(g:Gl)(n:Nat):=(ah (aD (aj 11) (ak g n (.ref 493) (aa (af (.bytes [116,97,103])) (aa (ae 10) (aa (ae 1) ag))))) (lU g n))
def lW(g:Gl)(n:Nat):=(ah (aD (aj 10) (ao .Add (ao .Add (av g n bB (af (.bytes [10])) (aa (ae 9) ag)) (af (.bytes [10,10]))) (ae 6))) (lV g n))
def dO(g:Gl)(n:Nat):=(ah (aD (aj 9) (ao .Add (ae 7) (ao .Mult (bp (aa (ao .Add (af (.bytes [116,97,103,103,101,114,32])) (ak g n (.ref 574) (aa (ae 5) ag))) ag)) (dn (b1 K4) (aa (ae 8) ag))))) (lW g n))
def lX(g:Gl)(n:Nat):=(ah (aO (aC .Eq (a8 2 [1] (hZ (aj 1) (aC .NotEq (ak g n (.ref 493) (aa (af (.bytes [116,97,103])) (aa (ae 1) (aa (ae 2) ag)))) (af (.str [98,97,100]))) (ae 1)) (a7 (a8 2 [0,13] (hZ (aj 1) j2 (ak g n (.ref 476) (aa (ae 2) (aa (ae 3) ag)))) (da (aa (af (.int 3)) ag))))) (bp ag))) ai)
def lY(g:Gl)(n:Nat):=(ah (fY (av g n aK (ae 13) (aa (ao .Add (av g n bB (af (.bytes [10])) (aa (ao .Add (ae 7) (bp (aa (ao .Add (af (.bytes [116,97,103,103,101,114,32])) (ak g n (.ref 595) (aa (ae 0) ag))) ag))) ag)) (af (.bytes [10,10,109]))) ag))) (lX g n))
def kz(g:Gl)(n:Nat):=(ah (fY (av g n aK (ae 13) (aa (ao .Add (av g n bB (af (.bytes [10])) (aa (ao .Add (ao .Add (bb (ae 7) (af .none) (af (.int 1))) (bp (aa (ao .Add (af (.bytes [116,121,112,101,32])) (ak g n (.ref 476) (aa (ae 0) (aa (bp (aa (af (.bytes [116,104,105,110,103])) (aa (af (.bytes [])) (aa (af (.bytes [67,111,109,109,105,116])) ag)))) ag)))) ag))) (bb (ae 7) (af (.int 2)) (af .none))) ag)) (af (.bytes [10,10,109]))) ag))) (lY g n))
def kB(g:Gl)(n:Nat):=(ah (fY (av g n aK (ae 13) (aa (ao .Add (av g n bB (af (.bytes [10])) (aa (ao .Add (bp (aa (ao .Add (af (.bytes [111,98,106,101,99,116,32])) (ak g n (.ref 602) (aa (ae 0) (aa (ae 2) ag)))) ag)) (bb (ae 7) (af (.int 1)) (af .none))) ag)) (af (.bytes [10,10,109]))) ag))) (kz g n))
def dw(g:Gl)(n:Nat):=(ah (aD (aj 13) (gy (aa (ao .Add (av g n bB (af (.bytes [10])) (aa (ak g n (.ref 609) (aa (ae 0) (aa (ae 7) (aa (af (.int 3)) ag)))) ag)) (af (.bytes [10,10,109]))) (aa (av g n bB (af (.bytes [10])) (aa (ae 7) ag)) (aa (ao .Add (av g n bB (af (.bytes [10])) (aa (ae 7) ag)) (af (.bytes [10,10,109,0]))) ag))))) (kB g n))
def fA(g:Gl)(n:Nat):=(ah (dq (aj 8) (a7 (bp (aa (aC .Eq (ak g n (.ref 469) (aa (ae 0) (aa (af (.int 2)) ag))) (af (.int 0))) ag))) (dO g n)) (dw g n))
def kC(g:Gl)(n:Nat):=(ah (aD (aj 7) (bp (aa (ao .Add (af (.bytes [111,98,106,101,99,116,32])) (ak g n (.ref 481) (aa (ae 2) ag))) (aa (ao .Add (af (.bytes [116,121,112,101,32])) (ae 3)) (aa (ao .Add (af (.bytes [116,97,103,32])) (ae 4)) ag))))) (fA g n))
def kD(g:Gl)(n:Nat):=(ah (aD (aj 6) (ak g n (.ref 476) (aa (ae 0) (aa (bp (aa (af (.bytes [])) (aa (af (.bytes [111,110,101,10])) (aa (af (.bytes [111,110,101,10,10,116,119,111])) ag)))) ag)))) (kC g n))
def kE(g:Gl)(n:Nat):=(ah (bZ [5,4] (aa (ak g n (.ref 476) (aa (ae 0) (aa (bp (aa (af (.bytes [118,49])) (aa (af (.bytes [97,47,98])) ag))) ag))) (aa (ak g n (.ref 567) (aa (ae 0) ag)) ag))) (kD g n))
def pG(g:Gl)(n:Nat):=(ah (bZ [3,2] (aa (ak g n (.ref 486) (aa (ae 0) (aa (ae 1) ag))) (aa (ak g n (.ref 476) (aa (ae 0) (aa (bp (aa (af (.bytes [99,111,109,109,105,116])) (aa (af (.bytes [116,114,101,101])) (aa (af (.bytes [98,108,111,98])) (aa (af (.bytes [116,97,103])) ag))))) ag))) ag))) (kE g n))
noncomputable def sV:Df:=⟨626,[Wg "script"],[Wg "script",Wg "deck",Wg "size",Wg "way",Wg "rows",Wg "octets"],[]⟩
def LQ(g:Gl)(n:Nat):=(ah (aO (di (aC .Eq (ak g n (.ref 538) (aa (ae 5) (aa (ae 2) ag))) (ae 4)) (ak g n (.ref 555) (aa (ae 5) (aa (ae 2) ag))))) ai)
def LS(g:Gl)(n:Nat):=(ah (aD (aj 5) (ao .Add (ao .Add (ao .Add (ao .Add (ao .Add (af (.bytes [49,48,48,54,52,52,32,97,0])) (aQ (aQ (ae 4) (af (.int 0))) (af (.int 2)))) (af (.bytes [49,48,48,54,52,52,32,97,46,98,0]))) (aQ (aQ (ae 4) (af (.int 1))) (af (.int 2)))) (af (.bytes [52,48,48,48,48,32,97,0]))) (aQ (aQ (ae 4) (af (.int 2))) (af (.int 2))))) (LQ g n))
def Du(g:Gl)(n:Nat):=(ah (aD (aj 4) (bp (aa (c8 (aa (af (.int 33188)) (aa (af (.bytes [97])) (aa (ao .Mult (af (.bytes [1])) (ae 2)) ag)))) (aa (c8 (aa (af (.int 33188)) (aa (af (.bytes [97,46,98])) (aa (ao .Mult (af (.bytes [2])) (ae 2)) ag)))) (aa (c8 (aa (af (.int 16384)) (aa (af (.bytes [97])) (aa (ao .Mult (af (.bytes [3])) (ae 2)) ag)))) ag))))) (LS g n))
def LU(g:Gl)(n:Nat):=(ah (bA (cF (di (aC .Eq (ae 3) (af (.int 0))) (di (gx (cu (ak g n (.ref 614) (aa (ae 1) (aa (ae 2) ag))))) (af (.bool .true)))) (cF (di (aC .Eq (ae 3) (af (.int 1))) (di (gx (cu (ak g n (.ref 619) (aa (ae 1) (aa (ae 2) ag))))) (af (.bool .true)))) (af (.bool .false)))) (ah (aO (af (.bool .false))) ai) ai) (Du g n))
def LV(g:Gl)(n:Nat):=(ah (aD (aj 3) (ak g n (.ref 469) (aa (ae 1) (aa (af (.int 2)) ag)))) (LU g n))
def LW(g:Gl)(n:Nat):=(ah (bA (cF (gx (cu (ak g n (.ref 560) (aa (ae 1) (aa (ae 2) ag))))) (cF (gx (cu (ak g n (.ref 524) (aa (ae 1) (aa (ae 2) ag))))) (cF (gx (cu (ak g n (.ref 531) (aa (ae 1) (aa (ak g n (.ref 486) (aa (ae 1) (aa (ae 2) ag))) ag))))) (af (.bool .false))))) (ah (aO (af (.bool .false))) ai) ai) (LV g n))
def Dv(g:Gl)(n:Nat):=(ah (aD (aj 2) (ak g n (.ref 476) (aa (ae 1) (aa (bp (aa (af (.int 2)) (aa (af (.int 2)) (aa (af (.int 4)) ag)))) ag)))) (LW g n))
def NV(g:Gl)(n:Nat):=(ah (aD (aj 1) (ak g n (.ref 462) (aa (ae 0) ag))) (Dv g n))
theorem KE(h1:c=true->t)(d:c=false->f):br c t f:=by
 cases c with
 |true=>exact h1 rfl
 |false=>exact d rfl
theorem VO(h:c=true)(k:t):br c t f:=by rw[h];exact k
theorem Vn(h:c=false)(k:f):br c t f:=by rw[h];exact k
theorem az(e:o=some a)(h:k a):dS o k:=by rw[e];exact h
theorem Sub.rfl:Sub h h:=λ_ _ e=>e
theorem Sub.upd(e:h c=none):Sub h (upd h c o):=λa b q=>(aE λz=>by rw[z,e]at q;cases q).trans q
noncomputable def cy(r:Option V)(Q:V->AH->Prop)(X:AH->Prop)(h:AH):Prop:=Xa (motive:=λ_=>Prop) r (X h) λv=>Q v h
abbrev cS(g:Gl)(n:Nat)(a:Addr)(vs:List V)(r:Option V):Prop:=∀{Q:V->AH->Prop} {X:AH->Prop} {h:AH},cy r Q X h->bW g n (.ref a) vs Q X h
abbrev dE(Q:V->AH->Prop):V->St->Prop:=λfl st=>Fin Q (EM fl) st.h
abbrev bz(X:AH->Prop):St->Prop:=λst=>yQ X st.h
theorem fJ(q:X h):yQ X h:=⟨h,Sub.rfl,q⟩
theorem eF(s:Sub h1 h)(q:X h1):yQ X h:=⟨h1,s,q⟩
theorem bc(q:Q v h):Fin Q v h:=.mk Sub.rfl q
theorem VQ(e:r=some v)(q:Q v h):cy r Q X h:=by rw[e];exact q
theorem VS(e:r=none)(q:X h):cy r Q X h:=by rw[e];exact q
theorem VT(h1:∀v,r=some v->Q v h)(d:r=none->X h):cy r Q X h:=by
 cases r with
 |none=>exact d rfl
 |some v=>exact h1 v rfl
theorem SA{s:gH}{W:PT}{v:V}{r:List V}{Q:V->St->Prop}{X:St->Prop}{st:St}(h:s v (λq=>W (λf d=>br (isNone f) (fU s W r Q X d) (Q f d)) X q) st):fU s W (v::r) Q X st:=h
theorem Vo{s:gH}{W:PT}{Q:V->St->Prop}{X:St->Prop}{st:St}(h:Q .none st):fU s W [] Q X st:=h
theorem NW(I:List y->St->Prop)(h0:∀st,I [] st->Q .none st)
 (h1:∀a r st,I (a::r) st->∀Qc:V->St->Prop,(∀st',I r st'->Qc .none st')->(∀v st',Q (.tup [v]) st'->Qc (.tup [v]) st')->W Qc X ⟨st.loc.set i (some (e a)),st.h⟩) :
 ∀{l:List y} {st:St},I l st->fU (aj i) W (l.map e) Q X st:=by
 intro d
 induction d with
 |nil=>
  intro st h
  exact h0 st h
 |cons a r z=>
  intro st h
  exact h1 a r st h _ (λst' j=>z j) λ_ _ q=>q
theorem NX(I:St->Prop)(f:x->V):∀{l:List x} {d:List V} {st:St},(∀a∈l,∀st (Q':V->St->Prop),I st->(∀st',I st'->Q' (f a) st')->s (e a) (λj=>w Q' uZ j) st)->I st->(∀st',I st'->Q (d++l.map f) st')->iH s j2 w (l.map e) d Q st:=by
 intro k
 induction k with
 |nil=>
  intro d st _ i q
  have:=q st i;rwa [aeu,WT]at this
 |cons v r o=>
  intro d st h i q
  exact h v (.head _) st _ i λst' p=>o (λu z=>h u (.tail _ z)) p λy m=>by have:=q y m;rwa [WZ,aaw]at this
theorem Dw(p:w->Bool)(I:St->Prop)(s:gH)(f:w->V):∀{l:List w} {y:List V} {st:St},(∀a∈l,∀st,I st->∃d,I d∧(∀Q:St->Prop,Q d->s (e a) Q st)∧(∀j:V->St->Prop,j (.bool (p a)) d->J j uZ d)∧(p a=true->∀j:V->St->Prop,j (f a) d->U j uZ d))->
 I st->(∀st',I st'->Q (y++(l.filter p).map f) st')->iH s J U (l.map e) y Q st:=by
 intro R
 induction R with
 |nil=>
  intro y st _ i q
  have:=q st i;rwa [List.filter_nil,aeu,WT]at this
 |cons v r o=>
  intro y st h i q
  exact(h v (.head _) st i).elim λd z=>z.2.1 _ (z.2.2.1 _ (show br (p v) _ _ from by
  have x:∀u∈r,_:=λu D=>h u (.tail _ D)
  generalize e:p v=L;cases L with
  |false=>exact o x z.1 λk S=>by have:=q k S;rwa [abC (by rw[e];decide)]at this
  |true=>exact z.2.2.2 e _ (o x z.1 λm Y=>by have:=q m Y;rwa [abB e,WZ,aaw]at this)))
theorem d8(e:h c=some (.list vs)):res h (.ref c)=.lst vs:=by
 show Xa (motive:=λ_=>V) (h c) _ _=_
 rw[e]
theorem Dx(e:h c=some (.list vs))(q:dS m.l k):pick m (.ref c) h k d:=by unfold pick;rw[d8 e];exact q
theorem IF(e:h c=some (.list vs))(q:k vs):iF (res h (.ref c)) k:=by rw[d8 e];exact q
abbrev Ev(E:PT)(X:St->Prop)(st:St)(v:V):Prop:=∀d:V->St->Prop,d v st->E d X st
section
variable{g:Gl}{n i:Nat}{E A B C W r:PT}{T:gH}{Q Qc:V->St->Prop}{X:St->Prop}{st:St}{loc:List (Option V)}{h:AH}{c:Addr}{vs:List V}{v u:V}{a b:Bool}
theorem aZ(d:Ev E X ⟨loc,h⟩ v)(k:r Q X ⟨loc.set i (some v),h⟩):ah (aD (aj i) E) r Q X ⟨loc,h⟩:=d _ k
theorem vu(d:Ev q X ⟨loc,h⟩ (.lst vs))(l:vs.length<=1000000)(k:∀c,h c=none->r Q X ⟨loc.set i (some (.ref c)),upd h c (some (.list vs))⟩):ah (aD (aj i) (gy q)) r Q X ⟨loc,h⟩:=d _ ⟨l,k⟩
theorem jB(d:Ev E X ⟨loc,h⟩ (.lst vs))(l:vs.length<=1000000∧is.length=vs.length)(k:r Q X ⟨vX loc is vs.reverse,h⟩):ah (bZ is E) r Q X ⟨loc,h⟩:=d _ ⟨l.1,l.2,k⟩
theorem VU(d:Ev E X st v)(k:r Q X st):ah (fY E) r Q X st:=d _ k
theorem a6(d:Ev E X st v)(q:Q (.tup [v]) st):ah (aO E) r Q X st:=d _ q
theorem Dy(h:∀d,s d X st):ah s r Q X st:=h _
theorem bP(hC:Ev C X st (.bool b))(d:b=true->Ev E X st v)(hx:b=true->X st)(k:b=false->r Q X st):ah (bA C (ah (bj E) ai) ai) r Q X st:=hC _ (KE (λe=>d e _ (hx e)) k)
theorem jf(hC:Ev C X st (.bool b))(e:b=false)(k:r Q X st):ah (bA C A ai) r Q X st:=hC _ (Vn e k)
theorem d9(hC:Ev C X st (.bool b))(e:b=true)(d:Ev E X st v)(x:X st):ah (bA C (ah (bj E) ai) q) r Q X st:=hC _ (VO e (d _ x))
theorem bI(hC:Ev C X st (.bool b))(d:b=true->Ev E X st v)(hx:b=true->Q (.tup [v]) st)(k:b=false->r Q X st):ah (bA C (ah (aO E) ai) ai) r Q X st:=hC _ (KE (λe=>d e _ (hx e)) k)
theorem FL(hC:Ev C X st (.bool b))(h1:b=true->A (λf d=>br (isNone f) (r Q X d) (Q f d)) X st)(q:b=false->B (λf d=>br (isNone f) (r Q X d) (Q f d)) X st):ah (bA C A B) r Q X st:=hC _ (KE h1 q)
theorem UE(k:Qc .none st):ai Qc X st:=k
theorem zO{a r:PT}{st':St}(h:∀Qc:V->St->Prop,Qc .none st'->a Qc X st)(k:r Q X st'):ah a r Q X st:=h _ k
theorem SE(I:List z->St->Prop)(j:Ev It X st (.lst (l.map e)))(q:I l st)(h0:∀st,I [] st->r Q X st)
 (h1:∀a l st,I (a::l) st->∀Qc:V->St->Prop,(∀st',I l st'->Qc .none st')->(∀v st',Q (.tup [v]) st'->Qc (.tup [v]) st')->W Qc X ⟨st.loc.set i (some (e a)),st.h⟩):ah (dq (aj i) It W) r Q X st:=
 j _ (show fU (aj i) W (l.map e) (λf d=>br (isNone f) (r Q X d) (Q f d)) X st from NW (Q:=λf d=>br (isNone f) (r Q X d) (Q f d)) I h0 (λa l st i Qc k y=>h1 a l st i Qc k y) q)
theorem ea(f:q->St)(I:List w->q->Prop)(s:q)(p:Ev It X (f s) (.lst (l.map e)))(y:I l s)(h0:∀s,I [] s->r Q X (f s))
 (h1:∀a l s,I (a::l) s->∀Qc:V->St->Prop,(∀d,I l d->Qc .none (f d))->(∀v st',Q (.tup [v]) st'->Qc (.tup [v]) st')->W Qc X ⟨(f s).loc.set i (some (e a)),(f s).h⟩):ah (dq (aj i) It W) r Q X (f s):=
 SE (λl st=>∃s,st=f s∧I l s) p ⟨s,rfl,y⟩ (λst z=>z.elim λs z=>z.1▸h0 s z.2) λa l st z Qc k j=>z.elim λs z=>z.1▸h1 a l s z.2 Qc (λd m=>k _ ⟨d,rfl,m⟩) j
theorem IG(f:σ->St)(I:Nat->Int->σ->Prop)(h0:∀x s,I 0 x s->Q .none (f s))
 (h1:∀m x s,I (m+1) x s->∀Qc:V->St->Prop,(∀s',I m (x+d) s'->Qc .none (f s'))->(∀v st',Q (.tup [v]) st'->Qc (.tup [v]) st')->W Qc X ⟨(f s).loc.set i (some (.int x)),(f s).h⟩):∀(m:Nat) (x:Int) (s:σ),I m x s->fU (aj i) W (eC d m x) Q X (f s):=by
 intro zi
 induction zi with
 |zero=>
  intro x s h
  exact h0 x s h
 |succ m ih=>
  intro x s h
  exact h1 m x s h _ (λs' h'=>ih _ s' h') λ_ _ q=>q
theorem xJ(f:y->St)(I:Nat->Int->y->Prop)(s:y)(p:Ev It X (f s) (.lst (eC d m x)))(z:I m x s)(h0:∀x s,I 0 x s->r Q X (f s))
 (h1:∀m x s,I (m+1) x s->∀Qc:V->St->Prop,(∀j,I m (x+d) j->Qc .none (f j))->(∀v st',Q (.tup [v]) st'->Qc (.tup [v]) st')->W Qc X ⟨(f s).loc.set i (some (.int x)),(f s).h⟩):ah (dq (aj i) It W) r Q X (f s):=
 p _ (show fU (aj i) W (eC d m x) (λf q=>br (isNone f) (r Q X q) (Q f q)) X (f s)from IG (Q:=λf q=>br (isNone f) (r Q X q) (Q f q)) f I h0 h1 m x s z)
theorem eH(h1:Ev A X st (.bool a))(d:a=true->Ev B X st (.bool b)):Ev (di A B) X st (.bool (a&&b)):=λ_ k=>h1 _ (by
 cases a with
 |true=>exact d rfl _ k
 |false=>exact k)
theorem lZ(h1:Ev A X st (.bool a)):Ev (di A (af (.bool .true))) X st (.bool a):=λ_ k=>h1 _ (by cases a <;> exact k)
theorem fB(h1:Ev A X st (.bool a)):Ev (cF A (af (.bool .false))) X st (.bool a):=λ_ k=>h1 _ (by cases a <;> exact k)
theorem cg(h1:Ev A X st (.bool a))(d:a=false->Ev B X st (.bool b)):Ev (cF A B) X st (.bool (a||b)):=λ_ k=>h1 _ (by
 cases a with
 |true=>exact k
 |false=>exact d rfl _ k)
theorem Dz(h1:Ev E X st x)(j:Ev A X st y)(q:Ev B X st z)(d:∀P:Bool->Prop,P a->tU o x y st.h P)(m:a=true->∀P:Bool->Prop,P b->tU p y z st.h P):Ev (rT o p E A B) X st (.bool (a&&b)):=λ_ k=>h1 _ (j _ (d _ (by
 cases a with
 |true=>exact q _ (m rfl _ k)
 |false=>exact k)))
theorem jC(h1:Ev A X st (.bool a)):Ev (gx A) X st (.bool (!a)):=λ_ k=>h1 _ k
theorem kF(h1:Ev C X st (.bool b))(q:b=true->Ev A X st v)(d:b=false->Ev B X st v):Ev (bA C A B) X st v:=λ_ k=>h1 _ (KE (λe=>q e _ k) λe=>d e _ k)
theorem ar(h1:Ev E X st v)(q:Ev d X st (.lst vs)):Ev (aa E d) X st (.lst (v::vs)):=λ_ k=>h1 _ (q _ k)
theorem VV(h1:Ev q X st (.lst vs))(d:∀Qv:VP,Qv v st.h->w vs st.h Qv):Ev (dn w q) X st v:=λ_ k=>h1 _ (d _ k)
theorem l0(h1:Ev E X st u)(d:∀Qv:VP,Qv v st.h->w u st.h Qv):Ev (dn (b1 w) (aa E ag)) X st v:=λ_ k=>h1 _ (d _ k)
theorem eb(h1:Ev A X st x)(q:Ev B X st y)(d:∀Qv:V->Prop,Qv v->Ez op x y st.h Qv):Ev (ao op A B) X st v:=λ_ k=>h1 _ (q _ (d _ k))
theorem bJ(h1:Ev A X st x)(q:Ev B X st y)(d:∀P:Bool->Prop,P b->tU op x y st.h P):Ev (aC op A B) X st (.bool b):=λ_ k=>h1 _ (q _ (d _ k))
theorem dy(h1:Ev A X st x)(q:Ev B X st y)(d:∀Qv:V->Prop,Qv v->gn x y st.h Qv):Ev (aQ A B) X st v:=λ_ k=>h1 _ (q _ (d _ k))
theorem kG(h1:Ev E X st (.bytes x))(e:m.b=some p)(y:Ev q X st (.lst vs))(d:∀Qv:VP,Qv v st.h->p.2 (.bytes x::vs) st.h Qv):Ev (av g n m E q) X st v:=λ_ k=>h1 _ (az e (y _ (d _ k)))
theorem LX(h1:Ev E X st (.str x))(e:m.s=some p)(y:Ev q X st (.lst vs))(d:∀Qv:VP,Qv v st.h->p.2 (.str x::vs) st.h Qv):Ev (av g n m E q) X st v:=λ_ k=>h1 _ (az e (y _ (d _ k)))
theorem aG{a:Addr}{d:PT}(h1:Ev d X st (.lst vs))(hc:cS g n a vs (some v)):Ev (ak g n (.ref a) d) X st v:=λ_ k=>h1 _ (hc k)
theorem xK{a:Addr}{d:PT}(h1:Ev d X st (.lst vs))(hc:cS g n a vs none)(hx:X st):ak g n (.ref a) d Q X st:=h1 _ (hc hx)
theorem g6{d q:Type}{f:d->q}{l:List d}(h:l.length<=1000000):([]:List V).length+(l.map f).length<=1000000:=by rw[Wp];exact(Xx _).symm▸h
theorem ee{y:Type}{e f:y->V}{l:List y}{is:List Nat}{It d:PT}(j:Ev It X st (.lst (l.map e)))(z:l.length<=1000000)(p:∀a∈l,Ev d uZ ⟨none::some (e a)::eJ is st.loc,st.h⟩ (f a)):Ev (a8 2 is (hZ (aj 1) j2 d) It) X st (.lst (l.map f)):=
 λ_ k=>j _ ⟨g6 z,NX (λs=>∃x,s=⟨none::x::eJ is st.loc,st.h⟩) f (λa ha s _ i q=>by obtain⟨x,rfl⟩:=i;exact p a ha _ (q _ ⟨_,rfl⟩)) ⟨_,rfl⟩ λs i=>by obtain⟨x,rfl⟩:=i;exact k⟩
theorem DA{d:Type}{e f:d->V}{l:List d}{is:List Nat}{It j y:PT}(p:d->Bool)(z:Ev It X st (.lst (l.map e)))(m:l.length<=1000000)(hC:∀a∈l,Ev y uZ ⟨none::some (e a)::eJ is st.loc,st.h⟩ (.bool (p a)))(w:∀a∈l,p a=true->Ev j uZ ⟨none::some (e a)::eJ is st.loc,st.h⟩ (f a)):Ev (a8 2 is (hZ (aj 1) y j) It) X st (.lst ((l.filter p).map f)):=
 λ_ k=>z _ ⟨g6 m,Dw p (λs=>∃x,s=⟨none::x::eJ is st.loc,st.h⟩) (aj 1) f (λa ha s i=>by obtain⟨x,rfl⟩:=i;exact⟨⟨none::some (e a)::eJ is st.loc,st.h⟩,⟨_,rfl⟩,λ_ q=>q,hC a ha,w a ha⟩) ⟨_,rfl⟩ λs i=>by obtain⟨x,rfl⟩:=i;exact k⟩
theorem eI(q:Ev E X ⟨loc,h⟩ v)(y:(loc[i]?).join=some (.ref c))(e:h c=some (.list vs))(l:vs.length<1000000)(k:r Q X ⟨loc,upd h c (some (.list (vs++[v])))⟩):ah (fY (av g n aK (ae i) (aa E ag))) r Q X ⟨loc,h⟩:=
 az y (Dx (k:=λe=>aa E ag (λvs d=>iF vs λvs=>e.2 (.ref c::vs) d.h λu h=>r Q X ⟨d.loc,h⟩) X ⟨loc,h⟩) e (q _ (az e ⟨l,k⟩)))
end
structure oi(h0:AH)(c:Addr)(o:O)(h:AH):Prop where
 at_:h c=some o
 old:∀a,a≠c->h a=h0 a
theorem oi.new:oi h0 c o (upd h0 c (some o)):=⟨aB _ _ _,λ_ n=>aE n⟩
theorem oi.put(w:oi h0 c o h):oi h0 c o' (upd h c (some o')):=⟨aB _ _ _,λa n=>(aE n).trans (w.old a n)⟩
theorem oi.sub(w:oi h0 c o h)(n:h0 c=none):Sub h0 h:=λa b e=>(w.old a λq=>by rw[q,n]at e;cases e).trans e
theorem oi.drop(w:oi h0 c o h)(n:h0 c=none):upd h c none=h0:=funext λa=>(Yt (a=c)).elim (λe=>by rw[e,aB,n]) λe=>(aE e).trans (w.old a e)
structure Kn(g:Gl)(K:Frag):Prop where
 H:∀n,fe g K (NU n)
 cl:∀c∈[141,190,239,330,365,415],makesIn K c=true
 inits:∀p∈[(141,131),(190,166),(239,222),(330,306),(365,348),(415,398)],Xo K (.ref p.1) "__init__" = some (some (.ref p.2))∧typeIn K (.ref p.2)=some (.type "function")
 tab:g.tab=ql
 text_of:aR K FA FC
 octets_of:aR K zr zt
 hex_of:aR K ID IE
 hex_digit:aR K zu zv
 octets_of_hex:aR K qm qn
 number_by:aR K zw zx
 number_of:aR K zy zA
 object_has_sign:aR K mJ mK
 object_are_all:aR K oM oN
 Person_init:aR K ue uf
 Person_octets:aR K qq qr
 read_person:aR K ug uh
 Entry_init:aR K wO wQ
 Entry_sort_key:aR K oQ oR
 Entry_octets:aR K su sv
 object_by_eights:aR K lz lA
 object_name_fault:aR K j5 j6
 Tree_init:aR K zB zC
 Tree_octets:aR K ui uj
 Tree_find:aR K zD zE
 tree_faults:aR K um uo
 check_tree:aR K wR wU
 object_mode_of:aR K oS oU
 read_tree:aR K zF zG
 object_head_row:aR K mL mM
 object_head_id:aR K oV oW
 object_heads:aR K sy sA
 ObjectHeadWalk_init:aR K iW iX
 ObjectHeadWalk_is_next:aR K gz gA
 ObjectHeadWalk_take:aR K iY iZ
 ObjectHeadWalk_rest:aR K i3 i4
 Commit_init:aR K uC uD
 Commit_octets:aR K qP qQ
 read_commit:aR K uE uF
 object_signature_at:aR K i5 i6
 Tag_init:IA K By Bz
 Tag_signed_part:aR K mX mY
 Tag_octets:aR K wX wY
 read_tag:aR K BA BB
 read_object:aR K uG uH
 object_octets:aR K q7 q8
 split_object:aR K sC sD
 law_octets:aR K xd xe
 law_signs_of:aR K sE sF
 law_deck:aR K BC BD
 law_draw:aR K BE BF
 law_pick:aR K BG BH
 law_hex:aR K FD FE
 law_oid:aR K FG FH
 law_heard:aR K zI zJ
 law_bent:aR K BI BJ
 law_number:aR K xt xu
 law_split:aR K zK zL
 law_split_told:aR K pv px
 law_heads_right:aR K m6 m7
 law_hex_right:aR K q9 ra
 law_rows:aR K BK BL
 law_key:aR K FI FJ
 law_are_fit:aR K uL uM
 law_tree_right:aR K pz pA
 law_trees_right:aR K nk nq
 law_person:aR K xD xE
 law_person_row:aR K pB pC
 law_parts:aR K zM zN
 law_made:aR K BN BO
 law_odd_person:aR K pD pE
 law_odd_id:aR K xF xG
 law_spoilt:aR K xH xI
 law_commits_right:aR K ky fz
 law_tags_right:aR K pF pG
 theLaw:aR K sV NV
section
variable{g:Gl}{K:Frag}{n:Nat}{b:List UInt8}{h:AH}
theorem jT(f:α->Int)(l:List α):yL (l.map λa=>.int (f a))=some (l.map f):=by
 induction l with
 |nil=>rfl
 |cons a l ih=>show(yL (l.map λa=>.int (f a))).bind _=_;rw[ih];rfl
theorem pH(f:α->List Nat)(l:List α):yY (l.map λa=>.str (f a))=some (l.map f):=by
 induction l with
 |nil=>rfl
 |cons a l ih=>show(yY (l.map λa=>.str (f a))).bind _=_;rw[ih];rfl
theorem dP(f:α->List UInt8)(l:List α):hU (l.map λa=>.bytes (f a))=some (l.map f):=by
 induction l with
 |nil=>rfl
 |cons a l ih=>show(hU (l.map λa=>.bytes (f a))).bind _=_;rw[ih];rfl
def jg(b:List UInt8):List Nat:=b.map ac4
theorem vv(f:α->β)(l:List α):(l.map λa=>[f a]).flatten=l.map f:=by
 induction l with
 |nil=>rfl
 |cons a l ih=>rw[WZ,YR,ih];rfl
theorem SG(c:UInt8):(c.toNat:Int)<1114112:=Xv.mpr (XN c.toNat_lt dD)
def jD(base:Int):List UInt8->Int->Option Int
 | [],acc=>some acc
 |c::r,acc=>bif decide (0<=(c.toNat:Int)-48)&&decide ((c.toNat:Int)-48<base)then jD base r (base*acc+((c.toNat:Int)-48))else none
def zP(base:Int)(b:List UInt8):Option Int:=bif b.isEmpty then none else jD base b 0
noncomputable def gC(o:Option Int):V:=Xa (motive:=λ_=>V) o .none .int
def FN(s:List Nat):List UInt8:=s.map Nat.toUInt8
theorem nr(h:(!a)=false):a=true:=by simpa using h
theorem BP(h1:-(2^64)<i)(h2:i<2^64):adG i j:=.of_left (intBits_le_64 h1 h2)
theorem zQ(h1:-(2^64)<j)(h2:j<2^64):adG i j:=.of_right (intBits_le_64 h1 h2)
theorem pI(k:Kn g K)(hn:1<=n)(hb:b.length<=1000000):cS g n 59 [.bytes b] (some (.str (jg b))):=λ{Q X h} q=>by
 refine((aH (n:=0) (k.H 0) k.text_of rfl ?_).call).up hn
 refine a6 (LX Iq rfl (ar (ee (f:=λc:UInt8=>.str [c.toNat]) Iq hb λc _ _ k=>Wm ⟨WG _,SG c⟩ k) λ_ k=>k) λ_ k=>az (pH _ _) (Wm ⟨rfl,?_⟩ k)) ?_
 ·rw[vv,Wp];exact Wh hb dD
 ·rw[vv];exact bc q
theorem jE(k:Kn g K)(hn:1<=n)(hl:s.length<=1000000)(hs:∀c∈s,c<256):cS g n 64 [.str s] (some (.bytes (FN s))):=λ{Q X h} q=>by
 refine((aH (n:=0) (k.H 0) k.octets_of rfl ?_).call).up hn
 refine aZ (ee (f:=λc:Nat=>.int c) Iq hl λc _ _ k=>k) ?_
 refine ea (e:=λc:Nat=>.int c) (λz:Option V=>⟨[some (.str s),some (.lst (s.map λc:Nat=>.int c)),z],h⟩) (λl _=>∀c∈l,c<256) none Iq hs (λz i=>?_) λc r z i Qc k kr=>?_
 ·refine a6 (λ_ k=>az (jT (λc:Nat=>(c:Int)) s) (Wm (λm hm=>?_) k)) ?_
  ·obtain⟨c,hc,rfl⟩:=WN.mp hm
   exact⟨WG _,Xv.mpr (hs c hc)⟩
  ·rw[XM];exact bc q
 ·exact jf Iq (decide_eq_false (Y7.mpr (X2.mpr (ZK (i c (.head _)))))) (k _ λd hd=>i d (.tail _ hd))
theorem pJ:jD base (c::r) acc=bif decide (0<=(c.toNat:Int)-48)&&decide ((c.toNat:Int)-48<base)then jD base r (base*acc+((c.toNat:Int)-48))else none:=rfl
theorem zR(k:Kn g K)(hn:1<=n)(h1:-(2^64)<base)(h2:base<2^64):cS g n 92 [.bytes b,.int base] (some (gC (zP base b))):=λ{Q X h} q=>by
 refine((aH (n:=0) (k.H 0) k.number_by rfl ?_).call).up hn
 refine bI Iq (λ_ _ k=>k) (λe=>?_) λe=>aZ Iq ?_
 ·obtain rfl:b=[]:=Zn.mp (YH (eq_of_beq e))
  exact bc q
 ·have q:Q (gC (jD base b 0)) h:=by
   cases b with
   |nil=>cases e
   |cons=>exact q
  refine ea (e:=λc:UInt8=>.int (c.toNat:Nat)) (l:=b) (λs:Int×Option V×Option V=>⟨[some (.bytes b),some (.int base),some (.int s.1),s.2.1,s.2.2],h⟩) (λl s=>Q (gC (jD base l s.1)) h) (0,none,none) Iq q (λs q=>a6 Iq (bc q)) λd r s q Qc k kr=>?_
  rw[pJ]at q
  refine aZ Iq (bI (jC (Dz Iq Iq Iq Iq λ_ _ k=>k)) (λ_ _ k=>k) (λe=>?_) λe=>?_)
  ·rw[cw e]at q
   exact kr _ _ (bc q)
  ·rw[nr e]at q
   exact aZ (λ_ k=>Wm (BP h1 h2) k) (k (_,_,_) q)
def numOf(b:List UInt8):Option Int:=bif decide ((b.length:Int)>1)&&(b.head?.elim false λc=>(c.toNat:Int)==48)then none else zP 10 b
theorem IH(e:0<b.length):∃c,b[0]? = some c∧b.head? = some c:=by
 cases b with
 |nil=>cases e
 |cons c r=>exact⟨c,rfl,rfl⟩
theorem qd(k:Kn g K)(hn:2<=n):cS g n 99 [.bytes b] (some (gC (numOf b))):=λ{Q X h} q=>by
 refine((aH (n:=1) (k.H 1) k.number_of rfl ?_).call).up hn
 unfold numOf at q
 refine bI (b:=decide ((b.length:Int)>1)&&(b.head?.elim false λc=>(c.toNat:Int)==48)) (eH Iq λe=>?_) (λ_ _ k=>k) (λe=>?_) λe=>?_
 ·obtain⟨c,e1,e2⟩:=IH (XN adJ (Xv.mp (of_decide_eq_true e)))
  rw[e2]
  exact lZ (bJ (λ_ k=>Wm (aaH 0) (az e1 k)) Iq λ_ k=>k)
 ·rw[e]at q;exact bc q
 ·rw[e]at q;exact a6 (aG Iq (zR k (Wr _) dD dD)) (bc q)
theorem BQ(d:UInt8):((d.toNat:Int).toNat).toUInt8=d:=by simp
theorem LY(d:UInt8):0<=(d.toNat:Int)∧(d.toNat:Int)<256:=⟨WG _,Xv.mpr d.toNat_lt⟩
theorem sW(k:Kn g K)(hn:1<=n):cS g n 110 [.bytes b,.bytes s] (some (.bool (s.any λc=>decide (a4 b [c] 0≥0)))):=λ{Q X h} q=>by
 refine((aH (n:=0) (k.H 0) k.object_has_sign rfl ?_).call).up hn
 refine ea (e:=λc:UInt8=>.int (c.toNat:Nat)) (λx:Option V=>⟨[some (.bytes b),some (.bytes s),x],h⟩) (λl _=>Q (.bool (l.any λc=>decide (a4 b [c] 0≥0))) h) none Iq q (λx q=>a6 Iq (bc q)) λd r x q Qc k kr=>?_
 ·rw[Y3]at q
  refine bI (bJ (kG Iq rfl (ar (l0 (λ_ k=>Wm (Wj rfl) k) λ_ k=>Wm (λm hm=>by rw[WB.mp hm];exact LY d) k) λ_ k=>k) λ_ k=>k) Iq λ_ k=>k) (λ_ _ k=>k) (λe=>?_) λe=>?_
  ·have e:decide (a4 b [((d.toNat:Int).toNat).toUInt8] 0≥0)=true:=e
   rw[BQ d]at e
   rw[e]at q;exact kr _ _ (bc q)
  ·have e:decide (a4 b [((d.toNat:Int).toNat).toUInt8] 0≥0)=false:=e
   rw[BQ d]at e
   rw[e]at q;exact k _ q
theorem jU(k:Kn g K)(hn:1<=n):cS g n 117 [.bytes b,.bytes s] (some (.bool (b.all λc=>s.contains c))):=λ{Q X h} q=>by
 refine((aH (n:=0) (k.H 0) k.object_are_all rfl ?_).call).up hn
 refine ea (e:=λc:UInt8=>.int (c.toNat:Nat)) (λx:Option V=>⟨[some (.bytes b),some (.bytes s),x],h⟩) (λl _=>Q (.bool (l.all λc=>s.contains c)) h) none Iq q (λx q=>a6 Iq (bc q)) λd r x q Qc k kr=>?_
 ·rw[ad5]at q
  refine bI (λ_ k=>Wm (LY d) k) (λ_ _ k=>k) (λe=>?_) λe=>?_
  ·rw[BQ d]at e
   rw[cw e]at q;exact kr _ _ (bc q)
  ·rw[BQ d]at e
   rw[nr e]at q;exact k _ q
end
noncomputable def eB:List Nat:=[48,49,50,51,52,53,54,55,56,57,97,98,99,100,101,102]
noncomputable def NY:List Nat:=[65,66,67,68,69,70]
noncomputable def kR(c:UInt8):Nat:=eB.getD (c.toNat/16) 0
noncomputable def qe(c:UInt8):Nat:=eB.getD (c.toNat%16) 0
noncomputable def cz(b:List UInt8):List Nat:=b.flatMap λc=>[kR c,qe c]
theorem VW:∀n:Nat,n<256->((0<=(n:Int).fdiv (2^(4:Int).toNat)∧eB[((n:Int).fdiv (2^(4:Int).toNat)).toNat]? = some (eB.getD (n/16) 0))∧(0<=adi (n:Int) 15∧eB[(adi (n:Int) 15).toNat]? = some (eB.getD (n%16) 0))):=dD
section
variable{g:Gl}{K:Frag}{n:Nat}{b:List UInt8}{h:AH}{s:List Nat}
noncomputable abbrev UG(c:Nat):V:=.str [c]
theorem Vp{a b m:Nat}(h:a+b<=m)(k:Nat.blt m 1000000=true):a<1000000:=Wz (Wh (WA _ _) h) (Wj k)
theorem zS(k:Kn g K)(hn:1<=n)(hb:b.length<=400000):cS g n 71 [.bytes b] (some (.str (cz b))):=λ{Q X h} q=>by
 refine((aH (n:=0) (k.H 0) k.hex_of rfl ?_).call).up hn
 refine vu Iq (WI _) λc hc=>?_
 refine ea (e:=λc:UInt8=>.int (c.toNat:Nat)) (λs:List Nat×Option V×AH=>⟨[some (.bytes b),some (.ref c),s.2.1],s.2.2⟩) (λl s=>oi h c (.list (s.1.map UG)) s.2.2∧s.1++cz l=cz b∧s.1.length+2*l.length<=800000) ([],none,upd h c (some (.list []))) Iq
  ⟨oi.new,rfl,by rw[Yh,Xx];exact W9 2 hb⟩ (λs i=>?_) λd r s i Qc k kr=>?_
 ·have e:s.1=cz b:=by rw[←i.2.1];exact(WT _).symm
  refine a6 (LX Iq rfl (ar Iq λ_ k=>k) λ_ k=>IF i.1.at_ (az (pH _ _) (Wm ⟨rfl,?_⟩ k))) (.mk (i.1.sub hc) ?_)
  ·rw[vv,Y0];exact Xy (XN (Vp i.2.2 rfl) dD)
  ·rw[vv,Y0,e];exact q
 ·have nb:=VW d.toNat d.toNat_lt
  refine eI (v:=UG (kR d)) (λQe k=>Wm (Int.le_of_lt dD) (Wm nb.1.1 (az nb.1.2 k))) rfl i.1.at_ (by rw[Wp];exact Vp i.2.2 rfl) ?_
  refine eI (v:=UG (qe d)) (λQe k=>Wm nb.2.1 (az nb.2.2 k)) rfl i.1.put.at_ ?_ (k (s.1++[kR d,qe d],_,_) ⟨?_,?_,?_⟩)
  ·rw[Wk,Wp];exact Wz (Ww (Wh (WA _ _) i.2.2)) (Wj rfl)
  ·rw[WQ,Wx];exact i.1.put.put
  ·rw[Wx];exact i.2.1
  ·have l:=i.2.2
   rw[Wk,WV]
   rw[WX,ab0,Xd (2*r.length)]at l
   exact l
noncomputable def bF(c:Nat):Option Int:=bif decide (iJ eB c<0)&&decide (c∈NY)then some (10+iJ NY c)else bif decide (iJ eB c≥0)then some (iJ eB c)else none
theorem qf(k:Kn g K)(d:1<=n):cS g n 78 [.str [c]] (some (gC (bF c))):=λ{Q X h} q=>by
 refine((aH (n:=0) (k.H 0) k.hex_digit rfl ?_).call).up d
 unfold bF at q
 refine aZ Iq (bI (eH Iq λ_=>lZ Iq) (λ_ _ k=>k) (λe=>?_) λe=>?_)
 ·rw[show(decide (iJ eB c<0)&&decide (c∈NY))=true from e]at q
  exact bc q
 ·rw[show(decide (iJ eB c<0)&&decide (c∈NY))=false from e]at q
  refine a6 (kF Iq (λe _ k=>?_) λe _ k=>?_) (bc q)
  ·rw[show decide (iJ eB c≥0)=true from e]at k
   exact k
  ·rw[show decide (iJ eB c≥0)=false from e]at k
   exact k
noncomputable def ef:List Nat->Option (List UInt8)
 | []=>some []
 | [_]=>none
 |a::b::r=>(bF a).bind λx=>(bF b).bind λy=>(ef r).map λl=>(16*x+y).toNat.toUInt8::l
theorem BR(h:c∉x):iJ x c=-1:=by
 have:=acB ⟨x.toArray⟩ c
 unfold iJ
 have e:(⟨x.toArray⟩:Str).length=x.length:=Wu ..
 rw[e]at this
 generalize q:ac8 ⟨x.toArray⟩ ⟨#[c]⟩ 0 x.length 1=d;cases d with
 |nil=>rfl
 |cons i r=>
  rw[q]at this
  exact absurd (of_decide_eq_true (p:=c∈x) this.symm) h
noncomputable def UH(o:Option Int):Bool:=Xa (motive:=λ_=>Bool) o true λx=>decide (0<=x)&&decide (x<16)
theorem LZ:(eB++NY).all (λc=>UH (bF c))=true:=dD
theorem L0(h:c∉eB++NY):bF c=none:=by
 have h1:c∉eB:=λq=>h (Yp _ q)
 have d:c∉NY:=λq=>h (WW _ q)
 unfold bF
 rw[BR h1,decide_eq_false d];rfl
theorem vw(h:bF c=some x):0<=x∧x<16:=by
 by_cases q:c∈eB++NY
 ·have z:=W0.mp LZ c q
  rw[h]at z
  exact⟨of_decide_eq_true (aJ z).1,of_decide_eq_true (aJ z).2⟩
 ·rw[L0 q]at h;cases h
theorem II{A:PT}{X:St->Prop}{st:St}{N m:Nat}(hA:Ev A X st (.int N))(e:N=2*m)(l:N<=800000):Ev (da (aa (af (.int 0)) (aa A (aa (af (.int 2)) ag)))) X st (.lst (eC 2 m 0)):=λQ k=>hA _ ⟨rfl,rfl,rfl,⟨WG _,X2.mpr (Wh l dD)⟩,by
 rw[e,show(((2*m:Nat):Int)+1)/2=m from congrArg Int.ofNat (Nat.mul_add_div dD m 1)]
 exact k⟩
theorem SH{A:PT}{X:St->Prop}{st:St}{o:Option Int}(hA:Ev A X st (gC o)):Ev (aC .Is A (af .none)) X st (.bool o.isNone):=bJ hA Iq (by cases o <;> exact λ_ k=>⟨trivial,k⟩)
theorem pK:∀(m:Nat) (s:List Nat),s.length=2*m+1->ef s=none:=by
 intro w1
 induction w1 with
 |zero=>
  intro w2
  cases w2 with
  |nil=>
   intros;contradiction
  |cons w3 w4=>
   cases w4 with
   |nil=>
    intro _
    exact rfl
   |cons w5 w6=>
    first|(intros;first|contradiction|omega)|exact ff|(intros;simp_all;done)
 |succ m ih=>
  intro w7
  cases w7 with
  |nil=>
   intros;contradiction
  |cons a w8=>
   cases w8 with
   |nil=>
    first|(intros;first|contradiction|omega)|exact ff|(intros;simp_all;done)
   |cons b r=>
    intro e
    show(bF a).bind (λx=>(bF b).bind λy=>(ef r).map _)=none
    rw[ih r (XE (XE e))]
    cases bF a with
    |none=>rfl
    |some=>cases bF b <;> rfl
theorem L2:∀n:Nat,∃m,n=2*m∨n=2*m+1:=by
 intro zi
 induction zi with
 |zero=>
  exact⟨0,.inl rfl⟩
 |succ n ih=>
  exact(ih).elim λm h=>h.elim (λh=>⟨m,.inr (congrArg _ h)⟩) λh=>⟨m+1,.inl (congrArg _ h)⟩
theorem BS{d:Type}(p:List d)(a:d)(r:List d):(p++a::r)[p.length]? = some a:=by
 rw[ZP (Wr _),abZ];rfl
theorem L3{d:Type}(p:List d)(a b:d)(r:List d):(p++a::b::r)[p.length+1]? = some b:=by
 rw[aaw]
 have:=BS (p++[a]) b r
 rwa [Wk]at this
theorem UI{x y:Int}(h1:0<=x∧x<16)(d:0<=y∧y<16):0<=16*x+y∧16*x+y<256:=by lia
theorem zT{c:Addr}{l:List Int}{h':AH}(e:h' c=some (.list (l.map .int)))(hl:∀x∈l,0<=x∧x<256)(Qv:VP)(q:Qv (.bytes (l.map λx=>x.toNat.toUInt8)) h'):du (.ref c) h' Qv:=by
 unfold du
 rw[d8 e]
 exact az (by rw[show l.map V.int=l.map λx=>.int x from rfl,jT,Y0]) ⟨hl,q⟩
structure OH(s:List Nat)(h:AH)(c:Addr)(R:List UInt8->Option (List UInt8)->Prop)(m:Nat)(x:Int)(p u:List Nat)(acc:List Int)(h':AH):Prop where
 w:oi h c (.list (acc.map .int)) h'
 e:s=p++u
 l:u.length=2*m
 x:x=p.length
 b:∀x∈acc,0<=x∧x<256
 n:acc.length<=p.length
 q:R (acc.map λx=>x.toNat.toUInt8) (ef u)
theorem dI(k:Kn g K)(hn:2<=n)(hl:s.length<=800000):cS g n 85 [.str s] ((ef s).map .bytes):=λ{Q X h} q=>by
 refine((aH (n:=1) (k.H 1) k.octets_of_hex rfl ?_).call).up hn
 have two:(2:Int)≠0:=dD
 obtain⟨m,e|e⟩:=L2 s.length
 ·refine jf (λ_ k=>⟨two,k⟩) (show(!((s.length:Int).fmod 2==0))=false by rw[abe _ dD,e];simp) (vu Iq (WI _) λc hc=>?_)
  refine xJ (λz:(List Nat×List Nat×List Int)×Option V×Option V×Option V×AH=>⟨[some (.str s),some (.ref c),z.2.1,z.2.2.1,z.2.2.2.1],z.2.2.2.2⟩)
   (λm x z=>OH s h c (λa o=>cy (o.map λl=>.bytes (a++l)) Q X h) m x z.1.1 z.1.2.1 z.1.2.2 z.2.2.2.2) (([],s,[]),none,none,none,upd h c (some (.list [])))
   (II Iq e hl) ⟨oi.new,rfl,e,rfl,an,Wr _,q⟩ (λx z i=>?_) λm x z i Qc kn kr=>?_
  ·obtain⟨⟨p,u,acc⟩,z1,z2,z3,h'⟩:=z
   obtain⟨w,e,l,rfl,b,n,q⟩:=i
   obtain rfl:u=[]:=Zn.mp l
   have q:Q (.bytes (acc.map (λx=>x.toNat.toUInt8)++[])) h:=q
   rw[WT]at q
   exact a6 (l0 Iq (zT w.at_ b)) (.mk (w.sub hc) q)
  ·obtain⟨⟨p,u,acc⟩,z1,z2,z3,h'⟩:=z
   obtain⟨w,e,l,rfl,hb,n,q⟩:=i
   match u,l,e,q with
   |a::b::r,l,e,q=>
   have q:cy (((bF a).bind λx=>(bF b).bind λy=>(ef r).map λl=>(16*x+y).toNat.toUInt8::l).map λl=>.bytes (acc.map (λx=>x.toNat.toUInt8)++l)) Q X h:=q
   refine aZ (aG (ar (dy Iq Iq λ_ k=>Wm (WG _) (az (by rw[e];exact BS ..) k)) λ_ k=>k) (qf k (Wr _))) ?_
   refine aZ (aG (ar (dy Iq Iq λ_ k=>Wm (WG (p.length+1)) (az (show s[p.length+1]? = some b by rw[e];exact L3 ..) k)) λ_ k=>k) (qf k (Wr _))) ?_
   generalize ha:bF a=zz;cases zz with
   |none=>
    rw[ha]at q
    exact d9 (cg (b:=false) (λ_ k=>⟨trivial,k⟩) tf) rfl Iq (eF (w.sub hc) q)
   |some x=>
    rw[ha]at q
    generalize hb':bF b=zz;cases zz with
    |none=>
     rw[hb']at q
     exact d9 (cg (λ_ k=>⟨trivial,k⟩) λ_=>fB (λ_ k=>⟨trivial,k⟩)) rfl Iq (eF (w.sub hc) q)
    |some y=>
     rw[hb']at q
     have lp:p.length<1000000:=Wz (Wh (by rw[e,Wk];exact WA _ _) hl) dD
     refine jf (cg (λ_ k=>⟨trivial,k⟩) λ_=>fB (λ_ k=>⟨trivial,k⟩)) rfl (eI (v:=.int (16*x+y)) (λ_ k=>Wm (BP dD dD) k) rfl w.at_ (by rw[Wp];exact Wz n lp) ?_)
     refine kn ((p++[a,b],r,acc++[16*x+y]),some (.int p.length),some (.int x),some (.int y),upd h' c (some (.list (acc.map .int++[.int (16*x+y)])))) ⟨by rw[WQ];exact w.put,by rw[Wx];exact e,XE (XE l),?_,λv hv=>?_,?_,?_⟩
     ·show _=((p++[a,b]).length:Int);rw[Wk];rfl
     ·exact(WO.mp hv).elim (hb v) λhv=>(WB.mp hv).symm▸UI (vw ha) (vw hb')
     ·show(acc++[_]).length<=(p++[a,b]).length;rw[Wk,Wk];exact YA (Ww n)
     ·show cy ((ef r).map λl=>.bytes ((acc++[16*x+y]).map (λx=>x.toNat.toUInt8)++l)) Q X h
      rw[WQ]
      revert q
      cases ef r with
      |none=>exact λq=>q
      |some l=>exact λq=>by show Q (.bytes (_++[_]++l)) h;rw[Wx];exact q
 ·refine d9 (λ_ k=>⟨two,k⟩) (show(!((s.length:Int).fmod 2==0))=true by rw[abe _ dD,e];simp) Iq (fJ ?_)
  rw[pK m s e]at q;exact q
end
noncomputable def DC:List Ix->Nat->PT
 | [],_=>ai
 |d::r,i=>ah (aD (bN (ae 0) d) (ae i)) (DC r (i+1))
def L4(C:Addr):List Ix->Nat->Bool
 | [],_=>true
 |d::r,i=>(d.lookup C==some i)&&L4 C r (i+1)
section
variable{g:Gl}{K:Frag}{n:Nat}{b:List UInt8}{h:AH}{s:List Nat}
theorem DD(h0:(loc[0]?).join=some (.ref x))(hx:x≠d):∀(ixs:List Ix) (pre rest:List V) (h:AH),L4 C ixs pre.length=true->ixs.length=rest.length->loc=some (.ref x)::(pre++rest).map some->h x=some (.inst C d)->h d=some (.fields C pre)->(∀h',h' d=some (.fields C (pre++rest))->(∀a,a≠d->h' a=h a)->Q .none ⟨loc,h'⟩)->DC ixs (pre.length+1) Q X ⟨loc,h⟩
 | [],pre,[],h,_,_,hl,e1,e2,q=>q h (by rw[WT];exact e2) λ_ _=>rfl
 |ix::r,pre,v::rest,h,hi,hn,hl,e1,e2,q=>by
  have hi:=aJ hi
  have hv:(loc[pre.length+1]?).join=some v:=by rw[hl,WQ];show((pre.map some++some v::rest.map some)[pre.length]?).join=_;rw[←Wp (f:=some) (as:=pre),BS];rfl
  have e:putAt pre pre.length v=pre++[v]:=by unfold putAt;rw[if_neg (acH _)]
  have z:=DD (Q:=Q) (X:=X) h0 hx r (pre++[v]) rest (upd h d (some (.fields C (pre++[v])))) (by rw[Wk];exact hi.2) (XE hn) (by rw[←aaw];exact hl) ((aE hx).trans e1) (aB _ _ _) λh' q1 q2=>q h' (by rw[aaw];exact q1) λa n=>(q2 a n).trans (aE n)
  refine az hv (az h0 (az e1 ?_))
  refine az e2 (Wm rfl (az (eq_of_beq hi.1) (Wm (Wr _) ?_)))
  rw[e]
  rw[Wk]at z
  exact z
theorem sX(k:Kn g K)(y:List Ix)(code:∀{Q:V->AH->Prop} {X:AH->Prop} {h:AH} (x:Addr),DC y 1 (dE Q) (bz X) ⟨(.ref x::vs).map some,h⟩->iI g 1 (.ref fI) (.ref x::us) Q X h)(hC:((C,fI):Addr×Addr)∈[((141:Addr),(131:Addr)),(190,166),(239,222),(330,306),(365,348),(415,398)])(i:(L4 C y 0&&YB y.length vs.length&&(ql.lookup C).any (λl=>YB vs.length l.length))=true)(D:2<=n):cS g n C us (some (.inst C vs)):=λ{Q X h} q=>by
 have i:=aJ i
 have p:=aJ i.1
 have hc:C∈[(141:Addr),190,239,330,365,415]:=X8 (f:=Prod.fst) hC
 have w:=k.inits _ hC
 have J:∃l,ql.lookup C=some l∧vs.length=l.length:=by
  generalize e:ql.lookup C=B;cases B with
  |none=>rw[e]at i;exact ff i.2
  |some l=>rw[e]at i;exact⟨l,rfl,Yl i.2⟩
 obtain⟨l,z,m⟩:=J
 refine((qa (n:=1) (k.H 0).top (k.cl C hc) w.1 w.2 λx r hx R j=>code x ?_).call).up D
 refine DD (C:=C) (x:=x) (d:=r) rfl j y [] vs _ p.1 (Yl p.2) rfl (aB _ _ _) ((aE (X6 j)).trans (aB _ _ _)) λL o u=>bc ?_
 refine .inst rfl ((u x j).trans (aB _ _ _)) o (by rw[k.tab,z];rfl) (by unfold Gl.names;rw[k.tab,z];exact m) ?_
 have e:upd (upd L x none) r none=h:=funext λa=>(Yt (a=r)).elim (λe=>by rw[e,aB,R]) λe=>(aE e).trans ((Yt (a=x)).elim (λe=>by rw[e,aB,hx]) λc=>(aE c).trans ((u a e).trans ((aE c).trans (aE e))))
 rw[e];exact q
theorem rA(k:Kn g K)(q:List Ix)(D:aR K d W)(i:∀n,W g n=DC q 1)(hC:((C,d.a):Addr×Addr)∈[((141:Addr),(131:Addr)),(190,166),(239,222),(330,306),(365,348),(415,398)])(j:(L4 C q 0&&YB q.length vs.length&&(ql.lookup C).any (λl=>YB vs.length l.length))=true)(hd:YB (vs.length+1) d.params.length&&YB d.names.length d.params.length)(y:2<=n):cS g n C vs (some (.inst C vs)):=
 have hd:=aJ hd
 sX k q (λx w=>aH (n:=0) (k.H 0) D (Yl hd.1) (by rw[i,Yl hd.2,abZ,List.replicate_zero,WT];exact w)) hC j y
theorem PA(k:Kn g K)(q:2<=n){a b c d e f:V}:cS g n 415 [a,b,c,d,e,f] (some (.inst 415 [a,b,c,d,e,f])):=
 sX k (fI:=398) (vs:=[a,b,c,d,e,f]) [fO,jS,bH,cV,cf,d6] (λx w=>IB (n:=0) (vs:=[.ref x,a,b,c,d,e,f]) (k.H 0) k.Tag_init rfl rfl w) (.tail _ (.tail _ (.tail _ (.tail _ (.tail _ (.head _)))))) rfl q
theorem PC(k:Kn g K)(q:2<=n){a b c d e:V}:cS g n 415 [a,b,c,d,e] (some (.inst 415 [a,b,c,d,e,.bytes []])):=
 sX k (fI:=398) (vs:=[a,b,c,d,e,.bytes []]) [fO,jS,bH,cV,cf,d6] (λx w=>IC (n:=0) (vs:=[.ref x,a,b,c,d,e]) (k.H 0) k.Tag_init rfl rfl w) (.tail _ (.tail _ (.tail _ (.tail _ (.tail _ (.head _)))))) rfl q
end
theorem nt(n:Nat):kM n=(Nat.toDigits 10 n).map Char.toNat:=by
 unfold kM
 rw[Str.ofString_eq_toList]
 show(n.repr.toList.map Char.toNat)=_
 rw[Nat.toList_repr]
theorem DE(n:Nat)(h:n<10):(Nat.digitChar n).toNat=48+n:=(by decide:∀n<10,(Nat.digitChar n).toNat=48+n) n h
noncomputable def bL(n:Nat):List UInt8:=FN (kM n)
theorem UJ:(Nat.toUInt8 n).toNat=n%2^8:=UInt8.toNat_ofNat'
theorem DF(h:n<10):bL n=[(48+n).toUInt8]:=by
 unfold bL
 rw[nt,Nat.toDigits_of_lt_base h,aa6,DE n h];rfl
theorem L5(h:10<=n):bL n=bL (n/10)++[(48+n%10).toUInt8]:=by
 unfold bL
 rw[nt,nt,Nat.toDigits_of_base_le dD h,WQ,aa6,DE _ (ab1 _ dD)]
 unfold FN;rw[WQ];rfl
theorem xM(n:Nat):∀c∈kM n,c<256:=λc hc=>by
 rw[nt]at hc
 obtain⟨d,hd,rfl⟩:=WN.mp hc
 have:=Nat.isDigit_of_mem_toDigits dD dD hd
 unfold Char.isDigit at this
 exact Wz (UInt32.le_iff_toNat_le.mp (of_decide_eq_true (aJ this).2)) dD
theorem xN{n k:Nat}(h:n<10^(k+1)):(kM n).length<=k+1:=by
 rw[nt,Wp];exact(Nat.length_toDigits_le_iff dD (XF k)).mpr h
theorem rB(P:Nat->List UInt8->Prop)(h1:∀n,n<10->P n [(48+n).toUInt8])(h2:∀n l d,0<n->d<10->P n l->P (10*n+d) (l++[(48+d).toUInt8]))(n:Nat):P n (bL n):=by
 induction n using Nat.strongRecOn with
 |ind n ih=>
  rcases Nat.lt_or_ge n 10 with h|h
  ·rw[DF h];exact h1 n h
  ·rw[L5 h]
   have:=h2 (n/10) _ (n%10) (Nat.div_pos h dD) (ab1 _ dD) (ih _ (Nat.div_lt_self (WK dD h) dD))
   rwa [Nat.div_add_mod]at this
theorem IJ(h:d<10):((48+d).toUInt8).toNat=48+d:=by
 rw[UJ];exact abE (XN (aaV h 48) dD)
theorem zU:∀{l:List UInt8} {q:Int},jD base (l++[c]) q=(jD base l q).bind λx=>jD base [c] x
 | [],q=>rfl
 |d::l,q=>by
  rw[Yq,pJ,pJ]
  cases decide (0<=(d.toNat:Int)-48)&&decide ((d.toNat:Int)-48<base)with
  |true=>exact zU (l:=l)
  |false=>rfl
theorem zV{d:Nat}(h:d<10){q:Int}:jD 10 [(48+d).toUInt8] q=some (10*q+d):=by
 rw[pJ,IJ h]
 have e:((48+d:Nat):Int)-48=d:=by rw[adK,Int.add_comm];exact aac ..
 rw[e,decide_eq_true (WG d),decide_eq_true (show(d:Int)<10 from Xv.mpr h)];rfl
inductive Vq(l:List UInt8):Prop
 |mk (d:Nat) (r:List UInt8) (e:l=(48+d).toUInt8::r) (h1:0<d) (h2:d<10)
theorem L6(n:Nat):0<n->Vq (bL n):=rB (λn l=>0<n->Vq l) (λn h p=>⟨n,[],rfl,p,h⟩) (λn l d p h q _=>match q p with | .mk e r z h1 y=>⟨e,r++[(48+d).toUInt8],by rw[z];rfl,h1,y⟩) n
theorem IK(n:Nat):10<=n->0<n:=λh=>WK dD h
theorem IL(n:Nat):jD 10 (bL n) 0=some (n:Int):=rB (λn l=>jD 10 l 0=some (n:Int)) (λn h=>by rw[zV h];exact congrArg some (Int.zero_add _)) (λn l d _ h q=>by
 rw[zU,q];exact(zV h).trans (by rw[adK,Int.natCast_mul];rfl)) n
theorem vx(n:Nat):zP 10 (bL n)=some (n:Int):=by
 have h:bL n≠[]:=rB (λ_ l=>l≠[]) (λ_ _=>WM _ _) (λ_ l _ _ _ _=>by cases l <;> nofun) n
 rw[←IL n]
 generalize e:bL n=d;cases d with
 |nil=>exact absurd e h
 |cons=>rfl
theorem FO(n:Nat):numOf (bL n)=some (n:Int):=by
 unfold numOf
 rcases Nat.lt_or_ge n 10 with h|h
 ·rw[←vx n,DF h];rfl
 ·obtain⟨d,r,e,h1,y⟩:=L6 n (IK n h)
  have:((bL n).head?.elim false λc=>(c.toNat:Int)==48)=false:=by
   rw[e]
   show((((48+d).toUInt8).toNat:Int)==48)=false
   rw[IJ y]
   exact beq_eq_false_iff_ne.mpr λq=>YN (Ys h1) (YH q)
  rw[this,aaj]
  exact vx n
theorem bt{d:Type}{a b:List d}{m:Nat}(h:(a++b).length<=m)(l:m<=16777216):AK (a.length+b.length):=by rw[Wk]at h;exact Wh h l
theorem cB{d:Type}{a b:List d}{m:Nat}(h:(a++b).length<=m):a.length<=m:=by rw[Wk]at h;exact Wh (WA _ _) h
section
variable{g:Gl}{K:Frag}{n:Nat}{b:List UInt8}{h:AH}{s:List Nat}
theorem zW(k:Kn g K)(q:2<=n){a b c d:V}:cS g n 141 [a,b,c,d] (some (.inst 141 [a,b,c,d])):=rA k [bH,js,mC,mD] k.Person_init (λ_=>rfl) (.head _) rfl rfl q
theorem DG(k:Kn g K)(d:2<=n){a b c:V}:cS g n 190 [a,b,c] (some (.inst 190 [a,b,c])):=rA k [fH,bH,ju] k.Entry_init (λ_=>rfl) (.tail _ (.head _)) rfl rfl d
theorem IM(k:Kn g K)(d:2<=n):cS g n 239 [a] (some (.inst 239 [a])):=rA k [dN] k.Tree_init (λ_=>rfl) (.tail _ (.tail _ (.head _))) rfl rfl d
theorem zX(k:Kn g K)(q:2<=n){a b c d e f:V}:cS g n 365 [a,b,c,d,e,f] (some (.inst 365 [a,b,c,d,e,f])):=rA k [mB,f7,gR,d5,jt,cf] k.Commit_init (λ_=>rfl) (.tail _ (.tail _ (.tail _ (.tail _ (.head _))))) rfl rfl q
noncomputable def rC(m e:List UInt8)(w:Nat)(z:List UInt8):List UInt8:=m++[32,60]++e++[62,32]++bL w++[32]++z
noncomputable abbrev xO(m e:List UInt8)(w:Nat)(z:List UInt8):V:=.inst 141 [.bytes m,.bytes e,.int w,.bytes z]
theorem rg(k:Kn g K)(c:2<=n){m e z:List UInt8}{w:Nat}(u:(w:Int).natAbs.log2<1920)(i:(rC m e w z).length<=1000):cS g n 138 [xO m e w z] (some (.bytes (rC m e w z))):=λ{Q X h} q=>by
 have j:=cB i
 refine((aH (n:=1) (k.H 1) k.Person_octets rfl ?_).call).up c
 have d:=cB j
 have y:=cB d
 have l2:=cB y
 have ld:(kM w).length<=1000000:=by
  have:(bL w).length<=1000:=by
   have:=d
   rw[Wk]at this
   exact Wh (X5 _ _) this
  unfold bL FN at this
  rw[Wp]at this
  exact Wh this dD
 have t:1000<=16777216:=dD
 exact a6 (eb (eb (eb (x:=.bytes (m++[32,60]++e++[62,32])) (λ_ k=>⟨trivial,bt (cB l2) t,trivial,bt l2 t,bt y t,k⟩) (aG (ar (l0 (λ_ k=>⟨trivial,k⟩) λ_ k=>⟨u,k⟩) λ_ k=>k) (jE k (Wr _) ld (xM w))) λ_ k=>⟨bt d t,k⟩) Iq λ_ k=>⟨bt j t,k⟩) (λ_ k=>⟨trivial,k⟩) λ_ k=>⟨bt i t,k⟩) (bc q)
noncomputable abbrev PD(m:Int)(x o:List UInt8):V:=.inst 190 [.int m,.bytes x,.bytes o]
noncomputable def sY(m:Int)(x:List UInt8):List UInt8:=bif m==16384 then x++[47]else x
theorem sZ(k:Kn g K)(y:1<=n)(d:x.length<=1000000):cS g n 173 [PD m x o] (some (.bytes (sY m x))):=λ{Q X h} q=>by
 refine((aH (n:=0) (k.H 0) k.Entry_sort_key rfl ?_).call).up y
 unfold sY at q
 refine a6 (v:=bif m==16384 then .bytes (x++[47])else .bytes x) (kF (b:=m==16384) (λ_ k=>⟨trivial,k⟩) (λe=>?_) λe=>?_) (bc ?_)
 ·rw[e];exact λ_ k=>⟨trivial,(Wh (Ww d) dD:AK (x.length+1)),k⟩
 ·rw[e];exact λ_ k=>⟨trivial,k⟩
 ·generalize h:(m==16384)=j;cases j <;> rw[h]at q <;> exact q
theorem l4{m:MT}{E d:PT}{X:St->Prop}{st:St}{c f:Addr}{us vs:List V}{v:V}(h1:Ev E X st (.inst c us))(e:m.c.lookup c=some f)(q:Ev d X st (.lst vs))(hc:cS g n f (.inst c us::vs) (some v)):Ev (av g n m E d) X st v:=λ_ k=>h1 _ (az e (q _ (hc k)))
theorem bq{E:PT}{X:St->Prop}{st:St}{v w:V}(h:Ev E X st v)(e:v=w):Ev E X st w:=e▸h
theorem L7(f:σ->St)(I:Nat->σ->Prop)(h0:∀s,I 0 s->Ev Wt X (f s) (.bool false)∧r Q X (f s))
 (h1:∀m s,I (m+1) s->Ev Wt X (f s) (.bool true)∧∀Qc:V->St->Prop,(∀s',I m s'->Qc .none (f s'))->(∀v st',Q (.tup [v]) st'->Qc (.tup [v]) st')->W Qc X (f s)) (m:Nat) (s:σ) (i:I m s):ah (fX Wt W) r Q X (f s):=
 have w:∀(m:Nat) (s:σ),I m s->rS Wt W (m+1) (λf st1=>br (isNone f) (r Q X st1) (Q f st1)) X (f s):=λm=>by
  induction m with
  |zero=>exact λs i=>(h0 s i).1 _ (h0 s i).2
  |succ m ih=>exact λs i=>(h1 m s i).1 _ ((h1 m s i).2 _ (λs' i'=>ih s' i') λ_ _ q=>q)
 ⟨m+1,w m s i⟩
noncomputable def kH:Nat->Nat->List UInt8
 |0,_=>[]
 |f+1,m=>((48+m%8).toUInt8)::kH f (m/8)
def pL:Nat->Nat->Prop
 |0,m=>m=0
 |f+1,m=>0<m∧pL f (m/8)
theorem BU(e:h c=some (.ba l)):res h (.ref c)=.ref c:=by
 show Xa (motive:=λ_=>V) (h c) _ _=_
 rw[e]
theorem PF(e:h c=some (.ba l))(Qv:VP)(q:Qv (.int l.length) h):c4 (.ref c) h Qv:=by unfold c4;rw[BU e];exact az e q
theorem PG(e:h c=some (.ba l))(Qv:VP)(q:Qv (.bytes l) h):du (.ref c) h Qv:=by unfold du;rw[BU e];exact az e q
theorem DH(e:h c=some (.ba l))(d:m.a=some p)(q:k p):pick m (.ref c) h k y:=by unfold pick;rw[BU e];exact az e (az d q)
theorem UK{r:PT}{Q:V->St->Prop}{X:St->Prop}{st:St}{i:Nat}(k:∀c,st.h c=none->r Q X ⟨st.loc.set i (some (.ref c)),upd st.h c (some (.ba []))⟩):ah (aD (aj i) (dn wx ag)) r Q X st:=Wm rfl k
structure VX(h:AH)(c:Addr)(r:List UInt8)(f j m:Nat)(l:List UInt8)(h':AH):Prop where
 o:pL j m
 e:l++kH j m=r
 w:oi h c (.ba l) h'
 n:l.length+j=f+1
theorem zY(k:Kn g K)(D:1<=n)(f:Nat){m:Nat}(B:pL (f+1) m)(J:f<=100):cS g n 201 [.int m] (some (.bytes (kH (f+1) m).reverse)):=λ{Q X h} q=>by
 refine((aH (n:=0) (k.H 0) k.object_by_eights rfl ?_).call).up D
 refine UK λc hc=>?_
 refine L7 (λs:Nat×List UInt8×AH=>⟨[some (.int s.1),some (.ref c)],s.2.2⟩) (λj s=>VX h c (kH (f+1) m) f j s.1 s.2.1 s.2.2) (λs i=>⟨?_,?_⟩) (λj s i=>⟨?_,λz k U=>?_⟩) (f+1) (m,[],upd h c (some (.ba []))) ⟨B,rfl,oi.new,Xx _⟩
 ·obtain⟨a,l,x⟩:=s
  obtain⟨rfl,u,d,y⟩:=i
  exact cg (a:=false) Iq λ_=>fB (bJ (l0 Iq (PF d.at_)) Iq λ_ k=>by rw[show l.length=f+1 from y];exact k)
 ·have e:s.2.1=kH (f+1) m:=by rw[←i.e];exact(WT _).symm
  refine zO (st':=⟨[some (.int s.1),some (.ref c)],upd s.2.2 c (some (.ba s.2.1.reverse))⟩) (λz k=>?_) ?_
  ·exact DH i.w.at_ rfl (az i.w.at_ k)
  ·rw[←e]at q
   exact a6 (l0 Iq (PG i.w.put.at_)) (.mk (i.w.put.sub hc) q)
 ·have p:decide ((s.1:Int)>0)=true:=decide_eq_true (Xv.mpr i.o.1)
  exact bq (cg (b:=false) Iq λe=>absurd (p.symm.trans e) dD) (congrArg (λb=>V.bool (b||false)) p)
 ·obtain⟨a,l,x⟩:=s
  obtain⟨R,u,d,y⟩:=i
  have lt:a%8<8:=ab1 _ dD
  have S:((48:Int)+(a:Int).fmod 8)=((48+a%8:Nat):Int):=by rw[abe _ dD];rfl
  have L:(a:Int).fdiv 8=((a/8:Nat):Int):=by rw[Int.fdiv_eq_ediv_of_nonneg _ dD];rfl
  refine zO (st':=⟨[some (.int a),some (.ref c)],upd x c (some (.ba (l++[(48+a%8).toUInt8])))⟩) (λz k=>?_) ?_
  ·refine DH d.at_ rfl (Wm (show(8:Int)≠0 by decide) (az d.at_ ?_))
   rw[S]
   exact Wm ⟨⟨WG _,Xv.mpr (XN (aaV lt 48) dD)⟩,Wz (Wh (WA _ _) (Xz y)) (Wz (Ww J) dD)⟩ k
  ·refine aZ (v:=.int (a/8:Nat)) (λ_ k=>Wm ⟨by decide,rfl⟩ (by rw[L];exact k)) (k (a/8,l++[(48+a%8).toUInt8],_) ⟨R.2,by rw[←u,Wx];rfl,d.put,by rw[Wk,←y];exact(X1 _ _ _)⟩)
theorem s6(k:Kn g K)(z:2<=n){f m:Nat}{x o:List UInt8}(i:pL (f+1) m)(u:f<=100)(y:((kH (f+1) m).reverse++[32]++x++[0]++o).length<=1000000):cS g n 187 [PD m x o] (some (.bytes ((kH (f+1) m).reverse++[32]++x++[0]++o))):=λ{Q X h} q=>by
 refine((aH (n:=1) (k.H 1) k.Entry_octets rfl ?_).call).up z
 have j:=cB y
 have d:=cB j
 have t:1000000<=16777216:=dD
 exact a6 (eb (eb (eb (eb (aG (λ_ k=>⟨trivial,k⟩) (zY k (Wr _) f i u)) Iq λ_ k=>⟨bt (cB d) t,k⟩) (λ_ k=>⟨trivial,k⟩) λ_ k=>⟨bt d t,k⟩) Iq λ_ k=>⟨bt j t,k⟩) (λ_ k=>⟨trivial,k⟩) λ_ k=>⟨bt y t,k⟩) (bc q)
noncomputable def m8(m:Nat):List UInt8:=(kH (bif m==16384 then 5 else 6) m).reverse
inductive s7:Nat->Prop
 |five:s7 16384
 |six {m:Nat}:pL 6 m->m≠16384->s7 m
structure a9 where
 m:Nat
 x:List UInt8
 o:List UInt8
noncomputable def a9.v(e:a9):V:=PD e.m e.x e.o
noncomputable def a9.oct(e:a9):List UInt8:=m8 e.m++[32]++e.x++[0]++e.o
inductive M8(m:Nat):Prop
 |mk (f:Nat) (h1:pL (f+1) m) (h2:f<=100) (e:m8 m=(kH (f+1) m).reverse)
theorem SJ(h:s7 m):M8 m:=by
 cases h with
 |five=>exact⟨4,⟨dD,dD,dD,dD,dD,rfl⟩,dD,rfl⟩
 |six h1 d=>exact⟨5,h1,dD,by unfold m8;rw[beq_eq_false_iff_ne.mpr d];rfl⟩
theorem xP(k:Kn g K)(i:2<=n){e:a9}(y:s7 e.m)(d:e.oct.length<=1000000):cS g n 187 [e.v] (some (.bytes e.oct)):=by
 obtain⟨f,h1,j,q⟩:=SJ y
 have q:e.oct=(kH (f+1) e.m).reverse++[32]++e.x++[0]++e.o:=by unfold a9.oct;rw[q]
 rw[q]at d ⊢
 exact λ{_ _ _}=>s6 k i h1 j d
noncomputable def cv(l:List a9):List UInt8:=(l.map a9.oct).flatten
noncomputable abbrev dF(l:List a9):V:=.inst 239 [.lst (l.map a9.v)]
theorem fQ:∀l:List (List UInt8),aM [] l=l.flatten:=by
 intro w1
 induction w1 with
 |nil=>
  exact rfl
 |cons a w2 ih=>
  cases w2 with
  |nil=>
   exact(WT a).symm
  |cons b r=>
   show a++[]++aM [] (b::r)=a++(b::r).flatten;rw[ih,WT]
theorem nu{d:Type}{l:List (List d)}{a:List d}(h:a∈l):a.length<=l.flatten.length:=by
 induction l with
 |nil=>cases h
 |cons c r q=>
  rw[YR,Wk]
  cases h with
  |head=>exact WA _ _
  |tail _ h=>exact Wh (q h) (X5 _ _)
theorem kS(k:Kn g K)(j:3<=n){l:List a9}(y:∀e∈l,s7 e.m)(z:l.length<1000000)(hb:(cv l).length<=1000000):cS g n 229 [dF l] (some (.bytes (cv l))):=λ{Q X h} q=>by
 refine((aH (n:=2) (k.H 2) k.Tree_octets rfl ?_).call).up j
 refine vu Iq (WI _) λc hc=>?_
 refine ea (e:=a9.v) (l:=l) (λs:List a9×Option V×AH=>⟨[some (dF l),some (.ref c),s.2.1],s.2.2⟩) (λr s=>oi h c (.list (s.1.map λe=>.bytes e.oct)) s.2.2∧s.1++r=l) ([],none,upd h c (some (.list []))) (λ_ k=>⟨trivial,k⟩) ⟨oi.new,rfl⟩ (λs i=>?_) λe r s i w u p=>?_
 ·have e:s.1=l:=by rw[←i.2];exact(WT _).symm
  refine a6 (kG Iq rfl (ar Iq λ_ k=>k) λ_ k=>IF i.1.at_ (az (dP a9.oct s.1) (Wm ?_ k))) (.mk (i.1.sub hc) ?_)
  ·rw[fQ,e];exact Wh hb dD
  ·rw[fQ,e];exact q
 ·have d:e∈l:=by rw[←i.2];exact WW _ (.head _)
  refine eI (v:=.bytes e.oct) (l4 Iq rfl Iq (xP k (Wr _) (y e d) (Wh (nu (X8 d)) hb))) rfl i.1.at_ (by rw[Wp];exact Wz (by rw[←i.2,Wk];exact WA _ _) z) ?_
  refine u (s.1++[e],some e.v,_) ⟨?_,by rw[Wx];exact i.2⟩
  rw[WQ];exact i.1.put
end
noncomputable def L8:List (Bool×V)->V->V
 | [],d=>d
 |p::r,d=>bif p.1 then p.2 else L8 r d
theorem SK(e:b=true):L8 ((b,v)::r) d=v:=by rw[e];rfl
theorem NZ(e:b=false):L8 ((b,v)::r) d=L8 r d:=by rw[e];rfl
section
variable{g:Gl}{K:Frag}{n:Nat}{h:AH}
theorem DI(hC:Ev C (bz X) ⟨loc,h⟩ (.bool b))(y:Ev E (bz X) ⟨loc,h⟩ v)(q:Q (L8 ((b,v)::l) d) h)(k:Q (L8 l d) h->r (dE Q) (bz X) ⟨loc,h⟩):ah (bA C (ah (aO E) ai) ai) r (dE Q) (bz X) ⟨loc,h⟩:=
 bI hC (λ_=>y) (λe=>bc (v:=v) (by rw[SK e]at q;exact q)) λe=>k (by rw[NZ e]at q;exact q)
noncomputable def IP(x s:List UInt8):Bool:=s.any λc=>decide (a4 x [c] 0≥0)
noncomputable def dQ(x:List UInt8):V:=L8 [(x==[],.str [97,110,32,101,109,112,116,121,32,110,97,109,101]),(([46]==x)||(([46,46]==x)||false),.str [97,32,110,97,109,101,32,111,102,32,100,111,116,115]),(x.map Z1==[46,103,105,116],.str [116,104,101,32,110,97,109,101,32,111,102,32,116,104,101,32,115,116,111,114,101,32,105,116,115,101,108,102]),(IP x [47,0],.str [97,32,110,97,109,101,32,119,105,116,104,32,97,32,115,116,114,111,107,101,32,111,114,32,97,32,110,111,117,103,104,116])] .none
theorem cW{W:PT}{X:St->Prop}{st:St}{b:Bool}(h:Ev W X st (.bool b)):Ev (cu W) X st (.bool b):=λ_ k=>h _ k
theorem xQ(k:Kn g K)(d:2<=n):cS g n 208 [.bytes x] (some (dQ x)):=λ{Q X h} q=>by
 refine((aH (n:=1) (k.H 1) k.object_name_fault rfl ?_).call).up d
 refine DI Iq Iq q λq=>DI (λ_ k=>Wm (Wj rfl) k) Iq q λq=>DI Iq Iq q λq=>DI (cW (aG Iq (sW k (Wr _)))) Iq q λq=>a6 Iq (bc q)
theorem IQ(e:h c=o):upd h c o=h:=funext λa=>(Yt (a=c)).elim (λq=>by rw[q,aB,e]) aE
noncomputable abbrev PH(g:Gl)(n i:Nat)(E:PT):PT:=ah (fY (av g n aK (ae i) (aa E ag))) ai
noncomputable def rh(b:Bool)(v:V):List V:=bif b then[v]else[]
theorem SM(e:b=false)(q:h c=some (.list vs)):upd h c (some (.list (vs++rh b v)))=h:=by rw[e];exact IQ (q.trans (by rw[show rh false v=[]from rfl,WT]))
theorem rD(hC:Ev C X ⟨loc,h⟩ (.bool b))(d:Ev E X ⟨loc,h⟩ v)(y:(loc[i]?).join=some (.ref c))(e:h c=some (.list vs))(l:vs.length<1000000)(k:r Q X ⟨loc,upd h c (some (.list (vs++rh b v)))⟩):ah (bA C (PH g n i E) ai) r Q X ⟨loc,h⟩:=
 FL hC (λq=>eI d y e l (by rw[q]at k;exact k)) λq=>by rw[SM q e]at k;exact k
theorem IS(hC:Ev C X ⟨loc,h⟩ (.bool b))(z:Ev D X ⟨loc,h⟩ (.bool d))(j:Ev E X ⟨loc,h⟩ v)(u:Ev F X ⟨loc,h⟩ w)(y:(loc[i]?).join=some (.ref c))(e:h c=some (.list vs))(l:vs.length<1000000)(k:r Q X ⟨loc,upd h c (some (.list (vs++bif b then[v]else rh d w)))⟩):ah (bA C (PH g n i E) (ah (bA D (PH g n i F) ai) ai)) r Q X ⟨loc,h⟩:=
 FL hC (λq=>eI j y e l (by rw[q]at k;exact k)) λq=>rD z u y e l (by rw[q]at k;exact k)
structure s8(h0:AH)(c d:Addr)(o p:O)(h:AH):Prop where
 ne:c≠d
 at_:h c=some o
 dt:h d=some p
 old:∀a,a≠c->a≠d->h a=h0 a
theorem s8.put(w:s8 h0 c d o p h):s8 h0 c d o' p (upd h c (some o')):=⟨w.ne,aB _ _ _,(aE (X6 w.ne)).trans w.dt,λa x y=>(aE x).trans (w.old a x y)⟩
theorem s8.put2(w:s8 h0 c d o p h):s8 h0 c d o q (upd h d (some q)):=⟨w.ne,(aE w.ne).trans w.at_,aB _ _ _,λa x y=>(aE y).trans (w.old a x y)⟩
theorem s8.sub(w:s8 h0 c d o p h)(n1:h0 c=none)(n2:h0 d=none):Sub h0 h:=λa b e=>(w.old a (λq=>by rw[q,n1]at e;cases e) λq=>by rw[q,n2]at e;cases e).trans e
noncomputable def UL(o:Option (List UInt8)):V:=Xa (motive:=λ_=>V) o .none .bytes
noncomputable def fK(m:Int):Bool:=(33188==m)||((33261==m)||((40960==m)||((16384==m)||((57344==m)||false))))
noncomputable def uN(o:Option (List UInt8))(x:List UInt8):Bool:=o.elim false λy=>abw x y != .gt
noncomputable abbrev DB:=List (List UInt8×V)
noncomputable def known(l:DB)(x:List UInt8):Bool:=(atKey l x).isSome
noncomputable def s9(e:a9)(l:DB)(a:Option (List UInt8))(d:List V):List V:=
 (((d++rh (!fK e.m) (.str [97,32,109,111,100,101,32,116,104,97,116,32,105,115,32,110,111,110,101]))++rh (!isNone (dQ e.x)) (dQ e.x))++bif known l e.x then[.str [97,32,110,97,109,101,32,116,119,105,99,101]]else rh (uN a (sY e.m e.x)) (.str [101,110,116,114,105,101,115,32,111,117,116,32,111,102,32,111,114,100,101,114]))++rh (e.o.all λc=>[0].contains c) (.str [97,110,32,105,100,32,111,102,32,110,111,117,103,104,116,115])
noncomputable def fh:List a9->DB->Option (List UInt8)->List V->List V
 | [],_,_,d=>d
 |e::r,l,a,d=>fh r (fF l e.x (.bool .true)) (some (sY e.m e.x)) (s9 e l a d)
theorem IT{l:DB}{x:List UInt8}{v:V}:(fF l x v).length<=l.length+1:=by
 unfold fF
 cases l.any λd=>decide (d.1=x)with
 |true=>rw[if_pos rfl,Wp];exact XC _
 |false=>rw[if_neg ff,Wk];exact Wr _
theorem nv:(rh b v).length<=1:=by
 cases b with
 |false=>exact WI _
 |true=>exact Wr _
theorem L9:(bif b then[v]else rh d w).length<=1:=by
 cases b with
 |false=>exact nv
 |true=>exact Wr _
theorem rE{d:Type}{a b:List d}{m:Nat}(h:a.length<=m)(l:b.length<=1):(a++b).length<=m+1:=by rw[Wk];exact WH h l
theorem Ma{P:V->Prop}{d:V}(hd:P d):∀{l:List (Bool×V)},(∀p∈l,P p.2)->P (L8 l d):=by
 intro j
 induction j with
 |nil=>
  intro _
  exact hd
 |cons p r i=>
  intro h
  show P (bif p.1 then p.2 else L8 r d)
  cases p.1 with
  |true=>exact h p (.head _)
  |false=>exact i λq y=>h q (.tail _ y)
theorem IU:∀{l:List (Bool×V)},l.all (λp=>V.casesOn (motive_1:=λ_=>Bool) p.2 true (λ_=>true) (λ_=>true) (λ_=>true) (λ_=>true) (λ_=>false) (λ_=>true) (λ_=>true) (λ_=>true) (λ_ _=>true))=true->∀p∈l,jj p.2:=λh p hp=>by
 have:=W0.mp h p hp
 generalize e:p.2=d;cases d <;> rw[e]at this <;> first|exact trivial|cases this
theorem FP(x:List UInt8):jj (dQ x):=Ma trivial (IU rfl)
theorem ny(e:h c=some (.dict k l)):res h (.ref c)=.ref c:=by
 show Xa (motive:=λ_=>V) (h c) _ _=_
 rw[e]
theorem in_dict(e:h c=some (.dict .b l))(q:P (known l x)):RD (.bytes x) (.ref c) h P:=by unfold RD;rw[ny e];exact az e q
theorem N0{O E r:PT}{Q:V->St->Prop}{X:St->Prop}{loc:List (Option V)}{i:Nat}{c:Addr}{l:DB}{x:List UInt8}{v:V}(q:Ev E X ⟨loc,h⟩ v)(y:(loc[i]?).join=some (.ref c))(d:Ev O uZ ⟨loc,h⟩ (.bytes x))(e:h c=some (.dict .b l))(n:l.length<1000000)(k:r Q X ⟨loc,upd h c (some (.dict .b (fF l x v)))⟩):ah (aD (fW (ae i) O) E) r Q X ⟨loc,h⟩:=
 q _ (az y (d _ (az e (Wm n k))))
theorem PJ(k:∀c d,h c=none->h d=none->c≠d->r Q X ⟨vX loc is [v,.ref d,.ref c],upd (upd h c (some (.list []))) d (some (.dict .b []))⟩)(l:is.length=3):ah (bZ is (aa (gy ag) (aa (sd .b) (aa (af v) ag)))) r Q X ⟨loc,h⟩:=
 Wm (WI _) λc hc d hd=>Wm (Wj rfl) (Wm l (by
  have hd:upd h c (some (.list [])) d=none:=hd
  have y:c≠d:=λq=>by rw[←q,aB]at hd;cases hd
  exact k c d hc ((aE (X6 y)).symm.trans hd) y))
structure TF(h:AH)(c d:Addr)(F:List V)(r:List a9)(acc:List V)(l:DB)(a:Option (List UInt8))(h':AH):Prop where
 w:s8 h c d (.list acc) (.dict .b l) h'
 f:fh r l a acc=F
 n:acc.length+4*r.length<=40000
 m:l.length+r.length<=10000
 x:∀e∈r,e.x.length<=1000000
theorem uO(k:Kn g K)(R:3<=n)(L:j.length<=10000)(hx:∀e∈j,e.x.length<=1000000):cS g n 250 [dF j] (some (.lst (fh j [] none []))):=λ{Q X h} q=>by
 refine((aH (n:=2) (k.H 2) k.tree_faults rfl ?_).call).up R
 refine PJ (λc d hc B p=>?_) rfl
 refine ea (e:=a9.v) (l:=j) (λs:(List V×DB×Option (List UInt8))×Option V×Option V×AH=>⟨[some (dF j),some (.ref c),some (.ref d),some (UL s.1.2.2),s.2.1,s.2.2.1],s.2.2.2⟩) (λr s=>TF h c d (fh j [] none []) r s.1.1 s.1.2.1 s.1.2.2 s.2.2.2) (([],[],none),none,none,_) (λ_ k=>⟨trivial,k⟩) ⟨⟨p,(aE p).trans (aB _ _ _),aB _ _ _,λa x y=>(aE y).trans (aE x)⟩,rfl,by rw[Yh,Xx];exact W9 4 L,by rw[Yh,Xx];exact L,hx⟩ (λs i=>?_) λe r s i E kn Z=>?_
 ·refine a6 Iq (.fr c s.1.1 i.w.at_ ?_)
  show Fin Q (if c=c then .lst s.1.1 else .ref c) _
  rw[if_pos rfl,show s.1.1=_ from i.f]
  exact .mk (λa b z=>(aE (λy=>by rw[y,hc]at z;cases z)).trans (i.w.sub hc B a b z)) q
 ·have w:=i.w
  have S:s.1.1.length<=39996:=Wh (WA _ _) (Nat.le_of_add_le_add_right (b:=4) i.n)
  have J:=Wr s.1.1.length
  have u:∀{m},m<=3->s.1.1.length+m<1000000:=λl=>Wz (WH S l) dD
  have n1:=rE J (nv (b:=!fK e.m) (v:=.str [97,32,109,111,100,101,32,116,104,97,116,32,105,115,32,110,111,110,101]))
  have n2:=rE n1 (nv (b:=!isNone (dQ e.x)) (v:=dQ e.x))
  have D:=rE n2 (L9 (b:=known s.1.2.1 e.x) (d:=uN s.1.2.2 (sY e.m e.x)) (v:=.str [97,32,110,97,109,101,32,116,119,105,99,101]) (w:=.str [101,110,116,114,105,101,115,32,111,117,116,32,111,102,32,111,114,100,101,114]))
  refine rD (λ_ k=>⟨trivial,k⟩) Iq rfl w.at_ (Wz J (u (WI _))) ?_
  refine aZ (aG (λ_ k=>⟨trivial,k⟩) (xQ k (Wr _))) ?_
  refine rD (b:=!isNone (dQ e.x)) (λ_ k=>⟨FP _,k⟩) Iq rfl w.put.at_ (Wz n1 (u dD)) ?_
  refine IS (b:=known s.1.2.1 e.x) (d:=uN s.1.2.2 (sY e.m e.x)) (bJ (λ_ k=>⟨trivial,k⟩) Iq λ_ k=>in_dict w.put.put.dt k) ?_ Iq Iq rfl w.put.put.at_ (Wz n2 (u dD)) ?_
  ·rcases s.1.2.2 with _|y
   ·exact eH (a:=false) (b:=false) (λ_ k=>⟨trivial,k⟩) ff
   ·exact eH (a:=true) (λ_ k=>⟨trivial,k⟩) λ_=>lZ (bJ (l4 Iq rfl Iq (sZ k dD (i.x e (.head _)))) Iq λ_ k=>k)
  refine rD (cW (aG (ar (λ_ k=>⟨trivial,k⟩) λ_ k=>k) (jU k dD))) Iq rfl w.put.put.put.at_ (Wz D (u dD)) ?_
  refine N0 Iq rfl (λ_ k=>⟨trivial,k⟩) w.put.put.put.put.dt (Wz (Wh (WA _ _) i.m) dD) ?_
  refine aZ (l4 Iq rfl Iq (sZ k dD (i.x e (.head _)))) ?_
  refine kn ((s9 e s.1.2.1 s.1.2.2 s.1.1,fF s.1.2.1 e.x (.bool .true),some (sY e.m e.x)),some e.v,some (dQ e.x),_) ⟨w.put.put.put.put.put2,i.f,?_,?_,λU Y=>i.x U (.tail _ Y)⟩
  ·have:=rE D (nv (b:=e.o.all λc=>[0].contains c) (v:=.str [97,110,32,105,100,32,111,102,32,110,111,117,103,104,116,115]))
   exact Wh (WE this _) (Wh (Xz (X1 _ 4 _)) i.n)
  ·exact Wh (WE IT _) (by rw[WV,Xd 1];exact i.m)
end
noncomputable def bh(c:UInt8):List UInt8->Option Nat
 | []=>none
 |x::r=>bif x==c then some 0 else(bh c r).map (· + 1)
theorem iu:∀{p:List UInt8},c∉p->bh c (p++c::r)=some p.length:=by
 intro d
 induction d with
 |nil=>
  intro _
  show(bif c==c then _ else _)=_;rw[beq_self_eq_true];rfl
 |cons x p q=>
  intro h
  show(bif x==c then _ else(bh c (p++c::r)).map (· + 1))=_
  rw[q λm=>h (.tail _ m),beq_eq_false_iff_ne.mpr λe=>h (by rw[e];exact .head _)];rfl
theorem DJ:∀{l:List UInt8},c∉l->bh c l=none:=by
 intro d
 induction d with
 |nil=>
  intro _
  exact rfl
 |cons x l q=>
  intro h
  show(bif x==c then _ else(bh c l).map (· + 1))=_
  rw[q λm=>h (.tail _ m),beq_eq_false_iff_ne.mpr λe=>h (by rw[e];exact .head _)];rfl
inductive UM(c:UInt8)(l:List UInt8)(i:Nat):Prop
 |mk (p r:List UInt8) (e:l=p++c::r) (h:c∉p) (n:p.length=i)
theorem fR(e:bh c l=some i):UM c l i:=by
 by_cases h:c∈l
 ·obtain⟨p,r,q,hp⟩:=Y5 h
  rw[q,iu hp]at e
  exact⟨p,r,q,hp,W4 e⟩
 ·rw[DJ h]at e;cases e
theorem FQ(e:bh c l=none):c∉l:=λh=>by
 refine Wy λno=>?_
 obtain⟨p,r,q,hp⟩:=Y5 h
 refine no ?_
 rw[q,iu hp]at e;cases e
noncomputable def SO(k:Nat)(o:Option Nat):Int:=Xa (motive:=λ_=>Int) o (-1) λi=>((k+i:Nat):Int)
theorem zZ{b:List UInt8}{c:UInt8}:∀{l:List UInt8} {k:Nat},b.drop k=l->((XI l.length).map (· + k)).find? (λi=>(b.drop i).take 1==[c])=(bh c l).map (k+·)
 | [],_,_=>rfl
 |x::r,k,e=>by
  have d:b.drop (k+1)=r:=by rw[←Xl,e];rfl
  rw[WX,aet,WZ,ZC,Xx,e]
  show(match([x]==[c])with|true=>some k|false=>_)=(bif x==c then some 0 else(bh c r).map (· + 1)).map (k+·)
  rw[show([x]==[c])=(x==c)from acG _]
  cases x==c with
  |true=>rfl
  |false=>
   show List.find? _ _=((bh c r).map (· + 1)).map (k+·)
   have q:=zZ (c:=c) d
   rw[XM,show((λx=>x+k)∘adU)=(· + (k+1))from funext λi=>X1 i 1 k,q,aae]
   exact congrArg (λf=>(bh c r).map f) (funext λi=>(WV k 1 i).trans (congrArg (k+·) (Xd 1 i)))
theorem ta(b:List UInt8)(c:UInt8)(k:Nat):a4 b [c] k=SO k (bh c (b.drop k)):=by
 have key:=zZ (c:=c) (rfl:b.drop k=_)
 unfold a4
 by_cases d:b.length<k+[c].length
 ·rw[if_pos d,Zv (ZK d)];rfl
 ·rw[if_neg d]
  unfold findIn
  rw[W7,←Nat.add_sub_add_right b.length 1 k]at key
  rw[show((XI (b.length+1-(k+[c].length))).map (· + k)).find? (λi=>(b.drop i).take [c].length==[c])=_ from key]
  cases bh c (b.drop k) <;> rfl
section
variable{g:Gl}{K:Frag}{n:Nat}{h:AH}
theorem xR(k:Kn g K)(j:4<=n)(y:d.length<=10000)(hx:∀e∈d,e.x.length<=1000000):cS g n 257 [dF d] (bif (fh d [] none []).isEmpty then some .none else none):=λ{Q X h} q=>by
 refine((aH (n:=3) (k.H 3) k.check_tree rfl ?_).call).up j
 refine aZ (aG Iq (uO k (Wr _) y hx)) ?_
 generalize fh d [] none []=f at q
 cases f with
 |nil=>exact jf Iq rfl (bc q)
 |cons v r=>exact d9 (b:=true) (bq Iq (congrArg V.bool (decide_eq_true (Xv.mpr (XF r.length))))) rfl (v:=v) (λ_ k=>Wm (aaH 0) k) (fJ q)
noncomputable def nz(d:List a9)(x:List UInt8):V:=Xa (motive:=λ_=>V) (d.find? λe=>e.x==x) .none a9.v
theorem qg(k:Kn g K)(y:1<=n):cS g n 236 [dF d,.bytes x] (some (nz d x)):=λ{Q X h} q=>by
 refine((aH (n:=0) (k.H 0) k.Tree_find rfl ?_).call).up y
 refine ea (e:=a9.v) (λs:Option V=>⟨[some (dF d),some (.bytes x),s],h⟩) (λl _=>Q (nz l x) h) none (λ_ k=>⟨trivial,k⟩) q (λs q=>a6 Iq (bc q)) λe r s q i k j=>?_
 unfold nz at q
 rw[ZC]at q
 refine bI (b:=e.x==x) (λ_ k=>⟨trivial,k⟩) (λ_ _ k=>k) (λb=>?_) λb=>k _ ?_
 ·rw[b]at q;exact j _ _ (bc q)
 ·rw[b]at q;exact q
noncomputable def kI:List UInt8->Int->Int
 | [],a=>a
 |c::r,a=>kI r (8*a+(c.toNat:Nat)-48)
noncomputable def g7:List Nat:=[33188,33261,40960,16384,57344,33204]
noncomputable def IV:List UInt8:=[48,49,50,51,52,53,54,55]
noncomputable def vy(i:Int):Bool:=g7.any λm=>(m:Int)==i
noncomputable def nA(c:UInt8)(r:List UInt8):Bool:=!((c::r).all λc=>IV.contains c)||(((c.toNat:Int)==48)||decide (((c::r).length:Int)>6))
noncomputable def bU:List UInt8->Option Nat
 | []=>none
 |c::r=>bif nA c r then none else bif vy (kI (c::r) 0)then some (kI (c::r) 0).toNat else none
theorem tb:bU (c::r)=bif nA c r then none else bif vy (kI (c::r) 0)then some (kI (c::r) 0).toNat else none:=rfl
theorem FR(h:vy i=true):(i.toNat:Int)=i:=by
 obtain⟨m,_,e⟩:=ZT.mp h
 rw[←eq_of_beq e];rfl
theorem IW(i:Int):(!fK i&&!(i==33204))=!vy i:=by
 rw[BEq.comm (a:=i),←Bool.not_or]
 congr 1
 show(((_||(_||(_||(_||(_||false)))))||_):Bool)=(_||(_||(_||(_||(_||(_||false))))))
 simp only[Bool.or_assoc,Bool.false_or,ZD]
 rfl
theorem FT(k:Kn g K)(y:2<=n):cS g n 264 [.bytes b] ((bU b).map λm:Nat=>V.int m):=λ{Q X h} q=>by
 refine((aH (n:=1) (k.H 1) k.object_mode_of rfl ?_).call).up y
 cases b with
 |nil=>exact d9 (cg (b:=false) Iq tf) rfl Iq (fJ q)
 |cons c r=>
  refine bP (cg (a:=false) Iq λ_=>cg (jC (cW (aG Iq (jU k (Wr _))))) λ_=>cg (bJ (dy Iq Iq λ_ k=>Wm (aaH 0) k) Iq λ_ k=>k) λ_=>fB Iq) (λ_ _ k=>k) (λe=>?_) λe=>?_
  ·have e:nA c r=true:=e
   rw[tb]at q
   rw[e]at q
   exact fJ q
  ·have e:nA c r=false:=e
   rw[tb]at q
   rw[e]at q
   refine aZ Iq (ea (e:=λc:UInt8=>.int (c.toNat:Nat)) (λs:Int×Option V=>⟨[some (.bytes (c::r)),some (.int s.1),s.2],h⟩) (λl s=>kI l s.1=kI (c::r) 0) (0,none) Iq rfl (λs i=>?_) λd l s i j k z=>?_)
   ·have i:s.1=kI (c::r) 0:=i
    refine bP (eH Iq λ_=>lZ Iq) (λ_ _ k=>k) (λe=>fJ ?_) λe=>a6 Iq (bc ?_)
    all_goals
     have e:=(IW s.1).symm.trans e
     rw[i]at e
    ·rw[cw e]at q;exact q
    ·have e:=nr e
     rw[e]at q
     rw[i,←FR e];exact q
   ·exact aZ (λ_ k=>Wm (BP dD dD) k) (k (_,_) i)
end
section
theorem eP{b:Nat}:bY l none (some (b:Int))=l.take b:=by
 show(l.drop 0).take (abS l.length b-0)=_
 rw[aeH]
 exact(aeU ..).symm
theorem dg{a:Nat}:bY l (some (a:Int)) none=l.drop a:=by
 show(l.drop (abS l.length a)).take (l.length-abS l.length a)=_
 rw[aeH,Zt (by rw[W7];exact Wr _)]
 rcases Nat.le_total a l.length with h|h
 ·rw[Z8 h]
 ·rw[Nat.min_eq_right h,Zv h,List.drop_length]
theorem gf{a p:Nat}:bY l (some (a:Int)) (some ((a+p:Nat):Int))=(l.drop a).take p:=by
 show(l.drop (abS l.length a)).take (abS l.length (a+p:Nat)-abS l.length a)=_
 rw[aeH,aeH]
 rcases Nat.le_total a l.length with h|h
 ·rw[Z8 h,aeU (i:=p),W7,←Nat.sub_min_sub_right,aeq]
 ·rw[Nat.min_eq_right h,Zv h,List.drop_length,List.take_nil,List.take_nil]
end
section
variable{g:Gl}{K:Frag}{n:Nat}{h:AH}
theorem tc(f:σ->St)(I:Nat->σ->Prop)(t:σ->Bool)(ht:∀m s,I m s->Ev Wt X (f s) (.bool (t s)))(hz:∀s,I 0 s->t s=false)(h0:∀m s,I m s->t s=false->r Q X (f s))
 (h1:∀m s,I (m+1) s->t s=true->∀Qc:V->St->Prop,(∀s',I m s'->Qc .none (f s'))->(∀v st',Q (.tup [v]) st'->Qc (.tup [v]) st')->W Qc X (f s)) (m:Nat) (s:σ) (i:I m s):ah (fX Wt W) r Q X (f s):=
 have w:∀(m:Nat) (s:σ),I m s->rS Wt W (m+1) (λf st1=>br (isNone f) (r Q X st1) (Q f st1)) X (f s):=λm=>by
  induction m with
  |zero=>exact λs i=>ht _ s i _ (Vn (hz s i) (h0 _ s i (hz s i)))
  |succ m ih=>exact λs i=>ht _ s i _ (KE (λe=>h1 m s i e _ (λs' i'=>ih s' i') λ_ _ q=>q) λe=>h0 _ s i e)
 ⟨m+1,w m s i⟩
noncomputable def FU(m size p q:Nat)(s:List UInt8):Option (a9×Nat):=bif decide (s.length<q+1+size)then none else bif YB q 0 then none else some (⟨m,s.take q,(s.drop (q+1)).take size⟩,p+1+(q+1)+size)
noncomputable def ri(md:List UInt8->Option Nat)(size:Nat)(s:List UInt8):Option (a9×Nat):=(bh 32 s).bind λp=>(md (s.take p)).bind λm=>(bh 0 (s.drop (p+1))).bind λq=>FU m size p q (s.drop (p+1))
section
theorem BV(e1:bh 32 s=none):ri md size s=none:=by unfold ri;rw[e1];rfl
theorem BX(e1:bh 32 s=some p)(e2:md (s.take p)=none):ri md size s=none:=by unfold ri;rw[e1];show(md (s.take p)).bind _=none;rw[e2];rfl
theorem BY(e1:bh 32 s=some p)(e2:md (s.take p)=some m):ri md size s=(bh 0 (s.drop (p+1))).bind λq=>FU m size p q (s.drop (p+1)):=by unfold ri;rw[e1];show(md (s.take p)).bind _=_;rw[e2];rfl
end
noncomputable def gh(md:List UInt8->Option Nat)(size:Nat):Nat->List UInt8->Option (List a9)
 |0,_=>some []
 |f+1,s=>bif s.isEmpty then some []else(ri md size s).bind λx=>(gh md size f (s.drop x.2)).map (x.1::·)
noncomputable def eQ(md:List UInt8->Option Nat)(size:Nat)(s:List UInt8):Option (List a9):=gh md size s.length s
theorem BZ(e:s.isEmpty=false):gh md size (f+1) s=(ri md size s).bind λx=>(gh md size f (s.drop x.2)).map (x.1::·):=by
 show(bif s.isEmpty then _ else _)=_
 rw[e];rfl
theorem g8{b:List UInt8}{at_:Nat}:decide ((at_:Int)<b.length)=!(b.drop at_).isEmpty:=by
 rw[X4]
 simp[aeR]
theorem B0(e:s.isEmpty=true):gh md size f s=some []:=by
 cases f with
 |zero=>rfl
 |succ f=>show(bif s.isEmpty then _ else _)=_;rw[e];rfl
theorem rF(e:bh c l=some i):i<l.length:=by
 obtain⟨p,r,e,_,h⟩:=fR e
 rw[e,Wk,←h]
 exact Ys (XF _)
theorem IX{L a q size:Nat}(h:q<L-a):decide (((a+q:Nat):Int)+1+size>L)=decide (L-a<q+1+size):=decide_eq_decide.mpr (Xv.trans (by rw[Nat.sub_lt_iff_lt_add' (Xy (Nat.lt_of_sub_pos (Wz (WI _) h))),←WV,←WV]))
theorem IY:(((a+1+q:Nat):Int)==(a:Int)+1)=YB q 0:=by
 cases q with
 |zero=>exact beq_self_eq_true _
 |succ q=>exact beq_eq_false_iff_ne.mpr λe=>absurd (YH e) (YN (Ys (XF q)))
theorem B1(k:∀c,h c=none->r Q X ⟨vX loc is [v,.ref c],upd h c (some (.list []))⟩)(l:is.length=2):ah (bZ is (aa (gy ag) (aa (af v) ag))) r Q X ⟨loc,h⟩:=
 Wm (WI _) λc hc=>Wm (Wj rfl) (Wm l (k c hc))
theorem nB{x:Nat}:decide ((x:Int)<0)=false:=decide_eq_false (Y7.mpr (WG x))
structure RT(b:List UInt8)(size:Nat)(h:AH)(c:Addr)(Q:V->AH->Prop)(X:AH->Prop)(f:Nat)(acc:List a9)(at_:Nat)(h':AH):Prop where
 w:oi h c (.list (acc.map a9.v)) h'
 n:(b.drop at_).length<=f
 m:acc.length<=at_
 q:cy ((gh bU size f (b.drop at_)).map λr=>dF (acc++r)) Q X h
theorem z0(k:Kn g K)(hn:3<=n){b:List UInt8}{size:Nat}(hb:b.length<=900000):cS g n 271 [.bytes b,.int size] ((eQ bU size b).map dF):=λ{Q X h} q=>by
 refine((aH (n:=2) (k.H 2) k.read_tree rfl ?_).call).up hn
 refine B1 (λc hc=>?_) rfl
 refine tc (λs:(List a9×Nat)×Option V×Option V×Option V×AH=>⟨[some (.bytes b),some (.int size),some (.ref c),some (.int s.1.2),s.2.1,s.2.2.1,s.2.2.2.1],s.2.2.2.2⟩) (λf s=>RT b size h c Q X f s.1.1 s.1.2 s.2.2.2.2) (λs=>decide ((s.1.2:Int)<b.length)) (λm s i _ k=>k) (λs i=>?_) (λm s i e=>?_) (λf s i e0 Qc kn kr=>?_) b.length (([],0),none,none,none,upd h c (some (.list []))) ⟨oi.new,Wr _,Wr _,q⟩
 ·rw[g8,Xj.mpr (Xg (Y2 i.n))];rfl
 ·have q:=i.q
  rw[B0 (nr ((g8 (b:=b)).symm.trans e))]at q
  have q:Q (dF (s.1.1++[])) h:=q
  rw[WT]at q
  refine a6 (aG Iq (IM k (Wr _))) (.fr c _ i.w.at_ ?_)
  show Fin Q (.inst 239 [if c=c then .lst (s.1.1.map a9.v)else .ref c]) _
  rw[if_pos rfl,i.w.drop hc]
  exact bc q
 ·have q:=i.q
  rw[BZ (cw ((g8 (b:=b)).symm.trans e0))]at q
  refine aZ (bq (kG Iq rfl Iq λ_ k=>Wm ⟨WG _,rfl⟩ k) (congrArg V.int (ta b 32 s.1.2))) ?_
  generalize e1:bh 32 (b.drop s.1.2)=zz;cases zz with
  |none=>rw[BV e1]at q;exact d9 Iq rfl Iq (eF (i.w.sub hc) q)
  |some p=>
   refine jf Iq (decide_eq_false (Y7.mpr (WG _))) ?_
   have cm:cS g 2 264 [.bytes ((b.drop s.1.2).take p)] _:=FT k (Wr _)
   generalize e2:bU ((b.drop s.1.2).take p)=zz;cases zz with
   |none=>
    rw[BX e1 e2]at q
    rw[e2]at cm
    exact Dy λQe=>xK (ar (bq Iq (congrArg V.bytes gf)) λ_ k=>k) cm (eF (i.w.sub hc) q)
   |some m=>
    rw[BY e1 e2]at q
    rw[e2]at cm
    have d:(b.drop s.1.2).drop (p+1)=b.drop (s.1.2+p+1):=Xl ..
    refine aZ (aG (ar (bq Iq (congrArg V.bytes gf)) λ_ k=>k) cm) ?_
    refine aZ (bq (kG Iq rfl Iq λ_ k=>Wm ⟨WG (s.1.2+p+1),rfl⟩ k) (congrArg V.int (ta b 0 (s.1.2+p+1)))) ?_
    rw[d]at q
    generalize e3:bh 0 (b.drop (s.1.2+p+1))=zz;cases zz with
    |none=>rw[e3]at q;exact d9 (cg (b:=false) Iq λe=>nomatch (show true=false from e)) rfl Iq (eF (i.w.sub hc) q)
    |some r=>
     rw[e3]at q
     have lr:=rF e3
     rw[W7]at lr
     have q:cy ((((FU m size p r (b.drop (s.1.2+p+1))).bind λx=>(gh bU size f ((b.drop s.1.2).drop x.2)).map (x.1::·))).map λr=>dF (s.1.1++r)) Q X h:=q
     unfold FU at q
     rw[W7,←IX lr]at q
     refine bP (b:=decide (((s.1.2+p+1+r:Nat):Int)+1+size>b.length)) (bq (cg Iq λ_=>fB Iq) (congrArg (λx=>V.bool (x||_)) nB)) (λ_ _ k=>k) (λe=>?_) λe=>?_
     ·rw[e]at q;exact eF (i.w.sub hc) q
     ·rw[e,←IY (a:=s.1.2+p)]at q
      refine bP (b:=((s.1.2+p+1+r:Nat):Int)==((s.1.2+p:Nat):Int)+1) Iq (λ_ _ k=>k) (λe=>?_) λe=>?_
      ·rw[e]at q;exact eF (i.w.sub hc) q
      ·rw[e]at q
       have la:=Xv.mp (of_decide_eq_true e0)
       have pos:0<p+1+(r+1)+size:=WK (XF (p+1+r)) (WA _ _)
       refine eI (v:=a9.v ⟨m,(b.drop (s.1.2+p+1)).take r,((b.drop (s.1.2+p+1)).drop (r+1)).take size⟩) (aG (ar Iq (ar (bq Iq (congrArg V.bytes (gf (a:=s.1.2+p+1) (p:=r)))) (ar (bq Iq (congrArg V.bytes ((gf (a:=s.1.2+p+1+r+1) (p:=size)).trans (congrArg (aec size) (show b.drop (s.1.2+p+1+r+1)=(b.drop (s.1.2+p+1)).drop (r+1)from(Xl (i:=r+1) (j:=s.1.2+p+1) (l:=b)).symm))))) λ_ k=>k))) (DG k (Wr _))) rfl i.w.at_ ?_ ?_
       ·rw[Wp];exact Wz i.m (WK la (Wh hb dD))
       ·refine aZ (v:=.int ((s.1.2+(p+1+(r+1)+size):Nat):Int)) (bq Iq (congrArg (λx:Nat=>V.int x) (show s.1.2+p+1+r+1+size=s.1.2+(p+1+(r+1)+size) by simp only[WV]))) (kn ((s.1.1++[⟨m,(b.drop (s.1.2+p+1)).take r,((b.drop (s.1.2+p+1)).drop (r+1)).take size⟩],s.1.2+(p+1+(r+1)+size)),_,_,_,upd s.2.2.2.2 c (some (.list (s.1.1.map a9.v++[a9.v ⟨m,(b.drop (s.1.2+p+1)).take r,((b.drop (s.1.2+p+1)).drop (r+1)).take size⟩])))) ⟨?_,?_,?_,?_⟩)
        ·rw[WQ];exact i.w.put
        ·rw[W7]
         have:=i.n
         rw[W7]at this
         exact ZK (WK (aaU la (Ys pos)) this)
        ·rw[Wk];exact WH i.m pos
        ·have q:cy ((((gh bU size f ((b.drop s.1.2).drop (p+1+(r+1)+size))).map (a9.mk m ((b.drop (s.1.2+p+1)).take r) (((b.drop (s.1.2+p+1)).drop (r+1)).take size)::·))).map λr=>dF (s.1.1++r)) Q X h:=q
         rw[Xl (i:=p+1+(r+1)+size),aae]at q
         rw[show ∀x:a9,(λr=>dF ((s.1.1++[x])++r))=(λr=>dF (s.1.1++r))∘(x::·)from λx=>funext λr=>by rw[Wx];rfl]
         exact q
end
structure eA where
 m:List UInt8
 e:List UInt8
 w:Int
 z:List UInt8
noncomputable def eA.v(p:eA):V:=.inst 141 [.bytes p.m,.bytes p.e,.int p.w,.bytes p.z]
noncomputable def UN:List UInt8:=[48,49,50,51,52,53,54,55,56,57]
noncomputable def xS:List UInt8->Bool
 | []=>true
 |c::r=>!(((c::r).length:Int)==5)||(!([43,45].contains c)||!(r.all λc=>UN.contains c))
noncomputable def UO(m e b:List UInt8)(i:Int):Option eA:=bif decide (i<0)then none else(numOf (bY b none (some i))).bind λw=>bif xS (bY b (some (i+1)) none)then none else some ⟨m,e,w,bY b (some (i+1)) none⟩
noncomputable def UP(m e b:List UInt8):Option eA:=bif IP (m++e) [60,62,10,0]then none else UO m e b (a4 b [32] 0)
noncomputable def UQ(m b:List UInt8)(i:Int):Option eA:=bif decide (i<0)then none else UP m (bY b none (some i)) (bY b (some (i+2)) none)
noncomputable def UR(b:List UInt8)(i:Int):Option eA:=bif decide (i<0)then none else UQ (bY b none (some i)) (bY b (some (i+2)) none) (a4 (bY b (some (i+2)) none) [62,32] 0)
noncomputable def aY(b:List UInt8):Option eA:=UR b (a4 b [32,60] 0)
theorem xT:(bY l a b).length<=l.length:=by
 unfold bY
 rw[Xr,W7]
 exact Wh (YM _ _) (Y6 _ _)
theorem VY{c:UInt8}:(0<=(c.toNat:Int)∧(c.toNat:Int)<256):=LY c
section
variable{g:Gl}{K:Frag}{n:Nat}{h:AH}
theorem Mb(k:Kn g K)(q:cy ((UO m e b i).map eA.v) Q X h):iL g 2 (dE Q) (bz X) ⟨[v0,v1,some (.bytes m),some (.bytes b),v4,some (.bytes e),some (.int i),v7,v8],h⟩:=by
 unfold UO at q
 refine bP Iq (λ_ _ k=>k) (λe0=>?_) λe0=>?_
 ·rw[show decide (i<0)=true from e0]at q;exact fJ q
 rw[show decide (i<0)=false from e0]at q
 clear e0
 refine jB (ar (aG Iq (qd k (Wr _))) Iq) ⟨Wj rfl,rfl⟩ ?_
 revert q
 generalize bY b (some (i+1)) none=z
 cases numOf (bY b none (some i))with
 |none=>exact λq=>d9 (λ_ k=>⟨trivial,k⟩) rfl Iq (fJ q)
 |some w=>
  intro q
  have q:cy ((bif xS z then none else some (eA.mk m e w z)).map eA.v) Q X h:=q
  refine jf (λ_ k=>⟨trivial,k⟩) rfl ?_
  refine bP (b:=xS z) ?_ (λ_ _ k=>k) (λy=>?_) λy=>?_
  ·cases z with
   |nil=>exact cg (a:=true) (b:=false) Iq tf
   |cons c r=>
    exact cg Iq λ_=>cg (bJ (dy Iq Iq λ_ k=>Wm (aaH 0) k) Iq λ_ k=>Wm (LY c) (by rw[BQ];exact k)) λ_=>fB (jC (cW (aG (ar (bq Iq (congrArg V.bytes (dg (a:=1)))) λ_ k=>k) (jU k dD))))
  ·rw[y]at q;exact fJ q
  ·rw[y]at q;exact a6 (aG Iq (zW k (Wr _))) (bc q)
theorem PK(k:Kn g K)(hm:m.length<=8000000)(hb:b.length<=8000000)(q:cy ((UQ m b (a4 b [62,32] 0)).map eA.v) Q X h):gT g 2 (dE Q) (bz X) ⟨[v0,v1,some (.bytes m),some (.bytes b),v4,v5,v6,v7,v8],h⟩:=by
 unfold UQ at q
 refine aZ Iq (bP Iq (λ_ _ k=>k) (λe=>?_) λe=>?_)
 ·rw[show decide (a4 b [62,32] 0<0)=true from e]at q;exact fJ q
 rw[show decide (a4 b [62,32] 0<0)=false from e]at q
 have l:(bY b none (some (a4 b [62,32] 0))).length<=8000000:=Wh xT hb
 refine jB Iq ⟨Wj rfl,rfl⟩ ?_
 revert q l
 generalize bY b none (some (a4 b [62,32] 0))=e
 generalize bY b (some (a4 b [62,32] 0+2)) none=b2
 intro q l
 have q:cy ((UP m e b2).map eA.v) Q X h:=q
 unfold UP at q
 refine bP (cW (aG (λ_ k=>⟨Wh (WH hm l) dD,k⟩) (sW k dD))) (λ_ _ k=>k) (λe=>?_) λe=>?_
 ·rw[show IP _ _=true from e]at q;exact fJ q
 ·rw[show IP _ _=false from e]at q;exact aZ Iq (Mb k q)
theorem uP(k:Kn g K)(hn:3<=n)(hb:b.length<=8000000):cS g n 152 [.bytes b] ((aY b).map eA.v):=λ{Q X h} q=>by
 refine((aH (n:=2) (k.H 2) k.read_person rfl ?_).call).up hn
 have q:cy ((UR b (a4 b [32,60] 0)).map eA.v) Q X h:=q
 unfold UR at q
 refine aZ Iq (bP Iq (λ_ _ k=>k) (λe=>?_) λe=>?_)
 ·rw[show decide (a4 b [32,60] 0<0)=true from e]at q;exact fJ q
 ·rw[show decide (a4 b [32,60] 0<0)=false from e]at q
  exact jB Iq ⟨Wj rfl,rfl⟩ (PK k (Wh xT hb) (Wh xT hb) q)
end
noncomputable def IZ(key v:List UInt8):List UInt8:=key++[32]++aM [10,32] (aL 10 v)++[10]
noncomputable def nE:List UInt8:=[48,49,50,51,52,53,54,55,56,57,97,98,99,100,101,102]
noncomputable def bR(size:Nat)(b:List UInt8):Option (List UInt8):=bif !((b.length:Int)==2*size)||!(b.all λc=>nE.contains c)then none else ef (jg b)
structure Hd where
 k:List UInt8
 v:List UInt8
noncomputable def Hd.t(x:Hd):V:=.tup [.bytes x.k,.bytes x.v]
structure Walk(x d:Addr)(hs:List Hd)(i:Nat)(h:AH):Prop where
 hx:h x=some (.inst 330 d)
 hd:h d=some (.fields 330 [.lst (hs.map Hd.t),.int i])
 ne:x≠d
noncomputable def gD(l:List Hd)(key:List UInt8):Bool:=Yn (motive:=λ_=>Bool) l false λa _=>a.k==key
section
variable{g:Gl}{K:Frag}{n:Nat}{h:AH}
theorem fL{E L:PT}{X:St->Prop}{st:St}{s:List UInt8}{ps:List (List UInt8)}(h1:Ev E X st (.bytes s))(h2:Ev L X st (.lst (ps.map .bytes)))(l:(aM s ps).length<=16777216):Ev (av g n bB E (aa L ag)) X st (.bytes (aM s ps)):=
 kG h1 rfl (ar h2 λ_ k=>k) λ_ k=>az (dP (λx=>x) ps) (by rw[Y0];exact Wm l k)
theorem B3(k:Kn g K)(hn:1<=n){key v:List UInt8}(hv:v.length<=900000)(hl:(IZ key v).length<=1000000):cS g n 278 [.bytes key,.bytes v] (some (.bytes (IZ key v))):=λ{Q X h} q=>by
 have t:1000000<=16777216:=dD
 refine((aH (n:=0) (k.H 0) k.object_head_row rfl ?_).call).up hn
 have l2:=cB hl
 have l3:(aM [10,32] (aL 10 v)).length<=1000000:=by
  rw[Wk]at l2
  exact Wh (X5 _ _) l2
 exact a6 (eb (eb (x:=.bytes (key++[32])) (λ_ k=>⟨bt (cB l2) t,k⟩) (fL Iq (kG Iq rfl Iq λ_ k=>Wm hv k) (Wh l3 t)) λ_ k=>⟨bt l2 t,k⟩) Iq λ_ k=>⟨bt hl t,k⟩) (bc q)
theorem FV(k:Kn g K)(hn:3<=n){b:List UInt8}{size:Nat}(hb:b.length<=800000):cS g n 285 [.bytes b,.int size] ((bR size b).map .bytes):=λ{Q X h} q=>by
 refine((aH (n:=2) (k.H 2) k.object_head_id rfl ?_).call).up hn
 unfold bR at q
 refine bP (b:=!((b.length:Int)==2*size)||!(b.all λc=>nE.contains c)) (cg (λ_ k=>Wm (BP dD dD) k) λ_=>fB (jC (cW (aG Iq (jU k dD))))) (λ_ _ k=>k) (λe=>?_) λe=>?_
 ·rw[e]at q;exact fJ q
 ·rw[e]at q
  have q:cy ((ef (jg b)).map .bytes) Q X h:=q
  have co:cS g 2 85 [.str (jg b)] _:=dI k (Wr _) (by unfold jg;rw[Wp];exact hb)
  have ct:cS g 2 59 [.bytes b] _:=pI k dD (Wh hb dD)
  generalize e1:ef (jg b)=zz;cases zz with
  |none=>rw[e1]at q co;exact Dy λQe=>xK (ar (aG Iq ct) λ_ k=>k) co (fJ q)
  |some v=>rw[e1]at q co;exact a6 (aG (ar (aG Iq ct) λ_ k=>k) co) (bc q)
theorem DL{l:List Hd}{i:Nat}{a:Hd}{r:List Hd}(e:l.drop i=a::r):(l.map Hd.t)[i]? = some a.t:=by
 have:l[i]? = some a:=by rw[←aeT i,←List.getElem?_drop,e];rfl
 rw[YQ,this];rfl
theorem xU{i:Nat}:¬((i:Int)=-1):=λe=>nomatch e
theorem B4{W A:PT}{X:St->Prop}{st:St}{l:List V}{i:Nat}{v:V}(h1:Ev W X st (.lst l))(h2:Ev A X st (.int i))(e:l[i]? = some v):Ev (aQ W A) X st v:=dy h1 h2 λQ k=>by
 show GI l i Q
 unfold GI
 rw[if_neg xU]
 exact Wm (WG i) (az e k)
theorem kT(h1:Ev W X ⟨loc,h⟩ (.ref x))(hx:h x=some (.inst C d))(hd:h d=some (.fields C fs))(e:ix.lookup C=some i)(e2:fs[i]? = some v)(r:jj v):Ev (aS W ix) X ⟨loc,h⟩ v:=λ_ k=>h1 _ (az hx (az hd (Wm rfl (az e (az e2 (Wm r k))))))
theorem I0(e:h x=some (.inst C d)):res h (.ref x)=.ref x:=by
 show Xa (motive:=λ_=>V) (h x) _ _=_
 rw[e]
theorem pM(h1:Ev E X ⟨loc,h⟩ (.ref x))(hx:h x=some (.inst C d))(hd:h d=some (.fields C fs))(e:m.c.lookup C=some f)(h2:Ev es X ⟨loc,h⟩ (.lst vs))(hc:bW g n (.ref f) (.ref x::vs) (λv h=>Q v ⟨loc,h⟩) (λh=>X ⟨loc,h⟩) h):av g n m E es Q X ⟨loc,h⟩:=
 h1 _ (by
  show pick m (.ref x) h _ _
  unfold pick
  rw[I0 hx]
  exact az hx (az hd (Wm rfl (az e (h2 _ hc)))))
theorem td{A B:PT}{X:St->Prop}{st:St}{l:List V}{i:Nat}(h1:Ev A X st (.lst l))(h2:Ev B X st (.int i)):Ev (bb A B (af .none)) X st (.lst (l.drop i)):=λ_ k=>h1 _ (h2 _ (by rw[←dg]at k;exact k))
theorem Mc{l:List Hd}{i:Nat}:decide ((i:Int)<l.length)=!(l.drop i).isEmpty:=by
 rw[X4]
 simp[aeR]
theorem Walk.lt(w:Walk x d hs i h):decide ((i:Int)<(hs.map Hd.t).length)=!(hs.drop i).isEmpty:=by rw[Wp];exact Mc
theorem pN(k:Kn g K)(hn:1<=n){x d:Addr}{hs:List Hd}{i:Nat}{key:List UInt8}{Q:V->AH->Prop}{X:AH->Prop}(w:Walk x d hs i h)(q:Q (.bool (gD (hs.drop i) key)) h):bW g n (.ref 313) [.ref x,.bytes key] Q X h:=by
 refine((aH (n:=0) (k.H 0) k.ObjectHeadWalk_is_next rfl ?_).call).up hn
 generalize e:hs.drop i=zz;cases zz with
 |nil=>
  rw[e]at q
  refine a6 (bq (eH (b:=false) (bJ (kT Iq w.hx w.hd rfl rfl trivial) (l0 (kT Iq w.hx w.hd rfl rfl trivial) λ_ k=>k) λ_ k=>k) λz=>?_) (congrArg V.bool (aaj _))) (bc q)
  exact nomatch (show false=true from(w.lt.trans (congrArg (λl=>!l.isEmpty) e)).symm.trans z)
 |cons a r=>
  rw[e]at q
  exact a6 (bq (eH (bJ (kT Iq w.hx w.hd rfl rfl trivial) (l0 (kT Iq w.hx w.hd rfl rfl trivial) λ_ k=>k) λ_ k=>k) λ_=>bJ (dy (B4 (kT Iq w.hx w.hd rfl rfl trivial) (kT Iq w.hx w.hd rfl rfl trivial) (DL e)) Iq λ_ k=>Wm (aaH 0) k) Iq λ_ k=>k) (congrArg (λb=>V.bool (b&&(a.k==key))) (show decide ((i:Int)<(hs.map Hd.t).length)=true from w.lt.trans (congrArg (λl=>!l.isEmpty) e)))) (bc q)
theorem Walk.up(w:Walk x d hs i h):Walk x d hs j (upd h d (some (.fields 330 [.lst (hs.map Hd.t),.int j]))):=⟨(aE w.ne).trans w.hx,aB _ _ _,w.ne⟩
theorem PM(k:Kn g K)(hn:2<=n){x d:Addr}{hs:List Hd}{i:Nat}{key:List UInt8}{Q:V->AH->Prop}{X:AH->Prop}(hk:key.length<=1000)(w:Walk x d hs i h)(q1:gD (hs.drop i) key=false->X h)
 (q2:∀a r,hs.drop i=a::r->a.k=key->Q (.bytes a.v) (upd h d (some (.fields 330 [.lst (hs.map Hd.t),.int (i+1:Nat)])))):bW g n (.ref 320) [.ref x,.bytes key] Q X h:=by
 refine((aH (n:=1) (k.H 1) k.ObjectHeadWalk_take rfl ?_).call).up hn
 have ln:(jg key).length<=1000:=by unfold jg;rw[Wp];exact hk
 have lk:AK (3+(jg key).length):=Wh (WD ln 3) dD
 have lk2:AK (([110,111,32]++jg key).length+13):=by rw[Wk];exact Wh (WE (WD ln 3) 13) dD
 have en:Ev (av g 1 fP (ae 0) (aa (ae 1) ag)) (bz X) ⟨[some (.ref x),some (.bytes key)],h⟩ (.bool (gD (hs.drop i) key)):=λ_ q=>pM Iq w.hx w.hd rfl Iq (pN k (Wr _) w q)
 generalize e:hs.drop i=zz;cases zz with
 |nil=>
  rw[e]at q1 en
  exact d9 (jC (cW en)) rfl (eb (x:=.str ([110,111,32]++jg key)) (eb Iq (aG Iq (pI k dD (Wh hk dD))) λ_ k=>⟨lk,k⟩) Iq λ_ k=>⟨lk2,k⟩) (fJ (q1 rfl))
 |cons a r=>
  rw[e]at q1 en
  refine bP (jC (cW en)) (λ_=>eb (x:=.str ([110,111,32]++jg key)) (eb Iq (aG Iq (pI k dD (Wh hk dD))) λ_ k=>⟨lk,k⟩) Iq λ_ k=>⟨lk2,k⟩) (λz=>fJ (q1 (cw z))) λz=>?_
  refine zO (st':=⟨[some (.ref x),some (.bytes key)],upd h d (some (.fields 330 [.lst (hs.map Hd.t),.int (i+1:Nat)]))⟩) (λQc k=>?_) ?_
  ·exact az w.hx (az w.hd (Wm rfl (Wm trivial (az w.hx (az w.hd (Wm rfl (Wm (Wj rfl) k)))))))
  ·have w':=w.up (j:=i+1)
   exact a6 (dy (B4 (kT Iq w'.hx w'.hd rfl rfl trivial) (bq (eb (kT Iq w'.hx w'.hd rfl rfl trivial) Iq λ_ k=>k) (congrArg V.int (show(i:Int)+1-1=i from aac ..))) (DL e)) Iq λ_ k=>Wm dD k) (bc (q2 a r e (eq_of_beq (nr z))))
theorem I1(k:Kn g K)(hn:1<=n)(w:Walk x d hs i h)(q:Q (.lst ((hs.drop i).map Hd.t)) h):bW g n (.ref 327) [.ref x] Q X h:=by
 refine((aH (n:=0) (k.H 0) k.ObjectHeadWalk_rest rfl ?_).call).up hn
 rw[abq]at q
 exact a6 (td (kT Iq w.hx w.hd rfl rfl trivial) (kT Iq w.hx w.hd rfl rfl trivial)) (bc q)
end
section
variable{g:Gl}{K:Frag}{n:Nat}{h:AH}
theorem PO(k:Kn g K)(hn:2<=n)(q:∀x d h',h x=none->h d=none->Walk x d hs 0 h'->(∀a,a≠x->a≠d->h' a=h a)->Q (.ref x) h'):bW g n (.ref 330) [.lst (hs.map Hd.t)] Q X h:=by
 have w:=k.inits (330,306) (.tail _ (.tail _ (.tail _ (.head _))))
 refine((qa (n:=1) (k.H 0).top (k.cl 330 (.tail _ (.tail _ (.tail _ (.head _))))) w.1 w.2 λx r hx hr hxr=>?_).call).up hn
 refine aH (n:=0) (k.H 0) k.ObjectHeadWalk_init rfl ?_
 have e1:upd (upd h r (some (.fields 330 []))) x (some (.inst 330 r)) x=some (.inst 330 r):=aB _ _ _
 have e2:upd (upd h r (some (.fields 330 []))) x (some (.inst 330 r)) r=some (.fields 330 []):=(aE (X6 hxr)).trans (aB _ _ _)
 refine zO (st':=⟨[some (.ref x),some (.lst (hs.map Hd.t))],upd (upd (upd h r (some (.fields 330 []))) x (some (.inst 330 r))) r (some (.fields 330 [.lst (hs.map Hd.t)]))⟩) (λQc k=>az e1 (az e2 (Wm rfl (Wm (Wr _) k)))) ?_
 refine zO (st':=⟨[some (.ref x),some (.lst (hs.map Hd.t))],upd (upd (upd (upd h r (some (.fields 330 []))) x (some (.inst 330 r))) r (some (.fields 330 [.lst (hs.map Hd.t)]))) r (some (.fields 330 [.lst (hs.map Hd.t),.int (0:Nat)]))⟩) (λQc k=>az ((aE hxr).trans e1) (az (aB _ _ _) (Wm rfl (Wm (Wr _) k)))) ?_
 exact bc (.ref rfl (q x r _ hx hr ⟨(aE hxr).trans ((aE hxr).trans e1),aB _ _ _,hxr⟩ λa n1 n2=>(aE n2).trans ((aE n2).trans ((aE n1).trans (aE n2)))))
noncomputable def bump(acc:List Hd)(t:List UInt8):Option (List Hd):=acc.getLast?.map λa=>acc.set (acc.length-1) ⟨a.k,a.v++[10]++t⟩
noncomputable def Md(row:List UInt8)(acc:List Hd):Option Nat->Option (List Hd)
 |none=>none
 |some 0=>none
 |some (j+1)=>some (acc++[⟨row.take (j+1),row.drop (j+2)⟩])
noncomputable def cZ(row:List UInt8)(acc:List Hd):Option (List Hd):=bif row.take 1==[32]then bump acc (row.drop 1)else Md row acc (bh 32 row)
noncomputable def optN(o:Option Nat):Int:=Xa (motive:=λ_=>Int) o (-1) λi=>(i:Int)
theorem te(b:List UInt8)(c:UInt8):a4 b [c] 0=optN (bh c b):=by
 rw[ta]
 show SO 0 (bh c b)=_
 cases bh c b with
 |none=>rfl
 |some i=>exact congrArg (λn:Nat=>(n:Int)) (Xx i)
theorem bl{A B:PT}{X:St->Prop}{st:St}{x y:List UInt8}(h1:Ev A X st (.bytes x))(h2:Ev B X st (.bytes y))(l:AK (x.length+y.length)):Ev (ao .Add A B) X st (.bytes (x++y)):=λ_ k=>h1 _ (h2 _ (Wm l k))
theorem Me{Q:V->St->Prop}{X:AH->Prop}{h0:AH}{c:Addr}{acc:List Hd}{row:List UInt8}{v0 v2 v3 v5 v6 v7:Option V}{m:Nat}(w:oi h0 c (.list (acc.map Hd.t)) h)(hc:h0 c=none)(hm:∀a∈acc,a.v.length<=m)(hr:m+1+row.length<=10000000)(hl:acc.length<1000000)(hx:cZ row acc=none->X h0)
 (k:∀acc' v5 v6 v7 h2,cZ row acc=some acc'->oi h0 c (.list (acc'.map Hd.t)) h2->Q .none ⟨[v0,some (.ref c),v2,v3,some (.bytes row),v5,v6,v7],h2⟩):gU g n Q (bz X) ⟨[v0,some (.ref c),v2,v3,some (.bytes row),v5,v6,v7],h⟩:=by
 have lm:∀{x:Nat},x<=m+1+row.length->AK x:=λh=>Wh h (Wh hr dD)
 unfold cZ at hx k
 refine FL (b:=row.take 1==[32]) (bJ (bq Iq (congrArg V.bytes (eP (b:=1)))) Iq λ_ k=>k) (λe=>?_) λe=>?_
 ·rw[e]at hx k
  have hx:bump acc (row.drop 1)=none->X h0:=hx
  have k:∀acc' v5 v6 v7 h2,bump acc (row.drop 1)=some acc'->oi h0 c (.list (acc'.map Hd.t)) h2->Q .none ⟨[v0,some (.ref c),v2,v3,some (.bytes row),v5,v6,v7],h2⟩:=k
  unfold bump at hx k
  have el:Ev (dn (b1 c4) (aa (ae 1) ag)) (bz X) ⟨[v0,some (.ref c),v2,v3,some (.bytes row),v5,v6,v7],h⟩ (.int (acc.map Hd.t).length):=l0 Iq λ_ k=>by unfold c4;rw[d8 w.at_];exact k
  generalize e2:acc.getLast? = zz;cases zz with
  |none=>
   obtain rfl:=List.getLast?_eq_none_iff.mp e2
   exact d9 (bJ el Iq λ_ k=>k) rfl Iq (eF (w.sub hc) (hx rfl))
  |some a=>
   rw[e2]at hx k
   have ne:acc≠[]:=λz=>by rw[z]at e2;cases e2
   have al:(acc.map Hd.t).getLast? = some a.t:=by rw[List.getLast?_map,e2];rfl
   have ma:a.v.length<=m:=hm a (ae7 e2)
   have nl:(((acc.map Hd.t).length:Int)==0)=false:=beq_eq_false_iff_ne.mpr λz=>ne (Zl.mp (Xg (YH z)))
   refine jf (bJ el Iq λ_ k=>k) nl ?_
   refine zO (st':=⟨[v0,some (.ref c),v2,v3,some (.bytes row),some (.bytes a.k),some (.bytes a.v),v7],h⟩) (λQc k=>?_) ?_
   ·show gn (.ref c) (.int (-1)) h _
    unfold gn
    rw[d8 w.at_]
    show GI _ (-1) _
    unfold GI
    rw[if_pos rfl]
    exact az al (Wm rfl k)
   ·refine zO (st':=⟨[v0,some (.ref c),v2,v3,some (.bytes row),some (.bytes a.k),some (.bytes a.v),v7],upd h c (some (.list ((acc.map Hd.t).set ((acc.map Hd.t).length-1) (Hd.t ⟨a.k,a.v++[10]++row.drop 1⟩))))⟩) (λQc k=>?_) ?_
    ·have hE:Ev (c8 (aa (ae 5) (aa (ao .Add (ao .Add (ae 6) (af (.bytes [10]))) (bb (ae 4) (af (.int 1)) (af .none))) ag))) (bz X) ⟨[v0,some (.ref c),v2,v3,some (.bytes row),some (.bytes a.k),some (.bytes a.v),v7],h⟩ (Hd.t ⟨a.k,a.v++[10]++row.drop 1⟩):=λQ k=>
      ar Iq (ar (bl (bl Iq Iq (lm (Wh (WE ma 1) (WA _ row.length)))) (bq Iq (congrArg V.bytes (dg (a:=1)))) (by rw[Wk,W7];exact lm (WH (WE ma 1) (Y6 _ _)))) λ_ k=>k) _ (Wm (Wj rfl) k)
     refine hE _ (az w.at_ ?_)
     exact Wm (λz=>ne (Zl.mp z)) k
    ·refine k _ _ _ _ _ rfl ?_
     rw[List.map_set]
     have:=w.put (o':=.list ((acc.map Hd.t).set ((acc.map Hd.t).length-1) (Hd.t ⟨a.k,a.v++[10]++row.drop 1⟩)))
     rw[Wp]at this ⊢
     exact this
 ·rw[e]at hx k
  have hx:Md row acc (bh 32 row)=none->X h0:=hx
  have k:∀acc' v5 v6 v7 h2,Md row acc (bh 32 row)=some acc'->oi h0 c (.list (acc'.map Hd.t)) h2->Q .none ⟨[v0,some (.ref c),v2,v3,some (.bytes row),v5,v6,v7],h2⟩:=k
  refine aZ (bq Iq (congrArg V.int (te row 32))) ?_
  revert hx k
  rcases bh 32 row with _|_|j
  ·exact λhx k=>d9 Iq rfl Iq (eF (w.sub hc) (hx rfl))
  ·exact λhx k=>d9 Iq rfl Iq (eF (w.sub hc) (hx rfl))
  ·intro hx k
   refine jf Iq (decide_eq_false (Y7.mpr (X2.mpr (Ww (WI j))))) ?_
   refine eI (v:=Hd.t ⟨row.take (j+1),row.drop (j+2)⟩) (λQ k=>ar (bq Iq (congrArg V.bytes (eP (b:=j+1)))) (ar (bq Iq (congrArg V.bytes (dg (a:=j+2)))) λ_ k=>k) _ (Wm (Wj rfl) k)) rfl w.at_ (by rw[Wp];exact hl) ?_
   refine k _ _ _ _ _ rfl ?_
   rw[WQ];exact w.put
end
structure PQ(acc acc':List Hd)(m:Nat):Prop where
 v:∀a∈acc',a.v.length<=m
 n:acc'.length<=acc.length+1
theorem tg(e:cZ row acc=some acc')(h:∀a∈acc,a.v.length<=m):PQ acc acc' (m+1+row.length):=by
 have up:∀{x},x<=m->x<=m+1+row.length:=λh=>Wh h (Wh (XC m) (WA _ _))
 unfold cZ at e
 generalize t:(row.take 1==[32])=zz;cases zz with
 |true=>
  rw[t]at e
  have e:bump acc (row.drop 1)=some acc':=e
  unfold bump at e
  generalize e2:acc.getLast? = zz;cases zz with
  |none=>rw[e2]at e;cases e
  |some a=>
   rw[e2]at e
   obtain rfl:=W4 e
   refine⟨λb hb=>?_,by rw[aaK];exact XC _⟩
   rcases List.mem_or_eq_of_mem_set hb with hb|rfl
   ·exact up (h b hb)
   ·show(a.v++[10]++row.drop 1).length<=_
    rw[Wk,Wk,W7]
    exact WH (WE (h a (ae7 e2)) 1) (Y6 _ _)
 |false=>
  rw[t]at e
  have e:Md row acc (bh 32 row)=some acc':=e
  rcases j:bh 32 row with _|_|j <;> rw[j]at e
  ·cases e
  ·cases e
  ·obtain rfl:=W4 e
   refine⟨λb hb=>?_,by rw[Wk];exact Wr _⟩
   rcases WO.mp hb with hb|hb
   ·exact up (h b hb)
   ·rw[WB.mp hb]
    show(row.drop _).length<=_
    rw[W7]
    exact Wh (Y6 _ _) (X5 _ _)
structure Gv where
 l:List Hd
 m:List UInt8
noncomputable def Gv.v(x:Gv):V:=.tup [.lst (x.l.map Hd.t),.bytes x.m]
noncomputable def b5:Nat->List UInt8->List Hd->Option Gv
 |0,_,_=>none
 |f+1,s,acc=>(bh 10 s).bind λp=>bif YB p 0 then some ⟨acc,s.drop 1⟩else(cZ (s.take p) acc).bind λacc'=>b5 f (s.drop (p+1)) acc'
noncomputable def cU(b:List UInt8):Option Gv:=bif decide (a4 b [0] 0≥0)then none else b5 (b.length+1) b []
section
theorem nF(e:bh 10 s=none):b5 (f+1) s acc=none:=by unfold b5;rw[e];rfl
theorem th(e:bh 10 s=some p)(z:YB p 0=true):b5 (f+1) s acc=some ⟨acc,s.drop 1⟩:=by unfold b5;rw[e];show(bif YB p 0 then _ else _)=_;rw[z];rfl
theorem nG(e:bh 10 s=some p)(z:YB p 0=false):b5 (f+1) s acc=(cZ (s.take p) acc).bind λacc'=>b5 f (s.drop (p+1)) acc':=by rw[b5,e];show(bif YB p 0 then _ else _)=_;rw[z];rfl
end
structure HL(b:List UInt8)(h:AH)(c:Addr)(Q:V->AH->Prop)(X:AH->Prop)(f:Nat)(acc:List Hd)(at_:Nat)(h':AH):Prop where
 w:oi h c (.list (acc.map Hd.t)) h'
 n:(b.drop at_).length+1<=f
 v:∀a∈acc,a.v.length<=at_
 l:acc.length<=at_
 a:at_<=b.length
 q:cy ((b5 f (b.drop at_) acc).map Gv.v) Q X h
section
variable{g:Gl}{K:Frag}{n:Nat}{h:AH}
theorem SP:(((a+p:Nat):Int)==(a:Int))=YB p 0:=by
 cases p with
 |zero=>exact beq_self_eq_true _
 |succ q=>exact beq_eq_false_iff_ne.mpr λe=>absurd (YH e) (YN (Ys (XF q)))
theorem DM(k:Kn g K)(hn:1<=n)(hb:b.length<=900000):cS g n 292 [.bytes b] ((cU b).map Gv.v):=λ{Q X h} q=>by
 refine((aH (n:=0) (k.H 0) k.object_heads rfl ?_).call).up hn
 unfold cU at q
 refine bP (b:=decide (a4 b [0] 0≥0)) Iq (λ_ _ k=>k) (λe=>?_) λe=>?_
 ·rw[e]at q;exact fJ q
 rw[e]at q
 refine B1 (λc hc=>?_) rfl
 refine tc (λs:(List Hd×Nat)×Option V×Option V×Option V×Option V×Option V×AH=>⟨[some (.bytes b),some (.ref c),some (.int s.1.2),s.2.1,s.2.2.1,s.2.2.2.1,s.2.2.2.2.1,s.2.2.2.2.2.1],s.2.2.2.2.2.2⟩) (λf s=>HL b h c Q X f s.1.1 s.1.2 s.2.2.2.2.2.2) (λ_=>true) (λm s i _ k=>k) (λs i=>nomatch i.n) (λm s i e=>tf e) (λf s i _ Qc kn kr=>?_) (b.length+1) (([],0),none,none,none,none,none,upd h c (some (.list []))) ⟨oi.new,Wr _,an,Wr _,WI _,q⟩
 have q:=i.q
 refine aZ (bq (kG Iq rfl Iq λ_ k=>Wm ⟨WG _,rfl⟩ k) (congrArg V.int (ta b 10 s.1.2))) ?_
 generalize e1:bh 10 (b.drop s.1.2)=zz;cases zz with
 |none=>rw[nF e1]at q;exact d9 Iq rfl Iq (eF (i.w.sub hc) q)
 |some p=>
  refine jf Iq nB ?_
  refine bI (b:=YB p 0) (v:=.tup [.ref c,.bytes (b.drop (s.1.2+p+1))]) (bq Iq (congrArg V.bool SP)) (λ_ Q k=>ar Iq (ar (bq Iq (congrArg V.bytes (dg (a:=s.1.2+p+1)))) λ_ k=>k) _ (Wm (Wj rfl) k)) (λe=>?_) λe=>?_
  ·rw[th e1 e]at q
   obtain rfl:=Yl e
   refine kr _ _ (.fr c _ i.w.at_ ?_)
   show Fin Q (.tup [if c=c then .lst (s.1.1.map Hd.t)else .ref c,.bytes (b.drop (s.1.2+0+1))]) _
   rw[if_pos rfl,i.w.drop hc]
   have q:Q (.tup [.lst (s.1.1.map Hd.t),.bytes ((b.drop s.1.2).drop 1)]) h:=q
   rw[Xl]at q
   exact bc q
  ·rw[nG e1 e]at q
   have lp:=rF e1
   rw[W7]at lp
   have lr:((b.drop s.1.2).take p).length<=p:=by rw[Xr];exact ab5 _ _
   have la:s.1.2+p+1<=b.length:=by rw[WV,Xd];exact Nat.add_le_of_le_sub i.a lp
   have le:((b.drop s.1.2).take p).length=p:=by rw[Xr,W7];exact Z8 (Xy lp)
   refine jB (ar (bq Iq (congrArg V.bytes gf)) λ_ k=>k) ⟨Wj rfl,rfl⟩ ?_
   refine Me i.w hc i.v ?_ ?_ (λe2=>?_) λacc' v5 v6 v7 h2 e2 w2=>?_
   ·rw[le,X1];exact Wh la (Wh hb dD)
   ·exact Wz i.l (Wz (Wh i.a hb) dD)
   ·rw[e2]at q;exact q
   ·rw[e2]at q
    have so:=tg e2 i.v
    rw[le,X1]at so
    refine kn ((acc',s.1.2+p+1),_,_,_,_,_,_) ⟨w2,?_,so.v,?_,la,?_⟩
    ·have:=i.n
     rw[W7]at this ⊢
     exact Wh (aaU (WK (abn (WA _ p)) la) (abn (WA _ p))) (Yi this)
    ·exact Wh so.n (Ww (Wh i.l (WA _ _)))
    ·have q:cy ((b5 f ((b.drop s.1.2).drop (p+1)) acc').map Gv.v) Q X h:=q
     rw[Xl]at q
     exact q
end
noncomputable def bg(b:List UInt8):List UInt8:=FN (cz b)
theorem I2:eB.all (λc=>decide (c<256))=true:=rfl
theorem rG(i:Nat):eB.getD i 0<256:=by
 unfold List.getD
 generalize e:eB[i]? = d;cases d with
 |none=>exact(by decide:0<256)
 |some c=>exact of_decide_eq_true (W0.mp I2 c (XJ e))
theorem xV:∀c∈cz b,c<256:=λc hc=>by
 obtain⟨d,_,h⟩:=Zm.mp hc
 rcases Wo.mp h with rfl|h
 ·exact rG _
 ·rw[WB.mp h];exact rG _
theorem g9:∀b:List UInt8,(cz b).length=2*b.length:=by
 intro d
 induction d with
 |nil=>
  exact rfl
 |cons a r q=>
  show(kR a::qe a::cz r).length=_;rw[WX,WX,q];rfl
noncomputable def eA.oct(p:eA):List UInt8:=rC p.m p.e p.w.toNat p.z
structure dU where
 tree:List UInt8
 par:List (List UInt8)
 au:eA
 co:eA
 ex:List Hd
 msg:List UInt8
noncomputable def dU.v(c:dU):V:=.inst 365 [.bytes c.tree,.lst (c.par.map .bytes),c.au.v,c.co.v,.lst (c.ex.map Hd.t),.bytes c.msg]
noncomputable def z4(a b:List UInt8):List UInt8:=a++bg b++[10]
noncomputable def B5(a b:List UInt8):List UInt8:=a++b++[10]
noncomputable def dU.parts(c:dU):List (List UInt8):=z4 [116,114,101,101,32] c.tree::(c.par.map (z4 [112,97,114,101,110,116,32])++(B5 [97,117,116,104,111,114,32] c.au.oct::B5 [99,111,109,109,105,116,116,101,114,32] c.co.oct::(c.ex.map (λx=>IZ x.k x.v)++[[10]++c.msg])))
noncomputable def dU.oct(c:dU):List UInt8:=c.parts.flatten
structure eA.OK(p:eA):Prop where
 w:0<=p.w
 b:p.w.natAbs.log2<1920
 l:p.oct.length<=1000
section
variable{g:Gl}{K:Frag}{n:Nat}{h:AH}
theorem iv(k:Kn g K)(d:2<=n){p:eA}(ok:p.OK):cS g n 138 [p.v] (some (.bytes p.oct)):=by
 have e:((p.w.toNat:Nat):Int)=p.w:=YU ok.w
 have t:cS g n 138 [xO p.m p.e p.w.toNat p.z] (some (.bytes p.oct)):=rg k d (by rw[e];exact ok.b) ok.l
 unfold xO at t
 rw[e]at t
 exact λ{_ _ _}=>t
theorem B6(k:Kn g K){E:PT}{X:St->Prop}{st:St}{a b:List UInt8}{m:Nat}(q:1<=m)(y:Ev E X st (.bytes b))(hb:b.length<=1000)(d:(z4 a b).length<=100000):Ev (ao .Add (ao .Add (af (.bytes a)) (ak g m (.ref 64) (aa (ak g m (.ref 71) (aa E ag)) ag))) (af (.bytes [10]))) X st (.bytes (z4 a b)):=
 bl (bl Iq (aG (ar (aG (ar y λ_ k=>k) (zS k q (Wh hb dD))) λ_ k=>k) (jE k q (by rw[g9];exact Wh (W9 2 hb) dD) xV)) (bt (cB d) dD)) Iq (bt d dD)
theorem I3{u y:Type}{a b:u->V}{l:List u}{It W r:PT}{i j:Nat}{Q:V->St->Prop}{X:St->Prop}(f:y->St)(I:List u->y->Prop)(s:y)(k:Ev It X (f s) (.lst (l.map λx=>.tup [a x,b x])))(p:I l s)(h0:∀s,I [] s->r Q X (f s))
 (h1:∀x l s,I (x::l) s->∀c:V->St->Prop,(∀z,I l z->c .none (f z))->(∀v st',Q (.tup [v]) st'->c (.tup [v]) st')->W c X ⟨((f s).loc.set i (some (a x))).set j (some (b x)),(f s).h⟩):ah (dq (cL 2 [aj i,aj j]) It W) r Q X (f s):=
 have w:∀(l:List u) (s:y),I l s->fU (cL 2 [aj i,aj j]) W (l.map λx=>.tup [a x,b x]) (λf d=>br (isNone f) (r Q X d) (Q f d)) X (f s):=λl=>by
  induction l with
  |nil=>exact λs i=>h0 s i
  |cons x l o=>exact λs i=>Wm rfl (h1 x l s i _ (λz m=>o z m) λ_ _ q=>q)
 k _ (w l s p)
structure CO(h0:AH)(c:Addr)(P:List (List UInt8))(acc rest:List (List UInt8))(h:AH):Prop where
 w:oi h0 c (.list (acc.map .bytes)) h
 e:acc++rest=P
theorem CO.len(o:CO h0 c P d q h)(l:P.length<=1000):(d.map V.bytes).length<1000000:=by
 rw[Wp]
 exact Wz (Wh (by rw[←o.e,Wk];exact WA _ _) l) dD
theorem CO.app(o:CO h0 c P d (a::q) h):CO h0 c P (d++[a]) q (upd h c (some (.list (d.map .bytes++[.bytes a])))):=⟨by rw[WQ];exact o.w.put,by rw[Wx];exact o.e⟩
theorem CO.le(o:CO h0 c P q (a::d) h)(l:P.flatten.length<=100000):a.length<=100000:=Wh (nu (by rw[←o.e];exact WW _ (.head _))) l
theorem rj(k:Kn g K)(m:3<=n){x:dU}(ha:x.au.OK)(hc:x.co.OK)(f:x.tree.length<=1000)(hp:∀p∈x.par,p.length<=1000)(hx:∀a∈x.ex,a.v.length<=1000)(j:x.oct.length<=100000)(d:x.parts.length<=1000):cS g n 355 [x.v] (some (.bytes x.oct)):=λ{Q X h} q=>by
 refine((aH (n:=2) (k.H 2) k.Commit_octets rfl ?_).call).up m
 have B:∀{a:List UInt8},a∈x.parts->a.length<=100000:=λh=>Wh (nu h) j
 refine vu (ar (B6 k dD (λ_ k=>⟨trivial,k⟩) f (B (.head _))) λ_ k=>k) (Wj rfl) λc z=>?_
 refine ea (e:=V.bytes) (l:=x.par) (λs:List (List UInt8)×Option V×AH=>⟨[some x.v,some (.ref c),s.2.1,none,none],s.2.2⟩) (λl s=>CO h c x.parts s.1 (l.map (z4 [112,97,114,101,110,116,32])++(B5 [97,117,116,104,111,114,32] x.au.oct::B5 [99,111,109,109,105,116,116,101,114,32] x.co.oct::(x.ex.map (λx=>IZ x.k x.v)++[[10]++x.msg]))) s.2.2∧∀p∈l,p.length<=1000) ([z4 [116,114,101,101,32] x.tree],none,_) (λ_ k=>⟨trivial,k⟩) ⟨⟨oi.new,rfl⟩,hp⟩ (λs i=>?_) λp l s i o kn u=>?_
 ·have i:=i.1
  refine eI (bl (bl (y:=x.au.oct) Iq (l4 (λ_ k=>⟨trivial,k⟩) rfl Iq (iv k (Wr _) ha)) (bt (cB (i.le j)) dD)) Iq (bt (i.le j) dD)) rfl i.w.at_ (i.len d) ?_
  have i:=i.app
  refine eI (bl (bl (y:=x.co.oct) Iq (l4 (λ_ k=>⟨trivial,k⟩) rfl Iq (iv k (Wr _) hc)) (bt (cB (i.le j)) dD)) Iq (bt (i.le j) dD)) rfl i.w.at_ (i.len d) ?_
  refine I3 (a:=λy:Hd=>.bytes y.k) (b:=λy:Hd=>.bytes y.v) (l:=x.ex) (λt:List (List UInt8)×Option V×Option V×AH=>⟨[some x.v,some (.ref c),s.2.1,t.2.1,t.2.2.1],t.2.2.2⟩) (λl t=>CO h c x.parts t.1 (l.map (λx=>IZ x.k x.v)++[[10]++x.msg]) t.2.2.2∧∀a∈l,a.v.length<=1000) (_,none,none,_) (λ_ k=>⟨trivial,k⟩) ⟨i.app,hx⟩ (λt i=>?_) λa l t i o kn u=>?_
  ·have i:=i.1
   refine eI (bl Iq (λ_ k=>⟨trivial,k⟩) (bt (i.le j) dD)) rfl i.w.at_ (i.len d) ?_
   have e:t.1++[[10]++x.msg]=x.parts:=i.e
   have i:=i.app
   refine a6 (kG Iq rfl (ar Iq λ_ k=>k) λ_ k=>IF i.w.at_ (az (dP (λx=>x) _) (Wm ?_ k))) (.mk (i.w.sub z) ?_)
   ·rw[Y0,fQ,e];exact Wh j dD
   ·rw[Y0,fQ,e];exact q
  ·exact eI (aG Iq (B3 k dD (Wh (i.2 a (.head _)) dD) (Wh (i.1.le j) dD))) rfl i.1.w.at_ (i.1.len d) (kn (t.1++[_],_,_,_) ⟨i.1.app,λb hb=>i.2 b (.tail _ hb)⟩)
 ·refine eI (B6 k dD Iq (i.2 p (.head _)) (i.1.le j)) rfl i.1.w.at_ (i.1.len d) (kn (s.1++[_],_,_) ⟨i.1.app,λa ha=>i.2 a (.tail _ ha)⟩)
end
noncomputable def cH(key:List UInt8):List Hd->Option (List UInt8×List Hd)
 | []=>none
 |a::r=>bif a.k==key then some (a.v,r)else none
noncomputable def bV(size:Nat)(key:List UInt8)(l:List Hd):Option (List UInt8×List Hd):=(cH key l).bind λp=>(bR size p.1).map λo=>(o,p.2)
noncomputable def bC(key:List UInt8)(l:List Hd):Option (eA×List Hd):=(cH key l).bind λp=>(aY p.1).map λo=>(o,p.2)
structure WS(h0:AH)(x d:Addr)(hs:List Hd)(i:Nat)(r:List Hd)(h:AH):Prop where
 w:Walk x d hs i h
 e:hs.drop i=r
 s:Sub h0 h
 nd:h0 d=none
 b:∀a∈hs,a.v.length<=800000
theorem WS.next(o:WS h0 x d hs i (a::r) h):WS h0 x d hs (i+1) r (upd h d (some (.fields 330 [.lst (hs.map Hd.t),.int (i+1:Nat)]))):=
 ⟨o.w.up,by rw[←Xl,o.e];rfl,λa b q=>(aE λz=>by rw[z,o.nd]at q;cases q).trans (o.s a b q),o.nd,o.b⟩
theorem WS.le(o:WS h0 x d hs i (a::r) h):a.v.length<=800000:=o.b a (aaF (by rw[o.e];exact .head _))
section
variable{g:Gl}{K:Frag}{n:Nat}{h h0:AH}{x d:Addr}{hs r:List Hd}{i size:Nat}{E F:PT}{key:List UInt8}{Q:V->St->Prop}{X:AH->Prop}{loc:List (Option V)}
theorem xW(k:Kn g K)(p:2<=n)(o:WS h0 x d hs i r h)(b:Ev E (bz X) ⟨loc,h⟩ (.ref x))(u:key.length<=1000)(c:cH key r=none->X h0)(f:∀v q y,cH key r=some (v,q)->v.length<=800000->WS h0 x d hs (i+1) q y->(∀z,z≠d->y z=h z)->Q (.bytes v) ⟨loc,y⟩):av g n fg E (aa (af (.bytes key)) ag) Q (bz X) ⟨loc,h⟩:=by
 refine pM b o.w.hx o.w.hd rfl Iq (PM k p u o.w (λe=>eF o.s (c ?_)) λa q j m=>?_)
 ·rw[o.e]at e
  cases r with
  |nil=>rfl
  |cons a r=>show(bif a.k==key then _ else _)=_;rw[show(a.k==key)=false from e];rfl
 ·rw[o.e]at j
  subst j
  exact f _ q _ (by show(bif a.k==key then _ else _)=_;rw[m,beq_self_eq_true];rfl) o.le o.next λz n=>aE n
theorem ti(k:Kn g K)(b:3<=n)(o:WS h0 x d hs i r h)(B:Ev E (bz X) ⟨loc,h⟩ (.ref x))(f:∀q,Ev F (bz X) ⟨loc,q⟩ (.int size))(w:key.length<=1000)(y:bV size key r=none->X h0)(p:∀v j q,bV size key r=some (v,j)->WS h0 x d hs (i+1) j q->(∀z,z≠d->q z=h z)->Q (.bytes v) ⟨loc,q⟩):ak g n (.ref 285) (aa (av g n fg E (aa (af (.bytes key)) ag)) (aa F ag)) Q (bz X) ⟨loc,h⟩:=by
 unfold bV at y p
 refine xW k (Yk b) o B w (λe=>y (by rw[e];rfl)) λv j q e D o' fr=>?_
 rw[e]at y p
 have c:cS g n 285 [.bytes v,.int size] _:=FV k b D
 refine f q _ (c ?_)
 generalize m:bR size v=a;cases a with
 |none=>exact eF o'.s (y (by show(bR size v).map _=none;rw[m];rfl))
 |some u=>exact p u j q (by show(bR size v).map _=_;rw[m];rfl) o' fr
theorem pO(k:Kn g K)(m:3<=n)(o:WS h0 x d hs i r h)(B:Ev E (bz X) ⟨loc,h⟩ (.ref x))(f:key.length<=1000)(y:bC key r=none->X h0)(b:∀p j q,bC key r=some (p,j)->WS h0 x d hs (i+1) j q->(∀z,z≠d->q z=h z)->Q p.v ⟨loc,q⟩):ak g n (.ref 152) (aa (av g n fg E (aa (af (.bytes key)) ag)) ag) Q (bz X) ⟨loc,h⟩:=by
 unfold bC at y b
 refine xW k (Yk m) o B f (λe=>y (by rw[e];rfl)) λv j q e D o' fr=>?_
 rw[e]at y b
 have c:cS g n 152 [.bytes v] _:=uP k m (Wh D dD)
 refine c ?_
 generalize w:aY v=a;cases a with
 |none=>exact eF o'.s (y (by show(aY v).map _=none;rw[w];rfl))
 |some u=>exact b u j q (by show(aY v).map _=_;rw[w];rfl) o' fr
end
theorem B7:∀(f:Nat) (s:List UInt8) (acc:List Hd) (m:Nat) (H:Gv),b5 f s acc=some H->(∀a∈acc,a.v.length<=m)->∀a∈H.l,a.v.length<=m+s.length:=by
 intro w1
 induction w1 with
 |zero=>
  intros;contradiction
 |succ f ih=>
  intro s acc m H e ha
  generalize e1:bh 10 s=zz;cases zz with
  |none=>rw[nF e1]at e;cases e
  |some p=>
   generalize z:YB p 0=zz;cases zz with
   |true=>
    rw[th e1 z]at e
    obtain rfl:=W4 e
    exact λa h=>Wh (ha a h) (WA _ _)
   |false=>
    rw[nG e1 z]at e
    generalize e2:cZ (s.take p) acc=zz;cases zz with
    |none=>rw[e2]at e;cases e
    |some acc'=>
     rw[e2]at e
     have lp:=rF e1
     refine λa h=>Wh (ih _ acc' _ H e (tg e2 ha).v a h) ?_
     rw[Xr,W7,Z8 (Xy lp),WV m 1 p,Xd 1 p,WV m,acF lp]
     exact Wr _
noncomputable def dG:List UInt8:=[116,114,101,101]
noncomputable def dW:List UInt8:=[112,97,114,101,110,116]
noncomputable def z5:List UInt8:=[97,117,116,104,111,114]
noncomputable def uQ:List UInt8:=[99,111,109,109,105,116,116,101,114]
noncomputable def fM(size:Nat):List Hd->Option (List (List UInt8)×List Hd)
 | []=>some ([],[])
 |a::r=>bif a.k==dW then(bR size a.v).bind λo=>(fM size r).map λx=>(o::x.1,x.2)else some ([],a::r)
noncomputable def iO(k:List UInt8):Bool:=(dG==k)||((dW==k)||((z5==k)||((uQ==k)||false)))
noncomputable def KG(tree:List UInt8)(par:List (List UInt8))(msg:List UInt8)(au co:eA)(l:List Hd):Option dU:=bif l.any λy=>iO y.k then none else some ⟨tree,par,au,co,l,msg⟩
noncomputable def vz(tree:List UInt8)(msg:List UInt8)(p:List (List UInt8)×List Hd):Option dU:=(bC z5 p.2).bind λa=>(bC uQ a.2).bind λc=>KG tree p.1 msg a.1 c.1 c.2
noncomputable def gi(size:Nat)(b:List UInt8):Option dU:=(cU b).bind λH=>(bV size dG H.l).bind λt=>(fM size t.2).bind λp=>vz t.1 H.m p
section
variable{g:Gl}{K:Frag}{n:Nat}{h h0:AH}{x d c:Addr}{hs r:List Hd}{i size:Nat}{Q:V->AH->Prop}{X:AH->Prop}{v0 v1 v2 v3 v9 v10:Option V}{tree msg:List UInt8}{par:List (List UInt8)}{au co:eA}
structure PL(h0:AH)(c x d:Addr)(par:List (List UInt8))(h:AH):Prop where
 at_:h c=some (.list (par.map .bytes))
 n:h0 c=none
 d:c≠d
theorem I4:∀r:List Hd,vW c us (r.map Hd.t)=r.map Hd.t:=by
 intro q
 induction q with
 |nil=>
  exact rfl
 |cons a r y=>
  exact congrArg (a.t::·) (y)
theorem PR(kn:Kn g K)(o:WS h0 x d hs i r h)(p:PL h0 c x d par h)(q:cy ((KG tree par msg au co r).map dU.v) Q X h0):iM g 3 (dE Q) (bz X) ⟨[v0,v1,v2,some (.bytes msg),some (.ref x),some (.bytes tree),some (.ref c),some au.v,some co.v,v9,v10],h⟩:=by
 unfold KG at q
 have j:∀v9 v10,Ev (av g 3 oL (ae 4) ag) (bz X) ⟨[v0,v1,v2,some (.bytes msg),some (.ref x),some (.bytes tree),some (.ref c),some au.v,some co.v,v9,v10],h⟩ (.lst (r.map Hd.t)):=λv9 v10 Q k=>pM Iq o.w.hx o.w.hd rfl Iq (I1 kn dD o.w (by rw[o.e];exact k))
 refine I3 (a:=λy:Hd=>.bytes y.k) (b:=λy:Hd=>.bytes y.v) (l:=r) (λs:Option V×Option V=>⟨[v0,v1,v2,some (.bytes msg),some (.ref x),some (.bytes tree),some (.ref c),some au.v,some co.v,s.1,s.2],h⟩) (λl _=>cy ((bif l.any λy=>iO y.k then none else some (dU.mk tree par au co r msg)).map dU.v) Q X h0) (v9,v10) (λ_ k=>j v9 v10 _ k) q (λs q=>?_) λy l s q u k m=>?_
 ·refine a6 (aG (ar Iq (ar Iq (ar Iq (ar Iq (ar (j _ _) λ_ k=>k))))) (zX kn dD)) (.fr c _ p.at_ ?_)
  show Fin Q (.inst 365 [.bytes tree,if c=c then .lst (par.map .bytes)else .ref c,au.v,co.v,.lst (vW c (par.map .bytes) (r.map Hd.t)),.bytes msg]) _
  rw[if_pos rfl,I4]
  exact .mk (λa b e=>(aE λz=>by rw[z,p.n]at e;cases e).trans (o.s a b e)) q
 ·rw[Y3]at q
  refine bP (b:=iO y.k) Iq (λ_ _ k=>k) (λe=>?_) λe=>?_
  ·rw[e]at q;exact eF o.s q
  ·rw[e]at q;exact k (_,_) q
theorem PU(e:gD r dW=false):fM size r=some ([],r):=by
 cases r with
 |nil=>rfl
 |cons a r=>show(bif a.k==dW then _ else _)=_;rw[show(a.k==dW)=false from e];rfl
theorem N1{E R:PT}{Q:V->St->Prop}{X:St->Prop}{loc:List (Option V)}{j m:Nat}{vs:List V}(p:(loc[j]?).join=some (.ref c))(e:h c=some (.list vs))(z:E (λv q=>dS (q.h c) λo=>oc o (fl:=λvs=>vs.length<1000000∧R Q X ⟨q.loc,upd q.h c (some (.list (vs++[v])))⟩)) X ⟨loc,h⟩):ah (fY (av g m aK (ae j) (aa E ag))) R Q X ⟨loc,h⟩:=
 az p (Dx (k:=λe=>aa E ag (λvs y=>iF vs λvs=>e.2 (.ref c::vs) y.h λu h=>R Q X ⟨y.loc,h⟩) X ⟨loc,h⟩) e z)
theorem qh{E R:PT}{Q:V->St->Prop}{X:St->Prop}{st:St}{j:Nat}(y:E (λv q=>R Q X ⟨q.loc.set j (some v),q.h⟩) X st):ah (aD (aj j) E) R Q X st:=y
theorem DO{is:List Nat}{E j R:PT}{Q:V->St->Prop}{X:St->Prop}{st:St}(z:E (λv y=>j (λvs q=>iF vs λvs=>(v::vs).length<=1000000∧is.length=(v::vs).length∧R Q X ⟨vX q.loc is (v::vs).reverse,q.h⟩) X y) X st):ah (bZ is (aa E j)) R Q X st:=z
theorem I5(e:(a.k==dW)=true):fM size (a::r)=(bR size a.v).bind λo=>(fM size r).map λx=>(o::x.1,x.2):=by
 show(bif a.k==dW then _ else _)=_;rw[e];rfl
theorem Mf(e:gD r dW=true):fM size r=(bV size dW r).bind λo=>(fM size o.2).map λx=>(o.1::x.1,x.2):=by
 cases r with
 |nil=>cases e
 |cons a r=>
  have e:(a.k==dW)=true:=e
  rw[I5 e]
  show _=(Option.bind (bif a.k==dW then some (a.v,r)else none) _).bind _
  rw[e]
  show _=((bR size a.v).map λo=>(o,r)).bind _
  cases bR size a.v <;> rfl
theorem tj(e:bV size key r=some (v,q)):r.length=q.length+1:=by
 cases r with
 |nil=>cases e
 |cons a r=>
  unfold bV at e
  have e:(Option.bind (bif a.k==key then some (a.v,r)else none) λp=>(bR size p.1).map λo=>(o,p.2))=some (v,q):=e
  generalize t:(a.k==key)=y;cases y <;> rw[t]at e
  ·cases e
  ·have e:((bR size a.v).map λo=>(o,r))=some (v,q):=e
   generalize u:bR size a.v=y;cases y <;> rw[u]at e <;> cases e
   rfl
theorem WS.put(w:WS h0 x d hs i r h)(p:h0 c=none)(y:c≠d)(nx:c≠x):WS h0 x d hs i r (upd h c (some o)):=⟨⟨(aE (X6 nx)).trans w.w.hx,(aE (X6 y)).trans w.w.hd,w.w.ne⟩,w.e,λa b q=>(aE λz=>by rw[z,p]at q;cases q).trans (w.s a b q),w.nd,w.b⟩
structure PS(h0:AH)(x d c:Addr)(hs:List Hd)(size:Nat)(F:List (List UInt8)×List Hd->Prop)(X:AH->Prop)(m:Nat)(par:List (List UInt8))(i:Nat)(r:List Hd)(h:AH):Prop where
 o:WS h0 x d hs i r h
 p:PL h0 c x d par h
 n:r.length<=m
 l:par.length+r.length<=hs.length
 q:Xa (motive:=λ_=>Prop) (fM size r) (X h0) λy=>F (par++y.1,y.2)
theorem PV(kn:Kn g K)(nx:c≠x)(a:hs.length<900000)(par:List (List UInt8))(i:Nat)(r:List Hd)(h:AH)(s:PS h0 x d c hs size (λy=>cy ((vz tree msg y).map dU.v) Q X h0) X hs.length par i r h):iN g 3 (dE Q) (bz X) ⟨[v0,some (.int size),v2,some (.bytes msg),some (.ref x),some (.bytes tree),some (.ref c),none,none,v9,v10],h⟩:=by
 refine tc (λs:List (List UInt8)×Nat×List Hd×AH=>⟨[v0,some (.int size),v2,some (.bytes msg),some (.ref x),some (.bytes tree),some (.ref c),none,none,v9,v10],s.2.2.2⟩) (λm s=>PS h0 x d c hs size (λy=>cy ((vz tree msg y).map dU.v) Q X h0) X m s.1 s.2.1 s.2.2.1 s.2.2.2) (λs=>gD s.2.2.1 dW) (λm s i=>cW λQ k=>pM Iq i.o.w.hx i.o.w.hd rfl Iq (pN kn dD i.o.w (by rw[i.o.e];exact k))) (λs i=>?_) (λm s i e=>?_) (λm s i e J k D=>?_) hs.length (par,i,r,h) s
 ·rw[Xg (Y2 i.n)];rfl
 ·have q:=i.q
  rw[PU e]at q
  have q:cy ((vz tree msg (s.1++[],s.2.2.1)).map dU.v) Q X h0:=q
  rw[WT]at q
  unfold vz at q
  refine qh (pO kn (Wr _) i.o Iq dD (λe=>?_) λau r1 h1 e o1 f=>?_)
  ·rw[show bC z5 s.2.2.1=none from e]at q;exact q
  rw[show bC z5 s.2.2.1=_ from e]at q
  refine qh (pO kn (Wr _) o1 Iq dD (λe=>?_) λco r2 L e o2 B=>?_)
  ·have q:cy (((bC uQ r1).bind λc=>KG tree s.1 msg au c.1 c.2).map dU.v) Q X h0:=q
   rw[show bC uQ r1=none from e]at q;exact q
  ·have q:cy (((bC uQ r1).bind λc=>KG tree s.1 msg au c.1 c.2).map dU.v) Q X h0:=q
   rw[show bC uQ r1=_ from e]at q
   exact PR kn o2 ⟨(B c i.p.d).trans ((f c i.p.d).trans i.p.at_),i.p.n,i.p.d⟩ q
 ·have q:=i.q
  rw[Mf e]at q
  refine N1 rfl i.p.at_ (ti kn (Wr _) i.o Iq (λ_ _ k=>k) dD (λe=>?_) λv j u e o' fr=>?_)
  ·rw[show bV size dW s.2.2.1=none from e]at q;exact q
  ·rw[show bV size dW s.2.2.1=_ from e]at q
   have b:=tj e
   have z:u c=some (.list (s.1.map .bytes)):=(fr c i.p.d).trans i.p.at_
   refine az z (Wm ?_ ?_)
   ·rw[Wp];exact Wz (Wh (WA _ _) i.l) (XN a dD)
   refine k (s.1++[v],s.2.1+1,j,upd u c (some (O.list (s.1.map V.bytes++[V.bytes v])))) ⟨o'.put i.p.n i.p.d nx,⟨?_,i.p.n,i.p.d⟩,?_,?_,?_⟩
   ·rw[WQ];exact aB _ _ _
   ·exact Yi (Wh (Xz b.symm) i.n)
   ·show(s.1++[v]).length+j.length<=hs.length;rw[Wk,WV];show s.1.length+(1+j.length)<=_;rw[Xd 1,←b];exact i.l
   ·revert q
    show(Xa (motive:=λ_=>Prop) ((fM size j).map λx=>(v::x.1,x.2)) _ _)->_
    cases fM size j with
    |none=>exact λq=>q
    |some y=>exact λq=>by show cy ((vz tree msg (s.1++[v]++y.1,y.2)).map dU.v) Q X h0;rw[Wx];exact q
theorem B8{E R:PT}{Q:V->St->Prop}{X:St->Prop}{loc:List (Option V)}{i j:Nat}{a b:V}(q:Ev E X ⟨loc,h⟩ (.tup [a,b]))(k:R Q X ⟨(loc.set i (some a)).set j (some b),h⟩):ah (aD (cL 2 [aj i,aj j]) E) R Q X ⟨loc,h⟩:=q _ (Wm rfl k)
theorem vA(e:cU b=some H):∀a∈H.l,a.v.length<=b.length:=by
 unfold cU at e
 generalize t:decide (a4 b [0] 0≥0)=q;cases q <;> rw[t]at e
 ·have:=B7 _ b [] 0 H e an
  rwa [Xx]at this
 ·cases e
theorem B9:∀(f:Nat) (s:List UInt8) (acc:List Hd) (H:Gv),b5 f s acc=some H->H.l.length<=acc.length+f:=by
 intro w1
 induction w1 with
 |zero=>
  intros;contradiction
 |succ f ih=>
  intro s acc H e
  generalize e1:bh 10 s=zz;cases zz with
  |none=>rw[nF e1]at e;cases e
  |some p=>
   generalize z:YB p 0=zz;cases zz with
   |true=>rw[th e1 z]at e;obtain rfl:=W4 e;exact WA _ _
   |false=>
    rw[nG e1 z]at e
    generalize e2:cZ (s.take p) acc=zz;cases zz with
    |none=>rw[e2]at e;cases e
    |some acc'=>
     rw[e2]at e
     refine Wh (ih _ acc' H e) ?_
     rw[Xd f,←WV]
     have:∃m,∀a∈acc,a.v.length<=m:=⟨acc.foldr (λa m=>a.v.length+m) 0,λa ha=>by
      clear e e2
      induction acc with
      |nil=>cases ha
      |cons b l ih=>
       cases ha with
       |head=>exact WA _ _
       |tail _ ha=>exact Wh (ih ha) (X5 _ _)⟩
     exact this.elim λm hm=>WE (tg e2 hm).n f
theorem FW(e:cU b=some H):H.l.length<=b.length+1:=by
 unfold cU at e
 generalize t:decide (a4 b [0] 0≥0)=q;cases q <;> rw[t]at e
 ·have:=B9 _ b [] H e
  rwa [Yh,Xx]at this
 ·cases e
theorem DP(kn:Kn g K)(j:2<=n)(hb:∀a∈hs,a.v.length<=800000)(q:∀x d y,WS h x d hs 0 hs y->Q (.ref x) y):bW g n (.ref 330) [.lst (hs.map Hd.t)] Q X h:=
 PO kn j λx d y hx hd w fr=>q x d y ⟨w,rfl,λa b e=>(fr a (λz=>by rw[z,hx]at e;cases e) λz=>by rw[z,hd]at e;cases e).trans e,hd,hb⟩
theorem WS.fresh(o:WS h0 x d hs i r h)(e:h c=none):h0 c=none∧c≠d∧c≠x:=
 ⟨(acE.mpr λb z=>by rw[o.s c b z]at e;cases e),(λz=>by rw[z,o.w.hd]at e;cases e),(λz=>by rw[z,o.w.hx]at e;cases e)⟩
theorem uR(kn:Kn g K)(J:4<=n){b:List UInt8}(hb:b.length<=800000):cS g n 376 [.bytes b,.int size] ((gi size b).map dU.v):=λ{Q X h} q=>by
 refine((aH (n:=3) (kn.H 3) kn.read_commit rfl ?_).call).up J
 have z:cS g 3 292 [.bytes b] _:=DM kn dD (Wh hb dD)
 unfold gi at q
 generalize e:cU b=u;cases u with
 |none=>rw[e]at q z;exact Dy λU=>xK Iq z (fJ q)
 |some H=>
  rw[e]at q z
  have q:cy (((bV size dG H.l).bind λt=>(fM size t.2).bind λp=>vz t.1 H.m p).map dU.v) Q X h:=q
  refine B8 (aG Iq z) (qh (DP kn dD (λa ha=>Wh (vA e a ha) hb) λx d L o=>?_))
  refine DO (ti kn (Wr _) o Iq (λ_ _ k=>k) dD (λe=>?_) λt w R B o' S=>?_)
  ·rw[show bV size dG H.l=_ from e]at q;exact q
  ·rw[show bV size dG H.l=_ from B]at q
   have D:=tj B
   refine Wm (WI _) λc hc=>Wm (Wj rfl) (Wm rfl ?_)
   have j:=o'.fresh hc
   refine PV kn j.2.2 (Wz (FW e) (Wz (Ww hb) dD)) [] 1 w _ ⟨o'.put j.1 j.2.1 j.2.2,⟨aB _ _ _,j.1,j.2.1⟩,?_,?_,?_⟩
   ·rw[D];exact XC _
   ·rw[D,Yh,Xx];exact XC _
   ·have q:cy (((fM size w).bind λp=>vz t H.m p).map dU.v) Q X h:=q
    generalize f:fM size w=u;cases u with
    |none=>rw[f]at q;exact q
    |some y=>rw[f]at q;exact q
end
noncomputable def PX:List (List UInt8):=[[45,45,45,45,45,66,69,71,73,78,32,80,71,80,32,83,73,71,78,65,84,85,82,69,45,45,45,45,45],[45,45,45,45,45,66,69,71,73,78,32,80,71,80,32,77,69,83,83,65,71,69,45,45,45,45,45],[45,45,45,45,45,66,69,71,73,78,32,83,73,71,78,69,68,32,77,69,83,83,65,71,69,45,45,45,45,45],[45,45,45,45,45,66,69,71,73,78,32,83,83,72,32,83,73,71,78,65,84,85,82,69,45,45,45,45,45]]
noncomputable def jF(b:List UInt8)(a:Nat):Nat:=Xa (motive:=λ_=>Nat) (bh 10 (b.drop a)) b.length λp=>a+p+1
noncomputable def z6(b:List UInt8):Nat->Nat->Nat->Nat
 |0,_,d=>d
 |f+1,a,d=>bif decide ((a:Int)<b.length)then z6 b f (jF b a) (bif PX.any λo=>dA b o a then a else d)else d
noncomputable def nH(b:List UInt8):Nat:=z6 b b.length 0 b.length
theorem PY{b:List UInt8}{f a d:Nat}(e:decide ((a:Int)<b.length)=true):z6 b (f+1) a d=z6 b f (jF b a) (bif PX.any λo=>dA b o a then a else d):=by
 show(bif _ then _ else _)=_;rw[e];rfl
theorem P0{b:List UInt8}{f a found:Nat}(e:decide ((a:Int)<b.length)=false):z6 b f a found=found:=by
 cases f with
 |zero=>rfl
 |succ f=>show(bif _ then _ else _)=_;rw[e];rfl
section
variable{g:Gl}{K:Frag}{n:Nat}{h h0:AH}
theorem I6(kn:Kn g K)(y:1<=n):cS g n 383 [.bytes b] (some (.int (nH b))):=λ{Q X h} q=>by
 refine((aH (n:=0) (kn.H 0) kn.object_signature_at rfl ?_).call).up y
 refine jB Iq ⟨Wj rfl,rfl⟩ ?_
 refine tc (λs:(Nat×Nat)×Option V×Option V=>⟨[some (.bytes b),some (.int s.1.2),some (.int s.1.1),s.2.1,s.2.2],h⟩) (λf s=>b.length-s.1.1<=f∧Q (.int (z6 b f s.1.1 s.1.2)) h) (λs=>decide ((s.1.1:Int)<b.length)) (λm s i _ k=>k) (λs i=>decide_eq_false (Y7.mpr (X2.mpr (Nat.le_of_sub_eq_zero (Y2 i.1))))) (λm s i e=>?_) (λf s i e c k z=>?_) b.length ((0,b.length),none,none) ⟨Wr _,q⟩
 ·have q:=i.2;rw[P0 e]at q;exact a6 Iq (bc q)
 ·have q:=i.2
  rw[PY e]at q
  refine ea (e:=V.bytes) (l:=PX) (λt:Nat×Option V=>⟨[some (.bytes b),some (.int t.1),some (.int s.1.1),t.2,s.2.2],h⟩) (λl t=>Q (.int (z6 b f (jF b s.1.1) (bif l.any λo=>dA b o s.1.1 then s.1.1 else t.1))) h) (s.1.2,s.2.1) Iq q (λt q=>?_) λo l t q u d j=>?_
  ·refine aZ (bq (kG Iq rfl Iq λ_ k=>Wm ⟨WG _,rfl⟩ k) (congrArg V.int (ta b 10 s.1.1))) ?_
   refine aZ (v:=.int (jF b s.1.1)) ?_ (k ((jF b s.1.1,t.1),_,_) ⟨?_,q⟩)
   ·unfold jF
    cases bh 10 (b.drop s.1.1)with
    |none=>exact kF (b:=true) Iq (λ_ _ k=>k) tf
    |some p=>exact kF (b:=false) (bq Iq (congrArg V.bool nB)) ff λ_ _ k=>k
   ·unfold jF
    cases bh 10 (b.drop s.1.1)with
    |none=>exact Wh (Xz (abZ _)) (WI _)
    |some p=>exact ZK (WK (aaU (Xv.mp (of_decide_eq_true e)) (abn (WA _ p))) i.1)
  ·rw[Y3]at q
   refine FL (b:=dA b o s.1.1) (cW (λ_ k=>Wm (WG _) k)) (λe=>?_) λe=>?_
   ·rw[e]at q
    refine aZ Iq (d (_,_) ?_)
    show Q (.int (z6 b f (jF b s.1.1) (bif l.any λo=>dA b o s.1.1 then s.1.1 else s.1.1))) h
    rw[Bool.cond_self];exact q
   ·rw[e]at q;exact d (t.1,some (.bytes o)) q
end
structure Tg where
 goal:List UInt8
 kind:List UInt8
 name:List UInt8
 by_:Option eA
 msg:List UInt8
 sig:List UInt8
noncomputable def uS(o:Option eA):V:=Xa (motive:=λ_=>V) o .none eA.v
noncomputable def Tg.v(t:Tg):V:=.inst 415 [.bytes t.goal,.bytes t.kind,.bytes t.name,uS t.by_,.bytes t.msg,.bytes t.sig]
noncomputable def US(o:Option eA):List (List UInt8):=Xa (motive:=λ_=>List (List UInt8)) o [] λp=>[B5 [116,97,103,103,101,114,32] p.oct]
noncomputable def Tg.parts(t:Tg):List (List UInt8):=z4 [111,98,106,101,99,116,32] t.goal::B5 [116,121,112,101,32] t.kind::B5 [116,97,103,32] t.name::(US t.by_++[[10]++t.msg])
noncomputable def Tg.oct(t:Tg):List UInt8:=t.parts.flatten++t.sig
theorem z7(o:Option eA):jj (uS o):=by cases o <;> exact trivial
section
variable{g:Gl}{K:Frag}{n:Nat}{h h0:AH}
theorem I7(k:Kn g K)(o:3<=n){x:Tg}(hb:∀p,x.by_=some p->p.OK)(f:x.goal.length<=1000)(d:x.parts.flatten.length<=100000):cS g n 405 [x.v] (some (.bytes x.parts.flatten)):=λ{Q X h} q=>by
 refine((aH (n:=2) (k.H 2) k.Tag_signed_part rfl ?_).call).up o
 have j:x.parts.length<=1000:=by
  unfold Tg.parts US
  cases x.by_ <;> exact Wj rfl
 refine vu (ar (B6 k dD (λ_ k=>⟨trivial,k⟩) f (Wh (nu (.head _)) d)) λ_ k=>k) (Wj rfl) λc hc=>?_
 have i:CO h c x.parts [z4 [111,98,106,101,99,116,32] x.goal] _ _:=⟨oi.new,rfl⟩
 refine eI (bl (bl (y:=x.kind) Iq (λ_ k=>⟨trivial,k⟩) (bt (cB (i.le d)) dD)) Iq (bt (i.le d) dD)) rfl i.w.at_ (i.len j) ?_
 have i:=i.app
 refine eI (bl (bl (y:=x.name) Iq (λ_ k=>⟨trivial,k⟩) (bt (cB (i.le d)) dD)) Iq (bt (i.le d) dD)) rfl i.w.at_ (i.len j) ?_
 have i:=i.app
 have z:∀{acc h'} ,CO h c x.parts acc [[10]++x.msg] h'->fu g 2 (dE Q) (bz X) ⟨[some x.v,some (.ref c)],h'⟩:=λ{acc h'} i=>by
  refine eI (bl Iq (λ_ k=>⟨trivial,k⟩) (bt (i.le d) dD)) rfl i.w.at_ (i.len j) ?_
  have e:acc++[[10]++x.msg]=x.parts:=i.e
  have i:=i.app
  refine a6 (kG Iq rfl (ar Iq λ_ k=>k) λ_ k=>IF i.w.at_ (az (dP (λx=>x) _) (Wm ?_ k))) (.mk (i.w.sub hc) ?_)
  ·rw[Y0,fQ,e];exact Wh d dD
  ·rw[Y0,fQ,e];exact q
 have u:∀{h'},Ev (aS (ae 0) cV) (bz X) ⟨[some x.v,some (.ref c)],h'⟩ (uS x.by_):=λ{h'} _ k=>Wm (z7 _) k
 generalize e:x.by_=m;cases m with
 |none=>
  rw[e]at i u
  exact jf (bJ u Iq λ_ k=>⟨trivial,k⟩) rfl (z i)
 |some p=>
  rw[e]at i u
  refine FL (b:=true) (bJ u Iq λ_ k=>⟨trivial,k⟩) (λ_=>?_) tf
  exact eI (bl (bl (y:=p.oct) Iq (l4 u rfl Iq (iv k (Wr _) (hb p e))) (bt (cB (i.le d)) dD)) Iq (bt (i.le d) dD)) rfl i.w.at_ (i.len j) (z i.app)
theorem xX(k:Kn g K)(y:4<=n){x:Tg}(hb:∀p,x.by_=some p->p.OK)(j:x.goal.length<=1000)(d:x.oct.length<=100000):cS g n 412 [x.v] (some (.bytes x.oct)):=λ{Q X h} q=>by
 refine((aH (n:=3) (k.H 3) k.Tag_octets rfl ?_).call).up y
 exact a6 (bl (l4 Iq rfl Iq (I7 k (Wr _) hb j (cB d))) (λ_ k=>⟨trivial,k⟩) (bt d dD)) (bc q)
end
noncomputable def pP:List UInt8:=[111,98,106,101,99,116]
noncomputable def hG:List UInt8:=[116,121,112,101]
noncomputable def eh:List UInt8:=[116,97,103]
noncomputable def xY:List UInt8:=[116,97,103,103,101,114]
noncomputable def et(k:List UInt8):Bool:=([98,108,111,98]==k)||(([116,114,101,101]==k)||(([99,111,109,109,105,116]==k)||(([116,97,103]==k)||false)))
noncomputable def nI(m:List UInt8):Bool:=(m==[])||decide (a4 m [10] 0≥0)
noncomputable def N5(goal kind name msg:List UInt8)(p:Option eA)(l:List Hd):Option Tg:=bif decide ((l.length:Int)>0)then none else some ⟨goal,kind,name,p,msg.take (nH msg),msg.drop (nH msg)⟩
noncomputable def gE(l:List Hd):Option (Option eA×List Hd):=bif gD l xY then(bC xY l).map λp=>(some p.1,p.2)else some (none,l)
noncomputable def DQ(goal kind name msg:List UInt8)(l:List Hd):Option Tg:=bif !et kind then none else bif nI name then none else(gE l).bind λp=>N5 goal kind name msg p.1 p.2
noncomputable def nJ(size:Nat)(b:List UInt8):Option Tg:=(cU b).bind λH=>(bV size pP H.l).bind λt=>(cH hG t.2).bind λk=>(cH eh k.2).bind λm=>DQ t.1 k.1 m.1 H.m m.2
section
variable{g:Gl}{K:Frag}{n:Nat}{h h0:AH}{x d c:Addr}{hs r:List Hd}{i size:Nat}{Q:V->AH->Prop}{X:AH->Prop}{v0 v1 v2 v3 v8 v9:Option V}{goal kind name msg:List UInt8}
theorem I8{E es:PT}{Q:V->St->Prop}{X:St->Prop}{st:St}(h:E (λv st1=>es (λvs st2=>iF vs λvs=>Q (.lst (v::vs)) st2) X st1) X st):aa E es Q X st:=h
theorem I9(kn:Kn g K)(o:WS h0 x d hs i r h)(q:cy ((N5 goal kind name msg p r).map Tg.v) Q X h0):mZ g 3 (dE Q) (bz X) ⟨[v0,v1,v2,some (.bytes msg),some (.ref x),some (.bytes goal),some (.bytes kind),some (.bytes name),some (uS p),v9],h⟩:=by
 have er:Ev (av g 3 oL (ae 4) ag) (bz X) ⟨[v0,v1,v2,some (.bytes msg),some (.ref x),some (.bytes goal),some (.bytes kind),some (.bytes name),some (uS p),v9],h⟩ (.lst (r.map Hd.t)):=λQ k=>pM Iq o.w.hx o.w.hd rfl Iq (I1 kn dD o.w (by rw[o.e];exact k))
 unfold N5 at q
 refine bP (b:=decide (((r.map Hd.t).length:Int)>0)) (bJ (l0 er λ_ k=>k) Iq λ_ k=>k) (λ_ _ k=>k) (λe=>?_) λe=>?_
 ·rw[Wp]at e;rw[e]at q;exact eF o.s q
 ·rw[Wp]at e;rw[e]at q
  refine aZ (aG Iq (I6 kn dD)) ?_
  exact a6 (aG (ar Iq (ar Iq (ar Iq (ar Iq (ar (bq Iq (congrArg V.bytes eP)) (ar (bq Iq (congrArg V.bytes dg)) λ_ k=>k)))))) (PA kn dD)) (.mk o.s q)
theorem P1(kn:Kn g K)(o:WS h0 x d hs i r h)(q:cy ((DQ goal kind name msg r).map Tg.v) Q X h0):m3 g 3 (dE Q) (bz X) ⟨[v0,v1,v2,some (.bytes msg),some (.ref x),some (.bytes goal),some (.bytes kind),some (.bytes name),v8,v9],h⟩:=by
 unfold DQ at q
 refine bP (b:=!et kind) Iq (λ_ _ k=>k) (λe=>?_) λe=>?_
 ·rw[e]at q;exact eF o.s q
 rw[e]at q
 refine bP (b:=nI name) (cg Iq λ_=>fB Iq) (λ_ _ k=>k) (λe=>?_) λe=>?_
 ·rw[e]at q;exact eF o.s q
 rw[e]at q
 have q:cy (((gE r).bind λp=>N5 goal kind name msg p.1 p.2).map Tg.v) Q X h0:=q
 have en:Ev (cu (av g 3 fP (ae 4) (aa (af (.bytes xY)) ag))) (bz X) ⟨[v0,v1,v2,some (.bytes msg),some (.ref x),some (.bytes goal),some (.bytes kind),some (.bytes name),v8,v9],h⟩ (.bool (gD r xY)):=cW λQ k=>pM Iq o.w.hx o.w.hd rfl Iq (pN kn dD o.w (by rw[o.e];exact k))
 unfold gE at q
 refine qh (en _ (KE (λe=>?_) λe=>?_))
 ·rw[e]at q
  refine pO kn (Wr _) o Iq dD (λe=>?_) λp r' h' e o' f=>?_
  ·have q:cy ((((bC xY r).map λp=>(some p.1,p.2)).bind λp=>N5 goal kind name msg p.1 p.2).map Tg.v) Q X h0:=q
   rw[show bC xY r=_ from e]at q;exact q
  ·have q:cy ((((bC xY r).map λp=>(some p.1,p.2)).bind λp=>N5 goal kind name msg p.1 p.2).map Tg.v) Q X h0:=q
   rw[show bC xY r=_ from e]at q
   exact I9 kn (p:=some p) o' q
 ·rw[e]at q
  exact I9 kn (p:=none) o q
theorem Ca(kn:Kn g K)(hn:4<=n){b:List UInt8}(hb:b.length<=800000):cS g n 426 [.bytes b,.int size] ((nJ size b).map Tg.v):=λ{Q X h} q=>by
 have ch:cS g 3 292 [.bytes b] _:=DM kn dD (Wh hb dD)
 refine((aH (n:=3) (kn.H 3) kn.read_tag rfl ?_).call).up hn
 unfold nJ at q
 generalize e:cU b=zz;cases zz with
 |none=>rw[e]at q ch;exact Dy λQe=>xK Iq ch (fJ q)
 |some H=>
  rw[e]at q ch
  refine B8 (aG Iq ch) (qh (DP kn dD (λa ha=>Wh (vA e a ha) hb) λx d h' o=>?_))
  have q:cy (((bV size pP H.l).bind λt=>(cH hG t.2).bind λk=>(cH eh k.2).bind λm=>DQ t.1 k.1 m.1 H.m m.2).map Tg.v) Q X h:=q
  refine DO (ti kn (Wr _) o Iq (λ_ _ k=>k) dD (λe=>?_) λt r1 h1 e o1 f1=>?_)
  ·rw[show bV size pP H.l=_ from e]at q;exact q
  rw[show bV size pP H.l=_ from e]at q
  have q:cy (((cH hG r1).bind λk=>(cH eh k.2).bind λm=>DQ t k.1 m.1 H.m m.2).map Tg.v) Q X h:=q
  refine I8 (xW kn dD o1 Iq dD (λe=>?_) λk r2 h2 e _ o2 f2=>?_)
  ·rw[show cH hG r1=_ from e]at q;exact q
  rw[show cH hG r1=_ from e]at q
  have q:cy (((cH eh r2).bind λm=>DQ t k m.1 H.m m.2).map Tg.v) Q X h:=q
  refine I8 (xW kn dD o2 Iq dD (λe=>?_) λm r3 h3 e _ o3 f3=>?_)
  ·rw[show cH eh r2=_ from e]at q;exact q
  ·rw[show cH eh r2=_ from e]at q
   exact Wm (Wj rfl) (Wm rfl (P1 kn o3 q))
end
noncomputable def gu(size:Nat)(kind b:List UInt8):Option V:=bif kind==dG then(eQ bU size b).map dF else bif kind==[99,111,109,109,105,116]then(gi size b).map dU.v else bif kind==eh then(nJ size b).map Tg.v else bif !(kind==[98,108,111,98])then none else some (.bytes b)
noncomputable def FY(b:List UInt8)(e:Int)(kind:List UInt8)(d:Option Int):Option V:=bif !et kind then none else d.elim none λw=>bif !(w==b.length-e-1)then none else some (.tup [.bytes kind,.bytes (bY b (some (e+1)) none)])
noncomputable def N6(b:List UInt8)(e k:Int):Option V:=bif decide (e<0)||(decide (k<0)||decide (k>e))then none else FY b e (bY b none (some k)) (numOf (bY b (some (k+1)) (some e)))
noncomputable def cX(b:List UInt8):Option V:=N6 b (a4 b [0] 0) (a4 b [32] 0)
section
variable{g:Gl}{K:Frag}{n:Nat}{h h0:AH}{size:Nat}{Q:V->AH->Prop}{X:AH->Prop}
theorem Ja{E r:PT}{st:St}(q:E (λv d=>Fin Q v d.h) (bz X) st):ah (aO E) r (dE Q) (bz X) st:=q
theorem xZ{C A r:PT}{Q:V->St->Prop}{X:St->Prop}{st:St}{b:Bool}(hC:Ev C X st (.bool b))(h1:b=true->∀Q':V->St->Prop,(∀v st',Q (.tup [v]) st'->Q' (.tup [v]) st')->A Q' X st)(d:b=false->r Q X st):ah (bA C A ai) r Q X st:=hC _ (KE (λe=>h1 e _ λ_ _ q=>q) d)
theorem kU(kn:Kn g K)(y:5<=n)(hb:b.length<=800000):cS g n 433 [.bytes kind,.bytes b,.int size] (gu size kind b):=λ{Q X h} q=>by
 refine((aH (n:=4) (kn.H 4) kn.read_object rfl ?_).call).up y
 have call:∀{a:Addr} {o:Option V} {Q':V->St->Prop} {r:PT},cS g 4 a [.bytes b,.int size] o->cy o Q X h->(∀v st',dE Q (.tup [v]) st'->Q' (.tup [v]) st')->ah (aO (ak g 4 (.ref a) (aa (ae 1) (aa (ae 2) ag)))) r Q' (bz X) ⟨[some (.bytes kind),some (.bytes b),some (.int size)],h⟩:=λ{a o Q' r} c q d=>by
  cases o with
  |none=>exact c (fJ q)
  |some v=>exact c (d _ _ (bc q))
 unfold gu at q
 refine xZ (b:=kind==dG) Iq (λe Q' d=>?_) λe=>?_
 ·rw[e]at q;exact call (z0 kn dD (Wh hb dD)) q d
 rw[e]at q
 refine xZ (b:=kind==[99,111,109,109,105,116]) Iq (λe Q' d=>?_) λe=>?_
 ·rw[e]at q;exact call (uR kn dD hb) q d
 rw[e]at q
 refine xZ (b:=kind==eh) Iq (λe Q' d=>?_) λe=>?_
 ·rw[e]at q;exact call (Ca kn dD hb) q d
 rw[e]at q
 refine bP (b:=!(kind==[98,108,111,98])) Iq (λ_ _ k=>k) (λe=>?_) λe=>?_
 ·rw[e]at q;exact fJ q
 ·rw[e]at q;exact a6 Iq (bc q)
theorem DR{m:Nat}(h:m<=1000000):(m:Int).natAbs.log2<1920:=by
 rw[acT]
 by_cases z:m=0
 ·rw[z];decide
 ·exact XN ((afj (k:=20) z).mpr (Wz h dD)) dD
theorem rk(kn:Kn g K)(i:2<=n){kind b:List UInt8}(d:(kind++[32]++bL b.length++[0]++b).length<=100000):cS g n 440 [.bytes kind,.bytes b] (some (.bytes (kind++[32]++bL b.length++[0]++b))):=λ{Q X h} q=>by
 have j:=cB d
 refine((aH (n:=1) (kn.H 1) kn.object_octets rfl ?_).call).up i
 have y:=cB j
 have ld:(kM b.length).length<=1000000:=by
  have:(bL b.length).length<=100000:=by
   have:=y
   rw[Wk]at this
   exact Wh (X5 _ _) this
  unfold bL FN at this
  rw[Wp]at this
  exact Wh this dD
 exact a6 (bl (bl (bl (bl Iq Iq (bt (cB y) dD)) (aG (ar (l0 Iq λ_ k=>⟨DR (Wh (by rw[Wk];exact X5 _ _) (Wh d dD)),k⟩) λ_ k=>k) (jE kn (Wr _) ld (xM _))) (bt y dD)) Iq (bt j dD)) Iq (bt d dD)) (bc q)
theorem P2(kn:Kn g K)(q:cy (FY b e kind d) Q X h):g5 g 2 (dE Q) (bz X) ⟨[some (.bytes b),some (.int e),v2,some (.bytes kind),some (gC d)],h⟩:=by
 unfold FY at q
 refine bP (b:=!et kind) Iq (λ_ _ k=>k) (λy=>?_) λy=>?_
 ·rw[y]at q;exact fJ q
 rw[y]at q
 cases d with
 |none=>exact d9 (cg (a:=true) (b:=false) (λ_ k=>⟨trivial,k⟩) tf) rfl Iq (fJ q)
 |some w=>
  refine bP (b:=!(w==(b.length:Int)-e-1)) (cg (a:=false) (λ_ k=>⟨trivial,k⟩) λ_=>fB Iq) (λ_ _ k=>k) (λz=>?_) λz=>?_
  ·have q:cy (bif !(w==(b.length:Int)-e-1)then none else some _) Q X h:=q
   rw[z]at q;exact fJ q
  ·have q:cy (bif !(w==(b.length:Int)-e-1)then none else some _) Q X h:=q
   rw[z]at q;exact a6 (λ_ k=>Wm (Wj rfl) k) (bc q)
theorem tm(kn:Kn g K)(d:3<=n):cS g n 447 [.bytes b] (cX b):=λ{Q X h} q=>by
 refine((aH (n:=2) (kn.H 2) kn.split_object rfl ?_).call).up d
 unfold cX N6 at q
 refine aZ Iq (aZ Iq (bP (cg Iq λ_=>cg Iq λ_=>fB Iq) (λ_ _ k=>k) (λe=>?_) λe=>?_))
 ·rw[show(decide (a4 b [0] 0<0)||(decide (a4 b [32] 0<0)||decide (a4 b [32] 0>a4 b [0] 0)))=true from e]at q;exact fJ q
 ·rw[show(decide (a4 b [0] 0<0)||(decide (a4 b [32] 0<0)||decide (a4 b [32] 0>a4 b [0] 0)))=false from e]at q
  exact jB (ar Iq (ar (aG Iq (qd kn dD)) λ_ k=>k)) ⟨Wj rfl,rfl⟩ (P2 kn q)
end
section
variable{g:Gl}{K:Frag}{n:Nat}{h h0:AH}{size:Nat}
theorem nL(k:Kn g K)(hn:1<=n)(hl:s.length<=1000000)(hs:∀c∈s,c<256):cS g n 452 [.str s] (some (.bytes (FN s))):=λ{Q X h} q=>by
 refine((aH (n:=0) (k.H 0) k.law_octets rfl ?_).call).up hn
 refine a6 (l0 (ee (f:=λc:Nat=>.int c) Iq hl λc _ _ k=>k) λQ k=>az (jT (λc:Nat=>(c:Int)) s) (Wm (λm hm=>?_) k)) ?_
 ·obtain⟨c,hc,rfl⟩:=WN.mp hm
  exact⟨WG _,Xv.mpr (hs c hc)⟩
 ·rw[XM];exact bc q
theorem Cb(k:Kn g K)(hn:1<=n)(hb:b.length<=1000000):cS g n 457 [.bytes b] (some (.str (jg b))):=λ{Q X h} q=>by
 refine((aH (n:=0) (k.H 0) k.law_signs_of rfl ?_).call).up hn
 refine a6 (LX Iq rfl (ar (ee (f:=λc:UInt8=>.str [c.toNat]) Iq hb λc _ _ k=>Wm ⟨WG _,SG c⟩ k) λ_ k=>k) λ_ k=>az (pH _ _) (Wm ⟨rfl,?_⟩ k)) ?_
 ·rw[vv,Wp];exact Wh hb dD
 ·rw[vv];exact bc q
theorem Jb(hE:∀(Q':V->St->Prop) (X':St->Prop),cy o (λv h=>Q' v ⟨loc,h⟩) (λh=>X' ⟨loc,h⟩) h->E Q' X' ⟨loc,h⟩)(k:r Q X ⟨loc.set i (some (o.getD v)),h⟩):ah (vY (ah (aD (aj i) E) ai) i v) r Q X ⟨loc,h⟩:=
 hE _ _ (by cases o <;> exact k)
noncomputable def T8:V:=.str [98,97,100]
noncomputable def tn(size:Nat)(kind b:List UInt8):V:=(gu size kind b).getD T8
theorem nM(k:Kn g K)(hn:6<=n)(hb:b.length<=800000):cS g n 493 [.bytes kind,.bytes b,.int size] (some (tn size kind b)):=λ{Q X h} q=>by
 refine((aH (n:=5) (k.H 5) k.law_heard rfl ?_).call).up hn
 exact aZ Iq (Jb (λQ' X' q=>kU k dD hb q) (a6 Iq (bc q)))
theorem Cc(e:cX b=some v):∃x y,v=.tup [.bytes x,.bytes y]:=by
 unfold cX N6 at e
 revert e
 generalize (decide (a4 b [0] 0<0)||(decide (a4 b [32] 0<0)||decide (a4 b [32] 0>a4 b [0] 0)))=c
 cases c with
 |true=>exact ns
 |false=>
  intro e
  have e:FY b (a4 b [0] 0) (bY b none (some (a4 b [32] 0))) (numOf (bY b (some (a4 b [32] 0+1)) (some (a4 b [0] 0))))=some v:=e
  unfold FY at e
  revert e
  generalize numOf (bY b (some (a4 b [32] 0+1)) (some (a4 b [0] 0)))=m
  generalize et (bY b none (some (a4 b [32] 0)))=d
  cases d with
  |false=>exact ns
  |true=>
   cases m with
   |none=>exact ns
   |some w=>
    show(bif !(w==(b.length:Int)-a4 b [0] 0-1)then none else some _)=some v->_
    cases w==(b.length:Int)-a4 b [0] 0-1 with
    |false=>exact ns
    |true=>exact λe=>⟨_,_,(W4 e).symm⟩
theorem nN(k:Kn g K)(hn:4<=n):cS g n 519 [.bytes b] (some ((cX b).getD .none)):=λ{Q X h} q=>by
 refine((aH (n:=3) (k.H 3) k.law_split_told rfl ?_).call).up hn
 refine aZ Iq (Jb (o:=cX b) (λQ' X' q=>?_) (a6 Iq (bc q)))
 have c:cS g 3 447 [.bytes b] _:=tm k (Wr _)
 refine c ?_
 generalize e:cX b=zz;cases zz with
 |none=>rw[e]at q;exact q
 |some v=>
  obtain⟨x,y,rfl⟩:=Cc e
  rw[e]at q;exact q
theorem Mg{A:PT}{X:St->Prop}{st:St}{vs:List V}(h1:Ev A X st (.lst vs)):Ev (aC .NotEq A (bp ag)) X st (.bool (!vs.isEmpty)):=λ_ k=>h1 _ (Wm (WI _) (by cases vs <;> exact k))
theorem Jc{A:PT}{X:St->Prop}{st:St}{vs:List V}(h1:Ev A X st (.lst vs)):Ev (aC .Eq A (bp ag)) X st (.bool vs.isEmpty):=λ_ k=>h1 _ (Wm (WI _) (by cases vs <;> exact k))
end
noncomputable def iP(c:UInt8):Bool:=!(decide (48<=(c.toNat:Int))&&decide ((c.toNat:Int)<=57))
theorem Jd(c:UInt8):(decide (0<=(c.toNat:Int)-48)&&decide ((c.toNat:Int)-48<10))=!iP c:=by
 unfold iP
 rw[aew]
 generalize (c.toNat:Int)=x
 congr 1
 ·exact decide_eq_decide.mpr Int.sub_nonneg
 ·exact decide_eq_decide.mpr (by lia)
theorem P4:∀(l:List UInt8) (a:Int),(l.filter iP).isEmpty=false->jD 10 l a=none:=by
 intro w1
 induction w1 with
 |nil=>
  intros;contradiction
 |cons c l ih=>
  intro a h
  rw[pJ,Jd]
  generalize e:iP c=zz;cases zz with
  |true=>rfl
  |false=>
   rw[abC (by rw[e];decide)]at h
   exact ih _ h
theorem Mh(h:iP c=false):jD 10 (c::l) a=jD 10 l (10*a+((c.toNat:Int)-48)):=by rw[pJ,Jd,h];rfl
theorem SQ(c:UInt8):((c.toNat:Int)==48)=(c==48):=by
 rw[X4,beq_iff_eq,beq_iff_eq]
 exact⟨λh=>UInt8.toNat_inj.mp (YH h),λh=>by rw[h];rfl⟩
theorem DT(b:List UInt8):(b.head?.elim false λc=>(c.toNat:Int)==48)=(b.take 1==[48]):=by
 cases b with
 |nil=>rfl
 |cons c r=>exact(SQ c).trans (acG _).symm
noncomputable def pQ(b:List UInt8):Bool:=(b==[])||((decide ((b.length:Int)>1)&&(b.take 1==[48]))||!((b.filter iP).map λc=>V.int (c.toNat:Nat)).isEmpty)
theorem DU(b:List UInt8):(b==[])=b.isEmpty:=by cases b <;> rfl
theorem DV(h:pQ b=true):numOf b=none:=by
 unfold pQ at h
 unfold numOf zP
 rw[DT,←DU]
 generalize e1:(b==[])=zz;cases zz with
 |true=>cases (decide ((b.length:Int)>1)&&(b.take 1==[48])) <;> rfl
 |false=>
  rw[e1]at h
  generalize e2:(decide ((b.length:Int)>1)&&(b.take 1==[48]))=zz;cases zz with
  |true=>rfl
  |false=>
   rw[e2,ade]at h
   exact P4 b 0 (cw h)
theorem Mj(h:pQ b=false):numOf b=jD 10 b 0∧b.filter iP=[]:=by
 unfold pQ at h
 have h1:=Ye.mp h
 have h2:=Ye.mp h1.2
 unfold numOf zP
 rw[DT,←DU,h1.1,h2.1]
 refine⟨rfl,?_⟩
 have:=h2.2
 rw[ade]at this
 exact Xj.mp (nr this)
section
variable{g:Gl}{K:Frag}{n:Nat}{h h0:AH}{size:Nat}
theorem x5(k:Kn g K)(hn:1<=n)(hb:b.length<=1000000):cS g n 505 [.bytes b] (some (gC (numOf b))):=λ{Q X h} q=>by
 refine((aH (n:=0) (k.H 0) k.law_number rfl ?_).call).up hn
 refine bI (b:=pQ b) (cg Iq λ_=>cg (eH Iq λ_=>lZ (bJ (bq Iq (congrArg V.bytes (eP (b:=1)))) Iq λ_ k=>k)) λ_=>fB (Mg (DA iP (f:=λc:UInt8=>.int (c.toNat:Nat)) Iq hb (λc _=>jC (Dz Iq Iq Iq Iq λ_ _ k=>k)) λc _ _ _ k=>k))) (λ_ _ k=>k) (λe=>?_) λe=>?_
 ·rw[DV e]at q;exact bc q
 ·have f:=Mj e
  rw[f.1]at q
  refine aZ Iq (ea (e:=λc:UInt8=>.int (c.toNat:Nat)) (λs:Int×Option V=>⟨[some (.bytes b),some (.int s.1),s.2],h⟩) (λl s=>Q (gC (jD 10 l s.1)) h∧l.filter iP=[]) (0,none) Iq ⟨q,f.2⟩ (λs i=>a6 Iq (bc i.1)) λc l s i Qc kn kr=>?_)
  have nd:iP c=false:=by
   generalize z:iP c=zz;cases zz with
   |false=>rfl
   |true=>have:=i.2;rw[abB z]at this;cases this
  have q:=i.1
  have r:=i.2
  rw[Mh nd,←Int.add_sub_assoc]at q
  rw[abC (by rw[nd];decide)]at r
  exact aZ (λ_ k=>Wm (BP dD dD) k) (kn (_,_) ⟨q,r⟩)
end
theorem tp(n:x≠c)(e:aL c r=h::t):aL c (x::r)=(x::h)::t:=by
 show(if x=c then[]::aL c r else _)=_
 rw[if_neg n,e]
theorem pR:∀{l:List UInt8},c∉l->aL c l=[l]:=by
 intro zi
 induction zi with
 |nil=>
  intro _
  exact rfl
 |cons x l ih=>
  intro h
  exact tp (λe=>h (by rw[e];exact .head _)) (ih λm=>h (.tail _ m))
theorem pS:∀{p:List UInt8},c∉p->aL c (p++c::r)=p::aL c r:=by
 intro zi
 induction zi with
 |nil=>
  intro _
  exact if_pos rfl
 |cons x p ih=>
  intro h
  exact tp (λe=>h (by rw[e];exact .head _)) (ih λm=>h (.tail _ m))
theorem vB:aL c l≠[]:=by
 by_cases h:c∈l
 ·obtain⟨p,r,rfl,h1⟩:=Y5 h
  rw[pS h1];nofun
 ·rw[pR h];nofun
theorem F0:∀{p:List UInt8},c∉p->bh c (p++l)=(bh c l).map (p.length+·):=by
 intro zi
 induction zi with
 |nil=>
  intro _
  rw[aaJ]
  cases bh c l with
  |none=>rfl
  |some i=>exact congrArg some (Xx i).symm
 |cons x p ih=>
  intro h
  show(bif x==c then _ else(bh c (p++l)).map (· + 1))=_
  rw[beq_eq_false_iff_ne.mpr λe=>h (by rw[e];exact .head _),ih λm=>h (.tail _ m)]
  show((bh c l).map (p.length+·)).map (· + 1)=_
  cases bh c l with
  |none=>rfl
  |some i=>exact congrArg some (X1 ..)
noncomputable def P5(b:List UInt8)(e:Int)(ws:List (List UInt8)):Option V:=match ws with
 | [k,m]=>FY b e k (numOf m)
 |_=>none
noncomputable def tu(b:List UInt8):Option V:=(bh 0 b).elim none λp=>P5 b p (aL 32 (b.take p))
theorem P6(h:(32:UInt8)∈m):numOf m=none:=by
 refine DV ?_
 unfold pQ
 have:(m.filter iP).map (λc=>V.int (c.toNat:Nat))≠[]:=λe=>List.ne_nil_of_mem (ab3.mpr ⟨h,rfl⟩) (Zl.mp e)
 rw[List.isEmpty_eq_false_iff.mpr this,Bool.not_false,Zd,Zd]
theorem Je:FY b e k none=none:=by unfold FY;cases et k <;> rfl
theorem Jf(b:List UInt8):cX b=tu b:=by
 unfold cX tu
 rw[te,te]
 generalize e0:bh 0 b=zz;cases zz with
 |none=>rfl
 |some p=>
  show N6 b p (optN (bh 32 b))=P5 b p (aL 32 (b.take p))
  obtain⟨t,r,rfl,ht,rfl⟩:=fR e0
  rw[Y4]
  by_cases h:(32:UInt8)∈t
  ·obtain⟨t1,t2,rfl,h1⟩:=Y5 h
   have e1:bh 32 (t1++32::t2++0::r)=some t1.length:=by rw[Wx];exact iu h1
   rw[e1,pS h1]
   have c1:bY (t1++32::t2++0::r) none (some (t1.length:Int))=t1:=by rw[eP,Wx,Y4]
   have c2:bY (t1++32::t2++0::r) (some ((t1.length:Int)+1)) (some ((t1++32::t2).length:Int))=t2:=by
    have:=gf (l:=t1++32::t2++0::r) (a:=t1.length+1) (p:=t2.length)
    rw[Wk,WX,show t1.length+(t2.length+1)=t1.length+1+t2.length by rw[WV,Xd 1]]
    refine this.trans ?_
    rw[Wx,←Xl,Zo]
    exact Y4
   have lt:decide ((t1.length:Int)>((t1++32::t2).length:Int))=false:=decide_eq_false (Y7.mpr (X2.mpr (by rw[Wk];exact WA _ _)))
   show(bif decide (((t1++32::t2).length:Int)<0)||(decide ((t1.length:Int)<0)||decide ((t1.length:Int)>((t1++32::t2).length:Int)))then none else FY _ _ (bY _ none (some (t1.length:Int))) (numOf (bY _ (some ((t1.length:Int)+1)) (some ((t1++32::t2).length:Int)))))=_
   rw[nB,nB,lt,c1,c2]
   show FY _ _ t1 (numOf t2)=_
   by_cases h2:(32:UInt8)∈t2
   ·obtain⟨u1,u2,rfl,h3⟩:=Y5 h2
    rw[P6 h2,Je,pS h3]
    generalize e9:aL 32 u2=zz;cases zz with
    |nil=>exact absurd e9 vB
    |cons=>rfl
   ·rw[pR h2];rfl
  ·rw[pR h]
   show N6 (t++0::r) t.length (optN (bh 32 (t++0::r)))=none
   rw[F0 h]
   show N6 _ _ (optN (((bh 32 r).map (· + 1)).map (t.length+·)))=none
   unfold N6
   cases bh 32 r with
   |none=>
    rw[Zd];rfl
   |some j=>
    rw[show decide (((t.length+(j+1):Nat):Int)>t.length)=true from decide_eq_true (Xv.mpr (Ys (XF j))),Zd,Zd];rfl
section
variable{g:Gl}{K:Frag}{n:Nat}{h h0:AH}{size:Nat}
theorem SR{es:PT}{X:St->Prop}{st:St}{vs:List V}(h1:Ev es X st (.lst vs))(l:vs.length<=1000000):Ev (c8 es) X st (.tup vs):=λ_ k=>h1 _ (Wm l k)
theorem F1:∀(l m:List UInt8),m∈aL c l->m.length<=l.length:=by
 intro zi
 induction zi with
 |nil=>
  intro m h
  rw[WB.mp h];exact Wr _
 |cons x r ih=>
  intro m h
  by_cases e:x=c
  ·rw[show aL c (x::r)=[]::aL c r from if_pos e]at h
   cases h with
   |head=>exact WI _
   |tail _ h=>exact YA (ih m h)
  ·generalize e2:aL c r=zz;cases zz with
   |nil=>exact absurd e2 vB
   |cons y t=>
    rw[tp e e2]at h
    cases h with
    |head=>exact Ww (ih y (by rw[e2];exact .head _))
    |tail _ h=>exact YA (ih m (by rw[e2];exact .tail _ h))
theorem Jg(n:Nat):(((n+1+1+1:Nat):Int)==2)=false:=beq_eq_false_iff_ne.mpr λe=>absurd (YH e) (λz=>nomatch XE (XE z))
theorem P7(kn:Kn g K){b k m:List UInt8}{e:Int}{Q:V->AH->Prop}{X:AH->Prop}(hm:m.length<=1000000)(q:Q ((FY b e k (numOf m)).getD .none) h):kQ g 1 (dE Q) (bz X) ⟨[some (.bytes b),some (.int e),some (.lst [.bytes k,.bytes m])],h⟩:=by
 unfold FY at q
 refine bI (b:=!et k) (cg (a:=false) Iq λ_=>fB (bJ (B4 (i:=0) Iq Iq rfl) (λ_ k=>Wm (Wj rfl) k) λ_ k=>k)) (λ_ _ k=>k) (λy=>?_) λy=>?_
 ·rw[y]at q;exact bc q
 rw[y]at q
 have en:Ev (ak g 1 (.ref 505) (aa (aQ (ae 2) (af (.int 1))) ag)) (bz X) ⟨[some (.bytes b),some (.int e),some (.lst [.bytes k,.bytes m])],h⟩ (gC (numOf m)):=aG (ar (B4 (i:=1) Iq Iq rfl) λ_ k=>k) (x5 kn (Wr _) hm)
 revert q en
 generalize numOf m=o
 intro q en
 cases o with
 |none=>exact a6 (kF (b:=false) (bJ en Iq λ_ k=>k) ff λ_ _ k=>k) (bc q)
 |some w=>
  have q:Q ((bif !(w==(b.length:Int)-e-1)then none else some (V.tup [.bytes k,.bytes (bY b (some (e+1)) none)])).getD .none) h:=q
  refine a6 (v:=(bif !(w==(b.length:Int)-e-1)then none else some (V.tup [.bytes k,.bytes (bY b (some (e+1)) none)])).getD .none) (kF (b:=w==(b.length:Int)-e-1) (bJ en Iq λ_ k=>k) (λz=>?_) λz=>?_) (bc q)
  ·rw[z];exact SR (ar (B4 (i:=0) Iq Iq rfl) (ar Iq λ_ k=>k)) (Wj rfl)
  ·rw[z];exact λ_ k=>k
theorem z8(kn:Kn g K)(hn:2<=n)(hb:b.length<=900000):cS g n 512 [.bytes b] (some ((cX b).getD .none)):=λ{Q X h} q=>by
 refine((aH (n:=1) (kn.H 1) kn.law_split rfl ?_).call).up hn
 rw[Jf]at q
 unfold tu at q
 refine aZ (bq Iq (congrArg V.int (te b 0))) ?_
 generalize e0:bh 0 b=zz;cases zz with
 |none=>
  rw[e0]at q
  exact aZ (kF (b:=false) Iq ff λ_ _ k=>Wm (WI _) k) (bI (cg (a:=true) (b:=false) Iq tf) (λ_ _ k=>k) (λ_=>bc q) tf)
 |some p=>
  rw[e0]at q
  have q:Q ((P5 b p (aL 32 (b.take p))).getD .none) h:=q
  have lt:(b.take p).length<=b.length:=by rw[Xr];exact YM _ _
  have hm:=F1 (c:=32) (b.take p)
  refine aZ (kF (b:=true) (bq Iq (congrArg V.bool (decide_eq_true (WG p)))) (λ_=>kG (bq Iq (congrArg V.bytes eP)) rfl Iq λ_ k=>Wm (Wh lt hb) k) tf) ?_
  revert q hm
  generalize aL 32 (b.take p)=ws
  intro q hm
  match ws,q,hm with
  | [k,m],q,hm=>exact P7 kn (Wh (hm m (.tail _ (.head _))) (Wh lt (Wh hb dD))) q
  | [],q,_=>exact bI (cg (a:=true) (b:=false) Iq tf) (λ_ _ k=>k) (λ_=>bc q) tf
  | [_],q,_=>exact bI (cg (a:=true) (b:=false) Iq tf) (λ_ _ k=>k) (λ_=>bc q) tf
  |a::b'::c::r,q,_=>exact bI (cg (a:=true) (b:=false) (bq Iq (congrArg V.bool (show(!((((a::b'::c::r).map V.bytes).length:Int)==2))=true by rw[Wp];exact congrArg not (Jg r.length)))) tf) (λ_ _ k=>k) (λ_=>bc q) tf
end
noncomputable abbrev Jh:Str:=⟨#[99,101,108,108,115]⟩
noncomputable abbrev Ji:Str:=⟨#[109,105,120,101,100]⟩
noncomputable abbrev DW:Str:=⟨#[116,117,114,110]⟩
noncomputable def dT(C:Addr)(x t:Int):List (DK.K .s×V):=[(Jh,.ref C),(Ji,.int x),(DW,.int t)]
theorem z9:atKey (dT C x t) Jh=some (.ref C):=rfl
theorem Jj:atKey (dT C x t) Ji=some (.int x):=rfl
theorem x6:atKey (dT C x t) DW=some (.int t):=rfl
theorem UT:fF (dT C x t) DW (.int u)=dT C x u:=rfl
structure cN(D C:Addr)(T:Nat)(h:AH):Prop where
 ne:D≠C
 d:∃(x:Int) (t:Nat),t<=T∧h D=some (.dict .s (dT C x t))
 c:∃l:List Int,l.length<=8∧h C=some (.list (l.map .int))
theorem nO(h:j.natAbs<2^30):aaB i j=false:=by
 unfold aaB
 refine Bool.and_eq_false_iff.mpr (.inl (decide_eq_false (Xq.mpr ?_)))
 show(if(j==0)=true then 0 else j.natAbs.log2/30+1)<=300
 by_cases z:(j==0)=true
 ·rw[if_pos z];exact WI _
 ·rw[if_neg z]
  have d:j.natAbs≠0:=λe=>z (by rw[Int.natAbs_eq_zero.mp e];rfl)
  rw[Nat.div_eq_of_lt ((afj d).mpr h)];decide
theorem Jk{x:Int}{m:Nat}(h:0<m):0<=x.fmod m:=Int.fmod_nonneg_of_pos _ (Xv.mpr h)
theorem Jl{x:Int}{m:Nat}(h:0<m):x.fmod m<m:=Int.fmod_lt_of_pos _ (Xv.mpr h)
theorem Jm{m:Nat}(h:0<m):(m:Int)≠0:=λe=>YN h (YH e)
section
theorem Aa{v0 j:Option V}{f:Int}(hb:0<below)(q:∀k:Nat,k<below->Q (.int k) h):ia g n (dE Q) (bz X) ⟨[v0,some (.int below),some (.int f),j],h⟩:=by
 have n1:(2147483629:Int)≠0:=dD
 have n2:(2147483647:Int)≠0:=dD
 have d:(2147483587:Int)≠0:=dD
 have u:(2147483579:Int)≠0:=dD
 have lo:=Jk (x:=(f.fmod 2147483629*40692)) (m:=2147483647) dD
 refine aZ (λ_ k=>Wm n1 (Wm (zQ dD dD) (Wm n2 k))) ?_
 have i:=Jl (x:=(f.fmod 2147483629*40692)) (m:=2147483647) dD
 refine aZ (λ_ k=>Wm (BP (Int.lt_of_lt_of_le dD lo) (Int.lt_trans i dD)) (Wm d k)) ?_
 generalize (((f.fmod 2147483629*40692).fmod 2147483647*(f.fmod 2147483629*40692).fmod 2147483647+404).fmod 2147483587)=y
 have z:=Jk (x:=((y*39373).fmod 2147483579).fdiv 64) hb
 have e:=YU z
 refine a6 (v:=.int ((((y*39373).fmod 2147483579).fdiv 64).fmod below)) (λ_ k=>Wm (zQ dD dD) (Wm u (Wm ⟨dD,nO dD⟩ (Wm (Jm hb) k)))) (bc ?_)
 have:=q _ (Xv.mp (e▸Jl hb:_<(below:Int)))
 rw[e]at this
 exact this
theorem F2{loc:List (Option V)}{X:St->Prop}{s:List Nat}{v:V}{x t:Int}(h0:(loc[0]?).join=some (.ref D))(d:h D=some (.dict .s (dT C x t)))(e:atKey (dT C x t) (⟨s.toArray⟩:Str)=some v):Ev (aQ (ae 0) (af (.str s))) X ⟨loc,h⟩ v:=λQ k=>az h0 (by
 show gn (.ref D) (.str s) h _
 unfold gn
 rw[ny d]
 exact az d (show dS (DK.key .s (.str s)) (λq=>dS (atKey (dT C x t) q) λv=>Q v ⟨loc,h⟩)from az (a:=(⟨s.toArray⟩:Str)) rfl (az e k)))
theorem P8{O E r:PT}{Q:V->St->Prop}{X:St->Prop}{loc:List (Option V)}{c:Addr}{vs:List V}{v:V}(q:Ev O X ⟨loc,h⟩ (.ref c))(y:Ev E X ⟨loc,h⟩ v)(e:h c=some (.list vs))(l:vs.length<1000000)(k:r Q X ⟨loc,upd h c (some (.list (vs++[v])))⟩):ah (fY (av g n aK O (aa E ag))) r Q X ⟨loc,h⟩:=
 q _ (Dx (k:=λe=>aa E ag (λvs d=>iF vs λvs=>e.2 (.ref c::vs) d.h λu h=>r Q X ⟨d.loc,h⟩) X ⟨loc,h⟩) e (y _ (az e ⟨l,k⟩)))
structure Drawn(D C:Addr)(T:Nat)(h h':AH):Prop where
 d:cN D C T h'
 f:∀a,a≠D->a≠C->h' a=h a
theorem Jo{cell f:Int}{l:List Int}{h1:AH}{x:Int}{t:Nat}(hb:0<below)(y:below<2^30)(ne:D≠C)(i:h1 D=some (.dict .s (dT C x t)))(z:t<=T)(hC:h1 C=some (.list (l.map .int)))(j:l.length<=7)(fr:∀a,a≠D->a≠C->h1 a=h a)(q:∀(k:Nat) u,k<below->Drawn D C T h u->Q (.int k) u) :
 m4 g n (λfl d=>br (isNone fl) (ia g n (dE Q) (bz X) d) (dE Q fl d)) (bz X) ⟨[some (.ref D),some (.int below),some (.int f),some (.int cell)],h1⟩:=by
 have o:(2147483563:Int)≠0:=dD
 have w:Ev (aQ (ae 0) (af (.str [99,101,108,108,115]))) (bz X) ⟨[some (.ref D),some (.int below),some (.int f),some (.int cell)],h1⟩ (.ref C):=F2 rfl i z9
 refine xZ (b:=decide (cell≥1000000)) Iq (λe Q' c=>?_) λe=>?_
 ·refine P8 w (v:=.int (cell.fdiv below)) (λ_ k=>Wm ⟨Jm hb,nO (by rw[acT];exact y)⟩ k) hC (by rw[Wp];exact Wz j dD) ?_
  ·have m:=Jk (x:=cell) hb
   have e:=YU m
   refine a6 (v:=.int (cell.fmod below)) (λ_ k=>Wm (Jm hb) k) (c _ _ (bc (v:=.int (cell.fmod below)) ?_))
   have:=q (cell.fmod below).toNat (upd h1 C (some (.list (l.map .int++[.int (cell.fdiv below)])))) (Xv.mp (e▸Jl hb:_<(below:Int))) ⟨⟨ne,⟨x,t,z,(aE ne).trans i⟩,⟨l++[cell.fdiv below],by rw[Wk];exact Ww j,by rw[WQ];exact aB _ _ _⟩⟩,λa n1 n2=>(aE n2).trans (fr a n1 n2)⟩
   rw[e]at this
   exact this
 ·exact aZ (v:=.int (f+cell.fmod 2147483563)) (λ_ k=>Wm o k) (Aa (n:=n) hb λk p=>q k h1 p ⟨⟨ne,⟨x,t,z,i⟩,⟨l,YA j,hC⟩⟩,fr⟩)
end
section
variable{g:Gl}{K:Frag}{n:Nat}{h h0:AH}{Q:V->AH->Prop}{X:AH->Prop}{D C:Addr}{T below:Nat}
theorem P9{E r:PT}{Q:V->St->Prop}{X:St->Prop}{loc:List (Option V)}{x t u:Int}(d:Ev E X ⟨loc,h⟩ (.int u))(q:(loc[0]?).join=some (.ref D))(y:h D=some (.dict .s (dT C x t)))(k:r Q X ⟨loc,upd h D (some (.dict .s (dT C x u)))⟩):ah (aD (fW (ae 0) (af (.str [116,117,114,110]))) E) r Q X ⟨loc,h⟩:=
 d _ (az q (az y (show dS (DK.key .s (.str [116,117,114,110])) (λj=>(dT C x t).length<1000000∧r Q X ⟨loc,upd h D (some (.dict .s (fF (dT C x t) j (.int u))))⟩)from az (a:=DW) rfl (Wm (Wj rfl) k))))
theorem Qa{O r:PT}{Q:V->St->Prop}{X:St->Prop}{loc:List (Option V)}{c:Addr}{i:Nat}{vs:List V}{v:V}(q:Ev O X ⟨loc,h⟩ (.ref c))(e:h c=some (.list vs))(y:vs.getLast? = some v)(k:r Q X ⟨loc.set i (some v),upd h c (some (.list vs.dropLast))⟩):ah (aD (aj i) (av g n Dq O ag)) r Q X ⟨loc,h⟩:=
 q _ (Dx (k:=λe=>ag (λvs d=>iF vs λvs=>e.2 (.ref c::vs) d.h λu h=>r Q X ⟨d.loc.set i (some u),h⟩) X ⟨loc,h⟩) e (az (o:=Dq.l) rfl (show dS (h c) _ from az e (show dS vs.getLast? _ from az y k))))
theorem SS{O:PT}{X:St->Prop}{loc:List (Option V)}{c:Addr}{vs:List V}(d:Ev O X ⟨loc,h⟩ (.ref c))(e:h c=some (.list vs)):Ev (aC .NotEq O (bp ag)) X ⟨loc,h⟩ (.bool (!vs.isEmpty)):=λQ k=>d _ (Wm (WI _) (by
 show dS (eqT (res h (.ref c)) (.lst [])) _
 rw[d8 e]
 cases vs <;> exact k))
theorem Qb(kn:Kn g K)(S:1<=n)(hb:0<below)(i:below<2^30)(d:cN D C T h)(hT:T<=1000000)(q:∀(k:Nat) B,k<below->Drawn D C (T+1) h B->Q (.int k) B):bW g n (.ref 469) [.ref D,.int below] Q X h:=by
 refine((aH (n:=0) (kn.H 0) kn.law_draw rfl ?_).call).up S
 refine Wy λno=>?_
 obtain⟨x,t,p,o⟩:=d.d
 obtain⟨l,m,hC⟩:=d.c
 refine no ?_
 refine P9 (u:=(t+1:Nat)) (eb (F2 rfl o x6) Iq λ_ k=>k) rfl o ?_
 have y:upd h D (some (.dict .s (dT C x (t+1:Nat)))) D=some (.dict .s (dT C x (t+1:Nat))):=aB _ _ _
 have j:upd h D (some (.dict .s (dT C x (t+1:Nat)))) C=some (.list (l.map .int)):=(aE (X6 d.ne)).trans hC
 have fr:∀a,a≠D->a≠C->upd h D (some (.dict .s (dT C x (t+1:Nat)))) a=h a:=λa n1 _=>aE n1
 have tl:((t+1:Nat):Int)<2^64:=aab (X2.mpr (Ww (Wh p hT))) dD
 have U:-(2^64)<((t+1:Nat):Int):=Int.lt_of_lt_of_le dD (WG _)
 have J:∀f w,Ev (aQ (ae 0) (af (.str [99,101,108,108,115]))) (bz X) ⟨[some (.ref D),some (.int below),some (.int f),w],upd h D (some (.dict .s (dT C x (t+1:Nat))))⟩ (.ref C):=λf w=>F2 rfl y z9
 refine aZ (eb (F2 rfl y Jj) (eb (eb Iq (F2 rfl y x6) λ_ k=>Wm (BP dD dD) k) (F2 rfl y x6) λ_ k=>Wm (zQ U tl) k) λ_ k=>k) ?_
 refine FL (b:=!(l.map V.int).isEmpty) (SS (J _ _) j) (λe=>?_) λe=>?_
 ·have ne:l≠[]:=λz=>by rw[z]at e;cases e
  obtain⟨l2,c,Z⟩:∃l2 c,l=l2++[c]:=⟨l.dropLast,l.getLast ne,(adt ne).symm⟩
  subst Z
  have R:((l2++[c]).map V.int).getLast? = some (.int c):=by rw[WQ,ae9];rfl
  have Y:((l2++[c]).map V.int).dropLast=l2.map V.int:=by rw[WQ];exact aci
  refine Qa (J _ _) j R ?_
  rw[Y]
  refine Jo (l:=l2) hb i d.ne ((aE d.ne).trans y) (Ww p) (aB _ _ _) ?_ (λa n1 n2=>(aE n2).trans (fr a n1 n2)) q
  rw[Wk]at m
  exact Yi m
 ·exact Aa (n:=0) hb λk L=>q k _ L ⟨⟨d.ne,⟨x,t+1,Ww p,y⟩,⟨l,m,j⟩⟩,fr⟩
end
section
variable{g:Gl}{K:Frag}{n:Nat}{h h0:AH}{Q:V->AH->Prop}{X:AH->Prop}{D C:Addr}{T below:Nat}
theorem Qd(kn:Kn g K)(hn:1<=n){s:List Int}(q:∀D C h',h D=none->h C=none->cN D C 0 h'->(∀a,a≠D->a≠C->h' a=h a)->Q (.ref D) h'):bW g n (.ref 462) [.lst (s.map .int)] Q X h:=by
 refine((aH (n:=0) (kn.H 0) kn.law_deck rfl ?_).call).up hn
 have lt:(s.take 8).length<=8:=by rw[Xr];exact ab5 _ _
 have n1:(2147483629:Int)≠0:=dD
 have n2:(2147483587:Int)≠0:=dD
 refine jB (ar (ee (e:=V.int) (f:=V.int) (l:=s.take 8) (λQ k=>?_) (Wh lt dD) λc _ _ k=>k) λ_ k=>k) ⟨Wj rfl,rfl⟩ ?_
 ·rw[abp,←eP]at k;exact k
 refine ea (e:=V.int) (l:=s.take 8) (λz:Int×Option V=>⟨[some (.lst (s.map .int)),some (.lst ((s.take 8).map V.int)),some (.int z.1),z.2],h⟩) (λ_ _=>True) (404,none) Iq trivial (λz _=>?_) λc r z _ Qc k kr=>?_
 ·show ∀D,h D=none->∀C,upd h D (some (.dict .s [])) C=none->_
  intro D hD C hC
  have ne:D≠C:=λe=>by rw[←e,aB]at hC;cases hC
  have hC':h C=none:=(aE (X6 ne)).symm.trans hC
  have hp:jm .s [] [.str [99,101,108,108,115],.ref C,.str [109,105,120,101,100],.int z.1,.str [116,117,114,110],.int 0]=some (dT C z.1 0):=rfl
  have hW:∀h',Ev (aa (af (.str [109,105,120,101,100])) (aa (ae 2) (aa (af (.str [116,117,114,110])) (aa (af (.int 0)) ag)))) (bz X) ⟨[some (.lst (s.map .int)),some (.lst ((s.take 8).map V.int)),some (.int z.1),z.2],h'⟩ (.lst [.str [109,105,120,101,100],.int z.1,.str [116,117,114,110],.int 0]):=λh' _ k=>k
  refine hW _ _ ?_
  dsimp only[iF,vc]
  refine az hp ?_
  refine Wm ⟨Wj rfl,(aE ne).trans (aB _ _ _)⟩ (bc (q D C _ hD hC' ⟨ne,⟨z.1,0,Wr _,aB _ _ _⟩,⟨(s.take 8).reverse,by rw[YC];exact lt,?_⟩⟩ λa n1 n2=>(aE n1).trans ((aE n2).trans (aE n1))))
  rw[List.map_reverse]
  exact(aE (X6 ne)).trans (aB _ _ _)
 ·exact aZ (λ_ k=>Wm (zQ dD dD) (Wm n1 (Wm n2 k))) (k (_,_) trivial)
end
theorem cN.up(d:cN D C T h)(l:T<=q):cN D C q h:=⟨d.ne,d.d.elim λx z=>z.elim λt z=>⟨x,t,Wh z.1 l,z.2⟩,d.c⟩
theorem Drawn.rfl(d:cN D C T h):Drawn D C T h h:=⟨d,λ_ _ _=>.refl _⟩
theorem Drawn.then_(a:Drawn D C (T+k) h h1)(b:Drawn D C (T+k+l) h1 q):Drawn D C (T+(k+l)) h q:=⟨WV T k l▸b.d,λx n m=>(b.f x n m).trans (a.f x n m)⟩
theorem dX(h:T+(k+l)<=1000000):T+k<=1000000∧T+k+l<=1000000:=⟨Wh (WD (WA k l) T) h,by rw[WV];exact h⟩
def Dr(g:Gl)(n:Nat)(a:Addr)(D C:Addr)(k:Nat)(vs:List V)(P:V->Prop):Prop:=∀(T:Nat) (h:AH) (Q:V->AH->Prop) (X:AH->Prop),cN D C T h->T+k<=1000000->(∀v q,P v->Drawn D C (T+k) h q->Q v q)->bW g n (.ref a) vs Q X h
def XD(D C:Addr)(k:Nat)(E:PT)(loc:List (Option V))(P:V->Prop):Prop:=∀(T:Nat) (h:AH) (Q:V->St->Prop) (X:St->Prop),cN D C T h->T+k<=1000000->(∀v q,P v->Drawn D C (T+k) h q->Q v ⟨loc,q⟩)->E Q X ⟨loc,h⟩
def SD(D C:Addr)(k:Nat)(W:PT)(loc:List (Option V))(P:V->Prop):Prop:=∀(T:Nat) (h:AH) (Q:V->AH->Prop) (X:AH->Prop),cN D C T h->T+k<=1000000->(∀v q,P v->Drawn D C (T+k) h q->Q v q)->W (dE Q) (bz X) ⟨loc,h⟩
section
variable{g:Gl}{K:Frag}{n m i k l a:Nat}{D C:Addr}{loc:List (Option V)}{P R S:V->Prop}{E F A B r:PT}{v:V}{vs:List V}{d:Df}{W:Gl->Nat->PT}
theorem dj(kn:Kn g K)(o:aR K d W)(y:vs.length=d.params.length)(j:n+1<=m)(w:SD D C k (W g n) (vs.map some++Xb (d.names.length-d.params.length) none) P):Dr g m d.a D C k vs P:=λT h Q X dk hT q=>
 ((aH (n:=n) (kn.H n) o y (w _ _ _ _ dk hT q)).call).up j
theorem l5(e:∀h X,Ev E X ⟨loc,h⟩ v)(p:P v):XD D C 0 E loc P:=λ_ _ _ _ dk _ q=>e _ _ _ (q v _ p (.rfl dk))
theorem cj(e:∀h X,Ev y X ⟨loc,h⟩ (.lst vs))(c:Dr g n a D C k vs P):XD D C k (ak g n (.ref a) y) loc P:=λ_ _ _ _ dk hT q=>e _ _ _ (c _ _ _ _ dk hT q)
theorem XD.imp(x:XD D C k E loc P)(i:∀v,P v->R v):XD D C k E loc R:=λ_ _ _ _ dk hT q=>x _ _ _ _ dk hT λv y p d=>q v y (i v p) d
theorem SU(x:XD D C k A loc P)(y:XD D C l B loc R)(w:∀u v,P u->R v->∃r,S r∧∀h (Qv:V->Prop),Qv r->Ez op u v h Qv):XD D C (k+l) (ao op A B) loc S:=λ_ _ _ _ dk hT q=>
 x _ _ _ _ dk (dX hT).1 λu h1 p d1=>y _ _ _ _ d1.d (dX hT).2 λv c j d2=>(w u v p j).elim λr z=>z.2 _ _ (q r c z.1 (d1.then_ d2))
theorem Vr(x:XD D C k A loc P)(y:XD D C l B loc R)(w:∀u v,P u->R v->∃b,S (.bool b)∧∀h (Qv:Bool->Prop),Qv b->tU op u v h Qv):XD D C (k+l) (aC op A B) loc S:=λ_ _ _ _ dk hT q=>
 x _ _ _ _ dk (dX hT).1 λu h1 p d1=>y _ _ _ _ d1.d (dX hT).2 λv c j d2=>(w u v p j).elim λr z=>z.2 _ _ (q _ c z.1 (d1.then_ d2))
theorem UU(x:XD D C k A loc P)(y:XD D C l B loc R)(w:∀u v,P u->R v->∃r,S r∧∀h (Qv:V->Prop),Qv r->gn u v h Qv):XD D C (k+l) (aQ A B) loc S:=λ_ _ _ _ dk hT q=>
 x _ _ _ _ dk (dX hT).1 λu h1 p d1=>y _ _ _ _ d1.d (dX hT).2 λv c j d2=>(w u v p j).elim λr z=>z.2 _ _ (q r c z.1 (d1.then_ d2))
theorem DX{j:PT}{S:List V->Prop}{R:List V->Prop}(x:XD D C k A loc P)(y:XD D C l j loc λv=>∃vs,v=.lst vs∧R vs)(w:∀u vs,P u->R vs->S (u::vs)):XD D C (k+l) (aa A j) loc λv=>∃vs,v=.lst vs∧S vs:=λ_ _ _ _ dk hT q=>
 x _ _ _ _ dk (dX hT).1 λu h1 p d1=>y _ _ _ _ d1.d (dX hT).2 λv b c d2=>c.elim λvs z=>by
  obtain⟨rfl,z⟩:=z
  exact q _ b ⟨_,rfl,w u vs p z⟩ (d1.then_ d2)
theorem SV{S:List V->Prop}(s:S []):XD D C 0 ag loc λv=>∃vs,v=.lst vs∧S vs:=l5 (λ_ _ _ k=>k) ⟨[],rfl,s⟩
theorem Mk{y:PT}{a:Addr}{S:List V->Prop}(x:XD D C k y loc λv=>∃vs,v=.lst vs∧S vs)(c:∀vs,S vs->Dr g n a D C l vs P):XD D C (k+l) (ak g n (.ref a) y) loc P:=λ_ _ _ _ dk hT q=>
 x _ _ _ _ dk (dX hT).1 λu h1 p d1=>p.elim λvs z=>by
  obtain⟨rfl,z⟩:=z
  exact c vs z _ _ _ _ d1.d (dX hT).2 λv b j d2=>q v b j (d1.then_ d2)
theorem Qf(x:XD D C k A loc P)(y:∀u,P u->∃r,S r∧∀h (Qv:VP),Qv r h->w u h Qv):XD D C k (dn (b1 w) (aa A ag)) loc S:=λ_ _ _ _ dk hT q=>
 x _ _ _ _ dk hT λu h1 p d1=>(y u p).elim λr z=>z.2 _ _ (q r h1 z.1 d1)
end
theorem Drawn.up(d:Drawn D C T h q)(l:T<=y):Drawn D C y h q:=⟨d.d.up l,d.f⟩
theorem all_map{d q:Type}{f:d->q}{p:d->Prop}:∀{us:List q},(∀u∈us,∃a,p a∧u=f a)->∃l:List d,us=l.map f∧∀a∈l,p a:=by
 intro w
 induction w with
 |nil=>
  intro _
  exact⟨[],rfl,an⟩
 |cons u us x=>
  intro h
  exact(h u (.head _)).elim λa z=>(x λv c=>h v (.tail _ c)).elim λl y=>⟨a::l,by rw[z.2,y.1];rfl,λb hb=>by
  cases hb with
  |head=>exact z.1
  |tail _ hb=>exact y.2 b hb⟩
section
variable{g:Gl}{K:Frag}{n m i j k l a:Nat}{D C:Addr}{loc cap:List (Option V)}{P R S:V->Prop}{E F A B W r:PT}{u v:V}{vs:List V}
theorem jG(x:XD D C k E loc P):SD D C k (ah (aO E) r) loc P:=λ_ _ _ _ dk hT q=>x _ _ _ _ dk hT λv y p d=>bc (q v y p d)
theorem fj(x:XD D C k E loc P)(y:∀v,P v->SD D C l r (loc.set i (some v)) R):SD D C (k+l) (ah (aD (aj i) E) r) loc R:=λ_ _ _ _ dk hT q=>
 x _ _ _ _ dk (dX hT).1 λv h1 p d1=>y v p _ _ _ _ d1.d (dX hT).2 λv c z d2=>q v c z (d1.then_ d2)
theorem dR(e:∀h X,Ev E X ⟨loc,h⟩ v)(y:SD D C l r (loc.set i (some v)) R):SD D C l (ah (aD (aj i) E) r) loc R:=λ_ _ _ _ dk hT q=>e _ _ _ (y _ _ _ _ dk hT q)
theorem iw(x:XD D C k A loc P)(y:XD D C l B loc R)(z:∀u v,P u->R v->SD D C m r ((loc.set i (some v)).set j (some u)) S):SD D C (k+(l+m)) (ah (bZ [i,j] (aa A (aa B ag))) r) loc S:=λ_ _ _ _ dk hT q=>
 x _ _ _ _ dk (dX hT).1 λu h1 p d1=>y _ _ _ _ d1.d (dX (dX hT).2).1 λv e c d2=>Wm (Wj rfl) (Wm rfl (z u v p c _ _ _ _ d2.d (dX (dX hT).2).2 λw o f b=>q w o f (d1.then_ (d2.then_ b))))
theorem x7(hC:∀h X,Ev y X ⟨loc,h⟩ (.bool b))(h1:b=true->XD D C k E loc R)(c:b=false->SD D C k r loc R):SD D C k (ah (bA y (ah (aO E) ai) ai) r) loc R:=λ_ _ _ _ dk hT q=>
 hC _ _ _ (KE (λe=>h1 e _ _ _ _ dk hT λv z p d=>bc (q v z p d)) λe=>c e _ _ _ _ dk hT q)
theorem tv(e:∀h X,Ev A X ⟨loc,h⟩ u)(y:XD D C l B loc R)(w:∀v,R v->∃r,S r∧∀h (Qv:V->Prop),Qv r->Ez op u v h Qv):XD D C l (ao op A B) loc S:=λ_ _ _ _ dk hT q=>
 e _ _ _ (y _ _ _ _ dk hT λv c d d2=>(w v d).elim λr z=>z.2 _ _ (q r c z.1 d2))
theorem Qg(x:XD D C k A loc P)(e:∀h X,Ev B X ⟨loc,h⟩ v)(w:∀u,P u->∃r,S r∧∀h (Qv:V->Prop),Qv r->Ez op u v h Qv):XD D C k (ao op A B) loc S:=λ_ _ _ _ dk hT q=>
 x _ _ _ _ dk hT λu h1 p d1=>e _ _ _ ((w u p).elim λr z=>z.2 _ _ (q r h1 z.1 d1))
theorem DY(e:∀h X,Ev A X ⟨loc,h⟩ u)(y:XD D C l B loc R)(w:∀v,R v->∃r,S r∧∀h (Qv:V->Prop),Qv r->gn u v h Qv):XD D C l (aQ A B) loc S:=λ_ _ _ _ dk hT q=>
 e _ _ _ (y _ _ _ _ dk hT λv c d d2=>(w v d).elim λr z=>z.2 _ _ (q r c z.1 d2))
theorem Ce(x:XD D C k A loc P)(e:∀h X,Ev B X ⟨loc,h⟩ v)(w:∀u,P u->∃b,S (.bool b)∧∀h (Qv:Bool->Prop),Qv b->tU op u v h Qv):XD D C k (aC op A B) loc S:=λ_ _ _ _ dk hT q=>
 x _ _ _ _ dk hT λu h1 p d1=>e _ _ _ ((w u p).elim λr z=>z.2 _ _ (q _ h1 z.1 d1))
theorem x8(x:XD D C k A loc P)(s:∀u,P u->S (.lst [u])):XD D C k (bp (aa A ag)) loc S:=λ_ _ _ _ dk hT q=>
 x _ _ _ _ dk hT λu h1 p d1=>Wm (Wj rfl) (q _ h1 (s u p) d1)
theorem SW(x:XD D C k f loc λv=>∃b,v=.bool b)(y:XD D C l A loc R)(z:XD D C l B loc R):XD D C (k+l) (bA f A B) loc R:=λ_ _ _ _ dk hT q=>
 x _ _ _ _ dk (dX hT).1 λu h1 p d1=>p.elim λb e=>by
  subst e
  exact KE (λ_=>y _ _ _ _ d1.d (dX hT).2 λv w c d2=>q v w c (d1.then_ d2)) λ_=>z _ _ _ _ d1.d (dX hT).2 λv w c d2=>q v w c (d1.then_ d2)
theorem DZ{I:AH->Prop}(f:∀T h c,I h->Drawn D C T h c->I c)(e:∀a T h (Q:V->St->Prop) X,I h->cN D C T h->T+k<=1000000->(∀v c,P v->Drawn D C (T+k) h c->Q v ⟨none::some a::cap,c⟩)->E Q X ⟨none::some a::cap,h⟩):∀(items z:List V) (x:Option V) (T:Nat) (h:AH) (Q:List V->St->Prop),I h->cN D C T h->T+items.length*k<=1000000->(∀us x c,us.length=items.length->(∀u∈us,P u)->Drawn D C (T+items.length*k) h c->Q (z++us) ⟨none::x::cap,c⟩)->iH (aj 1) j2 E items z Q ⟨none::x::cap,h⟩:=by
 intro o
 induction o with
 |nil=>
  intro z x T h Q _ dk hT q
  have:=q [] x h rfl an (by rw[Yh,Nat.zero_mul];exact .rfl dk);rwa [WT]at this
 |cons a r L=>
  intro z x T h Q i dk hT q
  rw[WX,aal,Xd (r.length*k)]at hT q
  exact e a T h _ uZ i dk (dX hT).1 λv h1 p d1=>L (z++[v]) _ _ h1 Q (f _ _ _ i d1) d1.d (dX hT).2 λus y J l w d2=>by
   rw[Wx]
   exact q (v::us) y J (congrArg (· + 1) l) (λu b=>by
    cases b with
    |head=>exact p
    |tail _ b=>exact w u b) (d1.then_ d2)
theorem Qh(z:∀a,XD D C k E (none::some a::cap) P)(items d:List V)(x:Option V)(T:Nat)(h:AH)(Q:List V->St->Prop)(dk:cN D C T h)(hT:T+items.length*k<=1000000)(q:∀us x y,us.length=items.length->(∀u∈us,P u)->Drawn D C (T+items.length*k) h y->Q (d++us) ⟨none::x::cap,y⟩):iH (aj 1) j2 E items d Q ⟨none::x::cap,h⟩:=
 DZ (I:=λ_=>True) (λ_ _ _ _ _=>trivial) (λa T h Q X _=>z a T h Q X) items d x T h Q trivial dk hT q
theorem x9{is:List Nat}{It:PT}{G:List V->Prop}(w:m<=1000000)(f:XD D C j It loc λv=>∃items,v=.lst items∧items.length<=m∧G items)(o:∀a,XD D C k E (none::some a::eJ is loc) P):XD D C (j+m*k) (a8 2 is (hZ (aj 1) j2 E) It) loc λv=>∃us items,v=.lst us∧us.length=(items:List V).length∧G items∧∀u∈us,P u:=λT _ Q X dk hT q=>
 f _ _ _ _ dk (dX hT).1 λv h1 p d1=>p.elim λitems z=>by
  obtain⟨rfl,c,b⟩:=z
  have le:=aaG k c
  refine Wm (by rw[Yh,Xx];exact Wh c w) (Qh o items [] _ _ h1 _ d1.d (Wh (WD le _) (dX hT).2) λus y e l x d2=>q (.lst us) e ⟨us,items,rfl,l,b,x⟩ (d1.then_ (d2.up (WD le _))))
theorem fS:∀(m:Nat) (x:Int),(eC d m x).length=m:=by
 intro zi
 induction zi with
 |zero=>
  intro _
  exact rfl
 |succ m ih=>
  intro x
  exact congrArg (· + 1) (ih _)
theorem nQ{X:St->Prop}{st:St}{N:Nat}(hA:Ev A X st (.int N))(l:N<=1000000):Ev (da (aa A ag)) X st (.lst (eC 1 N 0)):=λQ k=>hA _ (Wm ⟨aa0 dD (WG N),X2.mpr l⟩ k)
theorem b7(kn:Kn g K)(z:1<=n){below:Nat}(hb:0<below)(y:below<2^30):Dr g n 469 D C 1 [.ref D,.int below] λv=>∃k:Nat,k<below∧v=.int k:=λ_ _ _ _ dk hT q=>
 Qb kn z hb y dk (Yk hT) λk c l d=>q _ c ⟨k,l,rfl⟩ d
theorem rH(kn:Kn g K)(q:2<=n){vs:List V}(h0:0<vs.length)(d:vs.length<2^30):Dr g n 476 D C 1 [.ref D,.lst vs] λv=>v∈vs:=
 dj (n:=1) kn kn.law_pick rfl q (jG (DY (λ_ _ _ k=>k) (cj (λ_ _ _ k=>k) (b7 kn (Wr _) h0 d)) λv p=>p.elim λi z=>by
  obtain⟨lt,rfl⟩:=z
  exact⟨vs[i],ZS lt,λh Qv k=>by
   show GI vs i Qv
   unfold GI
   rw[if_neg xU]
   exact Wm (WG i) (az (Xk lt) k)⟩))
theorem Ab(kn:Kn g K)(q:2<=n){b:List UInt8}(h0:0<b.length)(d:b.length<2^30):Dr g n 476 D C 1 [.ref D,.bytes b] λv=>∃c∈b,v=.int (c.toNat:Nat):=
 dj (n:=1) kn kn.law_pick rfl q (jG (DY (λ_ _ _ k=>k) (cj (λ_ _ _ k=>k) (b7 kn (Wr _) h0 d)) λv p=>p.elim λi z=>by
  obtain⟨lt,rfl⟩:=z
  exact⟨.int (b[i].toNat:Nat),⟨b[i],ZS lt,rfl⟩,λh Qv k=>Wm (WG i) (az (Xk lt) k)⟩))
theorem iy{l:List Nat}(d:∀x∈l,x<256){h:AH}{Qv:VP}(k:Qv (.bytes (FN l)) h):du (.lst (l.map λx:Nat=>.int x)) h Qv:=az (jT (λc:Nat=>(c:Int)) l) (Wm (λm q=>by
 obtain⟨c,hc,rfl⟩:=WN.mp q
 exact⟨WG _,Xv.mpr (d c hc)⟩) (by rw[XM];exact k))
structure eZ(size:Nat)(b:List UInt8):Prop where
 l:b.length=size
 h:b.head? = some 171
 z:∀c∈b,c≠0
theorem Jp(h0:0<x)(h1:x<256):x.toUInt8≠0:=λe=>by
 have:=congrArg ac4 e
 rw[UJ,abE h1]at this
 exact YN h0 this
theorem tw(kn:Kn g K)(w:2<=n){size:Nat}(h0:0<size)(hs:size<=4):Dr g n 486 D C 4 [.ref D,.int size] λv=>∃b,v=.bytes b∧eZ size b:=by
 obtain⟨s,rfl⟩:∃s,size=s+1:=⟨size-1,(abd h0).symm⟩
 refine dj (n:=1) kn kn.law_oid rfl w (jG (Qf (P:=λv=>∃l:List Nat,v=.lst ((171::l).map λx:Nat=>.int x)∧l.length=s∧∀x∈l,0<x∧x<256) (tv (u:=.lst [.int 171]) (λ_ _ _ k=>Wm (Wj rfl) k) (x9 (m:=4) (k:=1) (j:=0) (P:=λv=>∃d:Nat,d<255∧v=.int (1+d:Nat)) (G:=λl=>l.length=s) dD ?_ λa=>?_) ?_) ?_))
 ·exact l5 (v:=.lst (eC 1 s 0)) (λh X=>nQ (N:=s) (bq Iq (congrArg V.int (aac (s:Int) 1))) (Wh (Yk hs) dD)) ⟨_,rfl,by rw[fS];exact Yk hs,fS s 0⟩
 ·exact tv (u:=.int 1) (λ_ _ _ k=>k) (cj (λ_ _ _ k=>k) (b7 kn (Wr _) dD dD)) λv p=>p.elim λd z=>⟨.int (1+d:Nat),⟨d,z.1,rfl⟩,λh Qv k=>by rw[z.2];exact k⟩
 ·rintro v ⟨us,items,rfl,y,l2,p⟩
  obtain⟨l,rfl,q⟩:=all_map (f:=λd:Nat=>V.int (1+d:Nat)) p
  rw[Wp]at y
  refine⟨.lst ((171::l.map (1+·)).map λx:Nat=>.int x),⟨l.map (1+·),rfl,by rw[Wp,y,l2],λx hx=>?_⟩,λh Qv k=>?_⟩
  ·obtain⟨d,hd,rfl⟩:=WN.mp hx
   exact⟨WK adJ (WA 1 d),by rw[Xd];exact Nat.succ_lt_succ (q d hd)⟩
  ·refine Wm ?_ ?_
   ·rw[Wp,y,l2];exact Wh (WD (Yk hs) 1) dD
   ·rw[WZ,XM]at k;exact k
 ·rintro u ⟨l,rfl,q,p⟩
  have lt:∀x∈171::l,x<256:=λx hx=>by
   cases hx with
   |head=>decide
   |tail _ hx=>exact(p x hx).2
  refine⟨.bytes (FN (171::l)),⟨_,rfl,⟨by unfold FN;rw[Wp,WX,q],rfl,λc hc=>?_⟩⟩,λh Qv k=>iy lt k⟩
  obtain⟨x,hx,rfl⟩:=WN.mp hc
  cases hx with
  |head=>decide
  |tail _ hx=>exact Jp (p x hx).1 (p x hx).2
end
theorem UW:∀n:Nat,n<256->((0<=(n:Int).fdiv 16*(1-0)+(n:Int).fmod 16*0∧nE[((n:Int).fdiv 16*(1-0)+(n:Int).fmod 16*0).toNat]? = some (eB.getD (n/16) 0).toUInt8)∧((0<=(n:Int).fdiv 16*(1-1)+(n:Int).fmod 16*1∧nE[((n:Int).fdiv 16*(1-1)+(n:Int).fmod 16*1).toNat]? = some (eB.getD (n%16) 0).toUInt8))):=dD
theorem Cf(h:m<256):(m.toUInt8).toNat=m:=by rw[UJ,abE h]
inductive uT(b b':List UInt8):Prop
 |mk (p m1 m2 r:List UInt8) (e1:b=p++(m1++r)) (e2:b'=p++(m2++r)) (l1:m1.length<=1) (l2:m2.length<=1)
section
variable{g:Gl}{K:Frag}{n m i j k l a:Nat}{D C:Addr}{loc cap:List (Option V)}{P R S:V->Prop}{E F A B W r:PT}{u v:V}{vs:List V}{h:AH}
noncomputable abbrev N7:PT:=aQ (ae 3) (ao .Add (ao .Mult (ao .FloorDiv (ae 1) (af (.int 16))) (ao .Sub (af (.int 1)) (ae 2))) (ao .Mult (ao .Mod (ae 1) (af (.int 16))) (ae 2)))
theorem Jq{c k:Int}{d:UInt8}(h1:adG (c.fdiv 16) (1-k))(h2:adG (c.fmod 16) k)(e:0<=c.fdiv 16*(1-k)+c.fmod 16*k∧nE[(c.fdiv 16*(1-k)+c.fmod 16*k).toNat]? = some d):Ev N7 uZ ⟨[none,some (.int c),some (.int k),some (.bytes nE)],h⟩ (.int (d.toNat:Nat)):=λQ q=>
 Wm ⟨by decide,rfl⟩ (Wm h1 (Wm (show(16:Int)≠0 by decide) (Wm h2 (Wm e.1 (az e.2 q)))))
theorem Jr:∀(b:List UInt8) (acc:List V) (x y:Option V) (Q:List V->St->Prop),acc.length+2*b.length<=900000->(∀x y,Q (acc++(cz b).map λc:Nat=>.int c) ⟨[none,x,y,some (.bytes nE)],h⟩)->fV (aj 1) (aj 2) (a7 (c8 (aa (af (.int 0)) (aa (af (.int 1)) ag)))) N7 (b.map λc:UInt8=>.int (c.toNat:Nat)) acc Q ⟨[none,x,y,some (.bytes nE)],h⟩:=by
 intro zi
 induction zi with
 |nil=>
  intro acc x y Q _ q
  have:=q x y;rwa [show(cz []).map (λc:Nat=>V.int c)=[]from rfl,WT]at this
 |cons c b ih=>
  intro acc x y Q l q
  have nb:=UW c.toNat c.toNat_lt
  have e1:=Cf (rG (c.toNat/16))
  have e2:=Cf (rG (c.toNat%16))
  rw[WX,ab0,Xd (2*b.length),←WV]at l
  refine Wm (Wj rfl) (Wm (Wh (WA _ _) l) (Jq (k:=0) (zQ dD dD) (zQ dD dD) nb.1 _ (Jq (k:=1) (zQ dD dD) (zQ dD dD) nb.2 _ ?_)))
  refine ih _ _ _ Q (by rw[Wk,Wk];exact l) λx y=>?_
  have:=q x y
  rw[e1,e2,Wx,Wx]
  exact this
theorem pT(kn:Kn g K)(hn:1<=n)(hb:b.length<=400000):cS g n 481 [.bytes b] (some (.bytes (bg b))):=λ{Q X h} q=>by
 refine((aH (n:=0) (kn.H 0) kn.law_hex rfl ?_).call).up hn
 refine aZ Iq (a6 (v:=.bytes (bg b)) (λQe k=>?_) (bc q))
 exact Jr b [] none none _ (by rw[Yh,Xx];exact Wh (W9 2 hb) dD) λx y=>iy (l:=cz b) (Qv:=λv h'=>Qe v ⟨_,h'⟩) xV k
theorem Ac(h:uT b b'):b'.length<=b.length+1:=by
 obtain⟨p,m1,m2,r,rfl,rfl,l1,l2⟩:=h
 rw[Wk,Wk,Wk,Wk]
 exact Wh (WD (WE l2 _) _) (by rw[Xd 1,WV];exact Ww (WD (X5 _ _) _))
theorem UX{b:List UInt8}{i:Nat}:b=b.take i++((b.drop i).take 1++b.drop (i+1)):=by
 rw[←Xl,YJ,YJ]
theorem ya{b:List UInt8}{i:Nat}{m2:List UInt8}(l:m2.length<=1):uT b (b.take i++m2++b.drop (i+1)):=⟨_,_,m2,_,UX,Wx ..,by rw[Xr];exact ab5 _ _,l⟩
theorem Js(l:m2.length<=1):uT b (b.take i++m2++b.drop i):=⟨_,[],m2,_,(YJ i b).symm,Wx ..,WI _,l⟩
theorem Ad(hb:b.length<=100000)(h:uT b b'):b'.length<=100001:=Wh (Ac h) (Ww hb)
theorem D0(kn:Kn g K)(hn:3<=n){b:List UInt8}{most:Nat}(h0:0<most)(h1:most<2^30)(hb:b.length<=100000):Dr g n 500 D C (1+(1+(1+1+0))) [.ref D,.bytes b,.int most] λv=>∃b',v=.bytes b'∧uT b b':=by
 refine dj (n:=2) kn kn.law_bent rfl hn (iw (cj (λ_ _ _ k=>k) (b7 kn dD h0 h1)) (cj (λ_ _ _ k=>k) (b7 kn dD dD dD)) ?_)
 rintro u v ⟨i,_,rfl⟩ ⟨w,_,rfl⟩
 refine fj (P:=λv=>∃c:UInt8,v=.bytes [c]) (Qf (P:=λv=>∃d:Nat,d<256∧v=.lst [.int d]) (x8 (P:=λv=>∃d:Nat,d<256∧v=.int d) (SW (Ce (v:=.int 0) (P:=λv=>∃k:Nat,k<3∧v=.int k) (cj (n:=2) (vs:=[.ref D,.int 3]) (λ_ _ _ k=>k) (b7 (below:=3) kn dD dD dD)) (λ_ _ _ k=>k) λu p=>?_) ?_ ?_) λu p=>p.elim λd z=>⟨d,z.1,by rw[z.2]⟩) λu p=>?_) ?_
 ·obtain⟨d,_,rfl⟩:=p
  exact⟨decide ((d:Int)>0),⟨_,rfl⟩,λ_ _ k=>k⟩
 ·exact(cj (vs:=[.ref D,.bytes [0,32,47,48,49,52,57,97,98,103,46,10,65,71]]) (λ_ _ _ k=>k) (Ab kn dD dD dD)).imp λv p=>p.elim λc z=>⟨c.toNat,c.toNat_lt,z.2⟩
 ·exact cj (vs:=[.ref D,.int 256]) (λ_ _ _ k=>k) (b7 (below:=256) kn dD dD dD)
 ·obtain⟨d,hd,rfl⟩:=p
  exact⟨.bytes (FN [d]),⟨d.toUInt8,rfl⟩,λh Qv k=>iy (l:=[d]) (λx hx=>by rw[WB.mp hx];exact hd) k⟩
 rintro v ⟨c,rfl⟩
 have s1:([c]:List UInt8).length<=1:=Wr _
 have la:∀{x y:List UInt8},uT b (x++y)->AK (x.length+y.length):=λh=>bt (Ad hb h) dD
 have lb:AK ((b.take i).length+1):=Wh (WE (by rw[Xr];exact Wh (YM _ _) hb) 1) dD
 refine x7 (b:=(w:Int)==0) (λ_ _ _ k=>k) (λ_=>l5 (λ_ _=>bl (bl (bq Iq (congrArg V.bytes eP)) Iq lb) (bq Iq (congrArg V.bytes (dg (a:=i+1)))) (la (ya s1))) ⟨_,rfl,ya s1⟩) λ_=>?_
 refine jG (l5 (v:=bif (w:Int)==1 then .bytes (b.take i++b.drop (i+1))else .bytes (b.take i++[c]++b.drop i)) (λ_ _=>kF (b:=(w:Int)==1) Iq (λe=>?_) λe=>?_) ?_)
 ·have:=ya (b:=b) (i:=i) (m2:=[]) (WI _)
  rw[WT]at this
  rw[e];exact bl (bq Iq (congrArg V.bytes eP)) (bq Iq (congrArg V.bytes (dg (a:=i+1)))) (la this)
 ·rw[e];exact bl (bl (bq Iq (congrArg V.bytes eP)) Iq lb) (bq Iq (congrArg V.bytes dg)) (la (Js s1))
 ·cases (w:Int)==1 with
  |true=>exact⟨_,rfl,by have:=ya (b:=b) (i:=i) (m2:=[]) (WI _);rwa [WT]at this⟩
  |false=>exact⟨_,rfl,Js s1⟩
end
noncomputable def LM:List (List UInt8×Nat):=[([49,48,48,54,52,52],33188),([49,48,48,55,53,53],33261),([49,50,48,48,48,48],40960),([52,48,48,48,48],16384),([49,54,48,48,48,48],57344),([49,48,48,54,54,52],33204)]
noncomputable def bD(b:List UInt8):Option Nat:=(LM.find? λp=>decide (p.1=b)).map (·.2)
noncomputable def Ml:DB:=LM.map λp=>(p.1,.int p.2)
noncomputable def a9.t(e:a9):V:=.tup [.int e.m,.bytes e.x,.bytes e.o]
noncomputable def vC(o:Option (List a9)):V:=Xa (motive:=λ_=>V) o .none λl=>.lst (l.map a9.t)
theorem N8(b:List UInt8):atKey Ml b=(bD b).map λm:Nat=>V.int m:=by
 unfold atKey Ml bD
 rw[List.find?_map,aae,aae];rfl
section
variable{g:Gl}{K:Frag}{n:Nat}{h h0:AH}{size:Nat}
theorem Qi(q:bh 32 s=some p)(d:bh 0 (s.drop (p+1))=none):ri md size s=none:=by
 unfold ri;rw[q];show(md (s.take p)).bind _=none;rw[d];cases md (s.take p) <;> rfl
theorem Qj(e:bh 32 s=some p):bh 0 (s.drop p)=(bh 0 (s.drop (p+1))).map (· + 1):=by
 obtain⟨a,r,rfl,_,rfl⟩:=fR e
 rw[Zo,List.drop_append,aeq,Zv (XC _)];rfl
structure LR(b:List UInt8)(size:Nat)(h:AH)(c d:Addr)(Q:V->AH->Prop)(f:Nat)(acc:List a9)(at_:Nat)(h':AH):Prop where
 w:s8 h c d (.list (acc.map a9.t)) (.dict .b Ml) h'
 n:(b.drop at_).length<=f
 m:acc.length<=at_
 q:Q (vC ((gh bD size f (b.drop at_)).map λr=>acc++r)) h
theorem Mm(q:Ev E X ⟨loc,h⟩ (.bytes x))(y:(loc[i]?).join=some (.ref d))(e:h d=some (.dict .b Ml)):Ev (aC .NotIn E (ae i)) X ⟨loc,h⟩ (.bool (!(bD x).isSome)):=bJ q (λ_ k=>az y k) λP k=>in_dict (P:=λc=>P (!c)) e (by unfold known;rw[N8,afg];exact k)
theorem Qk(z:(loc[i]?).join=some (.ref d))(j:Ev E X ⟨loc,h⟩ (.bytes x))(e:h d=some (.dict .b Ml))(y:bD x=some m):Ev (aQ (ae i) E) X ⟨loc,h⟩ (.int m):=λQ k=>az z (j _ (by
 show gn (.ref d) (.bytes x) h _
 unfold gn
 rw[ny e]
 exact az e (show dS (DK.key .b (.bytes x)) (λq=>dS (atKey Ml q) λv=>Q v ⟨loc,h⟩)from az (a:=x) rfl (az (by rw[N8,y];rfl) k))))
theorem Ql:(((a+(r+1):Nat):Int)==(a:Int)+1)=YB r 0:=by
 have:=IY (a:=a) (q:=r)
 rwa [WV,Xd 1]at this
theorem UY{L a q size:Nat}(h:q<L-(a+1)):decide (((a+(q+1):Nat):Int)+1+size>L)=decide (L-(a+1)<q+1+size):=by
 rw[←IX h,WV a 1,Xd 1]
theorem Qm(hp:jm k [] vs=some out)(y:∀q,Ev W X ⟨loc,q⟩ (.lst vs))(l:vs.length<=100)(j:∀d,h d=none->r Q X ⟨loc.set i (some (.ref d)),upd (upd h d (some (.dict k []))) d (some (.dict k out))⟩):ah (aD (aj i) (qb k W)) r Q X ⟨loc,h⟩:=λd hd=>y _ _ (az hp (Wm ⟨l,aB _ _ _⟩ (j d hd)))
theorem tz(kn:Kn g K)(hn:1<=n){b:List UInt8}(hb:b.length<=900000):cS g n 538 [.bytes b,.int size] (some (vC (eQ bD size b))):=λ{Q X h} q=>by
 refine((aH (n:=0) (kn.H 0) kn.law_rows rfl ?_).call).up hn
 have hp:jm .b [] [.bytes [49,48,48,54,52,52],.int 33188,.bytes [49,48,48,55,53,53],.int 33261,.bytes [49,50,48,48,48,48],.int 40960,.bytes [52,48,48,48,48],.int 16384,.bytes [49,54,48,48,48,48],.int 57344]=some ((LM.take 5).map λp=>(p.1,V.int p.2)):=by kernel_rfl
 have hk:fF ((LM.take 5).map λp=>(p.1,V.int p.2)) [49,48,48,54,54,52] (.int (33204:Nat))=Ml:=by kernel_rfl
 refine Qm hp (λ_ _ k=>k) (Wj rfl) λd hd=>?_
 refine N0 (v:=.int (33204:Nat)) Iq rfl Iq (aB _ _ _) (Wj rfl) ?_
 rw[hk]
 refine(λ(k:∀H:AH,H d=some (.dict .b Ml)->(∀a,a≠d->H a=h a)->nj g 0 (dE Q) (bz X) ⟨[some (.bytes b),some (.int size),some (.ref d),none,none,none,none],H⟩)=>k _ (aB _ _ _) λa n=>(aE n).trans ((aE n).trans (aE n))) λH eD I=>?_
 refine B1 (λc hc=>?_) rfl
 have j:c≠d:=λz=>by rw[z,eD]at hc;cases hc
 have B:h c=none:=(I c j).symm.trans hc
 have fr:∀{U:List a9} {h'} ,s8 h c d (.list (U.map a9.t)) (.dict .b Ml) h'->Sub h h':=λw=>w.sub B hd
 refine tc (λs:(List a9×Nat)×Option V×Option V×AH=>⟨[some (.bytes b),some (.int size),some (.ref d),some (.ref c),some (.int s.1.2),s.2.1,s.2.2.1],s.2.2.2⟩) (λf s=>LR b size h c d Q f s.1.1 s.1.2 s.2.2.2) (λs=>decide ((s.1.2:Int)<b.length)) (λm s i _ k=>k) (λs i=>?_) (λm s i e=>?_) (λf s i G Qc kn L=>?_) b.length (([],0),none,none,upd H c (some (.list []))) ⟨⟨j,aB _ _ _,(aE (X6 j)).trans eD,λa n1 n2=>(aE n1).trans (I a n2)⟩,Wr _,Wr _,?_⟩
 ·rw[g8,Xj.mpr (Xg (Y2 i.n))];rfl
 ·have q:=i.q
  rw[B0 (nr ((g8 (b:=b)).symm.trans e))]at q
  have q:Q (.lst ((s.1.1++[]).map a9.t)) h:=q
  rw[WT]at q
  refine a6 Iq (.fr c _ i.w.at_ ?_)
  show Fin Q (if c=c then .lst (s.1.1.map a9.t)else .ref c) _
  rw[if_pos rfl]
  exact .mk (λa o z=>(aE (λy=>by rw[y,B]at z;cases z)).trans (fr i.w a o z)) q
 ·have q:=i.q
  rw[BZ (cw ((g8 (b:=b)).symm.trans G))]at q
  refine aZ (bq (kG Iq rfl Iq λ_ k=>Wm ⟨WG _,rfl⟩ k) (congrArg V.int (ta b 32 s.1.2))) ?_
  generalize J:bh 32 (b.drop s.1.2)=D;cases D with
  |none=>
   rw[BV J]at q
   exact aZ (v:=.int (-1)) (kF (b:=false) Iq ff λ_ _ k=>k) (bI (cg (a:=true) (b:=false) Iq tf) (λ_ _ k=>k) (λ_=>L _ _ (.mk (fr i.w) q)) tf)
  |some p=>
   have Z:=ta b 0 (s.1.2+p)
   rw[←Xl,Qj J,Xl,←WV]at Z
   refine aZ (v:=.int (a4 b [0] (s.1.2+p))) (kF (b:=true) (bq Iq (congrArg V.bool (decide_eq_true (WG _)))) (λ_=>kG Iq rfl Iq λ_ k=>Wm ⟨WG _,rfl⟩ k) tf) ?_
   rw[Z]
   generalize S:bh 0 (b.drop (s.1.2+p+1))=D;cases D with
   |none=>
    rw[Qi J (by rw[Xl,←WV];exact S)]at q
    exact bI (cg (a:=true) (b:=false) Iq tf) (λ_ _ k=>k) (λ_=>L _ _ (.mk (fr i.w) q)) tf
   |some r=>
    have Y:=rF S
    rw[W7]at Y
    show ah (bA (cF (aC .Lt (ae 6) (af (.int 0))) _) _ _) _ _ _ ⟨[some (.bytes b),some (.int size),some (.ref d),some (.ref c),some (.int s.1.2),some (.int (s.1.2+p:Nat)),some (.int (s.1.2+p+(r+1):Nat))],s.2.2.2⟩
    have R:=Mm (h:=s.2.2.2) (i:=2) (X:=bz X) (loc:=[some (.bytes b),some (.int size),some (.ref d),some (.ref c),some (.int s.1.2),some (.int (s.1.2+p:Nat)),some (.int (s.1.2+p+(r+1):Nat))]) (E:=bb (ae 0) (ae 4) (ae 5)) (bq Iq (congrArg V.bytes gf)) rfl i.w.dt
    generalize u:bD ((b.drop s.1.2).take p)=D;cases D with
    |none=>
     rw[BX J u]at q
     rw[u]at R
     exact bI (cg (a:=false) (b:=true) (bq Iq (congrArg V.bool nB)) λ_=>cg (a:=true) (b:=false) R tf) (λ_ _ k=>k) (λ_=>L _ _ (.mk (fr i.w) q)) tf
    |some m=>
     have d1:(b.drop s.1.2).drop (p+1)=b.drop (s.1.2+p+1):=Xl ..
     rw[BY J u,d1,S]at q
     rw[u]at R
     have q:Q (vC (((FU m size p r (b.drop (s.1.2+p+1))).bind λx=>(gh bD size f ((b.drop s.1.2).drop x.2)).map (x.1::·)).map λr=>s.1.1++r)) h:=q
     unfold FU at q
     rw[W7,←UY Y]at q
     refine bI (b:=YB r 0||decide (((s.1.2+p+(r+1):Nat):Int)+1+size>b.length)) (cg (a:=false) (bq Iq (congrArg V.bool nB)) λ_=>cg (a:=false) R λ_=>cg (bq Iq (congrArg V.bool Ql)) λ_=>fB Iq) (λ_ _ k=>k) (λe=>L _ _ (.mk (fr i.w) ?_)) λe=>?_
     ·revert q e
      generalize YB r 0=x
      generalize decide (((s.1.2+p+(r+1):Nat):Int)+1+size>b.length)=y
      intro q e
      cases y with
      |true=>exact q
      |false=>cases x with
       |true=>exact q
       |false=>cases e
     ·have e:=Ye.mp e
      rw[e.1,e.2]at q
      have d2:b.drop (s.1.2+p+(r+1)+1)=(b.drop (s.1.2+p+1)).drop (r+1):=by rw[Xl];exact congrArg (b.drop ·) (X1 _ (r+1) 1)
      have q:Q (vC (((gh bD size f ((b.drop s.1.2).drop (p+1+(r+1)+size))).map (a9.mk m ((b.drop (s.1.2+p+1)).take r) (((b.drop (s.1.2+p+1)).drop (r+1)).take size)::·)).map λr=>s.1.1++r)) h:=q
      rw[aae,←d2,Xl]at q
      have la:=Xv.mp (of_decide_eq_true G)
      have pos:0<p+1+(r+1)+size:=WK (XF (p+1+r)) (WA _ _)
      refine eI (v:=a9.t ⟨m,(b.drop (s.1.2+p+1)).take r,(b.drop (s.1.2+p+(r+1)+1)).take size⟩) (λQ k=>ar (Qk rfl (bq Iq (congrArg V.bytes gf)) i.w.dt u) (ar (bq Iq (congrArg V.bytes ((show bY b (some ((s.1.2+p:Nat)+1:Int)) (some ((s.1.2+p+(r+1):Nat):Int))=bY b (some ((s.1.2+p+1:Nat):Int)) (some ((s.1.2+p+1+r:Nat):Int)) by rw[WV (s.1.2+p) 1 r,Xd 1 r];rfl).trans gf))) (ar (bq Iq (congrArg V.bytes (gf (a:=s.1.2+p+(r+1)+1) (p:=size)))) λ_ k=>k)) _ (Wm (Wj rfl) k)) rfl i.w.at_ ?_ ?_
      ·rw[Wp];exact Wz i.m (WK la (Wh hb dD))
      ·refine aZ (v:=.int ((s.1.2+(p+1+(r+1)+size):Nat):Int)) (bq Iq (congrArg (λx:Nat=>V.int x) (show s.1.2+p+(r+1)+1+size=s.1.2+(p+1+(r+1)+size) by simp only[WV,abo,Xd]))) (kn ((s.1.1++[⟨m,(b.drop (s.1.2+p+1)).take r,(b.drop (s.1.2+p+(r+1)+1)).take size⟩],s.1.2+(p+1+(r+1)+size)),_,_,upd s.2.2.2 c (some (.list (s.1.1.map a9.t++[a9.t ⟨m,(b.drop (s.1.2+p+1)).take r,(b.drop (s.1.2+p+(r+1)+1)).take size⟩])))) ⟨?_,?_,?_,?_⟩)
       ·rw[WQ];exact i.w.put
       ·rw[W7]
        have:=i.n
        rw[W7]at this
        exact ZK (WK (aaU la (Ys pos)) this)
       ·rw[Wk];exact WH i.m pos
       ·rw[show ∀x:a9,(λr=>(s.1.1++[x])++r)=(λr=>s.1.1++r)∘(x::·)from λx=>funext λr=>by rw[Wx];rfl]
        exact q
 ·have q:Q (vC (gh bD size b.length b)) h:=q
  rw[←Option.map_id' (x:=gh bD size b.length b)]at q
  exact q
end
theorem Jt(h:∀v∈vs,f v v=some true):Ni f vs vs=some true:=by
 unfold Ni
 induction vs with
 |nil=>rfl
 |cons v r q=>
  rw[aer,ads,q λu d=>h u (.tail _ d),h v (.head _)];rfl
theorem pU(h:∀v∈vs,f v v=some true):j1 o f vs vs=some true:=by unfold j1;rw[if_pos rfl,Jt h]
theorem eq_int:ji (n+1) (.int i) (.int i)=some true:=congrArg some (beq_self_eq_true i)
theorem eq_bytes:ji (n+1) (.bytes b) (.bytes b)=some true:=congrArg some (beq_self_eq_true b)
theorem Cg(h:∀v∈vs,ji n v v=some true):ji (n+1) (.tup vs) (.tup vs)=some true:=pU h
theorem pV(h:∀v∈vs,ji n v v=some true):ji (n+1) (.lst vs) (.lst vs)=some true:=pU h
theorem Qn{P:V->Prop}{a b c:V}(h1:P a)(q:P b)(d:P c):∀v∈[a,b,c],P v:=λv h=>by
 rcases Wo.mp h with rfl|h
 ·exact h1
 rcases Wo.mp h with rfl|h
 ·exact q
 rw[WB.mp h];exact d
theorem yb{es:List a9}:ji 4 (.lst (es.map a9.t)) (.lst (es.map a9.t))=some true:=pV λv h=>by
 obtain⟨e,_,rfl⟩:=WN.mp h
 exact Cg (Qn eq_int eq_bytes eq_bytes)
noncomputable def rl(x:List UInt8):Bool:=x.contains 47||(([46]==x)||([46,46]==x)||(x.map Z1==[46,103,105,116]))
noncomputable def a9.key(e:a9):List UInt8:=sY e.m e.x
structure SX(es:List a9):Prop where
 nd:(es.map a9.x).Nodup
 so:(es.map a9.key).Pairwise λa b=>(abw a b != .gt)=true
 no:∀e∈es,rl e.x=false
 md:∀e∈es,e.m≠33204
noncomputable def uU(es:List a9):Bool:=@decide (SX es) (Xe _)
structure Ci(b:List UInt8)(es:List a9):Prop where
 b:cv es=b
 m:∀e∈es,s7 e.m
 f:(fh es [] none []).isEmpty=uU es
 s:uU es=true->∀e∈es,nz es e.x=e.v
 n:uU es=true->nz es [110,111,116,104,105,110,103]=.none
 l:es.length<=10000
 x:∀e∈es,e.x.length<=1000000
section
variable{g:Gl}{K:Frag}{n i:Nat}{h h0:AH}{size:Nat}{Q:V->AH->Prop}{X:AH->Prop}{loc:List (Option V)}{E r A B:PT}{o:Option V}{v:V}{b:List UInt8}{es:List a9}{v4 v5 v6:Option V}
theorem Qo{Q:V->St->Prop}{X:St->Prop}(q:∀(Q':V->St->Prop) (d:St->Prop),cy o (λv h=>Q' v ⟨loc,h⟩) (λh=>d ⟨loc,h⟩) h->E Q' d ⟨loc,h⟩)(k:r Q X ⟨Xa (motive:=λ_=>List (Option V)) o (loc.set i (some v)) λ_=>loc,h⟩):ah (vY (ah (fY E) ai) i v) r Q X ⟨loc,h⟩:=
 q _ _ (by cases o <;> exact k)
theorem dh{X:St->Prop}{st:St}{u w:V}(h1:Ev A X st u)(d:Ev B X st w)(e:eqT (res st.h u) (res st.h w)=some true):Ev (aC .NotEq A B) X st (.bool false):=bJ h1 d λ_ k=>az e k
theorem N9{X:St->Prop}{st:St}{u w:V}(h1:Ev A X st u)(d:Ev B X st w)(e:eqT (res st.h u) (res st.h w)=some true):Ev (aC .Eq A B) X st (.bool true):=bJ h1 d λ_ k=>az e k
theorem Vs{X:St->Prop}{st:St}(h1:Ev A X st (.bool false))(d:Ev B X st (.bool false)):Ev (cF A (cF B (af (.bool .false)))) X st (.bool false):=cg (a:=false) h1 λ_=>cg (a:=false) d λ_ _ k=>k
theorem Ju{X:St->Prop}{e:a9}{loc:List (Option V)}:Ev (c8 (aa (aS (ae 1) fH) (aa (aS (ae 1) bH) (aa (aS (ae 1) ju) ag)))) X ⟨none::some e.v::loc,h⟩ e.t:=λ_ k=>Wm trivial (Wm trivial (Wm trivial (Wm (Wj rfl) k)))
theorem Qp(kn:Kn g K)(j:es.length<=1000000)(hs:∀e∈es,nz es e.x=e.v)(d:nz es [110,111,116,104,105,110,103]=.none)(q:Q (.bool true) h):f9 g 9 (dE Q) (bz X) ⟨[v0,z,some (.lst (es.map a9.t)),some (dF es),v4,v5,v6],h⟩:=by
 refine aZ (ee (e:=a9.t) (f:=a9.v) Iq j λe y=>?_) (a6 (v:=.bool true) ?_ (bc q))
 ·exact bq (l4 Iq rfl (ar (dy Iq Iq λ_ k=>Wm dD k) λ_ k=>k) (qg kn dD)) (hs e y)
 ·refine eH (a:=true) (b:=true) (bJ (l4 Iq rfl Iq (qg kn dD)) Iq λ_ k=>by rw[d];exact⟨trivial,k⟩) λ_=>N9 (ee (e:=a9.v) (f:=a9.t) Iq j λe y=>Ju) Iq yb
end
abbrev uV(g:Gl):Prop:=∀{es:List a9},es.length<=60->(∀e∈es,e.x.length<=1000000)->cS g 9 550 [.lst (es.map a9.t)] (some (.bool (uU es)))
section
variable{g:Gl}{K:Frag}{n i:Nat}{h h0:AH}{size:Nat}{Q:V->AH->Prop}{X:AH->Prop}{loc:List (Option V)}{E r A B:PT}{o:Option V}{v:V}{b:List UInt8}{es:List a9}{v4 v5 v6:Option V}
theorem nR{X:St->Prop}{st:St}(h1:Ev A X st (.bool false))(d:Ev B X st (.bool false)):Ev (cF A (cF B (af (.bool .false)))) X st (.bool false):=cg (a:=false) (b:=false) h1 λ_=>cg (a:=false) (b:=false) d λ_ _ k=>k
theorem Qq(kn:Kn g K)(fc:uV g)(y:es.length<=60)(hb:b.length<=1000000)(ok:Ci b es){j:Option V}(q:Q (.bool true) h):gc g 9 (dE Q) (bz X) ⟨[some (.bytes b),j,some (.lst (es.map a9.t)),some (dF es),v4,v5,v6],h⟩:=by
 have d:es.length<=1000000:=Wh y dD
 have lt:es.length<1000000:=Wz y dD
 have key:∀a:Bool,a=uU es->gb g 9 (dE Q) (bz X) ⟨[some (.bytes b),j,some (.lst (es.map a9.t)),some (dF es),some (dF es),some (.bool a),v6],h⟩:=λa e=>by
  refine jf (nR (dh (l4 Iq rfl Iq (kS kn dD ok.m lt (by rw[ok.b];exact hb))) Iq (by rw[ok.b];exact eq_bytes (n:=3))) (dh Iq (aG Iq (fc y ok.x)) (by rw[e];exact congrArg some (beq_self_eq_true _)))) rfl ?_
  refine bI (b:=!a) (jC (cW Iq)) (λ_ _ k=>k) (λ_=>bc q) λz=>?_
  have z:=e.symm.trans (nr z)
  exact Qp kn d (ok.s z) (ok.n z) q
 refine jB (ar (v:=dF es) (aG (ar (ee (e:=a9.t) (f:=a9.v) Iq d λe _=>aG (ar (dy Iq Iq λ_ k=>Wm dD k) (ar (dy Iq Iq λ_ k=>Wm dD k) (ar (dy Iq Iq λ_ k=>Wm dD k) λ_ k=>k))) (DG kn dD)) λ_ k=>k) (IM kn dD)) λ_ k=>k) ⟨Wj rfl,rfl⟩ ?_
 refine Qo (o:=bif (fh es [] none []).isEmpty then some .none else none) (λQ' u q=>xR kn dD ok.l ok.x q) ?_
 have f:=ok.f
 revert f
 cases (fh es [] none []).isEmpty with
 |true=>exact λf=>key true f
 |false=>exact λf=>key false f
theorem nU(kn:Kn g K)(fc:uV g)(d:10<=n)(hb:b.length<=1000)(e:eQ bD size b=eQ bU size b)(ok:∀es,eQ bU size b=some es->es.length<=60∧Ci b es):cS g n 555 [.bytes b,.int size] (some (.bool true)):=λ{Q X h} q=>by
 refine((aH (n:=9) (kn.H 9) kn.law_tree_right rfl ?_).call).up d
 refine B8 (a:=vC (eQ bD size b)) (b:=tn size dG b) (λQ k=>ar (aG Iq (tz kn dD (Wh hb dD))) (ar (aG Iq (nM kn dD (Wh hb dD))) λ_ k=>k) _ (Wm (Wj rfl) k)) ?_
 rw[e,show tn size dG b=((eQ bU size b).map dF).getD T8 from rfl]
 generalize y:eQ bU size b=j;cases j with
 |none=>exact bI (b:=true) (v:=.bool true) (cg (a:=true) (b:=false) (bJ Iq Iq λ_ k=>⟨trivial,k⟩) tf) (λ_=>eH (a:=true) (b:=true) (bJ Iq Iq λ_ k=>⟨trivial,k⟩) λ_ _ k=>k) (λ_=>bc q) tf
 |some es=>
  have ok:=ok es y
  have o:=ok.2
  refine jf (nR (bJ Iq Iq λ_ k=>⟨trivial,k⟩) λ_ k=>k) rfl ?_
  refine jf (nR (dh (ee (e:=a9.v) (f:=a9.t) (λ_ k=>Wm trivial k) (Wh ok.1 dD) λe _=>Ju) Iq yb) (dh (l4 Iq rfl Iq (kS kn dD o.m (Wz ok.1 dD) (by rw[o.b];exact Wh hb dD))) Iq (by rw[o.b];exact eq_bytes (n:=3)))) rfl ?_
  exact Qq kn fc ok.1 (Wh hb dD) o q
end
structure DS(D C:Addr)(T:Nat)(h0 h:AH):Prop where
 dk:cN D C T h
 s:∀a o,h0 a=some o->a≠D->a≠C->h a=some o
structure nV(D C:Addr)(h0:AH)(c:Addr):Prop where
 n:h0 c=none
 d:c≠D
 c:c≠C
theorem DS.rfl(d:cN D C T h):DS D C T h h:=⟨d,λ_ _ e _ _=>e⟩
theorem DS.draw(x:DS D C T h0 h)(d:Drawn D C y h q):DS D C y h0 q:=⟨d.d,λa o e n m=>(d.f a n m).trans (x.s a o e n m)⟩
theorem DS.fresh(x:DS D C T h0 h)(e:h c=none):nV D C h0 c:=by
 have d:c≠D:=λz=>by obtain⟨_,_,_,w⟩:=x.dk.d;rw[←z,e]at w;cases w
 have f:c≠C:=λz=>by obtain⟨_,_,w⟩:=x.dk.c;rw[←z,e]at w;cases w
 refine⟨acE.mpr λo z=>?_,d,f⟩
 rw[x.s c o z d f]at e;cases e
theorem DS.put(x:DS D C T h0 h)(m:nV D C h0 c):DS D C T h0 (upd h c o):=
 ⟨⟨x.dk.ne,x.dk.d.imp λ_=>XS λ_ z=>⟨z.1,(aE (X6 m.d)).trans z.2⟩,x.dk.c.imp λ_ z=>⟨z.1,(aE (X6 m.c)).trans z.2⟩⟩,λa p e n k=>(aE λz=>by rw[z,m.n]at e;cases e).trans (x.s a p e n k)⟩
theorem Cj(x:DS D C T h0 h)(q:∀p,Drawn D C T h0 p->Q v p):Fin Q v h:=by
 refine .mk (h1:=λa=>if a=D∨a=C then h a else h0 a) (λa o e=>?_) (q _ ⟨⟨x.dk.ne,?_,?_⟩,λa n m=>if_neg (not_or.mpr ⟨n,m⟩)⟩)
 ·have e:(if a=D∨a=C then h a else h0 a)=some o:=e
  by_cases z:a=D∨a=C
  ·rw[if_pos z]at e;exact e
  ·rw[if_neg z]at e;exact x.s a o e (not_or.mp z).1 (not_or.mp z).2
 ·obtain⟨y,t,l,w⟩:=x.dk.d
  exact⟨y,t,l,(if_pos (.inl (.refl _))).trans w⟩
 ·obtain⟨y,l,w⟩:=x.dk.c
  exact⟨y,l,(if_pos (.inr (.refl _))).trans w⟩
section
variable{g:Gl}{K:Frag}{n m i j k l:Nat}{D C c:Addr}{loc:List (Option V)}{P R S:V->Prop}{E F A B W r It:PT}{u v:V}{vs:List V}{h h0:AH}{Q:V->St->Prop}{X:St->Prop}{T size:Nat}
theorem Jv(x:XD D C k E loc P)(d:DS D C T h0 h)(hT:T+k<=1000000)(y:∀v q,P v->Drawn D C (T+k) h q->DS D C (T+k) h0 q->r Q X ⟨loc.set i (some v),q⟩):ah (aD (aj i) E) r Q X ⟨loc,h⟩:=
 x _ _ _ _ d.dk hT λv q p z=>y v q p z (d.draw z)
theorem Jw(x:XD D C k E loc P)(d:DS D C T h0 h)(hT:T+k<=1000000)(b:(loc[i]?).join=some (.ref c))(e:h c=some (.list vs))(m:nV D C h0 c)(l:vs.length<1000000)(y:∀v q,P v->Drawn D C (T+k) h q->DS D C (T+k) h0 (upd q c (some (.list (vs++[v]))))->r Q X ⟨loc,upd q c (some (.list (vs++[v])))⟩):ah (fY (av g n aK (ae i) (aa E ag))) r Q X ⟨loc,h⟩:=
 N1 b e (x _ _ _ _ d.dk hT λv q p z=>az ((z.f c m.d m.c).trans e) (Wm l (y v q p z ((d.draw z).put m))))
theorem Qt(y:∀h X,Ev A X ⟨loc,h⟩ u)(z:∀h X,Ev B X ⟨loc,h⟩ v)(x:XD D C k E loc P)(s:∀w,P w->S (.tup [u,v,w])):XD D C k (c8 (aa A (aa B (aa E ag)))) loc S:=λ_ _ _ _ dk hT q=>
 y _ _ _ (z _ _ _ (x _ _ _ _ dk hT λw b p d=>Wm (Wj (.refl _)) (q _ b (s w p) d)))
theorem vD(kn:Kn g K)(p:1<=n){e:a9}(y:e.x.length<=1000000):cS g n 545 [e.t] (some (.bytes e.key)):=λ{Q X h} q=>by
 refine((aH (n:=0) (kn.H 0) kn.law_key rfl ?_).call).up p
 unfold a9.key sY at q
 have d:∀X,Ev (aQ (ae 0) (af (.int 1))) X ⟨[some e.t],h⟩ (.bytes e.x):=λX=>dy Iq Iq λ_ k=>Wm dD k
 refine a6 (v:=bif (e.m:Int)==16384 then .bytes (e.x++[47])else .bytes e.x) (kF (b:=(e.m:Int)==16384) (bJ (dy Iq Iq λ_ k=>Wm dD k) Iq λ_ k=>k) (λz=>?_) λz=>?_) (bc ?_)
 ·rw[z];exact bl (d _) Iq (Wh (Ww y) dD)
 ·rw[z];exact d _
 ·generalize h:((e.m:Int)==16384)=w;cases w <;> rw[h]at q <;> exact q
theorem Qu{y:Type}{e:y->V}{l:List y}{is:List Nat}{b d:PT}(z:(loc[i]?).join=some (.ref c))(hc:h c=some (.list (l.map e)))(p:l.length<=1000000)(hC:∀a∈l,Ev d uZ ⟨none::some (e a)::eJ is (loc.map (Yw (b9 c (l.map e)))),upd h c none⟩ (.bool false))(q:Q (.bool true) ⟨loc.map (Yw (b9 c (l.map e))),upd h c none⟩):aC .Eq (a8 2 is (hZ (aj 1) d b) (a7 (ae i))) (bp ag) Q X ⟨loc,h⟩:=
 az z (az hc (Wm (g6 p) (Dw (f:=λ_=>.none) (λ_=>false) (λs=>∃x,s=⟨none::x::eJ is (loc.map (Yw (b9 c (l.map e)))),upd h c none⟩) (aj 1) (λa ha s i=>by
  obtain⟨x,rfl⟩:=i
  exact⟨⟨none::some (e a)::eJ is (loc.map (Yw (b9 c (l.map e)))),upd h c none⟩,⟨_,.refl _⟩,λ_ q=>q,hC a ha,ff⟩) ⟨_,.refl _⟩ λs i=>by
   obtain⟨x,rfl⟩:=i
   rw[Zu.mpr λ_ _=>Xc]
   exact Wm (WI _) q)))
end
noncomputable def D1:List (List UInt8):=[[97],[97,46,98],[97,45],[97,98],[98],[97,48],[255],[99,32,100],[46,46,46],[46,71,105,116]]
structure eR(size:Nat)(e:a9):Prop where
 m:e.m∈g7
 x:e.x∈D1
 o:eZ size e.o
structure Ae(size:Nat)(b:List UInt8):Prop where
 l:b.length<=1000
 e:eQ bD size b=eQ bU size b
 k:∀es,eQ bU size b=some es->es.length<=60∧Ci b es
abbrev tA(size:Nat):Prop:=∀es:List a9,(∀e∈es,eR size e)->es.length<=3->∀b,(b=cv es∨uT (cv es) b)->Ae size b
noncomputable def Jx(b:Bool):List Nat:=[33188,16384,16384,33261,40960,57344,bif b then 33204 else 33188]
noncomputable def Jy(b:Bool):List (List UInt8):=[[97],[97,46,98],[97,45],[97,98],[98],[97,48],[255],[99,32,100],bif b then[46,46,46]else[46,71,105,116]]
theorem Jz(b:Bool):∀m∈Jx b,m∈g7:=by cases b <;> decide +kernel
theorem JA(b:Bool):∀m∈Jy b,m∈D1:=by cases b <;> decide +kernel
noncomputable def SY:List (Int×List UInt8):=[(16384,[52,48,48,48,48]),(40960,[49,50,48,48,48,48]),(57344,[49,54,48,48,48,48]),(33261,[49,48,48,55,53,53]),(33204,[49,48,48,54,54,52])]
noncomputable def Qw:List (DK.K .i×V):=SY.map λp=>(p.1,V.bytes p.2)
noncomputable def txt(m:Nat):List UInt8:=((SY.find? λp=>decide (p.1=(m:Int))).map (·.2)).getD [49,48,48,54,52,52]
theorem S0(m:Nat):(atKey Qw (m:Int)).getD (.bytes [49,48,48,54,52,52])=.bytes (txt m):=by
 unfold atKey Qw txt
 rw[List.find?_map,aae]
 generalize h:SY.find? ((λq:Int×V=>decide (q.1=(m:Int)))∘λp=>(p.1,V.bytes p.2))=y;cases y with
 |none=>rw[show(SY.find? λp=>decide (p.1=(m:Int)))=none from h];rfl
 |some p=>rw[show(SY.find? λp=>decide (p.1=(m:Int)))=some p from h];rfl
theorem Oa:∀m∈g7,txt m=m8 m:=dD
theorem jV:∀x∈D1,x.length<=4∧x≠[]∧∀c∈x,c≠0:=dD
theorem Qx:∀m∈g7,(m8 m).length<=6:=dD
section
variable{g:Gl}{K:Frag}{n m i j k l:Nat}{D C c d:Addr}{loc:List (Option V)}{E F A B W r It:PT}{u v:V}{vs:List V}{h h0:AH}{Q:V->AH->Prop}{X:AH->Prop}{T size:Nat}{v0 v1 v2 v3 v4 v5 v6 v8 v9:Option V}{b:List UInt8}{es:List a9}
theorem eR.len(e:a9)(o:eR size e)(hs:size<=4):e.oct.length<=16:=by
 unfold a9.oct
 rw[Wk,Wk,Wk,Wk,o.o.l]
 exact WH (WH (WH (WH (Qx _ o.m) (Wr 1)) (jV _ o.x).1) (Wr 1)) hs
structure VZ(D C c:Addr)(T:Nat)(h0:AH)(b:List UInt8)(m:Nat)(acc:List (List UInt8))(T':Nat)(h:AH):Prop where
 ds:DS D C T' h0 h
 c:h c=some (.list (acc.map .bytes))
 a:∀x∈acc,x=b∨uT b x
 t:T'+m*4<=T+8
 n:acc.length+m<=3
 p:0<m->0<b.length
theorem Mn(kn:Kn g K)(fc:uV g)(L:∀x,(x=b∨uT b x)->Ae size x)(hT:T+8<=1000000)(ds:DS D C T h0 h)(q:∀w,Drawn D C (T+8) h0 w->Q (.bool true) w):dv g 10 (dE Q) (bz X) ⟨[some (.ref D),some (.int size),v2,v3,v4,v5,v6,some (.bytes b),v8,v9],h⟩:=by
 have hb:b.length<=1000:=(L b (.inl rfl)).l
 refine vu Iq (Wj rfl) λc hc=>?_
 have mc:=ds.fresh hc
 have S:Ev (bA (aC .NotEq (ae 7) (af (.bytes []))) (af (.int 2)) (af (.int 0))) (bz X) ⟨[some (.ref D),some (.int size),v2,v3,v4,v5,v6,some (.bytes b),v8,some (.ref c)],upd h c (some (.list [.bytes b]))⟩ (.int ((bif b==[]then 0 else 2:Nat):Int)):=
  kF (b:=!(b==[])) Iq (λe _ k=>by rw[cw e]at k;exact k) λe _ k=>by rw[nr e]at k;exact k
 refine xJ (λs:List (List UInt8)×Nat×Option V×AH=>⟨[some (.ref D),some (.int size),v2,v3,s.2.2.1,v5,v6,some (.bytes b),v8,some (.ref c)],s.2.2.2⟩) (λm _ s=>VZ D C c T h0 b m s.1 s.2.1 s.2.2.2) ([b],T,v4,upd h c (some (.list [.bytes b]))) (nQ S (by cases b==[] <;> decide)) ⟨ds.put mc,aB _ _ _,λx hx=>.inl (WB.mp hx),?_,?_,λl=>?_⟩ (λ_ s i=>?_) λm _ s i Y J U=>?_
 ·exact WD (by cases b==[] <;> decide) T
 ·cases b==[] <;> exact Wj rfl
 ·cases b with
  |nil=>cases l
  |cons=>exact XF _
 ·refine Ja (Qu (e:=V.bytes) (l:=s.1) rfl i.c (Wh i.n dD) (λa ha=>?_) (Cj (i.ds.put mc) λw d=>q w (d.up i.t)))
  have f:=L a (i.a a ha)
  exact jC (a:=true) (cW (aG Iq (nU kn fc (Wr _) f.l f.e f.k)))
 ·have R:s.2.1+4<=T+8:=Wh (WD (by rw[aal];exact X5 _ _) _) i.t
  refine Jw (cj (vs:=[.ref D,.bytes b,.int b.length]) (λ_ _ _ k=>k) (D0 kn dD (i.p (XF m)) (Wz hb dD) (Wh hb dD))) i.ds (Wh R hT) rfl i.c mc ?_ λv w p _ o=>?_
  ·rw[Wp];exact Wz (Wh (WA _ _) i.n) dD
  ·obtain⟨x,rfl,hx⟩:=p
   refine J (s.1++[x],s.2.1+4,_,_) ⟨o,?_,λy z=>?_,?_,?_,λ_=>i.p (XF m)⟩
   ·rw[WQ];exact aB _ _ _
   ·rcases WO.mp z with z|z
    ·exact i.a y z
    ·rw[WB.mp z];exact .inr hx
   ·rw[WV,Xd 4,←aal];exact i.t
   ·rw[Wk,WV];show s.1.length+(1+m)<=3;rw[Xd 1];exact i.n
theorem Qy{m:MT}{c:Addr}{y:DK}{l:List (y.K×V)}{p:String×BW}{k:String×BW->Prop}{z:Addr->Prop}(e:h c=some (.dict y l))(w:m.d=some p)(q:k p):pick m (.ref c) h k z:=by unfold pick;rw[ny e];exact az e (az w q)
theorem Qz{x w:Type}{e:x->V}{l:List x}{Q:V->St->Prop}{X:St->Prop}{st:St}(f:w->St)(I:List x->w->Prop)(s:w)(L:∀Q':V->St->Prop,Q' (.lst (l.map e)) (f s)->It Q' X st)(o:I l s)(h0:∀s,I [] s->r Q X (f s))
 (h1:∀a l s,I (a::l) s->∀y:V->St->Prop,(∀p,I l p->y .none (f p))->(∀v st',Q (.tup [v]) st'->y (.tup [v]) st')->W y X ⟨(f s).loc.set i (some (e a)),(f s).h⟩):ah (dq (aj i) It W) r Q X st:=
 L _ (show fU (aj i) W (l.map e) (λf q=>br (isNone f) (r Q X q) (Q f q)) X (f s)from NW (Q:=λf q=>br (isNone f) (r Q X q) (Q f q)) (λl st=>∃s,st=f s∧I l s) (λst z=>z.elim λs z=>z.1▸h0 s z.2) (λa l st z y k J=>z.elim λs z=>z.1▸h1 a l s z.2 y (λp R=>k _ ⟨p,rfl,R⟩) J) ⟨s,rfl,o⟩)
theorem D2(kn:Kn g K)(fc:uV g)(pl:tA size)(hs:size<=4)(f:∀e∈es,eR size e)(L:es.length<=3)(hd:h d=some (.dict .i Qw))(hT:T+8<=1000000)(ds:DS D C T h0 h)(q:∀R,Drawn D C (T+8) h0 R->Q (.bool true) R){st:St}
 (Z:∀Q':V->St->Prop,Q' (.lst (es.map a9.t)) ⟨[some (.ref D),some (.int size),v2,some (.ref d),v4,v5,v6,some (.bytes []),v8,v9],h⟩->It Q' (bz X) st):ah (dq (aj 8) It (fx g 10)) (dv g 10) (dE Q) (bz X) st:=by
 refine Qz (e:=a9.t) (l:=es) (λs:List a9×Option V=>⟨[some (.ref D),some (.int size),v2,some (.ref d),v4,v5,v6,some (.bytes (cv s.1)),s.2,v9],h⟩) (λl s=>s.1++l=es) ([],v8) Z rfl (λs i=>?_) λe l s i Qc z I=>?_
 ·have i:s.1=es:=(WT _).symm.trans i
  exact Mn kn fc (λx hx=>pl s.1 (i▸f) (i▸L) x hx) hT ds q
 ·have w:=f e (by rw[←i];exact WW _ (.head _))
  have le:(cv s.1).length<=1000:=(pl s.1 (λa ha=>f a (by rw[←i];exact Yp _ ha)) (Wh (by rw[←i,Wk];exact WA _ _) L) _ (.inl rfl)).l
  have lo:=eR.len e w hs
  have y:(cv s.1++txt e.m++[32]++e.x++[0]++e.o).length<=1016:=by
   rw[Oa _ w.m,Wx,Wx,Wx,Wx,←Wx (m8 e.m),←Wx (m8 e.m++[32]),←Wx (m8 e.m++[32]++e.x)]
   rw[Wk];exact WH le lo
  have S:=cB y
  have J:=cB S
  have l2:=cB J
  have t:1016<=16777216:=dD
  have H:Ev (av g 10 Iw (ae 3) (aa (aQ (ae 8) (af (.int 0))) (aa (af (.bytes [49,48,48,54,52,52])) ag))) (bz X) ⟨[some (.ref D),some (.int size),v2,some (.ref d),v4,v5,v6,some (.bytes (cv s.1)),some e.t,v9],h⟩ (.bytes (txt e.m)):=λU k=>by
   refine Qy (p:=("dict.get",Hi)) hd rfl (Wm (aaH 0) ?_)
   show dS (h d) λo=>oc o (fd:=λY l=>dS (Y.key (.int e.m)) λG=>U ((atKey l G).getD (.bytes [49,48,48,54,52,52])) ⟨[some (.ref D),some (.int size),v2,some (.ref d),v4,v5,v6,some (.bytes (cv s.1)),some e.t,v9],h⟩)
   rw[hd]
   show U ((atKey Qw (e.m:Int)).getD (.bytes [49,48,48,54,52,52])) _
   rw[S0];exact k
  have key:cv s.1++txt e.m++[32]++e.x++[0]++e.o=cv (s.1++[e]):=by
   unfold cv a9.oct
   rw[WQ,ZW,aa6,abN,Oa _ w.m]
   simp only[Wx]
  refine aZ (v:=.bytes (cv s.1++txt e.m++[32]++e.x++[0]++e.o)) (bl (bl (bl (bl (bl Iq H (bt (cB l2) t)) Iq (bt l2 t)) (dy Iq Iq λ_ k=>Wm dD k) (bt J t)) Iq (bt S t)) (dy Iq Iq λ_ k=>Wm dD k) (bt y t)) ?_
  rw[key]
  exact z (s.1++[e],some e.t) (by rw[Wx];exact i)
end
section
variable{g:Gl}{K:Frag}{n m i j k l:Nat}{D C c d:Addr}{loc:List (Option V)}{E F A B W r It:PT}{u v:V}{vs:List V}{h h0:AH}{Q:V->AH->Prop}{X:AH->Prop}{T size:Nat}{v0 v1 v2 v3 v4 v5 v6 v7 v8 v9:Option V}{b:List UInt8}{es:List a9}
theorem S1{X:St->Prop}{st:St}(q:Ev E X st (.lst vs)):∀pre:List V,Ev (pre.foldr (λa e=>aa (af a) e) E) X st (.lst (pre++vs)):=by
 intro y
 induction y with
 |nil=>
  intro _ k
  exact q _ k
 |cons a pre z=>
  intro _ k
  exact z _ k
theorem JB{X:St->Prop}{st:St}(q:Ev E X st (.lst vs))(pre:List V)(l:Zz (pre++vs).length 1000000=true):Ev (bp (pre.foldr (λa e=>aa (af a) e) E)) X st (.lst (pre++vs)):=λ_ k=>S1 q pre _ (Wm (Wj l) k)
theorem D3{a:Addr}(ne:D≠c):Yw (b9 c vs) (some (.ref D))=some (.ref D):=congrArg some (if_neg ne)
theorem Mo(e:a9):e.key.length<=e.x.length+1:=by
 unfold a9.key sY
 cases (e.m:Int)==16384 with
 |true=>rw[cond_true,Wk];exact Wr _
 |false=>exact XC _
structure UZ(D C c d:Addr)(T size:Nat)(h0:AH)(m:Nat)(acc:List a9)(T':Nat)(h:AH):Prop where
 ds:DS D C T' h0 h
 c:h c=some (.list (acc.map a9.t))
 d:h d=some (.dict .i Qw)
 a:∀e∈acc,eR size e
 t:T'+m*6<=T+18
 n:acc.length+m<=3
theorem JC(kn:Kn g K)(fc:uV g)(pl:tA size)(hs:size<=4)(U:∀e∈es,eR size e)(R:es.length<=3)(mc:nV D C h0 c)(md:nV D C h0 d)(H:c≠d)(hc:h c=some (.list (es.map a9.t)))(hd:h d=some (.dict .i Qw))(hT:T+1+8<=1000000)(ds:DS D C T h0 h)(q:∀y,Drawn D C (T+1+8) h0 y->Q (.bool true) y):eY g 10 (dE Q) (bz X) ⟨[some (.ref D),some (.int size),some (.ref c),some (.ref d),v4,v5,v6,v7,v8,v9],h⟩:=by
 have I:XD D C 1 (aC .Gt (ak g 10 (.ref 469) (aa (ae 0) (aa (af (.int 5)) ag))) (af (.int 0))) [some (.ref D),some (.int size),some (.ref c),some (.ref d),v4,v5,v6,v7,v8,v9] λv=>∃b,v=.bool b:=by
  refine Ce (v:=.int 0) (cj (vs:=[.ref D,.int 5]) (λ_ _ _ k=>k) (b7 (below:=5) kn dD dD dD)) (λ_ _ _ k=>k) λu p=>?_
  obtain⟨d,_,rfl⟩:=p
  exact⟨decide ((d:Int)>0),⟨_,rfl⟩,λ_ _ k=>k⟩
 refine qh (I _ _ _ _ ds.dk (Wh (WA _ 8) hT) λv y p z=>?_)
 obtain⟨b,rfl⟩:=p
 have o:=ds.draw z
 have J:=(z.f c mc.d mc.c).trans hc
 have w:=(z.f d md.d md.c).trans hd
 refine KE (λ_=>?_) λ_=>?_
 ·refine IF J (Wm ⟨dD,by rw[Wp];exact Wz R dD,λu L=>?_⟩ λl Z=>?_)
  ·obtain⟨e,S,rfl⟩:=WN.mp L
   have Y:=(jV _ (U e S).x).1
   exact⟨e.key,Wh (Mo e) (Wh (Ww Y) dD),vD kn dD (Wh Y dD) ⟨rfl,rfl⟩⟩
  ·obtain⟨es',rfl,S⟩:=all_map (f:=a9.t) (p:=(·∈es)) λu L=>by
    obtain⟨e,h1,h2⟩:=WN.mp (Z.mem_iff.mp L)
    exact⟨e,h1,h2.symm⟩
   have G:=Z.length_eq
   rw[Wp,Wp]at G
   exact aZ (v:=.bytes []) Iq (D2 (It:=a7 (ae 2)) kn fc pl hs (λe h=>U e (S e h)) (G▸R) w hT o q λQ' k=>k)
 ·refine(λk:ah (aD (aj 7) (af (.bytes []))) (fy g 10) (dE Q) (bz X) ⟨[some (.ref D),some (.int size),some (.ref c),some (.ref d),v4,v5,v6,v7,v8,v9],y⟩=>k) ?_
  refine aZ (v:=.bytes []) Iq ?_
  have e1:=D3 (vs:=es.map a9.t) (a:=c) (X6 mc.d)
  have e2:=D3 (vs:=es.map a9.t) (a:=c) (X6 H)
  have e3:Yw (b9 c (es.map a9.t)) (some (.ref c))=some (.lst (es.map a9.t)):=congrArg some (if_pos rfl)
  refine D2 (It:=a7 (ae 2)) (h:=upd y c none) (v2:=some (.lst (es.map a9.t))) (v4:=Yw (b9 c (es.map a9.t)) v4) (v5:=Yw (b9 c (es.map a9.t)) v5) (v6:=Yw (b9 c (es.map a9.t)) v6) (v8:=Yw (b9 c (es.map a9.t)) v8) (v9:=Yw (b9 c (es.map a9.t)) v9) kn fc pl hs U R ((aE (X6 H)).trans w) hT (o.put mc) q λQ' k=>az J ?_
  show Q' (.lst (es.map a9.t)) ⟨[Yw (b9 c (es.map a9.t)) (some (.ref D)),_,Yw (b9 c (es.map a9.t)) (some (.ref c)),Yw (b9 c (es.map a9.t)) (some (.ref d)),_,_,_,_,_,_],upd y c none⟩
  rw[e1,e2,e3]
  exact k
theorem Mp(kn:Kn g K)(h2:0<size)(hs:size<=4)(hT:T+18<=1000000)(mc:nV D C h0 c)(i:UZ D C c d T size h0 (m+1) q y h)(md:nV D C h0 d)(cd:c≠d)(k:∀q y h v5 v6,UZ D C c d T size h0 m q y h->Qc .none ⟨[some (.ref D),some (.int size),some (.ref c),some (.ref d),some (.int x),v5,v6,v7,v8,v9],h⟩):fw g 10 Qc (bz X) ⟨[some (.ref D),some (.int size),some (.ref c),some (.ref d),some (.int x),v5,v6,v7,v8,v9],h⟩:=by
 have H:y+1+1+4<=T+18:=Wh (WD (show 6<=(m+1)*6 by rw[aal];exact X5 _ _) y) i.t
 have Z:y+1+1<=T+18:=Wh (WA _ 4) H
 have lm:∀h X,Ev (bA (aC .Eq (ae 4) (af (.int 2))) (af (.int 33204)) (af (.int 33188))) X ⟨[some (.ref D),some (.int size),some (.ref c),some (.ref d),some (.int x),v5,v6,v7,v8,v9],h⟩ (.int ((bif x==2 then 33204 else 33188:Nat):Int)):=λh X=>kF (b:=x==2) Iq (λe _ k=>by rw[e]at k;exact k) λe _ k=>by rw[e]at k;exact k
 refine Jv (P:=λv=>∃m,m∈g7∧v=.int (m:Nat)) ((cj (vs:=[.ref D,.lst ((Jx (x==2)).map λm:Nat=>.int m)]) (λh X=>ar Iq (ar (JB (ar (lm h X) λ_ k=>k) [.int 33188,.int 16384,.int 16384,.int 33261,.int 40960,.int 57344] rfl) λ_ k=>k)) (rH kn dD (show 0<7 by decide) (show 7<2^30 by decide))).imp λv p=>?_) i.ds (Wh (Wh (XC _) Z) hT) λv h1 p G d1=>?_
 ·obtain⟨m,S,rfl⟩:=WN.mp p
  exact⟨m,Jz _ m S,rfl⟩
 obtain⟨U,R,rfl⟩:=p
 have ln:∀h X,Ev (bA (aC .Gt (ae 4) (af (.int 0))) (af (.bytes [46,46,46])) (af (.bytes [46,71,105,116]))) X ⟨[some (.ref D),some (.int size),some (.ref c),some (.ref d),some (.int x),some (.int U),v6,v7,v8,v9],h⟩ (.bytes (bif decide (x>0)then[46,46,46]else[46,71,105,116])):=λh X=>kF (b:=decide (x>0)) Iq (λe _ k=>by rw[e]at k;exact k) λe _ k=>by rw[e]at k;exact k
 refine Jv (P:=λv=>∃m,m∈D1∧v=.bytes m) ((cj (vs:=[.ref D,.lst ((Jy (decide (x>0))).map .bytes)]) (λh X=>ar Iq (ar (JB (ar (ln h X) λ_ k=>k) [.bytes [97],.bytes [97,46,98],.bytes [97,45],.bytes [97,98],.bytes [98],.bytes [97,48],.bytes [255],.bytes [99,32,100]] rfl) λ_ k=>k)) (rH kn dD (show 0<9 by decide) (show 9<2^30 by decide))).imp λv p=>?_) d1 (Wh Z hT) λv h2' p I d2=>?_
 ·obtain⟨m,S,rfl⟩:=WN.mp p
  exact⟨m,JA _ m S,rfl⟩
 obtain⟨Y,L,rfl⟩:=p
 refine Jw (P:=λv=>∃o,eZ size o∧v=.tup [.int U,.bytes Y,.bytes o]) (Qt (λ_ _ _ k=>k) (λ_ _ _ k=>k) (cj (vs:=[.ref D,.int size]) (λ_ _ _ k=>k) (tw kn dD h2 hs)) λw p=>p.elim λo z=>⟨o,z.2,by rw[z.1]⟩) d2 (Wh H hT) rfl ((I.f c mc.d mc.c).trans ((G.f c mc.d mc.c).trans i.c)) mc (by rw[Wp];exact Wz (Wh (WA _ _) i.n) dD) λv h3 p z3 d3=>?_
 obtain⟨o,ho,rfl⟩:=p
 refine k (q++[⟨U,Y,o⟩]) (y+1+1+4) _ _ _ ⟨d3,?_,?_,λe J=>?_,?_,?_⟩
 ·rw[WQ];exact aB _ _ _
 ·exact(aE (X6 cd)).trans ((z3.f d md.d md.c).trans ((I.f d md.d md.c).trans ((G.f d md.d md.c).trans i.d)))
 ·rcases WO.mp J with J|J
  ·exact i.a e J
  ·rw[WB.mp J];exact⟨R,L,ho⟩
 ·show y+6+m*6<=T+18
  rw[WV,Xd 6,←aal];exact i.t
 ·rw[Wk,WV];show q.length+(1+m)<=3;rw[Xd 1];exact i.n
end
section
variable{g:Gl}{K:Frag}{n m i j k l M:Nat}{D C c d:Addr}{loc:List (Option V)}{E F A B W r It:PT}{u v:V}{vs:List V}{h h0:AH}{T size:Nat}{v0 v1 v2 v3 v4 v5 v6 v7 v8 v9:Option V}{b:List UInt8}{es:List a9}
theorem Ck(hp:jm y [] vs=some out)(x:∀q,Ev W X ⟨loc,q⟩ (.lst vs))(p:vs.length<=100)(l:is.length=2)(w:∀c d q,h c=none->c≠d->h d=none->q c=some (.list [])->q d=some (.dict y out)->(∀a,a≠c->a≠d->q a=h a)->r Q X ⟨vX loc is [.ref d,.ref c],q⟩):ah (bZ is (aa (gy ag) (aa (qb y W) ag))) r Q X ⟨loc,h⟩:=
 Wm (WI _) λc hc d hd=>by
  have hd:upd h c (some (.list [])) d=none:=hd
  have ne:c≠d:=λz=>by rw[←z,aB]at hd;cases hd
  exact x _ _ (az hp (Wm ⟨p,aB _ _ _⟩ (Wm (Wj rfl) (Wm l (w c d _ hc ne ((aE (X6 ne)).symm.trans hd) ((aE ne).trans ((aE ne).trans (aB _ _ _))) (aB _ _ _) λa n1 n2=>(aE n2).trans ((aE n2).trans (aE n1)))))))
theorem D4(y:M<=1000000)(x:XD D C k E loc λv=>∃m:Nat,m<=M∧v=.int m):XD D C k (da (aa E ag)) loc λv=>∃m,m<=M∧v=.lst (eC 1 m 0):=λ_ _ _ _ dk hT q=>
 x _ _ _ _ dk hT λu h1 p d1=>p.elim λm z=>by
  obtain⟨l,rfl⟩:=z
  exact Wm ⟨aa0 dD (WG m),X2.mpr (Wh l y)⟩ (q _ h1 ⟨m,l,rfl⟩ d1)
theorem QA(x:XD D C k It loc λv=>∃m,m<=M∧v=.lst (eC 1 m 0))(dk:cN D C T h)(hT:T+k<=1000000)(o:∀m w,m<=M->Drawn D C (T+k) h w->fU (aj i) W (eC 1 m 0) (λf q=>br (isNone f) (r Q X q) (Q f q)) X ⟨loc,w⟩):ah (dq (aj i) It W) r Q X ⟨loc,h⟩:=
 x _ _ _ _ dk hT λv w p z=>p.elim λm y=>by
  obtain⟨l,rfl⟩:=y
  exact o m w l z
theorem Af(kn:Kn g K)(y:1<=n)(q:below+1<2^30)(e:∀h X,Ev E X ⟨loc,h⟩ (.lst [.ref D,.int (below+1:Nat)])):XD D C 1 (ak g n (.ref 469) E) loc λv=>∃m:Nat,m<=below∧v=.int m:=
 (cj e (b7 kn y (XF below) q)).imp λv p=>p.imp λm z=>⟨ZK z.1,z.2⟩
theorem JD(kn:Kn g K)(fc:uV g)(pl:tA size)(hn:11<=n)(I:0<size)(hs:size<=4):Dr g n 560 D C 28 [.ref D,.int size] λv=>v=.bool true:=by
 refine dj (n:=10) kn kn.law_trees_right rfl hn λT h Q X dk hT q=>?_
 have hp:jm .i [] [.int 16384,.bytes [52,48,48,48,48],.int 40960,.bytes [49,50,48,48,48,48],.int 57344,.bytes [49,54,48,48,48,48],.int 33261,.bytes [49,48,48,55,53,53],.int 33204,.bytes [49,48,48,54,54,52]]=some Qw:=by kernel_rfl
 refine Ck hp (λ_ _ k=>k) (Wj rfl) rfl λc d h1 S Z nd H ed fr=>?_
 have p:=DS.rfl dk
 have mc:=p.fresh S
 have md:=p.fresh nd
 have ds:DS D C T h h1:=⟨⟨dk.ne,dk.d.imp λ_=>XS λ_ z=>⟨z.1,(fr _ (X6 mc.d) (X6 md.d)).trans z.2⟩,dk.c.imp λ_ z=>⟨z.1,(fr _ (X6 mc.c) (X6 md.c)).trans z.2⟩⟩,λa o e _ _=>(fr a (λz=>by rw[z,S]at e;cases e) λz=>by rw[z,nd]at e;cases e).trans e⟩
 have y:T+1+18<=1000000:=Wh (WA _ 9) hT
 refine QA (D4 dD (Af (below:=3) kn dD dD λ_ _ _ k=>k)) ds.dk (Wh (WA _ 18) y) λm J U z=>?_
 refine IG (λs:(List a9×Nat)×Option V×Option V×Option V×AH=>⟨[some (.ref D),some (.int size),some (.ref c),some (.ref d),s.2.1,s.2.2.1,s.2.2.2.1,none,none,none],s.2.2.2.2⟩) (λm _ s=>UZ D C c d (T+1) size h m s.1.1 s.1.2 s.2.2.2.2) (λ_ s i=>?_) (λm x s i Qc w kr=>?_) m 0 (([],T+1),none,none,none,J) ⟨ds.draw z,(z.f c mc.d mc.c).trans H,(z.f d md.d md.c).trans ed,an,WD (aaG 6 U) _,by rw[Yh,Xx];exact U⟩
 ·have G:s.1.2<=T+1+18:=i.t
  have Y:s.1.2+1+8<=T+28:=WE G 9
  exact JC kn fc pl hs i.a i.n mc md Z i.c i.d (Wh Y hT) i.ds λR dr=>q _ R rfl (dr.up Y)
 ·exact Mp kn I hs y mc i md Z λL T' R v5 v6 i'=>w ((L,T'),some (.int x),v5,v6,R) i'
end
theorem yc:ef (a::b::r)=(bF a).bind λx=>(bF b).bind λy=>(ef r).map λl=>(16*x+y).toNat.toUInt8::l:=rfl
theorem nW:∀i:Nat,i<16->bF (eB.getD i 0)=some (i:Int)∧bF (X0 (eB.getD i 0))=some (i:Int):=dD
theorem JE(c:UInt8):c.toNat/16<16:=Nat.div_lt_of_lt_mul c.toNat_lt
theorem JF(c:UInt8):c.toNat%16<16:=ab1 _ dD
theorem D5(c:UInt8):((16*((c.toNat/16:Nat):Int)+((c.toNat%16:Nat):Int)).toNat).toUInt8=c:=by
 have:((16*((c.toNat/16:Nat):Int)+((c.toNat%16:Nat):Int)))=(c.toNat:Int):=by exact congrArg (λn:Nat=>(n:Int)) (Nat.div_add_mod c.toNat 16)
 rw[this];exact BQ c
theorem JG:∀b:List UInt8,ef (cz b)=some b:=by
 intro zi
 induction zi with
 |nil=>
  exact rfl
 |cons c r ih=>
  show ef (kR c::qe c::cz r)=_
  rw[yc,ih,show bF (kR c)=_ from(nW _ (JE c)).1,show bF (qe c)=_ from(nW _ (JF c)).1]
  exact congrArg (λx=>some (x::r)) (D5 c)
theorem QB:∀b:List UInt8,ef ((cz b).map X0)=some b:=by
 intro zi
 induction zi with
 |nil=>
  exact rfl
 |cons c r ih=>
  show ef (X0 (kR c)::X0 (qe c)::(cz r).map X0)=_
  rw[yc,ih,show bF (X0 (kR c))=_ from(nW _ (JE c)).2,show bF (X0 (qe c))=_ from(nW _ (JF c)).2]
  exact congrArg (λx=>some (x::r)) (D5 c)
theorem Mq:∀(m:Nat) (s:List Nat) (d:Nat),s.length<=m->d∈s->bF d=none->ef s=none:=by
 intro w1
 induction w1 with
 |zero=>
  intro s d l h _
  rw[Xg (Y2 l)]at h;cases h
 |succ m ih=>
  intro w2
  cases w2 with
  |nil=>
   intros;contradiction
  |cons a w3=>
   cases w3 with
   |nil=>
    intro _ _ _ _
    exact rfl
   |cons b r=>
    intro d l h e
    rw[yc]
    rcases Wo.mp h with rfl|h
    ·rw[e];rfl
    rcases Wo.mp h with rfl|h
    ·rw[e];cases bF a <;> rfl
    ·rw[ih r d (Wh (XC _) (Yi l)) h e]
     cases bF a with
     |none=>rfl
     |some=>cases bF b <;> rfl
theorem Ag:jg (bg b)=cz b:=by
 unfold jg bg FN
 rw[XM]
 exact(acz (g:=id) λc hc=>Cf (xV c hc)).trans (List.map_id _)
theorem Ah(i:Nat):eB.getD i 0<128:=by
 unfold List.getD
 generalize e:eB[i]? = zz;cases zz with
 |none=>exact(by decide:0<128)
 |some c=>exact of_decide_eq_true (W0.mp (show eB.all (λc=>decide (c<128))=true from rfl) c (XJ e))
theorem JH:∀c∈cz b,c<128:=λc hc=>by
 obtain⟨d,_,h⟩:=Zm.mp hc
 rcases Wo.mp h with rfl|h
 ·exact Ah _
 ·rw[WB.mp h];exact Ah _
theorem QC(n:Nat):∀c∈bL n,c≠0:=rB (λ_ l=>∀c∈l,c≠0) (λn h c hc=>by
 rw[WB.mp hc];exact Jp (WK dD (WA 48 n)) (XN (aaV h 48) dD)) (λn l d _ h ih c hc=>by
 rcases WO.mp hc with hc|hc
 ·exact ih c hc
 ·rw[WB.mp hc];exact Jp (WK dD (WA 48 d)) (XN (aaV h 48) dD)) n
theorem Cm(hk:et k=true)(h0:(0:UInt8)∉k)(h32:(32:UInt8)∉k)(hn:c.length=n):cX (k++[32]++bL n++[0]++c)=some (.tup [.bytes k,.bytes c]):=by
 have e:k++[32]++bL n++[0]++c=(k++32::bL n)++0::c:=by simp only[Wx,Yq,aaJ]
 have e2:(k++32::bL n)++0::c=k++32::(bL n++0::c):=by simp only[Wx,Yq]
 have i0:bh 0 ((k++32::bL n)++0::c)=some (k++32::bL n).length:=iu λh=>by
  rcases WO.mp h with h|h
  ·exact h0 h
  rcases Wo.mp h with h|h
  ·exact absurd h dD
  ·exact QC n 0 h rfl
 rw[e]
 have i1:bh 32 ((k++32::bL n)++0::c)=some k.length:=by rw[e2];exact iu h32
 unfold cX N6
 rw[te,te,i0,i1]
 have l1:k.length<=(k++32::bL n).length:=by rw[Wk];exact WA _ _
 show(bif decide (((k++32::bL n).length:Int)<0)||(decide ((k.length:Int)<0)||decide ((k.length:Int)>((k++32::bL n).length:Int)))then none else _)=_
 rw[nB,nB,decide_eq_false (Y7.mpr (X2.mpr l1))]
 have c1:bY ((k++32::bL n)++0::c) none (some (k.length:Int))=k:=by rw[eP,e2,Y4]
 have c2:bY ((k++32::bL n)++0::c) (some ((k.length:Int)+1)) (some ((k++32::bL n).length:Int))=bL n:=by
  have:=gf (l:=(k++32::bL n)++0::c) (a:=k.length+1) (p:=(bL n).length)
  rw[show k.length+1+(bL n).length=(k++32::bL n).length by rw[Wk,WX,WV,Xd 1]]at this
  refine Eq.trans this ?_
  rw[e2,←Xl,Zo]
  exact Y4
 have c3:bY ((k++32::bL n)++0::c) (some (((k++32::bL n).length:Int)+1)) none=c:=by
  refine(dg (a:=(k++32::bL n).length+1)).trans ?_
  rw[←Xl,Zo];rfl
 rw[c1,c2,FO]
 unfold FY
 rw[hk]
 have lw:((n:Int)==(((k++32::bL n)++0::c).length:Int)-((k++32::bL n).length:Int)-1)=true:=by
  rw[Wk (as:=k++32::bL n),WX,hn]
  exact beq_iff_eq.mpr (by lia)
 refine Eq.trans (b:=bif !((n:Int)==(((k++32::bL n)++0::c).length:Int)-((k++32::bL n).length:Int)-1)then none else some (V.tup [.bytes k,.bytes (bY ((k++32::bL n)++0::c) (some (((k++32::bL n).length:Int)+1)) none)])) rfl ?_
 rw[lw,c3];rfl
noncomputable def Ob:List (List UInt8):=[[98,108,111,98],[116,114,101,101],[99,111,109,109,105,116],[116,97,103]]
theorem JI:∀k∈Ob,(et k=true∧k.length<=6)∧(0:UInt8)∉k∧(32:UInt8)∉k:=dD
noncomputable def Oc:List Nat:=[0,1,3,9,10,12]
theorem JJ:∀s∈Oc,s<=12:=dD
section
variable{g:Gl}{K:Frag}{n m i j k l a:Nat}{D C:Addr}{loc cap:List (Option V)}{P R S:V->Prop}{E F A B W r Cd:PT}{u v:V}{vs:List V}{T size:Nat}{h:AH}
theorem vE(hC:∀h X,Ev Cd X ⟨loc,h⟩ (.bool false))(y:SD D C l r loc R):SD D C l (ah (bA Cd A ai) r) loc R:=λ_ _ _ _ dk hT q=>hC _ _ _ (y _ _ _ _ dk hT q)
theorem dm(kn:Kn g K)(q:2<=n)(l:List (List UInt8))(h0:0<l.length)(d:l.length<1000000)(e:∀h X,Ev E X ⟨loc,h⟩ (.lst [.ref D,.lst (l.map .bytes)])):XD D C 1 (ak g n (.ref 476) E) loc λv=>∃b∈l,v=.bytes b:=
 (cj e (rH kn q (by rw[Wp];exact h0) (by rw[Wp];exact XN d dD))).imp λv p=>(WN.mp p).imp λb z=>⟨z.1,z.2.symm⟩
theorem yd(kn:Kn g K)(q:2<=n)(l:List Nat)(h0:0<l.length)(d:l.length<1000000)(e:∀h X,Ev E X ⟨loc,h⟩ (.lst [.ref D,.lst (l.map λm:Nat=>.int m)])):XD D C 1 (ak g n (.ref 476) E) loc λv=>∃b∈l,v=.int (b:Nat):=
 (cj e (rH kn q (by rw[Wp];exact h0) (by rw[Wp];exact XN d dD))).imp λv p=>(WN.mp p).imp λb z=>⟨z.1,z.2.symm⟩
theorem tB(b:List UInt8):eqT ((cX b).getD .none) ((cX b).getD .none)=some true:=by
 generalize e:cX b=q;cases q with
 |none=>rfl
 |some v=>
  obtain⟨x,y,rfl⟩:=Cc e
  show j1 none (ji 3) [.bytes x,.bytes y] [.bytes x,.bytes y]=_
  exact pU λv d=>by
   rcases Wo.mp d with rfl|d
   ·exact eq_bytes
   ·rw[WB.mp d];exact eq_bytes
theorem Mr(kn:Kn g K){k c o:List UInt8}{s:Nat}{v6 Y:Option V}(hs:s<=o.length)(U:o.length<=100000):SD D C 8 (fv g 6) [some (.ref D),some (.int size),some (.bytes k),some (.int s),some (.bytes c),some (.bytes o),v6,Y] λv=>v=.bool true:=λT h Q X dk hT q=>by
 refine xJ (λb:Nat×Option V×Option V×AH=>⟨[some (.ref D),some (.int size),some (.bytes k),some (.int s),some (.bytes c),some (.bytes o),b.2.1,b.2.2.1],b.2.2.2⟩) (λm _ b=>Drawn D C b.1 h b.2.2.2∧b.1+m*4<=T+8) (T,v6,Y,h) (nQ (N:=2) Iq dD) ⟨.rfl dk,Wr _⟩ (λ_ b i=>a6 (v:=.bool true) Iq (bc (q _ _ rfl (i.1.up i.2)))) λm x b i Qc J kr=>?_
 have Z:b.1+4<=T+8:=Wh (WD (by rw[aal];exact X5 _ _) _) i.2
 have H:((o.length:Int)-s+1)=((o.length-s+1:Nat):Int):=by rw[adK,Int.ofNat_sub hs];rfl
 refine Jv (cj (n:=6) (vs:=[.ref D,.bytes o,.int (o.length-s+1:Nat)]) (λh X=>ar Iq (ar Iq (ar (bq Iq (congrArg V.int H)) λ_ k=>k))) (D0 kn dD (XF _) (Wz (Ww (Wh (Y6 _ _) U)) dD) U)) (DS.rfl i.1.d) (Wh Z hT) λv L p z _=>?_
 obtain⟨w,rfl,hb⟩:=p
 have G:w.length<=900000:=Wh (Ad U hb) dD
 exact jf (dh (aG Iq (nN kn dD)) (aG Iq (z8 kn dD G)) (by
  show eqT (res L ((cX w).getD .none)) (res L ((cX w).getD .none))=_
  have e:=tB w
  revert e
  generalize z:cX w=I;cases I with
  |none=>exact λe=>e
  |some v=>obtain⟨x,y,rfl⟩:=Cc z;exact λe=>e)) rfl (J (b.1+4,_,_,L) ⟨⟨z.d,λa n m=>(z.f a n m).trans (i.1.f a n m)⟩,by rw[WV,Xd 4,←aal];exact i.2⟩)
theorem QD:gu size [98,108,111,98] b=some (.bytes b):=rfl
theorem JK(kn:Kn g K)(L:7<=n):Dr g n 524 D C (1+(1+((0+12*1)+8))) [.ref D,.int size] λv=>v=.bool true:=by
 refine dj (n:=6) kn kn.law_heads_right rfl L (iw (dm kn dD Ob dD dD λ_ _ _ k=>Wm (Wj rfl) k) (yd kn dD Oc dD dD λ_ _ _ k=>Wm (Wj rfl) k) ?_)
 rintro u v ⟨k,y,rfl⟩ ⟨s,hs,rfl⟩
 have y:=JI k y
 have d:=JJ s hs
 refine fj (P:=λv=>∃c,v=.bytes c∧c.length=s) (Qf (x9 (m:=12) (k:=1) (j:=0) (P:=λv=>∃c:UInt8,True∧v=.int (c.toNat:Nat)) (G:=λl=>l.length=s) dD (l5 (v:=.lst (eC 1 s 0)) (λh X=>nQ Iq (Wh d dD)) ⟨_,rfl,by rw[fS];exact d,fS s 0⟩) λa=>(cj (n:=6) (vs:=[.ref D,.bytes [0,97,32,49]]) (λ_ _ _ k=>k) (Ab kn dD dD dD)).imp λv p=>p.elim λc z=>⟨c,trivial,z.2⟩) ?_) ?_
 ·rintro v ⟨us,items,rfl,U,l2,p⟩
  obtain⟨l,rfl,_⟩:=all_map (f:=λc:UInt8=>V.int (c.toNat:Nat)) p
  refine⟨.bytes (FN (jg l)),⟨_,rfl,by rw[Wp,Wp,←l2,←U,Wp]⟩,λh Qv k=>?_⟩
  have:=iy (l:=jg l) (λx hx=>by obtain⟨c,_,rfl⟩:=WN.mp hx;exact c.toNat_lt) k
  unfold jg at this
  rw[XM]at this
  exact this
 rintro v ⟨c,rfl,hc⟩
 have ld:(bL s).length<=2:=by rw[Wp];exact xN (k:=1) (Wz d dD)
 have b:(k++[32]++bL s++[0]++c).length<=100:=by
  rw[Wk,Wk,Wk,Wk,hc]
  exact Wh (WH (WH (WH (WH y.1.2 (Wr 1)) ld) (Wr 1)) d) dD
 have e:=cB b
 have o:=cB e
 have t:100<=16777216:=dD
 have lo:s<=(k++[32]++bL s++[0]++c).length:=by rw[Wk,hc];exact X5 _ _
 have w:=Cm y.1.1 y.2.1 y.2.2 hc
 refine dR (v:=.bytes (k++[32]++bL s++[0]++c)) (λh X=>bl (bl (bl (bl Iq Iq (bt (cB o) t)) (aG (ar (l0 Iq λ_ k=>⟨DR (Wh d dD),k⟩) λ_ k=>k) (nL kn dD (Wh (xN (k:=1) (Wz d dD)) dD) (xM s))) (bt o t)) Iq (bt e t)) Iq (bt b t)) ?_
 refine vE (λh X=>nR (dh (aG Iq (rk kn dD (by rw[hc];exact Wh b dD))) Iq (by rw[hc];exact eq_bytes (n:=3))) (dh (aG Iq (nN kn dD)) (λ_ k=>Wm (Wj rfl) k) (by rw[w];have:=tB (k++[32]++bL s++[0]++c);rw[w]at this;exact this))) ?_
 have J:cS g 6 433 [.bytes [98,108,111,98],.bytes c,.int size] (some (.bytes c)):=λ{Q X h} q=>kU (size:=size) (kind:=[98,108,111,98]) kn dD (by rw[hc];exact Wh d dD) q
 refine vE (λh X=>nR (dh (aG Iq J) Iq (eq_bytes (n:=3))) (dh (aG Iq (nM kn dD (by rw[hc];exact Wh d dD))) Iq rfl)) ?_
 exact Mr kn lo (Wh b dD)
end
section
variable{g:Gl}{K:Frag}{n m i j k l a:Nat}{D C:Addr}{loc cap:List (Option V)}{P R S:V->Prop}{E F A B W r Cd:PT}{u v:V}{vs:List V}{T size:Nat}{h:AH}{X:St->Prop}{st:St}{x y:List Nat}
theorem Ms(h1:Ev A X st (.str x))(d:Ev B X st (.str y))(l:AK (x.length+y.length)):Ev (ao .Add A B) X st (.str (x++y)):=λ_ k=>h1 _ (d _ (Wm l k))
theorem S3(h1:Ev A X st (.str x))(d:Ev B X st (.int i))(l:i<=x.length):Ev (bb A (af .none) B) X st (.str (x.take i)):=λ_ k=>h1 _ (d _ ⟨0,i,.inl ⟨rfl,rfl⟩,.inr rfl,WI _,l,k⟩)
theorem Mt(h1:Ev A X st (.str x))(d:Ev B X st (.int i))(l:i<=x.length):Ev (bb A B (af .none)) X st (.str (x.drop i)):=λQ k=>h1 _ (d _ ⟨i,x.length,.inr rfl,.inl ⟨rfl,rfl⟩,l,Wr _,by
 show Q (.str ((x.drop i).take (x.length-i))) st
 rw[Zt (by rw[W7];exact Wr _)];exact k⟩)
theorem S4(h1:Ev A X st u)(q:Ev B X st v)(d:Ev E X st w):Ev (a7 (c8 (aa A (aa B (aa E ag))))) X st (.lst [u,v,w]):=λ_ k=>h1 _ (q _ (d _ (Wm (Wj rfl) k)))
theorem Mu(kn:Kn g K)(hb:b.length<=1000)(p:i<(cz b).length):SD D C 0 (gs g 3) [some (.ref D),some (.bytes b),some (.str (cz b)),some (.int i),v4,v5] λv=>v=.bool true:=λT h Q X dk hT q=>by
 have w:=g9 b
 have d:(cz b).length<=2000:=by rw[w];exact W9 2 hb
 have c:((cz b).take i).length<=2000:=by rw[Xr];exact Wh (YM _ _) d
 have l2:((cz b).drop (i+1)).length<=2000:=by rw[W7];exact Wh (Y6 _ _) d
 have f:∀{X v4},Ev (bb (ae 2) (af .none) (ae 3)) X ⟨[some (.ref D),some (.bytes b),some (.str (cz b)),some (.int i),v4,v5],h⟩ (.str ((cz b).take i)):=λ{X v4}=>S3 Iq Iq (Xy p)
 have J:∀{X v4},Ev (bb (ae 2) (ao .Add (ae 3) (af (.int 1))) (af .none)) X ⟨[some (.ref D),some (.bytes b),some (.str (cz b)),some (.int i),v4,v5],h⟩ (.str ((cz b).drop (i+1))):=λ{X v4}=>Mt Iq Iq p
 have eq:(cz b).take i++(cz b).drop (i+1)=(cz b).eraseIdx i:=(ac3 ..).symm
 refine ea (e:=V.str) (l:=[(cz b).take i++(cz b).drop (i+1),(cz b).take i++[103]++(cz b).drop (i+1),cz b++[45]]) (λs:Option V×Option V=>⟨[some (.ref D),some (.bytes b),some (.str (cz b)),some (.int i),s.1,s.2],h⟩) (λl _=>∀s∈l,ef s=none∧s.length<=800000) (v4,v5) (S4 (Ms f J (Wh (WH c l2) dD)) (Ms (Ms f Iq (Wh (WE c 1) dD)) J (by rw[Wk];exact Wh (WH (WE c 1) l2) dD)) (Ms Iq Iq (Wh (WE d 1) dD))) ?_ (λs i=>a6 (v:=.bool true) Iq (bc (q _ _ rfl (.rfl dk)))) λs r z o H Y G=>?_
 ·obtain⟨m,L⟩:∃m,b.length=m+1:=by
   cases b with
   |nil=>exact absurd p (ab4 i)
   |cons a r=>exact⟨r.length,rfl⟩
  intro s hs
  rcases Wo.mp hs with rfl|hs
  ·refine⟨pK m _ ?_,by rw[Wk];exact Wh (WH c l2) dD⟩
   rw[eq,ZO p,w,L];rfl
  rcases Wo.mp hs with rfl|hs
  ·exact⟨Mq _ _ 103 (Wr _) (Yp _ (WW _ (.head _))) dD,by rw[Wk,Wk];exact Wh (WH (WE c 1) l2) dD⟩
  ·rw[WB.mp hs]
   exact⟨pK b.length _ (by rw[Wk,w];rfl),by rw[Wk];exact Wh (WE d 1) dD⟩
 ·have os:=o s (.head _)
  refine aZ Iq (Jb (o:=none) (λQ' Z q=>dI kn dD os.2 (by rw[os.1];exact q)) (jf (b:=false) (bJ Iq Iq λ_ k=>⟨trivial,k⟩) rfl (Y (_,_) λt U=>o t (.tail _ U))))
theorem Cn(h1:Ev A X st (.bool false))(q:Ev B X st (.bool false))(d:Ev F X st (.bool false)):Ev (cF A (cF B (cF F (af (.bool .false))))) X st (.bool false):=cg (a:=false) (b:=false) h1 λ_=>nR q d
theorem QE(kn:Kn g K)(f:4<=n)(hb:b.length<=1000)(h0:0<b.length):Dr g n 531 D C 1 [.ref D,.bytes b] λv=>v=.bool true:=by
 have c:b.length<=400000:=Wh hb dD
 have d:=g9 b
 have e:(bg b).length<=2000:=by rw[Wp,d];exact W9 2 hb
 have J:cS g 3 457 [.bytes (bg b)] (some (.str (cz b))):=λ{Q X h} q=>Cb kn dD (Wh e dD) (by rw[Ag];exact q)
 have z:(cz b).length<=800000:=by rw[d];exact Wh (W9 2 hb) dD
 have w:cS g 3 85 [.str (cz b)] (some (.bytes b)):=λ{Q X h} q=>dI kn dD z (by rw[JG];exact q)
 have p:cS g 3 85 [.str ((cz b).map X0)] (some (.bytes b)):=λ{Q X h} q=>dI kn dD (by rw[Wp];exact z) (by rw[QB];exact q)
 refine dj (n:=3) kn kn.law_hex_right rfl f (dR (v:=.str (cz b)) (λh X=>aG (ar (aG Iq (pT kn dD c)) λ_ k=>k) J) ?_)
 refine vE (λh X=>Cn (dh (aG Iq (zS kn dD c)) Iq (congrArg some (beq_self_eq_true (cz b)))) (dh (aG Iq w) Iq (eq_bytes (n:=3))) (dh (aG (ar (LX Iq rfl Iq λ_ k=>Wm JH k) λ_ k=>k) p) Iq (eq_bytes (n:=3)))) ?_
 refine fj (k:=1) (l:=0) (cj (vs:=[.ref D,.int (cz b).length]) (λ_ _ _ k=>k) (b7 kn dD (by rw[d];exact ado dD h0) (Wz z dD))) ?_
 rintro v ⟨i,o,rfl⟩
 exact Mu kn hb o
end
noncomputable def eA.t(p:eA):V:=.tup [.bytes p.m,.bytes p.e,.int p.w,.bytes p.z]
noncomputable def PN:List (List UInt8):=[[65],[65,110,110,32,66,46,32,67,101,101],[195,169],[]]
noncomputable def PE:List (List UInt8):=[[97,64,98],[120,32,121],[97,110,110,64,99,46,100]]
noncomputable def PW:List Nat:=[0,1,1234567890,1000000000000]
noncomputable def PZ:List (List UInt8):=[[43,48,48,48,48],[45,48,49,51,48],[43,49,50,52,53]]
noncomputable def l6:List eA:=PN.flatMap λm=>PE.flatMap λe=>PW.flatMap λw:Nat=>PZ.map λz=>⟨m,e,(w:Int),z⟩
noncomputable def S5(p:eA):Bool:=decide (0<=p.w)&&decide (p.w.natAbs<2^50)&&decide (p.oct.length<=50)
theorem Mv:∀p∈l6,S5 p=true:=dD
structure Od(p:eA):Prop where
 ok:p.OK
 l:p.oct.length<=50
 w:∃n:Nat,p.w=n∧n<10^16
theorem pW(h:p∈l6):Od p:=by
 have h:=aJ (Mv p h)
 have h1:=aJ h.1
 have e:=YU (of_decide_eq_true h1.1)
 have l:p.w.natAbs<2^50:=of_decide_eq_true h1.2
 refine⟨⟨of_decide_eq_true h1.1,?_,Wh (of_decide_eq_true h.2) dD⟩,of_decide_eq_true h.2,p.w.toNat,e.symm,?_⟩
 ·by_cases z:p.w.natAbs=0
  ·rw[z];decide
  ·exact XN ((afj z).mpr l) dD
 ·rw[←e,acT]at l;exact XN l dD
noncomputable def l7:List (List UInt8):=[[65,32,97,64,98,62,32,49,32,43,48,48,48,48],[65,32,60,97,64,98,32,49,32,43,48,48,48,48],[65,32,60,97,64,98,62,32,43,48,48,48,48],[65,32,60,97,64,98,62,32,120,32,43,48,48,48,48],[65,32,60,97,64,98,62,32,45,49,32,43,48,48,48,48],[65,32,60,97,64,98,62,32,48,49,32,43,48,48,48,48],[65,32,60,97,64,98,62,32,49,32,48,48,48,48],[65,32,60,97,64,98,62,32,49,32,43,48,48,48],[65,32,60,97,64,98,62,32,49,32,43,48,48,48,48,48],[65,32,60,97,64,98,62,32,49,32,43,48,97,48,48],[65,32,60,97,64,98,62,32,49],[65,32,60,97,0,98,62,32,49,32,43,48,48,48,48]]
noncomputable def dz(p:List UInt8)(i:Nat):List (List UInt8):=[p.take i++p.drop (i+1),p++[48],p.map Z0,p.take i++[103]++p.drop (i+1),[32]++p,[]]
section
variable{g:Gl}{K:Frag}{n m i j k l a:Nat}{D C c:Addr}{loc cap:List (Option V)}{P R S:V->Prop}{E F A B W r Cd:PT}{u v w:V}{vs:List V}{T size:Nat}{h:AH}{X:St->Prop}{st:St}{x y:List UInt8}{p:eA}
theorem JL{m e z:List UInt8}{w:Nat}(h1:m∈PN)(b:e∈PE)(d:w∈PW)(q:z∈PZ):(⟨m,e,w,z⟩:eA)∈l6:=
 Zm.mpr ⟨m,h1,Zm.mpr ⟨e,b,Zm.mpr ⟨w,d,X8 q⟩⟩⟩
theorem QF(b:∀h X,Ev A X ⟨loc,h⟩ u)(e:∀h X,Ev B X ⟨loc,h⟩ v)(o:∀h X,Ev F X ⟨loc,h⟩ z)(x:XD D C k E loc P)(s:∀w,P w->S (.tup [u,v,z,w])):XD D C k (c8 (aa A (aa B (aa F (aa E ag))))) loc S:=λ_ _ _ _ dk hT q=>
 b _ _ _ (e _ _ _ (o _ _ _ (x _ _ _ _ dk hT λw f p d=>Wm (Wj (.refl _)) (q _ f (s w p) d))))
theorem pX(kn:Kn g K)(b:3<=n):Dr g n 567 D C (1+(1+(1+1))) [.ref D] λv=>∃p∈l6,v=p.t:=by
 refine dj (n:=2) kn kn.law_person rfl b (iw (dm kn dD PN dD dD λ_ _ _ k=>Wm (Wj rfl) k) (dm kn dD PE dD dD λ_ _ _ k=>Wm (Wj rfl) k) ?_)
 rintro u v ⟨m,d,rfl⟩ ⟨e,f,rfl⟩
 refine fj (yd kn dD PW dD dD λ_ _ _ k=>Wm ⟨dD,dD,dD⟩ (Wm (Wj rfl) k)) ?_
 rintro v ⟨w,q,rfl⟩
 exact jG (QF (λ_ _ _ k=>k) (λ_ _ _ k=>k) (λ_ _ _ k=>k) (dm kn dD PZ dD dD λ_ _ _ k=>Wm (Wj rfl) k) λv p=>p.elim λz y=>⟨⟨m,e,w,z⟩,JL d f q y.1,by rw[y.2];rfl⟩)
theorem tC(h1:Ev A X st (.tup vs))(i:Nat)(e:vs[i]? = some v):Ev (aQ A (af (.int i))) X st v:=dy h1 Iq λ_ k=>Wm (WG i) (az e k)
theorem ye(kn:Kn g K)(G:2<=n)(ok:Od p):cS g n 574 [p.t] (some (.bytes p.oct)):=λ{Q X h} q=>by
 obtain⟨w,f,Z⟩:=ok.w
 refine((aH (n:=1) (kn.H 1) kn.law_person_row rfl ?_).call).up G
 have Y:p.oct=p.m++[32,60]++p.e++[62,32]++bL w++[32]++p.z:=by unfold eA.oct rC;rw[f];rfl
 have d:=ok.l
 rw[Y]at d q
 have J:=cB d
 have U:=cB J
 have o:=cB U
 have l2:=cB o
 have t:50<=16777216:=dD
 have L:=ok.ok.b
 rw[f]at L
 exact a6 (bl (bl (bl (bl (bl (bl (tC Iq 0 rfl) Iq (bt (cB l2) t)) (tC Iq 1 rfl) (bt l2 t)) Iq (bt o t)) (aG (ar (l0 (tC (v:=.int w) Iq 2 (by rw[f];rfl)) λ_ k=>⟨L,k⟩) λ_ k=>k) (nL kn dD (Wh (xN (k:=15) Z) dD) (xM w))) (bt U t)) Iq (bt J t)) (tC Iq 3 rfl) (bt d t)) (bc q)
theorem yf(kn:Kn g K)(d:1<=n):cS g n 581 [p.v] (some p.t):=λ{Q X h} q=>by
 refine((aH (n:=0) (kn.H 0) kn.law_parts rfl ?_).call).up d
 exact a6 (v:=p.t) (λ_ k=>Wm trivial (Wm trivial (Wm trivial (Wm trivial (Wm (Wj rfl) k))))) (bc q)
theorem Co(kn:Kn g K)(d:3<=n):cS g n 588 [p.t] (some p.v):=λ{Q X h} q=>by
 refine((aH (n:=2) (kn.H 2) kn.law_made rfl ?_).call).up d
 exact a6 (aG (ar (tC Iq 0 rfl) (ar (tC Iq 1 rfl) (ar (tC Iq 2 rfl) (ar (tC Iq 3 rfl) λ_ k=>k)))) (zW kn dD)) (bc q)
theorem gF(kn:Kn g K)(d:3<=n):Dr g n 595 D C 1 [.ref D] λv=>∃b∈l7,v=.bytes b:=
 dj (n:=2) kn kn.law_odd_person rfl d (dR (v:=.lst ((l7.take 5).map .bytes)) (λ_ _ _ k=>Wm (Wj rfl) k) (dR (v:=.lst ((l7.take 10).map .bytes)) (λ_ _ _ k=>Wm (Wj rfl) (Wm (Wj rfl) k)) (dR (v:=.lst (l7.map .bytes)) (λ_ _ _ k=>Wm (Wj rfl) (Wm (Wj rfl) k)) (jG (dm kn dD l7 dD dD λ_ _ _ k=>k)))))
end
section
variable{g:Gl}{K:Frag}{n m i j k l a:Nat}{D C c:Addr}{loc cap:List (Option V)}{P R S:V->Prop}{E F A B W r Cd:PT}{u v w:V}{vs ws:List V}{T size:Nat}{h:AH}{X:St->Prop}{st:St}{x y:List UInt8}{p:eA}
theorem uW(h1:Ev A X st (.lst vs))(h2:Ev B X st (.lst ws))(l:vs.length+ws.length<=1000000):Ev (ao .Add A B) X st (.lst (vs++ws)):=λ_ k=>h1 _ (h2 _ (Wm l k))
theorem S6(h1:Ev A X st (.bytes x))(h2:Ev B X st (.int i)):Ev (bb A (af .none) B) X st (.bytes (x.take i)):=λ_ k=>h1 _ (h2 _ (by rw[←eP]at k;exact k))
theorem Mw(h1:Ev A X st (.bytes x))(h2:Ev B X st (.int i)):Ev (bb A B (af .none)) X st (.bytes (x.drop i)):=λ_ k=>h1 _ (h2 _ (by rw[←dg]at k;exact k))
theorem D6(h1:Ev A X st (.lst vs))(h2:Ev B X st (.int i)):Ev (bb A (af .none) B) X st (.lst (vs.take i)):=λ_ k=>h1 _ (h2 _ (by rw[←eP]at k;exact k))
theorem gv(h1:Ev E X st (.lst vs))(l:vs.length<=1000000):Ev (bp E) X st (.lst vs):=λ_ k=>h1 _ (Wm l k)
theorem vF(kn:Kn g K)(hn:3<=n)(h0:0<o.length)(hl:o.length<=1000):Dr g n 602 D C (1+1) [.ref D,.bytes o] λv=>∃b,v=.bytes b∧∃i,i<(bg o).length∧b∈dz (bg o) i:=by
 have lx:(bg o).length=2*o.length:=by rw[Wp,g9]
 have lh:(bg o).length<=2000:=by rw[lx];exact W9 2 hl
 refine dj (n:=2) kn kn.law_odd_id rfl hn (dR (v:=.bytes (bg o)) (λh X=>aG Iq (pT kn dD (Wh hl dD))) (fj (cj (vs:=[.ref D,.int (bg o).length]) (λ_ _ _ k=>k) (b7 kn dD (by rw[lx];exact ado dD h0) (Wz lh dD))) ?_))
 rintro v ⟨i,hi,rfl⟩
 have l1:((bg o).take i).length<=2000:=by rw[Xr];exact Wh (YM _ _) lh
 have l2:((bg o).drop (i+1)).length<=2000:=by rw[W7];exact Wh (Y6 _ _) lh
 have e1:∀h (X:St->Prop),Ev (bb (ae 2) (af .none) (ae 3)) X ⟨[some (.ref D),some (.bytes o),some (.bytes (bg o)),some (.int i),none],h⟩ (.bytes ((bg o).take i)):=λh X=>S6 Iq λ_ k=>k
 have e2:∀h (X:St->Prop),Ev (bb (ae 2) (ao .Add (ae 3) (af (.int 1))) (af .none)) X ⟨[some (.ref D),some (.bytes o),some (.bytes (bg o)),some (.int i),none],h⟩ (.bytes ((bg o).drop (i+1))):=λh X=>Mw Iq λ_ k=>k
 refine dR (v:=.lst ((dz (bg o) i).map .bytes)) (λh X=>gv (ar (bl (e1 h X) (e2 h X) (Wh (WH l1 l2) dD)) (ar (bl Iq Iq (Wh (WE lh 1) dD)) (ar (kG Iq rfl Iq λ_ k=>k) (ar (bl (bl (e1 h X) Iq (Wh (WE l1 1) dD)) (e2 h X) (by rw[Wk];exact Wh (WH (WE l1 1) l2) dD)) (ar (bl Iq Iq (Wh (WD lh 1) dD)) (ar Iq λ_ k=>k)))))) (Wj rfl)) (jG ((dm kn dD (dz (bg o) i) (show 0<6 by decide) (show 6<1000000 by decide) λ_ _ _ k=>k).imp λv p=>p.elim λb z=>⟨b,z.2,i,hi,z.1⟩))
noncomputable def gG(a b c:List UInt8):List (List (List UInt8)):=[[b,c],[a,c],[a,b],[a,a,b,c],[a,b,b,c],[a,b,c,c],[b,a,c],[a,c,b],[c,b,a]]
theorem QG{a b c:List UInt8}(i:Nat)(h:i<3):([a,b,c].take i++[a,b,c].drop (i+1)∈gG a b c)∧([a,b,c].take (i+1)++[a,b,c].drop i∈gG a b c):=
 Vd h ⟨.head _,.tail _ (.tail _ (.tail _ (.head _)))⟩ ⟨.tail _ (.head _),.tail _ (.tail _ (.tail _ (.tail _ (.head _))))⟩ ⟨.tail _ (.tail _ (.head _)),.tail _ (.tail _ (.tail _ (.tail _ (.tail _ (.head _)))))⟩
theorem S7{xs:List (List UInt8)}{x:List UInt8}(h1:Ev A X st (.lst (xs.map .bytes)))(h2:Ev B X st (.int i))(e:xs[i]? = some x):Ev (aQ A B) X st (.bytes x):=B4 h1 h2 (by rw[YQ,e];rfl)
theorem JM{xs:List (List UInt8)}{x:List UInt8}{Q:St->Prop}(e:h c=some (.list (xs.map .bytes)))(l:i<xs.length)(k:Q ⟨loc,upd h c (some (.list ((xs.set i x).map .bytes)))⟩):Oy (.ref c) (.int i) (.bytes x) Q ⟨loc,h⟩:=az e (by
 show if(i:Int)=-1 then xs.map V.bytes≠[]∧Q ⟨loc,upd h c (some (.list ((xs.map V.bytes).set ((xs.map V.bytes).length-1) (.bytes x))))⟩else(0<=(i:Int)∧(i:Int)<(xs.map V.bytes).length)∧Q ⟨loc,upd h c (some (.list ((xs.map V.bytes).set i (.bytes x))))⟩
 rw[if_neg xU,←List.map_set,Wp]
 exact⟨⟨WG i,Xv.mpr l⟩,k⟩)
theorem yg{Q:V->AH->Prop}{X:AH->Prop}{xs:List (List UInt8)}{xi xj:List UInt8}{v0 v4 v5 v6:Option V}(hi:xs[i]? = some xi)(hj:xs[j]? = some xj)(ej:((i:Int)+1).fmod 3=j)(li:i<xs.length)(lj:j<xs.length)(key:∀c' h',h c'=none->h' c'=some (.list (((xs.set i xj).set j xi).map .bytes))->(∀z,z≠c'->h' z=h z)->Fin Q (.ref c') h'):jA g 1 (dE Q) (bz X) ⟨[v0,some (.lst (xs.map .bytes)),some (.int 3),some (.int i),v4,v5,v6],h⟩:=by
 refine aZ (v:=.int j) (λ_ k=>Wm (show(3:Int)≠0 by decide) (by rw[ej];exact k)) ?_
 refine qh (.inr λc' hc=>?_)
 refine zO (st':=⟨[v0,some (.lst (xs.map .bytes)),some (.int 3),some (.int i),v4,some (.int j),some (.ref c')],upd (upd (upd h c' (some (.list (xs.map .bytes)))) c' (some (.list ((xs.set i xj).map .bytes)))) c' (some (.list (((xs.set i xj).set j xi).map .bytes)))⟩) (λQc k=>?_) ?_
 ·refine S7 Iq Iq hj _ (S7 Iq Iq hi _ (Wm (Wj rfl) (Wm rfl ?_)))
  exact JM (aB _ _ _) li (JM (aB _ _ _) (by rw[aaK];exact lj) k)
 ·exact a6 Iq (key c' _ hc (aB _ _ _) λz n=>(aE n).trans ((aE n).trans (aE n)))
theorem vG(kn:Kn g K)(hn:2<=n){a b c:List UInt8}:Dr g n 609 D C (1+(1+0)) [.ref D,.lst ([a,b,c].map .bytes),.int 3] λv=>∃l∈gG a b c,v=.lst (l.map .bytes):=by
 refine dj (n:=1) kn kn.law_spoilt rfl hn (fj (cj (vs:=[.ref D,.int 3]) (λ_ _ _ k=>k) (b7 (below:=3) kn dD dD dD)) ?_)
 rintro v ⟨i,hi,rfl⟩
 refine fj (cj (vs:=[.ref D,.int 3]) (λ_ _ _ k=>k) (b7 (below:=3) kn dD dD dD)) ?_
 rintro v ⟨w,_,rfl⟩
 have sp:=QG (a:=a) (b:=b) (c:=c) i hi
 have lt:∀{k:Nat},(([a,b,c].map V.bytes).take k).length<=3:=λ{k}=>by rw[Xr];exact YM _ _
 have ld:∀{k:Nat},(([a,b,c].map V.bytes).drop k).length<=3:=λ{k}=>by rw[W7];exact Y6 _ _
 refine x7 (b:=(w:Int)==0) (λ_ _ _ k=>k) (λ_=>l5 (v:=.lst (([a,b,c].map V.bytes).take i++([a,b,c].map V.bytes).drop (i+1))) (λh X=>uW (D6 Iq λ_ k=>k) (td Iq λ_ k=>k) (Wh (WH lt ld) dD)) ⟨_,sp.1,by rw[WQ,abp,abq]⟩) λ_=>?_
 refine x7 (b:=(w:Int)==1) (λ_ _ _ k=>k) (λ_=>l5 (v:=.lst (([a,b,c].map V.bytes).take (i+1)++([a,b,c].map V.bytes).drop i)) (λh X=>uW (D6 Iq λ_ k=>k) (td Iq λ_ k=>k) (Wh (WH lt ld) dD)) ⟨_,sp.2,by rw[WQ,abp,abq]⟩) λ_=>λT h Q X dk hT q=>?_
 have key:∀l∈gG a b c,∀c' h',h c'=none->h' c'=some (.list (l.map .bytes))->(∀z,z≠c'->h' z=h z)->Fin Q (.ref c') h':=λl hl c' h' n e f=>by
  refine .fr c' _ e ?_
  show Fin Q (if c'=c' then .lst (l.map .bytes)else .ref c') _
  rw[if_pos rfl,show upd h' c' none=h from funext λz=>(Yt (z=c')).elim (λy=>by rw[y,aB,n]) λy=>(aE y).trans (f z y)]
  exact bc (q _ h ⟨l,hl,rfl⟩ (.rfl dk))
 unfold gG at key
 refine Vd hi ?_ ?_ ?_
 ·exact yg (xs:=[a,b,c]) (i:=0) (j:=1) rfl rfl dD (Wj rfl) (Wj rfl) (key [b,a,c] (.tail _ (.tail _ (.tail _ (.tail _ (.tail _ (.tail _ (.head _))))))))
 ·exact yg (xs:=[a,b,c]) (i:=1) (j:=2) rfl rfl dD (Wj rfl) (Wj rfl) (key [a,c,b] (.tail _ (.tail _ (.tail _ (.tail _ (.tail _ (.tail _ (.tail _ (.head _)))))))))
 ·exact yg (xs:=[a,b,c]) (i:=2) (j:=0) rfl rfl dD (Wj rfl) (Wj rfl) (key [c,b,a] (.tail _ (.tail _ (.tail _ (.tail _ (.tail _ (.tail _ (.tail _ (.tail _ (.head _))))))))))
end
theorem S8{P:V->Prop}{a b c d:V}(h1:P a)(f:P b)(q:P c)(z:P d):∀v∈[a,b,c,d],P v:=λv h=>by
 rcases Wo.mp h with rfl|h
 ·exact h1
 ·exact Qn f q z v h
theorem Cp{n:Nat}{p:eA}:ji (n+2) p.t p.t=some true:=Cg (S8 eq_bytes eq_bytes eq_int eq_bytes)
theorem S9{n:Nat}{l:List (List UInt8)}:ji (n+2) (.lst (l.map .bytes)) (.lst (l.map .bytes))=some true:=pV λv h=>by
 obtain⟨b,_,rfl⟩:=WN.mp h
 exact eq_bytes
theorem QH{n:Nat}{l:List Hd}:ji (n+3) (.lst (l.map Hd.t)) (.lst (l.map Hd.t))=some true:=pV λv h=>by
 obtain⟨b,_,rfl⟩:=WN.mp h
 exact Cg λv d=>by
  rcases Wo.mp d with rfl|d
  ·exact eq_bytes
  ·rw[WB.mp d];exact eq_bytes
noncomputable def cT:List UInt8:=[116,114,101,101,32]
noncomputable def cP:List UInt8:=[112,97,114,101,110,116,32]
noncomputable def cA:List UInt8:=[97,117,116,104,111,114,32]
noncomputable def cC:List UInt8:=[99,111,109,109,105,116,116,101,114,32]
noncomputable def cE:List UInt8:=[99,111,109,109,105,116]
noncomputable def dU.fix(c:dU):List (List UInt8):=[cT++bg c.tree,cA++c.au.oct,cC++c.co.oct]
noncomputable def dU.mid(c:dU):List (List UInt8):=c.par.map λo=>cP++bg o
noncomputable def jH(x:Hd):List UInt8:=x.k++[32]++aM [10,32] (aL 10 x.v)
noncomputable def dU.tl(c:dU):List (List UInt8):=c.ex.map jH
noncomputable def dU.txt(c:dU):List UInt8:=aM [10] (c.fix.take 1++c.mid++c.fix.drop 1++c.tl)++[10,10]++c.msg
structure Ai(size:Nat)(c:dU):Prop where
 t:eZ size c.tree
 p:∀o∈c.par,eZ size o
 pl:c.par.length<=2
 pa:c.au∈l6
 pc:c.co∈l6
 x:c.ex.length<=2∧∀a∈c.ex,a.v.length<=100∧a.k.length<=100
 m:c.msg.length<=100
 r:gi size c.txt=some c
 o:c.oct=c.txt
 l:c.txt.length<=1000
section
variable{g:Gl}{K:Frag}{n m i j k l a:Nat}{D C:Addr}{loc cap:List (Option V)}{P R S:V->Prop}{E F A B W r Cd:PT}{u v w:V}{vs ws:List V}{T size:Nat}{h:AH}{X:St->Prop}{st:St}{x y:List UInt8}{p:eA}{c:dU}{v13 v14:Option V}
theorem Mx{z:Type}{a b f:z->V}{l:List z}{is:List Nat}{It d:PT}(o:Ev It X st (.lst (l.map λx=>.tup [a x,b x])))(J:l.length<=1000000)(L:∀x∈l,Ev d uZ ⟨none::some (a x)::some (b x)::eJ is st.loc,st.h⟩ (f x)):Ev (a8 3 is (hZ (cL 2 [aj 1,aj 2]) j2 d) It) X st (.lst (l.map f)):=
 λ_ k=>o _ ⟨g6 J,NX (e:=λx=>.tup [a x,b x]) (λs=>∃x y,s=⟨none::x::y::eJ is st.loc,st.h⟩) f (λx hx s _ i q=>by obtain⟨u,w,rfl⟩:=i;exact Wm rfl (L x hx _ (q _ ⟨_,_,rfl⟩))) ⟨_,_,rfl⟩ λs i=>by obtain⟨u,w,rfl⟩:=i;exact k⟩
noncomputable abbrev F3(D:Addr)(size:Nat)(c:dU)(d v13 v14:Option V):List (Option V):=[some (.ref D),some (.int size),some (.bytes c.tree),some (.lst (c.par.map .bytes)),some c.au.t,some c.co.t,some (.lst (c.ex.map Hd.t)),some (.bytes c.msg),some (.lst (c.fix.map .bytes)),some (.lst (c.mid.map .bytes)),some (.lst (c.tl.map .bytes)),some (.bytes c.txt),d,v13,v14]
theorem D7(kn:Kn g K)(ok:Ai size c)(hs:size<=4)(d:3<=n):cS g n 355 [c.v] (some (.bytes c.txt)):=λ{Q X h} q=>
 rj kn d (pW ok.pa).ok (pW ok.pc).ok (by rw[ok.t.l];exact Wh hs dD) (λp hp=>by rw[(ok.p p hp).l];exact Wh hs dD) (λa ha=>Wh (ok.x.2 a ha).1 dD) (by rw[ok.o];exact Wh ok.l dD) (by
  rw[WX,Wk,WX,WX,Wk,Wp,Wp]
  exact Wh (Ww (WH ok.pl (Ww (Ww (WH ok.x.1 (Wr 1)))))) dD) (by rw[ok.o];exact q)
theorem F4(kn:Kn g K)(hs:size<=4)(ok:Ai size c)(y:SD D C l (bT g 6) (F3 D size c (some c.v) v13 v14) R):SD D C l (d7 g 6) (F3 D size c none v13 v14) R:=by
 refine dR (v:=tn size cE c.txt) (λh X=>aG Iq (nM kn dD (Wh ok.l dD))) ?_
 rw[show tn size cE c.txt=((gi size c.txt).map dU.v).getD T8 from rfl,ok.r]
 refine vE (λh X=>Cn (bJ Iq Iq λ_ k=>k) (dh (l4 Iq rfl Iq (D7 kn ok hs dD)) Iq (eq_bytes (n:=3))) (dh (gv (ar (λ_ k=>Wm trivial k) (ar (l0 (λ_ k=>Wm trivial k) λ_ k=>.inl k) (ar (λ_ k=>Wm trivial k) λ_ k=>k))) (Wj rfl)) (gv Iq (Wj rfl)) (pV (n:=3) (Qn eq_bytes S9 eq_bytes)))) ?_
 refine vE (λh X=>nR (dh (gv (ar (aG (ar (λ_ k=>Wm trivial k) λ_ k=>k) (yf kn dD)) (ar (aG (ar (λ_ k=>Wm trivial k) λ_ k=>k) (yf kn dD)) λ_ k=>k)) (Wj rfl)) (gv Iq (Wj rfl)) (pV (n:=3) λv d=>by
  rcases Wo.mp d with rfl|d
  ·exact Cp
  ·rw[WB.mp d];exact Cp)) (dh (ee (e:=Hd.t) (f:=Hd.t) (λ_ k=>Wm trivial k) (Wh ok.x.1 dD) λa ha _ k=>k) Iq (QH (n:=1)))) ?_
 exact vE (λh X=>dh (l4 (aG (ar Iq (ar Iq (ar (aG Iq (Co kn dD)) (ar (aG Iq (Co kn dD)) λ_ k=>k)))) (zX kn dD)) rfl Iq (D7 kn ok hs dD)) Iq (eq_bytes (n:=3))) y
end
noncomputable def Gw:Hd:=⟨[101,110,99,111,100,105,110,103],[108,97,116,105,110,49]⟩
noncomputable def QI:Hd:=⟨[110,111,116,101,45,120],[111,110,101,10,116,119,111,10,10,102,111,117,114]⟩
noncomputable def My:List (List Hd):=[[],[QI],[Gw],[Gw,QI]]
noncomputable def JN:List (List UInt8):=[[],[111,110,101,10],[111,110,101,10,10,116,119,111,32,116,104,114,101,101],[10],[97,10,98,10,10]]
theorem JO:∀l∈My,l.length<=2∧l.all (λx=>decide (x.v.length<=100)&&decide (x.k.length<=100)&&decide ((jH x).length<=100)&&decide ((aM [10,32] (aL 10 x.v)).length<=100))=true:=λl d=>by
 rcases Wo.mp d with rfl|d
 ·exact⟨WI _,rfl⟩
 rcases Wo.mp d with rfl|d
 ·exact⟨Wj rfl,by kernel_rfl⟩
 rcases Wo.mp d with rfl|d
 ·exact⟨Wj rfl,by kernel_rfl⟩
 rw[WB.mp d]
 exact⟨Wj rfl,by kernel_rfl⟩
structure pY(size:Nat)(c:dU):Prop where
 t:eZ size c.tree
 p:∀o∈c.par,eZ size o
 pl:c.par.length<=2
 pa:c.au∈l6
 pc:c.co∈l6
 x:c.ex∈My
 m:c.msg∈JN
section
variable{g:Gl}{K:Frag}{n m i j k l a:Nat}{D C:Addr}{loc cap:List (Option V)}{P R S:V->Prop}{E F A B W r Cd:PT}{u v w:V}{vs ws:List V}{T size:Nat}{h:AH}{X:St->Prop}{st:St}{x y:List UInt8}{p:eA}{c:dU}{v9 v10 v11 v12 v13 v14:Option V}
theorem iz(h:eZ size o)(hs:size<=4):o.length<=400000∧(bg o).length<=8:=by
 rw[h.l]
 refine⟨Wh hs dD,?_⟩
 rw[Wp,g9,h.l]
 exact W9 2 hs
theorem yh(kn:Kn g K)(q:1<=n){a o:List UInt8}(e:Ev E X st (.bytes o))(d:eZ size o)(hs:size<=4)(ha:a.length<=100):Ev (ao .Add (af (.bytes a)) (ak g n (.ref 481) (aa E ag))) X st (.bytes (a++bg o)):=
 bl Iq (aG (ar e λ_ k=>k) (pT kn q (iz d hs).1)) (Wh (WH ha (iz d hs).2) dD)
theorem Cq(kn:Kn g K)(d:2<=n){a:List UInt8}(e:Ev E X st p.t)(hp:p∈l6)(ha:a.length<=100):Ev (ao .Add (af (.bytes a)) (ak g n (.ref 574) (aa E ag))) X st (.bytes (a++p.oct)):=
 bl Iq (aG (ar e λ_ k=>k) (ye kn d (pW hp))) (Wh (WH ha (pW hp).l) dD)
theorem Mz(kn:Kn g K)(hs:size<=4)(d:pY size c)(ok:Ai size c)(y:SD D C l (bT g 6) (F3 D size c (some c.v) none none) R):SD D C l (cM g 6) [some (.ref D),some (.int size),some (.bytes c.tree),some (.lst (c.par.map .bytes)),some c.au.t,some c.co.t,some (.lst (c.ex.map Hd.t)),some (.bytes c.msg),none,none,none,none,none,none,none] R:=by
 have ex:=JO _ d.x
 have I:c.par.length<=1000000:=Wh d.pl dD
 refine dR (v:=.lst (c.fix.map .bytes)) (λh X=>gv (ar (yh kn dD Iq d.t hs (Wj rfl)) (ar (Cq kn dD Iq d.pa (Wj rfl)) (ar (Cq kn dD Iq d.pc (Wj rfl)) λ_ k=>k))) (Wj rfl)) ?_
 refine dR (v:=.lst (c.mid.map .bytes)) (λh X=>bq (ee (e:=.bytes) (f:=λo=>.bytes (cP++bg o)) Iq I λo Q=>yh kn dD Iq (d.p o Q) hs (Wj rfl)) (by unfold dU.mid;rw[XM];rfl)) ?_
 refine dR (v:=.lst (c.tl.map .bytes)) (λh X=>bq (Mx (a:=λx:Hd=>.bytes x.k) (b:=λx:Hd=>.bytes x.v) (f:=λx:Hd=>.bytes (jH x)) Iq (Wh ex.1 dD) λx hx=>?_) (by unfold dU.tl;rw[XM];rfl)) ?_
 ·have z:=aJ (W0.mp ex.2 x hx)
  have H:=aJ z.1
  have Y:=aJ H.1
  have G:(aM [10,32] (aL 10 x.v)).length<=100:=of_decide_eq_true z.2
  have Z:x.k.length<=100:=of_decide_eq_true Y.2
  have U:x.v.length<=100:=of_decide_eq_true Y.1
  exact bl (bl Iq Iq (Wh (WE Z 1) dD)) (kG Iq rfl Iq λ_ k=>Wm ⟨Wh (WH U (aaG 2 U)) dD,Wh G dD⟩ k) (by rw[Wk];exact Wh (WH (WE Z 1) G) dD)
 have J:=cB ok.l
 have q:(c.mid.map V.bytes).length<=2:=by unfold dU.mid;rw[Wp,Wp];exact d.pl
 have lt:(c.tl.map V.bytes).length<=2:=by unfold dU.tl;rw[Wp,Wp];exact ex.1
 have L:((c.fix.map V.bytes).take 1++c.mid.map V.bytes).length<=3:=by rw[Wk];exact WD q 1
 refine dR (v:=.bytes c.txt) (λh X=>bl (bl (fL Iq (bq (uW (uW (uW (D6 (i:=1) Iq λ_ k=>k) Iq ?_) (td (i:=1) Iq λ_ k=>k) ?_) Iq ?_) (by simp only[WQ,abp,abq])) (Wh (cB J) dD)) Iq (bt J dD)) Iq (bt ok.l dD)) (F4 kn hs ok y)
 ·exact Wh (WD q 1) dD
 ·exact Wh (WE L 2) dD
 ·rw[Wk];exact Wh (WH (WE L 2) lt) dD
noncomputable def Vt(l:List (List Hd))(v:V):Prop:=∃e∈l,v=.lst (e.map Hd.t)
theorem JP(kn:Kn g K)(d:1<=n){x:Hd}(e:∀h X,Ev A X ⟨loc,h⟩ (.lst [x.t]))(q:∀h X,Ev B X ⟨loc,h⟩ (.lst [.ref D,.int 2])):XD D C 1 (ao .Mult A (ak g n (.ref 469) B)) loc (Vt [[],[x]]):=
 tv e (cj q (b7 (below:=2) kn d dD dD)) λv p=>p.elim λk z=>z.2▸Vc z.1
  ⟨.lst [],⟨[],.head _,rfl⟩,λh Qv k=>Wm ⟨dD,dD,Wj rfl⟩ k⟩
  ⟨.lst [x.t],⟨[x],.tail _ (.head _),rfl⟩,λh Qv k=>Wm ⟨dD,dD,Wj rfl⟩ k⟩
theorem MA:∀a∈[[],[Gw]],∀b∈[[],[QI]],a++b∈My:=λa ha b hb=>by
 unfold My
 rcases Wo.mp ha with rfl|ha <;> rcases Wo.mp hb with rfl|hb
 ·exact .head _
 ·rw[WB.mp hb];exact .tail _ (.head _)
 ·rw[WB.mp ha];exact .tail _ (.tail _ (.head _))
 ·rw[WB.mp ha,WB.mp hb];exact .tail _ (.tail _ (.tail _ (.head _)))
theorem JQ{x:Hd}:∀a∈[([]:List Hd),[x]],a.length<=1:=λa ha=>by
 rcases Wo.mp ha with rfl|ha
 ·exact WI _
 ·rw[WB.mp ha];exact Wr _
theorem JR(kn:Kn g K)(h0:0<size)(hs:size<=4)(y:∀c,pY size c->SD D C l (cM g 6) [some (.ref D),some (.int size),some (.bytes c.tree),some (.lst (c.par.map .bytes)),some c.au.t,some c.co.t,some (.lst (c.ex.map Hd.t)),some (.bytes c.msg),none,none,none,none,none,none,none] R):SD D C (4+((1+2*4)+((1+(1+(1+1)))+((1+(1+(1+1)))+((1+1)+(1+l)))))) (fz g 6) [some (.ref D),some (.int size),none,none,none,none,none,none,none,none,none,none,none,none,none] R:=by
 refine iw (cj (vs:=[.ref D,.int size]) (λ_ _ _ k=>k) (tw kn dD h0 hs)) (x9 (m:=2) (G:=λl=>l.length<=2) (P:=λv=>∃b,eZ size b∧v=.bytes b) dD ((D4 (M:=2) dD (Af (below:=2) kn dD dD λ_ _ _ k=>k)).imp λv p=>p.elim λm z=>⟨_,z.2,by rw[fS];exact z.1,by rw[fS];exact z.1⟩) λa=>(cj (n:=6) (vs:=[.ref D,.int size]) (λ_ _ _ k=>k) (tw kn dD h0 hs)).imp λv p=>p.imp λb z=>⟨z.2,z.1⟩) ?_
 rintro u v ⟨tree,rfl,e⟩ ⟨us,items,rfl,d,l2,hp⟩
 obtain⟨par,rfl,J⟩:=all_map (f:=V.bytes) hp
 rw[Wp]at d
 refine iw (cj (vs:=[.ref D]) (λ_ _ _ k=>k) (pX kn dD)) (cj (vs:=[.ref D]) (λ_ _ _ k=>k) (pX kn dD)) ?_
 rintro u v ⟨au,ha,rfl⟩ ⟨co,hc,rfl⟩
 refine fj (P:=Vt My) (SU (JP (x:=Gw) kn dD (λ_ _ _ k=>Wm (Wj rfl) (Wm (Wj rfl) k)) λ_ _ _ k=>k) (JP (x:=QI) kn dD (λ_ _ _ k=>Wm (Wj rfl) (Wm (Wj rfl) k)) λ_ _ _ k=>k) ?_) ?_
 ·rintro u v ⟨a,h1,rfl⟩ ⟨b,q,rfl⟩
  exact⟨.lst ((a++b).map Hd.t),⟨_,MA a h1 b q,rfl⟩,λh Qv k=>by rw[WQ]at k;exact Wm (by rw[Wp,Wp];exact Wh (WH (JQ a h1) (JQ b q)) dD) k⟩
 rintro v ⟨ex,hx,rfl⟩
 refine fj (dm kn dD JN dD dD λ_ _ _ k=>Wm (Wj rfl) k) ?_
 rintro v ⟨msg,o,rfl⟩
 exact y ⟨tree,par,au,co,ex,msg⟩ ⟨e,J,d▸l2,ha,hc,hx,o⟩
end
structure CB(size:Nat)(kind b:List UInt8):Prop where
 l:b.length<=5000
 r:gu size kind b=none
section
variable{g:Gl}{K:Frag}{n m i j k l a:Nat}{D C c:Addr}{loc cap:List (Option V)}{P R S:V->Prop}{E F A B W r Cd:PT}{u v w:V}{vs ws:List V}{T size:Nat}{h h0:AH}{Q:V->St->Prop}{X:St->Prop}{st:St}{x y kind:List UInt8}{α:Type}{PB:α->Prop}{f:α->List (List UInt8)}{l2:List (List UInt8)}
theorem tD{pre:List UInt8}{PB:List UInt8->Prop}(x:XD D C k E loc λv=>∃b,PB b∧v=.bytes b)(d:∀b,PB b->AK (pre.length+b.length)):XD D C k (bp (aa (ao .Add (af (.bytes pre)) E) ag)) loc λv=>∃b,PB b∧v=.lst ([pre++b].map .bytes):=
 x8 (P:=λv=>∃b,PB b∧v=.bytes (pre++b)) (tv (λ_ _ _ k=>k) x λv p=>p.elim λb z=>⟨.bytes (pre++b),⟨b,z.1,rfl⟩,λh Qv k=>by rw[z.2];exact Wm (d b z.1) k⟩) λu p=>p.elim λb z=>⟨b,z.1,by rw[z.2];rfl⟩
theorem tE(x:XD D C k A loc λv=>∃b,PB b∧v=.lst ((f b).map .bytes))(e:∀h X,Ev B X ⟨loc,h⟩ (.lst (l2.map .bytes)))(d:∀b,PB b->(f b).length+l2.length<=1000):XD D C k (ao .Add A B) loc λv=>∃b,PB b∧v=.lst ((f b++l2).map .bytes):=
 Qg x e λu p=>p.elim λb z=>⟨.lst ((f b++l2).map .bytes),⟨b,z.1,rfl⟩,λh Qv k=>by rw[z.2];rw[WQ]at k;exact Wm (by rw[Wp,Wp];exact Wh (d b z.1) dD) k⟩
theorem pZ(e:∀h X,Ev A X ⟨loc,h⟩ (.lst (l2.map .bytes)))(x:XD D C k B loc λv=>∃b,PB b∧v=.lst ((f b).map .bytes))(d:∀b,PB b->l2.length+(f b).length<=1000):XD D C k (ao .Add A B) loc λv=>∃b,PB b∧v=.lst ((l2++f b).map .bytes):=
 tv e x λu p=>p.elim λb z=>⟨.lst ((l2++f b).map .bytes),⟨b,z.1,rfl⟩,λh Qv k=>by rw[z.2];rw[WQ]at k;exact Wm (by rw[Wp,Wp];exact Wh (d b z.1) dD) k⟩
theorem ew(x:XD D C k A loc λv=>∃b,PB b∧v=.lst ((f b).map .bytes))(e:∀h X,Ev F X ⟨loc,h⟩ (.bytes d))(L:∀b,PB b->CB size kind (aM [10] (f b)++d)):XD D C k (ao .Add (av g n bB (af (.bytes [10])) (aa A ag)) F) loc λv=>∃o,CB size kind o∧v=.bytes o:=λT h Q X dk hT q=>
 x _ _ _ _ dk hT λv U p z=>p.elim λb y=>by
  obtain⟨J,rfl⟩:=y
  have l:=(L b J).l
  refine az (dP (λx=>x) (f b)) ?_
  rw[Y0]
  exact Wm (Wh (cB l) dD) (e _ _ _ (Wm (bt l dD) (q _ U ⟨_,L b J,rfl⟩ z)))
theorem QJ(x:XD D C k E loc P)(hp:∀v,P v->∃us,v=.lst us):XD D C k (a7 E) loc P:=λ_ _ _ _ dk hT q=>x _ _ _ _ dk hT λv d p z=>(hp v p).elim λus e=>by
 subst e;exact q _ d p z
theorem QK(x:XD D C k E loc λv=>∃l:List α,v=.lst (l.map e)∧l.length<=1000∧∀a∈l,PB a)(hC:∀a,PB a->∀h,Ev o uZ ⟨none::some (e a)::eJ is loc,h⟩ (.bool false)):XD D C k (aC .Eq (a8 2 is (hZ (aj 1) o J) (a7 E)) (bp ag)) loc λv=>v=.bool true:=λ_ _ _ _ dk hT q=>x _ _ _ _ dk hT λv d p z=>p.elim λl y=>by
 obtain⟨rfl,b,hp⟩:=y
 exact Wm (g6 (Wh b dD)) (Dw (f:=λ_=>.none) (λ_=>false) (λs=>∃x,s=⟨none::x::eJ is loc,d⟩) (aj 1) (λa ha s i=>by
  obtain⟨x,rfl⟩:=i
  exact⟨⟨none::some (e a)::eJ is loc,d⟩,⟨_,.refl _⟩,λ_ q=>q,hC a (hp a ha) d,ff⟩) ⟨_,.refl _⟩ λs i=>by
   obtain⟨x,rfl⟩:=i
   rw[Zu.mpr λ_ _=>Xc]
   exact Wm (WI _) (q _ d rfl z))
theorem JS(x:XD D C k A loc P)(b:∀h X,Ev B X ⟨loc,h⟩ u)(o:∀h X,Ev E X ⟨loc,h⟩ w)(d:DS D C T h0 h)(hT:T+k<=1000000)(y:∀v q c,P v->nV D C h0 c->DS D C (T+k) h0 (upd q c (some (.list [v,u,w])))->r Q X ⟨loc.set i (some (.ref c)),upd q c (some (.list [v,u,w]))⟩):ah (aD (aj i) (gy (aa A (aa B (aa E ag))))) r Q X ⟨loc,h⟩:=
 x _ _ _ _ d.dk hT λv q p z=>b _ _ _ (o _ _ _ (Wm (Wj rfl) λc hc=>(d.draw z).fresh hc |> λmc=>y v q c p mc ((d.draw z).put mc)))
structure OL(D C c:Addr)(size:Nat)(kind:List UInt8)(T N:Nat)(h0:AH)(os:List (List UInt8))(h:AH):Prop where
 ds:DS D C T h0 h
 mc:nV D C h0 c
 c:h c=some (.list (os.map .bytes))
 a:∀o∈os,CB size kind o
 n:os.length<=N
 p:0<os.length
theorem iB{N:Nat}{os:List (List UInt8)}(x:XD D C k E loc λv=>∃o,CB size kind o∧v=.bytes o)(o:OL D C c size kind T N h0 os h)(hT:T+k<=1000000)(J:N<1000)(e:(loc[i]?).join=some (.ref c))(y:∀os d,OL D C c size kind (T+k) (N+1) h0 os d->r Q X ⟨loc,d⟩):ah (fY (av g n aK (ae i) (aa E ag))) r Q X ⟨loc,h⟩:=
 Jw x o.ds hT e o.c o.mc (by rw[Wp];exact Wz o.n (XN J dD)) λv d p z ds=>p.elim λb q=>by
  obtain⟨L,rfl⟩:=q
  refine y (os++[b]) _ ⟨ds,o.mc,by rw[WQ];exact aB _ _ _,λa ha=>?_,by rw[Wk];exact Ww o.n,by rw[Wk];exact XF _⟩
  rcases WO.mp ha with ha|ha
  ·exact o.a a ha
  ·rw[WB.mp ha];exact L
end
noncomputable def dU.end_(c:dU):List UInt8:=[10,10]++c.msg
noncomputable abbrev dU.T(c:dU):List UInt8:=cT++bg c.tree
noncomputable abbrev dU.A(c:dU):List UInt8:=cA++c.au.oct
noncomputable abbrev dU.C(c:dU):List UInt8:=cC++c.co.oct
structure Cr(size:Nat)(c:dU):Prop where
 o1:∀l∈gG c.T c.A c.C,CB size cE (aM [10] l++c.end_)
 o2:CB size cE (aM [10] [c.T,c.A,c.C])
 o2':CB size cE (aM [10] [c.T,c.A,c.C]++[10])
 o3:∀b,(∃i,i<(bg c.tree).length∧b∈dz (bg c.tree) i)->CB size cE (aM [10] ([cT++b]++[c.A,c.C])++c.end_)
 o4:∀b,(∃i,i<(bg c.tree).length∧b∈dz (bg c.tree) i)->CB size cE (aM [10] ([c.T]++c.mid++[cP++b]++[c.A,c.C])++c.end_)
 o5:∀b∈l7,CB size cE (aM [10] ([c.T]++[cA++b]++[c.C])++c.end_)
 o6:∀b∈l7,CB size cE (aM [10] ([c.T,c.A]++[cC++b])++c.end_)
 o7:CB size cE (aM [10] ([c.T,c.A]++[cP++bg c.tree]++[c.C])++c.end_)
 o8:∀b∈[c.T,c.A,c.C],CB size cE (aM [10] ([c.T,c.A,c.C]++[b])++c.end_)
 o9:CB size cE (aM [10] ([c.T,c.A,c.C]++[[32,109,111,114,101]])++c.end_)
 o10:CB size cE (aM [10] [c.T,c.A,c.C]++[10,10,97,0,98])
 o11:CB size cE []
 o12:CB size cE c.msg
theorem jW(h:b∈dz p i):b.length<=2*p.length+1:=by
 have q:(p.take i).length<=p.length:=by rw[Xr];exact YM _ _
 have l2:(p.drop (i+1)).length<=p.length:=by rw[W7];exact Y6 _ _
 unfold dz at h
 rcases Wo.mp h with rfl|h
 ·rw[Wk,acs];exact YA (WH q l2)
 rcases Wo.mp h with rfl|h
 ·rw[Wk,acs];exact Ww (WA _ _)
 rcases Wo.mp h with rfl|h
 ·rw[Wp,acs];exact YA (WA _ _)
 rcases Wo.mp h with rfl|h
 ·rw[Wk,Wk,acs];show _+1+_<=_;rw[X1];exact Ww (WH q l2)
 rcases Wo.mp h with rfl|h
 ·rw[acs];exact Ww (WA _ _)
 ·rw[WB.mp h];exact WI _
theorem jI:∀b∈l7,b.length<=30:=dD
section
variable{g:Gl}{K:Frag}{n m i j k l a:Nat}{D C d:Addr}{loc cap:List (Option V)}{P R S:V->Prop}{E F A B W r Cd:PT}{u v w:V}{vs ws:List V}{T size:Nat}{h h0:AH}{X:AH->Prop}{Q:V->AH->Prop}{st:St}{x y kind:List UInt8}{c:dU}{it:Option V}
theorem MB{os:List (List UInt8)}(kn:Kn g K)(J:2<=n){is:List Nat}(h0:0<os.length)(U:os.length<1000000)(Y:∀o∈os,CB size kind o)(e:∀a h X,Ev E X ⟨none::some a::eJ is loc,h⟩ (.lst [.ref D,.lst (os.map .bytes)])):XD D C (0+3*1) (a8 2 is (hZ (aj 1) j2 (ak g n (.ref 476) E)) (da (aa (af (.int 3)) ag))) loc λv=>∃l:List (List UInt8),v=.lst (l.map .bytes)∧l.length<=1000∧∀a∈l,CB size kind a:=
 (x9 (m:=3) (k:=1) (j:=0) (G:=λl=>l.length<=3) (P:=λv=>∃o,CB size kind o∧v=.bytes o) dD (l5 (v:=.lst (eC 1 3 0)) (λ_ _ _ k=>Wm ⟨dD,dD⟩ k) ⟨_,rfl,Wj rfl,Wj rfl⟩) λa=>(dm kn J os h0 U λh X=>e a h X).imp λv p=>p.imp λb z=>⟨Y b z.1,z.2⟩).imp λv p=>by
  obtain⟨us,items,rfl,q,l2,hp⟩:=p
  obtain⟨l,rfl,L⟩:=all_map (f:=V.bytes) hp
  rw[Wp]at q
  exact⟨l,rfl,q▸Wh l2 dD,L⟩
theorem qi(kn:Kn g K)(p:6<=n)(z:CB size kind b):cS g n 493 [.bytes kind,.bytes b,.int size] (some T8):=λ{Q X h} q=>nM kn p (Wh z.l dD) (by unfold tn;rw[z.r];exact q)
theorem Ta(x:XD D C k E loc λv=>v=.bool true)(ds:DS D C T h0 h)(hT:T+k<=1000000)(q:∀b,Drawn D C (T+k) h0 b->Q (.bool true) b):ah (aO E) r (dE Q) (bz X) ⟨loc,h⟩:=x _ _ _ _ ds.dk hT λv b p z=>Cj (ds.draw z) λf d2=>by rw[p];exact q f d2
theorem MC{os:List (List UInt8)}{z:Option V}(kn:Kn g K)(p:0<os.length)(L:os.length<1000000)(U:∀o∈os,CB size cE o)(ds:DS D C T h0 h)(hT:T+(0+3*1)<=1000000)(q:∀f,Drawn D C (T+(0+3*1)) h0 f->Q (.bool true) f):eE g 6 (dE Q) (bz X) ⟨F3 D size c it z (some (.lst (os.map .bytes))),h⟩:=
 Ta (QK (e:=V.bytes) (PB:=CB size cE) (MB (is:=[0,14]) kn dD p L U λ_ _ _ _ k=>k) λb J h=>dh (aG Iq (qi kn dD J)) Iq rfl) ds hT q
theorem JT{os ns:List (List UInt8)}{E:PT}{X:St->Prop}{c:Addr}(z:(loc[i]?).join=some (.ref c))(e:h c=some (.list (os.map .bytes)))(q:Ev E X ⟨loc,h⟩ (.lst (ns.map .bytes)))(l:os.length+ns.length<=1000000):Ev (ao .Add (ae i) E) X ⟨loc,h⟩ (.lst ((os++ns).map .bytes)):=λQ k=>az z (q _ (by
 show KL (.ref c) (.lst (ns.map .bytes)) h λv=>Q v ⟨loc,h⟩
 unfold KL
 rw[d8 e]
 refine Wm (by rw[Wp,Wp];exact l) ?_
 rw[WQ]at k
 exact k))
theorem jX{X:St->Prop}(xs:List (List UInt8))(i:Nat)(q:Ev A X st (.lst (xs.map .bytes))):Ev (bb A (af (.int i)) (af .none)) X st (.lst ((xs.drop i).map .bytes)):=by rw[abq];exact td q λ_ k=>k
theorem nX{X:St->Prop}(xs:List (List UInt8))(i:Nat)(q:Ev A X st (.lst (xs.map .bytes))):Ev (bb A (af .none) (af (.int i))) X st (.lst ((xs.take i).map .bytes)):=by rw[abp];exact D6 q λ_ k=>k
theorem QL(kn:Kn g K)(hs:size<=4)(ok:pY size c)(J:Cr size c):SD D C 12 (bT g 6) (F3 D size c it none none) λv=>v=.bool true:=λT h Q X dk hT q=>by
 have Z:∀{k},k<=12->T+k<=1000000:=λl=>Wh (WD l T) hT
 have lo:∀b,(∃i,i<(bg c.tree).length∧b∈dz (bg c.tree) i)->b.length<=17:=λb z=>z.elim λi z=>Wh (jW z.2) (Ww (W9 2 (iz ok.t hs).2))
 have t0:0<c.tree.length:=by
  have:=ok.t.h
  generalize h:c.tree=zz;cases zz with
  |nil=>rw[h]at this;cases this
  |cons=>exact XF _
 have tl:c.tree.length<=1000:=by rw[ok.t.l];exact Wh hs dD
 have el:∀h X,Ev (ae 13) X ⟨F3 D size c it (some (.bytes c.end_)) none,h⟩ (.bytes c.end_):=λ_ _ _ k=>k
 have lm:AK (2+c.msg.length):=bt (a:=[10,10]) (m:=5002) (by have:=J.o12.l;rw[Wk];exact WD this 2) dD
 refine aZ (v:=.bytes c.end_) (bl Iq Iq lm) ?_
 refine JS (u:=.bytes (aM [10] [c.T,c.A,c.C])) (w:=.bytes (aM [10] [c.T,c.A,c.C]++[10])) (ew (PB:=(·∈gG c.T c.A c.C)) (f:=λl=>l) (kind:=cE) (size:=size) ((cj (vs:=[.ref D,.lst ([c.T,c.A,c.C].map .bytes),.int 3]) (λ_ _ _ k=>k) (vG kn dD)).imp λv p=>p) (λ_ _ _ k=>k) J.o1) (λh X=>fL Iq Iq (Wh J.o2.l dD)) (λh X=>bl (fL Iq Iq (Wh J.o2.l dD)) Iq (bt J.o2'.l dD)) (.rfl dk) (Z dD) λv h1 c1 p mc ds=>?_
 obtain⟨o1,cb1,rfl⟩:=p
 have L:OL D C c1 size cE (T+(1+(1+0))) 3 h [o1,aM [10] [c.T,c.A,c.C],aM [10] [c.T,c.A,c.C]++[10]] (upd h1 c1 (some (.list [.bytes o1,.bytes (aM [10] [c.T,c.A,c.C]),.bytes (aM [10] [c.T,c.A,c.C]++[10])]))):=⟨ds,mc,aB _ _ _,λo U=>by
  rcases Wo.mp U with rfl|U
  ·exact cb1
  rcases Wo.mp U with rfl|U
  ·exact J.o2
  ·rw[WB.mp U];exact J.o2',Wr _,XF _⟩
 have H:∀{loc},(∀h (X:St->Prop),Ev (aa (ae 0) (aa (ae 2) ag)) X ⟨loc,h⟩ (.lst [.ref D,.bytes c.tree]))->XD D C (1+1) (ak g 6 (.ref 602) (aa (ae 0) (aa (ae 2) ag))) loc λv=>∃b,(∃i,i<(bg c.tree).length∧b∈dz (bg c.tree) i)∧v=.bytes b:=λe=>(cj e (vF kn dD t0 tl)).imp λv p=>p.imp λb z=>⟨z.2,z.1⟩
 have Y:c.mid.length<=2:=by unfold dU.mid;rw[Wp];exact ok.pl
 have I:∀{pre b:List UInt8},Zz pre.length 100=true->b.length<=30->AK (pre.length+b.length):=λh1 G=>Wh (WH (Wj h1) G) dD
 refine iB (N:=3) (ew (tE (l2:=[c.A,c.C]) (tD (pre:=cT) (H λ_ _ _ k=>k) λb z=>I rfl (Wh (lo b z) dD)) (λ_ _=>jX [c.T,c.A,c.C] 1 λ_ k=>k) λ_ _=>Wj rfl) (λ_ _ _ k=>k) J.o3) L (Z (k:=4) dD) dD rfl λos G L=>?_
 refine iB (N:=4) (ew (tE (l2:=[c.A,c.C]) (pZ (l2:=[c.T]++c.mid) (λ_ _=>bq (uW (nX [c.T,c.A,c.C] 1 λ_ k=>k) Iq ?_) (by rw[WQ];rfl)) (tD (pre:=cP) (H λ_ _ _ k=>k) λb z=>I rfl (Wh (lo b z) dD)) λ_ _=>?_) (λ_ _=>jX [c.T,c.A,c.C] 1 λ_ k=>k) λ_ _=>?_) (λ_ _ _ k=>k) J.o4) L (Z (k:=6) dD) dD rfl λos G L=>?_
 ·exact Wh (WD (by rw[Wp];exact Y) 1) dD
 ·rw[Wk];exact Wh (WE (WD Y 1) 1) dD
 ·rw[Wk,Wk];exact Wh (WE (WE (WD Y 1) 1) 2) dD
 refine iB (N:=5) (ew (tE (l2:=[c.C]) (pZ (l2:=[c.T]) (λ_ _=>nX [c.T,c.A,c.C] 1 λ_ k=>k) (tD (pre:=cA) (PB:=(·∈l7)) ((cj (vs:=[.ref D]) (λ_ _ _ k=>k) (gF kn dD)).imp λv p=>p) λb z=>I rfl (jI b z)) λ_ _=>Wj rfl) (λ_ _=>jX [c.T,c.A,c.C] 2 λ_ k=>k) λ_ _=>Wj rfl) (λ_ _ _ k=>k) J.o5) L (Z (k:=7) dD) dD rfl λos G L=>?_
 refine iB (N:=6) (ew (pZ (l2:=[c.T,c.A]) (λ_ _=>nX [c.T,c.A,c.C] 2 λ_ k=>k) (tD (pre:=cC) (PB:=(·∈l7)) ((cj (vs:=[.ref D]) (λ_ _ _ k=>k) (gF kn dD)).imp λv p=>p) λb z=>I rfl (jI b z)) λ_ _=>Wj rfl) (λ_ _ _ k=>k) J.o6) L (Z (k:=8) dD) dD rfl λos G L=>?_
 refine iB (N:=7) (ew (PB:=λ_:Unit=>True) (f:=λ_=>[c.T,c.A]++[cP++bg c.tree]++[c.C]) (l5 (v:=.lst (([c.T,c.A]++[cP++bg c.tree]++[c.C]).map .bytes)) (λh X=>bq (uW (uW (nX [c.T,c.A,c.C] 2 λ_ k=>k) (gv (ar (yh (n:=6) (a:=cP) kn dD Iq ok.t hs (Wj rfl)) λ_ k=>k) (Wj rfl)) (Wj rfl)) (jX [c.T,c.A,c.C] 2 λ_ k=>k) (Wj rfl)) rfl) ⟨(),trivial,rfl⟩) (λ_ _ _ k=>k) λ_ _=>J.o7) L (Z (k:=8) dD) dD rfl λos G L=>?_
 refine iB (N:=8) (ew (PB:=(·∈[c.T,c.A,c.C])) (f:=λb=>[c.T,c.A,c.C]++[b]) (pZ (l2:=[c.T,c.A,c.C]) (f:=λb=>[b]) (λ_ _ _ k=>k) (x8 (P:=λv=>∃b,b∈[c.T,c.A,c.C]∧v=.bytes b) (dm kn dD [c.T,c.A,c.C] (show 0<3 by decide) (show 3<1000000 by decide) λ_ _ _ k=>k) λu p=>p.elim λb z=>⟨b,z.1,by rw[z.2];rfl⟩) λ_ _=>Wj rfl) (λ_ _ _ k=>k) J.o8) L (Z (k:=9) dD) dD rfl λos G L=>?_
 refine aZ (v:=.lst ((os++[aM [10] ([c.T,c.A,c.C]++[[32,109,111,114,101]])++c.end_,aM [10] [c.T,c.A,c.C]++[10,10,97,0,98],[],c.msg]).map .bytes)) (JT rfl L.c (gv (ar (bl (fL Iq (bq (uW (vs:=[c.T,c.A,c.C].map .bytes) Iq (gv Iq (Wj rfl)) (Wj rfl)) rfl) (Wh (cB J.o9.l) dD)) Iq (bt J.o9.l dD)) (ar (bl (fL Iq Iq (Wh J.o2.l dD)) Iq (bt J.o10.l dD)) λ_ k=>k)) (Wj rfl)) (Wh (WE L.n 4) dD)) ?_
 refine MC (T:=T+(1+(1+0))+(1+1)+(1+1)+1+1+0+1) kn ?_ ?_ ?_ L.ds (Z (k:=12) dD) λh' d=>q _ h' rfl d
 ·rw[Wk];exact WK L.p (WA _ _)
 ·rw[Wk];exact Wz (WE L.n 4) dD
 ·intro o U
  rcases WO.mp U with U|U
  ·exact L.a o U
  rcases Wo.mp U with rfl|U
  ·exact J.o9
  rcases Wo.mp U with rfl|U
  ·exact J.o10
  rcases Wo.mp U with rfl|U
  ·exact J.o11
  ·rw[WB.mp U];exact J.o12
end
abbrev Oe(size:Nat):Prop:=∀c,pY size c->Ai size c∧Cr size c
theorem Cs{g:Gl}{K:Frag}{n size:Nat}{D C:Addr}(kn:Kn g K)(pc:Oe size)(z:7<=n)(h0:0<size)(hs:size<=4):Dr g n 614 D C (4+((1+2*4)+((1+(1+(1+1)))+((1+(1+(1+1)))+((1+1)+(1+12)))))) [.ref D,.int size] λv=>v=.bool true:=
 dj (n:=6) kn kn.law_commits_right rfl z (JR kn h0 hs λc q=>Mz kn hs q (pc c q).1 (QL kn hs q (pc c q).2))
noncomputable def T9:List UInt8:=[111,98,106,101,99,116,32]
noncomputable def Ua:List UInt8:=[116,121,112,101,32]
noncomputable def Vu:List UInt8:=[116,97,103,32]
noncomputable def Tb:List UInt8:=[116,97,103,103,101,114,32]
noncomputable abbrev Tg.O(t:Tg):List UInt8:=T9++bg t.goal
noncomputable abbrev Tg.K(t:Tg):List UInt8:=Ua++t.kind
noncomputable abbrev Tg.N(t:Tg):List UInt8:=Vu++t.name
noncomputable def Tg.by8(t:Tg):List (List UInt8):=Xa (motive:=λ_=>List (List UInt8)) t.by_ [] λp=>[Tb++p.oct]
noncomputable def Tg.txt(t:Tg):List UInt8:=aM [10] ([t.O,t.K,t.N]++t.by8)++[10,10]++t.msg
noncomputable def yi:List (List UInt8):=[[99,111,109,109,105,116],[116,114,101,101],[98,108,111,98],[116,97,103]]
noncomputable def yj:List (List UInt8):=[[118,49],[97,47,98]]
noncomputable def JU:List (List UInt8):=[[],[111,110,101,10],[111,110,101,10,10,116,119,111]]
noncomputable def JV:List (List UInt8):=[[116,104,105,110,103],[],[67,111,109,109,105,116]]
structure vH(size:Nat)(t:Tg):Prop where
 g:eZ size t.goal
 k:t.kind∈yi
 n:t.name∈yj
 b:∀p,t.by_=some p->p∈l6
 m:t.msg∈JU
 s:t.sig=[]
structure MD(size:Nat)(t:Tg):Prop where
 r:nJ size t.txt=some t
 o:t.oct=t.txt
 l:t.txt.length<=1000
section
variable{g:Gl}{K:Frag}{n m i j k l a:Nat}{D C d:Addr}{loc cap:List (Option V)}{P R S:V->Prop}{E F A B W r Cd:PT}{u v w:V}{vs ws:List V}{T size:Nat}{h h0:AH}{X:AH->Prop}{Q:V->St->Prop}{st:St}{x y kind:List UInt8}{t:Tg}{p:eA}{v9 v10 v11 v12 v13:Option V}
noncomputable abbrev Ct(D:Addr)(size:Nat)(t:Tg)(p:eA)(b v9 v10 v11 v12 v13:Option V):List (Option V):=[some (.ref D),some (.int size),some (.bytes t.goal),some (.bytes t.kind),some (.bytes t.name),some p.t,some (.bytes t.msg),some (.lst ([t.O,t.K,t.N].map .bytes)),b,v9,v10,v11,v12,v13]
theorem JW(kn:Kn g K)(lt:vH size t)(ok:MD size t)(hs:size<=4)(z:4<=n):cS g n 412 [t.v] (some (.bytes t.txt)):=λ{Q X h} q=>
 xX kn z (λp e=>(pW (lt.b p e)).ok) (by rw[lt.g.l];exact Wh hs dD) (by rw[ok.o];exact Wh ok.l dD) (by rw[ok.o];exact q)
theorem ME(kn:Kn g K)(hs:size<=4)(lt:vH size t)(ok:MD size t)(hp:p∈l6)(b:Bool)(hb:t.by_=bif b then some p else none)(k:∀v9 v10 v11 v12,Q .none ⟨Ct D size t p (some (.bool b)) v9 v10 v11 v12 v13,h⟩):dO g 6 Q (bz X) ⟨Ct D size t p (some (.bool b)) v9 v10 v11 v12 v13,h⟩:=by
 have f:t.by8=bif b then[Tb++p.oct]else[]:=by unfold Tg.by8;rw[hb];cases b <;> rfl
 have z:uS t.by_=bif b then p.v else .none:=by rw[hb];cases b <;> rfl
 have c:=cB ok.l
 refine aZ (v:=.lst (([t.O,t.K,t.N]++t.by8).map .bytes)) (bq (uW (ws:=t.by8.map .bytes) Iq (eb (x:=.lst [.bytes (Tb++p.oct)]) (y:=.int (if b then 1 else 0)) (gv (ar (Cq kn dD Iq hp (Wj rfl)) λ_ k=>k) (Wj rfl)) Iq λQv k=>?_) ?_) (congrArg V.lst (WQ).symm)) ?_
 ·rw[f]at k
  cases b with
  |true=>exact Wm ⟨dD,dD,Wj rfl⟩ k
  |false=>exact Wm ⟨dD,dD,Wj rfl⟩ k
 ·rw[f];cases b <;> exact Wj rfl
 have o:V.inst 415 [.bytes t.goal,.bytes t.kind,.bytes t.name,uS t.by_,.bytes t.msg,.bytes []]=t.v:=by unfold Tg.v;rw[lt.s]
 refine aZ (v:=.bytes t.txt) (bl (bl (fL Iq Iq (Wh (cB c) dD)) Iq (bt c dD)) Iq (bt ok.l dD)) ?_
 refine aZ (v:=t.v) (bq (aG Iq (nM (size:=size) kn dD (Wh ok.l dD))) (by unfold tn;rw[show gu size [116,97,103] t.txt=(nJ size t.txt).map Tg.v from rfl,ok.r];rfl)) ?_
 refine jf (Cn (bJ Iq Iq λ_ k=>k) (dh (l4 Iq rfl Iq (JW kn lt ok hs dD)) Iq (eq_bytes (n:=3))) (dh (gv (ar (λ_ k=>Wm trivial k) (ar (λ_ k=>Wm trivial k) (ar (λ_ k=>Wm trivial k) (ar (λ_ k=>Wm trivial k) λ_ k=>k)))) (Wj rfl)) (gv Iq (Wj rfl)) (pV (n:=3) (S8 eq_bytes eq_bytes eq_bytes eq_bytes)))) rfl ?_
 refine aZ (v:=uS t.by_) (by rw[z];exact kF (b:=b) (cW Iq) (λe=>by rw[e];exact aG Iq (Co kn dD)) λe=>by rw[e];exact λ_ k=>k) ?_
 refine jf (dh (l4 (us:=[.bytes t.goal,.bytes t.kind,.bytes t.name,uS t.by_,.bytes t.msg,.bytes t.sig]) (bq (aG Iq (PC kn dD)) o) rfl Iq (JW kn lt ok hs dD)) Iq (eq_bytes (n:=3))) rfl ?_
 have q:∀{X:St->Prop} {v9 v10 v12},Ev (aS (ae 11) cV) X ⟨Ct D size t p (some (.bool b)) v9 v10 (some t.v) v12 v13,h⟩ (uS t.by_):=λ{X v9 v10 v12} _ k=>Wm (z7 _) k
 rw[z]at q
 refine jf (b:=false) ?_ rfl (k _ _ _ _)
 cases b with
 |true=>exact nR (eH (a:=true) (b:=false) (cW Iq) λ_=>lZ (dh (aG (ar q λ_ k=>k) (yf kn dD)) Iq (Cp (n:=2)))) (eH (a:=false) (b:=false) (jC (a:=true) (cW Iq)) ff)
 |false=>exact nR (eH (a:=false) (b:=false) (cW Iq) ff) (eH (a:=true) (b:=false) (jC (a:=false) (cW Iq)) λ_=>lZ (bJ q Iq λ_ k=>⟨trivial,k⟩))
end
noncomputable abbrev eM:List UInt8:=[10,10,109]
structure JX(size:Nat)(t:Tg):Prop where
 o1:∀l∈gG t.O t.K t.N,CB size eh (aM [10] l++eM)
 o2:CB size eh (aM [10] [t.O,t.K,t.N])
 o2':CB size eh (aM [10] [t.O,t.K,t.N]++[10,10,109,0])
 o3:∀b,(∃i,i<(bg t.goal).length∧b∈dz (bg t.goal) i)->CB size eh (aM [10] ([T9++b]++[t.K,t.N])++eM)
 o4:∀b∈JV,CB size eh (aM [10] ([t.O]++[Ua++b]++[t.N])++eM)
 o5:∀b∈l7,CB size eh (aM [10] ([t.O,t.K,t.N]++[Tb++b])++eM)
theorem JY:∀b∈JV,b.length<=30:=dD
theorem Cu:∀b∈yi,b.length<=30:=dD
theorem Cv:∀b∈yj,b.length<=30:=dD
section
variable{g:Gl}{K:Frag}{n m i j k l a:Nat}{D C d:Addr}{loc cap:List (Option V)}{P R S:V->Prop}{E F A B W r Cd:PT}{u v w:V}{vs ws:List V}{T size:Nat}{h h0:AH}{X:AH->Prop}{Q:V->AH->Prop}{st:St}{x y kind:List UInt8}{t:Tg}{p:eA}{b8 v9 v10 v11 v12 v13:Option V}
theorem yk{Q:V->St->Prop}{X:St->Prop}{st:St}{a:Addr}(h1:Ev E X st (.lst vs))(hc:bW g n (.ref a) vs (λv h=>Q v ⟨st.loc,h⟩) (λh=>X ⟨st.loc,h⟩) st.h):ak g n (.ref a) E Q X st:=h1 _ hc
theorem MF{Q:V->St->Prop}{X:St->Prop}{st:St}(h1:Ev A X st u)(z:B (λb q=>gn u b q.h λv=>Q v q) X st):aQ A B Q X st:=h1 _ z
theorem MG{c:Addr}{Q:V->AH->Prop}{X:AH->Prop}(kn:Kn g K)(L:2<=n)(dk:cN D C T h)(hT:T+1<=1000000)(J:c≠D)(U:c≠C)(e:h c=some (.list vs))(h0:0<vs.length)(Y:vs.length<2^30)(q:∀v b,v∈vs->Drawn D C (T+1) h b->Q v b):bW g n (.ref 476) [.ref D,.ref c] Q X h:=by
 refine((aH (n:=1) (kn.H 1) kn.law_pick rfl ?_).call).up L
 refine Ja (MF Iq (yk (ar Iq (ar (l0 (v:=.int vs.length) Iq λ_ k=>by unfold c4;rw[d8 e];exact k) λ_ k=>k)) (b7 (below:=vs.length) kn (Wr 1) h0 Y T h _ _ dk hT λv b p z=>p.elim λk y=>?_)))
 obtain⟨o,rfl⟩:=y
 show gn (.ref c) (.int k) b _
 unfold gn
 rw[d8 ((z.f c J U).trans e)]
 show GI vs k _
 unfold GI
 rw[if_neg xU]
 exact Wm (WG k) (az (Xk o) (bc (q _ b (ZS o) z)))
theorem MH{b:Type}{PB:b->Prop}{e:b->V}{is:List Nat}{L o:PT}{Q:V->St->Prop}{X:St->Prop}(x:∀Q':V->St->Prop,(∀(l:List b) c,l.length<=1000->(∀a∈l,PB a)->Drawn D C (T+k) h c->Q' (.lst (l.map e)) ⟨loc,c⟩)->E Q' X ⟨loc,h⟩)(hC:∀a,PB a->∀h,Ev o uZ ⟨none::some (e a)::eJ is loc,h⟩ (.bool false))(q:∀c,Drawn D C (T+k) h c->Q (.bool true) ⟨loc,c⟩):aC .Eq (a8 2 is (hZ (aj 1) o L) (a7 E)) (bp ag) Q X ⟨loc,h⟩:=x _ λl c J hp z=>
 Wm (g6 (Wh J dD)) (Dw (f:=λ_=>.none) (λ_=>false) (λs=>∃x,s=⟨none::x::eJ is loc,c⟩) (aj 1) (λa ha s i=>by
  obtain⟨x,rfl⟩:=i
  exact⟨⟨none::some (e a)::eJ is loc,c⟩,⟨_,.refl _⟩,λ_ q=>q,hC a (hp a ha) c,ff⟩) ⟨_,.refl _⟩ λs i=>by
   obtain⟨x,rfl⟩:=i
   rw[Zu.mpr λ_ _=>Xc]
   exact Wm (WI _) (q c z))
theorem QM{Q':V->St->Prop}{os:List (List UInt8)}{c:Addr}{is:List Nat}{X:St->Prop}(kn:Kn g K)(Y:2<=n)(J:c≠D)(L:c≠C)(e:h c=some (.list (os.map .bytes)))(h0:0<os.length)(G:os.length<1000000)(dk:cN D C T h)(hT:T+3*1<=1000000)(H:∀a h X,Ev E X ⟨none::some a::eJ is loc,h⟩ (.lst [.ref D,.ref c]))(q:∀(l:List (List UInt8)) o,l.length<=1000->(∀a∈l,a∈os)->Drawn D C (T+3*1) h o->Q' (.lst (l.map .bytes)) ⟨loc,o⟩):a8 2 is (hZ (aj 1) j2 (ak g n (.ref 476) E)) (da (aa (af (.int 3)) ag)) Q' X ⟨loc,h⟩:=
 Wm ⟨dD,dD⟩ (Wm (Wj rfl) (DZ (D:=D) (C:=C) (k:=1) (P:=λv=>∃b∈os,v=.bytes b) (I:=λh=>h c=some (.list (os.map .bytes))) (λ_ _ _ i d=>(d.f c J L).trans i) (λa T h Q X i dk hT q=>yk (H a h X) (MG kn Y dk hT J L i (by rw[Wp];exact h0) (by rw[Wp];exact XN G dD) λv o m z=>q v o ((WN.mp m).imp λb y=>⟨y.1,y.2.symm⟩) z)) [.int 0,.int 1,.int 2] [] none T h _ e dk hT λus x o l p z=>by
  obtain⟨U,rfl,Z⟩:=all_map (f:=V.bytes) p
  rw[Wp]at l
  exact q U o (l▸dD) Z z))
theorem QN(kn:Kn g K)(hs:size<=4)(ok:eZ size t.goal)(L:JX size t):SD D C 9 (dw g 6) (Ct D size t p b8 v9 v10 v11 v12 none) λv=>v=.bool true:=λT h Q X dk hT q=>by
 have Y:∀{k},k<=9->T+k<=1000000:=λl=>Wh (WD l T) hT
 have lo:∀b,(∃i,i<(bg t.goal).length∧b∈dz (bg t.goal) i)->b.length<=17:=λb z=>z.elim λi z=>Wh (jW z.2) (Ww (W9 2 (iz ok hs).2))
 have t0:0<t.goal.length:=by
  have:=ok.h
  generalize h:t.goal=zz;cases zz with
  |nil=>rw[h]at this;cases this
  |cons=>exact XF _
 have tl:t.goal.length<=1000:=by rw[ok.l];exact Wh hs dD
 refine JS (u:=.bytes (aM [10] [t.O,t.K,t.N])) (w:=.bytes (aM [10] [t.O,t.K,t.N]++[10,10,109,0])) (ew (PB:=(·∈gG t.O t.K t.N)) (f:=λl=>l) (kind:=eh) (size:=size) ((cj (vs:=[.ref D,.lst ([t.O,t.K,t.N].map .bytes),.int 3]) (λ_ _ _ k=>k) (vG kn dD)).imp λv p=>p) (λ_ _ _ k=>k) L.o1) (λh X=>fL Iq Iq (Wh L.o2.l dD)) (λh X=>bl (fL Iq Iq (Wh L.o2.l dD)) Iq (bt L.o2'.l dD)) (.rfl dk) (Y (k:=2) dD) λv h1 I p mc ds=>?_
 obtain⟨o1,G,rfl⟩:=p
 have J:OL D C I size eh (T+(1+(1+0))) 3 h [o1,aM [10] [t.O,t.K,t.N],aM [10] [t.O,t.K,t.N]++[10,10,109,0]] (upd h1 I (some (.list [.bytes o1,.bytes (aM [10] [t.O,t.K,t.N]),.bytes (aM [10] [t.O,t.K,t.N]++[10,10,109,0])]))):=⟨ds,mc,aB _ _ _,λo Z=>by
  rcases Wo.mp Z with rfl|Z
  ·exact G
  rcases Wo.mp Z with rfl|Z
  ·exact L.o2
  ·rw[WB.mp Z];exact L.o2',Wr _,XF _⟩
 have H:∀{pre b:List UInt8},Zz pre.length 100=true->b.length<=30->AK (pre.length+b.length):=λh1 U=>Wh (WH (Wj h1) U) dD
 refine iB (N:=3) (ew (tE (l2:=[t.K,t.N]) (tD (pre:=T9) ((cj (n:=6) (vs:=[.ref D,.bytes t.goal]) (λ_ _ _ k=>k) (vF kn dD t0 tl)).imp λv p=>p.imp λb z=>⟨z.2,z.1⟩) λb z=>H rfl (Wh (lo b z) dD)) (λ_ _=>jX [t.O,t.K,t.N] 1 λ_ k=>k) λ_ _=>Wj rfl) (λ_ _ _ k=>k) L.o3) J (Y (k:=4) dD) dD rfl λos U J=>?_
 refine iB (N:=4) (ew (tE (l2:=[t.N]) (pZ (l2:=[t.O]) (λ_ _=>nX [t.O,t.K,t.N] 1 λ_ k=>k) (tD (pre:=Ua) (PB:=(·∈JV)) (dm kn dD JV dD dD λ_ _ _ k=>Wm (Wj rfl) k) λb z=>H rfl (JY b z)) λ_ _=>Wj rfl) (λ_ _=>jX [t.O,t.K,t.N] 2 λ_ k=>k) λ_ _=>Wj rfl) (λ_ _ _ k=>k) L.o4) J (Y (k:=5) dD) dD rfl λos U J=>?_
 refine iB (N:=5) (ew (pZ (l2:=[t.O,t.K,t.N]) (λ_ _ _ k=>k) (tD (pre:=Tb) (PB:=(·∈l7)) ((cj (vs:=[.ref D]) (λ_ _ _ k=>k) (gF kn dD)).imp λv p=>p) λb z=>H rfl (jI b z)) λ_ _=>Wj rfl) (λ_ _ _ k=>k) L.o5) J (Y (k:=6) dD) dD rfl λos U J=>?_
 have n0:=J.p
 have ln:os.length<=6:=J.n
 refine Ja ?_
 refine MH (e:=V.bytes) (PB:=CB size eh) (k:=3*1) (λQ' q'=>?_) (λb cb h=>dh (aG Iq (qi kn dD cb)) Iq rfl) λh' z=>Cj (J.ds.draw z) λU d2=>q _ U rfl d2
 exact QM kn dD J.mc.d J.mc.c J.c n0 (Wz ln dD) J.ds.dk (Y (k:=9) dD) (λ_ _ _ _ k=>k) λl h' h1 U=>q' l h' h1 λa ha=>J.a a (U a ha)
end
abbrev JZ(size:Nat):Prop:=∀t,vH size t->MD size t∧JX size t
section
variable{g:Gl}{K:Frag}{n m i j k l a:Nat}{D C d:Addr}{loc cap:List (Option V)}{P R S:V->Prop}{E F A B W r Cd:PT}{u v w:V}{vs ws:List V}{T size:Nat}{h h0:AH}{X:AH->Prop}{Q:V->AH->Prop}{st:St}{x y kind:List UInt8}{t:Tg}{p:eA}{b8 v9 v10 v11 v12 v13:Option V}
theorem QO{Q:V->St->Prop}{X:St->Prop}{s:gH}{It:PT}(x:XD D C k It loc P)(dk:cN D C T h)(hT:T+k<=1000000)(y:∀v h1,P v->Drawn D C (T+k) h h1->iF v λvs=>fU s W vs (λf q=>br (isNone f) (r Q X q) (Q f q)) X ⟨loc,h1⟩):ah (dq s It W) r Q X ⟨loc,h⟩:=x _ _ _ _ dk hT y
theorem QP(kn:Kn g K)(hs:size<=4)(J:JZ size)(L:∀o,(∀p,o=some p->p∈l6)->vH size { t with by_:=o})(hp:p∈l6):SD D C (1+9) (fA g 6) (Ct D size t p none none none none none none) λv=>v=.bool true:=λT h Q X dk hT q=>by
 have U:XD D C 1 (a7 (bp (aa (aC .Eq (ak g 6 (.ref 469) (aa (ae 0) (aa (af (.int 2)) ag))) (af (.int 0))) ag))) (Ct D size t p none none none none none none) λv=>∃b,v=.lst [.bool b]:=
  QJ (x8 (P:=λv=>∃b,v=.bool b) (Ce (v:=.int 0) (cj (vs:=[.ref D,.int 2]) (λ_ _ _ k=>k) (b7 (below:=2) kn dD dD dD)) (λ_ _ _ k=>k) λu p=>p.elim λd z=>⟨(d:Int)==0,⟨_,rfl⟩,λh Qv k=>by rw[z.2];exact k⟩) λu p=>p.elim λb z=>⟨b,by rw[z]⟩) λv p=>p.elim λb z=>⟨_,z⟩
 refine QO U dk (dX hT).1 λv h1 Z d1=>Z.elim λb z=>?_
 subst z
 have lt:=L (bif b then some p else none) λG e=>by
  cases b with
  |true=>exact W4 e▸hp
  |false=>cases e
 refine(SA ?_:fU (aj 8) (dO g 6) [.bool b] (λf c=>br (isNone f) (dw g 6 (dE Q) (bz X) c) (dE Q f c)) (bz X) ⟨Ct D size t p none none none none none none,h1⟩)
 exact ME (t:={t with by_:=bif b then some p else none}) kn hs lt (J _ lt).1 hp b rfl λv9 v10 v11 v12=>QN (t:={t with by_:=bif b then some p else none}) kn hs lt.g (J _ lt).2 _ _ _ _ d1.d (dX hT).2 λv Y e d2=>q v Y e (d1.then_ d2)
theorem MI(kn:Kn g K)(f:JZ size)(q:7<=n)(h0:0<size)(hs:size<=4):Dr g n 619 D C (4+(1+(1+((1+(1+(1+1)))+(1+(1+9)))))) [.ref D,.int size] λv=>v=.bool true:=by
 refine dj (n:=6) kn kn.law_tags_right rfl q (iw (cj (vs:=[.ref D,.int size]) (λ_ _ _ k=>k) (tw kn dD h0 hs)) (dm kn dD yi dD dD λ_ _ _ k=>Wm (Wj rfl) k) ?_)
 rintro u v ⟨goal,rfl,hg⟩ ⟨kind,z,rfl⟩
 refine iw (dm kn dD yj dD dD λ_ _ _ k=>Wm (Wj rfl) k) (cj (vs:=[.ref D]) (λ_ _ _ k=>k) (pX kn dD)) ?_
 rintro u v ⟨name,q,rfl⟩ ⟨p,hp,rfl⟩
 refine fj (dm kn dD JU dD dD λ_ _ _ k=>Wm (Wj rfl) k) ?_
 rintro v ⟨msg,b,rfl⟩
 have e:=Cu kind z
 have c:=Cv name q
 refine dR (v:=.lst ([T9++bg goal,Ua++kind,Vu++name].map .bytes)) (λh X=>gv (ar (yh kn dD Iq hg hs (Wj rfl)) (ar (bl Iq Iq (Wh (WD e 5) dD)) (ar (bl Iq Iq (Wh (WD c 4) dD)) λ_ k=>k))) (Wj rfl)) ?_
 exact QP (t:=⟨goal,kind,name,none,msg,[]⟩) kn hs f (λo J=>⟨hg,z,q,J,b,rfl⟩) hp
end
noncomputable def E3(size:Nat):List a9:=[⟨33188,[97],(Xb size [1]).flatten⟩,⟨33188,[97,46,98],(Xb size [2]).flatten⟩,⟨16384,[97],(Xb size [3]).flatten⟩]
noncomputable def O3(size:Nat):List UInt8:=[49,48,48,54,52,52,32,97,0]++(Xb size [1]).flatten++[49,48,48,54,52,52,32,97,46,98,0]++(Xb size [2]).flatten++[52,48,48,48,48,32,97,0]++(Xb size [3]).flatten
structure tF(size:Nat):Prop where
 t:tA size
 c:Oe size
 g:JZ size
 r:eQ bD size (O3 size)=some (E3 size)
 f:Ae size (O3 size)
section
variable{g:Gl}{K:Frag}{n m i j k l a:Nat}{D C d:Addr}{loc cap:List (Option V)}{P R S:V->Prop}{E F A B W r Cd:PT}{u v w:V}{vs ws:List V}{T size:Nat}{h h0:AH}{X:AH->Prop}{Q:V->AH->Prop}{st:St}{x y kind:List UInt8}
theorem J0(x:XD D C k Cd loc λv=>v=.bool false)(y:SD D C l r loc R):SD D C (k+l) (ah (bA Cd A ai) r) loc R:=λ_ _ _ _ dk hT q=>x _ _ _ _ dk (dX hT).1 λv h1 p d1=>by
 subst p
 exact y _ _ _ _ d1.d (dX hT).2 λu c z d2=>q u c z (d1.then_ d2)
theorem tH(x:XD D C k E loc λv=>v=.bool true):XD D C k (gx (cu E)) loc λv=>v=.bool false:=λ_ _ _ _ dk hT q=>x _ _ _ _ dk hT λv h1 p d1=>by
 subst p
 exact q _ h1 rfl d1
theorem vI(x:XD D C k A loc λv=>v=.bool false)(y:XD D C l B loc λv=>v=.bool false):XD D C (k+l) (cF A B) loc λv=>v=.bool false:=λ_ _ _ _ dk hT q=>x _ _ _ _ dk (dX hT).1 λv h1 p d1=>by
 subst p
 exact y _ _ _ _ d1.d (dX hT).2 λu c z d2=>by
  subst z
  exact q _ c rfl (d1.then_ d2)
theorem J2(e:∀h X,Ev A X ⟨loc,h⟩ (.bool true))(y:XD D C l B loc λv=>v=.bool false):XD D C l (di A (di B (af (.bool .true)))) loc λv=>v=.bool false:=λ_ _ _ _ dk hT q=>e _ _ _ (y _ _ _ _ dk hT λu c z d2=>by
 subst z
 exact q _ c rfl d2)
theorem XD.le(x:XD D C k E loc P)(l:k<=z):XD D C z E loc P:=λT _ _ _ dk hT q=>x _ _ _ _ dk (Wh (WD l T) hT) λv h1 p d1=>q v h1 p (d1.up (WD l T))
theorem MJ(kn:Kn g K)(fc:uV g)(pc:tF size)(hs:size<=4):SD D C 0 (Du g 11) [v0,some (.ref D),some (.int size),Y,v4,v5] λv=>v=.bool true:=by
 have z:∀{h} {X:St->Prop} {loc:List (Option V)} (c:UInt8),Ev (ao .Mult (af (.bytes [c])) (ae 2)) X ⟨v0::some (.ref D)::some (.int size)::loc,h⟩ (.bytes (Xb size [c]).flatten):=λc _ k=>Wm ⟨WM _ _,Wj rfl,aa0 dD (WG size),X2.mpr (Wh hs dD)⟩ k
 have q:(O3 size).length<=1000:=pc.f.l
 have J:=cB q
 have U:=cB J
 have L:=cB U
 have l2:=cB L
 have t:1000<=16777216:=dD
 have p:∀{h} {X:St->Prop} {v5:Option V} (i:Nat) (e:a9),(E3 size)[i]? = some e->Ev (aQ (aQ (ae 4) (af (.int i))) (af (.int (2:Nat)))) X ⟨[v0,some (.ref D),some (.int size),Y,some (.lst ((E3 size).map a9.t)),v5],h⟩ (.bytes e.o):=λi e h=>tC (B4 (v:=e.t) Iq Iq (by rw[YQ,h];rfl)) 2 rfl
 refine dR (v:=.lst ((E3 size).map a9.t)) (λh X=>gv (ar (λQ k=>ar Iq (ar Iq (ar (z 1) λ_ k=>k)) _ (Wm (Wj rfl) k)) (ar (λQ k=>ar Iq (ar Iq (ar (z 2) λ_ k=>k)) _ (Wm (Wj rfl) k)) (ar (λQ k=>ar Iq (ar Iq (ar (z 3) λ_ k=>k)) _ (Wm (Wj rfl) k)) λ_ k=>k))) (Wj rfl)) ?_
 refine dR (v:=.bytes (O3 size)) (λh X=>bl (bl (bl (bl (bl Iq (p 0 _ rfl) (bt l2 t)) Iq (bt L t)) (p 1 _ rfl) (bt U t)) Iq (bt J t)) (p 2 _ rfl) (bt q t)) ?_
 refine jG (l5 (v:=.bool true) (λh X=>eH (a:=true) (b:=true) (N9 (aG Iq (tz kn dD (Wh q dD))) Iq (by rw[pc.r];exact yb)) λ_=>aG Iq (nU kn fc dD q pc.f.e pc.f.k)) rfl)
theorem QQ(kn:Kn g K)(pc:tF size)(h0:0<size)(hs:size<=4){O2:Nat}(q:O2<2){v0 v4 v5:Option V}:XD D C 40 (cF (di (aC .Eq (ae 3) (af (.int 0))) (di (gx (cu (ak g 11 (.ref 614) (aa (ae 1) (aa (ae 2) ag))))) (af (.bool .true)))) (cF (di (aC .Eq (ae 3) (af (.int 1))) (di (gx (cu (ak g 11 (.ref 619) (aa (ae 1) (aa (ae 2) ag))))) (af (.bool .true)))) (af (.bool .false)))) [v0,some (.ref D),some (.int size),some (.int O2),v4,v5] λv=>v=.bool false:=by
 match O2,q with
 |0,_=>exact XD.le (vI (J2 (λ_ _ _ k=>k) (tH (cj (vs:=[.ref D,.int size]) (λ_ _ _ k=>k) (Cs kn pc.c dD h0 hs)))) (l5 (v:=.bool false) (λ_ _=>fB (a:=false) (eH (a:=false) (b:=false) Iq ff)) rfl)) dD
 |1,_=>exact XD.le (vI (l5 (v:=.bool false) (λ_ _=>eH (a:=false) (b:=false) Iq ff) rfl) (vI (J2 (λ_ _ _ k=>k) (tH (cj (vs:=[.ref D,.int size]) (λ_ _ _ k=>k) (MI kn pc.g dD h0 hs)))) (l5 (λ_ _ _ k=>k) rfl))) dD
theorem MK(kn:Kn g K)(fc:uV g)(pc:∀s∈[2,2,4],tF s){v0:V}:∃k,SD D C k (Dv g 11) [some v0,some (.ref D),none,none,none,none] (λv=>v=.bool true)∧k<=1000:=by
 refine⟨1+((28+((1+(1+((0+12*1)+8)))+(((0+(4+0))+1)+0)))+(1+(40+0))),fj (yd kn dD [2,2,4] dD dD λ_ _ _ k=>Wm (Wj rfl) k) ?_,dD⟩
 rintro v ⟨size,z,rfl⟩
 have pc:=pc size z
 have q:0<size∧size<=4:=(by decide:∀s∈[2,2,4],0<s∧s<=4) size z
 refine J0 (vI (tH (cj (vs:=[.ref D,.int size]) (λ_ _ _ k=>k) (JD kn fc pc.t dD q.1 q.2))) (vI (tH (cj (vs:=[.ref D,.int size]) (λ_ _ _ k=>k) (JK kn dD))) (vI (tH (Mk (S:=λvs=>∃b,vs=[.ref D,.bytes b]∧eZ size b) (DX (R:=λvs=>∃b,vs=[.bytes b]∧eZ size b) (P:=(· = .ref D)) (l5 (λ_ _ _ k=>k) rfl) (DX (R:=(· = [])) (cj (vs:=[.ref D,.int size]) (λ_ _ _ k=>k) (tw kn dD q.1 q.2)) (SV rfl) λu vs p r=>?_) λu vs p r=>?_) λvs p=>?_)) (l5 (λ_ _ _ k=>k) rfl)))) ?_
 ·obtain⟨b,rfl,hb⟩:=p
  exact⟨b,by rw[r],hb⟩
 ·obtain⟨b,rfl,hb⟩:=r
  exact⟨b,by rw[p],hb⟩
 ·obtain⟨b,rfl,hb⟩:=p
  exact QE kn dD (by rw[hb.l];exact Wh q.2 dD) (by rw[hb.l];exact q.1)
 refine fj (cj (vs:=[.ref D,.int 2]) (λ_ _ _ k=>k) (b7 (below:=2) kn dD dD dD)) ?_
 rintro v ⟨O2,c,rfl⟩
 exact J0 (QQ kn pc q.1 q.2 c) (MJ kn fc pc q.2)
theorem bW.sub(c:bW g n f vs (λv o=>∃h1,Sub h1 o∧Q v h1) X h):bW g n f vs Q X h:=by
 unfold bW at *
 exact λl p R b=>be (c l p R b) (λx J u=>u.casesOn λR q=>q.2.elim λh1 z=>⟨R.forget z.1,q.1,z.2⟩) λ_ _ e=>e
theorem Tc(kn:Kn g K)(fc:uV g)(pc:∀s∈[2,2,4],tF s){s:List Int}:NV g 11 (dE λv _=>v=.bool true) (bz X) ⟨[V.lst (s.map .int)].map some++Xb (sV.names.length-sV.params.length) none,h⟩:=by
 refine qh (yk Iq (Qd kn dD λD C z p b dk fr=>?_))
 obtain⟨k,q,c⟩:=MK (D:=D) (C:=C) kn fc pc (v0:=.lst (s.map .int))
 exact q 0 z _ X dk (by rw[Xx];exact Wh c dD) λv f e d=>e
end
theorem J3:∀(l:List UInt8) (a:Int),kI (l++[c]) a=8*kI l a+(c.toNat:Nat)-48:=by
 intro q
 induction q with
 |nil=>
  intro _
  exact rfl
 |cons d l y=>
  intro a
  exact y _
theorem J4:∀c∈IV,48<=c.toNat∧c.toNat<56:=dD
theorem J5:∀l:List UInt8,(∀c∈l,c∈IV)->∃v:Nat,kI l.reverse 0=v∧l=kH l.length v:=by
 intro q
 induction q with
 |nil=>
  intro _
  exact⟨0,rfl,rfl⟩
 |cons c l j=>
  intro h
  obtain⟨v,h1,y⟩:=j λd hd=>h d (.tail _ hd)
  have hc:=J4 c (h c (.head _))
  obtain⟨d,hd⟩:∃d,c.toNat=48+d:=⟨c.toNat-48,(acF hc.1).symm⟩
  have ld:d<8:=by have:=hc.2;rw[hd]at this;exact Nat.lt_of_add_lt_add_left this
  refine⟨8*v+d,?_,?_⟩
  ·rw[abm,J3,h1,hd];lia
  ·show c::l=((48+(8*v+d)%8).toUInt8)::kH l.length ((8*v+d)/8)
   rw(config:={}) [Nat.mul_add_mod,abE ld,Nat.mul_add_div dD,Nat.div_eq_of_lt ld,aeT,←y,←hd]
   exact congrArg (·::l) (BQ c).symm
theorem F5:∀m∈g7,∀L,L<7->bU (kH L m).reverse=some m->bD (kH L m).reverse=some m∧(kH L m).reverse=m8 m:=dD
theorem ML:∀p∈LM,bU p.1=some p.2:=dD
structure QR(b:List UInt8)(m:Nat):Prop where
 i:m∈g7
 l:bD b=some m
 e:b=m8 m
theorem D8(h:bU b=some m):QR b m:=by
 cases b with
 |nil=>cases h
 |cons c r=>
  have h0:=h
  rw[tb]at h
  generalize hb:nA c r=y;cases y with
  |true=>rw[hb]at h;cases h
  |false=>
   rw[hb]at h
   have h:(bif vy (kI (c::r) 0)then some (kI (c::r) 0).toNat else none)=some m:=h
   generalize j:vy (kI (c::r) 0)=y;cases y with
   |false=>rw[j]at h;cases h
   |true=>
    rw[j]at h
    obtain rfl:(kI (c::r) 0).toNat=m:=W4 h
    have z:=Ye.mp hb
    have p:=Ye.mp z.2
    have all:=W0.mp (nr z.1)
    have len:(c::r).length<7:=abn (X2.mp (Y7.mp (of_decide_eq_false p.2)))
    obtain⟨v,h1,i⟩:=J5 (c::r).reverse λd hd=>WU.mp (all d (aav.mp hd))
    rw[ae4]at h1
    rw[YC]at i
    have u:(kI (c::r) 0).toNat=v:=by rw[h1];rfl
    rw[u]at h0 ⊢
    have q:v∈g7:=by
     obtain⟨k,q,e⟩:=ZT.mp j
     have e:=eq_of_beq e
     rw[h1]at e
     exact YH e▸q
    have e:c::r=(kH (c::r).length v).reverse:=by rw[←i,ae4]
    have f:=F5 v q _ len (by rw[←e];exact h0)
    rw[←e]at f
    exact⟨q,f.1,f.2⟩
theorem MM:bD=bU:=funext λb=>by
 generalize h:bU b=d;cases d with
 |some m=>exact(D8 h).l
 |none=>
  generalize q:bD b=d;cases d with
  |none=>rfl
  |some m=>
   unfold bD at q
   obtain⟨p,hp,e⟩:=Yv.mp q
   have y:=List.find?_some hp
   have:=ML p (List.mem_of_find?_eq_some hp)
   rw[show p.1=b from of_decide_eq_true y,h]at this
   cases this
structure EP(size:Nat)(e:a9):Prop where
 m:e.m∈g7
 x:e.x≠[]
 z:(0:UInt8)∉e.x
 o:e.o.length=size
inductive Td(size:Nat)(s:List UInt8)(e:a9)(k:Nat):Prop
 |mk (r:List UInt8) (h:s=e.oct++r) (l:s.drop k=r) (ep:EP size e)
theorem QS(h:ri bU size s=some (e,k)):Td size s e k:=by
 generalize j:bh 32 s=d;cases d with
 |none=>rw[BV j]at h;cases h
 |some p=>
  generalize y:bU (s.take p)=d;cases d with
  |none=>rw[BX j y]at h;cases h
  |some m=>
   rw[BY j y]at h
   obtain⟨a,t,rfl,_,rfl⟩:=fR j
   have d1:(a++32::t).drop (a.length+1)=t:=by rw[←Xl,Zo];rfl
   rw[d1]at h
   generalize c:bh 0 t=d;cases d with
   |none=>rw[c]at h;cases h
   |some q=>
    rw[c]at h
    obtain⟨x,u,rfl,hx,rfl⟩:=fR c
    rw[Y4]at y
    have b:=D8 y
    have h:(bif decide ((x++0::u).length<x.length+1+size)then none else bif YB x.length 0 then none else some (⟨m,(x++0::u).take x.length,((x++0::u).drop (x.length+1)).take size⟩,a.length+1+(x.length+1)+size))=some (e,k):=h
    have d2:(x++0::u).drop (x.length+1)=u:=by rw[←Xl,Zo];rfl
    rw[Y4,d2]at h
    generalize b1:(decide ((x++0::u).length<x.length+1+size))=d;cases d with
    |true=>rw[b1]at h;cases h
    |false=>
     rw[b1]at h
     generalize b2:YB x.length 0=d;cases d with
     |true=>rw[b2]at h;cases h
     |false=>
      rw[b2]at h
      cases h
      have w:size<=u.length:=by
       have:=Xq.mp (of_decide_eq_false b1)
       rw[Wk,WX,WV,Xd 1]at this
       exact Yi (Nat.le_of_add_le_add_left this)
      refine⟨u.drop size,?_,?_,⟨b.i,λz=>?_,hx,?_⟩⟩
      ·unfold a9.oct
       rw[←b.e,Wx,YJ]
       simp only[Wx,Yq,aaJ]
      ·rw[←Xl,←Xl,d1,d2]
      ·rw[show x=[]from z]at b2;cases b2
      ·show(u.take size).length=size;rw[Xr];exact Z8 w
theorem J6:∀(f:Nat) (s:List UInt8) (es:List a9),s.length<=f->gh bU size f s=some es->s=cv es∧∀e∈es,EP size e:=by
 intro zi
 induction zi with
 |zero=>
  intro s es l h
  obtain rfl:=Xg (Y2 l)
  cases h
  exact⟨rfl,an⟩
 |succ f ih=>
  intro s es l h
  generalize e:s.isEmpty=zz;cases zz with
  |true=>
   rw[B0 e]at h
   cases h
   exact⟨Xj.mp e,an⟩
  |false=>
   rw[BZ e]at h
   generalize e1:ri bU size s=zz;cases zz with
   |none=>rw[e1]at h;cases h
   |some x=>
    rw[e1]at h
    obtain⟨a,k⟩:=x
    obtain⟨r,hs,hk,ep⟩:=QS e1
    have h:(gh bU size f (s.drop k)).map (a::·)=some es:=h
    rw[hk]at h
    obtain⟨l',h2,rfl⟩:=Yv.mp h
    have pos:0<a.oct.length:=by unfold a9.oct;simp only[Wk,aar];lia
    have lr:r.length<=f:=by rw[hs,Wk]at l;omega
    have ih:=ih r l' lr h2
    refine⟨by rw[hs,ih.1];rfl,λb hb=>?_⟩
    cases hb with
    |head=>exact ep
    |tail _ hb=>exact ih.2 b hb
noncomputable def yl(o:List UInt8):Bool:=!(o.all λc=>[0].contains c)
noncomputable def Pj(e:a9):Bool:=fK e.m&&(isNone (dQ e.x)&&yl e.o)
noncomputable def QT:List a9->DB->Option (List UInt8)->Bool
 | [],_,_=>true
 |e::r,l,a=>fK e.m&&(isNone (dQ e.x)&&(!known l e.x&&(!uN a e.key&&(yl e.o&&QT r (fF l e.x (.bool .true)) (some e.key)))))
theorem D9:(rh b v).isEmpty=!b:=by cases b <;> rfl
theorem Te:(bif b then[v]else rh d w).isEmpty=(!b&&!d):=by
 cases b with
 |true=>rfl
 |false=>exact D9
theorem rI(a b:List d):(a++b).isEmpty=(a.isEmpty&&b.isEmpty):=by cases a <;> rfl
theorem J7:∀l:List y,(l.find? p).isSome=l.any p:=by
 intro d
 induction d with
 |nil=>
  exact rfl
 |cons a l q=>
  rw[ZC,Y3]
  cases p a with
  |true=>rfl
  |false=>exact q
theorem J8:(s9 e l a d).isEmpty=((((d.isEmpty&&fK e.m)&&isNone (dQ e.x))&&(!known l e.x&&!uN a e.key))&&yl e.o):=by
 unfold s9 yl a9.key
 rw[rI,rI,rI,rI,D9,D9,D9,Te,aew,aew]
theorem J9:∀(q:List a9) (l:DB) (a:Option (List UInt8)) (d:List V),(fh q l a d).isEmpty=(d.isEmpty&&QT q l a):=by
 intro y
 induction y with
 |nil=>
  intro _ _ d
  exact(acG _).symm
 |cons e r j=>
  intro l a d
  show(fh r (fF l e.x (.bool .true)) (some e.key) (s9 e l a d)).isEmpty=_
  rw[j,J8]
  show _=(d.isEmpty&&(fK e.m&&(isNone (dQ e.x)&&(!known l e.x&&(!uN a e.key&&(yl e.o&&QT r (fF l e.x (.bool .true)) (some e.key)))))))
  rw[aa8,aa8,aa8,aa8,aa8]
theorem vJ:known l x=l.any λd=>decide (d.1=x):=by
 unfold known atKey
 rw[afg,J7]
theorem vK:known (fF l x v) y=(known l y||decide (x=y)):=by
 rw[vJ,vJ]
 unfold fF
 generalize h:(l.any λd=>decide (d.1=x))=zz;cases zz with
 |false=>rw[if_neg Xc,List.any_append];exact congrArg _ (ZD _)
 |true=>
  rw[if_pos rfl,List.any_map]
  have e:((λd:List UInt8×V=>decide (d.1=y))∘λd=>if d.1=x then(d.1,v)else d)=λd=>decide (d.1=y):=funext λd=>by
   show decide ((if d.1=x then(d.1,v)else d).1=y)=_
   by_cases q:d.1=x
   ·rw[if_pos q]
   ·rw[if_neg q]
  rw[e]
  by_cases q:x=y
  ·rw[←q,h];rfl
  ·rw[decide_eq_false q,ZD]
noncomputable def Tf:Option (List UInt8)->List (List UInt8)->Prop
 |_,[]=>True
 |a,k::r=>uN a k=false∧Tf (some k) r
structure Th(es:List a9)(l:DB)(a:Option (List UInt8)):Prop where
 o:∀e∈es,Pj e=true
 n:(es.map a9.x).Nodup
 k:∀e∈es,known l e.x=false
 c:Tf a (es.map a9.key)
theorem MN:∀(p:List a9) (l:DB) (a:Option (List UInt8)),QT p l a=true↔Th p l a:=by
 intro w
 induction w with
 |nil=>
  intro _ _
  exact⟨λ_=>⟨an,.nil,an,trivial⟩,λ_=>rfl⟩
 |cons e r d=>
  intro l a
  have d:=d (fF l e.x (.bool .true)) (some e.key)
  show(fK e.m&&(isNone (dQ e.x)&&(!known l e.x&&(!uN a e.key&&(yl e.o&&QT r (fF l e.x (.bool .true)) (some e.key))))))=true↔_
  constructor
  ·intro h
   have g:=aJ h
   have y:=aJ g.2
   have h1:=aJ y.2
   have j:=aJ h1.2
   have u:=aJ j.2
   have h:Pj e=true:=by unfold Pj;rw[g.1,y.1,u.1];rfl
   have f:=d.mp u.2
   have i:∀b∈r,known l b.x=false∧e.x≠b.x:=λb hb=>by
    have:=f.k b hb
    rw[vK]at this
    have:=Ye.mp this
    exact⟨this.1,of_decide_eq_false this.2⟩
   refine⟨λb hb=>?_,XT.mpr ⟨λz=>?_,f.n⟩,λb hb=>?_,cw j.1,f.c⟩
   ·cases hb with
    |head=>exact h
    |tail _ hb=>exact f.o b hb
   ·obtain⟨b,hb,q⟩:=WN.mp z
    exact(i b hb).2 q.symm
   ·cases hb with
    |head=>exact cw h1.1
    |tail _ hb=>exact(i b hb).1
  ·intro f
   have n:=XT.mp f.n
   have g:Th r (fF l e.x (.bool .true)) (some e.key):=⟨λb hb=>f.o b (.tail _ hb),n.2,λb hb=>by
    rw[vK,f.k b (.tail _ hb)]
    exact decide_eq_false λq=>n.1 (q▸X8 hb),f.c.2⟩
   have o:=aJ (f.o e (.head _))
   have o2:=aJ o.2
   rw[o.1,o2.1,o2.2,f.k e (.head _),show uN a e.key=false from f.c.1,d.mpr g];rfl
theorem Ea:uN (some y) k=!rx y k:=C9 k y
theorem QU:∀{ks:List (List UInt8)} {y:List UInt8},Tf (some y) ks->(y::ks).Pairwise λa b=>rx a b=true:=by
 intro j
 induction j with
 |nil=>
  intro y _
  exact aed _ _
 |cons k r d=>
  intro y h
  have h1:rx y k=true:=by have:=h.1;rw[Ea]at this;exact nr this
  have d:=d h.2
  refine acI.mpr ⟨λz q=>?_,d⟩
  rcases Wo.mp q with rfl|q
  ·exact h1
  ·exact oK h1 ((acI.mp d).1 z q)
theorem QV:∀{ks:List (List UInt8)} {y:List UInt8},(y::ks).Pairwise (λa b=>rx a b=true)->Tf (some y) ks:=by
 intro d
 induction d with
 |nil=>
  intro _ _
  exact trivial
 |cons k r q=>
  intro y h
  have h:=acI.mp h
  exact⟨by rw[Ea,h.1 k (.head _)];rfl,q h.2⟩
theorem Eb:Tf none ks↔ks.Pairwise λa b=>rx a b=true:=by
 cases ks with
 |nil=>exact⟨λ_=>.nil,λ_=>trivial⟩
 |cons k r=>exact⟨λh=>QU h.2,λh=>⟨rfl,QV h⟩⟩
theorem tI:decide (a4 x [c] 0≥0)=x.contains c:=by
 rw[te]
 generalize e:bh c x=d;cases d with
 |none=>rw[show x.contains c=false from YS.mpr λh=>FQ e (WU.mp h)];rfl
 |some i=>
  obtain⟨p,r,h,_,_⟩:=fR e
  rw[show x.contains c=true from WU.mpr (by rw[h];exact WW _ (.head _))]
  exact decide_eq_true (WG i)
theorem Ec(h:x≠[])(z:(0:UInt8)∉x):isNone (dQ x)=!rl x:=by
 have y:(x==[])=false:=beq_eq_false_iff_ne.mpr h
 have q:IP x [47,0]=x.contains 47:=by
  show(decide (a4 x [47] 0≥0)||(decide (a4 x [0] 0≥0)||false))=_
  rw[tI,tI,show x.contains 0=false from YS.mpr λh=>z (WU.mp h),ZD,ZD]
 unfold dQ rl
 rw[NZ y,q]
 generalize ([46]==x)=a
 generalize ([46,46]==x)=b
 generalize (x.map Z1==[46,103,105,116])=c
 generalize x.contains 47=d
 cases a with
 |true=>cases d <;> rfl
 |false=>cases b with
  |true=>cases d <;> rfl
  |false=>cases c <;> cases d <;> rfl
theorem Of(h:rl x=false):(47:UInt8)∉x:=λm=>by
 have:=(Ye.mp h).1
 rw[WU.mpr m]at this
 cases this
theorem MO{a b:a9}(ha:(47:UInt8)∉a.x)(hb:(47:UInt8)∉b.x)(h:a.key=b.key):a.x=b.x:=by
 unfold a9.key sY at h
 generalize q:((a.m:Int)==16384)=j;generalize d:((b.m:Int)==16384)=y;cases j <;> cases y <;> rw[q,d]at h
 ·exact h
 ·exact absurd (by rw[show a.x=b.x++[47]from h];exact WW _ (.head _)) ha
 ·exact absurd (by rw[←show a.x++[47]=b.x from h];exact WW _ (.head _)) hb
 ·exact List.append_cancel_right h
theorem Aj:∀m∈g7,fK (m:Int)=!(m==33204):=dD
theorem Ti(h:rx a b=true):wA a b:=mx.mpr (by
 generalize e:rx b a=d;cases d with
 |false=>rfl
 |true=>have:=oK h e;rw[Dc]at this;cases this)
theorem MP{size:Nat}{y:List a9}(q:∀e∈y,EP size e)(u:∀e∈y,yl e.o=true):QT y [] none=true↔SX y:=by
 rw[MN]
 constructor
 ·intro f
  have o:∀e∈y,rl e.x=false∧e.m≠33204:=λe d=>by
   have h:=aJ (f.o e d)
   have j:=(aJ h.2).1
   rw[Ec (q e d).x (q e d).z]at j
   refine⟨cw j,λz=>?_⟩
   have h1:=h.1
   rw[Aj _ (q e d).m,z]at h1
   cases h1
  exact⟨f.n,(Eb.mp f.c).imp Ti,λe d=>(o e d).1,λe d=>(o e d).2⟩
 ·intro f
  refine⟨λe d=>?_,f.nd,λe d=>rfl,Eb.mpr ?_⟩
  ·unfold Pj
   rw[Ec (q e d).x (q e d).z,f.no e d,Aj _ (q e d).m,u e d,beq_eq_false_iff_ne.mpr (f.md e d)];rfl
  ·have h1:=ZI.mp f.so
   have j:=ZI.mp f.nd
   refine ZI.mpr ((h1.and j).imp_of_mem λ{a b} ha hb h=>?_)
   generalize e:rx a.key b.key=i;cases i with
   |true=>rfl
   |false=>exact absurd (MO (Of (f.no a ha)) (Of (f.no b hb)) (wB e (mx.mp h.1))) h.2
noncomputable abbrev QW:List UInt8:=[110,111,116,104,105,110,103]
theorem Ka(h:e∈d):∃p r,cv d=p++(m8 e.m++[32]++e.x++[0]++e.o)++r:=by
 obtain⟨a,b,rfl⟩:=List.append_of_mem h
 exact⟨cv a,cv b,by unfold cv;rw(config:={}) [WQ,ZW,WZ,YR,Wx];rfl⟩
theorem Tj:∀d:List a9,2*d.length<=(cv d).length:=by
 intro q
 induction q with
 |nil=>
  exact Wr _
 |cons e r y=>
  have:=y
  show 2*(r.length+1)<=(e.oct++cv r).length
  rw[Wk]
  unfold a9.oct
  simp only[Wk,aar]
  lia
theorem Kb:∀m∈g7,s7 m:=λm h=>by
 rcases Wo.mp h with rfl|h
 ·exact .six ⟨dD,dD,dD,dD,dD,dD,rfl⟩ dD
 rcases Wo.mp h with rfl|h
 ·exact .six ⟨dD,dD,dD,dD,dD,dD,rfl⟩ dD
 rcases Wo.mp h with rfl|h
 ·exact .six ⟨dD,dD,dD,dD,dD,dD,rfl⟩ dD
 rcases Wo.mp h with rfl|h
 ·exact .five
 rcases Wo.mp h with rfl|h
 ·exact .six ⟨dD,dD,dD,dD,dD,dD,rfl⟩ dD
 rw[WB.mp h]
 exact .six ⟨dD,dD,dD,dD,dD,dD,rfl⟩ dD
theorem MQ:∀d:List a9,(d.map a9.x).Nodup->e∈d->d.find? (λa=>a.x==e.x)=some e:=by
 intro q
 induction q with
 |nil=>
  intros;contradiction
 |cons a r y=>
  intro n h
  have n:=XT.mp n
  rw[ZC]
  rcases Wo.mp h with rfl|h
  ·rw[beq_self_eq_true]
  ·rw[beq_eq_false_iff_ne.mpr λz:a.x=e.x=>n.1 (by rw[z];exact X8 h)]
   exact y n.2 h
theorem U0(hs:2<=size)(k:b.length<=100)(B:∀p r,b≠p++0::0::0::r)(no:∀p r,b≠p++QW++r):Ae size b:=by
 refine⟨Wh k dD,by rw[MM],λj h=>?_⟩
 obtain⟨hb,u⟩:=J6 _ b j (Wr _) h
 have le:=Tj j
 rw[←hb]at le
 have g:∀e∈j,yl e.o=true:=λe y=>by
  generalize h:yl e.o=w;cases w with
  |true=>rfl
  |false=>
   have i:=W0.mp (nr h)
   obtain⟨p,r,q⟩:=Ka y
   have lo:=(u e y).o
   match e.o,i,lo,q with
   | [],_,lo,_=>exact absurd hs (by rw[←show 0=size from lo];decide)
   | [_],_,lo,_=>exact absurd hs (by rw[←show 1=size from lo];decide)
   |c::d::o,i,_,q=>
    have D:=WB.mp (WU.mp (i c (.head _)))
    have a:=WB.mp (WU.mp (i d (.tail _ (.head _))))
    rw[D,a,←hb]at q
    exact absurd (q.trans (by simp only[Wx,Yq,aaJ])) (B (p++m8 e.m++[32]++e.x) (o++r))
 have fi:=MP u g
 have ff:(fh j [] none []).isEmpty=uU j:=by
  rw[J9]
  show QT j [] none=_
  rw[X4,fi]
  exact(@decide_eq_true_iff _ (Xe _)).symm
 refine⟨by omega,⟨hb.symm,λe y=>Kb _ (u e y).m,ff,λf e y=>?_,λf=>?_,by omega,λe y=>?_⟩⟩
 ·have f:=@of_decide_eq_true _ (Xe _) f
  unfold nz
  rw[MQ j f.nd y]
 ·unfold nz
  rw(config:={}) [List.find?_eq_none.mpr λe y z=>?_]
  obtain⟨p,r,q⟩:=Ka y
  rw[eq_of_beq z,←hb]at q
  exact no (p++m8 e.m++[32]) ([0]++e.o++r) (q.trans (by simp only[Wx]))
 ·have:=nu (X8 (f:=a9.oct) y)
  rw[show(j.map a9.oct).flatten=b from hb.symm]at this
  refine Wh (Wh ?_ this) (Wh k dD)
  unfold a9.oct
  simp only[Wk,aar]
  lia
section
noncomputable def r1(bad:UInt8->Bool):List UInt8->Nat
 | []=>0
 |c::r=>bif bad c then r1 bad r+1 else 0
noncomputable def r2(bad:UInt8->Bool):List UInt8->Nat
 | []=>1
 |c::r=>bif bad c then r2 bad r+1 else r1 bad r+1
noncomputable def Ak(bad:UInt8->Bool)(w:Nat):List UInt8->Bool
 | []=>true
 |c::r=>Zz (r1 bad (c::r)) w&&Ak bad w r
noncomputable def Cw(bad:UInt8->Bool)(w:Nat):List UInt8->Prop
 | []=>True
 |c::r=>r2 bad (c::r)<=w∧Cw bad w r
theorem Kc(c:UInt8)(r:List UInt8):r1 bad (c::r)<=r1 bad r+1:=by
 show(bif bad c then _ else _)<=_
 cases bad c with
 |true=>exact Wr _
 |false=>exact WI _
theorem Ub:∀r:List UInt8,r1 bad r+1<=r2 bad r:=by
 intro d
 induction d with
 |nil=>
  exact Wr _
 |cons c r q=>
  show(bif bad c then r1 bad r+1 else 0)+1<=bif bad c then r2 bad r+1 else r1 bad r+1
  cases bad c with
  |true=>exact Ww (q)
  |false=>exact Ww (WI _)
theorem Tn(c:UInt8)(r:List UInt8):r1 bad r+1<=r2 bad (c::r):=by
 show _<=bif bad c then r2 bad r+1 else r1 bad r+1
 cases bad c with
 |true=>exact YA (Ub r)
 |false=>exact Wr _
theorem QX(l:m1.length<=1):r1 bad r+1<=r2 bad (m1++r):=by
 cases m1 with
 |nil=>exact Ub r
 |cons c t=>
  rw[Xg (Nat.le_zero.mp (Yi l))]
  exact Tn c r
theorem QY(l:m2.length<=1):r1 bad (m2++r)<=r1 bad r+1:=by
 match m2,l with
 | [],_=>exact XC _
 | [c],_=>exact Kc c r
theorem QZ(q:m1.length<=1)(l2:m2.length<=1):∀p:List UInt8,r1 bad (p++(m2++r))<=r2 bad (p++(m1++r)):=by
 intro d
 induction d with
 |nil=>
  exact Wh (QY (m2:=m2) l2) (QX (m1:=m1) q)
 |cons c p y=>
  show(bif bad c then r1 bad (p++(m2++r))+1 else 0)<=bif bad c then r2 bad (p++(m1++r))+1 else _
  cases bad c with
  |true=>exact Ww (y)
  |false=>exact WI _
theorem Og:∀{r:List UInt8},Cw bad w r->Ak bad w r=true:=by
 intro d
 induction d with
 |nil=>
  intro _
  exact rfl
 |cons c r q=>
  intro h
  exact Yg.mpr ⟨aaD.mpr (Wh (Yk (Ub (c::r))) h.1),q h.2⟩
theorem Ed:∀{p r:List UInt8},Cw bad w (p++r)->Cw bad w r
 | [],_,h=>h
 |_::p,_,h=>Ed (p:=p) h.2
theorem Q0(d:1<=w):∀{r:List UInt8},Cw bad w r->r2 bad r<=w:=by
 intro q
 induction q with
 |nil=>
  intro _
  exact d
 |cons _ _ y=>
  intro h
  exact h.1
theorem Al(y:1<=w)(j:m1.length<=1)(l2:m2.length<=1):∀{p:List UInt8},Cw bad w (p++(m1++r))->Ak bad w (p++(m2++r))=true:=by
 intro i
 induction i with
 |nil=>
  intro h
  have q:=Ed (p:=m1) h
  match m2,l2 with
  | [],_=>exact Og q
  | [d],_=>exact Yg.mpr ⟨aaD.mpr (Wh (Kc d r) (Wh (Ub r) (Q0 y q))),Og q⟩
 |cons c p z=>
  intro h
  exact Yg.mpr ⟨aaD.mpr (Wh (QZ j l2 (c::p)) h.1),z h.2⟩
theorem Q2:∀{u:List UInt8},(u.all bad)=true->u.length<=r1 bad (u++y):=by
 intro d
 induction d with
 |nil=>
  intro _
  exact WI _
 |cons c u q=>
  intro h
  have h:=aJ h
  show u.length+1<=bif bad c then r1 bad (u++y)+1 else 0
  rw[h.1];exact Ww (q h.2)
theorem Cy(d:u.all bad=true)(h0:u≠[]):∀{x:List UInt8},Ak bad w (x++(u++y))=true->u.length<=w
 | [],h=>by
  have l:=Q2 (y:=y) d
  cases u with
  |nil=>exact absurd rfl h0
  |cons c u=>exact Wh l (aaD.mp (aJ h).1)
 |_::x,h=>Cy d h0 (x:=x) (aJ h).2
structure Jn(bad:UInt8->Bool)(w i j:Nat)(b:List UInt8):Prop where
 ha:r1 bad b<=i
 hb:r2 bad b<=j
 hc:Cw bad w b
theorem Jn.any(h:Jn bad w i j b)(y:i<=j):∀l:List UInt8,j+l.length<=w->Jn bad w (i+l.length) (j+l.length) (l++b)
 | [],_=>h
 |c::l,q=>by
  have d:=h.any y l (Yk q)
  have hb:r2 bad (c::(l++b))<=j+l.length+1:=by
   show(bif bad c then r2 bad (l++b)+1 else r1 bad (l++b)+1)<=_
   cases bad c with
   |true=>exact Ww d.hb
   |false=>exact Ww (Wh d.ha (WE y _))
  exact⟨Wh (Kc c _) (Ww d.ha),hb,Wh hb q,d.hc⟩
theorem Jn.good(h:Jn bad w i j b)(hc:bad c=false)(l:i+1<=w):Jn bad w 0 (i+1) (c::b):=by
 have q:r1 bad (c::b)=0:=by show(bif bad c then _ else _)=_;rw[hc];rfl
 have d:r2 bad (c::b)=r1 bad b+1:=by show(bif bad c then _ else _)=_;rw[hc];rfl
 exact⟨Xz q,by rw[d];exact Ww h.ha,by rw[d];exact Wh (Ww h.ha) l,h.hc⟩
theorem Jn.up(h:Jn bad w i j b)(d:i<=y)(l2:j<=q):Jn bad w y q b:=⟨Wh h.ha d,Wh h.hb l2,h.hc⟩
theorem Jn.goods(h:Jn bad w i j b)(l:i+1<=w):∀g:List UInt8,(∀c∈g,bad c=false)->2<=g.length->Jn bad w 0 1 (g++b)
 | [_],_,q=>absurd q (afi 1)
 | [c,d],hg,_=>(h.good (hg d (.tail _ (.head _))) l).good (hg c (.head _)) (Wh (Ww (WI i)) l)
 |c::d::e::g,hg,_=>(h.goods l (d::e::g) (λx hx=>hg x (.tail _ hx)) (Ww (Ww (WI _)))).good (hg c (.head _)) (Wh (Ww (WI i)) l)
end
noncomputable def Am(c:UInt8):Bool:=c==0
noncomputable def nY(c:UInt8):Bool:=QW.contains c
theorem rJ:∀m∈g7,(∀c∈m8 m,Am c=false∧nY c=false)∧2<=(m8 m).length:=dD
theorem Vv:Jn bad w 0 1 []:=⟨Wr _,Wr _,trivial⟩
theorem An(e:a9)(b:List UInt8):e.oct++b=m8 e.m++(32::(e.x++(0::(e.o++b)))):=by
 unfold a9.oct
 simp only[Wx,Yq,aaJ]
theorem MR(hs:2<=size)(le:eR size e)(h:Jn Am 2 0 1 b):Jn Am 2 0 1 (e.oct++b):=by
 rw[An]
 have nx:=jV _ le.x
 have h1:=h.goods dD e.o (λc hc=>beq_eq_false_iff_ne.mpr (le.o.z c hc)) (by rw[le.o.l];exact hs)
 have q:=h1.any dD [0] dD
 have j:Jn Am 2 0 2 (e.x++([0]++(e.o++b))):=by
  have hx:=nx.2.2
  match e.x,nx.2.1,hx with
  | [c],_,hx=>exact q.good (beq_eq_false_iff_ne.mpr (hx c (.head _))) dD
  |c::d::x,_,hx=>exact(q.goods dD (c::d::x) (λy i=>beq_eq_false_iff_ne.mpr (hx y i)) (Ww (Ww (WI _)))).up (Wr _) dD
 exact(j.good (c:=32) dD dD).goods dD (m8 e.m) (λc hc=>((rJ _ le.m).1 c hc).1) (rJ _ le.m).2
theorem MS(hs:size<=4)(le:eR size e)(h:Jn nY 6 0 1 b):Jn nY 6 0 1 (e.oct++b):=by
 rw[An]
 have nx:=jV _ le.x
 obtain⟨o,d⟩:∃o,e.o=171::o:=by
  have:=le.o.h
  generalize h:e.o=q;cases q with
  |nil=>rw[h]at this;cases this
  |cons c o=>rw[h]at this;exact⟨o,by rw[W4 this]⟩
 have lo:o.length<=3:=by
  have:=le.o.l
  rw[d]at this
  exact Yi (Wh (Xz this) hs)
 rw[d]
 have h1:Jn nY 6 3 4 (o++b):=(h.any dD o (Wh (WD lo 1) dD)).up (by rw[Xx];exact lo) (WD lo 1)
 have j:=h1.good (c:=171) dD dD
 have i:=j.good (c:=0) dD dD
 have y:Jn nY 6 4 5 (e.x++(0::171::(o++b))):=(i.any dD e.x (Wh (WD nx.1 1) dD)).up (by rw[Xx];exact nx.1) (WD nx.1 1)
 exact(y.good (c:=32) dD dD).goods dD (m8 e.m) (λc hc=>((rJ _ le.m).1 c hc).2) (rJ _ le.m).2
theorem Kd(hs:2<=size):∀d:List a9,(∀e∈d,eR size e)->Jn Am 2 0 1 (cv d):=by
 intro q
 induction q with
 |nil=>
  intro _
  exact Vv
 |cons e r y=>
  intro h
  exact MR hs (h e (.head _)) (y λa ha=>h a (.tail _ ha))
theorem Ke(hs:size<=4):∀d:List a9,(∀e∈d,eR size e)->Jn nY 6 0 1 (cv d):=by
 intro q
 induction q with
 |nil=>
  intro _
  exact Vv
 |cons e r y=>
  intro h
  exact MS hs (h e (.head _)) (y λa ha=>h a (.tail _ ha))
theorem Kf(hs:size<=4):∀d:List a9,(∀e∈d,eR size e)->(cv d).length<=16*d.length:=by
 intro q
 induction q with
 |nil=>
  intro _
  exact Wr _
 |cons e r y=>
  intro h
  show(e.oct++cv r).length<=16*(r.length+1)
  rw[Wk,ab0,Xd]
  exact WH (y λa ha=>h a (.tail _ ha)) (eR.len e (h e (.head _)) hs)
theorem Ao(hs:2<=size)(d:b.length<=100)(j:Ak Am 2 b=true)(q:Ak nY 6 b=true):Ae size b:=
 U0 hs d (λp r e=>absurd (Cy (bad:=Am) (w:=2) (u:=[0,0,0]) (y:=r) (x:=p) rfl (WM _ _) (by rw[←show b=p++([0,0,0]++r)from e];exact j)) dD) λp r e=>absurd (Cy (bad:=nY) (w:=6) (u:=QW) (y:=r) (x:=p) dD (WM _ _) (by rw[←Wx,←e];exact q)) dD
theorem MU(u:2<=size)(hs:size<=4):tA size:=λd q k b hb=>by
 have y:uT (cv d) b:=hb.elim (λe=>⟨[],[],[],cv d,rfl,e,WI _,WI _⟩) id
 have tl:(cv d).length<=48:=Wh (Kf hs d q) (W9 16 k)
 have i:=(Kd u d q).hc
 have z:=(Ke hs d q).hc
 have l:=Ac y
 obtain⟨p,m1,m2,r,m,c,j,l2⟩:=y
 rw[m]at i z
 exact Ao u (Wh l (Wh (Ww tl) dD)) (by rw[c];exact Al dD j l2 i) (by rw[c];exact Al dD j l2 z)
theorem To:∀s∈[2,2,4],((O3 s).length<=100∧Ak Am 2 (O3 s)=true∧Ak nY 6 (O3 s)=true):=dD
theorem ym:eQ bD 2 (O3 2)=some (E3 2)∧eQ bD 4 (O3 4)=some (E3 4):=⟨by kernel_rfl,by kernel_rfl⟩
noncomputable def bX(rs:List (List UInt8)):List UInt8:=(rs.map (·++[10])).flatten
theorem ey(r:List UInt8)(rs:List (List UInt8)):bX (r::rs)=r++10::bX rs:=by
 unfold bX
 rw[WZ,YR,Wx];rfl
theorem vL(a b:List (List UInt8)):bX (a++b)=bX a++bX b:=by unfold bX;rw[WQ,ZW]
theorem l8:∀{rs:List (List UInt8)},rs≠[]->aM [10] rs++[10]=bX rs:=by
 intro d
 induction d with
 |nil=>
  intro h
  exact absurd rfl h
 |cons a y q=>
  cases y with
  |nil=>
   intro _
   exact(ey a []).symm
  |cons b r=>
   intro _
   show a++[10]++aM [10] (b::r)++[10]=_
   rw[ey,Wx,q (WM b r),Wx];rfl
theorem nZ(h:rs≠[])(m:List UInt8):aM [10] rs++([10,10]++m)=bX rs++10::m:=by
 rw[←l8 h,Wx];rfl
noncomputable def cY:List (List UInt8)->List Hd->Option (List Hd)
 | [],d=>some d
 |r::rs,d=>(cZ r d).bind λq=>cY rs q
theorem jJ:cY (r::rs) q=(cZ r q).bind λd=>cY rs d:=rfl
theorem l9:∀{a b:List (List UInt8)} {q:List Hd},cY (a++b) q=(cY a q).bind λd=>cY b d
 | [],_,_=>rfl
 |r::a,b,q=>by
  show(cZ r q).bind (λd=>cY (a++b) d)=((cZ r q).bind λd=>cY a d).bind _
  cases cZ r q with
  |none=>rfl
  |some x=>exact l9 (a:=a)
structure kJ(r:List UInt8):Prop where
 ne:r≠[]
 n:(10:UInt8)∉r
 l:r.length<=100
theorem Cz(h:kJ r):b5 (f+1) (r++10::s) q=(cZ r q).bind λd=>b5 f s d:=by
 rw[nG (iu h.n) (by cases r with|nil=>exact absurd rfl h.ne|cons=>rfl),Y4,←Xl,Zo];rfl
theorem yn:∀{rs:List (List UInt8)} {d:List Hd},(∀r∈rs,kJ r)->b5 (rs.length+k) (bX rs++t) d=(cY rs d).bind λq=>b5 k t q:=by
 intro y
 induction y with
 |nil=>
  intro d _
  rw[Yh,Xx];rfl
 |cons r rs j=>
  intro d h
  rw[WX,X1,ey,Wx,Yq,Cz (h r (.head _)),jJ]
  cases cZ r d with
  |none=>rfl
  |some x=>exact j λa ha=>h a (.tail _ ha)
theorem F6:∀rs:List (List UInt8),rs.length<=(bX rs).length:=by
 intro d
 induction d with
 |nil=>
  exact Wr _
 |cons r rs q=>
  rw[ey,Wk,WX,WX]
  exact Wh (Ww (q)) (X5 _ _)
theorem Ap:∀{rs:List (List UInt8)},(∀r∈rs,kJ r)->(bX rs).length<=101*rs.length:=by
 intro d
 induction d with
 |nil=>
  intro _
  exact Wr _
 |cons r rs q=>
  intro h
  rw[ey,Wk,WX,WX,ab0,Xd,X1,WV]
  exact WH (q λa ha=>h a (.tail _ ha)) (Ww (h r (.head _)).l)
theorem Ee(b:List UInt8):cU b=bif b.contains 0 then none else b5 (b.length+1) b []:=by unfold cU;rw[tI]
theorem e5(h:∀r∈rs,kJ r):∃k,cU (bX rs++t)=bif (bX rs++t).contains 0 then none else(cY rs []).bind λd=>b5 (k+1) t d:=by
 have l:rs.length<=(bX rs++t).length:=by rw[Wk];exact Wh (F6 rs) (WA _ _)
 refine⟨(bX rs++t).length-rs.length,?_⟩
 rw[Ee,←yn h,←WV,acF l]
theorem Q3:b5 (k+1) (10::m) d=some ⟨d,m⟩:=rfl
theorem F7(h:(10:UInt8)∉t):b5 (k+1) t d=none:=nF (DJ h)
noncomputable def dY(x:Hd):List UInt8:=x.k++32::x.v
structure qj(x:Hd):Prop where
 r:kJ (dY x)
 k:x.k≠[]
 n:(32:UInt8)∉x.k
theorem p0(h:qj x):cZ (dY x) d=some (d++[x]):=by
 obtain⟨k,v⟩:=x
 unfold cZ
 have q:bh 32 (k++32::v)=some k.length:=iu h.n
 rw[q]
 cases k with
 |nil=>exact absurd rfl h.k
 |cons c k=>
  rw[show((c::k++32::v).take 1==[32])=false from beq_eq_false_iff_ne.mpr λe=>h.n (by rw[show c=32 from(Zr e).1];exact .head _)]
  show some (d++[⟨((c::k)++32::v).take (c::k).length,((c::k)++32::v).drop ((c::k).length+1)⟩])=_
  rw[Y4,←Xl,Zo];rfl
theorem gw:∀{hs:List Hd} {d:List Hd},(∀x∈hs,qj x)->cY (hs.map dY) d=some (d++hs):=by
 intro q
 induction q with
 |nil=>
  intro d _
  exact congrArg some (WT d).symm
 |cons x hs i=>
  intro d h
  rw[WZ,jJ,p0 (h x (.head _))]
  show cY (hs.map dY) (d++[x])=_
  rw[i λy j=>h y (.tail _ j),Wx];rfl
theorem p5{hs:List Hd}(h:∀x∈hs,qj x):∀r∈hs.map dY,kJ r:=λr d=>by
 obtain⟨x,hx,rfl⟩:=WN.mp d
 exact(h x hx).r
theorem Kg:bump (d++[a]) t=some (d++[⟨a.k,a.v++[10]++t⟩]):=by
 unfold bump
 rw[ae9,Wk]
 show some ((d++[a]).set (d.length+1-1) _)=_
 rw[Nat.add_sub_cancel,List.set_append_right _ _ (Wr _),abZ];rfl
theorem vM{d:Type}{f:Gv->Option d}{hs:List Hd}{m:List UInt8}(h0:hs≠[])(h:∀x∈hs,qj x)(e:f ⟨hs,m⟩=none):(cU (aM [10] (hs.map dY)++([10,10]++m))).bind f=none:=by
 rw[nZ (by cases hs with|nil=>exact absurd rfl h0|cons=>exact WM _ _)]
 obtain⟨k,q⟩:=e5 (t:=10::m) (p5 h)
 rw[q,gw h]
 cases (bX (hs.map dY)++10::m).contains 0 with
 |true=>rfl
 |false=>exact e
theorem jK(h:∀r∈rs,kJ r)(n:rs.length<=20):(aM [10] rs).length<=2020:=by
 cases rs with
 |nil=>exact WI _
 |cons a r=>
  have:=Ap h
  rw[←l8 (WM a r),Wk]at this
  exact Wh (WA _ 1) (Wh this (W9 101 n))
theorem Aq:∀i,i<16->nE.contains (eB.getD i 0).toUInt8=true:=dD
theorem n5:∀c∈bg o,c∈nE:=λc hc=>by
 obtain⟨x,hx,rfl⟩:=WN.mp hc
 obtain⟨d,_,h⟩:=Zm.mp hx
 refine WU.mp ?_
 rcases Wo.mp h with rfl|h
 ·exact Aq _ (JE d)
 ·rw[WB.mp h];exact Aq _ (JF d)
theorem Ar:(bg o).length=2*o.length:=by rw[Wp,g9]
theorem iD(h:b.length≠2*size):bR size b=none:=by
 unfold bR
 rw[show((b.length:Int)==2*size)=false from beq_eq_false_iff_ne.mpr λe=>h (YH e)];rfl
theorem tJ(hc:c∈b)(h:nE.contains c=false):bR size b=none:=by
 unfold bR
 rw[show(b.all λc=>nE.contains c)=false from YS.mpr λe=>(by rw[W0.mp e c hc]at h;cases h),Bool.not_false,Zd];rfl
theorem mf(h:o.length=size):bR size (bg o)=some o:=by
 unfold bR
 rw[show(((bg o).length:Int)==2*size)=true from beq_iff_eq.mpr (by rw[Ar,h];rfl),W0.mpr λc hc=>WU.mpr (n5 c hc),Ag,JG];rfl
theorem Kh:nE.contains (Z0 (kR 171).toUInt8)=false:=dD
theorem tK(ho:eZ size o)(h0:0<size)(hi:i<(bg o).length)(h:b∈dz (bg o) i):bR size b=none:=by
 have lp:(bg o).length=2*size:=by rw[Ar,ho.l]
 unfold dz at h
 rcases Wo.mp h with rfl|h
 ·refine iD ?_
  rw[←ac3,ZO hi,lp]
  exact W8 (Nat.sub_lt (ado dD h0) adJ)
 rcases Wo.mp h with rfl|h
 ·exact iD (by rw[Wk,lp];exact YN (X7 _))
 rcases Wo.mp h with rfl|h
 ·obtain⟨c,r,e⟩:∃c r,o=c::r:=by
   cases o with
   |nil=>have:=ho.h;cases this
   |cons c r=>exact⟨c,r,rfl⟩
  have ec:c=171:=by have:=ho.h;rw[e]at this;exact W4 this
  refine tJ (c:=Z0 (kR 171).toUInt8) (X8 ?_) Kh
  rw[e,ec];exact .head _
 rcases Wo.mp h with rfl|h
 ·exact tJ (c:=103) (Yp _ (WW _ (.head _))) dD
 rcases Wo.mp h with rfl|h
 ·exact iD (by show(bg o).length+1≠_;rw[lp];exact YN (X7 _))
 ·rw[WB.mp h]
  exact iD (W8 (ado dD h0))
theorem Ef:∀c∈nE,c≠10∧Z0 c≠10:=dD
theorem gj:(10:UInt8)∉bg o:=λh=>(Ef _ (n5 _ h)).1 rfl
theorem Ki(h:b∈dz (bg o) i):(10:UInt8)∉b:=by
 have t:(10:UInt8)∉(bg o).take i:=λz=>gj (aaE z)
 have d:(10:UInt8)∉(bg o).drop (i+1):=λz=>gj (aaF z)
 unfold dz at h
 rcases Wo.mp h with rfl|h
 ·exact λz=>(WO.mp z).elim t d
 rcases Wo.mp h with rfl|h
 ·exact λz=>(WO.mp z).elim gj λz=>absurd (WB.mp z) dD
 rcases Wo.mp h with rfl|h
 ·exact λz=>by obtain⟨c,hc,e⟩:=WN.mp z;exact(Ef c (n5 c hc)).2 e
 rcases Wo.mp h with rfl|h
 ·exact λz=>(WO.mp z).elim (λz=>(WO.mp z).elim t λz=>absurd (WB.mp z) dD) d
 rcases Wo.mp h with rfl|h
 ·exact λz=>(Wo.mp z).elim (λz=>absurd z dD) gj
 ·rw[WB.mp h];exact abA
noncomputable def Tp(o:Option eA)(p:eA):Bool:=Xa (motive:=λ_=>Bool) o false λq=>q.m==p.m&&(q.e==p.e&&(q.w==p.w&&q.z==p.z))
theorem MV(h:Tp o p=true):o=some p:=by
 cases o with
 |none=>cases h
 |some q=>
  have h1:=aJ h
  have h2:=aJ h1.2
  have h3:=aJ h2.2
  obtain⟨a,b,c,d⟩:=q
  obtain⟨a',b',c',d'⟩:=p
  obtain rfl:a=a':=eq_of_beq h1.1
  obtain rfl:b=b':=eq_of_beq h2.1
  obtain rfl:c=c':=eq_of_beq h3.1
  obtain rfl:d=d':=eq_of_beq h3.2
  rfl
noncomputable def Kj(p:eA):Bool:=Tp (aY p.oct) p&&(!p.oct.contains 10&&(!p.oct.contains 0&&(aY (p.oct++[10]++[109,111,114,101])).isNone))
noncomputable def MW(m:List UInt8):List eA:=PE.flatMap λe=>PW.flatMap λw:Nat=>PZ.map λz=>⟨m,e,(w:Int),z⟩
theorem Tq:∀p∈MW [65],Kj p=true:=dD
theorem Tr:∀p∈MW [65,110,110,32,66,46,32,67,101,101],Kj p=true:=dD
theorem Ts:∀p∈MW [195,169],Kj p=true:=dD
theorem Tt:∀p∈MW [],Kj p=true:=dD
theorem F8:∀p∈l6,Kj p=true:=λp h=>by
 obtain⟨m,a,b⟩:=Zm.mp h
 exact(Wo.mp a).elim (λe=>Tq p (e▸b)) λa=>(Wo.mp a).elim (λe=>Tr p (e▸b)) λa=>(Wo.mp a).elim (λe=>Ts p (e▸b)) λa=>Tt p (WB.mp a▸b)
structure U1(p:eA):Prop where
 r:aY p.oct=some p
 n:(10:UInt8)∉p.oct
 z:p.oct.contains 0=false
 m:aY (p.oct++[10]++[109,111,114,101])=none
 l:p.oct.length<=50
theorem As(h:p∈l6):U1 p:=by
 have h1:=aJ (F8 p h)
 have h2:=aJ h1.2
 have h3:=aJ h2.2
 exact⟨MV h1.1,λz=>(by have:=cw h2.1;rw[WU.mpr z]at this;cases this),cw h3.1,Y8.mp h3.2,(pW h).l⟩
theorem F9:∀b∈l7,((aY b).isNone&&!b.contains 10)=true:=dD
theorem Eg(h:b∈l7):aY b=none∧(10:UInt8)∉b:=by
 have h:=aJ (F9 b h)
 exact⟨Y8.mp h.1,λz=>by have:=cw h.2;rw[WU.mpr z]at this;cases this⟩
noncomputable def e6(size:Nat)(H:Gv):Option dU:=(bV size dG H.l).bind λt=>(fM size t.2).bind λp=>vz t.1 H.m p
theorem ez(h:(a.k==key)=false):cH key (a::r)=none:=by show(bif a.k==key then _ else _)=_;rw[h];rfl
theorem n6:cH key (⟨key,v⟩::r)=some (v,r):=by show(bif key==key then _ else _)=_;rw[beq_self_eq_true];rfl
theorem jY:bV size key (⟨key,v⟩::r)=(bR size v).map λo=>(o,r):=by unfold bV;rw[n6];rfl
theorem eS:bC key (⟨key,v⟩::r)=(aY v).map λo=>(o,r):=by unfold bC;rw[n6];rfl
theorem tL(h:cH key l=none):bC key l=none:=by unfold bC;rw[h];rfl
theorem Kk:fM size (⟨dW,v⟩::r)=(bR size v).bind λo=>(fM size r).map λx=>(o::x.1,x.2):=I5 (beq_self_eq_true dW)
section
variable{size:Nat}{m o v:List UInt8}{a:Hd}{r:List Hd}{p q:eA}{par:List (List UInt8)}
theorem U3(h:(a.k==dG)=false):e6 size ⟨a::r,m⟩=none:=by
 unfold e6
 rw[show bV size dG (a::r)=none by unfold bV;rw[ez h];rfl];rfl
theorem V0(h:bR size v=none):e6 size ⟨⟨dG,v⟩::r,m⟩=none:=by
 unfold e6
 rw[jY,h];rfl
theorem U4(h:o.length=size):e6 size ⟨⟨dG,bg o⟩::r,m⟩=(fM size r).bind λp=>vz o m p:=by
 unfold e6
 rw[jY,mf h];rfl
theorem U5{f:List (List UInt8)×List Hd->Option dU}:∀(ps:List (List UInt8)) (d:List (List UInt8)),(∀x∈ps,x.length=size)->((fM size (ps.map (λx=>⟨dW,bg x⟩)++r)).bind λy=>f (d++y.1,y.2))=(fM size r).bind λy=>f (d++ps++y.1,y.2)
 | [],d,_=>by rw[WT];rfl
 |x::ps,d,h=>by
  have j:=U5 (f:=f) ps (d++[x]) λy i=>h y (.tail _ i)
  show((fM size (⟨dW,bg x⟩::(ps.map (λx=>⟨dW,bg x⟩)++r))).bind _)=_
  rw[Kk,mf (h x (.head _))]
  rw[Wx,List.singleton_append]at j
  rw[←j]
  show(((fM size (ps.map (λx=>⟨dW,bg x⟩)++r)).map λy=>(x::y.1,y.2)).bind _)=_
  cases fM size (ps.map (λx=>⟨dW,bg x⟩)++r)with
  |none=>rfl
  |some y=>show f (d++x::y.1,y.2)=f (d++[x]++y.1,y.2);rw[Wx];rfl
theorem Eh(h:(a.k==dW)=false):fM size (a::r)=some ([],a::r):=by show(bif a.k==dW then _ else _)=_;rw[h];rfl
theorem Vw(h:aY v=some p):vz o m (par,⟨z5,v⟩::r)=(bC uQ r).bind λc=>KG o par m p c.1 c.2:=by
 unfold vz
 rw[eS,h];rfl
theorem Kl(h:(a.k==z5)=false):vz o m (par,a::r)=none:=by
 unfold vz
 rw[tL (ez h)];rfl
theorem V1(h:aY v=none):vz o m (par,⟨z5,v⟩::r)=none:=by
 unfold vz
 rw[eS,h];rfl
theorem Q4(h:(r.any λy=>iO y.k)=true):KG o par m p q r=none:=by unfold KG;rw[h];rfl
theorem Vx(h:aY v=some q):(bC uQ (⟨uQ,v⟩::r)).bind f=f (q,r):=by rw[eS,h];rfl
end
theorem MX(size:Nat)(b:List UInt8):gu size cE b=((cU b).bind (e6 size)).map dU.v:=rfl
theorem vN(l:b.length<=5000)(h:(cU b).bind (e6 size)=none):CB size cE b:=⟨l,by rw[MX,h];rfl⟩
theorem iE(h0:hs≠[])(h:∀x∈hs,qj x)(n:hs.length<=20)(d:m.length<=100)(e:e6 size ⟨hs,m⟩=none):CB size cE (aM [10] (hs.map dY)++([10,10]++m)):=
 vN (by
  have l2:([10,10]++m).length<=102:=by rw[Wk];exact WD d 2
  rw[Wk]
  exact Wh (WH (jK (p5 h) (by rw[Wp];exact n)) l2) dD) (vM h0 h e)
noncomputable def hT(o:List UInt8):Hd:=⟨dG,bg o⟩
noncomputable def hP(o:List UInt8):Hd:=⟨dW,bg o⟩
noncomputable def hA(p:eA):Hd:=⟨z5,p.oct⟩
noncomputable def hC(p:eA):Hd:=⟨uQ,p.oct⟩
theorem p6(y:(k.all λc=>!(c==10)&&!(c==32))=true)(d:k≠[])(u:k.length<=20)(j:(10:UInt8)∉v)(i:v.length<=70):qj ⟨k,v⟩:=by
 have z:=W0.mp y
 refine⟨⟨?_,λh=>?_,?_⟩,d,λh=>?_⟩
 ·show k++32::v≠[]
  cases k with
  |nil=>exact absurd rfl d
  |cons=>exact WM _ _
 ·rcases WO.mp (show(10:UInt8)∈k++32::v from h)with h|h
  ·exact absurd (cw (aJ (z 10 h)).1) dD
  ·exact(Wo.mp h).elim (λe=>absurd e dD) j
 ·show(k++32::v).length<=100
  rw[Wk,WX]
  exact Wh (WH u (Ww i)) dD
 ·exact absurd (cw (aJ (z 32 h)).2) dD
theorem aw{d:Type}{P:d->Prop}{a:d}{l:List d}(h:P a)(t:∀x∈l,P x):∀x∈a::l,P x:=List.forall_mem_cons.mpr ⟨h,t⟩
theorem bx{d:Type}{P:d->Prop}:∀x∈([]:List d),P x:=an
theorem Ga(h0:rs≠[])(h:∀r∈rs,kJ r)(st:cY rs []=some hs)(e:f ⟨hs,m⟩=none):(cU (aM [10] rs++([10,10]++m))).bind f=none:=by
 rw[nZ h0]
 obtain⟨k,q⟩:=e5 (t:=10::m) h
 rw[q,st]
 cases (bX rs++10::m).contains 0 with
 |true=>rfl
 |false=>exact e
theorem vO(h:(0:UInt8)∈b):cU b=none:=by rw[Ee,WU.mpr h];rfl
theorem jL(h:∀r∈rs,kJ r)(d:(10:UInt8)∉t):cU (bX rs++t)=none:=by
 obtain⟨k,q⟩:=e5 (t:=t) h
 rw[q]
 cases (bX rs++t).contains 0 with
 |true=>rfl
 |false=>cases cY rs []with
  |none=>rfl
  |some y=>exact F7 d
theorem vP:∀{rs:List (List UInt8)},aM [10] (rs++[t])=bX rs++t:=by
 intro d
 induction d with
 |nil=>
  exact rfl
 |cons a j y=>
  cases j with
  |nil=>
   rw[ey,Wx];show a++[10]++t=_;rw[Wx];rfl
  |cons b r=>
   show a++[10]++aM [10] (b::(r++[t]))=_
   rw(config:={}) [ey,show b::(r++[t])=(b::r)++[t]from rfl,y,Wx,Wx];rfl
theorem Vy:(z5==dG)=false:=dD
theorem V2:(uQ==dG)=false:=dD
theorem U6:(z5==dW)=false:=dD
theorem Vz:(uQ==dW)=false:=dD
theorem V3:(dG==dW)=false:=dD
theorem VA:(uQ==z5)=false:=dD
theorem V4:(dG==z5)=false:=dD
theorem V5:(z5==uQ)=false:=dD
theorem V6:(dW==uQ)=false:=dD
theorem iT:iO dG=true:=dD
theorem iA:iO z5=true:=dD
theorem iC:iO uQ=true:=dD
noncomputable def Au(a b c:Hd):List (List Hd):=[[b,c],[a,c],[a,b],[a,a,b,c],[a,b,b,c],[a,b,c,c],[b,a,c],[a,c,b],[c,b,a]]
theorem Ei(h:l∈gG (dY a) (dY b) (dY c)):∃d∈Au a b c,l=d.map dY:=(WN.mp (show l∈(Au a b c).map (List.map dY)from h)).imp λ_ z=>⟨z.1,z.2.symm⟩
section
variable{size:Nat}{m o v:List UInt8}{a:Hd}{r:List Hd}{p q:eA}{par:List (List UInt8)}
theorem Km(h:o.length=size)(ha:(a.k==dW)=false):e6 size ⟨hT o::a::r,m⟩=vz o m ([],a::r):=(U4 h).trans (by rw[Eh ha];rfl)
theorem MY(h:o.length=size)(hp:aY p.oct=some p):e6 size ⟨hT o::hA p::r,m⟩=(bC uQ r).bind λc=>KG o [] m p c.1 c.2:=(Km (a:=hA p) h U6).trans (Vw hp)
theorem U7(h:o.length=size)(hp:aY p.oct=some p)(d:cH uQ r=none):e6 size ⟨hT o::hA p::r,m⟩=none:=(MY h hp).trans (by rw[tL d];rfl)
theorem VB(h:o.length=size)(hp:aY p.oct=some p)(d:aY q.oct=some q)(j:(r.any λy=>iO y.k)=true):e6 size ⟨hT o::hA p::hC q::r,m⟩=none:=(MY h hp).trans ((Vx d).trans (Q4 j))
theorem Oh(h:iO a.k=true):((a::r).any λy=>iO y.k)=true:=by rw[Y3,h];rfl
theorem MZ(t:o.length=size)(hp:aY p.oct=some p)(d:aY q.oct=some q):∀l∈Au (hT o) (hA p) (hC q),e6 size ⟨l,m⟩=none:=by
 unfold Au
 exact aw (U3 (a:=hA p) Vy) (aw ((Km (a:=hC q) t Vz).trans (Kl (a:=hC q) VA)) (aw (U7 t hp rfl) (aw ((Km (a:=hT o) t V3).trans (Kl (a:=hT o) V4)) (aw (U7 t hp (ez (a:=hA p) V5)) (aw (VB t hp d (Oh (a:=hC q) iC)) (aw (U3 (a:=hA p) Vy) (aw ((Km (a:=hC q) t Vz).trans (Kl (a:=hC q) VA)) (aw (U3 (a:=hC q) V2) bx))))))))
end
theorem Ej{P:Hd->Prop}{a b c:Hd}(ha:P a)(hb:P b)(hc:P c):∀l∈Au a b c,(l≠[]∧l.length<=20)∧∀x∈l,P x:=by
 unfold Au
 have n:∀{a:Hd} {l:List Hd},Zz (l.length+1) 20=true->a::l≠[]∧(a::l).length<=20:=λh=>⟨WM _ _,Wj h⟩
 exact aw ⟨n rfl,aw hb (aw hc bx)⟩ (aw ⟨n rfl,aw ha (aw hc bx)⟩ (aw ⟨n rfl,aw ha (aw hb bx)⟩ (aw ⟨n rfl,aw ha (aw ha (aw hb (aw hc bx)))⟩ (aw ⟨n rfl,aw ha (aw hb (aw hb (aw hc bx)))⟩ (aw ⟨n rfl,aw ha (aw hb (aw hc (aw hc bx)))⟩ (aw ⟨n rfl,aw hb (aw ha (aw hc bx))⟩ (aw ⟨n rfl,aw ha (aw hc (aw hb bx))⟩ (aw ⟨n rfl,aw hc (aw hb (aw ha bx))⟩ bx))))))))
theorem Ek:∀m∈JN,m.length<=20∧m.contains 0=false:=dD
theorem Gb{size:Nat}:∀m∈JN,(cU m).bind (e6 size)=none:=by
 unfold JN
 exact aw (by kernel_rfl) (aw (by kernel_rfl) (aw (by kernel_rfl) (aw (by kernel_rfl) (aw (by kernel_rfl) bx))))
theorem jM(h:eZ size x)(hs:size<=4):(bg x).length<=70:=Wh (iz h hs).2 dD
theorem M0{size:Nat}{c:dU}(h0:0<size)(hs:size<=4)(d:pY size c):Cr size c:=by
 have pa:=As d.pa
 have pc:=As d.pc
 have t:=d.t.l
 have S:=Ek _ d.m
 have w:c.msg.length<=100:=Wh S.1 dD
 have y:qj (hT c.tree):=p6 rfl (WM _ _) (Wj rfl) gj (jM d.t hs)
 have j:qj (hA c.au):=p6 rfl (WM _ _) (Wj rfl) pa.n (Wh pa.l dD)
 have u:qj (hC c.co):=p6 rfl (WM _ _) (Wj rfl) pc.n (Wh pc.l dD)
 have J:∀r∈[c.T,c.A,c.C],kJ r:=aw y.r (aw j.r (aw u.r bx))
 have B:=jK J (Wj rfl)
 have L:∀r∈[c.T,c.A,c.C]++[[32,109,111,114,101]],kJ r:=aw y.r (aw j.r (aw u.r (aw ⟨WM _ _,dD,dD⟩ bx)))
 have lo:∀b,(∃i,i<(bg c.tree).length∧b∈dz (bg c.tree) i)->(bR size b=none∧(10:UInt8)∉b)∧b.length<=70:=λb z=>z.elim λi z=>⟨⟨tK d.t h0 z.1 z.2,Ki z.2⟩,Wh (jW z.2) (Wh (Ww (W9 2 (iz d.t hs).2)) dD)⟩
 have R:∀b∈l7,∀k:List UInt8,(k.all λc=>!(c==10)&&!(c==32))=true->k≠[]->k.length<=20->qj ⟨k,b⟩:=λb hb k h1 Z X=>p6 h1 Z X (Eg hb).2 (Wh (jI b hb) dD)
 refine⟨λl Y=>?_,?_,?_,λb hb=>?_,λb hb=>?_,λb hb=>?_,λb hb=>?_,?_,?_,?_,?_,⟨WI _,by kernel_rfl⟩,?_⟩
 ·obtain⟨D,g,rfl⟩:=Ei (a:=hT c.tree) (b:=hA c.au) (c:=hC c.co) Y
  have z:=Ej y j u D g
  exact iE z.1.1 z.2 z.1.2 w (MZ t pa.r pc.r D g)
 ·refine vN (Wh B dD) ?_
  rw[show[c.T,c.A,c.C]=[c.T,c.A]++[c.C]from rfl,vP,jL (rs:=[c.T,c.A]) (t:=c.C) (aw y.r (aw j.r bx)) u.r.n];rfl
 ·refine vN (by rw[Wk];exact Wh (WE B 1) dD) ?_
  rw[l8 (WM _ _),←WT (bX _),jL J abA];rfl
 ·have z:=lo b hb
  exact iE (hs:=[⟨dG,b⟩,hA c.au,hC c.co]) (WM _ _) (aw (p6 rfl (WM _ _) (Wj rfl) z.1.2 z.2) (aw j (aw u bx))) (Wj rfl) w (V0 z.1.1)
 ·have z:=lo b hb
  have e:[c.T]++c.mid++[cP++b]++[c.A,c.C]=(hT c.tree::(c.par.map hP++[⟨dW,b⟩,hA c.au,hC c.co])).map dY:=by
   rw[WZ,WQ,XM,Wx,Wx];rfl
  rw[e]
  refine iE (WM _ _) (aw y λx hx=>?_) ?_ w ?_
  ·rcases WO.mp hx with hx|hx
   ·obtain⟨o,E,rfl⟩:=WN.mp hx
    exact p6 rfl (WM _ _) (Wj rfl) gj (jM (d.p o E) hs)
   ·exact aw (p6 rfl (WM _ _) (Wj rfl) z.1.2 z.2) (aw j (aw u bx)) x hx
  ·rw[WX,Wk,Wp];exact Ww (Wh (WE d.pl 3) dD)
  ·refine(U4 t).trans ((U5 (f:=vz c.tree c.msg) c.par [] λx hx=>(d.p x hx).l).trans ?_)
   rw[Kk,z.1.1];rfl
 ·exact iE (hs:=[hT c.tree,⟨z5,b⟩,hC c.co]) (WM _ _) (aw y (aw (R b hb z5 rfl (WM _ _) (Wj rfl)) (aw u bx))) (Wj rfl) w ((Km (a:=⟨z5,b⟩) t U6).trans (V1 (Eg hb).1))
 ·exact iE (hs:=[hT c.tree,hA c.au,⟨uQ,b⟩]) (WM _ _) (aw y (aw j (aw (R b hb uQ rfl (WM _ _) (Wj rfl)) bx))) (Wj rfl) w ((MY t pa.r).trans (by rw[eS,(Eg hb).1];rfl))
 ·exact iE (hs:=[hT c.tree,hA c.au,hP c.tree,hC c.co]) (WM _ _) (aw y (aw j (aw (p6 rfl (WM _ _) (Wj rfl) gj (jM d.t hs)) (aw u bx)))) (Wj rfl) w (U7 t pa.r (ez (a:=hP c.tree) V6))
 ·have key:∀x,qj x->iO x.k=true->CB size cE (aM [10] ([c.T,c.A,c.C]++[dY x])++c.end_):=λx hx U=>iE (hs:=[hT c.tree,hA c.au,hC c.co,x]) (WM _ _) (aw y (aw j (aw u (aw hx bx)))) (Wj rfl) w (VB t pa.r pc.r (Oh U))
  exact aw (P:=λb=>CB size cE (aM [10] ([c.T,c.A,c.C]++[b])++c.end_)) (key (hT c.tree) y iT) (aw (key (hA c.au) j iA) (aw (key (hC c.co) u iC) bx))
 ·refine vN ?_ (Ga (hs:=[hT c.tree,hA c.au,⟨uQ,c.co.oct++[10]++[109,111,114,101]⟩]) (WM _ _) ?_ ?_ ((MY t pa.r).trans (by rw[eS,pc.m];rfl)))
  ·rw[Wk]
   have l2:c.end_.length<=102:=by unfold dU.end_;rw[Wk];exact WD w 2
   exact Wh (WH (jK L (Wj rfl)) l2) dD
  ·exact L
  ·rw[l9,show[c.T,c.A,c.C]=[hT c.tree,hA c.au,hC c.co].map dY from rfl,gw (aw y (aw j (aw u bx)))];rfl
 ·refine vN (by rw[Wk];exact Wh (WE B 5) dD) ?_
  rw[vO (WW _ (.tail _ (.tail _ (.tail _ (.head _)))))];rfl
 ·exact vN (Wh w dD) (Gb _ d.m)
theorem Gc:∀{rs:List (List UInt8)},(∀r∈rs,r.length<=100)->(bX rs).length<=101*rs.length:=by
 intro d
 induction d with
 |nil=>
  intro _
  exact Wr _
 |cons r rs q=>
  intro h
  rw[ey,Wk,WX,WX,ab0,Xd,X1,WV]
  exact WH (q λa ha=>h a (.tail _ ha)) (Ww (h r (.head _)))
theorem El:∀{rs:List (List UInt8)},(∀r∈rs,(0:UInt8)∉r)->(0:UInt8)∉bX rs:=by
 intro d
 induction d with
 |nil=>
  intro _
  exact abA
 |cons r rs q=>
  intro h
  exact λz=>by
   rw[ey]at z
   rcases WO.mp z with z|z
   ·exact h r (.head _) z
   ·exact(Wo.mp z).elim (λe=>absurd e dD) (q λa ha=>h a (.tail _ ha))
structure XR(ex:List Hd)(eQ:List (List UInt8)):Prop where
 l:bX (ex.map jH)=bX eQ
 r:∀r∈eQ,kJ r
 z:∀r∈eQ,(0:UInt8)∉r
 s:∀acc,cY eQ acc=some (acc++ex)
noncomputable def XA:List UInt8:=[110,111,116,101,45,120]
noncomputable def XB:List (List UInt8):=[XA++32::[111,110,101],32::[116,119,111],32::[],32::[102,111,117,114]]
theorem rK(h:(!r.isEmpty&&(!r.contains 10&&(!r.contains 0&&Zz r.length 100)))=true):kJ r∧(0:UInt8)∉r:=by
 have h1:=aJ h
 have q:=aJ h1.2
 have d:=aJ q.2
 refine⟨⟨λe=>?_,λz=>?_,aaD.mp d.2⟩,λz=>?_⟩
 ·have:=cw h1.1;rw[e]at this;cases this
 ·have:=cw q.1;rw[WU.mpr z]at this;cases this
 ·have:=cw d.1;rw[WU.mpr z]at this;cases this
theorem Em:∀r∈jH Gw::XB,(!r.isEmpty&&(!r.contains 10&&(!r.contains 0&&Zz r.length 100)))=true:=dD
theorem CA:cZ (32::t) (d++[a])=some (d++[⟨a.k,a.v++[10]++t⟩]):=by
 rw[←Kg];rfl
theorem En(d:List Hd):cY XB d=some (d++[QI]):=by
 unfold XB
 rw[jJ,show cZ (XA++32::[111,110,101]) d=some (d++[⟨XA,[111,110,101]⟩])from p0 (x:=⟨XA,[111,110,101]⟩) ⟨(rK (Em _ (.tail _ (.head _)))).1,WM _ _,dD⟩]
 show(cZ (32::[116,119,111]) (d++[⟨XA,[111,110,101]⟩])).bind _=_
 rw[CA]
 show(cZ (32::[]) (d++[_])).bind _=_
 rw[CA]
 show(cZ (32::[102,111,117,114]) (d++[_])).bind _=_
 rw[CA];rfl
theorem Eo(d:List Hd):cZ (jH Gw) d=some (d++[Gw]):=p0 (x:=Gw) ⟨(rK (Em _ (.head _))).1,WM _ _,dD⟩
theorem M1:∀ex∈My,∃eQ,XR ex eQ:=by
 have r1:=rK (Em _ (.head _))
 have q:∀r∈XB,kJ r∧(0:UInt8)∉r:=λr h=>rK (Em r (.tail _ h))
 have y:bX (([QI]:List Hd).map jH)=bX XB:=by kernel_rfl
 unfold My
 refine aw ⟨[],rfl,an,an,λd=>congrArg some (WT d).symm⟩ (aw ⟨XB,y,λr h=>(q r h).1,λr h=>(q r h).2,En⟩ (aw ⟨[jH Gw],rfl,aw r1.1 bx,aw r1.2 bx,λd=>?_⟩ (aw ⟨jH Gw::XB,?_,aw r1.1 λr h=>(q r h).1,aw r1.2 λr h=>(q r h).2,λd=>?_⟩ bx)))
 ·rw[jJ,Eo];rfl
 ·rw(config:={}) [ey]
  show bX (jH Gw::([QI]:List Hd).map jH)=_
  rw[ey,y]
 ·rw[jJ,Eo]
  show cY XB (d++[Gw])=_
  rw(config:={}) [En,Wx];rfl
theorem M2:∀ex∈My,(ex.any λy=>iO y.k)=false:=by
 unfold My
 exact aw rfl (aw (by kernel_rfl) (aw (by kernel_rfl) (aw (by kernel_rfl) bx)))
theorem Ko:(0:UInt8)∉bg o:=λh=>absurd (n5 _ h) dD
theorem vQ{a b:List UInt8}(h1:(a.contains 0)=false)(d:(0:UInt8)∉b):(0:UInt8)∉a++b:=λz=>(WO.mp z).elim (λz=>by rw[WU.mpr z]at h1;cases h1) d
theorem Q5{size:Nat}{c:dU}(hs:size<=4)(y:pY size c):Ai size c:=by
 have pa:=As y.pa
 have pc:=As y.pc
 have w:=Ek _ y.m
 have ex:=JO _ y.x
 have rs:c.fix.take 1++c.mid++c.fix.drop 1++c.tl=c.T::(c.mid++(c.A::c.C::c.tl)):=by
  rw[Wx,Wx];rfl
 have g:c.txt=bX (c.T::(c.mid++(c.A::c.C::c.tl)))++10::c.msg:=by
  unfold dU.txt
  rw[rs,Wx,nZ (WM _ _)]
 have X:c.parts=(c.T::(c.mid++(c.A::c.C::c.tl))).map (·++[10])++[[10]++c.msg]:=by
  rw[WZ,WQ,WZ,WZ,XM,XM,Yq,Wx (List.map ((λx=>x++[10])∘λo=>cP++bg o) c.par)];rfl
 have Z:c.oct=c.txt:=by
  rw[g]
  unfold dU.oct
  rw[X,ZW,abN];rfl
 have L:∀{o a:List UInt8},eZ size o->a.length<=20->(a++bg o).length<=100:=λj ha=>by rw[Wk];exact Wh (WH ha (jM j hs)) dD
 have U:c.txt.length<=1000:=by
  rw[g,Wk]
  have:=Gc (rs:=c.T::(c.mid++(c.A::c.C::c.tl))) (aw (L y.t (Wj rfl)) λr d=>?_)
  ·have n:(c.T::(c.mid++(c.A::c.C::c.tl))).length<=7:=by
    rw[WX,Wk,WX,WX]
    rw[Wp,Wp]
    exact Ww (WH y.pl (Ww (Ww ex.1)))
   exact Wh (WH (Wh this (W9 101 n)) (Ww w.1)) dD
  ·rcases WO.mp d with d|d
   ·obtain⟨o,j,rfl⟩:=WN.mp d
    exact L (y.p o j) (Wj rfl)
   ·refine aw (P:=λr:List UInt8=>r.length<=100) ?_ (aw ?_ λr d=>?_) r d
    ·rw[Wk];exact Wh (WD pa.l 7) dD
    ·rw[Wk];exact Wh (WD pc.l 10) dD
    ·obtain⟨x,hx,rfl⟩:=WN.mp d
     exact of_decide_eq_true (aJ (aJ (W0.mp ex.2 x hx)).1).2
 refine⟨y.t,y.p,y.pl,y.pa,y.pc,⟨ex.1,λa ha=>?_⟩,Wh w.1 dD,?_,Z,U⟩
 ·have z:=aJ (aJ (aJ (W0.mp ex.2 a ha)).1).1
  exact⟨of_decide_eq_true z.1,of_decide_eq_true z.2⟩
 ·obtain⟨eQ,i⟩:=M1 _ y.x
  have E:qj (hT c.tree):=p6 rfl (WM _ _) (Wj rfl) gj (jM y.t hs)
  have R:qj (hA c.au):=p6 rfl (WM _ _) (Wj rfl) pa.n (Wh pa.l dD)
  have S:qj (hC c.co):=p6 rfl (WM _ _) (Wj rfl) pc.n (Wh pc.l dD)
  have D:∀x∈hT c.tree::(c.par.map hP++[hA c.au,hC c.co]),qj x:=aw E λx hx=>by
   rcases WO.mp hx with hx|hx
   ·obtain⟨o,j,rfl⟩:=WN.mp hx
    exact p6 rfl (WM _ _) (Wj rfl) gj (jM (y.p o j) hs)
   ·exact aw (P:=qj) R (aw S bx) x hx
  have B:(hT c.tree::(c.par.map hP++[hA c.au,hC c.co])).map dY=c.T::(c.mid++[c.A,c.C]):=by
   unfold dU.mid
   rw[WZ,WQ,XM];rfl
  have e:c.txt=bX ((hT c.tree::(c.par.map hP++[hA c.au,hC c.co])).map dY++eQ)++10::c.msg:=by
   rw[g,B,vL,←i.l,show c.T::(c.mid++(c.A::c.C::c.tl))=c.T::(c.mid++[c.A,c.C])++c.tl by rw[Yq,Wx];rfl,vL];rfl
  have G:∀r∈(hT c.tree::(c.par.map hP++[hA c.au,hC c.co])).map dY++eQ,kJ r:=λr d=>(WO.mp d).elim (p5 D r) (i.r r)
  have Y:c.txt.contains 0=false:=YS.mpr λz=>by
   have z:=WU.mp z
   rw[e]at z
   rcases WO.mp z with z|z
   ·refine El (λr d=>?_) z
    rcases WO.mp d with d|d
    ·rw[B]at d
     refine aw (P:=λr=>(0:UInt8)∉r) (vQ rfl Ko) (λr d=>?_) r d
     rcases WO.mp d with d|d
     ·obtain⟨o,_,rfl⟩:=WN.mp d
      exact vQ rfl Ko
     ·have J:∀{b:List UInt8},b.contains 0=false->(0:UInt8)∉b:=λh z=>by rw[WU.mpr z]at h;cases h
      exact aw (P:=λr=>(0:UInt8)∉r) (vQ rfl (J pa.z)) (aw (vQ rfl (J pc.z)) bx) r d
    ·exact i.z r d
   ·rcases Wo.mp z with z|z
    ·exact absurd z dD
    ·have:=w.2;rw[WU.mpr z]at this;cases this
  show(cU c.txt).bind (e6 size)=some c
  obtain⟨k,q⟩:=e5 (t:=10::c.msg) G
  rw[←e,Y,l9,gw D]at q
  have q:cU c.txt=(cY eQ ([]++(hT c.tree::(c.par.map hP++[hA c.au,hC c.co])))).bind λu=>b5 (k+1) (10::c.msg) u:=q
  rw[i.s]at q
  rw[q]
  show e6 size ⟨hT c.tree::(c.par.map hP++[hA c.au,hC c.co])++c.ex,c.msg⟩=some c
  rw[Yq,Wx]
  refine(U4 y.t.l).trans ((U5 (f:=vz c.tree c.msg) c.par [] λx hx=>(y.p x hx).l).trans ?_)
  show(fM size (hA c.au::hC c.co::c.ex)).bind _=_
  rw[Eh (a:=hA c.au) U6]
  show vz c.tree c.msg ([]++c.par++[],hA c.au::hC c.co::c.ex)=_
  refine(Vw pa.r).trans ((Vx pc.r).trans ?_)
  unfold KG
  rw[M2 _ y.x,WT];rfl
noncomputable def fC(size:Nat)(H:Gv):Option Tg:=(bV size pP H.l).bind λt=>(cH hG t.2).bind λk=>(cH eh k.2).bind λm=>DQ t.1 k.1 m.1 H.m m.2
theorem CC(l:b.length<=5000)(h:(cU b).bind (fC size)=none):CB size eh b:=⟨l,by
 rw[show gu size eh b=((cU b).bind (fC size)).map Tg.v from rfl,h];rfl⟩
theorem n7(h0:hs≠[])(h:∀x∈hs,qj x)(n:hs.length<=20)(e:fC size ⟨hs,[109]⟩=none):CB size eh (aM [10] (hs.map dY)++eM):=
 CC (by rw[Wk];exact Wh (WE (jK (p5 h) (by rw[Wp];exact n)) 3) dD) (vM (m:=[109]) h0 h e)
noncomputable def gO(o:List UInt8):Hd:=⟨pP,bg o⟩
noncomputable def gK(k:List UInt8):Hd:=⟨hG,k⟩
noncomputable def gN(m:List UInt8):Hd:=⟨eh,m⟩
noncomputable def gB(p:eA):Hd:=⟨xY,p.oct⟩
theorem VC:(hG==pP)=false:=dD
theorem V7:(eh==pP)=false:=dD
theorem VD:(eh==hG)=false:=dD
theorem V8:(pP==hG)=false:=dD
theorem V9:(hG==eh)=false:=dD
theorem Wd:(eh==xY)=false:=dD
section
variable{size:Nat}{m o v k w:List UInt8}{a:Hd}{r:List Hd}{p:eA}
theorem U8(h:(a.k==pP)=false):fC size ⟨a::r,m⟩=none:=by
 unfold fC
 rw[show bV size pP (a::r)=none by unfold bV;rw[ez h];rfl];rfl
theorem VE(h:o.length=size):fC size ⟨gO o::r,m⟩=(cH hG r).bind λk=>(cH eh k.2).bind λw=>DQ o k.1 w.1 m w.2:=by
 unfold fC gO
 rw[jY,mf h];rfl
theorem U9(h:bR size v=none):fC size ⟨⟨pP,v⟩::r,m⟩=none:=by
 unfold fC
 rw[jY,h];rfl
theorem Kp(h:o.length=size)(e:cH hG r=none):fC size ⟨gO o::r,m⟩=none:=by rw[VE h,e];rfl
theorem VF(h:o.length=size):fC size ⟨gO o::gK k::r,m⟩=(cH eh r).bind λw=>DQ o k w.1 m w.2:=by
 rw[VE h];unfold gK;rw[n6];rfl
theorem Oi(h:o.length=size)(e:cH eh r=none):fC size ⟨gO o::gK k::r,m⟩=none:=by rw[VF h,e];rfl
theorem Uc(h:o.length=size):fC size ⟨gO o::gK k::gN w::r,m⟩=DQ o k w m r:=by
 rw[VF h];unfold gN;rw[n6];rfl
theorem Tu(h:et k=false):DQ o k w m r=none:=by unfold DQ;rw[h];rfl
theorem CD(h:et k=true)(d:nI w=false):DQ o k w m r=(gE r).bind λp=>N5 o k w m p.1 p.2:=by unfold DQ;rw[h,d];rfl
theorem Tv(h:(a.k==xY)=false):gE (a::r)=some (none,a::r):=by
 unfold gE
 rw[show gD (a::r) xY=false from h];rfl
theorem Oj:gE (⟨xY,v⟩::r)=((aY v).map λo=>(o,r)).map λp=>(some p.1,p.2):=by
 unfold gE
 rw[show gD (⟨xY,v⟩::r) xY=true from beq_self_eq_true xY,eS];rfl
end
theorem Ol:∀k∈yi,(et k&&(!k.contains 10&&(!k.contains 0&&Zz k.length 70)))=true:=dD
theorem Om:∀k∈yj,(!nI k&&(!k.contains 10&&(!k.contains 0&&Zz k.length 70)))=true:=dD
theorem Tw:∀k∈JV,(!et k&&(!k.contains 10&&(!k.contains 0&&Zz k.length 70)))=true:=dD
theorem Tx:∀m∈JU,(m.take (nH m)==m&&((m.drop (nH m)).isEmpty&&(!m.contains 0&&Zz m.length 70)))=true:=dD
structure Txt(q:Bool)(k:List UInt8):Prop where
 q:q=true
 n:(10:UInt8)∉k
 z:(0:UInt8)∉k
 l:k.length<=70
theorem tM(h:(q&&(!k.contains 10&&(!k.contains 0&&Zz k.length 70)))=true):Txt q k:=by
 have h1:=aJ h
 have y:=aJ h1.2
 have d:=aJ y.2
 exact⟨h1.1,λz=>(by have:=cw y.1;rw[WU.mpr z]at this;cases this),λz=>(by have:=cw d.1;rw[WU.mpr z]at this;cases this),aaD.mp d.2⟩
theorem KH(q:((k.all λc=>!(c==10)&&!(c==32))&&(!k.isEmpty&&Zz k.length 20))=true)(j:(10:UInt8)∉v)(y:v.length<=70):qj ⟨k,v⟩:=by
 have h1:=aJ q
 have d:=aJ h1.2
 exact p6 h1.1 (λe=>by have:=cw d.1;rw[e]at this;cases this) (aaD.mp d.2) j y
theorem M3(t:o.length=size)(q:et k=true)(d:nI w=false):∀l∈Au (gO o) (gK k) (gN w),fC size ⟨l,[109]⟩=none:=by
 unfold Au
 exact aw (U8 (a:=gK k) VC) (aw (Kp t (ez (a:=gN w) VD)) (aw (Oi t rfl) (aw (Kp t (ez (a:=gO o) V8)) (aw (Oi t (ez (a:=gK k) V9)) (aw ((Uc t).trans (by rw[CD q d,Tv (a:=gN w) Wd];rfl)) (aw (U8 (a:=gK k) VC) (aw (Kp t (ez (a:=gN w) VD)) (aw (U8 (a:=gN w) V7) bx))))))))
theorem Gd(h0:0<size)(hs:size<=4)(lt:vH size t):JX size t:=by
 have g:=lt.g.l
 have x:=tM (Ol _ lt.k)
 have f:=tM (Om _ lt.n)
 have j:qj (gO t.goal):=KH dD gj (jM lt.g hs)
 have u:qj (gK t.kind):=KH dD x.n x.l
 have d:qj (gN t.name):=KH dD f.n f.l
 have L:∀r∈[t.O,t.K,t.N],kJ r:=aw j.r (aw u.r (aw d.r bx))
 have D:=jK L (Wj rfl)
 refine⟨λl S=>?_,?_,?_,λb hb=>?_,λb hb=>?_,λb hb=>?_⟩
 ·obtain⟨B,y,rfl⟩:=Ei (a:=gO t.goal) (b:=gK t.kind) (c:=gN t.name) S
  have z:=Ej j u d B y
  exact n7 z.1.1 z.2 z.1.2 (M3 g x.q (cw f.q) B y)
 ·refine CC (Wh D dD) ?_
  rw[show[t.O,t.K,t.N]=[t.O,t.K]++[t.N]from rfl,vP,jL (rs:=[t.O,t.K]) (t:=t.N) (aw j.r (aw u.r bx)) d.r.n];rfl
 ·refine CC (by rw[Wk];exact Wh (WE D 4) dD) ?_
  rw[vO (WW _ (.tail _ (.tail _ (.tail _ (.head _)))))];rfl
 ·obtain⟨i,R,hb⟩:=hb
  exact n7 (hs:=[⟨pP,b⟩,gK t.kind,gN t.name]) (WM _ _) (aw (KH dD (Ki hb) (Wh (jW hb) (Wh (Ww (W9 2 (iz lt.g hs).2)) dD))) (aw u (aw d bx))) (Wj rfl) (U9 (tK lt.g h0 R hb))
 ·have e:=tM (Tw b hb)
  exact n7 (hs:=[gO t.goal,gK b,gN t.name]) (WM _ _) (aw j (aw (KH dD e.n e.l) (aw d bx))) (Wj rfl) ((Uc g).trans (Tu (cw e.q)))
 ·have J:=Eg hb
  exact n7 (hs:=[gO t.goal,gK t.kind,gN t.name,⟨xY,b⟩]) (WM _ _) (aw j (aw u (aw d (aw (KH dD J.2 (Wh (jI b hb) dD)) bx)))) (Wj rfl) ((Uc g).trans (by rw[CD x.q (cw f.q),Oj,J.1];rfl))
theorem Tz(hs:size<=4)(lt:vH size t):MD size t:=by
 have f:=tM (Ol _ lt.k)
 have w:=tM (Om _ lt.n)
 have i:=aJ (Tx _ lt.m)
 have y:=aJ i.2
 have j:=aJ y.2
 have I:(0:UInt8)∉t.msg:=λz=>by have:=cw j.1;rw[WU.mpr z]at this;cases this
 have D:t.msg.length<=70:=aaD.mp j.2
 have L:qj (gO t.goal):=KH dD gj (jM lt.g hs)
 have S:qj (gK t.kind):=KH dD f.n f.l
 have rN:qj (gN t.name):=KH dD w.n w.l
 obtain⟨d,e,Z,E,X,B⟩:∃d:List Hd,t.by8=d.map dY∧(∀x∈d,qj x)∧(∀x∈d,(0:UInt8)∉dY x)∧d.length<=1∧gE d=some (t.by_,[]):=by
  unfold Tg.by8
  generalize h:t.by_=J;cases J with
  |none=>exact⟨[],rfl,bx,bx,WI _,rfl⟩
  |some p=>
   have u:=As (lt.b p h)
   refine⟨[gB p],rfl,aw (KH dD u.n (Wh u.l dD)) bx,aw ?_ bx,Wr _,?_⟩
   ·exact vQ (a:=xY) dD λz=>by
     rcases Wo.mp z with z|z
     ·exact absurd z dD
     ·have:(gB p).v.contains 0=false:=u.z
      rw[WU.mpr z]at this;cases this
   ·show gE (⟨xY,p.oct⟩::[])=_
    rw[Oj,u.r];rfl
 have o:∀x∈gO t.goal::gK t.kind::gN t.name::d,qj x:=aw L (aw S (aw rN Z))
 have c:t.txt=bX ((gO t.goal::gK t.kind::gN t.name::d).map dY)++10::t.msg:=by
  unfold Tg.txt
  rw[Wx,e,show[t.O,t.K,t.N]++d.map dY=(gO t.goal::gK t.kind::gN t.name::d).map dY from rfl]
  exact nZ (WM _ _) _
 have G:t.parts=((gO t.goal::gK t.kind::gN t.name::d).map dY).map (·++[10])++[[10]++t.msg]:=by
  show t.parts=(([t.O,t.K,t.N]++d.map dY).map (·++[10]))++[[10]++t.msg]
  rw[←e]
  unfold Tg.parts Tg.by8 US
  cases t.by_ <;> rfl
 have Q:t.oct=t.txt:=by
  rw[c]
  unfold Tg.oct
  rw[G,ZW,abN,lt.s,WT];rfl
 refine⟨?_,Q,?_⟩
 ·have H:t.txt.contains 0=false:=YS.mpr λz=>by
   have z:=WU.mp z
   rw[c]at z
   rcases WO.mp z with z|z
   ·refine El (λr hr=>?_) z
    obtain⟨x,hx,rfl⟩:=WN.mp hr
    have n2:∀{k v:List UInt8},k.contains 0=false->(0:UInt8)∉v->(0:UInt8)∉dY ⟨k,v⟩:=λh1 Y=>vQ h1 λz=>(Wo.mp z).elim (λz=>absurd z dD) Y
    exact aw (P:=λx=>(0:UInt8)∉dY x) (n2 dD Ko) (aw (n2 dD f.z) (aw (n2 dD w.z) E)) x hx
   ·rcases Wo.mp z with z|z
    ·exact absurd z dD
    ·exact I z
  show(cU t.txt).bind (fC size)=some t
  obtain⟨k,q⟩:=e5 (t:=10::t.msg) (p5 o)
  rw[←c,H,gw o]at q
  rw[q]
  show fC size ⟨gO t.goal::gK t.kind::gN t.name::d,t.msg⟩=some t
  rw[Uc lt.g.l,CD f.q (cw w.q),B]
  show N5 t.goal t.kind t.name t.msg t.by_ []=some t
  have R:t.msg.take (nH t.msg)=t.msg:=eq_of_beq i.1
  have U:t.msg.drop (nH t.msg)=t.sig:=by rw[lt.s];exact Xj.mp y.1
  show some (Tg.mk t.goal t.kind t.name t.by_ (t.msg.take (nH t.msg)) (t.msg.drop (nH t.msg)))=some t
  rw[R,U]
 ·rw[c,Wk]
  have n:((gO t.goal::gK t.kind::gN t.name::d).map dY).length<=4:=by rw[Wp];exact Ww (Ww (Ww X))
  exact Wh (WH (Wh (Ap (p5 o)) (W9 101 n)) (Ww D)) dD
theorem Kq:∀s∈[2,2,4],tF s:=λs hs=>by
 have q:=To s hs
 have d:2<=s∧s<=4:=(by decide:∀s∈[2,2,4],2<=s∧s<=4) s hs
 have h0:0<s:=WK dD d.1
 refine⟨MU d.1 d.2,λc y=>⟨Q5 d.2 y,M0 h0 d.2 y⟩,λt lt=>⟨Tz d.2 lt,Gd h0 d.2 lt⟩,?_,Ao d.1 q.1 q.2.1 q.2.2⟩
 revert s
 exact λs hs _ _ _=>aw (P:=λs=>eQ bD s (O3 s)=some (E3 s)) ym.1 (aw ym.1 (aw ym.2 bx)) s hs
theorem Kr:GG and (some x) (some y)=some (x&&y):=rfl
theorem Q6:∀(a b:List (List UInt8)),a.length=b.length->Ni (ji 3) (a.map .bytes) (b.map .bytes)=some (decide (a=b)):=by
 intro q
 induction q with
 |nil=>
  intro i
  cases i with
  |nil=>
   intro _
   exact rfl
  |cons u c=>
   intros;contradiction
 |cons x a d=>
  intro j
  cases j with
  |nil=>
   intros;contradiction
  |cons y b=>
   intro h
   have d:=d b (XE h)
   unfold Ni at d ⊢
   rw[WZ,WZ,aer,ads,d]
   show GG and (some (x==y)) _=_
   rw[Kr]
   by_cases e:x=y
   ·subst e
    rw[beq_self_eq_true,Bool.true_and]
    exact congrArg some (decide_eq_decide.mpr ⟨λe=>by rw[e],λe=>(Zr e).2⟩)
   ·rw[beq_eq_false_iff_ne.mpr e,Bool.false_and]
    exact congrArg some (decide_eq_false λz=>e (Zr z).1).symm
theorem Av(a b:List (List UInt8)):eqT (.lst (a.map .bytes)) (.lst (b.map .bytes))=some (decide (a=b)):=by
 show j1 (some false) (ji 3) (a.map .bytes) (b.map .bytes)=_
 unfold j1
 by_cases h:a.length=b.length
 ·rw[if_pos (by rw[Wp,Wp,h]),Q6 a b h]
 ·rw[if_neg (by rw[Wp,Wp];exact h)]
  exact congrArg some (decide_eq_false λe=>h (by rw[e])).symm
theorem tN{a b:List (List UInt8)}(p:a.Perm b)(h1:a.Pairwise wA)(d:b.Pairwise wA):a=b:=List.Perm.eq_of_pairwise (λx y _ _=>Hw) h1 d p
theorem Ep:∀l:List a9,GH ((l.map λe=>V.int e.m).map λv=>ji 4 v (.int x))=some (l.any λe=>(e.m:Int)==x)
 | []=>rfl
 |e::l=>by
  have d:=Ep (x:=x) l
  unfold GH at d ⊢
  rw[WZ,WZ,ads,d,Y3];rfl
section
variable{g:Gl}{K:Frag}{n:Nat}{h:AH}{A:PT}{X:St->Prop}{st:St}{bs:List (List UInt8)}
theorem Ks(h1:Ev A X st (.lst (bs.map .bytes)))(l:bs.length<64)(q:∀l:List (List UInt8),l.Perm bs->l.Pairwise wA->Q (.lst (l.map .bytes)) st):dn (b1 hV) (aa A ag) Q X st:=h1 _ (az (dP (λx=>x) bs) (by rw[Y0];exact Wm l q))
theorem Ge(h1:Ev A X st (.lst (bs.map .bytes)))(l:bs.length<64)(q:∀l:List (List UInt8),l.Nodup->(∀x,x∈l↔x∈bs)->l.Pairwise wA->Q (.lst (l.map .bytes)) st):de A Q X st:=h1 _ (az (dP (λx=>x) bs) (by rw[Y0];exact Wm l q))
theorem M4(h1:Ev A X st (.lst (bs.map .bytes)))(d:Ev B X st (.lst (bs.map .bytes)))(l:bs.length<64):Ev (aC .NotEq (de A) (dn (b1 hV) (aa B ag))) X st (.bool (!@decide bs.Nodup (Xe _))):=λQ k=>Ge h1 l λa n i s=>Ks d l λb p t=>az (Av a b) (by
 have:decide (a=b)=@decide bs.Nodup (Xe _):=by
  rw[X4,decide_eq_true_iff,@decide_eq_true_iff _ (Xe _)]
  constructor
  ·intro e;subst e;exact p.nodup_iff.mp n
  ·intro nd
   exact tN (((List.perm_ext_iff_of_nodup n nd).mpr i).trans p.symm) s t
 rw[this];exact k)
theorem M6(h1:Ev A X st (.lst (bs.map .bytes)))(d:Ev B X st (.lst (bs.map .bytes)))(l:bs.length<64):Ev (aC .NotEq A (dn (b1 hV) (aa B ag))) X st (.bool (!@decide (bs.Pairwise wA) (Xe _))):=λQ k=>h1 _ (Ks d l λb p t=>az (Av bs b) (by
 have:decide (bs=b)=@decide (bs.Pairwise wA) (Xe _):=by
  rw[X4,decide_eq_true_iff,@decide_eq_true_iff _ (Xe _)]
  exact⟨λe=>e▸t,λs=>tN p.symm s t⟩
 rw[this];exact k))
theorem Q7:(x.contains 47||((([46]==x)||(([46,46]==x)||false))||(x.map Z1==[46,103,105,116])))=rl x:=by
 unfold rl
 rw[ZD]
theorem M7(n:(q.map a9.x).Nodup)(s:(q.map a9.key).Pairwise wA):(((q.map a9.x).filter rl).isEmpty&&!(q.any λe=>(e.m:Int)==33204))=uU q:=by
 unfold uU
 rw[X4,@decide_eq_true_iff _ (Xe _)]
 constructor
 ·intro h
  have h:=aJ h
  have f:=Zu.mp (Xj.mp h.1)
  refine⟨n,s,λe d=>YS.mpr (f _ (X8 d)),λe d z=>?_⟩
  have:=cw h.2
  rw[ZT.mpr ⟨e,d,by rw[z];rfl⟩]at this
  cases this
 ·intro f
  refine Yg.mpr ⟨Xj.mpr (Zu.mpr λx hx=>?_),?_⟩
  ·obtain⟨e,d,rfl⟩:=WN.mp hx
   rw[f.no e d];exact Xc
  ·have z:(q.any λe=>(e.m:Int)==33204)=false:=aai.mpr λe d z=>f.md e d (YH (eq_of_beq z))
   rw[z];rfl
theorem TC(kn:Kn g K):uV g:=λ{es} hl hx {Q X h} q=>by
 refine((aH (n:=8) (kn.H 8) kn.law_are_fit rfl ?_).call).up (Wr _)
 have d:es.length<=1000000:=Wh hl dD
 have j:(es.map a9.x).length<64:=by rw[Wp];exact Wz hl dD
 have y:(es.map a9.key).length<64:=by rw[Wp];exact Wz hl dD
 have i:∀{X v1 v2},Ev (a8 2 [] (hZ (aj 1) j2 (ak g 8 (.ref 545) (aa (ae 1) ag))) (a7 (ae 0))) X ⟨[some (.lst (es.map a9.t)),v1,v2],h⟩ (.lst ((es.map a9.key).map .bytes)):=λ{X v1 v2}=>bq (ee (e:=a9.t) (f:=λe=>.bytes e.key) Iq d λe z=>aG Iq (vD kn dD (hx e z))) (by rw[XM];rfl)
 refine aZ (v:=.lst ((es.map a9.x).map .bytes)) (bq (ee (e:=a9.t) (f:=λe=>.bytes e.x) Iq d λe _=>tC Iq 1 rfl) (by rw[XM];rfl)) ?_
 refine bI (cg (M4 Iq Iq j) λ_=>fB (M6 i i y)) (λ_ _ k=>k) (λe=>?_) λe=>?_
 ·have:uU es=false:=by
   unfold uU
   refine @decide_eq_false _ (Xe _) λf=>?_
   rw[@decide_eq_true _ (Xe _) f.nd,@decide_eq_true _ (Xe _) (show(es.map a9.key).Pairwise wA from f.so)]at e
   cases e
  rw[this]at q
  exact bc q
 ·have e:=Ye.mp e
  have n:=@of_decide_eq_true _ (Xe _) (nr e.1)
  have s:=@of_decide_eq_true _ (Xe _) (nr e.2)
  rw[←M7 n s]at q
  refine aZ (v:=.lst (((es.map a9.x).filter rl).map .bytes)) (DA (e:=V.bytes) (f:=V.bytes) (l:=es.map a9.x) rl Iq (by rw[Wp];exact d) (λx hx=>bq (cg (bJ Iq Iq λ_ k=>k) λ_=>cg (bJ Iq (λ_ k=>Wm (Wj rfl) k) λ_ k=>k) λ_=>fB (bJ (kG Iq rfl Iq λ_ k=>k) Iq λ_ k=>k)) ?_) λx _ _ _ k=>k) ?_
  ·exact congrArg V.bool Q7
  refine a6 (v:=.bool (((es.map a9.x).filter rl).isEmpty&&!(es.any λe=>(e.m:Int)==33204))) (eH (a:=((es.map a9.x).filter rl).isEmpty) (b:=!(es.any λe=>(e.m:Int)==33204)) (bq (Jc Iq) (congrArg V.bool (by rw[ade]))) λ_=>?_) (bc q)
  refine bJ Iq (ee (e:=a9.t) (f:=λe=>.int e.m) Iq d λe _=>tC Iq 0 rfl) λ_ k=>?_
  exact az (Ep es) k
end
set_option backward.match.sparseCases true
section
open Sem (wp)
def Gf(M:Model)(A:Xm)(t:Sem y)(Q:y->Ws->Prop)(s:Ws):Prop:=∀d p,d.In A->ml d->wp M d t (λa _ q=>Q a q) (λ_ _ _=>False) p s
section
theorem tP(h:Gf M A t Q s)(k:∀a d,Q a d->Q' a d):Gf M A t Q' s:=λq p h1 y=>aad _ q t (λa _ d=>k a d) (λ_ _ _ x=>x) p s (h q p h1 y)
theorem Kt(h:Q a s):Gf M A (pure a) Q s:=λ_ _ _ _=>h
theorem Aw(h:Gf M A m (λa j=>Gf M A (f a) Q j) s):Gf M A (m>>=f) Q s:=λq p h1 y=>by
 rw[aeM]
 exact aad _ q m (λa i j d=>d q i h1 y) (λ_ _ _ d=>d) p s (h q p h1 y)
theorem Q8(h:WJ M A t Q (λ_ _=>False) s):Gf M A t Q s:=λd p h1 _=>h d p h1
end
theorem yo{prog:abK}{w:abI}{t:Sem aaT}{s:Ws}{R:abU->Ws->Prop}(i:s.asleep)
 (h:Gf (YW prog w) ack t (λbc d=>∃f,bc=.done f∧(R (.ok f) d∧leftWithCleanup d.gens=false)) s) :
 ∃n r d j,runN (denote aaf) prog w n s ⟨t,.builtin "claim.caller" {},default,[]⟩=.halted (outcomeOf r) d∧
  schedN (denote aaf) prog w n (.single s ⟨t,.builtin "claim.caller" {},default,[]⟩)=.halted (outcomeOf r) d∧d.forget=j.forget∧R r j:=by
 have h1:=h ⟨.builtin "claim.caller" {},none,none,[],none⟩ default caller_in ⟨λ_ _=>rfl,λq m=>by cases m⟩
 obtain⟨n,r,y,z,hs,k,c,p⟩:=wp_halts_full (M:=YW prog w) (R:=R) i (aad _ _ t (λbc x d u=>by
  obtain⟨f,rfl,b⟩:=u
  exact b) (λ_ _ _ u=>u.elim) default s h1)
 exact⟨n,r,z,y,k,hs,c,p⟩
theorem Gg{c:ClaimW}{tree:List Wn->Sem aaT}{w:abI}{s:Ws}{free:Addr->Prop}{gens:Prop}{z:Heap->Prop}(hz:s.asleep)(g:s.gens=#[])
 (a:∀args,c.pre args=true->ac0 args=true->
  ∀ord:List aaQ->List aaQ,(∀l,(ord l).Perm l)->
  ∃vs d,layAllW c.records (classAt s.heap) w.params ord args s=some (vs,d)∧
   Gf (YW c.prog w) ack (tree vs) (λbc u=>∃f,bc=.done f∧(c.Ends s args vs d (.ok f) u∧u.os=s.os∧AllBare u.gens∧z u.heap)) d) :
 c.CallFrom (λvs=>⟨tree vs,.builtin "claim.caller" {},default,[]⟩) w free gens z s:=by
 intro args S Y ord J
 refine Wy λno=>?_
 obtain⟨vs,d,p,B⟩:=a args S Y ord J
 have L:=layAllW_rest _ _ _ p
 obtain⟨k,r,u,s'',X,m,G,q,U,j⟩:=yo (prog:=c.prog) (w:=w) (t:=tree vs) (s:=d)
  (R:=λr u=>c.Ends s args vs d r u∧u.os=s.os∧z u.heap)
  (Shared.asleep_of_life L.2.2.2 hz)
  (tP B (by
   rintro bc u ⟨f,e,h1,n,h,Q⟩
   exact⟨f,e,⟨h1,n,Q⟩,leftWithCleanup_false_of_bare h⟩))
 obtain⟨Z,_,_,eo,_⟩:=Shared.forget_eq G
 have q:=q.congr Z
 have j:z u.heap:=by first|exact Z▸j|(rw[Z]at j;exact j)|(rw[←Z]at j;exact j)
 rw[←eo]at U
 have D:u.heap.life=s.heap.life:=(runN_life _ _ _ X).trans L.2.2.2
 refine no ⟨vs,d,p,k,_,u,m,?_,(λ_ i x hx=>by rw[g]at hx;simp at hx),j,by rw[D],Shared.rest_eq U⟩
 rcases q with⟨v,rfl,d1,d2,I,H,E⟩|⟨e,ob,cls,rfl,d1,d2,I,H,E⟩
 ·exact .inl ⟨v,rfl,d1,d2,I,λb o y _=>H b o y,E⟩
 ·exact .inr ⟨e,ob,cls,rfl,d1,d2,I,H,λb o y _=>E b o y⟩
theorem Gh{r:RowW}{run:Wn->List Wn->Sem Wn}{tree:List Wn->Sem aaT}{q:abK}{loose defs kps:List Str}{writes:Bool}{Xt:Ws->Bool}{XP:(Str->Option Wn)->Heap->Prop}{α:Type}{Yf:Ws->α}{Ya:abI->α}{YP:abI->Heap->Prop}{N:Nat}
 (left:LeftO r.prog q loose Xt Yf Ya N) (hY:∀w s,Yf s=Ya w->YP w s.heap) (hYk:∀w h h',YP w h->(∀b o,h.get? b=some o->h'.get? b=some o)->YP w h') (hX:∀s,Xt s=true->XP (s.heap.nsMap XH) s.heap) (hXk:∀mg h h',XP mg h->(∀b o,h.get? b=some o->h'.get? b=some o)->XP mg h')
 (hRf:∀s,Xt s=true->RecFacts r.records s.heap) (hwr:(!writes||r.records.isEmpty)=true) (ok:(chainsOk q&&opensWell r.prog&&(frees r&&r.within.isEmpty))=true) (hb:r.prog.bare) (hw:r.promised)
 (ht:∀vs (w:abI) (s:Ws) mg f (Q:aaT->Ws->Prop),s.heap.Ns XH mg->mg r.name=some f->Gf (YW r.prog w) ack (run f vs) (λv s'=>Q (.done (.ret v)) s') s->Gf (YW r.prog w) ack (tree vs) Q s)
 (pin:∀w s,s.heap.isNs XH=true->Ground q loose [] XP w s (s.heap.nsMap XH) (s.heap.nsMap aaO) s.heap->∀n∈defs,isTheDefsW r.prog s.heap n)
 (call:∀(w:abI) (s₀ s₁:Ws) (mg mb:Str->Option Wn),Ground q loose r.records XP w s₀ mg mb s₁.heap->YP w s₁.heap->∀(args:List WData) (vs:List Wn) (as:List Addr),
  r.claim.pre args=true->ac0 args=true->Laid r.records w s₀ s₁ args vs as->aeA<s₀.heap.objs.size->∃f,mg r.name=some f∧
   Gf (YW r.prog w) ack (run f vs) (λv s'=>GoodWG r.claim (classAt s₀.heap) (adI s₀.heap) args s₁ (.ok (.ret v)) s') s₁):r.claim.HoldsOpenBy (λvs=>⟨tree vs,.builtin "claim.caller" {},default,[]⟩) defs kps writes:=by
 obtain⟨ok,k5⟩:=Yg.mp ok
 obtain⟨hch,o1⟩:=Yg.mp ok
 obtain⟨k5,k6⟩:=Yg.mp k5
 refine Wy λno=>?_
 obtain⟨hsame,hu,ha,hap,hm⟩:=frees_parts k5
 refine no ?_
 refine⟨⟨hb,o1,by show r.makers.map _=[];rw[hm];rfl⟩,hw.witness,λw=>⟨(left.behind hX hch w).1,λs' hs'=>?_⟩⟩
 refine Wy λno=>?_
 obtain⟨s₀,hf,hg0,s,hT,hz,hgens,hg,G00,y⟩:=(left.behind (XP:=λmg h=>XP mg h∧RecFacts r.records h) (λs hs=>⟨hX s hs,hRf s hs⟩) hch w).2 s' hs'
 refine no ?_
 have G0:Ground q loose [] XP w s (s.heap.nsMap XH) (s.heap.nsMap aaO) s.heap:=⟨G00.T,G00.B,G00.D,G00.TE,G00.TD,G00.W,G00.X.1,G00.cls,G00.has,G00.apart,G00.once,G00.K⟩
 have RF:=G00.X.2
 have hT':=hT
 refine⟨s₀,hf,hg0,s,hT,pin w s hg G0,RF.1,RF.2.1,?_⟩
 have hgens:s.gens=#[]:=Array.eq_empty_of_size_eq_zero (beq_iff_eq.mp hgens)
 have G:Ground q loose r.records XP w s _ _ s.heap:=RF.ground G0
 refine Gg (c:=r.claim) hz hgens λargs hpre hlay ord hord=>?_
 refine Wy λno=>?_
 obtain⟨⟨vs,s₁⟩,hlaid⟩:=Yj.mp (layAllW_isSome (P:=w.params) (ord:=ord) G.has args r.args s (pre_splitW hpre).1)
 refine no ?_
 have keeps:=layAllW_keeps _ _ _ hlaid
 have hal:=layAllW_rest _ _ _ hlaid
 refine Wy λno=>?_
 obtain⟨as,hrd,hin,hold⟩:=reads_layAllW hord _ _ _ hlaid hlay s₁.heap (λ_ _ e=>e)
 refine no ?_
 have L:Laid r.records w s s₁ args vs as:=⟨⟨ord,hord,hlaid⟩,hrd,hin,hold,keeps,hal.1.trans hgens,hal.2.2.1⟩
 have G₁:=G.keeps hXk keeps
 refine Wy λno=>?_
 obtain⟨f,hf,h⟩:=call w s s₁ _ _ G₁ (hYk _ _ _ (hY w s y) keeps) args vs as hpre hlay L G.low
 refine no ?_
 have hi:=ident_freeW hu ha hap
 have hwi:r.claim.within=[]:=Xj.mp k6
 exact⟨vs,s₁,hlaid,ht vs w s₁ _ f _ G₁.T.g hf (tP h (λv s' g=>⟨_,rfl,have z:=g.laid (c:=r.claim) hsame hwi hi L;⟨z.1,z.2.1,z.2.2,λq=>⟨namesKept_of hT' hg kps keeps g.2.1.old,noTable hwr q⟩⟩⟩))⟩
abbrev Ku(q:abK)(loose:List Str)(XP:(Str->Option Wn)->Heap->Prop)(YP:abI->Heap->Prop)(r:RowW)(d:DefRec)(kwd:List (Str×Expr))(run:Wn->List Wn->Sem Wn):Prop:=
 ∀(w:abI) (s₀ s₁:Ws) (mg mb:Str->Option Wn),Ground q loose r.records XP w s₀ mg mb s₁.heap->YP w s₁.heap->∀(a:Addr) (o:Obj) (pm cd doc dV kV:Wn),s₁.heap.get? a=some o->
  o.data=.func { docDef d.name d.params d.body d.scope pm cd doc with defaults:=dV,kwdefaults:=kV}->s₁.heap.CodeRec cd d.name->Dflts mg s₁.heap d.params kwd dV kV->mg d.name=some (.ref a)->s₁.gens=#[]->
  ∀(args:List WData) (vals:List Wn) (as:List Addr),r.claim.pre args=true->ac0 args=true->ReadsAllW r.records (classAt s₀.heap) s₁.heap vals args as->WellAll w.params s₁.heap vals args->(∀a∈as,(a==aeA)=false)->
   Gf (YW r.prog w) ack (run (.ref a) vals) (λv s'=>GoodWG r.claim (classAt s₀.heap) (adI s₀.heap) args s₁ (.ok (.ret v)) s') s₁
theorem PySem.W.holds_open{r:OpenRow}{q:abK}{loose:List Str}{Xt:Ws->Bool}{XP:(Str->Option Wn)->Heap->Prop}{α:Type}{Yf:Ws->α}{Ya:abI->α}{YP:abI->Heap->Prop}{d:DefRec}{kwd:List (Str×Expr)}{N:Nat}
 (left:LeftO r.prog q loose Xt Yf Ya N) (hY:∀w s,Yf s=Ya w->YP w s.heap) (hYk:∀w h h',YP w h->(∀b o,h.get? b=some o->h'.get? b=some o)->YP w h')
 (hX:∀s,Xt s=true->XP (s.heap.nsMap XH) s.heap) (hXk:∀mg h h',XP mg h->(∀b o,h.get? b=some o->h'.get? b=some o)->XP mg h')
 (hdef:defOf q r.name=some (d,kwd)) (hp:r.prog.theDef r.name=some (d.params,d.body,d.scope)) (hk:kwWritten? d.params.kwonlyargs d.params.kw_defaults=some kwd) (hRf:∀s,Xt s=true->RecFacts r.records s.heap) (hwr:(!r.writes||r.records.isEmpty)=true)
 (k1:r.wellSaid=true) (ok:(chainsOk q&&opensWell r.prog&&(frees r.toRowW&&r.within.isEmpty))=true) (hb:r.prog.bare) (hw:r.toRowW.promised)
 (call:Ku q loose XP YP r.toRowW d kwd λf vs=>adz f vs):r.Holds:=by
 refine⟨k1,hw,Gh (r:=r.toRowW) (run:=λf vs=>adz f vs) (tree:=λvs=>do match←nsGet mainNs r.name with
  |some f=>do ret (←adz f vs)
  |none=>unsupported "claim.caller:no-such-global") left hY hYk hX hXk hRf hwr ok hb hw
  (λvs w s mg f Q hg hf h=>Aw (Q8 (wpAny_nsGet hg (by rw[hf];exact Aw (tP h (λ_ _ x=>Kt x))))))
  (λw s hg G n hn=>?_) λw s₀ s₁ mg mb G Y args vs as hpre hlay L low=>?_⟩
 ·obtain rfl:n=r.name:=by split at hn <;> simp_all
  exact pinned_of_view hg G hdef hp hk
 ·obtain⟨a,o,pm,cd,doc,dV,kV,h1,h2,h3,h4,h5⟩:=G.fn hdef
  exact⟨.ref a,h1,call w s₀ s₁ mg mb G Y a o pm cd doc dV kV h2 h3 h4 h5 (defOf_name hdef▸h1) L.gens args vs as hpre hlay L.reads L.well (L.low low)⟩
end
noncomputable def Es(env:Env)(names:List Str)(n:Nat):Cx:={env,rv:=env.locals::env.cells.map (·.2),keep:=[],outer:=[],frs:=[env.locals],w:=λ_ _=>False,stk:=[env],names,lvl:=n,ro:=false}
section
variable{g:Gl}{K:Frag}{s:Ws}{vs:List V}{xs:List Wn}{f:Addr}{fd:aaZ}{body:List Stmt}{params names:List Str}{n:Nat}{hp:Heap}{tk:Nat}{env:Env}{W:PT}{Q:V->AH->Prop}
theorem M9(fo:EL g f fd body params names [])(hlen:vs.length=params.length)(hB:s.heap=g.B)(hg:s.gens=#[])(ho:s.os=g.os)(hv:∀F:FZ,(∀a o,g.B.get? a=some o->NF o->F a o)->bo g F vs xs)(he:env=aeJ fd s.heap.objs.size f)
 (x:InCallC s env.locals (bindL env.kindOf (params.zip xs) λ_=>none) env.cells (bindC env.kindOf (params.zip xs) λ_=>none) { s with heap:=hp,toks:=tk}) :
 aI g (Es env names n) [] [] ⟨vs.map some++Xb (names.length-params.length) none,λ_=>none⟩ { s with heap:=hp,toks:=tk}:=by
 have hL:s.heap.objs.size=env.locals:=by rw[he];rfl
 have hk:∀b o,s.heap.get? b=some o->hp.get? b=some o:=x.toInCall.keep
 have hns:hp.Ns env.locals _:=x.toInCall.ns
 have new:∀{a},a∈env.locals::env.cells.map (·.2)->s.heap.objs.size<=a:=λh=>(Wo.mp h).elim (λe=>Xz (hL.trans e.symm)) λh=>let⟨p,hp,e⟩:=WN.mp h;hL▸Xy (e▸x.above p.1 p.2 hp)
 have lookC:∀p∈env.cells,env.cells.lookup p.1=some p.2:=by
  subst he
  exact λp hp=>dB (jl fd.scope.names _ [] .nil (λ_ h=>nomatch h) fo.uniq) hp
 have bk:∀b o,g.B.get? b=some o->hp.get? b=some o:=λb o e=>hk b o (hB▸e)
 have hF:∀a o,g.B.get? a=some o->NF o->Fz hp (λ_=>none) (env.locals::env.cells.map (·.2)) a o:=λa o e nf=>⟨bk a o e,rfl,λq=>Xq.mpr (new q) (W6 (hB▸e)),nf⟩
 have locOb:∃o,hp.get? env.locals=some o∧NF o:=hns.elim λo h=>h.elim λ_ h=>h.elim λ_ h=>⟨o,h.1,c7 h.2.1 rfl⟩
 have hall:=hv _ hF
 exact
 {ok:=
  {kind:=he▸fo.kind,globals:=he▸fo.glob,builtins:=he▸fo.bi,apart:=x.apart,names:=fo.nodup,head:=⟨_,_,rfl,rfl⟩
   stk:=λe h=>by rw[WB.mp h];exact⟨he▸fo.kind,_,by rw[he];rfl,.head _⟩
   own:=.head _
   frs:=λa h=>by rw[WB.mp h];exact .head _
   cells:=λp h=>⟨.tail _ (WN.mpr ⟨p,h,rfl⟩),YN (x.above p.1 p.2 h),λq=>YN (x.above p.1 p.2 h) (WB.mp q)⟩
   keep:=λp h=>nomatch h
   outer:=λp h=>nomatch h
   free:=λp h _ _=>⟨λq hq=>(nomatch hq),λq hq=>(nomatch hq)⟩}
  base:=bk,gens:=hg,os:=ho
  known:=λa o e=>ns e
  rsv:=λa h=>⟨by rw[←hB];exact new h,(Wo.mp h).elim (λe=>e▸locOb.imp λ_ z=>z.1) λh=>let⟨p,hp,e⟩:=WN.mp h;(x.cell p.1 p.2 (lookC p hp)).imp λ_ z=>e▸z.1⟩
  frs:=λa h=>by rw[WB.mp h];exact locOb
  keep:=λp h=>nomatch h
  outer:=λp h=>nomatch h
  cl:=λp h=>⟨_,x.cell p.1 p.2 (lookC p h)⟩
  loc:=⟨_,hns,λi y v hy hv'=>CU fo hall hlen he x hy hv'⟩
  wait:=λa o h=>h.elim
  tmp:=rfl}
theorem Kv(T:Top g K)(fo:EL g f fd body params names [])(hT:∀cx,c5 cx fd.scope names n true->AL g cx body W)(hlen:vs.length=params.length)(hB:s.heap=g.B)(hg:s.gens=#[])(ho:s.os=g.os)(hv:∀F:FZ,(∀a o,g.B.get? a=some o->NF o->F a o)->bo g F vs xs)
 (hn:n<=29) (hw:W (λfl st=>Fin Q (EM fl) st.h) (λst=>yQ (λ_=>False) st.h) ⟨vs.map some++Xb (names.length-params.length) none,λ_=>none⟩)
 (k:∀v x F h s',VR g F v x->Q v h->g.B.StaysIn s'.heap->s'.gens=#[]->s'.os=g.os->Qv x s'):wq g ack (call (.ref f) xs) Qv (λ_ _=>False) s:=by
 obtain⟨o,ho',hdat⟩:=fo.at_
 have hlx:xs.length=params.length:=by rw[←hlen];exact((hv (λa o=>g.B.get? a=some o) λa o e _=>e).length)
 refine jN (p9 (o:=o) (fd:=fd) dD (hB▸ho') hdat fo.co fo.gen fo.body (hB▸fo.code) ?_)
 refine fo.bind s xs (hB▸λ_ _ e=>e) hlx _ _ _ _ ?_
 rw[fo.clo,WT]
 have hkind:∀x∈params.zip xs,fd.scope.names.lookup x.1=some .local∨(fd.scope.names.lookup x.1=some .cell∧((acY (s.heap.objs.size+1) fd.scope.names []).lookup x.1).isSome=true):=λx hx=>
  (fo.kinds x.1 (ab2 hx).1).imp id λk=>⟨k,cellsFrom_some _ _ _ _ (.inl (aX k))⟩
 refine aez fo.kind hkind (λenv he s' x=>?_)
 have he':env=aeJ fd s.heap.objs.size f:=he
 obtain⟨h',t',rfl⟩:=x.toInCall.same
 refine⟨(hB▸T.nolim:s.heap.NoLimit).keeps x.toInCall.keep,CV ?_⟩
 have RC:=M9 (n:=n) fo hlen hB hg ho hv he' x
 have ck:c5 (Es env names n) fd.scope names n true:=⟨by rw[he'];rfl,λ_=>by rw[he'];rfl,rfl,rfl,fo.uniq,λ_ y hy=>by rw[he'];exact Yj.mp (cellsFrom_some _ _ _ _ (.inl (aX hy))),λ_=>⟨_,rfl⟩,λ_=>rfl⟩
 have oa':gL (Es env names n).stk n (ack.deeper env):=⟨rfl,Wh (WD (W9 20 hn) 302) dD,Wh (WD (W9 100 hn) 7) dD,rfl⟩
 refine be (hT _ ck oa' RC hw) (λfl s2 u=>?_) λe s2 u=>?_
 ·have bc:∀{v:V} {x:Wn} {st':St},aI g (Es env names n) [v] [x] st' s2->Fin Q v st'.h->Qv x s2:=λR2 q=>by
   obtain⟨v',h1,R3,q'⟩:=Fin.out q (loc:=_) R2
   exact k _ _ _ _ _ R3.tmp.1 q' R3.base R3.gens R3.os
  cases u with
  |next R2 q=>exact bc (R2.push (v:=.none) (x:=.none) gp) q
  |ret R2 q=>exact bc R2 q
 ·cases u with
  |mk R2 hf q=>exact q.elim λ_ z=>z.2.elim
end
noncomputable def Et(K:Frag)(C:Addr):Bool:=Xo K (.ref C) "__eq__" == some (some (.builtin "object.__eq__"))&&Xo K (.ref C) "__ne__" == some (some (.builtin "object.__ne__"))&&abb K (.type "str") (.ref C)==some false&&abb K (.ref C) (.type "object")==some true
section
variable{prog:abK}{w:abI}{A:Xm}{E:Wn->Ws->Prop}{s:Ws}{K:Frag}{x C:Addr}{ox:Obj}{od:Option Obj}{u:Str}{t:Tok}{args:List Wn}
theorem vR{name:Str}{id:String}{Q:Option Wn->Ws->Prop}(X:K.In s.heap)(I:InstAt s.heap x ox C od)(hs:Xo K (.ref C) name=some (some (.builtin id)))(hb:∀self,bindSpecial (.builtin id) self=pure (.builtin id,[self]))
 (h:WJ (YW prog w) A (call (.builtin id) (.ref x::args)) (λv=>Q (some v)) E s):WJ (YW prog w) A (abf (.ref x) name args) Q E s:=by
 refine Xu (Wl (Wl (Wl (I.type.here ((adB X hs).here ?_)))))
 refine Wl (Yx (wpAny_ite ?_))
 have bc:WJ (YW prog w) A (call (.builtin id) ([.ref x]++args)>>=λv=>pure (some v)) Q E s:=Wl (Ym h (λv s' h'=>Wq h') λ_ _ h'=>h')
 split
 ·rw[hb];exact Az ((Wq bc))
 ·rw[hb];exact wpAny_tryCatch (Az ((Wq bc)))
theorem Kw{Q:Option Wn->Ws->Prop}(X:K.In s.heap)(I:InstAt s.heap x ox C od)(d:Xo K (.ref C) "__eq__" = some (some (.builtin "object.__eq__")))(y:abb K (.ref C) (.type "object")=some true)(q:Q (some .notImplemented) s) :
 wpAny (YW prog w) A (abf (.ref x) "__eq__" [.str u t]) Q E s:=
 vR X I d F.slot_object_eq.bind (abt (aaX F.slot_object_eq.plain F.cmpEntry_eq (aeK F.cmpKind_eq F.cmpSplit_eq (I.type.andThen (looks_subIn X y)) (F.cmpArgs_eq _ _) (Wq q))))
theorem Q9{Q:Option Wn->Ws->Prop}(X:K.In s.heap)(I:InstAt s.heap x ox C od)(j:A.units+1<afq)(y:Xo K (.ref C) "__eq__" = some (some (.builtin "object.__eq__")))(i:Xo K (.ref C) "__ne__" = some (some (.builtin "object.__ne__")))(d:abb K (.ref C) (.type "object")=some true)(q:Q (some .notImplemented) s) :
 wpAny (YW prog w) A (abf (.ref x) "__ne__" [.str u t]) Q E s:=
 vR X I i F.slot_object_ne.bind (abt (aaX F.slot_object_ne.plain F.cmpEntry_ne (aeK F.cmpKind_ne F.cmpSplit_ne (I.type.andThen (looks_subIn X d)) (F.cmpArgs_ne _ _) (Wl (m:=slotArgs "__ne__" 1 _) (Wq (Wl (wpAny_cRoomFor (A:=A.in1) j (Wl (Kw X I y d (Wq q))))))))))
theorem CE{c d:Addr}{Q:Ws->Prop}(hx:s.heap.get? x=some (GB c d))(q:Q s):WJ (YW prog w) A (XQ.«str.__eq__» ⟨[.str u t,.ref x],[]⟩) (λbc y=>∃r,bc=.done (.ret r)∧r=.notImplemented∧Q y) E s:=by
 obtain⟨hp,g,j,tk,os⟩:=s
 wp_walk using wpAny_loadPart' hx
 exact⟨_,rfl,rfl,q⟩
theorem CF{c d:Addr}{Q:Ws->Prop}(hx:s.heap.get? x=some (GB c d))(q:Q s):WJ (YW prog w) A (XQ.«str.__ne__» ⟨[.str u t,.ref x],[]⟩) (λbc y=>∃r,bc=.done (.ret r)∧r=.notImplemented∧Q y) E s:=by
 obtain⟨hp,g,j,tk,os⟩:=s
 wp_walk using wpAny_loadPart' hx
 exact⟨_,rfl,rfl,q⟩
theorem Eu{c d:Addr}{od:Option Obj}{op:CmpOp}{id:String}{b:XQ}{Q:Wn->Ws->Prop}{r:Bool}(hx:s.heap.get? x=some (GB c d))(X:K.In s.heap)(I:InstAt s.heap x (GB c d) c od)(i:A.units<afq)(e:abb K (.type "str") (.ref c)=some false)
 (h1:∀Q',Q' (some .notImplemented) s->WJ (YW prog w) A (abf (.ref x) (cmpInfo op).2.1 [.str u t]) Q' E s) (sl:Slot "str" (cmpInfo op).2.2 id) (hb:YG aaf id=some b) (ha:Yu id ⟨[.str u t,.ref x],[]⟩)
 (g:∀{Q':Ws->Prop},Q' s->WJ (YW prog w) A.in1 (b ⟨[.str u t,.ref x],[]⟩) (λbc y=>∃r,bc=.done (.ret r)∧r=.notImplemented∧Q' y) E s)
 (j:(op=.Eq∧r=false)∨(op=.NotEq∧r=true)) (q:Q (.bool r) s):WJ (YW prog w) A (richCompare op (.ref x) (.str u t)) Q E s:=by
 unfold richCompare
 simp only[oneThing_ref]
 refine Xu (c6 (λ_ q=>wpAny_cRoomFor i q) ?_)
 refine Wl (I.type.here (Az (?_)))
 rw[if_pos (show(ZA c != Yo "str")=true from rfl)]
 refine c6 (λ_ q=>(looks_subIn X e).here q) ?_
 rw[if_neg Xc]
 refine Wl ?_
 refine Wl (h1 _ (Wq ?_))
 refine Wl (m:=tryCompare _ _ _) (wpAny_tryCompare_declines (T:= "str") rfl sl (Y9 sl rfl hb (Ym (g (Q':=λy=>y=s) rfl) (λbc y z=>?_) λ_ _ x=>x) ha))
 obtain⟨f,k,p,rfl⟩:=z
 refine⟨f,k,p,?_⟩
 rcases j with⟨rfl,rfl⟩|⟨rfl,rfl⟩
 ·exact Wl (YD (Wl (Wq (Wq q))))
 ·exact Wl (YD (Wl (Wq (Wq q))))
end
set_option tactic.hygienic true in
theorem Na{g:Gl}{K:Frag}(X:K.In g.B)(h:∀c,(g.tab.lookup c).isSome=true->Et K c=true):jk g:=by
 intro c vs u t A s x b f k
 have e:=h c (ZE k)
 obtain⟨rfl,h1,m,o,D,J⟩:=aex k
 have i:=aJ e
 have p:=aJ i.1
 have z:=aJ p.1
 have j:=X.keeps f
 rename_i a d ks xs n
 have I:InstAt s.heap a (GB c d) c (some (TR (om g.P ks xs) n)):=⟨h1,rfl,rfl,m⟩
 have y:A.units+1<cLine:=Wz (Ww b) dD
 exact⟨λprog w E Q q=>Eu (op:=.Eq) h1 j I (Nat.lt_of_succ_lt y) (eq_of_beq p.2) (λQ' q=>Kw j I (eq_of_beq z.1) (eq_of_beq i.2) q) F.slot_str_eq_refl F.entry_str_eq (F.args_str_eq_2 _ _) (λq=>CE h1 q) (.inl ⟨rfl,rfl⟩) q,
  λprog w E Q q=>Eu (op:=.NotEq) h1 j I (Nat.lt_of_succ_lt y) (eq_of_beq p.2) (λQ' q=>Q9 j I y (eq_of_beq z.1) (eq_of_beq z.2) (eq_of_beq i.2) q) F.slot_str_ne_refl F.entry_str_ne (F.args_str_ne_2 _ _) (λq=>CF h1 q) (.inr ⟨rfl,rfl⟩) q⟩
noncomputable def CG(v:V)(x:Wn):Bool:=match v with
 | .int i=>(match x with | .int j _=>i==j|_=>false)
 | .str i=>(match x with | .str j _=>j.cps.toList==i&&Zz i.length 16777216|_=>false)
 | .bytes i=>(match x with | .bytes j _=>j.toList==i&&Zz i.length 16777216|_=>false)
 |_=>false
noncomputable def yq:List V->List Wn->Bool
 | [],[]=>true
 |v::vs,x::xs=>CG v x&&yq vs xs
 |_,_=>false
noncomputable def Oo(o:Option Obj)(vs:List V):Bool:=match o with
 |some ⟨.type T,none,.seq xs _,sl⟩=>T== "tuple" && sl.isEmpty&&Zz xs.toList.length 1000000&&yq vs xs.toList
 |_=>false
noncomputable def TG(K:Frag)(v:V)(x:Wn):Bool:=match v with
 | .tup vs=>(match x with | .ref a=>Oo (K.lookup a) vs|_=>false)
 |v=>CG v x
section
variable{g:Gl}{K:Frag}{F:FZ}{v:V}{x:Wn}
theorem Ew(h:CG v x=true):VR g F v x:=by
 cases v <;> first|exact ff h|skip
 ·cases x <;> first|exact ff h|skip
  obtain rfl:=eq_of_beq h
  exact⟨_,rfl⟩
 ·cases x <;> first|exact ff h|skip
  have h:=aJ h
  exact⟨Wj h.2,_,by rw[←eq_of_beq h.1]⟩
 ·cases x <;> first|exact ff h|skip
  have h:=aJ h
  exact⟨Wj h.2,_,by rw[←eq_of_beq h.1]⟩
theorem Kx:∀{vs:List V} {xs:List Wn},yq vs xs=true->bo g F vs xs:=by
 intro w1
 induction w1 with
 |nil=>
  intro w2
  cases w2 with
  |nil=>
   intro _
   exact rfl
  |cons w3 w4=>
   intro h
   exact ff h
 |cons v vs ih=>
  intro w5
  cases w5 with
  |nil=>
   intro h
   exact ff h
  |cons x xs=>
   intro h
   exact⟨Ew (aJ h).1,ih (aJ h).2⟩
set_option tactic.hygienic true in
theorem Ra(h:Oo o vs=true)(k:∀ob,o=some ob->NF ob->F a ob):VR g F (.tup vs) (.ref a):=by
 cases o with
 |none=>exact ff h
 |some ob=>
  obtain⟨c,d,dt,sl⟩:=ob
  cases c <;> first|exact ff h|skip
  cases d <;> first|exact ff h|skip
  cases dt <;> first|exact ff h|skip
  rename_i T xs n
  have h1:=aJ h
  have h2:=aJ h1.1
  have h3:=aJ h2.1
  obtain rfl:=eq_of_beq h3.1
  obtain rfl:sl=#[]:=Array.isEmpty_iff.mp h3.2
  exact show bQ _ _ _ _ from .mk (xs:=xs.toList) rfl (k _ rfl (c7 rfl rfl)) (Wj h2.2) (Kx h1.2)
theorem TH(X:K.In g.B)(h:TG K v x=true)(F:FZ)(hF:∀a o,g.B.get? a=some o->NF o->F a o):VR g F v x:=by
 cases v with
 |tup vs=>
  cases x <;> first|exact ff h|skip
  exact Ra h λob e nf=>hF _ _ (X _ _ e) nf
 |_=>exact Ew h
end
noncomputable def nsHas(K:Frag)(x:Str)(p:Wn->Bool):Bool:=match nsIn K XH x with
 |some (some v)=>p v
 |_=>false
noncomputable def Ky(K:Frag)(x:Str):Bool:=match nsIn K XH x with
 |some none=>true
 |_=>false
noncomputable def n8(a:Addr)(v:Wn):Bool:=match v with
 | .ref b=>YB a b
 |_=>false
theorem n9{K:Frag}{x:Str}{p:Wn->Bool}(h:nsHas K x p=true):∃v,nsIn K XH x=some (some v)∧p v=true:=by
 unfold nsHas at h
 generalize e:nsIn K XH x=zz;cases zz with
 |none=>rw[e]at h;exact ff h
 |some o=>cases o with
  |none=>rw[e]at h;exact ff h
  |some v=>rw[e]at h;exact⟨v,rfl,h⟩
theorem Nb{K:Frag}{x:Str}(h:Ky K x=true):nsIn K XH x=some none:=by
 unfold Ky at h
 generalize e:nsIn K XH x=zz;cases zz with
 |none=>rw[e]at h;exact ff h
 |some o=>cases o with
  |none=>rfl
  |some v=>rw[e]at h;exact ff h
theorem mh(h:n8 a v=true):v=.ref a:=by
 cases v <;> first|exact ff h|skip
 exact congrArg ZA (Yl h).symm
noncomputable def badI:Addr:=36
noncomputable def TJ:List Value:=[.ref 39,.type "Exception",.type "BaseException",.type "object"]
structure Fc(K:Frag):Prop where
 tops:(NR.all λp=>nsHas K p.1 (TG K p.2)&&!cG p.1 h8)=true
 defs:(NS.all λp=>nsHas K p.1 (n8 p.2)&&!cG p.1 h8&&keepIn K (.ref p.2))=true
 bis:((LO.map (·.1)++[Wg "range",Wg "sorted",Wg "set"]).all λx=>Ky K x&&!cG x h8&&!cG x (Wg "__name__"))=true
 exc:nsHas K (Wg "BadObject") (n8 cp)=true
 tab:(ql.all λp=>jo p.2&&Zz p.2.length 50&&p.2.all (rW K p.1)&&Et K p.1)=true
 meth:(Iy.all λp=>p.2.c.all λq=>oI K q.1 p.1 q.2&&!((ql.lookup q.1).getD []).any (cG p.1))=true
 bad:∀h,K.In h->G3 h cp TJ
 badK:keepIn K (.ref cp)=true
 badC:∀S rest,peek K S (XZ "Exception.__new__" ⟨.ref cp::rest,[]⟩)=some ()
 badI:Xo K (.ref cp) "__init__" = some (some (.ref badI))
 badT:typeIn K (.ref Mine.Internal.badI)=some (.type "function")
 badF:oH K cp Mine.Internal.badI (lq K Mine.Internal.badI) (Wg "self") (Wg "told")
theorem tQ{α:Type}{l:List (Str×α)}{f:Str×α->Bool}{x:Str}{v:α}(h:l.all f=true)(e:iR l x=some v):f (x,v)=true:=by
 rw[ry]at e
 exact W0.mp h _ (aX e)
theorem all_cons{α:Type}{P:α->Prop}{a:α}{l:List α}(h:P a)(t:∀x∈l,P x):∀x∈a::l,P x:=λx hx=>(Wo.mp hx).elim (λe=>e▸h) (t x)
theorem rL{α:Type}{P:α->Prop}:∀x∈([]:List α),P x:=λ_ h=>nomatch h
structure Va(g:Gl)(p:Str×Wn×BW):Prop where
 b:acm p.1=some p.2.1
 k:Keeps g p.2.1
 w:fG g p.2.1 p.2.2
structure M5(g:Gl)(name:Str)(m:MT):Prop where
 b:BM g "bytes" name m.b
 s:BM g "str" name m.s
 l:BM g "list" name m.l
 d:BM g "dict" name m.d
 a:BM g "bytearray" name m.a
section
variable{g:Gl}{K:Frag}{x:Str}{name:Str}{T:String}{id:String}{w:BW}
theorem aP:BM g T name none:=λ_ h=>ns h
theorem gk(b:Nr T name id)(o:fG g (.builtin id) w):BM g T name (some (id,w)):=λp h=>by
 obtain rfl:=W4 h
 exact⟨b,o⟩
theorem Rb:∀p∈LO,Va g p:=
 all_cons ⟨by kernel_rfl,dC _,fG.one Pc⟩<|all_cons ⟨by kernel_rfl,dC _,fG.one OX⟩<|all_cons ⟨by kernel_rfl,dC _,fG.one OY⟩<|
 all_cons ⟨by kernel_rfl,dc _,fG.one OZ⟩<|all_cons ⟨by kernel_rfl,dc _,fG.one O0⟩<|all_cons ⟨by kernel_rfl,dc _,fG.one K5⟩<|
 all_cons ⟨by kernel_rfl,dc _,fG.one GX⟩<|all_cons ⟨by kernel_rfl,dc _,fG.one Hs⟩<|all_cons ⟨by kernel_rfl,dc _,Sj⟩ rL
theorem Vb:∀p∈Iy,M5 g p.1 p.2:=
 all_cons ⟨aP,aP,gk ⟨F.plainAttrs_list,ac1,F.type_list_append⟩ A8,aP,gk ⟨FX.Sh,FX.Ho,FX.Hq⟩ zf⟩<|
 all_cons ⟨gk ⟨YY,FX.Rg,FX.Rh⟩ Hj,gk ⟨adH,F.slot_str_find,F.type_str_find⟩ Hm,aP,aP,aP⟩<|
 all_cons ⟨aP,aP,aP,gk ⟨F.plainAttrs_dict,F.slot_dict_get,F.type_dict_get⟩ Lg,aP⟩<|
 all_cons ⟨aP,aP,aP,aP,aP⟩<|
 all_cons ⟨gk ⟨YY,FX.Gi,FX.Gj⟩ Hk,gk ⟨adH,F.slot_str_join,F.type_str_join⟩ Hl,aP,aP,aP⟩<|
 all_cons ⟨aP,aP,aP,aP,aP⟩<|
 all_cons ⟨gk ⟨YY,FX.EX,FX.EY⟩ E6,aP,aP,aP,aP⟩<|
 all_cons ⟨aP,aP,aP,aP,aP⟩<|
 all_cons ⟨aP,aP,gk ⟨F.plainAttrs_list,F.slot_list_pop,F.type_list_pop⟩ Lh,aP,aP⟩<|
 all_cons ⟨gk ⟨YY,FX.A4,FX.A5⟩ zb,aP,aP,aP,aP⟩<|
 all_cons ⟨aP,aP,aP,aP,aP⟩<|
 all_cons ⟨aP,aP,aP,aP,gk ⟨FX.Sh,FX.Gn,FX.Gr⟩ wy⟩<|
 all_cons ⟨aP,aP,aP,aP,aP⟩<|
 all_cons ⟨aP,aP,aP,aP,aP⟩<|
 all_cons ⟨gk ⟨YY,FX.EV,FX.EW⟩ E8,aP,aP,aP,aP⟩<|
 all_cons ⟨gk ⟨YY,aej,FB.type_bytes_startswith⟩ A7,aP,aP,aP,aP⟩<|
 all_cons ⟨aP,aP,aP,aP,aP⟩<|
 all_cons ⟨gk ⟨YY,FX.EZ,FX.E0⟩ E7,gk ⟨adH,F.slot_str_upper,F.type_str_upper⟩ Fb,aP,aP,aP⟩ rL
theorem Nc:(NT.all λp=>p.2.all λq=>(((ql.lookup q.1).getD [])[q.2]?).any (cG p.1))=true:=by kernel_rfl
theorem Rd(k:K.In g.B)(nl:g.B.NoLimit)(ns:∃mg mb,g.B.Ns XH mg∧g.B.Ns aaO mb∧∀x:Str,x≠ "__name__" -> mb x=acm x)(t:g.tab=ql)(F:Fc K):Top g K:=
 ⟨nl,k,ns,λc ns e=>by
  have q:=aJ (W0.mp F.tab _ (aX (t▸e)))
  have q1:=aJ q.1
  have q2:=aJ q1.1
  exact⟨gQ q2.1,Wj q2.2,W0.mp q1.2⟩,
 Na k λc h=>by
  obtain⟨ns,e⟩:=Yj.mp h
  exact(aJ (W0.mp F.tab _ (aX (t▸e)))).2⟩
theorem tR(h:(!cG x h8)=true):(x==("__debug__" : Str))=false:=si▸mz (cw h)
theorem Ax(T:Top g K){a:Addr}(h:nsHas K x (n8 a)=true)(d:(x==("__debug__" : Str))=false):lg g x (.raw (.ref a)):=by
 obtain⟨v,e,h⟩:=n9 h
 obtain rfl:=mh h
 intro cx pos hk
 exact vt (v:=.raw (.ref a)) T e d (λF hF=>rfl) hk
theorem oh(T:Top g K)(h:(Ky K x&&!cG x h8&&!cG x (Wg "__name__"))=true)(b:acm x=some val):lg g x (.raw val):=by
 have q:=aJ h
 have q1:=aJ q.1
 intro cx pos hk
 exact Bt T (Nb q1.1) b (λe=>by rw[b6.mpr e]at q;exact ff q.2) (tR q1.2) hk
theorem Rf(T:Top g K)(F:Fc K):yR g K TJ badI (lq K badI) (Wg "self") (Wg "told"):=
 ⟨⟨F.bad _ T.k,dD,dD,dD,dD⟩,F.badI,F.badT,F.badF,λx=>by kernel_rfl,dD,wk T F.badK,F.badC⟩
theorem TK(T:Top g K)(t:g.tab=ql)(F:Fc K)(n:Nat):fe g K (NU n):=
 {top:=T,bad:=⟨_,_,_,_,_,Rf T F⟩
  excN:=Ax T F.exc dD
  excK:=by
   obtain⟨v,e,h⟩:=n9 F.exc
   exact mh h▸e
  excD:=by kernel_rfl
  tops:=λx v e=>by
   have q:=aJ (tQ F.tops e)
   obtain⟨val,h1,h2⟩:=n9 q.1
   intro cx pos hk
   exact vt (x:=x) (v:=v) T h1 (tR q.2) (TH T.k h2) hk
  fns:=λx k e=>by
   have bi:∀y∈LO.map (·.1)++[Wg "range",Wg "sorted",Wg "set"],(Ky K y&&!cG y h8&&!cG y (Wg "__name__"))=true:=W0.mp F.bis
   rw[ry]at e
   rcases WO.mp (aX e)with m|m
   ·rcases WO.mp m with m|m
    ·obtain⟨p,hp,e⟩:=WN.mp m
     obtain⟨rfl,rfl⟩:=abY e
     have q:=aJ (W0.mp F.defs _ hp)
     have q1:=aJ q.1
     exact .fn (Ax T q1.1 (tR q1.2)) (wk T q.2)
    ·obtain⟨p,hp,e⟩:=WN.mp m
     obtain⟨rfl,rfl⟩:=abY e
     have b:=Rb (g:=g) p hp
     exact .bw (oh T (bi _ (Yp _ (X8 hp))) b.b) b.k b.w
   ·have bi:=λy hy=>bi y (WW _ hy)
    rcases Wo.mp m with e|m
    ·obtain⟨rfl,rfl⟩:=abY e
     exact .range (oh T (bi _ (.head _)) (by kernel_rfl))
    ·rcases Wo.mp m with e|m
     ·obtain⟨rfl,rfl⟩:=abY e
      exact .sort (oh T (bi _ (.tail _ (.head _))) (by kernel_rfl)) (dC _)
     ·rcases Wo.mp m with e|m
      ·obtain⟨rfl,rfl⟩:=abY e
       exact .set (oh T (bi _ (.tail _ (.tail _ (.head _)))) (by kernel_rfl)) (dc _)
      ·cases m
  attr:=λname ix e c i h=>by
   have q:=W0.mp (tQ Nc e) _ (aX h)
   unfold Gl.names
   rw[t]
   obtain⟨y,h1,h2⟩:=any_some q
   rw[show name=y from b6.mp h2];exact h1
  meth:=λname m e=>by
   have q:=tQ F.meth e
   rw[ry]at e
   have m5:=Vb (g:=g) _ (aX e)
   exact⟨m5.b,m5.s,m5.l,m5.d,m5.a,λc f h=>by
    have q:=aJ (W0.mp q _ (aX h))
    refine⟨q.1,λz=>?_⟩
    unfold Gl.names at z
    rw[t]at z
    exact ff ((cw q.2).symm.trans (ZT.mpr ⟨_,z,b6.mpr rfl⟩))⟩}
end
theorem Nd(x:IntsAre vs xs):bo g F (xs.map .int) vs:=by
 induction x with
 |nil=>exact rfl
 |cons n t r d=>exact⟨⟨t,rfl⟩,d⟩
structure Fd(K:Frag):Prop where
 f:Fc K
 kn:∀g,(∀n,fe g K (NU n))->g.tab=ql->Kn g K
 law:nsHas K (Wg "law") (n8 626)=true
noncomputable def Kz(P:adR)(h:Heap)(v:Wn)(d:WData):Prop:=match d with
 | .int i=>∃t,v=.int i t
 | .list ws=>∃l q,v=.ref l∧h.get? l=some { cls:=.type "list",data:=.seq (Yy q)}∧WellAll P h q ws
 |_=>True
theorem KA(x:Well P h v d):Kz P h v d:=by
 induction x using Well.casesOn with
 |int i t=>exact⟨t,rfl⟩
 |list e k=>exact⟨_,_,rfl,e,k⟩
 |_=>exact trivial
theorem Ay(x:WellAll P h vs ws):ws=[]->vs=[]:=by
 induction x using WellAll.casesOn with
 |nil=>exact λ_=>rfl
 |cons=>exact λe=>absurd e (WM _ _)
theorem Nf(ws:List WData):∀{vs:List Wn},WellAll P h vs ws->WShape.hasItems R ws .int=true->∃xs,IntsAre vs xs∧xs.length=ws.length:=by
 induction ws with
 |nil=>exact λa _=>⟨[],Ay a rfl▸.nil,rfl⟩
 |cons d r c=>
  intro vs a e
  have e:=aJ (show(WShape.has R d .int&&WShape.hasItems R r .int)=true from e)
  obtain⟨i,u⟩:=hasW_int e.1
  obtain⟨v,p,y,q,z⟩:=wellAll_cons_inv a
  obtain⟨xs,x,l⟩:=c z e.2
  obtain⟨t,j⟩:=(show Kz P h v (.int i)from KA (u▸q))
  exact⟨i::xs,y▸j▸.cons _ _ x,congrArg adU l⟩
theorem KC{w:abI}{h:Heap}{args:List WData}{vals:List Wn}(y:Z4.row.toRowW.claim.pre args=true)(j:WellAll w.params h vals args) :
 ∃xs l q,vals=[.ref l]∧h.get? l=some { cls:=.type "list",data:=.seq (Yy q)}∧IntsAre q xs∧xs.length<=63:=by
 have p:=pre_splitW y
 obtain⟨d,r,f,hd,g⟩:=hasAllW_cons p.1
 obtain⟨ws,m,u⟩:=hasW_list hd
 have e:args=[.list ws]:=by rw[f,m,hasAllW_nil g]
 subst e
 have c:=condW_of (X:=!decide ((63:Int)<ws.length)) (holds_andW p.2).1 rfl
 obtain⟨v,o,i,a,b⟩:=wellAll_cons_inv j
 obtain⟨l,q,z,e,k⟩:=(show Kz _ h v (.list ws)from KA a)
 obtain⟨xs,x,n⟩:=Nf ws k u
 exact⟨xs,l,q,by rw[i,z,Ay b rfl],e,x,n▸X2.mp (Y7.mp (of_decide_eq_false (cw c)))⟩
theorem Wf{q:abK}{loose:List Str}{XP:(Str->Option Wn)->Heap->Prop}{K:adR->Frag}{as:List Addr}{e:∀P,as=(K P).map (·.1)}{d:DefRec}{kwd:List (Str×Expr)}(hn:d.name=Wg "law")(F:∀P,Fd (K P)) :
 Ku q loose XP (kHook K as e).says Z4.row.toRowW d kwd λf vs=>adz f vs:=by
 intro w s₀ s₁ mg mb G Y a o pm cd doc dV kV ho hd hcd hD hmg hg args vals as' hpre hlay hrd hwl hlo
 have KX:=kIn_of Y
 have T:=G.T
 have FF:=F w.params
 obtain⟨v,e1,e2⟩:=n9 FF.law
 obtain rfl:=mh e2
 have hm:=mg_of KX T.g e1
 rw[hn,hm]at hmg
 obtain rfl:626=a:=Value.ref.inj (W4 hmg)
 obtain⟨xs,l,its,rfl,hL,hI,hc⟩:=KC hpre hwl
 have big:64<=s₁.heap.objs.size:=Xy (Wz dD (W6 ho))
 let g:Gl:=⟨Z4.row.prog,w,s₁.heap,s₁.os,ql,big⟩
 have TT:Top g (K w.params):=Rd KX T.nolimit ⟨mg,mb,T.g,T.b,T.builtins⟩ rfl FF.f
 have H:=TK TT rfl FF.f
 have kn:=FF.kn g H rfl
 have fo:=rz (dvals:=[]) TT.k kn.theLaw.good λs vals _ hl=>BindsTo.of_eq (by rw[WT];exact sm vals (hl▸kn.theLaw.bind))
 have z:wq g ack (call (.ref 626) [.ref l]) (λv s'=>GoodWG Z4.row.claim (classAt s₀.heap) (adI s₀.heap) args s₁ (.ok (.ret v)) s') (λ_ _=>False) s₁:=by
  refine Kv (vs:=[.lst (xs.map .int)]) (n:=11) TT fo (λcx c=>kn.theLaw.word g 11▸(Dp (H 11) 14).ss (sc:=Fy (K w.params) sV.a sV.names sV.grow) (ls (K w.params) sV.a) c) rfl rfl hg rfl (λF hF=>?_) dD
   (Tc (X:=λ_=>False) kn (TC kn) Kq) λv x F h s' hv hb keep hgens hos=>?_
  ·refine⟨.mk (xs:=its) rfl (hF _ (sq "list" its 0) hL (c7 rfl rfl)) ?_ (Nd hI),rfl⟩
   rw[IntsAre.length hI]
   exact Wh hc dD
  ·obtain rfl:v=.bool true:=hb
   obtain rfl:x=.bool true:=hv
   exact⟨.inl ⟨_,.bool true,[],rfl,λ_=>rfl,.bool true,by kernel_rfl,λ_=>⟨.nil,λ_ h=>nomatch h⟩⟩,.of_keep keep,hos,.of_eq hgens⟩
 exact λΓ p h1 h2=>aad _ _ _ (λ_ _ _ h=>h) (λ_ _ _ h=>h) _ _ (z Γ p h1 h2)
end Mine.Internal
end
set_option maxRecDepth 1000000
namespace Mine.Internal.hd
section
local macro_rules
 | `(command|universe $x)=>do
  let c ←Mine.Internal.TM.mapM λn=>`(command|theorem $(Lean.mkIdent n)  : True:=trivial)
  pure (Mine.Internal.Ud (.node .none `null (c.map (·.raw)).toArray))
universe u
end
end Mine.Internal.hd
namespace Mine.Internal
open Mine.Internal
set_option Elab.async true
set_option maxHeartbeats 40000000 in
theorem hd:acd.Holds:=by
 w_on
 o_law
 k_head
 (case hw=>w_witness2)
 exact Mine.Internal.Wf rfl λP=>
  ⟨⟨by kernel_rfl,by kernel_rfl,by kernel_rfl,by kernel_rfl,by kernel_rfl,by kernel_rfl,λ_ X=>.mk (X _ _ rfl),by kernel_rfl,λ_ _=>by kernel_rfl,by kernel_rfl,by kernel_rfl,
   ⟨(zq (by kernel_rfl)).elim λc h=>h.elim λd h=>h.elim λsl e=>⟨_,e,rfl⟩,by kernel_rfl,⟨⟨15,8,15,12⟩,⟨15,8,15,17⟩,⟨15,20,15,24⟩,⟨15,8,15,24⟩,by kernel_rfl⟩,by kernel_rfl,by kernel_rfl,by kernel_rfl,by kernel_rfl,by kernel_rfl,
    λx hx z=>ff ((cw (W0.mp (show((lq (Mine.Internal.hd.heap_1_39 P) badI).scope.names.all λy=>!(y.2==.cell))=true by kernel_rfl) x hx)).symm.trans (beq_iff_eq.mpr z)),
    by kernel_rfl,by kernel_rfl,by kernel_rfl,by kernel_rfl,by kernel_rfl,by kernel_rfl,λs e x X=>lu X λS=>by kernel_rfl⟩⟩,
   λg H t=>by
    apply Kn.mk H (all_cons (by kernel_rfl) (all_cons (by kernel_rfl) (all_cons (by kernel_rfl) (all_cons (by kernel_rfl) (all_cons (by kernel_rfl) (all_cons (by kernel_rfl) rL)))))) (all_cons ⟨by kernel_rfl,by kernel_rfl⟩ (all_cons ⟨by kernel_rfl,by kernel_rfl⟩ (all_cons ⟨by kernel_rfl,by kernel_rfl⟩ (all_cons ⟨by kernel_rfl,by kernel_rfl⟩ (all_cons ⟨by kernel_rfl,by kernel_rfl⟩ (all_cons ⟨by kernel_rfl,by kernel_rfl⟩ rL)))))) t
    all_goals first
     |exact⟨by kernel_rfl,by (repeat intro _);show aca _ _=_;kernel_rfl,λ_ _=>by kernel_rfl⟩
     |exact⟨by kernel_rfl,by (repeat intro _);show peek _ _ _=_;kernel_rfl,by (repeat intro _);show peek _ _ _=_;kernel_rfl,λ_ _=>by kernel_rfl⟩,by kernel_rfl⟩
end Mine.Internal
theorem PySem.Challenge.cw_nt0286_01_holds : PySem.Challenge.rw_nt0286_01.Holds :=
  Mine.Internal.hd
