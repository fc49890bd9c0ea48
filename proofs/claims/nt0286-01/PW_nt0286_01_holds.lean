import PyProof.Rows.All
import Wide.All
import OpenK.AllK
import Wide.FinOn
import PySem.Challenge.RW_nt0286_01
open _root_.PySem.Str renaming ofString->V3
open _root_.Nat renaming le_trans->V4,le_of_ble_eq_true->V5,le_refl->Wh,succ_le_succ->Wm,lt_of_le_of_lt->Wp,le_add_right->Wq,add_le_add_left->Wu,add_le_add_right->Wv,add_le_add->Wx,zero_le->Wy,lt_of_lt_of_le->WA,add_assoc->WJ,ne_of_lt->WW,mul_le_mul_left->WX,add_comm->W4,not_lt->Xh,zero_add->Xn,le_of_lt->Xo,le_of_eq->Xp,le_succ->Xq,succ_pos->Xs,lt_trans->Xz,add_right_comm->XQ,le_add_left->XU,lt_succ_self->XX,le_of_succ_le_succ->X7,le_of_succ_le->X9,eq_of_beq_eq_true->Yb,lt_add_of_pos_right->Yi,le_succ_of_le->Yq,beq->Yr,min_le_right->YC,ne_of_gt->YD,eq_zero_of_le_zero->YS,sub_le->YW,lt_of_succ_lt_succ->Zo,ble->Zp,le_of_lt_succ->Zz,min_eq_left->ZZ,succ_mul->aac,ble_eq->aat,mul_le_mul_right->aaw,sub_lt_sub_left->aaK,add_lt_add_left->aaL,sub_add_cancel->aa3,lt_succ_of_le->abd,add_left_comm->abe,mod_eq_of_lt->abu,sub_self->abO,mul_succ->abP,mod_lt->abQ,not_lt_zero->abT,min_le_left->abU,le_antisymm->abV,two_mul->acg,add_sub_cancel'->acv,lt_irrefl->acx,toUInt8->adf,mul_pos->adg,zero_lt_one->adB,succ->adM,succ_pred_eq_of_pos->aeh,add_sub_cancel_left->aei,sub_eq_zero_iff_le->aeJ,lt_asymm->aeK,add_zero->aeL,not_succ_le_zero->ae9,not_succ_le_self->afa,log2_lt->afb
open _root_.List renaming length_append->V6,length_map->Wd,mem_cons->Wf,size_toArray->Wk,append_assoc->Wn,mem_singleton->Wr,cons_ne_nil->WB,mem_map->WC,mem_append->WD,map_append->WE,append_nil->WH,contains_iff_mem->WI,mem_append_right->WK,length_cons->WM,map_cons->WO,all_eq_true->WQ,length_drop->WV,replicate->WZ,eq_nil_of_length_eq_zero->W7,isEmpty_iff->Xa,getElem?_eq_getElem->Xb,drop_drop->Xc,length_take->Xi,getElem?_eq_some_iff->Xm,range->Xw,mem_of_getElem?->Xx,map_map->Xy,nodup_cons->XG,mem_map_of_mem->XY,getElem?_toArray->XZ,length_nil->X6,casesOn->Yd,mem_append_left->Yg,cons_append->Yh,toArray->Yo,length_reverse->Ys,take_append_drop->Yz,getElem?_map->YF,flatten_cons->YG,map_id'->YQ,any_cons->YT,take_left->YU,eq_append_cons_of_mem->YV,length_range->Y2,map_eq_nil_iff->Zb,length_eq_zero_iff->Zc,drop_left->Zd,take_of_length_le->Zj,filter_eq_nil_iff->Zk,drop_eq_nil_of_le->Zl,find?_cons->Zr,pairwise_map->Zx,length_eraseIdx_of_lt->ZE,getElem?_append_right->ZF,mem_flatMap->ZI,getElem_mem->ZJ,any_eq_true->ZK,getElem_of_mem->ZM,flatten_append->ZN,head?_drop->ZW,contains_cons->Z0,any_eq_false->Z9,length_singleton->aai,cons_lt_cons_iff->aaj,take_length->aal,mem_reverse->aam,append_cons->aan,mem_of_mem_take->aau,mem_of_mem_drop->aav,nil_append->aaz,length_set->aaA,foldl_cons->aaB,mem_filterMap->aaV,map_singleton->aaW,lt_irrefl->aaX,getElem?_append_left->aa7,extract_eq_take_drop->aa8,take_add_one->abb,reverse_cons->abc,map_take->abf,map_drop->abg,not_mem_nil->abp,filter_cons_of_pos->abq,filter_cons_of_neg->abr,flatten_singleton->abC,of_mem_zip->abR,mem_filter->abS,extract_toArray->ab5,dropLast_concat->ab6,map_congr_left->acn,append_toArray->aco,pairwise_cons->acy,findIdx?_eq_some_iff_getElem->acI,foldl_append->acQ,eraseIdx_eq_take_drop_succ->acU,lookup_cons->ac2,isEmpty_map->ac3,lookup->ac8,length->ac9,headD_cons->adh,forIn_cons->adi,foldr_cons->adj,dropLast_concat_getLast->adk,take_zero->adF,tail_drop->adG,foldl_nil->adH,pairwise_iff_getElem->adN,drop_eq_getElem_cons->adO,lt_trans->adU,getElem?_take_of_lt->adV,filterMap_cons_some->adW,all_cons->adX,take->ad4,pairwise_singleton->ad5,lookup_eq_some_iff->ad6,getElem?_replicate->ad7,zipWith_cons_cons->aej,sum_replicate_nat->aek,range_succ_eq_map->ael,map_nil->aem,take_eq_take_min->aeM,length_filter_le->aeN,reverse_reverse->aeW,rec->aeX,not_lt->aeY,mem_of_getLast?->aeZ,map_eq_cons_iff->ae0,getLast?_append->ae1,getElem?_of_mem->ae2,replicate_succ->afc,length_flatten->afd,map_replicate->afm,filter_append->afn
open _root_.PySem renaming wpAny_bind->V7,Value->V9,wpAny_pure->Wg,Shared->Wj,wpAny->Wz,builtinLookup_eq_fast->WN,sizeLine_eq->WT,Builtin->W6,typeLookup_type->W8,Around->Xd,wpAny_holding->Xk,isSubtype_type->Xu,mainGlobals->Xv,standAt->XC,Builtin->XE,holding->XH,entryFor_of_tree->XJ,entryFor_of_fast->XM,checkBuiltinCall->XN,starEach->X0,wpAny_setState_of->X1,wpAny_mono->Yc,argsOk->Yk,wpAny_askSetting->Yn,wpAny_rule->Yt,wpAny_newObj_type->Yu,foldedSetIterable->Yv,entryFor->Yw,builtinType_eq_fast->Yy,wpAny_callSpecial?_slot->YK,model->YL,codeAny_builtin->YR,wpAny_call_entry->YZ,assign->Y1,rawInt->Y5,wpAny_specialOf->Y6,wpAny_truthy_bool->Y7,wpAny_loadPart_at->Y8,SetTable->Y9,Scope->Za,wpAny_newList->Ze,backTo->Zf,wpAny_isInstance->Zm,NameKind->Zn,wpAny_setField_rec->Zw,swappedStores->ZA,plainId_quiet->ZC,call_meets->ZO,swapsWith->ZT,compareOp->ZU,wpAny_isSubtype_exc->Z1,table->Z6,builtinType->aae,wpAny_seqItems->aap,wpAny_load->aaC,isInstance->aaD,builtinsNs->aaE,assignEach->aaF,DictEntry->aaG,wpAny_mkBytes->aaI,Fin->aaJ,evalPart->aaM,codeAny_call_builtin->aaN,FuncData->aaP,pyNext->aaZ,codeAny_of_tree->aa0,callSpecialIfBound?->aa5,operate->aa9,wpAny_call->abi,typeLookup->abj,call_gives->abk,spliced->abw,World->abx,Program->abz,wpAny_attempt->abE,typeOf->abF,isTrue->abG,clipAt->abH,behindInMarks->abI,Result->abJ,Comprehension->abK,scanBound->abW,noteFrame->abX,evalPairs->abY,bindArgs->abZ,relabel->ab7,callerA->ab8,bootBuiltins->ab9,allTrue->aca,theTreesLotGoes->ach,wpAny_mkInt->acz,wpAny_loadPart->acA,wpAny_loadName_local->acB,wpAny_fieldsOf->acC,wpAny_field->acD,subscripted->acE,sizeLine->acF,relayAll->acG,setNext->acM,seqIndex?->acN,raiseStmt->acO,cellsFrom->acP,wpAny_standAt->acW,attributeBase->acX,typeIs_str->ac4,pyIter->ac5,wpAny_typeOf->adl,wpAny_pyIter_list->adm,slot_list_getitem->adn,compTurn->ado,codeAny->adp,call->adq,IntMulOk->ady,wpAny_lookBehind->adI,Params->adJ,wpAny_point->adP,wpAny_of_eq->adQ,keywordEach->adR,again->adS,wpAny_updateSeq->adZ,letOwnedTupleGo->ad0,exec_Assign_arm->ad1,getItem->aea,Keyword->aed,wpAny_newTuple->aeq,wpAny_newFunctionEnv_cells->aer,sysModules->aes,newFunctionEnv->aet,methodCallForm->aeu,markedBehindIn->aev,execs->aew,entry_typeCall->aex,closureFor->aey,clipAt_nat->aez,callWith->aeA,callEnvC->aeB,wpAt_of_wpAny->aeQ,wpAny_getItem_list_slice->ae3,swapsWithSole->ae4,comprehension->ae5,assignInOrder->ae6,wpAny_unpackItems_tuple->aff,isSubtype->afg,clausesOf->afh,cLine->afi,Gives->afj
open _root_.And renaming intro->V8,left->Zt,right->aep
open _root_.PySem.Heap renaming get?_push_of_some->Wl,get?_push_size->WG,lt_size->WU,get?_update_self->W9,SameBut->Xg,get?_update_ne->ZL,dictOf_iff->aay,size_push->aaS,ExtBut->ab4,size_update->acY,get?_update_other->aee,get?_none_of_le->aeS
open _root_.Classical renaming byContradiction->Wo,propDecidable->W5,em->Yj
open _root_.False renaming elim->Ws
open _root_.Int renaming natCast_nonneg->Ww,ofNat_lt->Xl,ofNat_le->XS,toNat_of_nonneg->YJ,not_lt->YX,lt_of_le_of_lt->Z2,add_sub_cancel->Z3,le_refl->aax,le_trans->aaQ,fmod_eq_emod_of_nonneg->aa4,eq_ofNat_of_zero_le->abv,natAbs_natCast->acK,natCast_succ->ada,natCast_add->adC
open _root_.Option.some renaming inj->WR
open _root_.Option renaming casesOn->WY,isSome_iff_exists->X8,map_eq_some_iff->Yl,map->Ym,bind_eq_some_iff->YE,isNone_iff_eq_none->YY,map_map->Z5,eq_none_iff_forall_ne_some->acu,join_eq_some_iff->adL,none->aeg,isSome_map->ae8,bind_some->afl
open _root_.Bool renaming false_ne_true->W0,eq_iff_iff->XT,or_eq_false_iff->X4,and_eq_true_iff->X5,eq_false_iff->YH,or_true->Y3,casesOn->Y4,or_false->Zs,and_false->aaa,and_eq_true->aao,and_assoc->aaY,and_true->acw,not_not->aeo,or_eq_true_iff->afe,false_eq_true->afo
open _root_.PySem.W renaming typeIs_bytes->Xe,findIn->Xf,bytesKind->YM,emptyDict->aaf,subIn->aa1,hideAll_none->aba,of_hideAll->acd,instObj->ace,putName_dict->ads,looks_findIn->adt,hideAll->adu,drawn->adv,Looks->adT,check_slot->aeC,isBytes_shape->ae7
open _root_.PySem.Obj renaming mapSeq->Xj,data_mapFields->aa2,isFreed_of_fields->ab0,mapBytearray->ac6
open _root_.Nat.succ renaming inj->Xr
open _root_.Exists renaming imp->XF,intro->adY,elim->aen
open _root_.PySem.Around renaming under_plainId->XI
open _root_.PyProof.Rows renaming up1->XO,seqObj->YI,size_push'->aaH,wpAny_release'->abn,arrOf->abB,subscriptTail->abL,tail_any->ab3,listUpdate_at->ac1,slot_list_sort->aeH,oneType'->aeI
open _root_.Ne renaming symm->XW
open _root_.PySem.Heap.SameBut renaming update->X2
open _root_.PySem.Value renaming type->Ye,bytes->YO,ref->Zq,none->aaO
open _root_.Array renaming length_toList->Yp,getElem?_eq_some_iff->aaR,toList->acL,size_push->adb,perm_iff_toList_perm->adD,toArray_toList->aeO,toList_push->afp
open _root_.Int.ofNat renaming inj->Yx
open _root_.PySem.Code renaming quiet_builtin->YA
open _root_.PySem.Builtin.Bytes renaming window->YB,bytesLike->Y0,searchArgs->ZG,joined->ZH,toUpper->ZR,toLower->ZS,order->aas,occurrences->aa6,order->abl,containsIn->abm,bound?->abt,joinLetGo->abA,decodersThatHold->ab2,toUpper->aci,toLower->acj,payload->ack,between->acm,bindOptional->acs,exported->acT,find?->ac0,tooLong->adK,takeBufferQuiet?->ad3,write->aeF,checkResize->afk
open _root_.PySem.W.FB renaming plainAttrs_bytes->YN,args_bytes_contains_2->ZX,entry_bytes_contains->Z7,slot_bytes_contains->aag,slot_bytes_getitem->aaq,slot_bytes_startswith->aeb,args_bytes_getitem_2->aeD,entry_bytes_getitem->aeR
open _root_.List.cons renaming inj->Zg
open _root_.PySem.NameKind renaming free->Zh
open _root_.Lean renaming Syntax->Zi,Name->ad8
open _root_.PySem.W.KBy renaming buffer_eq->Zu
open _root_.PySem.SetTable renaming grown->Zv,below->ZY,orStandIn->aec
open _root_.PySem.PyData renaming keyHash->Zy
open _root_.PySem.Builtin.Range renaming rangeSize->ZD,small->Z8,rangeFitsLong->aab
open _root_.PySem.F renaming called_set->ZP,plain_extend_loop->aaT,slot_list_append->acS,excBase_Exception->ade,plainAttrs_str->adz
open _root_.PySem.Builtin.Str renaming glued->ZQ,strSliceIndices->aah,occurrences->acZ
open _root_.PySem.Challenge renaming rw_nt0286_01->ZV,rw_nt0286_01->ab1
open _root_.PySem.Sem renaming wp_mono->Z4,wp_bind'->aeE
open _root_.UInt8 renaming lt_iff_toNat_lt->aad,toNat_ofNat'->acp,toNat->acV
open _root_.PySem.Builtin.List renaming listFitsIndex->aak,listLengthHint->acr
open _root_.PySem.Builtin renaming divisionGoesByPylong->aar,bitAnd->ac7
open _root_.PySem.Builtin.Bytes.Kind renaming bytes->aaU,same->aeG,new->aeT
open _root_.ForInStep renaming yield->abh
open _root_.PySem.Heap.IsSliceOf renaming new->abo
open _root_.PySem.SetTable.below renaming go->aby
open _root_.Function renaming const->abD
open _root_.PyProof.Rows.F renaming plain_set_update_loop->abM,entry_set_update_loop->aeV
open _root_.Prod.mk renaming inj->abN
open _root_.PySem.Flow renaming next->acf
open _root_.PySem.StrLaws renaming found_one->acq,sliceIdx_none_lo->adw,sliceIdx_none_hi->adx
open _root_.PySem.Calls renaming Name_function_global->acH,call_function_entry->adE
open _root_.Lean.Macro renaming throwUnsupported->acJ
open _root_.PySem.W.WData renaming layableAll->acR
open _root_.PySem.ExcName renaming means->adA
open _root_.PySem.ScopeKind renaming function->ad2
open _root_.Std.Legacy renaming Range->ad9
open _root_.PySem.Heap.DictOf renaming new->aef
open _root_.Array.Perm renaming refl->aeP
open _root_.PyProof.Rows.SortSt renaming mk'->aeU
open PySem PySem.W PySem.Calls PyProof.Rows
set_option genSizeOf false
set_option genInjectivity false
set_option linter.all false
section
set_option Elab.async false
set_option autoImplicit true
set_option maxRecDepth 100000
set_option tactic.hygienic false
set_option compiler.extract_closed false
namespace Internal
@[elab_as_elim] theorem Rw.l{α:Sort _}{a b:α}{P:α->Prop}(e:a=b)(h:P b):P a:=e▸h
@[elab_as_elim] theorem Rw.r{α:Sort _}{a b:α}{P:α->Prop}(e:b=a)(h:P b):P a:=e▸h
theorem Iq{α:Sort _}{P:α->Prop}(a:α)(h:P a):P a:=h
theorem dD{p:Prop}[Decidable p](h:decide p=true:=by kernel_rfl):p:=of_decide_eq_true h
def synN(k:ad8)(l:Array Zi):Zi:=.node .none k l
def synA(s:String):Zi:=.atom .none s
def synI(n:ad8):Zi:=.ident .none "".toRawSubstring n []
def synC(s:Zi)(l r:List ad8):Zi:=
 let f:=λn=>synN `Lean.Parser.Term.app #[synI n,synN `null #[s[1][0][1]]]
 synN `Lean.Parser.Tactic.first #[synA "first",synN `null (((if s[3].isNone then r.map (λn=>synN `Lean.Parser.Tactic.exact #[synA "exact",f n])++[synN `Lean.Parser.Tactic.obtain #[synA "obtain",synN `null #[synN `Lean.Parser.Tactic.rcasesPatMed #[synN `null #[synN `Lean.Parser.Tactic.rcasesPat.one #[synI `rfl]]]],synN `null #[],synN `null #[synA ":=",synN `null #[f `Option.some.inj]]]]else[])++l.map λn=>synN `Lean.Parser.Tactic.induction #[synA "induction",s[1],synN `null #[synA "using",synI n],synN `null #[],s[3]]).toArray.map λx=>synN `null #[synA "|",x])]
def T1(s:Zi):Zi:=s.rewriteBottomUp λx=>x.setInfo .none
def Tt:List ad8:=
 let t:=[50,84,140,170,210,271,332,365,412,466,528,612,700,729]
 let l:=(Xw 692).filterMap λi=>
  let k:=i+40
  if k==39||k==48||k==731 then some s!"heap_1_{k}" else if k==40 then some "view_1_40" else if k==42 then some "env_1_42"
  else if t.contains k then some s!"tree_1_{k}" else if t.contains (k-2)then some s!"sts_1_{k}" else if k<44||k==49||t.contains (k-1)then none else some s!"o_1_{k}"
 (`PySem.Challenge.pw_nt0286_01::("heap_1_39" :: l).map λs=>(`Tactic.hd).str s).map λn=>.str .anonymous s!"tw{n.hash}"
def Vu(s:Zi):Zi:=
 let d:=if s[1].isOfKind `Lean.Parser.Command.definition||s[1].isOfKind `Lean.Parser.Command.abbrev then s.setArg 0 (s[0].setArg 4 (synN `null #[synN `Lean.Parser.Command.noncomputable #[synA "noncomputable"]]))else s
 T1 d
@[elab_as_elim] theorem UZ{P:Nat->Prop}{k:Nat}(h:k<2)(h0:P 0)(h1:P 1):P k:=by
 cases k with
 |zero=>exact h0
 |succ k=>exact Nat.lt_one_iff.mp (Zo h)▸h1
@[elab_as_elim] theorem U0{P:Nat->Prop}{k:Nat}(h:k<3)(h0:P 0)(h1:P 1)(h2:P 2):P k:=by
 cases k with
 |zero=>exact h0
 |succ k=>exact UZ (P:=λk=>P (k+1)) (Zo h) h1 h2
theorem Rk(hl:k+1<=l)(hu:u<=m)(h:a+m*l<=c):a+u+m*k<=c:=
 V4 (Xp ((WJ a u _).trans (congrArg (a+·) (W4 u _)))) (V4 (Wu (V4 (Wu hu _) (WX m hl)) a) h)
theorem Oe{n:Nat}(h:0<n):((-1:Int)+n).toNat=n-1∧0<=(-1:Int)+n∧(-1:Int)+n<n∧-(n:Int)<=-1:=by
 cases n with
 |zero=>exact absurd h (acx _)
 |succ m=>
  have e:(-1:Int)+((m+1:Nat):Int)=m:=by rw[ada,Int.add_comm (m:Int),Int.neg_add_cancel_left]
  rw[e]
  exact⟨rfl,Ww _,Xl.mpr (XX m),Int.neg_le_neg (XS.mpr h)⟩
theorem U1{k:Int}(h0:0<=k){m:Nat}(h:k.toNat<m)(hm:m<=16777216):k<2^63:=by
 rw[←YJ h0]
 exact Int.lt_trans (Xl.mpr (WA h hm)) (by decide)
section
theorem Vv(l:∀R:α->Wj->Prop,R a s'->Wz M A m R E s)(h:Wz M A (f a) Q E s'):Wz M A (m>>=f) Q E s:=V7 (l _ h)
theorem V1(h:Wz M A (f a) Q E s):Wz M A (pure a>>=f) Q E s:=h
theorem V2(e:m=pure a)(h:Wz M A (f a) Q E s):Wz M A (m>>=f) Q E s:=e▸h
end
end Internal
local macro_rules (kind:=Lean.Parser.Tactic.cases)
 |s=>if s[1][0][1].isIdent&&s[1][0][0].isNone then pure (Internal.synC s [`Bool.casesOn,`Option.casesOn,`List.casesOn,`Internal.V.casesOn,`Internal.O.casesOn,`PySem.Expr.casesOn,`PySem.Stmt.casesOn,`Except.casesOn,`Or.casesOn,`Internal.DK.casesOn,`fail] [`Internal.ff,`Internal.ns,`Internal.sn,`Internal.tf])else acJ
local macro_rules
 | `(tactic|rewrite[$e:term])=>`(tactic|first|refine Internal.Rw.l $e ?_|refine Internal.Rw.l ($e ..) ?_|fail)
local macro_rules
 | `(tactic|rewrite[← $e:term])=>`(tactic|first|refine Internal.Rw.r $e ?_|refine Internal.Rw.r ($e ..) ?_|fail)
local macro_rules
 | `(tactic|rewrite[$r,$rs,*])=>`(tactic|(rewrite[$r];rewrite[$rs,*]))
local macro_rules (kind:=Lean.Parser.Command.declaration)
 |s=>if s.getPos?.isNone then acJ else pure (Internal.Vu s)
namespace Tactic
section
open PySem.Builtin
def findIn(b sub:List UInt8)(k:Nat):Option Nat:=((Xw (b.length+1-(k+sub.length))).map (· + k)).find? λi=>(b.drop i).take sub.length==sub
def a8(b sub:List UInt8)(k:Nat):Int:=match(if b.length<k+sub.length then none else findIn b sub k)with
 |some i=>(i:Int)
 |none=>-1
section
variable{b sub:List UInt8}{t u v:Tok}
theorem extract_toArray(l:List UInt8)(i n:Nat):l.toArray.extract i (i+n)=((l.drop i).take n).toArray:=by
 rw[ab5,aa8];congr 2;lia
theorem jg(l sub:List UInt8)(i:Nat):(l.toArray.extract i (i+sub.toArray.size)==sub.toArray)=((l.drop i).take sub.length==sub):=by
 rw[Wk,extract_toArray,XT];simp
theorem Ct(l sub:List UInt8)(k:Nat):ac0 l.toArray sub.toArray k l.length=findIn l sub k:=by
 unfold ac0 findIn
 rw[Wk]
 congr 1
 funext i
 have:=jg l sub i
 rw[Wk]at this
 exact this
theorem pZ(n k:Nat):YB n (some (k:Int)) none=((k:Int),(n:Int)):=by
 unfold YB
 simp;lia
theorem Ap(n:Nat):YB n none none=(0,(n:Int)):=by
 unfold YB
 have h:¬((n:Int)<0):=by simp +arith
 simp[h]
theorem yi:ZG .bytes "find" ⟨[.bytes b.toArray t,.bytes sub.toArray u],[]⟩=pure (b.toArray,sub.toArray,if b.length<0+sub.length then none else some (0,b.length)):=by
 unfold ZG
 have e1:∀id:String,selfAndSome id "find" 1 3 ⟨[.bytes b.toArray t,.bytes sub.toArray u],[]⟩=pure (.bytes b.toArray t,[.bytes sub.toArray u]):=λ_=>rfl
 have e2:∀v:Option V9,v=none->abt v=pure none:=λv h=>by subst h;rfl
 simp only[e1,pure_bind]
 rw[e2 _ (by rfl),e2 _ (by rfl)]
 simp only[pure_bind,adh,Zu]
 show(pure (b.toArray,sub.toArray,if(YB b.toArray.size none none).2-(YB b.toArray.size none none).1<((sub.toArray.size:Nat):Int)then none else some ((YB b.toArray.size none none).1.toNat,(YB b.toArray.size none none).2.toNat)):Sem _)=_
 rw[Ap,Wk,Wk]
 congr 3
 by_cases h:b.length<0+sub.length
 ·rw[if_pos h,if_pos (by omega)]
 ·rw[if_neg h,if_neg (by omega)];rfl
theorem yj(k:Nat):ZG .bytes "find" ⟨[.bytes b.toArray t,.bytes sub.toArray u,.int k v],[]⟩=pure (b.toArray,sub.toArray,if b.length<k+sub.length then none else some (k,b.length)):=by
 unfold ZG
 have e1:∀id:String,selfAndSome id "find" 1 3 ⟨[.bytes b.toArray t,.bytes sub.toArray u,.int k v],[]⟩=pure (.bytes b.toArray t,[.bytes sub.toArray u,.int k v]):=λ_=>rfl
 simp only[e1,pure_bind]
 have e2:∀v:Option V9,v=none->abt v=pure none:=λv h=>by subst h;rfl
 have e3:∀x:Option V9,x=some (.int k v)->abt x=pure (some (k:Int)):=λx h=>by subst h;rfl
 rw[e3 _ (by rfl),e2 _ (by rfl)]
 simp only[pure_bind,adh,Zu]
 show(pure (b.toArray,sub.toArray,if(YB b.toArray.size (some (k:Int)) none).2-(YB b.toArray.size (some (k:Int)) none).1<((sub.toArray.size:Nat):Int)then none else some ((YB b.toArray.size (some (k:Int)) none).1.toNat,(YB b.toArray.size (some (k:Int)) none).2.toNat)):Sem _)=_
 rw[pZ,Wk,Wk]
 congr 3
 by_cases h:b.length<k+sub.length
 ·rw[if_pos h,if_pos (by omega)]
 ·rw[if_neg h,if_neg (by omega)];rfl
theorem yk(hq:Made.post (.int (a8 b sub k)) Q s) :
 wpAny M A ((pure (b.toArray,sub.toArray,if b.length<k+sub.length then none else some (k,b.length)):Sem (Array UInt8×Array UInt8×Option (Nat×Nat)))>>=λx=>match x with
  |(b,sub,w)=>match w.bind λ(lo,hi)=>if false=true then Bytes.rfind? b sub lo hi else ac0 b sub lo hi with
   |some i=>retInt i
   |none=>do
    rule s!"{Bytes.Kind.bytes.name}.{"find"}.not-found"
    if false=true then raiseError "ValueError" "subsection not found" else retInt (-1)) (λbc s'=>∃v,bc=.done (.ret v)∧Q v s') E s:=by
 refine Internal.V1 (?_)
 unfold a8 at hq
 by_cases h:b.length<k+sub.length
 ·rw[if_pos h]at hq
  simp only[if_pos h]
  exact V7 (Yt (V7 (acz (Wg ⟨_,rfl,hq⟩))))
 ·rw[if_neg h]at hq
  simp only[if_neg h,afl,afo,if_false]
  rw[Ct]
  generalize e:findIn b sub k=zz;cases zz with
  |some i=>rw[e]at hq;exact V7 (acz (Wg ⟨_,rfl,hq⟩))
  |none=>rw[e]at hq;exact V7 (Yt (V7 (acz (Wg ⟨_,rfl,hq⟩))))
theorem M0:afj (XE.«bytes.find» ⟨[.bytes b.toArray t,.bytes sub.toArray u],[]⟩) (.int (a8 b sub 0)):=by
 refine .of_wp λM A E s Q d=>?_
 show Wz M A (ZG .bytes "find" ⟨[.bytes b.toArray t,.bytes sub.toArray u],[]⟩>>=_) _ E s
 rw[yi]
 exact yk d
theorem M1(k:Nat):afj (XE.«bytes.find» ⟨[.bytes b.toArray t,.bytes sub.toArray u,.int k v],[]⟩) (.int (a8 b sub k)):=by
 refine .of_wp λM A E s Q d=>?_
 show Wz M A (ZG .bytes "find" ⟨[.bytes b.toArray t,.bytes sub.toArray u,.int k v],[]⟩>>=_) _ E s
 rw[yj]
 exact yk d
end
def cQ(b sub:List UInt8)(k:Nat):Bool:=if b.length<k+sub.length then false else(b.drop k).take sub.length==sub
theorem Cu{b sub:List UInt8}{t u v:Tok}(k:Nat):afj (XE.«bytes.startswith» ⟨[.bytes b.toArray t,.bytes sub.toArray u,.int k v],[]⟩) (.val (.bool (cQ b sub k))):=by
 refine .of_wp λM A E s Q q=>?_
 unfold XE.«bytes.startswith» Bytes.tailMatchM
 have y:∀id:String,selfAndSome id "startswith" 1 3 ⟨[.bytes b.toArray t,.bytes sub.toArray u,.int k v],[]⟩=pure (.bytes b.toArray t,[.bytes sub.toArray u,.int k v]):=λ_=>rfl
 simp only[y,pure_bind]
 have i:∀v:Option V9,v=none->abt v=pure none:=λv h=>by subst h;rfl
 have j:∀x:Option V9,x=some (.int k v)->abt x=pure (some (k:Int)):=λx h=>by subst h;rfl
 have z:aaD (.bytes sub.toArray u) (.type "tuple")=pure false:=by
  have e:aaD (.bytes sub.toArray u) (.type "tuple")=afg (.type "bytes") (.type "tuple"):=rfl
  rw[e,Xu];kernel_rfl
 rw[j _ (by rfl),i _ (by rfl)]
 simp only[pure_bind,adh,Zu]
 have c:ack (.bytes b.toArray t)=pure b.toArray:=rfl
 refine Wg ⟨_,rfl,?_⟩
 rw[Wk,pZ]
 have key:(if(b.length:Int)-(k:Int)<(sub.toArray.size:Nat)then false else b.toArray.extract ((k:Int).toNat) ((k:Int).toNat+sub.toArray.size)==sub.toArray)=cQ b sub k:=by
  unfold cQ
  rw[Int.toNat_natCast,jg,Wk]
  by_cases h:b.length<k+sub.length
  ·rw[if_pos h,if_pos (by omega)]
  ·rw[if_neg h,if_neg (by omega)]
 have d:Q (.bool (cQ b sub k)) s:=q
 rw[←key]at d
 exact d
theorem M2{b:List UInt8}{t:Tok}:afj (XE.«bytes.lower» ⟨[.bytes b.toArray t],[]⟩) (.bytes (b.map acj).toArray):=
 .of_wp λM A E s Q d=>by
  show Wz M A (mkBytes (b.map acj).toArray>>=λv=>ret v) _ E s
  exact V7 (aaI (Wg ⟨_,rfl,d.2⟩) d.1)
theorem Aq{b:List UInt8}{t u:Tok}{i:Int}(h0:0<=i)(h1:i<256):afj (XE.«bytes.__contains__» ⟨[.bytes b.toArray t,.int i u],[]⟩) (.val (.bool (b.contains i.toNat.toUInt8))):=
 .of_wp λM A E s Q d=>by
  have e:b.toArray.contains i.toNat.toUInt8=b.contains i.toNat.toUInt8:=by simp
  show Wz M A (abm "bytes.__contains__" (.bytes b.toArray t) (.int i u)>>=λv=>ret (.bool v)) _ E s
  unfold abm
  rw[Zu]
  refine V7 ?_
  show Wz M A (if(decide (i<0)||decide (i≥256))=true then _ else _) _ E s
  rw[if_neg (by simp;omega)]
  rw[e]
  exact Wg (Wg ⟨_,rfl,d⟩)
end
section
open PySem.Builtin
def aL(c:UInt8):List UInt8->List (List UInt8)
 | []=>[[]]
 |x::r=>if x=c then[]::aL c r else match aL c r with
  |h::t=>(x::h)::t
  | []=>[[x]]
def aP(d:List UInt8):List (List UInt8)->List UInt8
 | []=>[]
 | [x]=>x
 |x::y::r=>x++d++aP d (y::r)
theorem gH(c:UInt8):∀l:List UInt8,aL c l≠[]:=by
 intro d
 induction d with
 |nil=>
  simp[aL]
 |cons x r q=>
  unfold aL
  split
  ·simp
  ·split <;> simp
theorem yl(c x:UInt8):∀(l:List UInt8) (ps:List (List UInt8)) (z:List UInt8),aL c l=ps++[z]->aL c (l++[x])=if x=c then ps++[z,[]]else ps++[z++[x]]:=by
 intro m
 induction m with
 |nil=>
  intro ps z h
  have:ps=[]∧z=[]:=by
   cases ps with
   |nil=>simp[aL]at h;exact⟨rfl,h⟩
   |cons a b=>simp[aL]at h
  obtain⟨rfl,rfl⟩:=this
  by_cases q:x=c <;> simp[aL,q]
 |cons y r d=>
  intro ps z h
  have u:=gH c r
  by_cases q:y=c
  ·have e:aL c (y::r)=[]::aL c r:=by simp[aL,q]
   rw[e]at h
   cases ps with
   |nil=>simp at h;exact absurd h.2 u
   |cons a b=>
    simp at h
    obtain⟨rfl,h⟩:=h
    have d:=d b z h
    have g:aL c (y::(r++[x]))=[]::aL c (r++[x]):=by simp[aL,q]
    rw[g,d]
    split <;> simp
  ·generalize j:aL c r=k;cases k with
   |nil=>exact absurd j u
   |cons h1 w=>
    have e:aL c (y::r)=(y::h1)::w:=by simp[aL,q,j]
    rw[e]at h
    have key:∀i t2,aL c (r++[x])=i::t2->aL c (y::(r++[x]))=(y::i)::t2:=λi t2 f=>by simp[aL,q,f]
    cases ps with
    |nil=>
     simp at h
     obtain⟨rfl,rfl⟩:=h
     have d:=d [] h1 (by rw[j];rfl)
     show aL c (y::(r++[x]))=_
     by_cases p:x=c
     ·rw[if_pos p]at d ⊢
      rw[key _ _ d];rfl
     ·rw[if_neg p]at d ⊢
      rw[key _ _ d];rfl
    |cons a b=>
     simp at h
     obtain⟨rfl,rfl⟩:=h
     have d:=d (h1::b) z (by rw[j];rfl)
     show aL c (y::(r++[x]))=_
     by_cases p:x=c
     ·rw[if_pos p]at d ⊢
      rw[key _ _ d];rfl
     ·rw[if_neg p]at d ⊢
      rw[key _ _ d];rfl
def hG(c:UInt8)(b:List UInt8)(i:Nat):Bool:=b[i]?==some c
theorem ym(b:List UInt8)(c:UInt8)(i:Nat)(h:i<b.length):(b.toArray.extract i (i+#[c].size)==#[c])=hG c b i:=by
 have:(#[c]:Array UInt8)=[c].toArray:=rfl
 rw[this,jg]
 unfold hG
 have e:(b.drop i).take 1=[b[i]]:=by
  rw[adO h];rfl
 rw[show[c].length=1 from rfl,e,Xb h]
 rw[XT];simp
theorem Gh(b:List UInt8)(c:UInt8):∀n,n<=b.length->∃k,k<=n∧(Xw n).foldl (λ(acc:List Nat×Nat) i=>if i≥acc.2&&b.toArray.extract i (i+#[c].size)==#[c]then(i::acc.1,i+#[c].size)else acc) ([],0)=(((Xw n).filter (hG c b)).reverse,k):=by
 intro zi
 induction zi with
 |zero=>
  intro _
  exact⟨0,Wh _,rfl⟩
 |succ n ih=>
  intro h
  obtain⟨k,hk,e⟩:=ih (by omega)
  rw[List.range_succ,acQ,e,afn,aaB,adH]
  simp only[ym b c n (by omega)]
  have hn:decide (n≥k)=true:=by simp;omega
  generalize q:hG c b n=zz;cases zz with
  |true=>exact⟨n+1,Wh _,by simp[hn,q]⟩
  |false=>exact⟨k,by omega,by simp[q]⟩
theorem Gi(b:List UInt8)(c:UInt8):aa6 b.toArray #[c] 0 b.length=(Xw b.length).filter (hG c b):=by
 obtain⟨k,_,e⟩:=Gh b c b.length (Wh _)
 unfold aa6
 have:(Xw (b.length+1-(0+(#[c]:Array UInt8).size))).map (· + 0)=Xw b.length:=by simp
 rw[this]
 exact(congrArg (λp:List Nat×Nat=>p.1.reverse) e).trans (by simp)
theorem vK(b:List UInt8)(c:UInt8):∀n,n<=b.length->∃(ps:List (List UInt8)) (last:Nat),last<=n∧
 ((Xw n).filter (hG c b)).foldl (λ(x:Array (Array UInt8)×Nat) p=>(x.1.push (b.toArray.extract x.2 p),p+1)) (#[],0)=((ps.map Yo).toArray,last)∧aL c (b.take n)=ps++[(b.take n).drop last]:=by
 intro zi
 induction zi with
 |zero=>
  intro _
  exact⟨[],0,Wh _,rfl,rfl⟩
 |succ n ih=>
  intro h
  refine Wo λno=>?_
  obtain⟨ps,last,hl,e,es⟩:=ih (by omega)
  have ht:b.take (n+1)=b.take n++[b[n]]:=by rw[abb,Xb (by omega)];rfl
  refine no ?_
  rw[List.range_succ,afn,acQ,e]
  have sn:=yl c b[n] (b.take n) ps _ es
  rw[ht,sn]
  generalize q:hG c b n=zz;cases zz with
  |true=>
   have hc:b[n]=c:=by unfold hG at q;rw[Xb (by omega)]at q;simpa using q
   refine⟨ps++[(b.take n).drop last],n+1,Wh _,?_,?_⟩
   ·simp only[q,abq,List.filter_nil,aaB,adH]
    have:b.toArray.extract last n=((b.take n).drop last).toArray:=by
     rw[ab5,aa8]
     congr 1
     rw[List.drop_take]
    rw[this];simp
   ·rw[if_pos hc]
    have:(b.take n++[b[n]]).drop (n+1)=[]:=Zl (by simp;lia)
    rw[this];simp
  |false=>
   have hc:b[n]≠c:=by unfold hG at q;rw[Xb (by omega)]at q;simpa using q
   refine⟨ps,last,by omega,?_,?_⟩
   ·simp[q]
   ·rw[if_neg hc]
    rw[List.drop_append_of_le_length (by simp;lia)]
theorem kT(b:List UInt8)(c:UInt8):acm b.toArray 1 ((Xw b.length).filter (hG c b))=(aL c b).map Yo:=by
 obtain⟨ps,d,j,e,q⟩:=vK b c b.length (Wh _)
 unfold acm
 have y:((Xw b.length).filter (hG c b)).foldl (λ(x:Array (Array UInt8)×Nat) p=>match x with|(parts,d)=>(parts.push (b.toArray.extract d p),p+1)) (#[],0)=((ps.map Yo).toArray,d):=e
 simp only[y]
 rw[aal]at q
 rw[q]
 have:b.toArray.extract d b.toArray.size=(b.drop d).toArray:=by
  rw[Wk,ab5,aa8]
  congr 1
  rw[Zj (by simp)]
 rw[this];simp
theorem gI(b:List UInt8)(c:UInt8)(h:(Xw b.length).filter (hG c b)=[]):aL c b=[b]:=by
 have e:=kT b c
 rw[h]at e
 unfold acm at e
 simp only[adH]at e
 have d:(aL c b).map Yo=[b].map Yo:=by
  rw[←e];simp
 have:=congrArg (List.map acL) d
 simpa [Xy]using this
inductive fS:List (List UInt8)->List V9->Prop
 |nil:fS [] []
 |cons {p:List UInt8} {t:Tok} {ps:List (List UInt8)} {xs:List V9} (h:fS ps xs):fS (p::ps) (.bytes p.toArray t::xs)
theorem fS.length(h:fS ps xs):xs.length=ps.length:=by
 induction h with
 |nil=>exact rfl
 |cons h d=>exact congrArg adM d
section
theorem Gj:∀(ps:List (List UInt8)) (s:Wj) {Q:List V9->Wj->Prop},(∀p∈ps,p.length<=16777216)->(∀xs n,fS ps xs->Q xs { s with toks:=n})->Wz M A ((ps.map Yo).mapM (aeT .bytes)) Q E s:=by
 intro j
 induction j with
 |nil=>
  intro s Q _ h
  rw[aem,List.mapM_nil];exact Wg (h [] s.toks .nil)
 |cons p ps i=>
  intro s Q d h
  rw[WO,List.mapM_cons]
  refine V7 (aaI ?_ (by rw[Wk,WT];exact d p (.head _)))
  refine V7 (i _ (λq y=>d q (.tail _ y)) λxs n hx=>Wg (h _ _ (.cons hx)))
end
set_option tactic.hygienic true in
theorem vL(c:UInt8):∀(b p:List UInt8),p∈aL c b->p.length<=b.length:=by
 intro q
 induction q with
 |nil=>
  intro p h
  simp[aL]at h;subst h;simp
 |cons x r d=>
  intro p h
  unfold aL at h
  split at h
  ·rcases Wf.mp h with rfl|h
   ·simp
   ·have:=d p h;simp;omega
  ·split at h
   ·rename_i h1 y e
    rcases Wf.mp h with rfl|h
    ·have:=d h1 (by rw[e];exact .head _);simp;omega
    ·have:=d p (by rw[e];exact .tail _ h);simp;omega
   ·rename_i e;exact absurd e (gH c r)
set_option tactic.hygienic true in
theorem kU(c:UInt8):∀b:List UInt8,(aL c b).length<=b.length+1:=by
 intro d
 induction d with
 |nil=>
  simp[aL]
 |cons x r q=>
  have:=q
  unfold aL
  split
  ·simp;omega
  ·split
   ·rename_i h1 y e;rw[e]at this;simp at this ⊢;lia
   ·simp
theorem Ar(v:V9):acs "bytes.split" "split" ["sep", "maxsplit"] [v] []=pure [some v,none]:=by kernel_rfl
theorem M3(hb:b.length<=1000000) :
 Meets (XE.«bytes.split» ⟨[.bytes b.toArray t,.bytes [c].toArray u],[]⟩)
  (λ_ R s=>∀xs n,fS (aL c b) xs->R (.ok (.ret (.ref s.heap.objs.size))) { s with heap:=s.heap.push { cls:=.type "list",data:=.seq xs.toArray},toks:=n}):=by
 refine .of_wp λprog w A R s h=>?_
 have small:(aL c b).length<=sizeLine:=by have:=kU c b;rw(config:={}) [WT];lia
 show Wz _ _ (acs "bytes.split" "split" ["sep", "maxsplit"] [.bytes [c].toArray u] []>>=_) _ _ s
 refine(Internal.V2 (Ar _) ?_)
 show Wz _ _ (Y0 "bytes.split" (.bytes [c].toArray u)>>=λsep=>_) _ _ s
 unfold Y0
 rw(config:={}) [Zu]
 show Wz _ _ (if((ad4 (b.toArray.size+1) (aa6 b.toArray #[c] 0 b.toArray.size)).isEmpty)=true then _ else _) _ _ s
 rw(config:={}) [Wk,Gi]
 have ht:ad4 (b.length+1) ((Xw b.length).filter (hG c b))=(Xw b.length).filter (hG c b):=by
  refine Zj ?_
  have:=aeN (hG c b) (Xw b.length)
  rw(config:={}) [Y2]at this;omega
 rw(config:={}) [ht]
 generalize q:(Xw b.length).filter (hG c b)=zz;cases zz with
 |nil=>
  have e:=gI b c q
  rw(config:={}) [e]at h small
  refine V7 (Yt ?_)
  have es:aeG .bytes (.bytes b.toArray t)=pure (.bytes b.toArray t):=rfl
  refine(Internal.V2 es ?_)
  refine V7 (Ze (Wg ⟨_,rfl,h [.bytes b.toArray t] s.toks (.cons .nil)⟩) (by simp[WT]))
 |cons x r=>
  simp only[List.isEmpty_cons,afo,if_false]
  have hs:ad4 (if(-1:Int)<0 then b.length+1 else(-1:Int).toNat) (x::r)=(Xw b.length).filter (hG c b):=by
   rw(config:={}) [←q];exact ht
  rw(config:={}) [hs,show(#[c]:Array UInt8).size=1 from rfl,kT]
  refine V7 (Gj _ s (λp hp=>by have:=vL c b p hp;omega) λxs n hx=>?_)
  refine V7 (Ze (Wg ⟨_,rfl,h xs n hx⟩) (by rw(config:={}) [hx.length];exact small))
section
theorem yn{id:String}{full:Bool}:Bytes.buffer? id (.bytes b t) full=pure (some b):=by
 unfold Bytes.buffer?
 rw[KBy.special_eq KBy.look_buffer,KBy.own_buffer,KBy.own_release]
 kernel_rfl
theorem Ej{id:String}{k:Int}:ad3 id (.bytes b t) k=pure (some (b,none)):=by
 unfold ad3 Bytes.takeBuffer?
 rw[KBy.special_eq KBy.look_buffer,KBy.own_buffer,yn]
 kernel_rfl
end
theorem yo(d:Array UInt8)(ps:List (Array UInt8))(p:Array UInt8):ZH d (ps++[p])=(if ps=[]then ZH d ps else ZH d ps++d)++p:=by
 unfold ZH
 rw[List.zipIdx_append,acQ]
 cases ps with
 |nil=>simp
 |cons a r=>simp
theorem As(d:List UInt8):∀(ps:List (List UInt8)) (p:List UInt8),aP d (ps++[p])=(if ps=[]then aP d ps else aP d ps++d)++p:=by
 intro y
 induction y with
 |nil=>
  intro p
  simp[aP]
 |cons a j q=>
  cases j with
  |nil=>
   intro p
   simp[aP]
  |cons b r=>
   intro p
   have q:=q p
   have e:aP d (a::b::r++[p])=a++d++aP d (b::r++[p]):=by simp[aP]
   rw[e,q]
   simp[aP,Wn]
theorem n8(sep:List UInt8)(ps:List (List UInt8)):ZH sep.toArray (ps.map Yo)=(aP sep ps).toArray:=by
 generalize hn:ps.length=n
 induction n generalizing ps with
 |zero=>have:=W7 hn;subst this;rfl
 |succ n ih=>
  obtain⟨qs,p,rfl⟩:∃qs p,ps=qs++[p]:=⟨ps.dropLast,ps.getLast (by intro h;rw[h]at hn;cases hn),(adk _).symm⟩
  rw[WE,aaW,yo,As,ih qs (by simpa using hn)]
  cases qs with
  |nil=>simp
  |cons a r=>simp
theorem fS.get(h:fS ps xs):∀{i:Nat},i<ps.length->∃p t,ps[i]? = some p∧xs[i]? = some (.bytes p.toArray t):=by
 induction h with
 |nil=>exact λh=>absurd h (abT _)
 |@cons p t ps xs h ih=>
  intro i hi
  cases i with
  |zero=>exact⟨p,t,rfl,rfl⟩
  |succ i=>exact ih (Zo hi)
theorem vM(h:Q () s):∀d:List (V9×Option V9),(∀p∈d,p.2=none)->Wz M A (abA d keep) Q E s:=by
 intro y
 induction y with
 |nil=>
  intro _
  exact Wg h
 |cons z r u=>
  obtain⟨c,j⟩:=z
  intro q
  have i:j=none:=q _ (.head _)
  subst i
  unfold abA
  simp only
  exact V7 (wpAny_letGo (u λp hp=>q p (.tail _ hp)))
theorem yq:∀(ps:List (List UInt8)) (k:Nat),(ps.map Yo).foldl (λ(n:Nat) (p:Array UInt8)=>n+p.size) k=k+(ps.map ac9).sum:=by
 intro d
 induction d with
 |nil=>
  intro k
  exact rfl
 |cons p r q=>
  intro k
  rw[WO,aaB,q];simp;lia
theorem vN(d:List UInt8):∀ps:List (List UInt8),(aP d ps).length=d.length*(ps.length-1)+(ps.map ac9).sum:=by
 intro y
 induction y with
 |nil=>
  simp[aP]
 |cons a j q=>
  cases j with
  |nil=>
   simp[aP]
  |cons b r=>
   have q:=q
   simp only[aP,V6,q,WM,WO,List.sum_cons]
   show a.length+d.length+(d.length*r.length+(b.length+(r.map ac9).sum))=d.length*r.length+d.length+(a.length+(b.length+(r.map ac9).sum))
   rw[WJ,abe d.length,abe a.length,WJ (d.length*_),abe a.length]
theorem rJ(I:Nat->β->Wj->Prop)(h0:I 0 b s)
 (turn:∀i b s,i<n->I i b s->Wz M A (f i b) (λr s'=>∃b',r=.yield b'∧I (i+1) b' s') E s) (bc:∀b s,I n b s->Q b s):Wz M A (forIn [0:n] b f) Q E s:=by
 rw[Std.Legacy.Range.forIn_eq_forIn_range']
 have hsz:([0:n]:ad9).size=n:=by simp[Std.Legacy.Range.size]
 show Wz M A (forIn (List.range' 0 ([0:n]:ad9).size 1) b f) Q E s
 rw[hsz]
 refine wpAny_forIn_list f (λl b s=>∃i,i<=n∧l=List.range' i (n-i)∧I i b s) Q (λx rest b s h=>?_) (λb s h=>?_) _ _ ⟨0,Wy _,rfl,h0⟩
 ·obtain⟨i,hi,e,hI⟩:=h
  have hlt:i<n:=by
   by_cases q:i<n
   ·exact q
   ·rw[Nat.sub_eq_zero_of_le (Xh.mp q)]at e;cases e
  rw[show n-i=(n-(i+1))+1 from(aeh (Nat.sub_pos_of_lt hlt)).symm,List.range'_succ]at e
  cases e
  refine Yc (turn _ b s hlt hI) (λr s' ⟨b',e,hI'⟩=>?_) λ_ _ x=>x
  subst e
  exact⟨_,hlt,rfl,hI'⟩
 ·obtain⟨i,hi,e,hI⟩:=h
  have:i=n:=by
   by_cases q:i<n
   ·rw[show n-i=(n-(i+1))+1 from(aeh (Nat.sub_pos_of_lt q)).symm,List.range'_succ]at e;cases e
   ·exact abV hi (Xh.mp q)
  subst this
  exact bc b s hI
theorem Of{sep:List UInt8}{t:Tok}{l:Addr}{xs:List V9}{ps:List (List UInt8)}{n:Nat}(hx:fS ps xs)(hl:(aP sep ps).length<=16777216) :
 Meets (XE.«bytes.join» ⟨[.bytes sep.toArray t,.ref l],[]⟩)
  (λ_ R s=>s.heap.get? l=some { cls:=.type "list",data:=.seq xs.toArray n}∧∀t' k,R (.ok (.ret (.bytes (aP sep ps).toArray t'))) { s with toks:=k}):=by
 refine .of_wp λprog w A R s ⟨ho,h⟩=>?_
 show Wz _ _ (Bytes.joinItems (.ref l)>>=_) _ _ s
 have hT:s.TypeIs (.ref l) "list" := ⟨_,ho,rfl⟩
 refine V7 (Internal.Vv (λ_ q=>adl hT q) ?_)
 rw[if_pos (show((Ye "list" == Ye "list" ||Ye "list" == Ye "tuple")=true)from by decide)]
 refine Wg ?_
 refine Internal.Vv (λ_ q=>aap ho rfl q) ?_
 have total:∀k:Nat,k=sep.length*(ps.length-1)->adK ((ps.map Yo).toArray.foldl (λ(n:Nat) (p:Array UInt8)=>n+p.size) k)=false:=λk hk=>by
  refine KBy.tooLong_not ?_
  rw[List.foldl_toArray,yq,hk,←vN];exact hl
 have bc:∀(s':Wj) (parts:Array (Array UInt8)) (taken:List (V9×Option V9)) (k:Nat),s'={s with toks:=k}->parts=(ps.map Yo).toArray->(∀p∈taken,p.2=none)->
  wpAny (YL prog w) A.in1 (do
   let sep' ←ack (.bytes sep.toArray t)
   if adK (parts.foldl (λn p=>n+p.size) (sep'.size*(parts.size-1)))=true then do
    let _ ←(unsupported (toString (toString aaU.name++toString ".join")++toString ":memory"):Sem PUnit)
    let result ←aaU.new (ZH sep' parts.toList)
    holding (result::taken.flatMap λx=>match x with|(y,u)=>y::u.toList) point
    abA taken [result]
    ret result
   else do
    let result ←aaU.new (ZH sep' parts.toList)
    holding (result::taken.flatMap λx=>match x with|(y,u)=>y::u.toList) point
    abA taken [result]
    ret result) (λbc s'=>∃v,bc=.done (.ret v)∧R (.ok (.ret v)) s') (λe s'=>R (.error e) s') s':=λs' parts taken k hs hp hn=>by
  subst hs hp
  refine(Internal.V2 (show ack (.bytes sep.toArray t)=pure sep.toArray from rfl) ?_)
  rw[if_neg (by rw[total _ (by simp)];simp)]
  refine V7 (aaI ?_ (by rw[n8,Wk,WT];exact hl))
  refine V7 (Xk (adP ?_))
  refine V7 (vM (Wg ⟨_,rfl,?_⟩) taken hn)
  rw[n8]
  exact h _ _
 have main:∀(f:Nat->Array (Array UInt8)×List (V9×Option V9)->Sem (ForInStep (Array (Array UInt8)×List (V9×Option V9)))),True:=λ_=>trivial
 cases hx with
 |nil=>
  refine V7 (rJ (λi b s'=>s'=s∧i=0∧b=(#[],[])) ⟨rfl,rfl,rfl⟩ (λi b s h=>absurd h (abT _)) λb s' ⟨e1,_,e2⟩=>?_)
  subst e1 e2
  exact bc _ _ _ s'.toks rfl rfl (λp hp=>nomatch hp)
 |@cons p t0 qs ys hx'=>
  cases hx' with
  |nil=>
   refine(Internal.V2 (show abF (.bytes p.toArray t0)=pure (.type "bytes")from rfl) ?_)
   rw[if_pos (show((Ye "bytes" == Ye "bytes")=true)from by decide)]
   refine V7 (Yt (Wg ⟨_,rfl,?_⟩))
   exact h t0 s.toks
  |@cons p' t1 qs' ys' hx''=>
   have hx:fS (p::p'::qs') (.bytes p.toArray t0::.bytes p'.toArray t1::ys'):=.cons (.cons hx'')
   have hlen:=hx.length
   refine V7 (rJ (λi b s'=>s'=s∧b.1=(((p::p'::qs').take i).map Yo).toArray∧(∀x∈b.2,x.2=none∧x.1.onHeap=false)) ⟨rfl,rfl,λx hx=>nomatch hx⟩ (λi b s' hi hI=>?_) λb s' ⟨e1,e2,e3⟩=>?_)
   ·obtain⟨rfl,e2,e3⟩:=hI
    obtain⟨parts,taken⟩:=b
    dsimp only at e2 e3 ⊢
    rw[Wk]at hi
    refine Wo λno=>?_
    obtain⟨q,tq,g1,g2⟩:=hx.get (i:=i) (by rw[←hlen];exact hi)
    refine no ?_
    refine V7 (aap ho rfl ?_)
    have gd:(YO p.toArray t0::YO p'.toArray t1::ys').toArray.getD i aaO=.bytes q.toArray tq:=by
     rw[Array.getD_eq_getD_getElem?,XZ,g2];rfl
    have tk:taken.any (λx=>x.1.onHeap)=false:=by
     rw[Z9]
     intro x hx;rw[(e3 x hx).2];simp
    show Wz _ _ (if(aaU==Bytes.Kind.bytearray||taken.any λx=>x.1.onHeap)=true then _ else _) _ _ _
    rw[if_neg (by rw[tk];decide),gd]
    refine V7 (Xk (adQ Ej ?_))
    refine Internal.Vv (λ_ q=>aap ho rfl q) ?_
    show Wz _ _ (if((YO p.toArray t0::YO p'.toArray t1::ys').toArray.size != (YO p.toArray t0::YO p'.toArray t1::ys').toArray.size)=true then _ else _) _ _ _
    rw[if_neg (by simp)]
    refine Wg ⟨_,rfl,rfl,?_,λx hx'=>?_⟩
    ·rw[e2,abb,g1];simp
    ·rcases WD.mp hx' with hx'|hx'
     ·exact e3 x hx'
     ·simp at hx';subst hx';exact⟨rfl,rfl⟩
   ·subst e1
    obtain⟨parts,taken⟩:=b
    refine bc _ parts taken s'.toks rfl ?_ λx hx=>(e3 x hx).1
    have:=e2
    rw[Wk,hlen,aal]at this
    exact this
theorem Kp(f:b.length+b.length*d.length<=16777216)(p:(aP d (aL c b)).length<=16777216) :
 Meets (XE.«bytes.replace» ⟨[.bytes b.toArray t,.bytes [c].toArray u,.bytes d.toArray v],[]⟩)
  (λ_ R s=>∀z k,R (.ok (.ret (.bytes (aP d (aL c b)).toArray z))) { s with toks:=k}):=by
 refine .of_wp λprog w A R s h=>?_
 show Wz _ _ (Y0 "bytes.replace" (.bytes [c].toArray u)>>=λ_=>Y0 "bytes.replace" (.bytes d.toArray v)>>=λ_=>_) _ _ s
 have y:∀{x:Array UInt8} {t:Tok},Y0 "bytes.replace" (.bytes x t)=pure x:=λ{x t}=>by
  unfold Y0
  rw[Zu];rfl
 have g:((#[c]:Array UInt8).isEmpty&&d.toArray.isEmpty)=false:=rfl
 refine(Internal.V2 y ((Internal.V2 y ?_)))
 show Wz _ _ (Y0 "bytes.replace" (.bytes [c].toArray u)>>=λ_=>Y0 "bytes.replace" (.bytes d.toArray v)>>=λ_=>_) _ _ s
 refine(Internal.V2 y ((Internal.V2 y ?_)))
 show Wz _ _ (if((aa6 b.toArray #[c] 0 b.toArray.size).isEmpty||((#[c]:Array UInt8).isEmpty&&d.toArray.isEmpty))=true then _ else _) _ _ s
 rw[Wk,Gi]
 rw[g,Zs]
 generalize q:(Xw b.length).filter (hG c b)=j;cases j with
 |nil=>
  rw[if_pos (show(([]:List Nat).isEmpty=true)from rfl)]
  have e:=gI b c q
  rw[e]at h
  refine V7 (Yt ?_)
  have m:aeG .bytes (.bytes b.toArray t)=pure (.bytes b.toArray t):=rfl
  exact V7 (adQ m (Wg ⟨_,rfl,h t s.toks⟩))
 |cons x r=>
  rw[if_neg (by simp)]
  have i:(x::r).length<=b.length:=by
   rw[←q]
   have:=aeN (hG c b) (Xw b.length)
   rwa [Y2]at this
  have tl:adK (b.length+(x::r).length*d.toArray.size)=false:=by
   refine KBy.tooLong_not ?_
   rw[Wk]
   have:=aaw d.length i
   omega
  rw[if_neg (by rw[tl];simp)]
  show Wz _ _ (aeT .bytes (ZH d.toArray (acm b.toArray 1 (x::r)))>>=_) _ _ s
  rw[←q,kT,n8]
  exact V7 (aaI (Wg ⟨_,rfl,h _ _⟩) (by rw[Wk,WT];exact p))
def Vw(a b:List UInt8):Bool:=aas a b != .gt
theorem Gk:afj («bytes.__le__» ⟨[.bytes b.toArray t,.bytes c.toArray u],[]⟩) (.val (.bool (Vw b c))):=by
 refine .of_wp λM A E s Q d=>?_
 show Wz M A (aaD (.bytes c.toArray u) (.type "bytes")>>=λr=>_) _ E s
 refine Internal.Vv (λ_ q=>Zm (Xe s _ u) F.sub_bytes_bytes q) ?_
 exact Wg ⟨_,rfl,d⟩
end
section
open PySem.Builtin
namespace FX
local macro_rules | `(tactic|walk_at "fx slot")=>`(tactic|exact .of (by rw[W8,WN];kernel_rfl) (by decide +kernel) (by decide +kernel) (by decide +kernel) (by first|exact .inl (by decide +kernel)|exact .inr (by decide +kernel)) (by rw[Xu];kernel_rfl))
theorem Q7:Slot "bytes" "find" "bytes.find" := .of (owner:= "bytes") (n:= "find") (by rw[W8,WN];kernel_rfl) (by decide +kernel) (by decide +kernel) (by decide +kernel) (by first|exact .inl (by decide +kernel)|exact .inr (by decide +kernel)) (by rw[Xu];kernel_rfl)
theorem Q8:abF (.builtin "bytes.find")=pure (.type "method_descriptor"):=by show aae _=_;rw[Yy];kernel_rfl
theorem Og:Yw Z6 "bytes.find" = some XE.«bytes.find»:=by first|exact XJ (by kernel_rfl)|exact XM (by kernel_rfl)
theorem Oh(a b:V9):Yk "bytes.find" ⟨[a,b],[]⟩:=by unfold Yk;kernel_rfl
theorem Oi(a b c:V9):Yk "bytes.find" ⟨[a,b,c],[]⟩:=by unfold Yk;kernel_rfl
theorem Tu:Slot "bytes" (cmpInfo .LtE).2.1 "bytes.__le__" := .of (owner:= "bytes") (n:= "__le__") (by rw[W8,WN];kernel_rfl) (by decide +kernel) (by decide +kernel) (by decide +kernel) (by first|exact .inl (by decide +kernel)|exact .inr (by decide +kernel)) (by rw[Xu];kernel_rfl)
theorem Rm:Yw Z6 "bytes.__le__" = some XE.«bytes.__le__»:=by first|exact XJ (by kernel_rfl)|exact XM (by kernel_rfl)
theorem Tv(a b:V9):Yk "bytes.__le__" ⟨[a,b],[]⟩:=by unfold Yk;kernel_rfl
end FX
end
section
open PySem.SeqAt PySem.Builtin
theorem rK:PySem.typeName (.type "bytes")=pure "bytes" := by rw[find?_eq_fast];kernel_rfl
theorem rL:abj (.type "bytes") "__index__" = pure none:=by rw[W8,WN];kernel_rfl
theorem Gn(b:List UInt8)(k:UInt8):(ac0 b.toArray [k].toArray 0 b.toArray.size).isSome=b.contains k:=by
 rw[Wk,Ct]
 unfold findIn
 rw[XT,List.find?_isSome,WI]
 constructor
 ·rintro⟨x,hx,h⟩
  have q:(b.drop x).take 1=[k]:=by simpa using h
  have:k∈(b.drop x).take 1:=by rw[q];exact .head _
  exact aav (aau this)
 ·intro h
  obtain⟨i,d,e⟩:=ZM h
  refine⟨i,?_,?_⟩
  ·simp;omega
  ·simp only[aai,beq_iff_eq]
   rw[adO d,List.take_succ_cons,adF,e]
theorem Am{b:List UInt8}{k:UInt8}{t u:Tok}:Meets (XE.«bytes.__contains__» ⟨[.bytes b.toArray t,.bytes [k].toArray u],[]⟩)
 (λA R s=>A.handled=none∧∀h' n,(∀a o,s.heap.get? a=some o->h'.get? a=some o)->R (.ok (.ret (.bool (b.contains k)))) { s with heap:=h',toks:=n}):=by
 intro prog w A R s ⟨hh,h⟩
 have hT:s.TypeIs (.bytes [k].toArray u) "bytes" := Xe s _ _
 show Wz (YL prog w) A.in1 (abm "bytes.__contains__" (.bytes b.toArray t) (.bytes [k].toArray u)>>=λv=>ret (.bool v)) _ _ s
 unfold abm
 rw[Zu]
 refine V7 (V7 ?_)
 refine abE ?_
 refine V7 (m:=asInt? _) (Wg ?_)
 refine V7 (wpAny_callSpecial?_none (name:= "__index__") hT rL ?_)
 refine V7 (m:=typeNameOfCut _ _) ?_
 refine V7 (Internal.Vv (λ_ q=>adl hT q) ?_)
 refine Wg ?_
 rw[show typeNameCut 200 (.type "bytes")=PySem.typeName (.type "bytes")from rfl,rK]
 refine Wg ?_
 refine wpAny_raiseTypeError (hh:A.in1.handled=none) (λh' tk e hx=>?_)
 refine Internal.V1 (?_)
 refine V7 ?_
 rw[Zu]
 refine Wg ?_
 refine V7 (Yt (Wg ?_))
 rw[Gn]
 exact Wg (h _ _ hx.1)
end
end Tactic
namespace Internal
open Tactic (fS a8 aP aL cQ)
section
set_option genSizeOf false
set_option genInjectivity false
theorem ff{P:Prop}(h:false=true):P:=Bool.noConfusion h
theorem tf{P:Prop}(h:true=false):P:=Bool.noConfusion h
theorem ns{P:Prop}{d:Type}{a:d}(h:aeg=some a):P:=Option.noConfusion rfl (heq_of_eq h)
theorem sn{P:Prop}{d:Type}{a:d}(h:some a=aeg):P:=ns h.symm
theorem an{d:Type}{P:d->Prop}:∀x∈([]:List d),P x:=λ_ h=>(abp h).elim
inductive V where
 |none
 |bool (b:Bool)
 |int (i:Int)
 |str (s:List Nat)
 |bytes (b:List UInt8)
 |raw (v:V9)
 |ref (a:Addr)
 |tup (vs:List V)
 |lst (vs:List V)
 |inst (c:Addr) (vs:List V)
inductive DK where
 |s|b|i
abbrev DK.K:DK->Type
 | .s=>Str
 | .b=>List UInt8
 | .i=>Int
noncomputable instance DK.dec:(k:DK)->DecidableEq k.K
 | .s=>inferInstanceAs (DecidableEq Str)
 | .b=>inferInstanceAs (DecidableEq (List UInt8))
 | .i=>inferInstanceAs (DecidableEq Int)
noncomputable def DK.kind(k:DK)(p:abz)(w:abx):PySem.KeyKind p w k.K:=match k with
 | .s=>strKind p w
 | .b=>YM p w
 | .i=>intKind p w
noncomputable def DK.key:(k:DK)->V->Option k.K
 | .s,.str x=>some ⟨x.toArray⟩
 | .b,.bytes x=>some x
 | .i,.int x=>some x
 |_,_=>aeg
inductive O where
 |list (vs:List V)
 |inst (c d:Addr)
 |fields (c:Addr) (vs:List V)
 |dict (k:DK) (l:List (k.K×V))
 |ba (bs:List UInt8)
set_option genSizeOf true
set_option genInjectivity true
structure Gl where
 prog:abz
 w:abx
 B:Heap
 os:OsState
 tab:List (Addr×List Str)
 big:64<=B.objs.size
noncomputable abbrev Gl.P(g:Gl):Params:=g.w.params
noncomputable def Gl.names(g:Gl)(c:Addr):List Str:=(g.tab.lookup c).getD []
abbrev FZ:=Addr->Obj->Prop
abbrev sq(T:String)(xs:List V9)(n:Nat):Obj:={cls:=.type T,data:=.seq xs.toArray n}
abbrev Tw(d:List aaG)(n:Nat):Obj:={cls:=.type "dict",data:=.dict d.toArray n}
abbrev Gp(c d:Addr):Obj:={cls:=.ref c,dict:=some d,data:=.plain}
noncomputable def n9(P:adJ):List (Str×Tok)->List V9->List aaG
 |k::ks,x::xs=>⟨Zy P k.1,.str k.1 k.2,x⟩::n9 P ks xs
 |_,_=>[]
inductive bQ(F:FZ)(T:String)(R:List V9->Prop)(x:V9):Prop
 |mk {a:Addr} {xs:List V9} {n:Nat} (e:x=.ref a) (h:F a (sq T xs n)) (l:xs.length<=1000000) (r:R xs)
inductive uR(P:adJ)(F:FZ)(c:Addr)(ns:List Str)(R:List V9->Prop)(x:V9):Prop
 |mk {a d:Addr} {ks:List (Str×Tok)} {xs:List V9} {n:Nat} (e:x=.ref a) (h:F a (Gp c d)) (h':F d (Tw (n9 P ks xs) n)) (k:ks.map (·.1)=ns) (l:ks.length=xs.length) (r:R xs)
mutual
noncomputable def VR(g:Gl)(F:FZ):V->V9->Prop
 | .none,x=>x=.none
 | .bool b,x=>x=.bool b
 | .int i,x=>∃t,x=.int i t
 | .str s,x=>s.length<=16777216∧∃t,x=.str ⟨s.toArray⟩ t
 | .bytes b,x=>b.length<=16777216∧∃t,x=.bytes b.toArray t
 | .raw v,x=>x=v
 | .ref a,x=>x=.ref a
 | .tup vs,x=>bQ F "tuple" (bo g F vs) x
 | .lst vs,x=>bQ F "list" (bo g F vs) x
 | .inst c vs,x=>(g.tab.lookup c).isSome=true∧uR g.P F c (g.names c) (bo g F vs) x
noncomputable def bo(g:Gl)(F:FZ):List V->List V9->Prop
 | [],xs=>xs=[]
 |v::vs,xs=>match xs with
  | []=>False
  |x::r=>VR g F v x∧bo g F vs r
end
section
variable{g:Gl}{F F':FZ}
theorem bQ.imp(d:∀a o,F a o->F' a o)(q:∀xs,R xs->y xs)(h:bQ F T R x):bQ F' T y x:=by
 cases h with|mk e h l r=>exact .mk e (d _ _ h) l (q _ r)
theorem uR.imp{P:adJ}{c:Addr}{ns:List Str}{R q:List V9->Prop}{x:V9}(d:∀a o,F a o->F' a o)(j:∀xs,R xs->q xs)(h:uR P F c ns R x):uR P F' c ns q x:=by
 cases h with|mk e h y k l r=>exact .mk e (d _ _ h) (d _ _ y) k l (j _ r)
theorem bo.mono'(vs:List V)(h:∀v∈vs,∀x,VR g F v x->VR g F' v x):∀xs,bo g F vs xs->bo g F' vs xs:=
 aeX (motive:=λvs=>(∀v∈vs,∀x,VR g F v x->VR g F' v x)->∀xs,bo g F vs xs->bo g F' vs xs) (λ_ _ h=>h)
  (λv vs y h xs=>Yd (motive:=λxs=>bo g F (v::vs) xs->bo g F' (v::vs) xs) xs (λh=>h) λx r q=>⟨h v (.head _) x q.1,y (λu d=>h u (.tail _ d)) r q.2⟩) vs h
theorem VR.mono(q:∀a o,F a o->F' a o)(v:V):∀x,VR g F v x->VR g F' v x:=
 V.rec (motive_1:=λv=>∀x,VR g F v x->VR g F' v x) (motive_2:=λvs=>∀v∈vs,∀x,VR g F v x->VR g F' v x)
  (λ_ h=>h) (λ_ _ h=>h) (λ_ _ h=>h) (λ_ _ h=>h) (λ_ _ h=>h) (λ_ _ h=>h) (λ_ _ h=>h)
  (λvs d _=>bQ.imp q (bo.mono' vs d)) (λvs d _=>bQ.imp q (bo.mono' vs d)) (λ_ vs d _ h=>⟨h.1,uR.imp q (bo.mono' vs d) h.2⟩)
  (λ_ h=>nomatch h) (λv vs h1 y u j=>(Wf.mp j).elim (λe=>e▸h1) (y u)) v
theorem bo.mono(d:∀a o,F a o->F' a o)(vs:List V):bo g F vs xs->bo g F' vs xs:=bo.mono' vs (λv _=>VR.mono d v) xs
end
end
noncomputable def tM(g:Gl)(F:FZ){K:Type}:List (K×V)->List (K×V9)->Prop
 | [],r=>r=[]
 |p::l,r=>match r with
  | []=>False
  |q::r=>p.1=q.1∧VR g F p.2 q.2∧tM g F l r
noncomputable def OR(g:Gl)(F:FZ)(o:O)(x:Obj):Prop:=match o with
 | .list vs=>∃xs n,x=sq "list" xs n∧xs.length<=1000000∧bo g F vs xs
 | .inst c d=>x=Gp c d
 | .fields c vs=>∃ks xs n,x=Tw (n9 g.P ks xs) n∧ks.map (·.1)=(g.names c).take vs.length∧ks.length=xs.length∧bo g F vs xs
 | .dict k l=>l.length<=1000000∧∃r,tM g F l r∧x.IsDictOf (k.kind g.prog g.w) r
 | .ba q=>q.length<=1000000∧x={cls:=.type "bytearray",data:=.bytearray q.toArray}
abbrev AH:=Addr->Option O
noncomputable def upd(h:AH)(a:Addr)(o:Option O):AH:=λb=>if b=a then o else h b
structure St where
 loc:List (Option V)
 h:AH
structure Cx where
 env:Env
 rv:List Addr
 keep:List (Addr×Obj)
 outer:List (Addr×(Str->Option V9))
 frs:List Addr
 w:FZ
 stk:List Env
 names:List Str
 lvl:Nat
 ro:Bool
def NF(o:Obj):Prop:=∀vs,o.data≠.fields vs
def Fz(hp:Heap)(h:AH)(rv:List Addr)(a:Addr)(o:Obj):Prop:=hp.get? a=some o∧h a=none∧a∉rv∧NF o
abbrev Cx.F(cx:Cx)(st:St)(s:Wj):FZ:=Fz s.heap st.h cx.rv
inductive Ku(env:Env)(m:Str->Option V9)(hp:Heap)(x:Str)(val:V9):Prop
 |loc (k:env.kindOf x=some .local) (h:m x=some val)
 |cell {c:Addr} (k:env.kindOf x=some .cell∨env.kindOf x=some .free) (h:env.cells.lookup x=some c) (hc:hp.IsCell c (some val))
structure Known(g:Gl)(cx:Cx)(F:FZ)(hp:Heap)(a:Addr)(o:O):Prop where
 low:g.B.objs.size<=a
 nrv:a∉cx.rv
 obj:∃x,hp.get? a=some x∧OR g F o x
structure gJ(stk:List Env)(lvl:Nat)(A:Xd):Prop where
 frames:A.frames=some stk
 depth:A.depth+20*lvl<=900
 units:A.units+100*lvl<=9000
 handled:A.handled=none
def Rn(frs:List Addr)(env:Env):Prop:=env.scope.kind=.function∧∃L,env.frame=some L∧L∈frs
structure Ro(cx:Cx):Prop where
 kind:cx.env.scope.kind=.function
 globals:cx.env.globals=Xv
 builtins:cx.env.builtins=aaE
 apart:cx.env.cells.Pairwise λx y=>x.2≠y.2
 names:cx.names.Nodup
 head:∃e r,cx.stk=e::r∧e.frame=cx.env.frame
 stk:∀env∈cx.stk,Rn cx.frs env
 own:cx.env.locals∈cx.rv
 frs:∀a∈cx.frs,a∈cx.rv
 cells:∀p∈cx.env.cells,p.2∈cx.rv∧p.2≠cx.env.locals∧p.2∉cx.frs
 keep:∀p∈cx.keep,p.1∈cx.rv∧p.1≠cx.env.locals∧p.1∉cx.frs
 outer:∀p∈cx.outer,p.1∈cx.rv∧p.1≠cx.env.locals
 free:∀p∈cx.env.cells,cx.ro=false->cx.env.kindOf p.1=some .cell->(∀q∈cx.keep,q.1≠p.2)∧∀q∈cx.outer,q.1≠p.2
structure aI(g:Gl)(cx:Cx)(tmp:List V)(vals:List V9)(st:St)(s:Wj):Prop where
 ok:Ro cx
 base:g.B.StaysIn s.heap
 gens:s.gens=#[]
 os:s.os=g.os
 known:∀a o,st.h a=some o->Known g cx (cx.F st s) s.heap a o
 rsv:∀a∈cx.rv,g.B.objs.size<=a∧∃x,s.heap.get? a=some x
 frs:∀a∈cx.frs,∃x,s.heap.get? a=some x∧NF x
 keep:∀p∈cx.keep,s.heap.get? p.1=some p.2
 outer:∀p∈cx.outer,s.heap.Ns p.1 p.2
 cl:∀p∈cx.env.cells,∃v,s.heap.IsCell p.2 v
 loc:∃m,s.heap.Ns cx.env.locals m∧∀(i:Nat) x v,cx.names[i]? = some x->st.loc[i]? = some (some v)->∃val,VR g (cx.F st s) v val∧Ku cx.env m s.heap x val
 wait:∀a o,cx.w a o->cx.F st s a o
 tmp:bo g (cx.F st s) tmp vals
section
variable{g:Gl}{F F':FZ}{cx:Cx}{tmp:List V}{vals:List V9}{st:St}{s:Wj}{a:Addr}{hp:Heap}{tk:Nat}
theorem dI{B:Heap}(h:B.objs.size<=a):B.get? a=none:=
 match e:B.get? a with
 |none=>rfl
 |some o=>absurd (WU e) (Xh.mpr h)
theorem tM.mono(y:∀a o,F a o->F' a o){K:Type}:∀{l:List (K×V)} {r:List (K×V9)},tM g F l r->tM g F' l r:=by
 intro d
 induction d with
 |nil=>
  intro _ h
  exact h
 |cons i u j=>
  intro q
  cases q with
  |nil=>
   intros;exact Ws ‹_›
  |cons z c=>
   intro h
   exact⟨h.1,VR.mono y _ _ h.2.1,j h.2.2⟩
theorem OR.mono(q:∀a o,F a o->F' a o)(h:OR g F o x):OR g F' o x:=by
 cases o with
 |list vs=>exact h.imp λ_=>XF λ_ h=>⟨h.1,h.2.1,h.2.2.mono q⟩
 |inst c d=>exact h
 |fields c vs=>exact h.imp λ_=>XF λ_=>XF λ_ h=>⟨h.1,h.2.1,h.2.2.1,h.2.2.2.mono q⟩
 |dict k l=>exact⟨h.1,h.2.imp λ_ h=>⟨h.1.mono q,h.2⟩⟩
 |ba y=>exact h
theorem U3(e:x.data=d)(h:∀vs,d≠.fields vs):NF x:=λvs q=>h vs (e.symm.trans q)
def Rp(d:Data):Bool:=match d with
 | .fields _=>true
 |_=>false
theorem c7(e:x.data=d)(h:Rp d=false):NF x:=λvs q=>tf ((congrArg Rp (q.symm.trans e)).trans h)
theorem OR.nf(h:OR g F o x):NF x:=by
 cases o with
 |list=>exact h.elim λ_ h=>h.elim λ_ h=>c7 (congrArg _ h.1) rfl
 |inst=>exact c7 (congrArg _ h) rfl
 |fields=>exact h.elim λ_ h=>h.elim λ_ h=>h.elim λ_ h=>c7 (congrArg _ h.1) rfl
 |dict=>exact h.2.elim λ_ h=>h.2.elim λ_ h=>h.elim λ_ h=>c7 h.2.1 rfl
 |ba=>exact c7 (congrArg _ h.2) rfl
theorem aB(h:AH)(a:Addr)(o:Option O):upd h a o a=o:=if_pos rfl
theorem aE(n:b≠a):upd h a o b=h b:=if_neg n
theorem aI.lt(R:aI g cx tmp vals st s)(e:st.h a=some o):a<s.heap.objs.size:=let⟨_,q,_⟩:=(R.known a o e).obj;WU q
theorem aI.fresh(R:aI g cx tmp vals st s)(l:s.heap.objs.size<=a):st.h a=none:=
 match e:st.h a with
 |none=>rfl
 |some _=>absurd (R.lt e) (Xh.mpr l)
theorem aI.notRv(R:aI g cx tmp vals st s)(l:s.heap.objs.size<=a):a∉cx.rv:=λq=>let⟨_,h⟩:=(R.rsv a q).2;absurd (WU h) (Xh.mpr l)
theorem aI.rvNone(R:aI g cx tmp vals st s)(h:a∈cx.rv):st.h a=none:=
 match e:st.h a with
 |none=>rfl
 |some _=>absurd h (R.known a _ e).nrv
theorem aI.bNone(R:aI g cx tmp vals st s)(h:a<g.B.objs.size):st.h a=none:=
 match e:st.h a with
 |none=>rfl
 |some _=>absurd h (Xh.mpr (R.known a _ e).low)
theorem aI.size(R:aI g cx tmp vals st s):g.B.objs.size<=s.heap.objs.size:=let⟨l,_,q⟩:=R.rsv _ R.ok.own;V4 l (Xo (WU q))
theorem aI.chg(R:aI g cx tmp vals st s)(u:∀b o,s.heap.get? b=some o->st.h b=none->hp.get? b=some o∧h' b=none)
 (k:(∀b o,cx.F st s b o->Fz hp h' cx.rv b o)->∀b o,h' b=some o->Known g cx (Fz hp h' cx.rv) hp b o):aI g cx tmp vals ⟨st.loc,h'⟩ { s with heap:=hp,toks:=tk}:=
 have hF:∀b o,cx.F st s b o->Fz hp h' cx.rv b o:=λb o x=>⟨(u b o x.1 x.2.1).1,(u b o x.1 x.2.1).2,x.2.2⟩
 have r:∀{b o},s.heap.get? b=some o->b∈cx.rv->hp.get? b=some o:=λx y=>(u _ _ x (R.rvNone y)).1
 have cell:∀{b v},b∈cx.rv->s.heap.IsCell b v->hp.IsCell b v:=λy x=>x.imp λ_ x=>⟨r x.1 y,x.2⟩
 have ns:∀{b m},b∈cx.rv->s.heap.Ns b m->hp.Ns b m:=λy x=>x.imp λ_=>XF λ_=>XF λ_ x=>⟨r x.1 y,x.2⟩
 {ok:=R.ok
  base:=λb o e=>(u b o (R.base b o e) (R.bNone (WU e))).1
  gens:=R.gens
  os:=R.os
  known:=k hF
  rsv:=λb h=>⟨(R.rsv b h).1,(R.rsv b h).2.imp λ_ x=>r x h⟩
  frs:=λb h=>(R.frs b h).imp λ_ x=>⟨r x.1 (R.ok.frs b h),x.2⟩
  keep:=λp h=>r (R.keep p h) (R.ok.keep p h).1
  outer:=λp h=>ns (R.ok.outer p h).1 (R.outer p h)
  cl:=λp h=>(R.cl p h).imp λ_ x=>cell (R.ok.cells p h).1 x
  loc:=R.loc.imp λm x=>⟨ns R.ok.own x.1,λi y v a b=>(x.2 i y v a b).imp λval z=>⟨z.1.mono hF,by
   cases z.2 with
   |loc k h=>exact .loc k h
   |cell k h hc=>exact .cell k h (cell (R.ok.cells (y,_) (by
    obtain⟨l1,l2,e,_⟩:=ad6.mp h
    rw[e];exact WK _ (.head _))).1 hc)⟩⟩
  wait:=λa o x=>hF a o (R.wait a o x)
  tmp:=R.tmp.mono hF}
theorem aI.keeps(R:aI g cx tmp vals st s)(hk:∀b o,s.heap.get? b=some o->hp.get? b=some o):aI g cx tmp vals st { s with heap:=hp,toks:=tk}:=
 R.chg (λb o x y=>⟨hk b o x,y⟩) λhF b o e=>let k:=R.known b o e;⟨k.low,k.nrv,k.obj.imp λ_ x=>⟨hk _ _ x.1,x.2.mono hF⟩⟩
theorem aI.toks(R:aI g cx tmp vals st s):aI g cx tmp vals st { s with toks:=tk}:=R.keeps λ_ _ x=>x
theorem aI.put(R:aI g cx tmp vals st s)(ha:s.heap.objs.size<=a∨(∃o,st.h a=some o))(hk:∀b o,b≠a->s.heap.get? b=some o->hp.get? b=some o)(ho:hp.get? a=some x)
 (r:∀F',(∀b o,b≠a->cx.F st s b o->F' b o)->OR g F' o x):aI g cx tmp vals ⟨st.loc,upd st.h a (some o)⟩ { s with heap:=hp,toks:=tk}:=
 have ne:∀{b o},s.heap.get? b=some o->st.h b=none->b≠a:=λx y q=>ha.elim (λl=>absurd (WU x) (Xh.mpr (q▸l))) λ⟨_,e⟩=>by rw[←q,y]at e;cases e
 R.chg (λb o x y=>⟨hk b o (ne x y) x,(aE (ne x y)).trans y⟩) λhF b o' e=>by
  by_cases q:b=a
  ·subst q
   rw[aB]at e;cases e
   exact⟨ha.elim (V4 (R.size)) λ⟨_,e⟩=>(R.known _ _ e).low,ha.elim R.notRv λ⟨_,e⟩=>(R.known _ _ e).nrv,x,ho,r _ λb o _ x=>hF b o x⟩
  ·rw[aE q]at e
   let k:=R.known b o' e
   exact⟨k.low,k.nrv,k.obj.imp λ_ x=>⟨hk _ _ q x.1,x.2.mono hF⟩⟩
theorem aI.alloc(R:aI g cx tmp vals st s)(hk:∀b o,s.heap.get? b=some o->hp.get? b=some o)(ha:s.heap.objs.size<=a)(ho:hp.get? a=some x)
 (r:OR g (cx.F st s) o x):aI g cx tmp vals ⟨st.loc,upd st.h a (some o)⟩ { s with heap:=hp,toks:=tk}:=
 R.put (.inl ha) (λb o _=>hk b o) ho λF' h=>r.mono λb o x=>h b o (λq=>absurd (WU x.1) (Xh.mpr (q▸ha))) x
theorem aI.turn(R:aI g cx tmp vals st s)(e₀:st.h a=some o₀)(hs:Xg a s.heap hp)(ho:hp.get? a=some x)(r:OR g (cx.F st s) o x) :
 aI g cx tmp vals ⟨st.loc,upd st.h a (some o)⟩ { s with heap:=hp,toks:=tk}:=
 R.put (.inr ⟨_,e₀⟩) (λb o q e=>(hs.2 b q).trans e) ho λF' h=>r.mono λb o x=>h b o (λq=>by have:=x.2.1;rw[q,e₀]at this;cases this) x
theorem aI.forget(R:aI g cx tmp vals st s)(hs:∀a o,d a=some o->st.h a=some o):aI g cx tmp vals ⟨st.loc,d⟩ s:=
 R.chg (hp:=s.heap) (tk:=s.toks) (λb o x y=>⟨x,match e:d b with|none=>rfl|some _=>by rw[hs _ _ e]at y;cases y⟩) λq b o e=>let k:=R.known b o (hs b o e);⟨k.low,k.nrv,k.obj.imp λ_ x=>⟨x.1,x.2.mono q⟩⟩
theorem aI.new(R:aI g cx tmp vals st s)(y:∀b o,s.heap.get? b=some o->hp.get? b=some o)(ha:s.heap.objs.size<=a)(d:hp.get? a=some x)(q:NF x):Fz hp st.h cx.rv a x:=⟨d,R.fresh ha,R.notRv ha,q⟩
theorem aI.drop(R:aI g cx tmp vals st s):aI g cx [] [] st s:={R with tmp:=rfl}
theorem aI.push(R:aI g cx tmp vals st s)(h:VR g (cx.F st s) v x):aI g cx (v::tmp) (x::vals) st s:={R with tmp:=⟨h,R.tmp⟩}
theorem aI.pop(R:aI g cx (v::tmp) (x::vals) st s):aI g cx tmp vals st s:={R with tmp:=R.tmp.2}
end
section
open Sem (wp)
noncomputable abbrev Gl.M(g:Gl):Model:=YL g.prog g.w
noncomputable def Gq(v:V9):Code×Pos->Bool:=(⟨_,rfl⟩:{F:Code×Pos->Bool // acT v=(stack>>=λst=>pure (st.any F))}).1
theorem yr(v:V9):acT v=(stack>>=λst=>pure (st.any (Gq v))):=rfl
def jY(c:Code):Prop:=∀v p,Gq v (c,p)=false
def p0(d:Ctx):Prop:=jY d.code∧∀q∈d.below,jY q.1
theorem p0.enter(h:p0 d)(hc:jY c)(hd:Option V9)(p:Pos):p0 (d.enter c hd p):=
 ⟨hc,λq y=>(Wf.mp y).elim (λe=>e▸h.1) (h.2 q)⟩
theorem p0.goto(h:p0 d)(hc:jY c):p0 (d.goto c):=⟨hc,h.2⟩
theorem oh(f:V9)(a:Args):jY (.call f a):=λ_ _=>rfl
section
variable{α β:Type}{g:Gl}{A:Xd}{s:Wj}{E:V9->Wj->Prop}
def wq(g:Gl)(A:Xd)(t:Sem α)(Q:α->Wj->Prop)(E:V9->Wj->Prop)(s:Wj):Prop:=
 ∀d p,d.In A->p0 d->wp g.M d t (λa _ q=>Q a q) (λe _ q=>E e q) p s
def cq(g:Gl)(A:Xd)(c:Code)(R:abJ->Wj->Prop)(s:Wj):Prop:=
 ∀d p,d.code=c->d.Below A->p0 d->wpCode g.M d (λr q=>R r q) p s
def Au(g:Gl)(A:Xd)(R:abJ->Wj->Prop)(bc:aaJ)(s:Wj):Prop:=match bc with
 | .done f=>R (.ok f) s
 | .again c=>c.quiet=true∧jY c∧cq g A c R s
def Q9(Q:Flow->Wj->Prop)(E:V9->Wj->Prop)(r:abJ)(s:Wj):Prop:=match r with
 | .ok f=>Q f s
 | .error e=>E e s
def T2(Q:V9->Wj->Prop)(f:Flow)(s:Wj):Prop:=match f with
 | .ret v=>Q v s
 |_=>False
theorem aF(h:Wz g.M A t Q E s):wq g A t Q E s:=λq p d _=>h q p d
theorem be(h:wq g A t Q E s)(k:∀a d,Q a d->Q' a d)(e:∀a d,E a d->j a d):wq g A t Q' j s:=
 λy p q hc=>Z4 _ y t (λa _ d=>k a d) (λa _ d=>e a d) p s (h y p q hc)
theorem aV{t:Sem α}{Q Q':α->Wj->Prop}(h:wq g A t Q E s)(k:∀a d,Q a d->Q' a d):wq g A t Q' E s:=be h k λ_ _ x=>x
theorem aq{m:Sem α}{f:α->Sem β}{Q:β->Wj->Prop}(h:wq g A m (λa j=>wq g A (f a) Q E j) E s):wq g A (m>>=f) Q E s:=λy p d hc=>by
 rw[aeE]
 exact Z4 _ y m (λa i j q=>q y i d hc) (λ_ _ _ q=>q) p s (h y p d hc)
theorem b0{m:Sem α}{f:α->Sem β}{Q:α->Wj->Prop}{Q':β->Wj->Prop}(h:wq g A m Q E s)(k:∀a d,Q a d->wq g A (f a) Q' E d):wq g A (m>>=f) Q' E s:=aq (aV h k)
theorem ax(h:Q a s):wq g A (pure a) Q E s:=λ_ _ _ _=>h
theorem M4{t:Sem α}{a:α}{Q:α->Wj->Prop}(e:t=pure a)(h:Q a s):wq g A t Q E s:=e▸ax h
theorem dY{a:α}{f:α->Sem β}{Q:β->Wj->Prop}(h:wq g A (f a) Q E s):wq g A (pure a>>=f) Q E s:=h
theorem kI{m:Sem α}{a:α}{f:α->Sem β}{Q:β->Wj->Prop}(e:m=pure a)(h:wq g A (f a) Q E s):wq g A (m>>=f) Q E s:=e▸h
theorem T3{m:Sem α}{a:α}{d:Wj}{f:α->Sem β}{Q:β->Wj->Prop}(l:∀R:α->Wj->Prop,R a d->wq g A m R E s)(h:wq g A (f a) Q E d):wq g A (m>>=f) Q E s:=aq (l _ h)
theorem fC{m:Sem α}{a:α}{d:Wj}{f:α->Sem β}{Q:β->Wj->Prop}(l:∀R:α->Wj->Prop,R a d->Wz g.M A m R E s)(h:wq g A (f a) Q E d):wq g A (m>>=f) Q E s:=aq (aF (l _ h))
theorem Rq(h:Q () s):wq g A (XC pos) Q E s:=aF (acW h)
theorem aU{pos:Pos}{t:Sem β}{Q:β->Wj->Prop}(h:wq g A t Q E s):wq g A (XC pos>>=λ_=>t) Q E s:=aq (Rq h)
theorem ay{vs:List V9}{m:Sem α}{Q:α->Wj->Prop}(h:wq g A m Q E s):wq g A (XH vs m) Q E s:=λq p d hc=>by rw[Sem.wp_holding];exact h q p d hc
theorem Kv{vs:List V9}{m:Sem α}{Q:α->Wj->Prop}(h:wq g A m Q E s):wq g A (m.keep vs) Q E s:=λq p d hc=>by rw[Sem.wp_keep];exact h q p d hc
theorem cI{m:Sem α}{k:V9->Sem Unit}{Q:α->Wj->Prop}(h:wq g A m Q (λe z=>wq g A (k e) (λ_ q=>E e q) E z) s):wq g A (m.onRaise k) Q E s:=λj p d hc=>by
 rw[Sem.wp_onRaise]
 exact Z4 _ j m (λ_ _ _ y=>y) (λ_ i _ y=>y j i d hc) p s (h j p d hc)
theorem kW{m:Sem α}{Q:Except V9 α->Wj->Prop}(h:wq g A m (λa d=>Q (.ok a) d) (λe d=>Q (.error e) d) s):wq g A m.attempt Q E s:=λy p q hc=>by
 rw[Sem.wp_attempt];exact h y p q hc
theorem Rr{c:Prop}[Decidable c]{x y:Sem α}{Q:α->Wj->Prop}(h1:c->wq g A x Q E s)(d:¬c->wq g A y Q E s):wq g A (if c then x else y) Q E s:=by
 split
 ·exact h1 ‹_›
 ·exact d ‹_›
set_option tactic.hygienic true in
theorem Oj{c:Code}{d:Ctx}{p:Pos}{Q:Flow->Wj->Prop}(h:wpCode g.M d (Q9 Q E) p s):wpCode g.M d (λr q=>match r with | .ok f=>Q f q | .error e=>E e q) p s:=h.imp λ_=>XF λ_ x=>⟨x.1,by
 rename_i r _
 cases r <;> exact x.2⟩
theorem Gr(hc:cq g A c (Q9 Q E) s)(q:jY c):wq g A (run c) Q E s:=λy p d hC=>by
 rw[Sem.wp_run]
 exact Oj (c:=c) (hc _ p rfl (d.enter c none p ns) (hC.enter q none p))
theorem oi(hc:cq g A c (Q9 Q λe q=>cameBackBy g.M A env E e q) s)(d:jY c):wq g A (runOwn c env) Q E s:=
 cI (aV (be (Gr hc d) (λ_ _ x=>x) λ_ _ x=>aF x) λ_ _ x=>x)
theorem jM(hc:cq g A (.call f ⟨pos,kw⟩) (Q9 (T2 Q) E) s):wq g A (call f pos kw) Q E s:=λΓ p hΓ hC=>by
 rw[Sem.wp_runValue]
 exact(hc _ p rfl (hΓ.enter _ none p ns) (hC.enter (oh _ _) none p)).imp λr=>XF λs' x=>⟨x.1,by
  cases r with
  |ok f=>cases f <;> exact x.2
  |error e=>exact x.2⟩
theorem U4(h:adp g.M A c R s):cq g A c R s:=λq p hc d _=>h q p hc d
theorem mh(h:cq g A c R s)(k:∀f d,R f d->j f d):cq g A c j s:=λy p hc q hC=>(h y p hc q hC).imp λr=>XF λd x=>⟨x.1,k _ _ x.2⟩
theorem fD(hh:jY c)(h:wq g (A.under c) (g.M.den c) (Au g A R) (λe s'=>R (.error e) s') s):cq g A c R s:=λΓ p hc hΓ hC=>by
 rw[wpCode_iff_wp,hc]
 refine Z4 _ Γ _ (λbc p' s' h'=>?_) (λ_ _ _ h'=>h') p s (h Γ p (hc▸hΓ.in) hC)
 cases bc with
 |done f=>exact h'
 |again c'=>exact⟨h'.1,h'.2.2 (Γ.goto c') p' rfl (hΓ.goto c') (hC.goto h'.2.1)⟩
theorem rj(hq:c.quiet=true)(hh:jY c)(I:Nat->Wj->Prop)
 (turn:∀n s,I n s->wq g (A.under c) (g.M.den c) (λbc s'=>(bc=.again c∧∃m,m<n∧I m s')∨Au g A R bc s') (λe s'=>R (.error e) s') s) (n:Nat) (h:I n s):cq g A c R s:=by
 induction n using Nat.strongRecOn generalizing s with
 |ind n ih=>exact fD hh (aV (turn n s h) λbc s' hf=>hf.elim (λ⟨e,m,hm,hI⟩=>e▸⟨hq,hh,ih m hm hI⟩) id)
end
end
set_option backward.match.sparseCases false
abbrev PT:=(V->St->Prop)->(St->Prop)->St->Prop
noncomputable section
def vc(v:V)(fi:Int->Prop:=λ_=>False)(fb:List UInt8->Prop:=λ_=>False)(fs:List Nat->Prop:=λ_=>False)(fo:Bool->Prop:=λ_=>False)
 (ft:List V->Prop:=λ_=>False) (fl:List V->Prop:=λ_=>False) (fr:Addr->Prop:=λ_=>False) (fn:Prop:=False) (fc:Addr->List V->Prop:=λ_ _=>False):Prop:=
 V.casesOn (motive_1:=λ_=>Prop) v fn fo fi fs fb (λ_=>False) fr ft fl fc
def oc(o:O)(fl:List V->Prop:=λ_=>False)(fi:Addr->Addr->Prop:=λ_ _=>False)(ff:Addr->List V->Prop:=λ_ _=>False)(fd:(k:DK)->List (k.K×V)->Prop:=λ_ _=>False)(fb:List UInt8->Prop:=λ_=>False):Prop:=
 O.casesOn (motive:=λ_=>Prop) o fl fi ff fd fb
def dR(x:Option d)(k:d->Prop):Prop:=WY (motive:=λ_=>Prop) x False k
def br(b:Bool)(t f:Prop):Prop:=Y4 (motive:=λ_=>Prop) b f t
abbrev kJ(v:V)(k:Int->Prop):Prop:=vc v (fi:=k)
abbrev Av(v:V)(k:List UInt8->Prop):Prop:=vc v (fb:=k)
abbrev M6(v:V)(k:List Nat->Prop):Prop:=vc v (fs:=k)
abbrev iE(v:V)(k:List V->Prop):Prop:=vc v (fl:=k)
abbrev Ra(v:V)(k:List V->Prop):Prop:=vc v (ft:=k)
abbrev Ol(v:V)(k:Addr->Prop):Prop:=vc v (fr:=k)
abbrev Gs(v:V)(k:Bool->Prop):Prop:=vc v (fo:=k)
def res(h:AH)(v:V):V:=V.casesOn (motive_1:=λ_=>V) v .none .bool .int .str .bytes .raw
 (λa=>WY (motive:=λ_=>V) (h a) (.ref a) λo=>O.casesOn (motive:=λ_=>V) o .lst (λ_ _=>.ref a) (λ_ _=>.ref a) (λ_ _=>.ref a) (λ_=>.ref a)) .tup .lst .inst
def vO(a:Addr)(us:List V)(vs:List V):List V:=
 V.rec_1 (motive_1:=λ_=>V) (motive_2:=λ_=>List V) .none .bool .int .str .bytes .raw (λb=>if b=a then .lst us else .ref b) (λ_ r=>.tup r) (λ_ r=>.lst r) (λc _ r=>.inst c r) [] (λ_ _ v r=>v::r) vs
def b9(a:Addr)(us:List V)(v:V):V:=
 V.rec (motive_1:=λ_=>V) (motive_2:=λ_=>List V) .none .bool .int .str .bytes .raw (λb=>if b=a then .lst us else .ref b) (λ_ r=>.tup r) (λ_ r=>.lst r) (λc _ r=>.inst c r) [] (λ_ _ v r=>v::r) v
def T4(a:Addr)(vs:List V)(st:St):St:=⟨st.loc.map (Ym (b9 a vs)),upd st.h a none⟩
def Gu(f:Bool->Bool->Bool)(x y:Option Bool):Option Bool:=x.bind λa=>y.map (f a)
def M7(f:V->V->Option Bool)(vs ws:List V):Option Bool:=(List.zipWith f vs ws).foldr (Gu and) (some true)
def jZ(o:Option Bool)(f:V->V->Option Bool)(vs ws:List V):Option Bool:=if vs.length=ws.length then M7 f vs ws else o
def jh:Nat->V->V->Option Bool
 |0,_,_=>none
 |n+1,v,w=>match v with
  | .int i=>match w with | .int j=>some (i==j)|_=>none
  | .str i=>match w with | .str j=>some (i==j)|_=>none
  | .bytes i=>match w with | .bytes j=>some (i==j)|_=>none
  | .tup vs=>match w with | .tup ws=>jZ none (jh n) vs ws|_=>none
  | .lst vs=>match w with | .lst ws=>jZ (some false) (jh n) vs ws|_=>none
  |_=>none
def eqT(v w:V):Option Bool:=match v with
 | .none=>match w with | .none=>some true | .int _=>some false | .tup _=>some false|_=>none
 | .bool i=>match w with | .bool j=>some (i==j)|_=>none
 | .inst _ _=>match w with | .str _=>some false|_=>none
 | .tup vs=>match w with | .none=>some false | .tup ws=>jZ none (jh 3) vs ws|_=>none
 |v=>jh 4 v w
def Gv(l:List (Option Bool)):Option Bool:=l.foldr (Gu or) (some false)
def Aw(n:Nat):Prop:=n<=16777216
def Ek(a b:V)(c:Int->Int->Prop)(f:Int->Int->Int)(Q:V->Prop):Prop:=kJ a λi=>kJ b λj=>c i j∧Q (.int (f i j))
def Kw(a b:V)(h:AH)(Q:V->Prop):Prop:=vc (res h a)
 (fi:=λi=>kJ b λj=>Q (.int (i+j)))
 (fb:=λx=>Av b λy=>Aw (x.length+y.length)∧Q (.bytes (x++y)))
 (fs:=λx=>M6 b λy=>Aw (x.length+y.length)∧Q (.str (x++y)))
 (fl:=λx=>iE (res h b) λy=>x.length+y.length<=1000000∧Q (.lst (x++y)))
def Rt(a b:V)(h:AH)(Q:V->Prop):Prop:=vc (res h a)
 (fi:=λi=>kJ b λj=>ady i j∧Q (.int (i*j)))
 (fb:=λx=>kJ b λn=>(x≠[]∧x.length<=16∧-1048576<=n∧n<=1048576)∧Q (.bytes (WZ n.toNat x).flatten))
 (fl:=λx=>kJ b λn=>(0<=n∧n<=16∧x.length<=1000)∧Q (.lst (WZ n.toNat x).flatten))
def El(op:Operator)(a b:V)(h:AH)(Q:V->Prop):Prop:=match op with
 | .Add=>Kw a b h Q
 | .Sub=>kJ a λi=>kJ b λj=>Q (.int (i-j))
 | .Mult=>Rt a b h Q
 | .FloorDiv=>Ek a b (λi j=>j≠0∧aar i j=false) Int.fdiv Q
 | .Mod=>Ek a b (λ_ j=>j≠0) Int.fmod Q
 | .RShift=>Ek a b (λ_ j=>0<=j) (λi j=>i.fdiv (2^j.toNat)) Q
 | .BitAnd=>kJ a λi=>kJ b λj=>Q (.int (ac7 i j))
 | .Pow=>Ek a b (λi j=>0<=j∧j<=1000∧i.natAbs<2^64) (λi j=>i^j.toNat) Q
 |_=>False
def atKey{K:Type}[DecidableEq K](l:List (K×V))(k:K):Option V:=(l.find? λd=>d.1=k).map (·.2)
def fE{K:Type}[DecidableEq K](l:List (K×V))(k:K)(v:V):List (K×V):=if l.any (λd=>d.1=k)then l.map (λd=>if d.1=k then(d.1,v)else d)else l++[(k,v)]
def among(vs:List V)(x:V)(P:Bool->Prop):Prop:=dR (Gv (vs.map λv=>jh 4 v x)) P
def only(l:List d)(k:d->Prop):Prop:=Yd (motive:=λ_=>Prop) l False λa r=>Yd (motive:=λ_=>Prop) r (k a) λ_ _=>False
def Ru(x c:V)(h:AH)(P:Bool->Prop):Prop:=vc (res h c)
 (fb:=λb=>vc x (fi:=λi=>(0<=i∧i<256)∧P (b.contains i.toNat.toUInt8)) (fb:=λk=>only k λk=>P (b.contains k)))
 (fs:=λb=>M6 x λk=>only k λk=>P (decide (k∈b)))
 (fr:=λa=>dR (h a) λo=>oc o (fd:=λk l=>dR (k.key x) λd=>P (atKey l d).isSome))
 (ft:=λvs=>among vs x P) (fl:=λvs=>among vs x P)
def isNone(v:V):Bool:=V.casesOn (motive_1:=λ_=>Bool) v true (λ_=>false) (λ_=>false) (λ_=>false) (λ_=>false) (λ_=>false) (λ_=>false) (λ_=>false) (λ_=>false) (λ_ _=>false)
def ji(v:V):Prop:=V.casesOn (motive_1:=λ_=>Prop) v True (λ_=>True) (λ_=>True) (λ_=>True) (λ_=>True) (λ_=>False) (λ_=>True) (λ_=>True) (λ_=>True) (λ_ _=>True)
def T5(a b:V)(P:Bool->Prop):Prop:=vc b (fn:=ji a∧P (isNone a))
def Kx(f:Int->Int->Bool)(a b:V)(P:Bool->Prop):Prop:=kJ a λi=>kJ b λj=>P (f i j)
def U5(a b:V)(P:Bool->Prop):Prop:=vc a (fi:=λi=>kJ b λj=>P (decide (i<=j))) (fb:=λx=>Av b λy=>P (abl x y != .gt))
def tN(op:CmpOp)(a b:V)(h:AH)(P:Bool->Prop):Prop:=match op with
 | .Eq=>dR (eqT (res h a) (res h b)) P
 | .NotEq=>dR (eqT (res h a) (res h b)) λc=>P (!c)
 | .In=>Ru a b h P
 | .NotIn=>Ru a b h λc=>P (!c)
 | .Is=>T5 a b P
 | .IsNot=>T5 a b λc=>P (!c)
 | .Lt=>Kx (λi j=>decide (i<j)) a b P
 | .Gt=>Kx (λi j=>decide (i>j)) a b P
 | .GtE=>Kx (λi j=>decide (i≥j)) a b P
 | .LtE=>U5 a b P
def Gw(vs:List V)(k:Int)(Q:V->Prop):Prop:=if k=-1 then dR vs.getLast? Q else 0<=k∧dR vs[k.toNat]? Q
def T6(k:Int)(l:List d)(Q:d->Prop):Prop:=0<=k∧dR l[k.toNat]? Q
def gm(o i:V)(h:AH)(Q:V->Prop):Prop:=vc (res h o)
 (fb:=λb=>kJ i λk=>T6 k b λc=>Q (.int (c.toNat:Nat)))
 (fs:=λb=>kJ i λk=>T6 k b λc=>Q (.str [c]))
 (ft:=λb=>kJ i λk=>T6 k b Q)
 (fl:=λb=>kJ i λk=>Gw b k Q)
 (fr:=λa=>dR (h a) λo=>oc o (fd:=λk l=>dR (k.key i) λd=>dR (atKey l d) Q))
def Ky(v:V)(k:Option Int->Prop):Prop:=vc v (fn:=k none) (fi:=λi=>k (some i))
def bY{d:Type}(l:List d)(lo q:Option Int):List d:=(l.drop (lo.elim 0 (abH l.length))).take (q.elim l.length (abH l.length)-lo.elim 0 (abH l.length))
def T7(x:List Nat)(lo d:Option Int)(Q:V->Prop):Prop:=
 ∃a b:Nat,((lo=none∧a=0)∨lo=some (a:Int))∧((d=none∧b=x.length)∨d=some (b:Int))∧a<=b∧b<=x.length∧Q (.str ((x.drop a).take (b-a)))
def Rv(v:V)(lo d:Option Int)(h:AH)(Q:V->Prop):Prop:=vc (res h v) (fb:=λb=>Q (.bytes (bY b lo d))) (fs:=λx=>T7 x lo d Q) (fl:=λvs=>Q (.lst (bY vs lo d)))
def vP:List (Option V)->List Nat->List V->List (Option V)
 |l,i::is,v::vs=>vP (l.set i (some v)) is vs
 |l,_,_=>l
abbrev gG:=V->(St->Prop)->St->Prop
def aj(i:Nat):gG:=λv Q st=>Q ⟨st.loc.set i (some v),st.h⟩
def T8(is:List Nat):gG:=λv Q st=>Ra v λvs=>is.length=vs.length∧Q ⟨vP st.loc is vs,st.h⟩
def Om(o i v:V)(Q:St->Prop)(st:St):Prop:=Ol o λa=>dR (st.h a) λd=>oc d
 (fl:=λvs=>kJ i λk=>if k=-1 then vs≠[]∧Q ⟨st.loc,upd st.h a (some (.list (vs.set (vs.length-1) v)))⟩else(0<=k∧k<vs.length)∧Q ⟨st.loc,upd st.h a (some (.list (vs.set k.toNat v)))⟩)
 (fd:=λk l=>dR (k.key i) λq=>l.length<1000000∧Q ⟨st.loc,upd st.h a (some (.dict k (fE l q v)))⟩)
def putAt(vs:List V)(i:Nat)(v:V):List V:=if i<vs.length then vs.set i v else vs++[v]
abbrev Ix:=List (Addr×Nat)
def Oo(d:Ix)(c:Addr)(vs:List V)(Q:V->Prop):Prop:=dR (d.lookup c) λi=>dR vs[i]? λu=>ji u∧Q u
def Gx(q:Ix)(v:V)(h:AH)(Q:V->Prop):Prop:=vc v (fc:=λc vs=>Oo q c vs Q) (fr:=λa=>dR (h a) λo=>oc o (fi:=λc d=>dR (h d) λo=>oc o (ff:=λy vs=>c=y∧Oo q c vs Q)))
def Oq(q:Ix)(o v:V)(Q:St->Prop)(st:St):Prop:=Ol o λa=>dR (st.h a) λo=>oc o (fi:=λc d=>dR (st.h d) λo=>oc o (ff:=λy vs=>c=y∧dR (q.lookup c) λi=>i<=vs.length∧Q ⟨st.loc,upd st.h d (some (.fields c (putAt vs i v)))⟩))
def fresh(o:O)(st:St)(Q:V->St->Prop):Prop:=∀c,st.h c=none->Q (.ref c) ⟨st.loc,upd st.h c (some o)⟩
def Rx(v:V)(st:St)(Q:List V->St->Prop):Prop:=vc v
 (fb:=λb=>Q (b.map λc=>.int (c.toNat:Nat)) st) (fs:=λx=>Q (x.map λc=>.str [c]) st) (ft:=λvs=>Q vs st) (fl:=λvs=>Q vs st)
 (fr:=λa=>dR (st.h a) λo=>oc o (fl:=λvs=>Q vs (T4 a vs st)))
def fT(s:gG)(W:PT):List V->PT
 | [],Q,_,st=>Q .none st
 |v::r,Q,X,st=>s v (λq=>W (λf d=>br (isNone f) (fT s W r Q X d) (Q f d)) X q) st
def rM(y Wb:PT):Nat->PT
 |0,_,_,_=>False
 |n+1,Q,X,st=>y (λb q=>Gs b λb=>br b (Wb (λf d=>br (isNone f) (rM y Wb n Q X d) (Q f d)) X q) (Q .none q)) X st
def uS:St->Prop:=λ_=>False
def iF(s:gG)(i z:PT):List V->List V->(List V->St->Prop)->St->Prop
 | [],d,Q,st=>Q d st
 |v::r,d,Q,st=>s v (λj=>i (λb q=>Gs b λb=>br b (z (λy u=>iF s i z r (d++[y]) Q u) uS q) (iF s i z r d Q q)) uS j) st
def j0:PT:=λQ _ st=>Q (.bool true) st
def fU(z u:gG)(c p:PT):List V->List V->(List V->St->Prop)->St->Prop
 | [],d,Q,st=>Q d st
 |v::r,d,Q,st=>z v (λj=>c (λvs y=>iE vs λvs=>d.length+vs.length<=900000∧iF u j0 p vs d (λq i=>fU z u c p r q Q i) y) uS j) st
def eI(is:List Nat)(loc:List (Option V)):List (Option V):=is.map λi=>(loc[i]?).join
def cJ:PT:=λ_ _ _=>False
def ae(i:Nat):PT:=λQ _ st=>dR (st.loc[i]?).join λv=>Q v st
def af(v:V):PT:=λQ _ st=>Q v st
def ao(op:Operator)(l r:PT):PT:=λQ X st=>l (λa q=>r (λb d=>El op a b d.h λv=>Q v d) X q) X st
def Gy(e:PT):PT:=λQ X st=>e (λv d=>kJ v λi=>Q (.int (-i)) d) X st
def gw(e:PT):PT:=λQ X st=>e (λv d=>Gs v λb=>Q (.bool (!b)) d) X st
def aC(op:CmpOp)(l r:PT):PT:=λQ X st=>l (λa q=>r (λb d=>tN op a b d.h λc=>Q (.bool c) d) X q) X st
def rO(o p:CmpOp)(l a b:PT):PT:=λQ X st=>l (λx j=>a (λy d=>tN o x y d.h λc=>br c (b (λz q=>tN p y z q.h λc=>Q (.bool c) q) X d) (Q (.bool false) d)) X j) X st
def di(l r:PT):PT:=λQ X st=>l (λv d=>Gs v λb=>br b (r Q X d) (Q (.bool false) d)) X st
def cF(l r:PT):PT:=λQ X st=>l (λv d=>Gs v λb=>br b (Q (.bool true) d) (r Q X d)) X st
def bA(t x y:PT):PT:=λQ X st=>t (λv d=>Gs v λb=>br b (x Q X d) (y Q X d)) X st
def ag:PT:=λQ _ st=>Q (.lst []) st
def aa(e y:PT):PT:=λQ X st=>e (λv q=>y (λvs d=>iE vs λvs=>Q (.lst (v::vs)) d) X q) X st
def aQ(o i:PT):PT:=λQ X st=>o (λa q=>i (λb d=>gm a b d.h λv=>Q v d) X q) X st
def bb(o lo i:PT):PT:=λQ X st=>o (λa j=>lo (λx q=>i (λy d=>Ky x λx=>Ky y λy=>Rv a x y d.h λv=>Q v d) X q) X j) X st
def Kz(o:PT):PT:=λQ X st=>o (λa d=>iE (res d.h a) λvs=>fresh (.list vs.reverse) d Q) X st
def c8(q:PT):PT:=λQ X st=>q (λvs d=>iE vs λvs=>vs.length<=1000000∧Q (.tup vs) d) X st
def bp(q:PT):PT:=λQ X st=>q (λvs d=>iE vs λvs=>vs.length<=1000000∧Q (.lst vs) d) X st
def gx(q:PT):PT:=λQ X st=>q (λvs d=>iE vs λvs=>vs.length<=1000000∧fresh (.list vs) d Q) X st
def a6(e:PT):PT:=λQ X st=>e (λv q=>Rx v q λvs d=>Q (.lst vs) d) X st
def U6(own:Nat)(iP:List Nat)(s:gG)(y c e:PT):PT:=λQ X st=>y (λvs d=>iE vs λvs=>vs.length<=1000000∧iF s c e vs [] (λq st'=>Q (.lst q) ⟨d.loc,st'.h⟩) ⟨WZ own none++eI iP d.loc,d.h⟩) X st
def T9(own:Nat)(iP:List Nat)(s u:gG)(y j e:PT):PT:=λQ X st=>y (λvs d=>iE vs λvs=>vs.length<=1000000∧fU s u j e vs [] (λq st'=>Q (.lst q) ⟨d.loc,st'.h⟩) ⟨WZ own none++eI iP d.loc,d.h⟩) X st
def ai:PT:=λQ _ st=>Q .none st
def ah(a r:PT):PT:=λQ X st=>a (λf d=>br (isNone f) (r Q X d) (Q f d)) X st
def aD(s:gG)(e:PT):PT:=λQ X st=>e (λv q=>s v (λd=>Q .none d) q) X st
def bZ(is:List Nat)(q:PT):PT:=λQ X st=>c8 q (λv d=>Ra v λvs=>is.length=vs.length∧Q .none ⟨vP d.loc is vs.reverse,d.h⟩) X st
def fV(o i:PT):gG:=λv Q st=>o (λa q=>i (λb d=>Om a b v Q d) uS q) uS st
def bN(o:PT)(q:Ix):gG:=λv Q st=>o (λa d=>Oq q a v Q d) uS st
def aS(o:PT)(q:Ix):PT:=λQ X st=>o (λa d=>Gx q a d.h λv=>Q v d) X st
def KA(o:PT)(z:Ix)(e:PT):PT:=λQ X st=>o (λa d=>Gx z a d.h λu=>e (λb y=>kJ u λi=>kJ b λj=>Oq z a (.int (i+j)) (λq=>Q .none q) y) X d) X st
def Vx(t a b:PT):PT:=bA t a b
def dq(s:gG)(q body:PT):PT:=λQ X st=>q (λvs d=>iE vs λvs=>fT s body vs Q X d) X st
def fW(t body:PT):PT:=λQ X st=>∃n,rM t body n Q X st
def aN(e:PT):PT:=λQ X st=>e (λv d=>Q (.tup [v]) d) X st
def fX(e:PT):PT:=λQ X st=>e (λ_ d=>Q .none d) X st
def bj(e:PT):PT:=λ_ X st=>e (λ_ d=>X d) X st
def vQ(b:PT)(i:Nat)(v:V):PT:=λQ X st=>b Q (λd=>Q .none ⟨d.loc.set i (some v),d.h⟩) st
end
set_option backward.match.sparseCases true
def cp:Addr:=52
inductive Told(g:Gl)(L:Option Addr)(rv:List Addr)(hp:Heap)(e:Addr)(f:V9):Prop
 |mk {T:Addr} {o:Obj} {ts:Array V9} {l:V9} (h:f=.ref T) (hb:g.B.get? T=none) (hr:T∉rv) (ne:T≠e) (ho:hp.get? T=some o) (hd:o.data=.fields ts) (h3:ts[3]? = some l) (hl:l=.none∨∃a,L=some a∧l=Y5 a)
def Trace(g:Gl)(L:Option Addr)(rv:List Addr)(hp:Heap)(e:Addr)(f:V9):Prop:=f=.none∨Told g L rv hp e f
inductive gL(g:Gl)(rv:List Addr)(hp:Heap)(tr:Addr->V9->Prop)(x:V9):Prop
 |mk {e:Addr} {o:Obj} {vs:Array V9} {a f:V9} (hx:x=.ref e) (ho:hp.get? e=some o) (hc:o.cls=.ref cp) (hd:o.data=.fields vs) (h0:vs[0]? = some a) (h1:vs[1]? = some f) (hb:g.B.get? e=none) (hr:e∉rv) (t:tr e f)
theorem gL.imp(h:gL g rv hp i x)(z:∀a,a∈j->a∈rv)(k:∀e f,i e f->y e f):gL g j hp y x:=by
 cases h with|mk a b c d e f g h t=>exact .mk a b c d e f g (λq=>h (z _ q)) (k _ _ t)
abbrev rP(g:Gl)(L:Option Addr)(rv:List Addr)(hp:Heap)(x:V9):Prop:=gL g rv hp (Trace g L rv hp) x
abbrev mi(g:Gl)(L:Option Addr)(rv:List Addr)(hp:Heap)(x:V9):Prop:=gL g rv hp (Told g L rv hp) x
section
variable(g:Gl)(cx:Cx)(tmp:List V)(vals:List V9)
inductive Up(Q:V->St->Prop)(x:V9)(s:Wj):Prop
 |mk {v:V} {st:St} (R:aI g cx (v::tmp) (x::vals) st s) (q:Q v st)
inductive Tx(Q:V->St->Prop)(b:Bool)(s:Wj):Prop
 |mk {st:St} (R:aI g cx tmp vals st s) (q:Q (.bool b) st)
inductive Ry(Q:V->St->Prop)(xs:List V9)(s:Wj):Prop
 |mk {vs:List V} {st:St} (R:aI g cx (vs++tmp) (xs++vals) st s) (l:vs.length=xs.length) (q:Q (.lst vs) st)
inductive Vy(Q:St->Prop)(s:Wj):Prop
 |mk {st:St} (R:aI g cx tmp vals st s) (q:Q st)
inductive Ot(Q:V->St->Prop):Flow->Wj->Prop
 |next {st:St} {s:Wj} (R:aI g cx [] [] st s) (q:Q .none st):Ot Q .next s
 |ret {v:V} {x:V9} {st:St} {s:Wj} (R:aI g cx [v] [x] st s) (q:Q (.tup [v]) st):Ot Q (.ret x) s
inductive hH(X:St->Prop)(x:V9)(s:Wj):Prop
 |mk {st:St} (R:aI g cx [] [] st s) (f:rP g cx.env.frame cx.rv s.heap x) (q:X st)
def TE(t:Sem V9)(W:PT):Prop:=∀{A s tmp vals st Q X},gJ cx.stk cx.lvl A->aI g cx tmp vals st s->W Q X st->wq g A t (Up g cx tmp vals Q) (hH g cx X) s
def TB(t:Sem Bool)(W:PT):Prop:=∀{A s tmp vals st Q X},gJ cx.stk cx.lvl A->aI g cx tmp vals st s->W Q X st->wq g A t (Tx g cx tmp vals Q) (hH g cx X) s
def TL(t:Sem (List V9))(W:PT):Prop:=∀{A s tmp vals st Q X},gJ cx.stk cx.lvl A->aI g cx tmp vals st s->W Q X st->wq g A t (Ry g cx tmp vals Q) (hH g cx X) s
def TS(t:Sem Flow)(W:PT):Prop:=∀{A s st Q X},gJ cx.stk cx.lvl A->aI g cx [] [] st s->W Q X st->wq g A t (Ot g cx Q) (hH g cx X) s
def TT(t:V9->Sem Unit)(W:gG):Prop:=∀{A s v x tmp vals st Q},gJ cx.stk cx.lvl A->aI g cx (v::tmp) (x::vals) st s->W v Q st->wq g A (t x) (λ_ d=>Vy g cx tmp vals Q d) (λ_ _=>False) s
abbrev bE(e:Expr)(W:PT):Prop:=TE g cx (eval e cx.env) W
abbrev uT(e:Expr)(W:PT):Prop:=TB g cx (abG e cx.env (eval e cx.env)) W
abbrev An(pos:Pos)(d:List Expr)(W:PT):Prop:=TL g cx (abw (Zf pos (X0 d cx.env))) W
abbrev Ax(ss:List Stmt)(W:PT):Prop:=TS g cx (aew ss cx.env) W
abbrev j1(s:Stmt)(W:PT):Prop:=TS g cx (exec s cx.env) W
end
section
variable{g:Gl}{cx:Cx}{tmp:List V}{vals:List V9}{st:St}{s:Wj}{A:Xd}{Q:V->St->Prop}{X:St->Prop}{x:V9}
theorem Up.elim'{P:Prop}(u:Up g cx tmp vals Q x s)(k:∀v st,aI g cx (v::tmp) (x::vals) st s->Q v st->P):P:=u.casesOn λR q=>k _ _ R q
theorem Tx.elim'{P:Prop}{b:Bool}(u:Tx g cx tmp vals Q b s)(k:∀st,aI g cx tmp vals st s->Q (.bool b) st->P):P:=u.casesOn λR q=>k _ R q
theorem Ry.elim'{P:Prop}{xs:List V9}(u:Ry g cx tmp vals Q xs s)(k:∀vs st,aI g cx (vs++tmp) (xs++vals) st s->vs.length=xs.length->Q (.lst vs) st->P):P:=u.casesOn λR l q=>k _ _ R l q
theorem TE.then_{d:Type}{m:Sem V9}{f:V9->Sem d}{Q':d->Wj->Prop}(h:TE g cx m W1)(y:gJ cx.stk cx.lvl A)(R:aI g cx tmp vals st s)(w:W1 Q X st)
 (k:∀v x st s,aI g cx (v::tmp) (x::vals) st s->Q v st->wq g A (f x) Q' (hH g cx X) s):wq g A (m>>=f) Q' (hH g cx X) s:=b0 (h y R w) λx s u=>u.elim' λv st R q=>k v x st s R q
theorem TB.then_{d:Type}{m:Sem Bool}{f:Bool->Sem d}{Q':d->Wj->Prop}(h:TB g cx m W1)(y:gJ cx.stk cx.lvl A)(R:aI g cx tmp vals st s)(w:W1 Q X st)
 (k:∀b st s,aI g cx tmp vals st s->Q (.bool b) st->wq g A (f b) Q' (hH g cx X) s):wq g A (m>>=f) Q' (hH g cx X) s:=b0 (h y R w) λb s u=>u.elim' λst R q=>k b st s R q
theorem TL.then_{d:Type}{m:Sem (List V9)}{f:List V9->Sem d}{Q':d->Wj->Prop}(h:TL g cx m W1)(y:gJ cx.stk cx.lvl A)(R:aI g cx tmp vals st s)(w:W1 Q X st)
 (k:∀vs xs st s,aI g cx (vs++tmp) (xs++vals) st s->vs.length=xs.length->Q (.lst vs) st->wq g A (f xs) Q' (hH g cx X) s):wq g A (m>>=f) Q' (hH g cx X) s:=b0 (h y R w) λxs s u=>u.elim' λvs st R l q=>k vs xs st s R l q
theorem TE.hold(h:TE g cx m W)(vs:List V9):TE g cx (XH vs m) W:=λd R w=>ay (h d R w)
theorem hJ{E:V9->Wj->Prop}{vs:List V9}{m:Sem V9}{Q:V9->Wj->Prop}(h:wq g A m Q E s):wq g A (aa9 vs m) Q E s:=λq p d hc=>by
 rw[Sem.wp_operate];exact h q p d hc
theorem aI.up(R:aI g cx tmp vals st s)(h:VR g (cx.F st s) v x)(q:Q v st):Up g cx tmp vals Q x s:=⟨R.push h,q⟩
theorem cD{F:FZ}{i:Int}{t:Tok}:VR g F (.int i) (.int i t):=adY t rfl
theorem mj:VR g F (.bool b) (.bool b):=Eq.refl _
theorem gn:VR g F .none .none:=Eq.refl _
theorem e6{F:FZ}{i:List Nat}{t:Tok}(h:i.length<=16777216):VR g F (.str i) (.str ⟨i.toArray⟩ t):=V8 h (adY t rfl)
theorem cR{F:FZ}{i:List UInt8}{t:Tok}(h:i.length<=16777216):VR g F (.bytes i) (.bytes i.toArray t):=V8 h (adY t rfl)
theorem M9:bE g cx (.Constant (.int i) k pos) (af (.int i)):=λ_ R w=>aF (wpAny_Constant_int (R.toks.up cD w))
theorem Ou:bE g cx (.Constant .none k pos) (af .none):=λ_ R w=>aF (wpAny_Constant_none (R.up gn w))
theorem Ov:bE g cx (.Constant (.bool b) k pos) (af (.bool b)):=λ_ R w=>aF (wpAny_Constant_bool (R.up mj w))
theorem Rz(d:decide (u.cps.toList.length<=16777216)=true):bE g cx (.Constant (.str u) k pos) (af (.str u.cps.toList)):=λ_ R w=>aF (wpAny_Constant_str (R.toks.up (e6 (of_decide_eq_true d)) w))
theorem KC(d:decide (u.length<=16777216)=true):bE g cx (.Constant (.bytes u) k pos) (af (.bytes u)):=λ_ R w=>aF λ_ _ _=>R.toks.up (cR (of_decide_eq_true d)) w
theorem aT(h:dR o k):∃a,o=some a∧k a:=by
 cases o with
 |none=>exact h.elim
 |some a=>exact⟨a,rfl,h⟩
theorem Gz{d:Type}{o:Option d}{k:d->Prop}{P:Prop}(h:dR o k)(f:∀a,o=some a->k a->P):P:=(aT h).elim λa h=>f a h.1 h.2
theorem Ow{y:Str}(i:Nat)(z:cx.names[i]? = some y)(hd:(y==("__debug__" : Str))=false)(hc:(y==("__classdict__" : Str))=false):bE g cx (.Name y pos) (ae i):=λc R w=>
 Gz w λv j q=>R.loc.elim λm d=>(d.2 i y v z (adL.mp j)).elim λu hx=>aF (wpAny_Name (match hx.2 with
  | .loc k h=>acB R.ok.kind k d.1 h (R.up hx.1 q)
  | .cell (.inl k) h hc=>wpAny_loadName_cell R.ok.kind k h hc (R.up hx.1 q)
  | .cell (.inr k) h hc'=>wpAny_loadName_free R.ok.kind k h hc' (R.up hx.1 q) hc) hd)
theorem bu(h:kJ v k):∃i,v=.int i∧k i:=by cases v <;> first|exact⟨_,rfl,h⟩|exact Ws h
theorem cK(h:Av v k):∃i,v=.bytes i∧k i:=by cases v <;> first|exact⟨_,rfl,h⟩|exact Ws h
theorem hM(h:M6 v k):∃i,v=.str i∧k i:=by cases v <;> first|exact⟨_,rfl,h⟩|exact Ws h
theorem eS(h:iE v k):∃i,v=.lst i∧k i:=by cases v <;> first|exact⟨_,rfl,h⟩|exact Ws h
theorem vR(h:Ra v k):∃i,v=.tup i∧k i:=by cases v <;> first|exact⟨_,rfl,h⟩|exact Ws h
theorem jN(h:Ol v k):∃i,v=.ref i∧k i:=by cases v <;> first|exact⟨_,rfl,h⟩|exact Ws h
theorem rk(h:Gs v k):∃i,v=.bool i∧k i:=by cases v <;> first|exact⟨_,rfl,h⟩|exact Ws h
theorem Na(h:bE g cx e W)(j:∀d,abG e cx.env d=(do let v ←d;XC e.pos;XH [v] (truthy v))):uT g cx e (λQ X st=>W (λv st=>Gs v λb=>Q (.bool b) st) X st):=λy R w=>by
 rw[j]
 exact h.then_ y R w λv x st s R q=>aU (ay (by
  obtain⟨b,rfl,q⟩:=rk q
  obtain rfl:x=.bool b:=R.tmp.1
  exact aF (Y7 ⟨R.pop,q⟩)))
theorem RA(h:uT g cx e W):uT g cx (.UnaryOp .Not e pos) (λQ X st=>W (λv st=>Gs v λb=>Q (.bool (!b)) st) X st):=λd R w=>
 show wq _ _ (do return !(←abG e cx.env (eval e cx.env))) _ _ _ from h.then_ d R w λb st s R q=>ax ⟨R,q⟩
theorem RB(h:bE g cx e W):bE g cx (.UnaryOp .Not e pos) (gw W):=λd R w=>
 show wq _ _ (do let v ←eval e cx.env;XC pos;XH [v] (unaryOp .Not v)) _ _ _ from h.then_ d R w λv x st s R q=>aU (ay ((rk q).elim λb q=>by
  obtain⟨rfl,q⟩:=q
  obtain rfl:x=.bool b:=R.tmp.1
  exact aF (not_of (Y7 (R.pop.up mj q)))))
theorem Nb(h:bE g cx e W):bE g cx (.UnaryOp .USub e pos) (Gy W):=λd R w=>
 show wq _ _ (do let v ←eval e cx.env;XC pos;XH [v] (unaryOp .USub v)) _ _ _ from h.then_ d R w λv x st s R q=>aU (ay ((bu q).elim λb q=>by
  obtain⟨rfl,q⟩:=q
  obtain⟨t,rfl⟩:∃t,x=.int b t:=R.tmp.1
  exact aF (neg_int (R.pop.toks.up cD q))))
theorem yt{j Wa Wb:PT}{y:Type}{f:Bool->Sem y}{Q':y->Wj->Prop}(z:uT g cx t j)(i:gJ cx.stk cx.lvl A)(R:aI g cx tmp vals st s)(w:j (λv d=>Gs v λb=>br b (Wa Q X d) (Wb Q X d)) X st)
 (h1:∀st s,aI g cx tmp vals st s->Wa Q X st->wq g A (f true) Q' (hH g cx X) s) (u:∀st s,aI g cx tmp vals st s->Wb Q X st->wq g A (f false) Q' (hH g cx X) s) :
 wq g A (abG t cx.env (eval t cx.env)>>=f) Q' (hH g cx X) s:=z.then_ i R w λb st s R q=>by
 cases b with
 |true=>exact h1 st s R q
 |false=>exact u st s R q
theorem Ua(i:uT g cx t W)(h1:bE g cx l W1)(j:bE g cx r y):bE g cx (.IfExp t l r pos) (bA W W1 y):=λd R w=>
 show wq _ _ (do if←abG t cx.env (eval t cx.env)then eval l cx.env else eval r cx.env) _ _ _ from yt i d R w (λ_ _ R q=>h1 d R q) λ_ _ R q=>j d R q
theorem Ub(i:uT g cx t W)(h1:uT g cx l W1)(j:uT g cx r y):uT g cx (.IfExp t l r pos) (bA W W1 y):=λd R w=>
 show wq _ _ (do if←abG t cx.env (eval t cx.env)then abG l cx.env (eval l cx.env)else abG r cx.env (eval r cx.env)) _ _ _ from yt i d R w (λ_ _ R q=>h1 d R q) λ_ _ R q=>j d R q
theorem RD(h1:bE g cx l W1)(j:bE g cx r y):bE g cx (.BoolOp .And [l,r] pos) (di W1 y):=λd R w=>
 show wq _ _ (do let v ←eval l cx.env;XC pos;let t ←XH [v] (truthy v);match BoolOp.And,t with | .And,false | .Or,true=>pure v|_,_=>boolOp pos .And [eval r cx.env]) _ _ _ from
 h1.then_ d R w λv x st s R q=>aU ((rk q).elim λb q=>by
  obtain⟨rfl,q⟩:=q
  obtain rfl:x=.bool b:=R.tmp.1
  refine aq (ay (aF (Y7 ?_)))
  cases b with
  |false=>exact ax ⟨R,q⟩
  |true=>exact j d R.pop q)
theorem Uc(h1:bE g cx l W1)(j:bE g cx r y):bE g cx (.BoolOp .Or [l,r] pos) (cF W1 y):=λd R w=>
 show wq _ _ (do let v ←eval l cx.env;XC pos;let t ←XH [v] (truthy v);match BoolOp.Or,t with | .And,false | .Or,true=>pure v|_,_=>boolOp pos .Or [eval r cx.env]) _ _ _ from
 h1.then_ d R w λv x st s R q=>aU ((rk q).elim λb q=>by
  obtain⟨rfl,q⟩:=q
  obtain rfl:x=.bool b:=R.tmp.1
  refine aq (ay (aF (Y7 ?_)))
  cases b with
  |true=>exact ax ⟨R,q⟩
  |false=>exact j d R.pop q)
abbrev TA(op:BoolOp)(d:List Expr)(W:PT):Prop:=TB g cx (aca op d cx.env) W
theorem RE{d:List Expr}(h1:uT g cx e W1)(i:TB g cx (aca .And d cx.env) j):TB g cx (aca .And (e::d) cx.env) (di W1 j):=λy R w=>
 show wq _ _ (do match BoolOp.And,←abG e cx.env (eval e cx.env)with | .And,false=>pure false | .Or,true=>pure true|_,_=>aca .And d cx.env) _ _ _ from
 yt (Wb:=λQ _ st=>Q (.bool false) st) h1 y R w (λ_ _ R q=>i y R q) λ_ _ R q=>ax ⟨R,q⟩
theorem Ud{d:List Expr}(h1:uT g cx e W1)(i:TB g cx (aca .Or d cx.env) j):TB g cx (aca .Or (e::d) cx.env) (cF W1 j):=λy R w=>
 show wq _ _ (do match BoolOp.Or,←abG e cx.env (eval e cx.env)with | .And,false=>pure false | .Or,true=>pure true|_,_=>aca .Or d cx.env) _ _ _ from
 yt (Wa:=λQ _ st=>Q (.bool true) st) h1 y R w (λ_ _ R q=>ax ⟨R,q⟩) λ_ _ R q=>i y R q
theorem RG:TB g cx (aca op [] cx.env) (af (.bool (op==.And))):=λ_ R w=>ax ⟨R,w⟩
theorem RH:Ax g cx [] ai:=λ_ R w=>ax (.next R w)
theorem Ox(h1:j1 g cx a W1)(i:Ax g cx d j):Ax g cx (a::d) (ah W1 j):=λy R w=>
 show wq _ _ (do match←exec a cx.env with | .next=>aew d cx.env|f=>pure f) _ _ _ from b0 (h1 y R w) λf s u=>by
  rcases u with⟨R,q⟩|⟨R,q⟩
  ·exact i y R q
  ·exact ax (.ret R q)
theorem Ug(i:uT g cx t W)(h1:Ax g cx b W1)(j:Ax g cx o y):j1 g cx (.If t b o pos) (bA W W1 y):=λd R w=>
 show wq _ _ (do XC pos;if←abG t cx.env (eval t cx.env)then aew b cx.env else aew o cx.env) _ _ _ from aU (yt i d R w (λ_ _ R q=>h1 d R q) λ_ _ R q=>j d R q)
theorem RI(h:bE g cx e W):j1 g cx (.Return (some e) pos) (aN W):=λd R w=>
 show wq _ _ (do XC pos;return Flow.ret (←eval e cx.env):Sem Flow) (Ot g cx _) _ _ from aU (h.then_ d R w λv x st s R q=>ax (.ret R q))
theorem Oy:j1 g cx (.Pass pos) ai:=λ_ R w=>show wq _ _ (do XC pos;pure acf:Sem Flow) (Ot g cx _) _ _ from aU (ax (.next R w))
theorem Uh(h:bE g cx e W)(hi:interactive cx.env=false)(hs:ZT e none pos.line cx.env=pure false):j1 g cx (.Expr e pos) (fX W):=λoa R w=>by
 rw[exec_Expr _ _ _ hi hs]
 exact aU (h.then_ oa R w λv x st s R q=>aF (wpAny_dropValue (.next R.pop q)))
theorem GA:An g cx pos [] ag:=λ_ R w=>aF (spliced_none (Ry.mk (vs:=[]) R rfl w))
end
abbrev HG(s:Wj):FZ:=λa o=>s.heap.get? a=some o
def Ui(g:Gl)(F:FZ)(s:Wj)(w:V)(x:V9):Prop:=V.casesOn (motive_1:=λ_=>Prop) w (VR g F .none x) (λb=>VR g F (.bool b) x) (λi=>VR g F (.int i) x) (λi=>VR g F (.str i) x) (λi=>VR g F (.bytes i) x) (λi=>VR g F (.raw i) x)
 (λa=>VR g F (.ref a) x) (λvs=>VR g F (.tup vs) x) (λvs=>bQ (HG s) "list" (bo g F vs) x) (λc vs=>VR g F (.inst c vs) x)
section
variable{g:Gl}{cx:Cx}{tmp:List V}{vals:List V9}{st:St}{s:Wj}{A:Xd}{Q:V->St->Prop}{X:St->Prop}{x y:V9}{a b v:V}{F:FZ}{E:V9->Wj->Prop}
theorem aI.rsd(R:aI g cx tmp vals st s)(h:VR g (cx.F st s) v x):Ui g (cx.F st s) s (res st.h v) x:=by
 cases v with
 |lst vs=>exact bQ.imp (λ_ _ h=>h.1) (λ_ h=>h) h
 |ref a=>
  show Ui _ _ _ (WY (motive:=λ_=>V) (st.h a) _ _) x
  generalize e:st.h a=q;cases q with
  |none=>exact h
  |some o=>cases o with
   |list vs=>
    obtain⟨z,i,xs,n,rfl,j,d⟩:=(R.known a _ e).obj
    exact .mk h i j d
   |_=>exact h
 |_=>exact h
theorem bo.length:∀{vs:List V} {xs:List V9},bo g F vs xs->xs.length=vs.length:=by
 intro d
 induction d with
 |nil=>
  intro _ h
  cases h;rfl
 |cons u z j=>
  intro q
  cases q with
  |nil=>
   intros;exact Ws ‹_›
  |cons i c=>
   intro h
   exact congrArg (· + 1) (j h.2)
theorem bo.append:∀{vs ws:List V} {xs ys:List V9},bo g F vs xs->bo g F ws ys->bo g F (vs++ws) (xs++ys):=by
 intro q
 induction q with
 |nil=>
  intro _ _ _ h d
  cases h;exact d
 |cons c z i=>
  intro _ j
  cases j with
  |nil=>
   intros;exact Ws ‹_›
  |cons u p=>
   intro _ h d
   exact⟨h.1,i h.2 d⟩
theorem bo.get:∀{vs:List V} {xs:List V9},bo g F vs xs->∀{i:Nat} {v:V},vs[i]? = some v->∃x,xs[i]? = some x∧VR g F v x:=by
 intro w1
 induction w1 with
 |nil=>
  intros;contradiction
 |cons w2 w3 ih=>
  intro w4
  cases w4 with
  |nil=>
   intros;exact Ws ‹_›
  |cons w5 w6=>
   intro h w7
   cases w7 with
   |zero=>
    intro _ e
    exact⟨_,rfl,by cases e;exact h.1⟩
   |succ _=>
    intro _ e
    exact ih h.2 (by simpa using e)
theorem bo.drop:∀(i:Nat) {vs:List V} {xs:List V9},bo g F vs xs->bo g F (vs.drop i) (xs.drop i):=by
 intro w1
 induction w1 with
 |zero=>
  intro _ _ h
  exact h
 |succ w2 ih=>
  intro w3
  cases w3 with
  |nil=>
   intro _ h
   cases h;rfl
  |cons w4 w5=>
   intro w6
   cases w6 with
   |nil=>
    intros;exact Ws ‹_›
   |cons w7 w8=>
    intro h
    exact ih h.2
theorem bo.take:∀(i:Nat) {vs:List V} {xs:List V9},bo g F vs xs->bo g F (vs.take i) (xs.take i):=by
 intro w1
 induction w1 with
 |zero=>
  intro _ _ _
  rw[adF,adF];rfl
 |succ w2 ih=>
  intro w3
  cases w3 with
  |nil=>
   intro _ h
   cases h;rfl
  |cons w4 w5=>
   intro w6
   cases w6 with
   |nil=>
    intros;exact Ws ‹_›
   |cons w7 w8=>
    intro h
    exact⟨h.1,ih h.2⟩
theorem bo.reverse:∀{vs:List V} {xs:List V9},bo g F vs xs->bo g F vs.reverse xs.reverse:=by
 intro d
 induction d with
 |nil=>
  intro _ h
  cases h;rfl
 |cons u z j=>
  intro q
  cases q with
  |nil=>
   intros;exact Ws ‹_›
  |cons i c=>
   intro h
   rw[abc,abc];exact(j h.2).append ⟨h.1,rfl⟩
theorem bo.set:∀{vs:List V} {xs:List V9},bo g F vs xs->∀{v:V} {x:V9},VR g F v x->∀(i:Nat),bo g F (vs.set i v) (xs.set i x):=by
 intro w1
 induction w1 with
 |nil=>
  intro _ h _ _ _ _
  cases h;rfl
 |cons w2 w3 ih=>
  intro w4
  cases w4 with
  |nil=>
   intros;exact Ws ‹_›
  |cons w5 w6=>
   intro h _ _ hx w7
   cases w7 with
   |zero=>
    exact⟨hx,h.2⟩
   |succ i=>
    exact⟨h.1,ih h.2 hx i⟩
theorem aI.newL(R:aI g cx tmp vals st s)(hk:∀b o,s.heap.get? b=some o->hp.get? b=some o)(hi:s.heap.objs.size<=i)(ho:hp.get? i=some (sq "list" xs n))(hv:bo g (cx.F st s) vs xs)(hl:xs.length<=1000000)
 (q:Q (.lst vs) st):Up g cx tmp vals Q (.ref i) { s with heap:=hp,toks:=tk}:=
 (R.keeps (tk:=tk) hk).up (v:=.lst vs) (show bQ _ _ _ _ from .mk rfl (R.new hk hi ho (c7 rfl rfl)) hl (hv.mono λb o z=>⟨hk _ _ z.1,z.2⟩)) q
theorem aI.pushL(R:aI g cx tmp vals st s)(hv:bo g (cx.F st s) vs xs)(hl:xs.length<=1000000)(q:Q (.lst vs) st):Up g cx tmp vals Q (.ref s.heap.objs.size) { s with heap:=s.heap.push (sq "list" xs n)}:=
 R.newL (tk:=s.toks) (λb o e=>Wl _ e) (Wh _) (WG _ rfl) hv hl q
theorem dJ(R:aI g cx tmp vals st s)(ha:VR g F a x)(hb:VR g F b y)(w:Ek a b c f λv=>Q v st)
 (k:∀i j u v d,x=.int i u->y=.int j v->c i j->(∀n,d (.int (f i j) n) { s with toks:=s.toks+1})->Wz g.M A t d E s):Wz g.M A t (Up g cx tmp vals Q) E s:=
 (bu w).elim λi w=>(bu w.2).elim λj q=>by
  obtain⟨rfl,_⟩:=w
  obtain⟨rfl,z,p⟩:=q
  obtain⟨u,rfl⟩:=(show ∃u,x=.int i u from ha)
  obtain⟨v,rfl⟩:=(show ∃u,y=.int j u from hb)
  exact k i j u v _ rfl rfl z λ_=>R.toks.up cD p
theorem Em(R:aI g cx tmp vals st s)(ha:VR g (cx.F st s) a x)(hb:VR g (cx.F st s) b y)(w:Kw a b st.h λv=>Q v st):Wz g.M A (binaryOp .Add x y) (Up g cx tmp vals Q) E s:=by
 have ha':=R.rsd ha
 have w:vc (res st.h a) _ _ _ _ _ _:=w
 generalize res st.h a=a' at ha' w
 cases a' with
 |int i=>
  obtain⟨j,rfl,w⟩:=bu w
  obtain⟨u,rfl⟩:=(show ∃t,x=_ from ha')
  obtain⟨v,rfl⟩:=(show ∃t,y=_ from hb)
  exact add_int (R.toks.up cD w)
 |bytes i=>
  obtain⟨j,rfl,l,w⟩:=cK w
  obtain⟨_,t,rfl⟩:=(show _∧∃t,x=_ from ha')
  obtain⟨_,u,rfl⟩:=(show _∧∃t,y=_ from hb)
  refine KBy.add_bytes (by rw[Wk,Wk];exact l) λt' n=>?_
  rw[aco]
  exact R.toks.up (cR (by rw[V6];exact l)) w
 |str i=>
  obtain⟨j,rfl,l,w⟩:=hM w
  obtain⟨_,t,rfl⟩:=(show _∧∃t,x=_ from ha')
  obtain⟨_,u,rfl⟩:=(show _∧∃t,y=_ from hb)
  refine PyProof.Rows.add_str (λt' tk=>?_) (by rw[WT];exact l)
  rw[show(⟨i.toArray⟩:Str)++⟨j.toArray⟩=⟨(i++j).toArray⟩from congrArg Str.mk (aco ..)]
  exact(R.toks.up (e6 (by rw[V6];exact l)) w)
 |lst vs=>
  have hb':=R.rsd hb
  obtain⟨ws,e,l,w⟩:=eS w
  rw[e]at hb'
  obtain⟨rfl,ho,hl,hv⟩:=ha'
  obtain⟨rfl,ho',hl',hv'⟩:=hb'
  have l1:=hv.length
  have l2:=hv'.length
  refine P.add_list ho ho' ?_ (by rw[Wk,Wk,WT];exact V4 (Wx hl hl') dD)
  rw[aco]
  exact R.pushL (hv.append hv') (by rw[V6];omega) w
 |_=>exact Ws w
set_option tactic.hygienic true in
theorem En(R:aI g cx tmp vals st s)(ha:VR g (cx.F st s) a x)(hb:VR g (cx.F st s) b y)(w:Rt a b st.h λv=>Q v st):Wz g.M A (binaryOp .Mult x y) (Up g cx tmp vals Q) E s:=by
 have ha':=R.rsd ha
 have w:vc (res st.h a) _ _ _ _ _ _:=w
 generalize res st.h a=a' at ha' w
 cases a' with
 |int i=>exact dJ (c:=ady) (a:=.int i) R ha' hb w λi j u v Qr e1 e2 c k=>by subst e1 e2;exact mul_int (k _) c
 |bytes l=>
  obtain⟨n,rfl,⟨w1,w2,w3,w4⟩,w5⟩:=bu w
  obtain⟨_,t,rfl⟩:=(show _∧∃t,x=_ from ha')
  obtain⟨u,rfl⟩:=(show ∃t,y=_ from hb)
  refine bytes_mul_any w1 w3 w4 w2 λt' m=>R.toks.up (cR ?_) w5
  rw[afd,afm,aek]
  exact V4 (Nat.mul_le_mul (show n.toNat<=1048576 by lia) w2) dD
 |lst vs=>
  obtain⟨n,rfl,⟨w1,w2,w3⟩,w4⟩:=bu w
  obtain⟨u,rfl⟩:=(show ∃t,y=_ from hb)
  obtain⟨rfl,ho,hl,hv⟩:=ha'
  rename_i a xs' m
  have lx:xs'.toArray.size=vs.length:=by rw[Wk];exact hv.length
  have hsz:xs'.toArray.size*n.toNat<=1000*16:=by rw[lx];exact Nat.mul_le_mul w3 (Int.toNat_le.mpr w2)
  refine wpAny_binaryOp_repeat_ref (T:= "list") (U:= "int") dD ⟨_,ho,rfl⟩ (λs'=>typeIs_int s' n u) noFill_list_mul F.fills_int_mul F.slot_int_rmul repeat_list F.slot_int_index.lookup
   (ZO F.slot_int_rmul (typeIs_int s n u) F.entry_int_rmul (F.args_int_rmul_2 _ _) (lm_int_rmul_list_any n u a xs'.toArray m _ _)
    ⟨ho,rfl,⟨_,ho,rfl⟩,ZO F.slot_list_mul ⟨_,ho,rfl⟩ F.entry_list_mul (F.args_list_mul_2 _ _)
     (lm_list_mul_any a xs'.toArray m _ _ n u (by simp[aak];omega) (by omega) (by simp only[Builtin.List.listTooLong,WT];simp;simp at hsz;omega))
     ⟨ho,?_⟩⟩)
  rw[listMul_foldl_if]
  have hr:∀i,bo g (cx.F st s) (WZ i vs).flatten (WZ i xs').flatten:=λi=>by
   induction i with
   |zero=>rfl
   |succ i ih=>rw[afc,afc,YG,YG];exact hv.append ih
  exact R.pushL (hr _) (by rw[afd,afm,aek,Nat.mul_comm];exact V4 hsz dD) w4
 |_=>exact Ws w
theorem Cv{f:Int->Int->Int}{Q:V->Prop}(w:kJ a λi=>kJ b λj=>Q (.int (f i j))):Ek a b (λ_ _=>True) f Q:=by
 obtain⟨i,rfl,d⟩:=bu w
 obtain⟨j,rfl,q⟩:=bu d
 exact⟨trivial,q⟩
theorem Eo(R:aI g cx tmp vals st s){op:Operator}(ha:VR g (cx.F st s) a x)(hb:VR g (cx.F st s) b y)(w:El op a b st.h λv=>Q v st):Wz g.M A (binaryOp op x y) (Up g cx tmp vals Q) E s:=by
 cases op with
 |Add=>exact Em R ha hb w
 |Mult=>exact En R ha hb w
 |Sub=>exact dJ R ha hb (Cv w) λi j u v z d q c k=>by subst d q;exact sub_int (k _)
 |FloorDiv=>exact dJ R ha hb w λi j u v z d q c k=>by subst d q;exact floordiv_int c.1 (k _) (.inl c.2)
 |Mod=>exact dJ R ha hb w λi j u v z d q c k=>by subst d q;exact mod_int' c (k _)
 |RShift=>exact dJ R ha hb w λi j u v z d q c k=>by subst d q;exact rshift_int c (k _)
 |BitAnd=>exact dJ R ha hb (Cv w) λi j u v z d q c k=>by subst d q;exact and_int (k _)
 |Pow=>exact dJ R ha hb w λi j u v z d q c k=>by subst d q;exact pow_int_small c.1 (by omega) c.2.2 (k _)
 |_=>exact Ws w
theorem RJ(h1:bE g cx l W1)(i:bE g cx r j):bE g cx (.BinOp l op r pos) (ao op W1 j):=λd R w=>
 show wq _ _ (do let a ←eval l cx.env;let b ←XH [a] (eval r cx.env);XC pos;aa9 [a,b] (binaryOp op a b)) _ _ _ from
 h1.then_ d R w λa x st s R q=>TE.then_ (i.hold [x]) d R q λb y st s R q=>aU (hJ (aF (Eo R.pop.pop R.tmp.2.1 R.tmp.1 q)))
end
section
open PySem.SeqAt
section
variable{g:Gl}{s:Wj}{A:Xd}{F:FZ}
theorem str_beq(x y:List Nat):((⟨x.toArray⟩:Str)==⟨y.toArray⟩)=(x==y):=by
 rw[XT];simp
theorem oj(h:Gu f x y=some b):∃c d,x=some c∧y=some d∧f c d=b:=by
 cases x with
 |none=>cases h
 |some c=>cases y with
  |none=>cases h
  |some d=>exact⟨c,d,rfl,rfl,WR h⟩
theorem Ep{f:V->V->Option Bool}{P:V9->V9->Bool->Prop}(u:∀{v w x y b},VR g F v x->VR g F w y->f v w=some b->P x y b):∀{vs ws:List V} {xs ys:List V9} {b:Bool},bo g F vs xs->bo g F ws ys->vs.length=ws.length->M7 f vs ws=some b->
 ∃e:Nat->Bool,(∀j (h1:j<xs.length) (q:j<ys.length),P xs[j] ys[j] (e j))∧(Xw xs.length).all e=b:=by
 intro i
 induction i with
 |nil=>
  intro a
  cases a with
  |nil=>
   intro _ _ b h1 q _ h
   cases h1;cases q;cases h;exact⟨λ_=>true,λj h=>absurd h (abT j),rfl⟩
  |cons S R=>
   intros;contradiction
 |cons v vs J=>
  intro z
  cases z with
  |nil=>
   intros;contradiction
  |cons w ws=>
   intro L
   cases L with
   |nil=>
    intros;exact Ws ‹_›
   |cons x xs=>
    intro m
    cases m with
    |nil=>
     intros;exact Ws ‹_›
    |cons y ys=>
     intro b h1 q p h
     obtain⟨c,d,k,D,rfl⟩:=oj h
     obtain⟨e,B,rfl⟩:=J h1.2 q.2 (Xr p) D
     refine⟨λj=>Nat.casesOn j c e,λj=>Nat.casesOn j (λ_ _=>u h1.1 q.1 k) λj h o=>B j (Zo h) (Zo o),?_⟩
     rw[WM,ael,adX,List.all_map]
     rfl
theorem GB(i:∀{v w x b},VR g F v x->VR g F w x->f v w=some b->b=true):∀{vs ws:List V} {xs:List V9} {b:Bool},bo g F vs xs->bo g F ws xs->M7 f vs ws=some b->b=true:=by
 intro y
 induction y with
 |nil=>
  intro _ _ _ _ _ h
  cases h;rfl
 |cons v vs k=>
  intro u
  cases u with
  |nil=>
   intro _ _ _ _ h
   cases h;rfl
  |cons w ws=>
   intro j
   cases j with
   |nil=>
    intros;exact Ws ‹_›
   |cons x xs=>
    intro b h1 q h
    obtain⟨c,d,z,p,rfl⟩:=oj h
    rw[i h1.1 q.1 z,k h1.2 q.2 p];rfl
theorem uU(i:∀{v w x b},VR g F v x->VR g F w x->f v w=some b->b=true)(j:∀a o o',F a o->F a o'->o=o')
 (h1:bQ F T (bo g F vs) x) (z:bQ F T (bo g F ws) x) (h:jZ o f vs ws=some b):b=true:=by
 obtain⟨rfl,q,_,d⟩:=h1
 obtain⟨e,y,_,v2⟩:=z
 cases e
 have e:=congrArg Obj.data (j _ _ _ q y)
 injection e with e
 have e:=congrArg acL e
 subst e
 unfold jZ at h
 rw[if_pos (d.length.symm.trans v2.length)]at h
 exact GB i d v2 h
theorem bS{d:Type}{x:d}{P:Prop}(h:none=some x):P:=ns h
theorem vS{n:Nat}{P:V->V->Bool->Prop}(q:∀i j,P (.int i) (.int j) (i==j))(hs:∀i j,P (.str i) (.str j) (i==j))(hb:∀i j,P (.bytes i) (.bytes j) (i==j))
 (d:∀vs ws b,jZ none (jh n) vs ws=some b->P (.tup vs) (.tup ws) b) (y:∀vs ws b,jZ (some false) (jh n) vs ws=some b->P (.lst vs) (.lst ws) b) {v w:V} {b:Bool}:jh (n+1) v w=some b->P v w b:=by
 cases v with
 |int i=>cases w with
  |int j=>exact λh=>WR h▸q i j
  |_=>exact bS
 |str i=>cases w with
  |str j=>exact λh=>WR h▸hs i j
  |_=>exact bS
 |bytes i=>cases w with
  |bytes j=>exact λh=>WR h▸hb i j
  |_=>exact bS
 |tup vs=>cases w with
  |tup ws=>exact d vs ws b
  |_=>exact bS
 |lst vs=>cases w with
  |lst ws=>exact y vs ws b
  |_=>exact bS
 |_=>exact bS
theorem aM{i:Int}{x:V9}{P:Prop}(h:VR g F (.int i) x)(k:∀t,x=.int i t->P):P:=aen h k
theorem aW{i:List Nat}{x:V9}{P:Prop}(h:VR g F (.str i) x)(k:∀t,x=.str ⟨i.toArray⟩ t->P):P:=aen (aep h) k
theorem aA{i:List UInt8}{x:V9}{P:Prop}(h:VR g F (.bytes i) x)(k:∀t,x=.bytes i.toArray t->P):P:=aen (aep h) k
theorem GC(hF:∀a o o',F a o->F a o'->o=o'):∀(n:Nat) {v w:V} {x:V9} {b:Bool},VR g F v x->VR g F w x->jh n v w=some b->b=true:=by
 intro w1
 induction w1 with
 |zero=>
  intro _ _ _ _ _ _ h
  exact bS h
 |succ n ih=>
  intro v w x b hv hw h
  exact vS (P:=λv w b=>VR g F v x->VR g F w x->b=true)
   (λi j h1 h2=>aM h1 λt e=>aM h2 λu e'=>beq_iff_eq.mpr (by rw[e]at e';injection e'))
   (λi j h1 h2=>aW h1 λt e=>aW h2 λu e'=>beq_iff_eq.mpr (by rw[e]at e';injection e' with e';injection e' with e';exact congrArg acL e'))
   (λi j h1 h2=>aA h1 λt e=>aA h2 λu e'=>beq_iff_eq.mpr (by rw[e]at e';injection e' with e';exact congrArg acL e'))
   (λvs ws b h h1 h2=>uU (ih) hF h1 h2 h) (λvs ws b h h1 h2=>uU (ih) hF h1 h2 h) h hv hw
abbrev Oz(A:Xd)(s:Wj)(x y:V9)(b:Bool):Prop:=RcAt A s x y b∧RcNeAt A s x y (!b)
abbrev Rb(g:Gl)(A:Xd)(s:Wj)(f:V->V->Option Bool):Prop:=∀{v w x y b},VR g (HG s) v x->VR g (HG s) w y->f v w=some b->EqAt A s x y b
theorem uV(i:Rb g A.in1 s f)(h1:bo g (HG s) vs xs)(d:bo g (HG s) ws ys)(q:vs.length=ws.length)(h:M7 f vs ws=some b) :
 ∃e:Nat->Bool,(∀j (h1:j<xs.toArray.size) (d:j<ys.toArray.size),EqAt A.in1 s xs.toArray[j] ys.toArray[j] (e j))∧(Xw xs.toArray.size).all e=b∧xs.toArray.size=ys.toArray.size:=by
 obtain⟨e,y,hb⟩:=Ep i h1 d q h
 exact⟨e,λj h1 d=>y j h1 d,hb,h1.length.trans (q.trans d.length.symm)⟩
theorem Cw(m:Rb g A.in1 s f)(u:A.units<afi)
 (h1:bQ (HG s) "list" (bo g (HG s) vs) x) (w:bQ (HG s) "list" (bo g (HG s) ws) y) (h:jZ (some false) f vs ws=some b):Oz A s x y b:=by
 obtain⟨rfl,i,_,p⟩:=h1
 obtain⟨rfl,z,_,v2⟩:=w
 unfold jZ at h
 by_cases c:vs.length=ws.length
 ·rw[if_pos c]at h
  obtain⟨e,k,rfl,d⟩:=uV m p v2 c h
  exact⟨RcAt.lists ⟨_,i,rfl,_,rfl⟩ ⟨_,z,rfl,_,rfl⟩ d u k,RcNeAt.lists ⟨_,i,rfl,_,rfl⟩ ⟨_,z,rfl,_,rfl⟩ d u k⟩
 ·rw[if_neg c]at h
  cases h
  have j:¬_=_:=λq=>c (p.length.symm.trans (Eq.trans q v2.length))
  exact⟨RcAt.lists_lengths ⟨_,i,rfl,_,rfl⟩ ⟨_,z,rfl,_,rfl⟩ (bne_iff_ne.mpr j) u,RcNeAt.lists_lengths ⟨_,i,rfl,_,rfl⟩ ⟨_,z,rfl,_,rfl⟩ (bne_iff_ne.mpr j) u⟩
theorem vT(c:Rb g A.in1 s f)(z:A.units<afi)
 (h1:bQ (HG s) "tuple" (bo g (HG s) vs) x) (p:bQ (HG s) "tuple" (bo g (HG s) ws) y) (h:jZ none f vs ws=some b):Oz A s x y b:=by
 obtain⟨rfl,j,_,k⟩:=h1
 obtain⟨rfl,i,_,v2⟩:=p
 unfold jZ at h
 by_cases d:vs.length=ws.length
 ·rw[if_pos d]at h
  obtain⟨e,u,rfl,q⟩:=uV c k v2 d h
  have r1:=RcAt.tuples (A:=A) ⟨_,j,rfl,_,rfl⟩ ⟨_,i,rfl,_,rfl⟩ z u
  have r2:=RcNeAt.tuples (A:=A) ⟨_,j,rfl,_,rfl⟩ ⟨_,i,rfl,_,rfl⟩ z u
  rw[←q,Nat.min_self,beq_self_eq_true,acw]at r1 r2
  exact⟨r1,r2⟩
 ·rw[if_neg d]at h;cases h
set_option tactic.hygienic true in
theorem Cy(h1:bQ (HG s) T R x)(d:bQ (HG s) T i y)(hs:x=y->b=true)(h:Oz A s x y b):EqAt A s x y b:=by
 obtain⟨rfl,_⟩:=h1
 obtain⟨rfl,_⟩:=d
 rename_i a _ _ _ _ _ j _ _ _ _ _
 by_cases q:a=j
 ·rw[hs (congrArg _ q),q];exact EqAt.same _
 ·exact EqAt.of_refs q h.1
theorem OA(h:HG s a o)(d:HG s a o'):o=o':=WR (h.symm.trans d)
theorem Ay:∀(n:Nat) {A:Xd},A.units+n<=9500->Rb g A s (jh n):=by
 intro zi
 induction zi with
 |zero=>
  intro _ _ _ _ _ _ _ _ _ h
  exact bS h
 |succ n ih=>
  intro A hu v w x y b hv hw h
  exact have hu':A.units<cLine:=Wp (V4 (Wq _ _) hu) dD
  have ih:Rb g A.in1 s (jh n):=ih (by rw[W4 n,←WJ]at hu;exact hu)
  have hx:x=y->b=true:=λe=>GC (F:=HG s) (λ_ _ _=>OA) (n+1) hv (by rw[e];exact hw) h
  vS (P:=λv w b=>VR g (HG s) v x->VR g (HG s) w y->(x=y->b=true)->EqAt A s x y b)
   (λi j h1 h2 _=>aM h1 λt e=>aM h2 λu e'=>by rw[e,e'];exact EqAt.int_int _ _ _ _)
   (λi j h1 h2 _=>aW h1 λt e=>aW h2 λu e'=>by rw[e,e',←str_beq];exact EqAt.str_str _ _ _ _)
   (λi j h1 h2 _=>aA h1 λt e=>aA h2 λu e'=>by
    rw[e,e']
    exact λprog w E Q hq=>eqBool_bytes ((show decide (i.toArray.toList=j.toArray.toList)=(i==j)from XT.mpr (by simp))▸hq))
   (λvs ws b h h1 h2 hx=>Cy h1 h2 hx (vT ih hu' h1 h2 h)) (λvs ws b h h1 h2 hx=>Cy h1 h2 hx (Cw ih hu' h1 h2 h)) h hv hw hx
end
end
section
open PySem.SeqAt
def jj(g:Gl):Prop:=∀{c:Addr} {vs:List V} {u:Str} {t:Tok} {A:Xd} {s:Wj} {x:V9},A.units<=9400->g.B.StaysIn s.heap->VR g (HG s) (.inst c vs) x->Oz A s x (.str u t) false
section
variable{g:Gl}{cx:Cx}{tmp:List V}{vals:List V9}{st:St}{s:Wj}{A:Xd}{x y:V9}{a b v:V}{F:FZ}{E:V9->Wj->Prop}
theorem RL{vs:List V}(h:VR g (HG s) (.tup vs) x){P:Prop}(k:∀a xs,x=.ref a->s.heap.IsTuple a xs->P):P:=match(show bQ _ _ _ _ from h)with | .mk e h _ _=>k _ _ e ⟨_,h,rfl,_,rfl⟩
theorem KD(p:A.units<=9400)(ha:VR g (HG s) a x)(hb:VR g (HG s) b y):jh 4 a b=some c->Oz A s x y c:=
 have q:A.units<cLine:=Wp p dD
 have k:Rb g A.in1 s (jh 3):=Ay 3 (V4 (Wv p 4) dD)
 λe=>vS (P:=λv w b=>VR g (HG s) v x->VR g (HG s) w y->Oz A s x y b)
  (λi j h1 d=>aM h1 λt e=>aM d λu z=>by rw[e,z];exact⟨RcAt.int_int _ _ _ _,RcNeAt.int_int _ _ _ _⟩)
  (λi j h1 d=>aW h1 λt e=>aW d λu z=>by rw[e,z,←str_beq];exact⟨RcAt.str_str _ _ _ _,RcNeAt.str_str _ _ _ _⟩)
  (λi j h1 d=>aA h1 λt e=>aA d λu z=>by rw[e,z];exact⟨λprog w E Q h=>eq_bytes h,λprog w E Q h=>ne_bytes h⟩)
  (λvs ws b h h1 d=>vT k q h1 d h) (λvs ws b h h1 d=>Cw k q h1 d h) e ha hb
theorem Cz(p:jj g)(k:g.B.StaysIn s.heap)(z:A.units<=9400)(ha:VR g (HG s) a x)(hb:VR g (HG s) b y){c:Bool}(e:eqT a b=some c):Oz A s x y c:=by
 have d:A.units<cLine:=Wp z dD
 cases a with
 |none=>
  obtain rfl:x=.none:=ha
  cases b with
  |none=>obtain rfl:y=.none:=hb;cases e;exact⟨RcAt.none_none,RcNeAt.none_none⟩
  |int i=>exact aM hb λt q=>by rw[q];cases e;exact⟨RcAt.none_int _ _,RcNeAt.none_int _ _⟩
  |tup vs=>exact RL hb λa xs q h=>by rw[q];cases e;exact⟨RcAt.none_tuple h d,RcNeAt.none_tuple h d⟩
  |_=>exact bS e
 |bool i=>
  obtain rfl:x=.bool i:=ha
  cases b with
  |bool j=>obtain rfl:y=.bool j:=hb;cases e;exact⟨RcAt.bool_bool _ _,RcNeAt.bool_bool _ _⟩
  |_=>exact bS e
 |inst c vs=>cases b with
  |str u=>exact aW hb λt q=>by rw[q];cases e;exact p z k ha
  |_=>exact bS e
 |tup vs=>cases b with
  |none=>exact RL ha λa xs q h=>by obtain rfl:y=.none:=hb;rw[q];cases e;exact⟨RcAt.tuple_none h d,RcNeAt.tuple_none h d⟩
  |tup ws=>exact vT (Ay 3 (V4 (Wv z 4) dD)) d ha hb e
  |_=>exact bS e
 |_=>exact KD z ha hb e
theorem aI.hg(R:aI g cx tmp vals st s)(h:VR g (cx.F st s) v x):VR g (HG s) (res st.h v) x:=by
 have h:=R.rsd h
 generalize res st.h v=w at h
 cases w with
 |lst vs=>exact bQ.imp (λ_ _ h=>h) (λ_ h=>h.mono λ_ _ h=>h.1) (show bQ _ _ _ _ from h)
 |_=>exact VR.mono (F:=cx.F st s) (λ_ _ h=>Zt h) _ _ h
theorem Az{vs:List V}{x:V}{b:Bool}(h:Gv (vs.map λv=>jh 4 v x)=some b):(∀v∈vs,∃c,jh 4 v x=some c)∧vs.any (λv=>jh 4 v x==some true)=b:=by
 induction vs generalizing b with
 |nil=>cases h;exact⟨an,rfl⟩
 |cons v vs k=>
  obtain⟨c,d,j,p,rfl⟩:=oj h
  obtain⟨h1,z⟩:=k p
  exact⟨λu i=>(Wf.mp i).elim (λq=>q▸⟨c,j⟩) (h1 u),by rw[YT,z,show jh 4 v x=some c from j];cases c <;> rfl⟩
theorem GD(D:A.units<=9400){vs:List V}{xs:List V9}(k:bo g (HG s) vs xs)(hx:VR g (HG s) v x){e:Bool}(h:Gv (vs.map λu=>jh 4 u v)=some e) :
 ∃f:V9->Bool,(∀y,y∈xs.toArray->EqAt A.in1 s y x (f y))∧xs.toArray.any f=e:=by
 classical
 obtain⟨h1,w⟩:=Az h
 have at_:=λu y (z:VR g (HG s) u y) c (hc:jh 4 u v=some c)=>Ay (s:=s) (g:=g) 4 (A:=A.in1) (by show A.units+1+4<=9500;lia) z hx hc
 refine⟨λy=>decide (∃u∈vs,VR g (HG s) u y∧jh 4 u v=some true),λy z=>?_,?_⟩
 ·show EqAt A.in1 s y x (decide _)
  by_cases q:∃u∈vs,VR g (HG s) u y∧jh 4 u v=some true
  ·rw[decide_eq_true q]
   exact q.elim λu q=>at_ u y q.2.1 _ q.2.2
  ·rw[decide_eq_false q]
   obtain⟨i,p⟩:=ae2 (List.mem_toArray.mp z)
   have j:i<vs.length:=k.length▸(Xm.mp p).1
   obtain⟨B,e,r⟩:=k.get (Xb j)
   rw[p]at e;cases e
   obtain⟨c,hc⟩:=h1 _ (ZJ j)
   cases c with
   |false=>exact at_ _ _ r _ hc
   |true=>exact absurd ⟨_,ZJ j,r,hc⟩ q
 ·rw[←w,XT,List.any_toArray,ZK,ZK]
  constructor
  ·rintro⟨y,z,hd⟩
   obtain⟨u,d,_,m⟩:=of_decide_eq_true hd
   exact⟨u,d,beq_iff_eq.mpr m⟩
  ·rintro⟨u,d,hd⟩
   obtain⟨i,p⟩:=ae2 d
   obtain⟨y,z,o⟩:=k.get p
   exact⟨y,Xx z,decide_eq_true ⟨u,d,o,beq_iff_eq.mp hd⟩⟩
end
end
section
open PySem.SeqAt
section
variable{g:Gl}{cx:Cx}{tmp:List V}{vals:List V9}{st:St}{s:Wj}{A:Xd}{x y:V9}{a b v:V}{F:FZ}{E:V9->Wj->Prop}{Qr:V9->Wj->Prop}{P:Bool->Prop}
theorem OB(h:g.B.objs.size<=c):(c==aes)=false:=beq_eq_false_iff_ne.mpr λe=>absurd (V4 g.big (e▸h)) dD
theorem DK.is{k:DK}(h:VR g F v x){d:k.K}(e:k.key v=some d):(k.kind g.prog g.w).is d x=true:=by
 cases k with
 |s=>cases v with
  |str i=>exact aW h λt q=>by rw[q];cases e;exact beq_self_eq_true _
  |_=>exact bS e
 |b=>cases v with
  |bytes i=>exact aA h λt q=>by rw[q];cases e;exact beq_self_eq_true _
  |_=>exact bS e
 |i=>cases v with
  |int i=>exact aM h λt q=>by rw[q];cases e;exact beq_self_eq_true _
  |_=>exact bS e
theorem tM.at_{K:Type}[DecidableEq K](k:K):∀{l:List (K×V)} {r:List (K×V9)},tM g F l r->(atKey l k=none∧valueAt r k=none)∨∃v x,atKey l k=some v∧valueAt r k=some x∧VR g F v x:=by
 intro j
 induction j with
 |nil=>
  intro _ h
  cases h;exact .inl ⟨rfl,rfl⟩
 |cons p l d=>
  intro i
  cases i with
  |nil=>
   intros;exact Ws ‹_›
  |cons q r=>
   intro h
   have d:=d h.2.2
   have e:=h.1
   unfold atKey valueAt at *
   rw[Zr,Zr,←e]
   by_cases c:p.1=k
   ·rw[decide_eq_true c];exact .inr ⟨_,_,rfl,rfl,h.2.1⟩
   ·rw[decide_eq_false c];exact d
theorem aI.dict(R:aI g cx tmp vals st s)(e:st.h d=some (.dict k l)):∃r,l.length<=1000000∧tM g (cx.F st s) l r∧s.heap.DictOf (k.kind g.prog g.w) d r∧(d==aes)=false:=by
 have K:=R.known d _ e
 refine Wo λno=>?_
 obtain⟨o,i,q,r,j,hd⟩:=K.obj
 refine no ?_
 exact⟨r,q,j,aay.mpr ⟨o,i,hd⟩,OB K.low⟩
abbrev Vz(g:Gl)(A:Xd)(s:Wj)(x y:V9)(c:Bool)(d:Wj):Prop:=(∀Qr E,Qr (.bool c) d->Wz g.M A (ZU .In x y) Qr E s)∧∀Qr E,Qr (.bool (!c)) d->Wz g.M A (ZU .NotIn x y) Qr E s
abbrev U7(g:Gl)(cx:Cx)(tmp:List V)(vals:List V9)(st:St)(A:Xd)(s:Wj)(x y:V9)(P:Bool->Prop):Prop:=
 (∀Qr E,(∀c d,P c->aI g cx tmp vals st d->Qr (.bool c) d)->Wz g.M A (ZU .In x y) Qr E s)∧(∀Qr E,(∀c d,P c->aI g cx tmp vals st d->Qr (.bool (!c)) d)->Wz g.M A (ZU .NotIn x y) Qr E s)
theorem RM(p:P c)(q:aI g cx tmp vals st d)(h:Vz g A s x y c d):U7 g cx tmp vals st A s x y P:=⟨λQr E k=>h.1 Qr E (k c d p q),λQr E k=>h.2 Qr E (k c d p q)⟩
theorem c9(h:only l k):∃a,l=[a]∧k a:=by
 cases l with
 |nil=>exact h.elim
 |cons a r=>cases r with
  |nil=>exact⟨a,rfl,h⟩
  |cons=>exact h.elim
theorem uW(U:gJ cx.stk cx.lvl A)(R:aI g cx tmp vals st s)(ha:VR g (cx.F st s) a x)(hb:VR g (cx.F st s) b y)(w:Ru a b st.h P):U7 g cx tmp vals st A s x y P:=by
 have G:A.units<=9400:=V4 (V4 (Wq _ _) U.units) dD
 have z:=R.rsd hb
 have w:vc (res st.h b) _ _ _ _ _ _ _:=w
 generalize res st.h b=b' at z w
 have hs:∀{vs:List V} {xs:List V9},bo g (cx.F st s) vs xs->among vs a P->∃c,P c∧∃f:V9->Bool,(∀y,y∈xs.toArray->EqAt A.in1 s y x (f y))∧xs.toArray.any f=c:=λD w=>
  (aT w).elim λc w=>⟨c,w.2,GD G (D.mono λ_ _ h=>h.1) (VR.mono (F:=cx.F st s) (λ_ _ h=>Zt h) _ _ ha) w.1⟩
 cases b' with
 |bytes l=>
  refine aA (g:=g) (F:=cx.F st s) z λt e=>?_
  subst e
  cases a with
  |int i=>
   refine aM ha λu e=>?_
   subst e
   exact RM w.2 R ⟨λQr E k=>in_gives (Xe s _ _) aag Z7 (ZX _ _) (Tactic.Aq w.1.1 w.1.2) k,λQr E k=>notIn_gives (Xe s _ _) aag Z7 (ZX _ _) (Tactic.Aq w.1.1 w.1.2) k⟩
  |bytes j=>
   refine aA ha λu e=>?_
   subst e
   obtain⟨k,rfl,w⟩:=c9 w
   have m:=@Tactic.Am l k t u
   exact⟨λQr E q=>SeqRoads2.in_meets (Xe s _ _) aag Z7 (ZX _ _) m ⟨U.handled,λI n B=>⟨_,rfl,q _ _ w (R.keeps B)⟩⟩,λQr E q=>SeqRoads2.notIn_meets (Xe s _ _) aag Z7 (ZX _ _) m ⟨U.handled,λI n B=>⟨_,rfl,q _ _ w (R.keeps B)⟩⟩⟩
  |_=>exact Ws w
 |str l=>
  refine aW (g:=g) (F:=cx.F st s) z λt e=>?_
  subst e
  obtain⟨j,rfl,w⟩:=hM w
  refine aW ha λu e=>?_
  subst e
  obtain⟨k,rfl,w⟩:=c9 w
  exact RM w R ⟨λQr E q=>in_str (by rw[acq];exact q),λQr E q=>notIn_str (by rw[acq];exact q)⟩
 |ref d=>
  obtain rfl:y=.ref d:=z
  obtain⟨o,e,w⟩:=aT w
  cases o with
  |dict k l=>
   obtain⟨X,Y,w⟩:=aT w
   obtain⟨r,_,B,Z,S⟩:=R.dict e
   have hs:(valueAt r X).isSome=(atKey l X).isSome:=(B.at_ X).elim (λh=>by rw[h.1,h.2];rfl) λ⟨_,_,H,Q,_⟩=>by rw[H,Q];rfl
   exact RM w R.toks ⟨λQr E q=>wpAny_in_of (DK.is ha Y) S Z.mapOf (by rw[hs];exact q),λQr E q=>wpAny_notIn_of (DK.is ha Y) S Z.mapOf (by rw[hs];exact q)⟩
  |_=>exact Ws w
 |tup vs=>
  obtain⟨rfl,h,_,D⟩:=(show bQ _ _ _ _ from z)
  obtain⟨c,p,f,J,L⟩:=hs D w
  exact RM p R ⟨λQr E q=>in_tupleAt f ⟨_,h.1,rfl,_,rfl⟩ J (by rw[L];exact q),λQr E q=>notIn_tupleAt f ⟨_,h.1,rfl,_,rfl⟩ J (by rw[L];exact q)⟩
 |lst vs=>
  obtain⟨rfl,h,_,D⟩:=(show bQ _ _ _ _ from z)
  obtain⟨c,p,f,J,L⟩:=hs D w
  exact RM p R ⟨λQr E q=>in_listAt f ⟨_,h,rfl,_,rfl⟩ J (by rw[L];exact q),λQr E q=>notIn_listAt f ⟨_,h,rfl,_,rfl⟩ J (by rw[L];exact q)⟩
 |_=>exact Ws w
theorem rQ(h:VR g F v x)(d:ji v):plainIs x .none=true∧(x==aaO)=isNone v:=by
 cases v with
 |none=>obtain rfl:x=.none:=h;exact⟨rfl,rfl⟩
 |bool b=>obtain rfl:x=.bool b:=h;exact⟨rfl,rfl⟩
 |int i=>exact aM h λt e=>e▸⟨rfl,rfl⟩
 |str i=>exact aW h λt e=>e▸⟨rfl,rfl⟩
 |bytes i=>exact aA h λt e=>e▸⟨rfl,rfl⟩
 |raw _=>exact d.elim
 |ref a=>obtain rfl:x=.ref a:=h;exact⟨rfl,rfl⟩
 |tup=>exact bQ.casesOn h λe _ _ _=>e▸⟨rfl,rfl⟩
 |lst=>exact bQ.casesOn h λe _ _ _=>e▸⟨rfl,rfl⟩
 |inst=>exact h.2.casesOn λe _ _ _ _ _=>e▸⟨rfl,rfl⟩
theorem yu(ha:VR g F a x)(hb:VR g F b y)(w:T5 a b P):y=.none∧plainIs x .none=true∧P (x==.none):=by
 cases b with
 |none=>exact⟨hb,(rQ ha w.1).1,(rQ ha w.1).2▸w.2⟩
 |_=>exact Ws w
theorem jO(d:∀i j t u,Qr (.bool (f i j)) s->Wz g.M A (ZU op (.int i t) (.int j u)) Qr E s)(ha:VR g F a x)(hb:VR g F b y)(w:Kx f a b P)(k:∀c,P c->Qr (.bool c) s):Wz g.M A (ZU op x y) Qr E s:=by
 obtain⟨i,rfl,w⟩:=bu w
 obtain⟨j,rfl,w⟩:=bu w
 exact aM ha λt e=>aM hb λu q=>by rw[e,q];exact d i j t u (k _ w)
theorem om(f:jj g)(d:gJ cx.stk cx.lvl A)(R:aI g cx tmp vals st s)(ha:VR g (cx.F st s) a x)(hb:VR g (cx.F st s) b y)(w:tN op a b st.h P)(k:∀c z,P c->aI g cx tmp vals st z->Qr (.bool c) z):Wz g.M A (ZU op x y) Qr E s:=by
 have m:A.units<=9400:=V4 (V4 (Wq _ _) d.units) dD
 cases op with
 |Eq=>obtain⟨c,e,p⟩:=aT w;exact(Cz f R.base m (R.hg ha) (R.hg hb) e).1 _ _ _ _ (k _ _ p R)
 |NotEq=>obtain⟨c,e,p⟩:=aT w;exact(Cz f R.base m (R.hg ha) (R.hg hb) e).2 _ _ _ _ (k _ _ p R)
 |In=>exact(uW d R ha hb w).1 _ _ k
 |NotIn=>exact(uW (P:=λc=>P (!c)) d R ha hb w).2 _ _ λc z=>k _ _
 |Is=>obtain⟨rfl,p,q⟩:=yu ha hb w;exact wpAny_is_plain p (k _ _ q R)
 |IsNot=>obtain⟨rfl,p,q⟩:=yu (P:=λc=>P (!c)) ha hb w;exact wpAny_isNot_plain p (k _ _ q R)
 |Lt=>exact jO (λi j t u h=>lt_int h) ha hb w λc p=>k c s p R
 |Gt=>exact jO (λi j t u h=>gt_int h) ha hb w λc p=>k c s p R
 |GtE=>exact jO (λi j t u h=>ge_int h) ha hb w λc p=>k c s p R
 |LtE=>
  have w:U5 a b P:=w
  cases a with
  |int i=>exact jO (a:=.int i) (λi j t u h=>le_int h) ha hb w λc p=>k c s p R
  |bytes i=>
   obtain⟨j,rfl,w⟩:=cK w
   exact aA ha λt e=>aA hb λu o=>by
    rw[e,o]
    exact compareOp_gives (op:=.LtE) (Xe s _ t) (Xe s _ u) Tactic.FX.Tu Tactic.FX.Rm (Tactic.FX.Tv _ _) Tactic.Gk (λe=>nomatch e) (k _ _ w R)
  |_=>exact Ws w
end
end
section
variable{g:Gl}{cx:Cx}{tmp:List V}{vals:List V9}{st:St}{s:Wj}{A:Xd}{x y:V9}{a b v:V}{F:FZ}{E:V9->Wj->Prop}{Qr:V9->Wj->Prop}{Q:V->St->Prop}{X:St->Prop}
theorem GF(j:bE g cx r d)(q:abI op r=false):TE g cx (aev op r (eval r cx.env)) d:=by rw[markedBehindIn_of_false q];exact j
theorem RN(u:jj g)(h1:bE g cx l W1)(k:bE g cx r j)(i:abI op r=false):bE g cx (.Compare l [op] [r] pos) (aC op W1 j):=λd R w=>
 show wq _ _ (do let a ←eval l cx.env;let b ←XH [a] (aev op r (eval r cx.env));XC pos;aa9 [a,b] (ZU op a b)) _ _ _ from
 h1.then_ d R w λa x st s R q=>TE.then_ (TE.hold (GF k i) [x]) d R q λb y st s R q=>
  aU (hJ (aF (om u d R.pop.pop R.tmp.2.1 R.tmp.1 q λc m p z=>z.up mj p)))
theorem yv(z:jj g){op:CmpOp}{t:Sem V9}(u:TE g cx t j)(d:gJ cx.stk cx.lvl A)(R:aI g cx (a::tmp) (x::vals) st s)(q:j (λb st=>tN op a b st.h λc=>Q (.bool c) st) X st) :
 wq g A (do let b ←XH [x] t;XC pos;let c ←aa9 [x,b] (ZU op x b);XH [c] (truthy c)) (Tx g cx tmp vals Q) (hH g cx X) s:=
 TE.then_ (u.hold [x]) d R q λb y st s R q=>aU (aq (hJ (aF (om z d R.pop.pop R.tmp.2.1 R.tmp.1 q λc k p i=>ay (aF (Y7 ⟨i,p⟩))))))
theorem RO(z:jj g)(h1:bE g cx l W1)(u:bE g cx r j)(i:abI op r=false):uT g cx (.Compare l [op] [r] pos) (aC op W1 j):=λd R w=>
 show wq _ _ (do let a ←eval l cx.env;let b ←XH [a] (aev op r (eval r cx.env));XC pos;let c ←aa9 [a,b] (ZU op a b);XH [c] (truthy c)) _ _ _ from
 h1.then_ d R w λa x st s R q=>yv z (GF u i) d R q
theorem KE(i:jj g)(h:bE g cx l W)(h1:bE g cx r1 W1)(k:bE g cx r2 z)(u:lastMarks [o1,o2] [r1,r2]=false):uT g cx (.Compare l [o1,o2] [r1,r2] pos) (rO o1 o2 W W1 z):=λd R w=>by
 show wq _ _ (do testChain pos (←eval l cx.env) [o1,o2] (markedEach [o1,o2] [r1,r2] (evalEach [r1,r2] cx.env))) _ _ _
 rw[markedEach_of_false _ _ _ u]
 refine h.then_ d R w λa x st s R q=>?_
 show wq _ _ (do
  let rv ←XH [x] (eval r1 cx.env)
  standAt pos
  let c ←XH [x,rv] (ZU o1 x rv)
  release [x,rv] [c]
  if←XH [c,rv] (truthy c)then testChain pos rv [o2] [eval r2 cx.env]else pure false) _ _ _
 refine TE.then_ (h1.hold [x]) d R q λb y st s R q=>aU (aq (ay (aF (om i d (tmp:=b::_) (vals:=y::_) { R with tmp:=V8 R.tmp.1 R.tmp.2.2} R.tmp.2.1 R.tmp.1 q λc m p j=>?_))))
 refine aq (aF (abn (aq (ay (aF (Y7 ?_))))))
 cases c with
 |false=>exact ax ⟨j.pop,p⟩
 |true=>exact yv i k d j p
theorem bo.split(l:vs.length=xs.length)(h:bo g F (vs++ws) (xs++ys)):bo g F vs xs∧bo g F ws ys:=by
 induction vs generalizing xs with
 |nil=>cases xs with
  |nil=>exact⟨rfl,h⟩
  |cons=>cases l
 |cons v vs d=>cases xs with
  |nil=>cases l
  |cons x xs=>exact⟨⟨h.1,(d (Xr l) h.2).1⟩,(d (Xr l) h.2).2⟩
theorem AA(h1:bE g cx e W1)(c:An g cx pos d i)(p:X0 (e::d) cx.env=(false,eval e cx.env)::X0 d cx.env):An g cx pos (e::d) (aa W1 i):=λj R w=>by
 rw[p]
 show wq _ _ (abw ((false,eval e cx.env)::Zf pos (X0 d cx.env))) _ _ _
 rw[abw]
 refine h1.then_ j R w λv x st s R q=>?_
 rw[if_neg W0]
 refine dY ((aq (ay (aV (c j R q) λxs s u=>u.elim' λvs st R l q=>?_))))
 exact ax (Ry.mk (vs:=v::vs) (have z:=bo.split l R.tmp;{R with tmp:=⟨z.2.1,z.1.append z.2.2⟩}) (congrArg (· + 1) l) q)
end
section
variable{g:Gl}{cx:Cx}{tmp:List V}{vals:List V9}{st:St}{s:Wj}{A:Xd}{x y:V9}{a b v:V}{F:FZ}{E:V9->Wj->Prop}{Qr:V9->Wj->Prop}{Q:V->St->Prop}{X:St->Prop}
theorem aI.unL(R:aI g cx (vs++tmp) (xs++vals) st s)(l:vs.length=xs.length):bo g (cx.F st s) vs xs∧aI g cx tmp vals st s:=have z:=bo.split l R.tmp;⟨z.1,{R with tmp:=z.2}⟩
theorem aI.pushT(R:aI g cx tmp vals st s)(hv:bo g (cx.F st s) vs xs)(hl:xs.length<=1000000)(q:Q (.tup vs) st):Up g cx tmp vals Q (.ref s.heap.objs.size) { s with heap:=s.heap.push (sq "tuple" xs n)}:=
 (R.keeps (tk:=s.toks) λb o e=>Wl _ e).up (v:=.tup vs) (show bQ _ _ _ _ from .mk rfl (R.new (λb o e=>Wl _ e) (Wh _) (WG _ rfl) (c7 rfl rfl)) hl (hv.mono λb o z=>⟨Wl _ z.1,z.2⟩)) q
theorem aI.pushO(R:aI g cx tmp vals st s){o:O}{x:Obj}(hf:x.isFreed=false)(r:OR g (cx.F st s) o x)(q:Internal.fresh o st Q):Up g cx tmp vals Q (.ref s.heap.objs.size) { s with heap:=s.heap.push x}:=
 ⟨(R.alloc (tk:=s.toks) (λb o e=>Wl _ e) (Wh _) (WG _ hf) r).push (v:=.ref s.heap.objs.size) rfl,q _ (R.fresh (Wh _))⟩
theorem GG{vs:List V}{xs:List V9}(l:vs.length=xs.length)(h:vs.length<=1000000):xs.length<=sizeLine:=l▸V4 h (by rw[WT];decide)
theorem Nc{n:Nat}(h:An g cx pos es W):bE g cx (.Tuple es n pos) (c8 W):=λoa R w=>
 show wq _ _ (do XC pos;newTuple (←abw (Zf pos (X0 es cx.env)))) _ _ _ from aU (TL.then_ h oa R w λvs xs st s R l q=>aF (aeq ((R.unL l).2.pushT (n:=0) (R.unL l).1 (l▸q.1) q.2) (GG l q.1)))
theorem RP(h:An g cx pos d W):bE g cx (.List d pos) (bp W):=λj R w=>
 show wq _ _ (do XC pos;newList (←abw (Zf pos (X0 d cx.env)))) _ _ _ from aU (TL.then_ h j R w λvs xs st s R l q=>aF (Ze ((R.unL l).2.pushL (n:=0) (R.unL l).1 (l▸q.1) q.2) (GG l q.1)))
theorem RQ(h:An g cx pos d W):bE g cx (.List d pos) (gx W):=λj R w=>
 show wq _ _ (do XC pos;newList (←abw (Zf pos (X0 d cx.env)))) _ _ _ from aU (TL.then_ h j R w λvs xs st s R l q=>aF (Ze ((R.unL l).2.pushO (o:=.list vs) (x:=sq "list" xs 0) rfl ⟨xs,0,rfl,l▸q.1,(R.unL l).1⟩ q.2) (GG l q.1)))
theorem vU(h0:0<=k)(d:k.toNat<n):acN k n=some k.toNat:=by
 unfold acN
 have h1:¬(k<0):=YX.mpr h0
 have j:¬(k≥(n:Int)):=λq=>Xh.mpr (Int.le_toNat h0 |>.mpr q) d
 simp[h1,j]
theorem Es{l:Addr}{xs:List V9}{n:Nat}{vs:List V}{k:Int}{t:Tok}{P:V->Prop}(c:s.heap.get? l=some (sq "list" xs n))(i:bo g F vs xs)(u:xs.length<=1000000)(w:Gw vs k P)
 (q:∀v x,P v->VR g F v x->Qr x s):Wz g.M A (aea (.ref l) (.int k t)) Qr E s:=by
 have z:s.heap.IsList l xs.toArray:=⟨_,c,rfl,_,rfl⟩
 have d:=i.length
 unfold Gw at w
 by_cases e:k=-1
 ·rw[if_pos e]at w
  subst e
  obtain⟨v,hx,hp⟩:=aT w
  rw[List.getLast?_eq_getElem?]at hx
  obtain⟨x,e,r⟩:=i.get hx
  have h1:=(Xm.mp hx).1
  have j:0<xs.length:=d▸Wp (Wy _) h1
  refine wpAny_getItem_list_neg z dD (by rw[Wk];exact(Oe j).2.2.2) dD (x:=x) ?_ (q _ _ hp r)
  rw[Wk,(Oe j).1,d,XZ];exact e
 ·rw[if_neg e]at w
  obtain⟨v,hx,hp⟩:=aT w.2
  obtain⟨x,e,r⟩:=i.get hx
  have:k.toNat<xs.length:=(Xm.mp e).1
  exact wpAny_getItem_list z w.1 (U1 w.1 this (V4 u dD)) (by rw[XZ];exact e) (q _ _ hp r)
theorem AB(R:aI g cx tmp vals st s)(I:VR g (cx.F st s) a x)(B:VR g (cx.F st s) b y)(hs:∀o i,acE m false o i=aa9 [o,i] (aea o i))(w:gm a b st.h λv=>Q v st) :
 wpAny g.M A (abL J m x y) (Up g cx tmp vals Q) E s:=by
 have j:=R.rsd I
 have w:vc (res st.h a) _ _ _ _ _ _ _:=w
 generalize res st.h a=n at j w
 cases n with
 |bytes l=>
  obtain⟨k,rfl,h0,w⟩:=bu w
  obtain⟨c,hc,q⟩:=aT w
  refine aA (g:=g) (F:=cx.F st s) j λt e=>aM B λu p=>?_
  subst e p
  have z:=(Xm.mp hc).1
  have hb:l.length<=16777216:=Zt j
  exact ab3 (Xe s _ t) aaq.lookup (getItem_gives (Xe s _ t) dD aaq aeR (aeD _ _) (gives_bytes_getitem _ k t u c (by simp only[Builtin.Bytes.fitsIndex,aao,decide_eq_true_eq];omega)
   (by rw[Wk,vU h0 z];simpa using hc)) (R.toks.up cD q)) (hs _ _)
 |str l=>
  obtain⟨k,rfl,h0,w⟩:=bu w
  obtain⟨c,hc,q⟩:=aT w
  refine aW (g:=g) (F:=cx.F st s) j λt e=>aM B λu p=>?_
  subst e p
  have z:=(Xm.mp hc).1
  have hb:l.length<=16777216:=Zt j
  exact ab3 (ac4 s _ t) slot_str_getitem.lookup (getItem_str (c:=c) (by simp;omega) (by show(acN k l.toArray.size).bind _=_;rw[Wk,vU h0 z];simpa using hc) (R.toks.up (v:=.str [c]) (e6 (by show 1<=16777216;decide)) q)) (hs _ _)
 |tup vs=>
  obtain⟨k,rfl,h0,w⟩:=bu w
  obtain⟨v,hc,q⟩:=aT w
  obtain⟨rfl,h,L,D⟩:=(show bQ _ _ _ _ from j)
  refine aM B λu p=>?_
  subst p
  obtain⟨x,e,r⟩:=D.get hc
  have z:=(Xm.mp e).1
  exact item_tupleT ⟨_,h.1,rfl,_,rfl⟩ (aaQ dD h0) (U1 h0 z (V4 L dD)) (vU h0 z) e (R.up r q) (hs _ _)
 |lst vs=>
  obtain⟨k,rfl,w⟩:=bu w
  obtain⟨rfl,h,L,D⟩:=(show bQ _ _ _ _ from j)
  refine aM B λu p=>?_
  subst p
  exact ab3 ⟨_,h,rfl⟩ adn.lookup (Es h D L w λv x q r=>R.up r q) (hs _ _)
 |ref d=>
  obtain rfl:x=.ref d:=j
  obtain⟨o,e,w⟩:=aT w
  cases o with
  |dict k l=>
   obtain⟨H,Y,w⟩:=aT w
   obtain⟨v,S,q⟩:=aT w
   obtain⟨r,_,hk,U,G⟩:=R.dict e
   rcases hk.at_ H with⟨f,_⟩|⟨v',x',f,Z,hr⟩
   ·rw[S]at f;cases f
   ·rw[S]at f;cases f
    exact ab3 U.typeIs slot_dict_getitem.lookup (wpAny_getItem_of (DK.is B Y) U.mapOf Z (R.toks.up hr q)) (hs _ _)
  |_=>exact Ws w
 |_=>exact Ws w
theorem OC(h1:bE g cx j W1)(c:bE g cx d u)(hs:∀o i,acE d false o i=aa9 [o,i] (aea o i)):bE g cx (.Subscript j d pos) (aQ W1 u):=λz R w=>
 show wq _ _ (do let o ←eval j cx.env;let i ←XH [o] (eval d cx.env);XC pos;abL j d o i) _ _ _ from
 h1.then_ z R w λa x st s R q=>TE.then_ (c.hold [x]) z R q λb y st s R q=>aU (aF (AB R.pop.pop R.tmp.2.1 R.tmp.1 hs q))
end
section
variable{g:Gl}{cx:Cx}{tmp:List V}{vals:List V9}{st:St}{s:Wj}{A:Xd}{x y:V9}{a b v:V}{F:FZ}{E:V9->Wj->Prop}{Qr:V9->Wj->Prop}{Q:V->St->Prop}{X:St->Prop}
theorem CA(l:List q)(lo d:Option Int):(bY l lo d).length<=l.length:=by
 unfold bY
 rw[Xi,WV]
 exact V4 (YC _ _) (YW _ _)
abbrev Uj(l u k:V9):Obj:={cls:=.type "slice",data:=.fields #[l,u,k]}
abbrev OD(s:Wj)(l u k:V9):Shared:={s with heap:=s.heap.push (Uj l u k)}
theorem aI.sl(R:aI g cx tmp vals st s)(l u k:V9):aI g cx tmp vals st (OD s l u k):=R.keeps (tk:=s.toks) λb o e=>Wl _ e
theorem yw(h:VR g F v x)(w:Ky v k):∃i,IsPart x i∧k i:=by
 cases v with
 |none=>obtain rfl:x=.none:=h;exact⟨_,.none,w⟩
 |int i=>exact aM h λt e=>⟨_,e▸.int i t,w⟩
 |_=>exact Ws w
theorem CC{l:V9}{lo:Option Int}(h:IsPart l lo):∃lt:Option (Int×Tok),l=partValue lt∧lt.map (·.1)=lo:=by
 cases h with
 |none=>exact⟨none,rfl,rfl⟩
 |int i t=>exact⟨some (i,t),rfl,rfl⟩
set_option tactic.hygienic true in
theorem Et{l u:V9}{lo hi:Option Int}{value slice:Expr}(R:aI g cx tmp vals st s)(ho:VR g (cx.F st s) a x)(hl:IsPart l lo)(hu:IsPart u hi)(hs:∀o i,acE slice false o i=aa9 [i,o] (aea o i))(w:Rv a lo hi st.h λv=>Q v st) :
 wpAny g.M A (abL value slice x (.ref s.heap.objs.size)) (Up g cx tmp vals Q) E (OD s l u .none):=by
 have RK:=R.sl l u .none
 have ho':Ui g (cx.F st (OD s l u .none)) (OD s l u .none) (res st.h a) x:=RK.rsd (VR.mono (λb o h=>⟨Wl _ h.1,h.2⟩) _ _ ho)
 have w:vc (res st.h a) _ _ _ _ _ _ _:=w
 generalize res st.h a=a' at ho' w
 cases a' with
 |bytes b=>
  refine aA (g:=g) (F:=cx.F st s) ho' λt e=>?_
  subst e
  have hb:b.length<=16777216:=Zt ho'
  refine ab3 (Xe _ _ t) aaq.lookup (getItem_meets (Xe _ _ _) dD aaq aeR (aeD _ _) (KBc.meets_slice2 b.toArray t _ hl hu)
   ⟨abo _ _ _ _,V4 (KBc.size_picked_le _ lo hi) (by rw[Wk,WT];exact hb),λt' tk=>?_⟩) (hs _ _)
  rw[show KBy.picked b.toArray lo hi=(bY b lo hi).toArray by rw[KBc.picked_eq,Wk];rfl]
  exact RK.toks.up (v:=.bytes (bY b lo hi)) (cR (V4 (CA _ _ _) hb)) w
 |str x=>
  refine aW (g:=g) (F:=cx.F st s) ho' λt e=>?_
  subst e
  have hx:x.length<=16777216:=Zt ho'
  obtain⟨a,b,h1,h2,h3,h4,hq⟩:=w
  have hlen:(⟨x.toArray⟩:Str).length=x.length:=Wk ..
  obtain⟨lt,rfl,el⟩:=CC hl
  obtain⟨ut,rfl,eu⟩:=CC hu
  have e2:aah lo hi 1 (⟨x.toArray⟩:Str).length=aah (some (a:Int)) (some (b:Int)) 1 (⟨x.toArray⟩:Str).length:=by
   rcases h1 with⟨rfl,rfl⟩|rfl <;> rcases h2 with⟨rfl,rfl⟩|rfl
   ·rw[adw,adx,hlen];rfl
   ·rw(config:={}) [adw];rfl
   ·rw[adx,hlen]
   ·rfl
  have hl3:((x.drop a).take (b-a)).length<=16777216:=V4 (by rw[Xi,WV];exact V4 (YC _ _) (YW _ _)) hx
  refine ab3 (ac4 _ _ t) slot_str_getitem.lookup (wpAny_getItem_str_slice (l:=lt) (u:=ut) (st:=none) ⟨_,WG _ rfl,rfl,rfl⟩ rfl ?_) (hs _ _)
  unfold sliceMade slicePicked
  simp only[Option.map_none,Option.getD_none,el,eu]
  split
  ·rename_i hh
   have hh':(aah lo hi 1 (⟨x.toArray⟩:Str).length).length=x.length:=by rw[←hlen];simpa using hh
   rw[e2,StrLaws.strSliceIndices_plain h3 (by rw[hlen];exact h4),Wd,Y2]at hh'
   have hb:=abV h4 (hh'▸YW b a)
   have ha:=Nat.sub_sub_self h3
   rw[hh',hb,abO]at ha
   subst ha hb
   rw[show(x.drop 0).take (x.length-0)=x by simp]at hq
   exact RK.up (v:=.str x) (e6 hx) hq
  ·rw[e2,StrLaws.sliced_plain _ h3 (by rw[hlen];exact h4)]
   exact⟨by show((x.drop a).take (b-a)).toArray.size<=_;rw[Wk,WT];exact hl3,RK.toks.up (e6 hl3) hq⟩
 |lst vs=>
  obtain⟨rfl,h,hlen,hv⟩:=(show bQ _ _ _ _ from ho')
  rename_i xs _
  have hlv:=hv.length
  have hc:bo g (cx.F st (OD s l u .none)) (bY vs lo hi) (bY xs lo hi):=by unfold bY;rw[hlv];exact(hv.drop _).take _
  refine ab3 ⟨_,h,rfl⟩ adn.lookup (ae3 (s:=OD s l u .none) ⟨_,h,rfl,_,rfl⟩ (abo _ _ _ _) hl hu .none dD ?_ (by rw[Wk,WT];exact V4 hlen dD)) (hs _ _)
  rw[slicePick_plain,show((xs.toArray.toList.drop (lo.elim 0 (abH xs.toArray.size))).take (hi.elim xs.toArray.size (abH xs.toArray.size)-lo.elim 0 (abH xs.toArray.size)))=bY xs lo hi by unfold bY;rw[Wk]]
  exact RK.pushL hc (V4 (CA _ _ _) hlen) w
 |_=>exact Ws w
theorem OE:TE g cx (aaM none cx.env) (af .none):=λ_ R w=>ax (R.up gn w)
theorem RR{value:Expr}{lo hi:Option Expr}(h1:bE g cx value W1)(h2:TE g cx (aaM lo cx.env) W2)(h3:TE g cx (aaM hi cx.env) W3)(hs:∀o i,acE (.Slice lo hi none p) false o i=aa9 [i,o] (aea o i)) :
 bE g cx (.Subscript value (.Slice lo hi none p) pos) (bb W1 W2 W3):=λoa R w=>
 show wq _ _ (do let o ←eval value cx.env;let i ←XH [o] (eval (.Slice lo hi none p) cx.env);XC pos;abL value (.Slice lo hi none p) o i) _ _ _ from
 h1.then_ oa R w λa x st s R q=>aq (ay (show wq _ _ (do
  let l ←aaM lo cx.env
  let u ←XH [l] (aaM hi cx.env)
  let s ←XH [l,u] (aaM none cx.env)
  newFields "slice" [l,u,s]) _ _ _ from h2.then_ oa R q λlo x1 st s R q=>TE.then_ (h3.hold [x1]) oa R q λhi x2 st s R q=>aq (ay (ax (by
   refine Wo λno=>?_
   obtain⟨i,p1,q⟩:=yw R.tmp.2.1 q
   obtain⟨j,p2,q⟩:=yw R.tmp.1 q
   refine no ?_
   exact aF (Yu (aU (aF (Et R.pop.pop.pop R.tmp.2.2.1 p1 p2 hs q)))))))))
theorem RS(h1:bE g cx value W1)(h2:bE g cx k (af (.int (-1))))(hs:∀o i,acE (.Slice none none (some k) p) false o i=aa9 [o,i] (aea o i)) :
 bE g cx (.Subscript value (.Slice none none (some k) p) pos) (Kz W1):=λoa R w=>
 show wq _ _ (do let o ←eval value cx.env;let i ←XH [o] (eval (.Slice none none (some k) p) cx.env);XC pos;abL value (.Slice none none (some k) p) o i) _ _ _ from
 h1.then_ oa R w λa x st s R q=>aq (ay (show wq _ _ (do
  let l ←aaM none cx.env
  let u ←XH [l] (aaM none cx.env)
  let s ←XH [l,u] (aaM (some k) cx.env)
  newFields "slice" [l,u,s]) _ _ _ from dY ((aq (ay (ax (TE.then_ (W1:=af (.int (-1))) (Q:=λv st'=>v=.int (-1)∧st'=st) (h2.hold [.none,.none]) oa R ⟨rfl,rfl⟩ λv z st' s R2 q'=>(by
   obtain⟨rfl,rfl⟩:=q'
   obtain⟨t,rfl⟩:=(show ∃t,z=.int (-1) t from R2.tmp.1)
   have RK:=R2.pop.sl .none .none (.int (-1) t)
   obtain⟨vs,e,q⟩:=eS q
   have ho:=RK.rsd RK.tmp.1
   rw[e]at ho
   obtain⟨rfl,h,hlen,hv⟩:=(show bQ _ _ _ _ from ho)
   refine aF (Yu (aU (aF (ab3 ⟨_,h,rfl⟩ adn.lookup (ae3 (s:=OD s .none .none (.int (-1) t)) ⟨_,h,rfl,_,rfl⟩ (abo _ _ _ _) .none .none (.int (-1) t) dD ?_ (by rw[Wk,WT];exact V4 hlen dD)) (hs _ _)))))
   rw[krv_pick]
   exact RK.pop.pushO (o:=.list vs.reverse) rfl ⟨_,0,rfl,by rw[Ys];exact hlen,hv.reverse⟩ q))))))))
end
noncomputable def rR(K:Frag)(C:Addr)(name:Str):Bool:=plainGet K C name&&hasDictIn K C&&(match Xf K (.ref C) name with|some a=>noGet K a|none=>false)&&Xf K (.ref C) "__setattr__" == some (some (.builtin "object.__setattr__"))&&plainOver K C&&takerIn K C name==some none
structure Top(g:Gl)(K:Frag):Prop where
 nolim:g.B.NoLimit
 k:K.In g.B
 ns:∃mg mb,g.B.Ns Xv mg∧g.B.Ns aaE mb∧∀x:Str,x≠ "__name__" -> mb x=ab9 x
 tab:∀c ns,g.tab.lookup c=some ns->ns.Nodup∧ns.length<=50∧∀name∈ns,rR K c name=true
 inst:jj g
section
variable{g:Gl}{cx:Cx}{tmp:List V}{vals:List V9}{st:St}{s:Wj}{A:Xd}{x y z:V9}{a b v u:V}{F:FZ}{E:V9->Wj->Prop}{Qr:V9->Wj->Prop}{Q:V->St->Prop}{X:St->Prop}
variable{W W1 W2 W3:PT}{l r e t:Expr}{pos p:Pos}{es:List Expr}{K:Frag}{P:adJ}{name:Str}
theorem oq{a b:Str}(h:a≠b):(a==b)=false:=beq_eq_false_iff_ne.mpr h
theorem KG:∀{ks:List (Str×Tok)} {xs:List V9},name∉ks.map (·.1)->(n9 P ks xs).find? (·.key.isStr name)=none:=by
 intro d
 induction d with
 |nil=>
  intro _ _
  exact rfl
 |cons k ks q=>
  intro j
  cases j with
  |nil=>
   intro _
   exact rfl
  |cons x xs=>
   intro h
   rw[WO,Wf,not_or]at h
   show(match k.1==name with|true=>_|false=>_:Option aaG)=none
   rw[oq (XW h.1)];exact q h.2
theorem KH:∀{ks:List (Str×Tok)} {xs:List V9} {i:Nat},(ks.map (·.1)).Nodup->(ks.map (·.1))[i]? = some name->xs[i]? = some x->∃e,(n9 P ks xs).find? (·.key.isStr name)=some e∧e.val=x:=by
 intro w1
 induction w1 with
 |nil=>
  intro _ _ _ h _
  cases h
 |cons k ks ih=>
  intro w2
  cases w2 with
  |nil=>
   intro _ _ _ h
   cases h
  |cons y xs=>
   intro i hn h hx
   show ∃e,(match k.1==name with|true=>_|false=>_:Option aaG)=some e∧e.val=x
   cases i with
   |zero=>
    rw[show k.1=name from WR h,beq_self_eq_true];exact⟨_,rfl,WR hx⟩
   |succ i=>
    have hm:name∈ks.map (·.1):=Xx (i:=i) h
    rw[oq (a:=k.1) (b:=name) λe=>(XG.mp hn).1 (show k.1∈_ by rw[e];exact hm)];exact ih (XG.mp hn).2 h hx
theorem GH{hs:Int}{kv:V9}:∀{ks:List (Str×Tok)} {xs:List V9} {i:Nat},(ks.map (·.1)).Nodup->(ks.map (·.1))[i]? = some name->ks.length=xs.length->putL name hs kv y (n9 P ks xs)=n9 P ks (xs.set i y):=by
 intro w1
 induction w1 with
 |nil=>
  intro _ _ _ h _
  cases h
 |cons k ks ih=>
  intro w2
  cases w2 with
  |nil=>
   intro _ _ _ h
   cases h
  |cons x xs=>
   intro i hn h hl
   show(if(k.1==name)=true then _ else _)=_
   cases i with
   |zero=>rw[if_pos (beq_iff_eq.mpr (show k.1=name from WR h))];rfl
   |succ i=>
    have hm:name∈ks.map (·.1):=Xx (i:=i) h
    rw[oq (a:=k.1) (b:=name) λe=>(XG.mp hn).1 (show k.1∈_ by rw[e];exact hm),if_neg W0,ih (XG.mp hn).2 h (Xr hl)];rfl
theorem GI{tk:Tok}:∀{ks:List (Str×Tok)} {xs:List V9},name∉ks.map (·.1)->ks.length=xs.length->putL name (Zy P name) (.str name tk) y (n9 P ks xs)=n9 P (ks++[(name,tk)]) (xs++[y]):=by
 intro d
 induction d with
 |nil=>
  intro i
  cases i with
  |nil=>
   intro _ _
   exact rfl
  |cons m w=>
   intro _ h
   cases h
 |cons k ks c=>
  intro q
  cases q with
  |nil=>
   intro _ h
   cases h
  |cons x xs=>
   intro h j
   rw[WO,Wf,not_or]at h
   show(if(k.1==name)=true then _ else _)=_
   rw[oq (XW h.1),if_neg W0,c h.2 (Xr j)];rfl
theorem rS:∀{ks:List (Str×Tok)} {xs:List V9},List.any (n9 P ks xs) (·.refKey)=false
 | [],_=>rfl
 |_::_,[]=>rfl
 |_::ks,_::xs=>rS (ks:=ks) (xs:=xs)
theorem yx:∀{ks:List (Str×Tok)} {xs:List V9},(n9 P ks xs).length<=ks.length
 | [],_=>Wh _
 |_::_,[]=>Wy _
 |_::ks,_::xs=>Wm (yx (ks:=ks) (xs:=xs))
theorem handed(h:VR g F v x)(d:ji v):handedIn x=true:=by
 cases v with
 |none=>exact(show x=.none from h)▸rfl
 |bool b=>exact(show x=.bool b from h)▸rfl
 |int i=>exact aM h λt e=>e▸rfl
 |str i=>exact aW h λt e=>e▸rfl
 |bytes i=>exact aA h λt e=>e▸rfl
 |raw _=>exact d.elim
 |ref a=>exact(show x=.ref a from h)▸rfl
 |tup=>exact bQ.casesOn h λe _ _ _=>e▸rfl
 |lst=>exact bQ.casesOn h λe _ _ _=>e▸rfl
 |inst=>exact h.2.casesOn λe _ _ _ _ _=>e▸rfl
theorem aI.fr(R:aI g cx tmp vals st s):∃m,Fr g.B cx.env.locals s.heap m:=R.loc.imp λm h=>⟨h.1,R.base,(R.rsv _ R.ok.own).1⟩
inductive Nd(g:Gl)(F:FZ)(hp:Heap)(x:V9)(c:Addr)(vs:List V):Prop
 |mk {a d:Addr} {ks:List (Str×Tok)} {xs:List V9} {n:Nat} (e:x=.ref a) (h:hp.get? a=some (Gp c d)) (h':hp.get? d=some (Tw (n9 g.P ks xs) n)) (k:ks.map (·.1)=(g.names c).take vs.length) (l:ks.length=xs.length) (r:bo g F vs xs)
theorem yy{c:Addr}{j:Ix}{i:Nat}(q:∀c i,j.lookup c=some i->(g.names c)[i]? = some name)(h:j.lookup c=some i)(T:Top g K):(g.names c).Nodup∧(g.names c).length<=50∧rR K c name=true∧(g.names c)[i]? = some name:=by
 have d:=q c i h
 unfold Gl.names at *
 generalize e:g.tab.lookup c=k;cases k with
 |none=>rw[e]at d;cases d
 |some ns=>
  have t:=T.tab c ns e
  rw[e]at d
  exact⟨t.1,t.2.1,t.2.2 name (Xx d),d⟩
theorem ml(h:rR K C name=true):plainGet K C name=true∧hasDictIn K C=true∧(∃a,Xf K (.ref C) name=some a∧noGet K a=true)∧Xf K (.ref C) "__setattr__" = some (some (.builtin "object.__setattr__"))∧plainOver K C=true∧takerIn K C name=some none:=by
 unfold rR at h
 simp only[aao,beq_iff_eq]at h
 refine Wo λno=>?_
 obtain⟨⟨⟨⟨⟨h1,i⟩,d⟩,j⟩,c⟩,q⟩:=h
 refine no ?_
 refine⟨h1,i,?_,j,c,q⟩
 split at d
 ·exact⟨_,‹_›,d⟩
 ·cases d
theorem uX(T:Top g K){J:Ix}(j:∀c i,J.lookup c=some i->(g.names c)[i]? = some name)(R:aI g cx tmp vals st s){c:Addr}{vs:List V}(h:Nd g (cx.F st s) s.heap x c vs){P:V->Prop}(w:Oo J c vs P){d:Bool}
 (k:∀v y f,P v->aI g cx tmp vals st f->VR g (cx.F st f) v y->Qr y f):Wz g.M A (getAttr x name d) Qr E s:=by
 obtain⟨rfl,h,Z,D,hl,S⟩:=h
 obtain⟨i,H,w⟩:=aT w
 obtain⟨v,o,G,q⟩:=aT w
 obtain⟨n1,_,L,n⟩:=yy j H T
 obtain⟨o1,o2,⟨_,o3,o4⟩,_⟩:=ml L
 obtain⟨m,F⟩:=R.fr
 obtain⟨y,U,B⟩:=S.get o
 have Y:=(Xm.mp o).1
 obtain⟨e,I,rfl⟩:=KH (P:=g.P) (D▸n1.sublist (List.take_sublist _ _)) (show _=some name by rw[D,adV Y];exact n) U
 exact get_own F T.k ⟨h,rfl,rfl,Z⟩ o1 o2 o3 o4 (by unfold getL;rw[I]) (handed B G) (k _ _ _ q R.toks B)
theorem rT(T:Top g K){J:Ix}(j:∀c i,J.lookup c=some i->(g.names c)[i]? = some name)(R:aI g cx tmp vals st s)(ha:VR g (cx.F st s) a x){P:V->Prop}(w:Gx J a st.h P){q:Bool}
 (k:∀v y D,P v->aI g cx tmp vals st D->VR g (cx.F st D) v y->Qr y D):Wz g.M A (getAttr x name q) Qr E s:=by
 cases a with
 |inst c vs=>
  obtain⟨e,h,S,m,B,f⟩:=ha.2
  refine uX T j R ⟨e,h.1,S.1,?_,B,f⟩ w k
  have h1:(g.names c).length=vs.length:=by rw[←m,Wd,B,f.length]
  rw[m,←h1,aal]
 |ref a=>
  obtain rfl:x=.ref a:=ha
  obtain⟨o,L,w⟩:=aT w
  cases o with
  |inst c d=>
   obtain⟨o,Z,w⟩:=aT w
   cases o with
   |fields H vs=>
    obtain⟨rfl,w⟩:=w
    obtain⟨Y,h1,r1⟩:=(R.known _ _ L).obj
    obtain⟨G,U,ks,xs,n,rfl,m,B,f⟩:=(R.known _ _ Z).obj
    obtain rfl:Y=Gp c d:=r1
    exact uX T j R ⟨rfl,h1,U,m,B,f⟩ w k
   |_=>exact Ws w
  |_=>exact Ws w
 |_=>exact Ws w
theorem OF(T:Top g K)(h:bE g cx e W)(j:∀c i,m.lookup c=some i->(g.names c)[i]? = some name)(d:acX e name cx.env (eval e cx.env)=eval e cx.env):bE g cx (.Attribute e name pos) (aS W m):=λf R w=>by
 show wq _ _ (do
  let o ←acX e name cx.env (eval e cx.env)
  standAt pos.atName
  let r ←XH [o] (getAttr o name true)
  letTemporaryGo e o r
  pure r) _ _ _
 rw[d]
 exact h.then_ f R w λv x st s R q=>aU (aq (ay (aF (rT T j R.pop R.tmp.1 q λv y B q k r=>aq (aF (wpAny_letTemporaryGo (ax (k.up r q))))))))
end
def jP(cx:Cx)(x:Str):Prop:=cx.env.kindOf x=some .local∨(cx.ro=false∧cx.env.kindOf x=some .cell∧∃c,cx.env.cells.lookup x=some c)
section
variable{g:Gl}{cx:Cx}{tmp:List V}{vals:List V9}{st:St}{s:Wj}{A:Xd}{x y z:V9}{a b v u:V}{F:FZ}{E:V9->Wj->Prop}{Qr:V9->Wj->Prop}{Q:V->St->Prop}{X:St->Prop}
theorem aX{d q:Type}[BEq d][LawfulBEq d]{l:List (d×q)}{x:d}{c:q}(h:l.lookup x=some c):(x,c)∈l:=by
 obtain⟨j,l2,e,_⟩:=ad6.mp h
 rw[e];exact WK _ (.head _)
theorem aI.ownc(R:aI g cx tmp vals st s){a:Addr}{loc:List (Option V)}(ha:a∈cx.rv)(hk:∀q∈cx.keep,q.1≠a)(ho:∀q∈cx.outer,q.1≠a)(hs:Xg a s.heap hp)(nx:∃x,hp.get? a=some x∧NF x)
 (cl:∀p∈cx.env.cells,∃v,hp.IsCell p.2 v) (lc:(∀v x,VR g (cx.F st s) v x->VR g (Fz hp st.h cx.rv) v x)->∃m,hp.Ns cx.env.locals m∧∀(i:Nat) x v,cx.names[i]? = some x->loc[i]? = some (some v)->∃val,VR g (Fz hp st.h cx.rv) v val∧Ku cx.env m hp x val) :
 aI g cx tmp vals ⟨loc,st.h⟩ { s with heap:=hp,toks:=tk}:=
 have to:∀{b o},b≠a->s.heap.get? b=some o->hp.get? b=some o:=λq e=>(hs.2 _ q).trans e
 have hF:∀b o,cx.F st s b o->Fz hp st.h cx.rv b o:=λb o x=>⟨to (λq=>x.2.2.1 (q▸ha)) x.1,x.2⟩
 {R with
  base:=λb o e=>to (λq=>by rw[q,dI (R.rsv a ha).1]at e;cases e) (R.base b o e)
  known:=λb o e=>let k:=R.known b o e;⟨k.low,k.nrv,k.obj.imp λ_ x=>⟨to (λq=>k.nrv (q▸ha)) x.1,x.2.mono hF⟩⟩
  rsv:=λb h=>⟨(R.rsv b h).1,(Yj (b=a)).elim (λq=>nx.imp λ_ x=>q▸x.1) λq=>(R.rsv b h).2.imp λ_ x=>to q x⟩
  frs:=λb h=>(Yj (b=a)).elim (λq=>nx.imp λ_ x=>q▸x) λq=>(R.frs b h).imp λ_ x=>⟨to q x.1,x.2⟩
  keep:=λq h=>to (hk q h) (R.keep q h)
  outer:=λq h=>(R.outer q h).imp λ_=>XF λ_=>XF λ_ x=>⟨to (ho q h) x.1,x.2⟩
  cl:=cl
  loc:=lc λv x=>VR.mono hF v x
  wait:=λa o x=>hF a o (R.wait a o x)
  tmp:=R.tmp.mono hF}
theorem Ku.keep{env:Env}{m q:Str->Option V9}{h j:Heap}{x:Str}{d:V9}(H:Ku env m h x d)(i:m x=q x)(hc:∀c v,env.cells.lookup x=some c->h.IsCell c v->j.IsCell c v):Ku env q j x d:=by
 cases H with
 |loc k e=>exact .loc k (i▸e)
 |cell k e c=>exact .cell k e (hc _ _ e c)
theorem CD{loc:List (Option V)}{names:List Str}(m:names.Nodup){i j:Nat}{x y:Str}{v u:V}(c:names[i]? = some x)(d:names[j]? = some y)(h:(loc.set i (some v))[j]? = some (some u)):(y=x∧u=v)∨(y≠x∧loc[j]? = some (some u)):=by
 by_cases q:j=i
 ·subst q
  rw[c]at d;cases d
  rw[List.getElem?_set_self']at h
  generalize e:loc[j]? = k;cases k with
  |none=>rw[e]at h;cases h
  |some o=>rw[e]at h;cases h;exact .inl ⟨rfl,rfl⟩
 ·rw[List.getElem?_set_ne (XW q)]at h
  refine .inr ⟨λe=>q ?_,h⟩
  subst e
  obtain⟨f,w⟩:=Xm.mp c
  obtain⟨B,p⟩:=Xm.mp d
  exact(List.getElem_inj m).mp (p.trans w.symm)
theorem mn{l:List (Str×Addr)}(h:l.Pairwise λx y=>x.2≠y.2){x y:Str}{c d:Addr}(hx:l.lookup x=some c)(o:l.lookup y=some d)(n:x≠y):c≠d:=by
 have B:=aX hx
 have f:=aX o
 intro e
 subst e
 obtain⟨i,m,k⟩:=ZM B
 obtain⟨j,w,p⟩:=ZM f
 rw[adN]at h
 rcases Nat.lt_trichotomy i j with q|q|q
 ·exact h i j m w q (by rw[k,p])
 ·subst q;rw[k]at p;exact n (congrArg Prod.fst p)
 ·exact h j i w m q (by rw[k,p])
theorem gp(R:aI g cx (v::tmp) (x::vals) st s){y:Str}{i:Nat}{Qr:Unit->Wj->Prop}(hi:cx.names[i]? = some y)(hk:jP cx y)(k:∀s',aI g cx tmp vals ⟨st.loc.set i (some v),st.h⟩ s'->Qr () s'):Wz g.M A (storeName cx.env y x) Qr E s:=by
 obtain⟨m,hn,hl⟩:=R.loc
 have hv:=R.tmp.1
 rcases hk with hk|⟨hro,hk,c,hc⟩
 ·refine wpAny_storeName_local hk hn (λh' hn' hs=>k _ (R.pop.ownc (loc:=st.loc.set i (some v)) (tk:=s.toks+1) R.ok.own (λq h=>(R.ok.keep q h).2.1) (λq h=>(R.ok.outer q h).2) hs ?_ (λp h=>?_) λhF=>⟨_,hn',λj z u hz hu=>?_⟩)) (by rw[R.ok.kind];rfl)
  ·obtain⟨o,es,ep,h1,h2,_⟩:=hn'
   exact⟨o,h1,c7 h2 rfl⟩
  ·exact(R.cl p h).imp λ_=>XF λ_ x=>⟨(hs.2 _ (R.ok.cells p h).2.1).trans x.1,x.2⟩
  ·rcases CD R.ok.names hi hz hu with⟨rfl,rfl⟩|⟨n,hu⟩
   ·exact⟨x,hF _ _ hv,.loc hk (if_pos rfl)⟩
   ·obtain⟨val,r,H⟩:=hl j z u hz hu
    exact⟨val,hF _ _ r,H.keep (if_neg n).symm λc v e=>XF λ_ x=>⟨(hs.2 _ (R.ok.cells (z,c) (aX e)).2.1).trans x.1,x.2⟩⟩
 ·have hm:=aX hc
  obtain⟨v₀,h2⟩:=R.cl _ hm
  refine wpAny_storeName_cell R.ok.kind hk hc h2 λh' hcl hs=>k _ (R.pop.ownc (loc:=st.loc.set i (some v)) (tk:=s.toks) (R.ok.cells _ hm).1 (R.ok.free _ hm hro hk).1 (R.ok.free _ hm hro hk).2 hs ?_ (λp h=>?_) λhF=>⟨m,hn.sameBut hs (R.ok.cells _ hm).2.1.symm,λj z u hz hu=>?_⟩)
  ·obtain⟨o,h1,h2⟩:=hcl
   exact⟨o,h1,c7 h2 rfl⟩
  ·by_cases q:p.2=c
   ·exact⟨_,q▸hcl⟩
   ·exact(R.cl p h).imp λ_=>XF λ_ x=>⟨(hs.2 _ q).trans x.1,x.2⟩
  ·rcases CD R.ok.names hi hz hu with⟨rfl,rfl⟩|⟨n,hu⟩
   ·exact⟨x,hF _ _ hv,.cell (.inl hk) hc hcl⟩
   ·obtain⟨val,r,H⟩:=hl j z u hz hu
    exact⟨val,hF _ _ r,H.keep rfl λd v e=>XF λ_ x=>⟨(hs.2 _ (mn R.ok.apart e hc n)).trans x.1,x.2⟩⟩
theorem KI{c:Pos}{y:Str}(i:Nat)(j:cx.names[i]? = some y)(q:jP cx y):TT g cx (Y1 (.Name y c) cx.env) (aj i):=λ_ R w=>aF (wpAny_assign_Name (gp R j q λp d=>⟨d,w⟩))
def qh(sc:Za):Env:={scope:=sc,locals:=0,globals:=0,cells:=[]}
theorem dG(h:env.scope=sc)(v:Expr)(t:Option Expr)(l:Nat):ZT v t l env=ZT v t l (qh sc):=by subst h;rfl
theorem fj(h:env.scope=sc)(t:List Expr)(v:Expr):ZA t v env=ZA t v (qh sc):=by subst h;rfl
theorem KJ{env:Env}{x:V9}{t:V9->Sem Unit}:assignStores env x none [t]=(t x>>=λ_=>pure acf):=rfl
theorem OG{sc:Za}{T:gG}{to:Expr}(hsc:cx.env.scope=sc)(h:bE g cx e W)(ht:TT g cx (Y1 to cx.env) T)(hs:ZT e (some to) pos.line (qh sc)=pure false)(hw:ZA [to] e (qh sc)=pure none)(he:(aaF [to] cx.env).map (·.2)=[Y1 to cx.env]) :
 j1 g cx (.Assign [to] e pos) (aD T W):=λoa R w=>by
 rw[ad1]
 refine aU ?_
 rw[show ae4 [to] e pos.line cx.env=pure false by show ZT _ _ _ _=_;rw[dG hsc];exact hs]
 refine dY (?_)
 rw[if_neg W0]
 refine h.then_ oa R w λv x st s R q=>?_
 show wq _ _ (do assignStores cx.env x (←ZA [to] e cx.env) ((aaF [to] cx.env).map (·.2))) _ _ _
 rw[fj hsc,hw,he]
 refine dY (?_)
 rw[KJ]
 exact aq (be (ht oa R q) (λ_ s u=>u.casesOn λR q=>ax (.next R q)) λ_ _ h=>Ws h)
inductive uY(cx:Cx):List Str->List Nat->Prop
 |nil:uY cx [] []
 |cons {x:Str} {i:Nat} {xs:List Str} {is:List Nat} (h:cx.names[i]? = some x) (hk:jP cx x) (t:uY cx xs is):uY cx (x::xs) (i::is)
theorem AD{xs:List Str}{is:List Nat}{Qr:Unit->Wj->Prop}(N:uY cx xs is):∀{vs:List V} {d:List V9} {st:St} {s:Wj},aI g cx (vs++tmp) (d++vals) st s->vs.length=d.length->(∀j,aI g cx tmp vals ⟨vP st.loc is vs,st.h⟩ j->Qr () j)->is.length=vs.length->
 wpAny g.M A (ae6 (xs.map λn=>bindName cx.env n) d) Qr E s:=by
 induction N with
 |nil=>
  intro vs d st s R l k q
  cases vs with
  |nil=>cases d with
   |nil=>exact Wg (k _ R)
   |cons=>cases l
  |cons=>cases q
 |cons h c t p=>
  intro vs d st s R l k q
  cases vs with
  |nil=>cases q
  |cons v vs=>cases d with
   |nil=>cases l
   |cons y ys=>exact V7 (Xk (wpAny_bindName (gp R h c λj i=>p i (Xr l) k (Xr q))))
theorem OI{sc:Za}{n m:Nat}{p1 p2:Pos}{ts:List Expr}{xs:List Str}{is:List Nat}(hsc:cx.env.scope=sc)(h:An g cx p2 es W)(hw:ZA [.Tuple ts n p1] (.Tuple es m p2) (qh sc)=pure (some xs))(hn:uY cx xs.reverse is)(hx:xs.length=is.length) :
 j1 g cx (.Assign [.Tuple ts n p1] (.Tuple es m p2) pos) (bZ is W):=λoa R w=>by
 rw[ad1]
 refine aU ?_
 rw[show ae4 [.Tuple ts n p1] (.Tuple es m p2) pos.line cx.env=pure false from rfl]
 refine dY (?_)
 rw[if_neg W0]
 have h':bE g cx (.Tuple es m p2) (c8 W):=Nc h
 refine h'.then_ oa R w λv x st s R q=>?_
 rw[fj hsc,hw]
 refine dY (?_)
 obtain⟨vs,rfl,hl,q⟩:=vR q
 obtain @⟨a,xs',_,rfl,h,_,hv⟩:=(show bQ _ _ _ _ from R.tmp.1)
 show wq _ _ (do
  rule "assign.swapped-stores"
  let items ←unpackItems (.ref a) xs.length none
  assignInOrder (xs.reverse.map λn=>bindName cx.env n) items.reverse
  pure acf) _ _ _
 have hlv:=hv.length
 refine aF (Internal.Vv (λ_ q=>Yt q) ?_)
 rw[show xs.length=xs'.toArray.size by rw[Wk,hlv,hx,hl]]
 refine V7 (aff oa.handled (items:=xs'.toArray) ⟨_,h.1,rfl,_,rfl⟩ λhp he=>?_)
 have R':=R.pop.keeps (tk:=s.toks) λb o e=>he b o (WW (WU e)) e
 have hr:bo g (cx.F st { s with heap:=hp}) vs.reverse xs'.reverse:=hv.reverse.mono λb o z=>⟨he b o (WW (WU z.1)) z.1,z.2⟩
 exact V7 (AD hn { R' with tmp:=hr.append R'.tmp} (by rw[Ys,Ys,hlv]) (λs' R2=>Wg (.next R2 q)) (by rw[Ys,hl]))
end
section
variable{s:Wj}{A:Xd}{K:Frag}
theorem p5(hl:s.heap.IsList l items)(hj:j<items.size)
 (hk:k=(j:Int)∨(k=-1∧j=items.size-1)) (hfit:aak k=true)
 (hQ:Q () { s with heap:=s.heap.update l (Xj (·.setIfInBounds j v))}):Wz (YL prog w) A (setItem (.ref l) (.int k t) v) Q E s:=by
 obtain⟨o,ho,hc,ne,hd⟩:=id hl
 have hx:items[j]? = some items[j]:=Array.getElem?_eq_getElem hj
 unfold setItem
 try with_reducible refine Xk ?_
 first|refine V7 (Wg ?_)|skip
 refine V7 (wpAny_sequenceKey hl.typeIs dD (V7 (YK (name:=V3 "__setitem__") hl.typeIs slot_list_setitem
  (YZ slot_list_setitem hl.typeIs entry_list_setitem ?_ (args_list_setitem _ _ _)))))
 show Wz _ _ (Builtin.List.listSubscript? (.int k t)>>=_) _ _ s
 refine V7 (wpAny_listSubscript_int hfit ?_)
 rcases hk with rfl|⟨rfl,rfl⟩
 ·show Wz _ _ ((seqItemAt l j>>=λr=>pure (r.map (j,·)))>>=_) _ _ s
  refine V7 (V7 (wpAny_seqItemAt ho hd (Wg ?_)))
  rw[hx]
  refine V7 (wpAny_setSeqItemAt ho hd ?_)
  first
   |exact V7 (Wg (Wg ⟨.none,rfl,Wg hQ⟩))
   |exact Wg ⟨.none,rfl,Wg hQ⟩
 ·have hidx:acN (-1) items.size=some (items.size-1):=by
   have n1:=Oe (Wp (Wy _) hj)
   simp[acN,n1.2.1,n1.2.2.1,n1.1]
  show Wz _ _ ((Builtin.List.listItems (.ref l)>>=λxs=>pure ((acN (-1) xs.size).bind λi=>xs[i]?.map (i,·)))>>=_) _ _ s
  refine V7 (V7 ?_)
  refine V7 (aap ho hd (Wg (Wg ?_)))
  rw[hidx]
  simp only[afl,hx,Option.map_some]
  show Wz _ _ (setSeqItemAt l (items.size-1) v>>=_) _ _ s
  refine V7 (wpAny_setSeqItemAt ho hd ?_)
  first
   |exact V7 (Wg (Wg ⟨.none,rfl,Wg hQ⟩))
   |exact Wg ⟨.none,rfl,Wg hQ⟩
theorem Eu(X:K.In s.heap)(h1:s.heap.get? x=some { cls:=.ref C,dict:=some dx,data:=.plain})
 (h2:s.heap.get? dx=some (dictOf es n)) (hs:Xf K (.ref C) "__setattr__" = some (some (.builtin "object.__setattr__"))) (hp:plainOver K C=true) (ht:takerIn K C name=some none) (hh:hasDictIn K C=true) (hr:es.any (·.refKey)=false) (hz:es.length<=900)
 (h:∀h',Xg dx s.heap h'->h'.get? dx=some (dictOf (putL name (Zy w.params name) (.str name (s.toks+1)) v es) (putN name es n))->Q () { s with heap:=h',toks:=s.toks+2}) :
 wpAny (YL prog w) A (setAttr (.ref x) name v) Q E s:=by
 have I:InstAt s.heap x { cls:=.ref C,dict:=some dx,data:=.plain} C (some (dictOf es n)):=⟨h1,rfl,rfl,h2⟩
 refine set_plain X I hs (osa_open (s:={s with toks:=s.toks+1}) X I hp ht λb=>?_)
 refine Wo λno=>?_
 obtain⟨cd,hc,hd'⟩:=any_some hh
 refine no ?_
 have U:(s.heap.update dx (Obj.putName name (Zy w.params name) (.str name (s.toks+1)) v)).get? dx=some (dictOf (putL name (Zy w.params name) (.str name (s.toks+1)) v es) (putN name es n)):=by
  rw[W9 _ h2 (by rw[ads];rfl),ads]
 have lenL:∀(l:List aaG) (k:V9),(putL name (Zy w.params name) k v l).length<=l.length+1:=by
  intro l k
  induction l with
  |nil=>simp[putL]
  |cons e r ih=>
   unfold putL
   split
   ·simp
   ·exact Wm ih
 have c:(!es.toArray.any (·.key.isStr name)&&es.toArray.any (·.refKey))=false:=by
  rw[←Array.any_toList,←Array.any_toList]
  rw[hr,aaa]
 refine Internal.V1 ((V7 (V7 (acA h1 (Internal.Vv (λ_ q=>looks_clsIn (M:=YL prog w) X hc _ _ _ _ (λ_ _ e=>e) q) ?_)))))
 rw[hd']
 refine Wg (a:=some dx) (Internal.V1 ((V7 ?_)))
 unfold nsSet
 refine V7 (V7 (Yn (Wg (V7 (wpAny_mkText (V7 (acA h2 ?_)))))))
 dsimp only
 rw[aRefKeyMayBeTheName_at,c]
 refine wpAny_updatePart h2 ?_
 refine V7 (adI U (pastItsLine_dict (by rw[Wk,WT];exact V4 (lenL _ _) (V4 (Wm hz) dD))) ?_)
 exact Wg (h _ (X2 ..) U)
end
section
variable{g:Gl}{cx:Cx}{tmp:List V}{vals:List V9}{st:St}{s:Wj}{A:Xd}{x y z:V9}{a b v u:V}{F:FZ}{E:V9->Wj->Prop}{Qr:Unit->Wj->Prop}{Q:V->St->Prop}{X:St->Prop}{Qs:St->Prop}
variable{W W1 W2 W3:PT}{l r e t o i:Expr}{pos p:Pos}{es:List Expr}{K:Frag}{P:adJ}{name:Str}{hp:Heap}{tk:Nat}
theorem TE.quiet(h:TE g cx m W)(d:gJ cx.stk cx.lvl A)(R:aI g cx tmp vals st s)(w:W Q uS st):wq g A m (Up g cx tmp vals Q) (λ_ _=>False) s:=be (h d R w) (λ_ _ x=>x) λ_ _ u=>u.casesOn λ_ _ q=>q
theorem tM.any{K:Type}[DecidableEq K](k:K):∀{l:List (K×V)} {r:List (K×V9)},tM g F l r->l.any (λd=>d.1=k)=r.any (λd=>d.1=k):=by
 intro j
 induction j with
 |nil=>
  intro _ h
  cases h;rfl
 |cons p l c=>
  intro m
  cases m with
  |nil=>
   intros;exact Ws ‹_›
  |cons q r=>
   intro h
   rw[YT,YT,c h.2.2,h.1]
theorem tM.append{K:Type}{k:K}:∀{l:List (K×V)} {r:List (K×V9)},tM g F l r->VR g F v x->tM g F (l++[(k,v)]) (r++[(k,x)]):=by
 intro q
 induction q with
 |nil=>
  intro _ h d
  cases h;exact⟨rfl,d,rfl⟩
 |cons f m c=>
  intro j
  cases j with
  |nil=>
   intros;exact Ws ‹_›
  |cons w B=>
   intro h d
   exact⟨h.1,h.2.1,c h.2.2 d⟩
theorem tM.mapPut{K:Type}[DecidableEq K]{k:K}:∀{l:List (K×V)} {r:List (K×V9)},tM g F l r->VR g F v x->tM g F (l.map λd=>if d.1=k then(d.1,v)else d) (r.map λd=>if d.1=k then(d.1,x)else d):=by
 intro m
 induction m with
 |nil=>
  intro _ h j
  cases h;rfl
 |cons p l c=>
  intro w
  cases w with
  |nil=>
   intros;exact Ws ‹_›
  |cons q r=>
   intro h j
   show tM g F ((if p.1=k then _ else _)::_) ((if q.1=k then _ else _)::_)
   rw[←h.1]
   by_cases e:p.1=k
   ·rw[if_pos e,if_pos e];exact⟨rfl,j,c h.2.2 j⟩
   ·rw[if_neg e,if_neg e];exact⟨h.1,h.2.1,c h.2.2 j⟩
theorem tM.length{K:Type}:∀{l:List (K×V)} {r:List (K×V9)},tM g F l r->r.length=l.length:=by
 intro d
 induction d with
 |nil=>
  intro _ h
  cases h;rfl
 |cons m k j=>
  intro q
  cases q with
  |nil=>
   intros;exact Ws ‹_›
  |cons c w=>
   intro h
   exact congrArg (· + 1) (j h.2.2)
theorem tM.put{K:Type}[DecidableEq K]{k:K}{l:List (K×V)}{r:List (K×V9)}(h:tM g F l r)(d:VR g F v x):tM g F (fE l k v) (stored r k x):=by
 unfold fE stored
 rw[h.any k]
 split
 ·exact h.mapPut d
 ·exact h.append d
theorem CE{K:Type}[DecidableEq K](l:List (K×V))(k:K)(v:V):(fE l k v).length<=l.length+1:=by
 unfold fE;split
 ·rw[Wd];exact Xq _
 ·rw[V6];exact Wh _
theorem AE(R:aI g cx tmp vals st s)(ho:VR g (cx.F st s) a x)(hi:VR g (cx.F st s) b y)(hv:VR g (cx.F st s) v z)(w:Om a b v Qs st)(k:∀st' s',Qs st'->aI g cx tmp vals st' s'->Qr () s'):Wz g.M A (setItem x y z) Qr E s:=by
 obtain⟨d,rfl,w⟩:=jN w
 obtain rfl:x=.ref d:=ho
 obtain⟨o,e,w⟩:=aT w
 cases o with
 |list vs=>
  obtain⟨i,rfl,w1⟩:=bu w
  refine aM hi λt e'=>?_
  subst e'
  obtain⟨x,hob,xs,n,rfl,hl,hvs⟩:=(R.known _ _ e).obj
  have hlv:=hvs.length
  have il:s.heap.IsList d xs.toArray:=⟨_,hob,rfl,_,rfl⟩
  have bc:∀j:Nat,Qs ⟨st.loc,upd st.h d (some (.list (vs.set j v)))⟩->Qr () { s with heap:=s.heap.update d (Xj (·.setIfInBounds j z))}:=λj q=>
   k _ _ q (R.turn (tk:=s.toks) (o:=.list (vs.set j v)) e (X2 ..) (show _=some (sq "list" (xs.set j z) n) by rw[W9 _ hob rfl];simp[Xj]) ⟨_,_,rfl,by rw[aaA];exact hl,hvs.set hv j⟩)
  by_cases q:i=-1
  ·rw[if_pos q]at w1
   subst q
   have h0:vs.length≠0:=λe=>w1.1 (Zc.mp e)
   exact p5 il (j:=vs.length-1) (by rw[Wk,hlv];exact Nat.sub_lt (Nat.pos_of_ne_zero h0) dD) (.inr ⟨rfl,by rw[Wk,hlv]⟩) dD (bc _ w1.2)
  ·rw[if_neg q]at w1
   have w2:=w1.1
   exact p5 il (j:=i.toNat) (by rw[Wk,hlv];exact(Int.toNat_lt w2.1).mpr w2.2) (.inl (YJ w2.1).symm) (by simp[aak];omega) (bc _ w1.2)
 |dict kd l=>
  obtain⟨kk,ek,hl,q⟩:=aT w
  obtain⟨r,_,hk,hD,hne⟩:=R.dict e
  refine wpAny_setItem_pairs (DK.is hi ek) hD (λh' hD' hs=>?_) (by rw[WT,hk.length];omega)
  obtain⟨o',ho',hd'⟩:=aay.mp hD'
  exact k _ _ q (R.turn (tk:=s.toks+1) (o:=.dict kd (fE l kk v)) e hs ho' ⟨V4 (CE _ _ _) hl,_,hk.put hv,hd'⟩)
 |_=>exact Ws w
theorem KL(h1:bE g cx o W1)(c:bE g cx i W2):TT g cx (Y1 (.Subscript o i pos) cx.env) (fV W1 W2):=λd R w=>by
 rw[arm_assign_Subscript]
 refine aq (ay (aV (h1.quiet d R w) λm s u=>u.elim' λa st R q=>aq (ay (aV (c.quiet d R q) λk s u=>u.elim' λb st R q=>?_))))
 exact aU (aF (V7 (Xk (AE R.pop.pop.pop R.tmp.2.1 R.tmp.1 R.tmp.2.2.1 q λst' f q j=>abn ⟨j,q⟩))))
theorem rU(T:Top g K)(hix:∀c i,ix.lookup c=some i->(g.names c)[i]? = some name)(R:aI g cx tmp vals st s)(ho:VR g (cx.F st s) a x)(hu:VR g (cx.F st s) u y)(w:Oq ix a u Qs st)(k:∀st' s',Qs st'->aI g cx tmp vals st' s'->Qr () s') :
 wpAny g.M A (setAttr x name y) Qr E s:=by
 obtain⟨d,rfl,w⟩:=jN w
 obtain rfl:x=.ref d:=ho
 obtain⟨o,e1,w⟩:=aT w
 cases o with
 |inst c dd=>
  obtain⟨o,e2,w⟩:=aT w
  cases o with
  |fields c' vs=>
   obtain⟨rfl,w⟩:=w
   obtain⟨i,ei,hi,q⟩:=aT w
   obtain⟨x1,h1,r1⟩:=(R.known _ _ e1).obj
   obtain⟨x2,h2,ks,xs,n,rfl,hk,hl,hv⟩:=(R.known _ _ e2).obj
   obtain rfl:x1=Gp c dd:=r1
   obtain⟨n1,n2,n3,n4⟩:=yy hix ei T
   refine Wo λno=>?_
   obtain⟨_,o2,_,o4,o5,o6⟩:=ml n3
   refine no ?_
   have lv:=hv.length
   have lk:ks.length<=50:=by rw[←Wd (·.1),hk];exact V4 (List.length_take_le' ..) n2
   refine Eu (Frag.In.keeps T.k R.base) h1 h2 o4 o5 o6 o2 rS (V4 yx (V4 lk dD)) λhp hs hd=>k _ _ q (R.turn (tk:=s.toks+2) e2 hs hd ?_)
   unfold putAt
   by_cases q:i<vs.length
   ·rw[if_pos q,GH (hk▸n1.sublist (List.take_sublist _ _)) (show _=some name by rw[hk,adV q];exact n4) hl]
    exact⟨_,_,_,rfl,by rw[aaA];exact hk,by rw[aaA];exact hl,hv.set hu i⟩
   ·rw[if_neg q]
    obtain rfl:i=vs.length:=abV hi (Xh.mp q)
    rw[GI (λz=>by
     rw[hk]at z
     obtain⟨j,hj,ej⟩:=ZM z
     rw[List.getElem_take]at ej
     obtain⟨hn,en⟩:=Xm.mp n4
     have:=(List.getElem_inj n1).mp (ej.trans en.symm)
     rw[Xi]at hj
     exact acx _ (WA (this▸hj) (abU _ _))) hl]
    refine⟨_,_,_,rfl,?_,by rw[V6,V6,hl];rfl,hv.append ⟨hu,rfl⟩⟩
    rw[WE,hk,V6,show[u].length=1 from rfl,abb,n4];rfl
  |_=>exact Ws w
 |_=>exact Ws w
theorem KN(T:Top g K)(h:bE g cx o W)(d:∀c i,k.lookup c=some i->(g.names c)[i]? = some name):TT g cx (Y1 (.Attribute o name pos) cx.env) (bN W k):=λm R w=>by
 rw[arm_assign_Attribute]
 refine aq (ay (aV (h.quiet m R w) λf s u=>u.elim' λa st R q=>?_))
 exact aU (aF (V7 (Xk (rU T d R.pop.pop R.tmp.1 R.tmp.2.1 q λst' B q j=>abn ⟨j,q⟩))))
theorem RU(T:Top g K)(h:bE g cx o W)(L:bE g cx e W2)(k:∀c i,D.lookup c=some i->(g.names c)[i]? = some name):j1 g cx (.AugAssign (.Attribute o name d) .Add e pos) (KA W D W2):=λf R w=>by
 show wq _ _ (do
  standAt pos
  let ov ←eval o cx.env
  let new ←XH [ov] do
   standAt d.atName
   let old ←getAttr ov name true
   let v ←XH [old] (eval e cx.env)
   standAt pos
   operate [old,v] (inplaceOp .Add old v)
  standAt d.atName
  holding [new,ov] (setAttr ov name new)
  release [new,ov] []
  pure acf) (Ot g cx _) _ _
 refine aU (h.then_ f R w λv x st s R q=>aq (ay (aU (aq (aF (rT (tmp:=[v]) (vals:=[x]) T k R R.tmp.1 q λu y S q m r=>?_))))))
 refine TE.then_ (L.hold [y]) f (m.push r) q λb z st s R q=>aU (hJ (aF ?_))
 obtain⟨i,rfl,B⟩:=bu q
 obtain⟨j,rfl,Y⟩:=bu B
 refine aM R.tmp.2.1 λt J=>aM R.tmp.1 λZ U=>?_
 rw[J,U]
 exact iadd_int (aU (aF (V7 (Xk (rU T k R.pop.pop.pop.toks R.tmp.2.2.1 cD Y λst' S q m=>V7 (abn (Wg (.next m q))))))))
end
@[irreducible] def bW(g:Gl)(lvl:Nat)(f:V9)(vs:List V)(Q:V->AH->Prop)(X:AH->Prop)(h:AH):Prop:=
 ∀{cx:Cx} {A:Xd} {s:Wj} {tmp:List V} {vals xs:List V9} {loc:List (Option V)},lvl<=cx.lvl->gJ cx.stk cx.lvl A->aI g cx (vs++tmp) (xs++vals) ⟨loc,h⟩ s->vs.length=xs.length->
  wq g A (call f xs) (Up g cx tmp vals λv st=>st.loc=loc∧Q v st.h) (hH g cx λst=>st.loc=loc∧X st.h) s
def ak(g:Gl)(n:Nat)(f:V9)(q:PT):PT:=λQ X st=>q (λvs d=>iE vs λvs=>bW g n f vs (λv h=>Q v ⟨d.loc,h⟩) (λh=>X ⟨d.loc,h⟩) d.h) X st
def Keeps(g:Gl)(f:V9):Prop:=∃k,(k=Keeper.frame∨k=.machine)∧adT g.M g.B (keeperOf f) k
section
variable{g:Gl}{cx:Cx}{tmp:List V}{vals:List V9}{st:St}{s:Wj}{A:Xd}{x y z:V9}{a b v u:V}{F:FZ}{E:V9->Wj->Prop}{Q:V->St->Prop}{X:St->Prop}
theorem bO(i:Keeps g f)(d:(Zf pos (X0 j cx.env)).any (·.1)=false)
 (h:wq g A (abw (Zf pos (X0 j cx.env))) (λvs s=>g.B.StaysIn s.heap∧wq g A (call f (first++vs)) Qv E s) E s):wq g A (aeA pos f first (Zf pos (X0 j cx.env)) []) Qv E s:=by
 obtain⟨k,i,R⟩:=i
 have D:wq g A (evalArgs f true (Zf pos (X0 j cx.env)) []) (λa s=>a.kw=[]∧g.B.StaysIn s.heap∧wq g A (call f (first++a.pos) []) Qv E s) E s:=by
  generalize e:Zf pos (X0 j cx.env)=J;cases J with
  |nil=>
   rw[e]at h
   exact b0 h λvs s o=>dY ((ay (dY ((dY ((ax ⟨rfl,o⟩)))))))
  |cons p r=>
   obtain⟨b,t⟩:=p
   rw[e]at d h
   rw[YT,X4]at d
   obtain rfl:b=false:=d.1
   exact b0 h λvs s o=>dY ((ay (dY ((aq (ax (ax ⟨rfl,o⟩)))))))
 refine aq (ay (aV D λa s q=>?_))
 obtain⟨w,c,q⟩:=q
 refine aU ?_
 rw[w]
 have tail:∀{t:Sem V9},wq g A t Qv E s->wq g A (t>>=λr=>XH [r] point>>=λ_=>pure r) Qv E s:=
  λL=>b0 L λr s S=>aq (ay (aF (adP (ax S))))
 simp only[d,List.any_nil,Zs]
 refine aq (m:=keeperOf f) (aF (R _ _ _ _ c ?_))
 rcases i with rfl|rfl
 ·dsimp only
  split
  ·exact tail q
  ·refine tail ?_
   unfold callMarked
   exact Kv q
 ·exact tail q
theorem CF(j:cx.lvl=n)(d:gJ cx.stk cx.lvl A)(R:aI g cx (vs++tmp) (xs++vals) st s)(l:vs.length=xs.length)(w:bW g n f vs (λv h=>Q v ⟨st.loc,h⟩) (λh=>X ⟨st.loc,h⟩) st.h):wq g A (call f xs) (Up g cx tmp vals Q) (hH g cx X) s:=by
 unfold bW at w
 refine be (w (Xp j.symm) d R l) (λ_ _ u=>u.elim' λv st' R q=>⟨R,?_⟩) λ_ _ u=>?_
 ·rw[←q.1]at q;exact q.2
 ·cases u with|mk R f q=>exact⟨R,f,by rw[←q.1]at q;exact q.2⟩
theorem OJ{n:Nat}(k:cx.lvl=n){y:Str}{i:Pos}(m:bE g cx (.Name y i) (af (.raw f)))(p:Keeps g f)(h:An g cx pos c W)(d:(Zf pos (X0 c cx.env)).any (·.1)=false):bE g cx (.Call (.Name y i) c [] pos) (ak g n f W):=λj R w=>
 TE.then_ (Q:=λv st'=>v=.raw f∧ak g n f W _ _ st') m j R ⟨rfl,w⟩ λv x st s R q=>by
  obtain⟨rfl,q⟩:=q
  obtain rfl:x=f:=R.tmp.1
  exact bO p d (aV (h j R.pop q) λxs s u=>u.elim' λvs st R l q=>⟨R.base,CF k j R l q⟩)
end
section
abbrev VP:=V->AH->Prop
abbrev BW:=List V->AH->VP->Prop
def dn(w:BW)(q:PT):PT:=λQ X st=>q (λvs d=>iE vs λvs=>w vs d.h λv h=>Q v ⟨d.loc,h⟩) X st
def two(l:List V)(k:V->V->Prop):Prop:=Yd (motive:=λ_=>Prop) l False λa r=>only r (k a)
def three(l:List V)(k:V->V->V->Prop):Prop:=Yd (motive:=λ_=>Prop) l False λa r=>two r (k a)
def b1(k:V->AH->VP->Prop):BW:=λvs h Q=>only vs λv=>k v h Q
def b2(k:V->V->AH->VP->Prop):BW:=λvs h Q=>two vs λv u=>k v u h Q
def b3(k:V->V->V->AH->VP->Prop):BW:=λvs h Q=>three vs λv u z=>k v u z h Q
def GJ(i:Int):Prop:=0<=i∧i<256
def kK(i:Int):List Nat:=(V3 (toString i)).cps.toList
noncomputable section
def yz(vs:List V):Option (List Int):=aeX (motive:=λ_=>Option (List Int)) (some []) (λv _ r=>r.bind λl=>match v with | .int i=>some (i::l)|_=>none) vs
def OM(vs:List V)(h:AH)(Q:VP):Prop:=Q (.lst vs) h∨∀c,h c=none->Q (.ref c) (upd h c (some (.list vs)))
def c5:V->AH->VP->Prop:=λv h Q=>vc (res h v) (fb:=λb=>Q (.int b.length) h) (fs:=λb=>Q (.int b.length) h) (ft:=λb=>Q (.int b.length) h) (fl:=λb=>Q (.int b.length) h) (fr:=λa=>dR (h a) λo=>oc o (fb:=λb=>Q (.int b.length) h))
def KO:V->AH->VP->Prop:=λv h Q=>M6 v λs=>only s λc=>Q (.int c) h
def KP:V->AH->VP->Prop:=λv h Q=>kJ v λi=>(0<=i∧i<1114112)∧Q (.str [i.toNat]) h
def KQ:V->AH->VP->Prop:=λv h Q=>vc v (fi:=λi=>Q (.int i) h) (fo:=λb=>Q (.int (if b then 1 else 0)) h)
def Ew:V->AH->VP->Prop:=λv h Q=>kJ v λi=>i.natAbs.log2<1920∧Q (.str (kK i)) h
def CG:V->AH->VP->Prop:=λv h Q=>vc (res h v) (ft:=λvs=>OM vs h Q) (fl:=λvs=>OM vs h Q)
def vV:V->AH->VP->Prop:=λv h Q=>Ra v λvs=>Q (.tup vs) h
def du:V->AH->VP->Prop:=λv h Q=>vc (res h v) (fl:=λvs=>dR (yz vs) λns=>(∀n∈ns,GJ n)∧Q (.bytes (ns.map λn=>n.toNat.toUInt8)) h) (fr:=λa=>dR (h a) λo=>oc o (fb:=λb=>Q (.bytes b) h))
end
def fF(g:Gl)(f:V9)(w:BW):Prop:=∀{cx A s tmp vals st vs xs Q E},gJ cx.stk cx.lvl A->aI g cx tmp vals st s->bo g (cx.F st s) vs xs->w vs st.h (λv h=>Q v ⟨st.loc,h⟩)->wq g A (call f xs) (Up g cx tmp vals Q) E s
abbrev tP(g:Gl)(f:V9)(k:V->AH->VP->Prop):Prop:=∀{cx:Cx} {A:Xd} {s:Wj} {tmp:List V} {vals:List V9} {st:St} {v:V} {x:V9} {Q:V->St->Prop} {E:V9->Wj->Prop},gJ cx.stk cx.lvl A->aI g cx tmp vals st s->VR g (cx.F st s) v x->k v st.h (λv h=>Q v ⟨st.loc,h⟩)->Wz g.M A (call f [x]) (Up g cx tmp vals Q) E s
section
variable{g:Gl}{cx:Cx}{tmp:List V}{vals:List V9}{st:St}{s:Wj}{A:Xd}{x y z:V9}{a b v u:V}{F:FZ}{E:V9->Wj->Prop}{Q:V->St->Prop}{X:St->Prop}
theorem RV{y:Str}{i:Pos}(m:bE g cx (.Name y i) (af (.raw f)))(p:Keeps g f)(k:fF g f w)(h:An g cx pos c W)(d:(Zf pos (X0 c cx.env)).any (·.1)=false):bE g cx (.Call (.Name y i) c [] pos) (dn w W):=λj R q=>
 TE.then_ (Q:=λv st'=>v=.raw f∧dn w W _ _ st') m j R ⟨rfl,q⟩ λv x st s R q=>by
  obtain⟨rfl,q⟩:=q
  obtain rfl:x=f:=R.tmp.1
  exact bO p d (aV (h j R.pop q) λxs s u=>u.elim' λvs st R l q=>⟨R.base,k j (R.unL l).2 (R.unL l).1 q⟩)
theorem fF.one(h:tP g f k):fF g f (b1 k):=λ{cx A s tmp vals st vs xs Q E} oa R hv w=>by
 obtain⟨v,rfl,q⟩:=c9 w
 cases xs with
 |nil=>exact Ws hv
 |cons x r=>
  obtain rfl:r=[]:=aep hv
  exact aF (h oa R (Zt hv) q)
theorem aI.seq{T:String}{vs:List V}{s:Wj}(h:bQ (HG s) T (bo g F vs) x){P:Prop}(k:∀a xs n,x=.ref a->s.heap.get? a=some (sq T xs n)->xs.length<=1000000->xs.length=vs.length->bo g F vs xs->P):P:=h.casesOn λe h l r=>k _ _ _ e h l r.length r
theorem ON{d:Type}{l:List d}(h:l.length<=16777216):(l.toArray.size:Int)<2^63:=by rw[Wk];exact Z2 (XS.mpr h) dD
theorem CH(h:n<=1000000):n<=16777216:=V4 h dD
theorem OO:tP g (.builtin "ord") KO:=λd R hx w=>by
 obtain⟨i,rfl,w⟩:=hM w
 obtain⟨c,rfl,w⟩:=c9 w
 exact aW hx λt e=>by rw[e];exact P.ord_of_char (c:=c) (R.toks.up cD w)
theorem OP:tP g (.builtin "chr") KP:=λj R hx w=>by
 obtain⟨i,rfl,q,d⟩:=bu w
 exact aM hx λt e=>by rw[e];exact P.chr_of_int (by simp;lia) (R.toks.up (v:=.str [i.toNat]) (e6 (by show 1<=_;decide)) d)
theorem OQ:tP g (.type "int") KQ:=λ{cx A s tmp vals st v x Q E} oa R hx w=>by
 cases v with
 |int i=>exact aM hx λt e=>by rw[e];exact call_int_int (R.up cD w)
 |bool b=>obtain rfl:x=.bool b:=hx;exact call_int_bool (R.toks.up cD w)
 |_=>exact Ws w
theorem OS:tP g (.type "str") Ew:=λj R hx w=>by
 obtain⟨i,rfl,d,q⟩:=bu w
 exact aM hx λt e=>by rw[e];exact P.str_of_int d (R.toks.up (v:=.str (kK i)) (e6 (by unfold kK;rw[Yp];exact int_text_fits d)) q)
theorem uZ{a:Addr}{T:String}{xs:List V9}{n:Nat}(hT:T = "list" ∨ T = "tuple")(R:aI g cx tmp vals st s)(i:s.heap.get? a=some (sq T xs n))(j:bo g (cx.F st s) vs xs)(d:xs.length<=1000000)(w:OM vs st.h λv h=>Q v ⟨st.loc,h⟩) :
 wpAny g.M A (call (.type "list") [.ref a]) (Up g cx tmp vals Q) E s:=
 call_list_seq a hT i rfl rfl (λp c q hc=>w.elim (λw=>R.newL (tk:=s.toks) q (Wh _) hc j d w) λw=>⟨(R.alloc (tk:=s.toks) (o:=.list vs) q (Wh _) hc ⟨xs,_,rfl,d,j⟩).push (v:=.ref s.heap.objs.size) rfl,w _ (R.fresh (Wh _))⟩) (by rw[Wk,WT];exact V4 d dD)
theorem KR:tP g (.type "list") CG:=λ{cx A s tmp vals st v x Q E} oa R hx w=>by
 have d:=R.rsd hx
 have q:vc (res st.h v) _ _ _ _ _ _ _:=w
 generalize res st.h v=c at d q
 cases c with
 |tup b=>exact aI.seq (bQ.imp (λ_ _ h=>h.1) (λ_ h=>h) d) λa xs n e h l i j=>by rw[e];exact uZ (.inr rfl) R h j l q
 |lst b=>exact aI.seq d λa xs n e h l i j=>by rw[e];exact uZ (.inl rfl) R h j l q
 |_=>exact Ws q
theorem GK:tP g (.type "tuple") vV:=λ{cx A s tmp vals st v x Q E} oa R hx w=>by
 obtain⟨vs,rfl,w⟩:=vR w
 have d:=hx
 obtain⟨e,h,l,q⟩:=(show bQ _ _ _ _ from hx)
 rw[e]at d ⊢
 exact call_tuple_same ⟨_,h.1,rfl,_,rfl⟩ (R.up d w)
theorem yA:∀{vs:List V} {xs:List V9} {ns:List Int},bo g F vs xs->yz vs=some ns->IntsAre xs ns:=by
 intro j
 induction j with
 |nil=>
  intro _ _ h e
  cases h;cases e;exact .nil
 |cons v r k=>
  intro p
  cases p with
  |nil=>
   intros;exact Ws ‹_›
  |cons x xs=>
   intro ns h e
   obtain⟨l,c,d⟩:=YE.mp (show(yz r).bind _=some ns from e)
   cases v with
   |int i=>cases d;exact aM h.1 λt q=>by rw[q];exact .cons _ _ (k h.2 c)
   |_=>exact bS d
theorem AF(ns:List Int):byteArr ns=(ns.map λn=>n.toNat.toUInt8).toArray:=by unfold byteArr;simp
end
end
theorem yB(kindOf:Str->Option Zn):∀(binds:List (Str×V9)) (m:Str->Option V9) (x:Str),x∉binds.map (·.1)->bindL kindOf binds m x=m x:=by
 intro d
 induction d with
 |nil=>
  intro _ _ _
  exact rfl
 |cons q r j=>
  obtain⟨c,i⟩:=q
  intro m x h
  rw[WO,Wf,not_or]at h
  rw[j _ x h.2]
  split
  ·exact if_neg h.1
  ·rfl
theorem Ex(kindOf:Str->Option Zn):∀(binds:List (Str×V9)) (m:Str->Option V9) (x:Str) (v:V9),(binds.map (·.1)).Nodup->(x,v)∈binds->kindOf x=some .local->bindL kindOf binds m x=some v:=by
 intro i
 induction i with
 |nil=>
  intros;contradiction
 |cons c r p=>
  obtain⟨w,k⟩:=c
  intro m x v q d j
  rw[WO,XG]at q
  rcases Wf.mp d with e|d
  ·cases e
   rw[yB kindOf r _ _ q.1,if_pos j]
   exact if_pos rfl
  ·exact p _ x v q.2 d j
theorem yC(kindOf:Str->Option Zn):∀(binds:List (Str×V9)) (m:Str->Option V9) (x:Str),x∉binds.map (·.1)->bindC kindOf binds m x=m x:=by
 intro d
 induction d with
 |nil=>
  intro _ _ _
  exact rfl
 |cons q r j=>
  obtain⟨c,i⟩:=q
  intro m x h
  rw[WO,Wf,not_or]at h
  rw[j _ x h.2]
  split
  ·rfl
  ·exact if_neg h.1
theorem Ey(kindOf:Str->Option Zn):∀(binds:List (Str×V9)) (m:Str->Option V9) (x:Str) (v:V9),(binds.map (·.1)).Nodup->(x,v)∈binds->kindOf x≠some .local->bindC kindOf binds m x=some v:=by
 intro i
 induction i with
 |nil=>
  intros;contradiction
 |cons c r p=>
  obtain⟨w,k⟩:=c
  intro m x v q d j
  rw[WO,XG]at q
  rcases Wf.mp d with e|d
  ·cases e
   rw[yC kindOf r _ _ q.1,if_neg j]
   exact if_pos rfl
  ·exact p _ x v q.2 d j
theorem cellsFrom_some:∀(names:List (Str×Zn)) (n:Nat) (d:List (Str×Addr)) (x:Str),((x,NameKind.cell)∈names∨(d.lookup x).isSome=true)->((acP n names d).lookup x).isSome=true:=by
 intro p
 induction p with
 |nil=>
  intro _ _ _ h
  rcases h with h|h;cases h;exact h
 |cons m r c=>
  obtain⟨i,k⟩:=m
  intro n d x h
  unfold acP
  by_cases j:(k==.cell)=true
  ·rw[if_pos j]
   refine c _ _ x ?_
   by_cases e:x=i
   ·subst e;right;simp
   ·rcases h with h|h
    ·rcases Wf.mp h with q|q
     ·cases q;exact absurd rfl e
     ·exact .inl q
    ·right
     rw[ac2]
     have:(x==i)=false:=by simpa using e
     rw[this];exact h
  ·rw[if_neg j]
   refine c _ _ x ?_
   rcases h with h|h
   ·rcases Wf.mp h with q|q
    ·cases q;exact absurd rfl j
    ·exact .inl q
   ·exact .inr h
theorem Ez{c j:Type}:∀{l:List c} {m:List j},l.Nodup->((l.zip m).map (·.1)).Nodup:=by
 intro d
 induction d with
 |nil=>
  intro _ _
  simp
 |cons x l k=>
  intro i
  cases i with
  |nil=>
   intro _
   simp
  |cons y m=>
   intro h
   rw[XG]at h
   rw[List.zip_cons_cons,WO,XG]
   exact⟨λq=>by
    obtain⟨p,hp,rfl⟩:=WC.mp q
    exact h.1 (abR hp).1,k h.2⟩
theorem KS{α β:Type}:∀{l:List α} {m:List β} {i:Nat} {x:α} {y:β},l[i]? = some x->m[i]? = some y->(x,y)∈l.zip m:=by
 intro w1
 induction w1 with
 |nil=>
  intro _ _ _ _ h1 _
  simp at h1
 |cons w2 l ih=>
  intro w3
  cases w3 with
  |nil=>
   intro _ _ _ _ h2
   simp at h2
  |cons w4 m=>
   intro w5
   cases w5 with
   |zero=>
    intro _ _ h1 h2
    simp at h1 h2;subst h1 h2;exact .head _
   |succ i=>
    intro _ _ h1 h2
    exact .tail _ (ih (i:=i) (by simpa using h1) (by simpa using h2))
theorem jk:∀(names:List (Str×Zn)) (n:Nat) (d:List (Str×Addr)),(d.map (·.1)).Nodup->(∀p∈d,p.1∉names.map (·.1))->(names.map (·.1)).Nodup->((acP n names d).map (·.1)).Nodup:=by
 intro k
 induction k with
 |nil=>
  intro _ _ h _ _
  exact h
 |cons w r c=>
  obtain⟨m,f⟩:=w
  intro n d h hd i
  rw[WO,XG]at i
  unfold acP
  have j:∀p∈d,p.1≠m∧p.1∉r.map (·.1):=λp hp=>by
   have:=hd p hp
   rw[WO,Wf,not_or]at this
   exact this
  split
  ·refine c _ _ ?_ (λp hp=>?_) i.2
   ·rw[WO,XG]
    exact⟨λq=>by obtain⟨p,hp,e⟩:=WC.mp q;exact(j p hp).1 e,h⟩
   ·rcases Wf.mp hp with rfl|hp
    ·exact i.1
    ·exact(j p hp).2
  ·exact c _ _ h (λp hp=>(j p hp).2) i.2
theorem dA{q i:Type}[BEq q][LawfulBEq q]:∀{l:List (q×i)} {x:q} {c:i},(l.map (·.1)).Nodup->(x,c)∈l->l.lookup x=some c:=by
 intro p
 induction p with
 |nil=>
  intros;contradiction
 |cons w l f=>
  obtain⟨m,o⟩:=w
  intro x c j k
  rw[WO,XG]at j
  rw[ac2]
  rcases Wf.mp k with e|d
  ·cases e;simp
  ·have:(x==m)=false:=by
    rw[beq_eq_false_iff_ne]
    rintro rfl
    exact j.1 (WC.mpr ⟨_,d,rfl⟩)
   rw[this];exact f j.2 d
structure EA(g:Gl)(f:Addr)(fd:aaP)(body:List Stmt)(params names:List Str)(dvals:List V9):Prop where
 at_:∃o,g.B.get? f=some o∧o.data=.func fd
 code:g.B.CodeRec fd.code fd.qualname
 body:fd.body=.stmts body
 clo:fd.closure=[]
 glob:fd.globals=Xv
 bi:fd.builtins=aaE
 kind:fd.scope.kind=.function
 co:fd.scope.isCoroutine=false
 gen:fd.scope.isGenerator=false
 bind:∀(s:Wj) (vals:List V9),g.B.StaysIn s.heap->vals.length+dvals.length=params.length->BindsTo s fd ⟨vals,[]⟩ (params.zip (vals++dvals))
 pre:∃r,names=params++r
 nodup:names.Nodup
 uniq:(fd.scope.names.map (·.1)).Nodup
 kinds:∀x∈params,fd.scope.names.lookup x=some .local∨fd.scope.names.lookup x=some .cell
structure c6(cx:Cx)(S:Za)(names:List Str)(n:Nat)(fn:Bool):Prop where
 kinds:cx.env.scope.names=S.names
 scope:fn=true->cx.env.scope=S
 names:cx.names=names
 lvl:cx.lvl=n
 uniq:(S.names.map (·.1)).Nodup
 cell:fn=true->∀x,S.names.lookup x=some .cell->∃c,cx.env.cells.lookup x=some c
 top:fn=true->∃outer,cx.stk=cx.env::outer
 wr:fn=true->cx.ro=false
noncomputable def OT(hp:Heap)(l:List (Str×Addr)):List (Addr×Obj):=l.map λp=>(p.2,(hp.get? p.2).getD default)
def Sub(h d:AH):Prop:=∀a o,h a=some o->d a=some o
section
variable{g:Gl}{cx:Cx}{tmp:List V}{vals:List V9}{st:St}{s:Wj}{A:Xd}{x y z:V9}{a b v u:V}{F:FZ}{E:V9->Wj->Prop}{Q:V->St->Prop}{X:St->Prop}{hp:Heap}{tk:Nat}
noncomputable def Cx.into(cx:Cx)(env:Env)(m:Str->Option V9)(hp:Heap)(names:List Str)(n:Nat)(F:FZ):Cx:=
 {env,rv:=env.locals::env.cells.map (·.2)++cx.rv,keep:=OT hp cx.env.cells++cx.keep,outer:=(cx.env.locals,m)::cx.outer,frs:=env.locals::cx.frs,w:=F,stk:=env::cx.stk,names,lvl:=n,ro:=false}
theorem aI.objs(R:aI g cx tmp vals st s)(h:q∈OT s.heap cx.env.cells):(∃p∈cx.env.cells,q.1=p.2)∧s.heap.get? q.1=some q.2:=by
 obtain⟨p,hp,rfl⟩:=WC.mp h
 refine Wo λno=>?_
 obtain⟨v,o,e,_⟩:=R.cl p hp
 refine no ?_
 exact⟨⟨p,hp,rfl⟩,by show s.heap.get? p.2=some ((s.heap.get? p.2).getD default);rw[e];rfl⟩
theorem KU(R:aI g cx tmp vals st s){env:Env}{m:Str->Option V9}{names:List Str}{n:Nat}(D:s.heap.objs.size<=env.locals)(hc:∀p∈env.cells,env.locals<p.2)(c:env.cells.Pairwise λx y=>x.2≠y.2)(o:env.scope.kind=.function)(hg:env.globals=Xv)(hb:env.builtins=aaE)
 (d:env.frame=some env.locals) (B:names.Nodup) {hp:Heap}:Ro (cx.into env m s.heap names n F):=
 have old:∀{a},a∈cx.rv->a<env.locals:=λh=>let⟨_,e⟩:=(R.rsv _ h).2;WA (WU e) D
 have j:∀q∈Internal.OT s.heap cx.env.cells++cx.keep,q.1∈cx.rv:=λq h=>(WD.mp h).elim (λh=>let⟨p,h1,e⟩:=(R.objs h).1;e▸(R.ok.cells p h1).1) λh=>(R.ok.keep q h).1
 have f:∀q∈(cx.env.locals,m)::cx.outer,q.1∈cx.rv:=λq h=>(Wf.mp h).elim (λe=>e▸R.ok.own) λh=>(R.ok.outer q h).1
 have fr:∀a∈cx.frs,a∈cx.rv:=R.ok.frs
 {kind:=o,globals:=hg,builtins:=hb,apart:=c,names:=B,head:=⟨_,_,rfl,rfl⟩
  stk:=λe h=>(Wf.mp h).elim (λq=>by rw[q];exact⟨o,_,d,.head _⟩) λh=>let⟨k,L,e,i⟩:=R.ok.stk e h;⟨k,L,e,.tail _ i⟩
  own:=.head _
  frs:=λa h=>(Wf.mp h).elim (λq=>q▸.head _) λh=>WK _ (fr a h)
  cells:=λp h=>⟨Yg _ (.tail _ (WC.mpr ⟨p,h,rfl⟩)),YD (hc p h),λd=>(Wf.mp d).elim (λe=>YD (hc p h) e) λd=>aeK (old (fr _ d)) (hc p h)⟩
  keep:=λq h=>⟨WK _ (j q h),WW (old (j q h)),λd=>(Wf.mp d).elim (λe=>WW (old (j q h)) e) λd=>(WD.mp h).elim (λh=>let⟨p,h1,e⟩:=(R.objs h).1;(R.ok.cells p h1).2.2 (e▸d)) λh=>(R.ok.keep q h).2.2 d⟩
  outer:=λq h=>⟨WK _ (f q h),WW (old (f q h))⟩
  free:=λp h _ _=>⟨λq w e=>aeK (old (j q w)) (e▸hc p h),λq w e=>aeK (old (f q w)) (e▸hc p h)⟩}
theorem CI{dvals:List V9}{vs:List V}{xs:List V9}{f:Addr}{fd:aaP}{body:List Stmt}{params names:List Str}(fo:EA g f fd body params names dvals){F:FZ}(o:bo g F vs xs)(D:vs.length=params.length){k a:Nat}{s S:Wj}{env:Env}(G:env=aeB fd a f)
 (x:InCallC s env.locals (bindL env.kindOf (params.zip xs) λ_=>none) env.cells (bindC env.kindOf (params.zip xs) λ_=>none) S) {i:Nat} {y:Str} {v:V} (L:names[i]? = some y) (d:(vs.map some++WZ k none)[i]? = some (some v)) :
 ∃j,VR g F v j∧Ku env (bindL env.kindOf (params.zip xs) λ_=>none) S.heap y j:=by
 have J:∀y,env.kindOf y=fd.scope.names.lookup y:=by subst G;exact λ_=>rfl
 have I:∀y,fd.scope.names.lookup y=some .cell->∃c,env.cells.lookup y=some c:=by
  subst G
  exact λy L=>X8.mp (cellsFrom_some _ _ _ _ (.inl (aX L)))
 obtain⟨r,p⟩:=fo.pre
 have R:i<(vs.map some).length:=Nat.lt_of_not_le λq=>by
  rw[ZF q,ad7]at d
  split at d <;> cases d
 rw[aa7 R,YF]at d
 obtain⟨n,Y,U⟩:=Yl.mp d
 cases U
 obtain⟨j,w,H⟩:=o.get Y
 rw[Wd,D]at R
 have B:params[i]? = some y:=by rwa [p,aa7 R]at L
 have Z:=KS B w
 have e:=Ez (m:=xs) (show params.Nodup from(List.nodup_append.mp (p▸fo.nodup)).1)
 refine⟨j,H,?_⟩
 rcases fo.kinds y (Xx B)with k|k
 ·exact .loc ((J y).trans k) (Ex _ _ _ _ _ e Z ((J y).trans k))
 ·obtain⟨c,hc⟩:=I y k
  have:=x.cell y c hc
  rw[Ey _ _ _ _ _ e Z (by rw[J,k];decide)]at this
  exact .cell (.inl ((J y).trans k)) hc this
theorem GL(fo:EA g f fd body params names dvals)(hd:∀F,bo g F dvs dvals)(hlen:vs.length+dvs.length=params.length)
 (R:aI g cx tmp vals ⟨loc,h⟩ s) (hv:bo g (cx.F ⟨loc,h⟩ s) vs xs) (hmc:s.heap.Ns cx.env.locals mc) (he:env=aeB fd s.heap.objs.size f)
 (x:InCallC s env.locals (bindL env.kindOf (params.zip (xs++dvals)) λ_=>none) env.cells (bindC env.kindOf (params.zip (xs++dvals)) λ_=>none) { s with heap:=hp,toks:=tk}) :
 aI g (cx.into env mc s.heap names n (cx.F ⟨loc,h⟩ s)) [] [] ⟨(vs++dvs).map some++WZ (names.length-params.length) none,h⟩ { s with heap:=hp,toks:=tk}:=
 have hL:s.heap.objs.size=env.locals:=by rw[he];rfl
 have hk:∀b o,s.heap.get? b=some o->hp.get? b=some o:=x.toInCall.keep
 have hns:hp.Ns env.locals _:=x.toInCall.ns
 have new:∀{a},a∈env.locals::env.cells.map (·.2)->s.heap.objs.size<=a:=λh=>(Wf.mp h).elim (λe=>Xp (hL.trans e.symm)) λh=>let⟨p,hp,e⟩:=WC.mp h;hL▸Xo (e▸x.above p.1 p.2 hp)
 have nn:∀{a o},s.heap.get? a=some o->a∉cx.rv->a∉env.locals::env.cells.map (·.2)++cx.rv:=λe h q=>(WD.mp q).elim (λq=>absurd (WU e) (Xh.mpr (new q))) h
 have hF:∀a o,cx.F ⟨loc,h⟩ s a o->Fz hp h (env.locals::env.cells.map (·.2)++cx.rv) a o:=λa o z=>⟨hk _ _ z.1,z.2.1,nn z.1 z.2.2.1,z.2.2.2⟩
 have lookC:∀p∈env.cells,env.cells.lookup p.1=some p.2:=by
  subst he
  exact λp hp=>dA (jk fd.scope.names _ [] .nil (λ_ h=>nomatch h) fo.uniq) hp
 have R':=R.keeps (tk:=tk) hk
 have locOb:∃o,hp.get? env.locals=some o∧NF o:=hns.elim λo h=>h.elim λ_ h=>h.elim λ_ h=>⟨o,h.1,c7 h.2.1 rfl⟩
 {ok:=KU R (Xp hL) (λp h=>x.above p.1 p.2 h) x.apart (he▸fo.kind) (he▸fo.glob) (he▸fo.bi) (by rw[he];rfl) fo.nodup (hp:=hp)
  base:=R'.base,gens:=R'.gens,os:=R'.os
  known:=λa o e=>let k:=R.known a o e;let⟨z,h1,h2⟩:=k.obj;⟨k.low,nn h1 k.nrv,z,hk _ _ h1,h2.mono hF⟩
  rsv:=λa h=>(WD.mp h).elim (λh=>⟨V4 R.size (new h),(Wf.mp h).elim (λe=>e▸locOb.imp λ_ z=>z.1) λh=>let⟨p,hp,e⟩:=WC.mp h;(x.cell p.1 p.2 (lookC p hp)).imp λ_ z=>e▸z.1⟩) (R'.rsv a)
  frs:=λa h=>(Wf.mp h).elim (λe=>e▸locOb) (R'.frs a)
  keep:=λq h=>(WD.mp h).elim (λh=>hk _ _ (R.objs h).2) (R'.keep q)
  outer:=λq h=>(Wf.mp h).elim (λe=>e▸hmc.keeps hk) (R'.outer q)
  cl:=λp h=>⟨_,x.cell p.1 p.2 (lookC p h)⟩
  loc:=⟨_,hns,λi y v hy hv'=>(CI fo (hv.append (hd _)) (by rw[V6];exact hlen) he x hy hv').imp λval z=>⟨VR.mono hF _ _ z.1,z.2⟩⟩
  wait:=hF
  tmp:=rfl}
theorem u0(R:aI g cx tmp vals ⟨loc,h⟩ s)(f:s.heap.Ns cx.env.locals mc∧∀(i:Nat) x v,cx.names[i]? = some x->loc[i]? = some (some v)->∃j,VR g (cx.F ⟨loc,h⟩ s) v j∧Ku cx.env mc s.heap x j)
 (d:aI g (cx.into env mc s.heap names n (cx.F ⟨loc,h⟩ s)) us ys st' m) (hs:Sub h1 st'.h):aI g cx (us++tmp) (ys++vals) ⟨loc,h1⟩ m:=
 have d:=d.forget hs
 have out:∀{a},a∉(cx.into env mc s.heap names n (cx.F ⟨loc,h⟩ s)).rv->a∉cx.rv:=λh q=>h (WK _ q)
 have w:∀a o,(cx.into env mc s.heap names n (cx.F ⟨loc,h⟩ s)).F ⟨st'.loc,h1⟩ m a o->cx.F ⟨loc,h1⟩ m a o:=λa o z=>⟨z.1,z.2.1,out z.2.2.1,z.2.2.2⟩
 have B:∀a o,cx.F ⟨loc,h⟩ s a o->cx.F ⟨loc,h1⟩ m a o:=λa o z=>w a o (d.wait a o z)
 have cells:∀p∈cx.env.cells,∀v,s.heap.IsCell p.2 v->m.heap.IsCell p.2 v:=λp h v z=>by
  have:=d.keep _ (Yg _ (WC.mpr ⟨p,h,rfl⟩))
  obtain⟨o,D,J⟩:=z
  exact⟨o,by rw[this];show some ((s.heap.get? p.2).getD default)=_;rw[D];rfl,J⟩
 {ok:=R.ok,base:=d.base,gens:=d.gens,os:=d.os
  known:=λa o e=>let k:=d.known a o e;⟨k.low,out k.nrv,k.obj.imp λ_ z=>⟨z.1,z.2.mono w⟩⟩
  rsv:=λa h=>d.rsv a (WK _ h)
  frs:=λa h=>d.frs a (.tail _ h)
  keep:=λq h=>d.keep q (WK _ h)
  outer:=λq h=>d.outer q (.tail _ h)
  cl:=λp h=>(R.cl p h).imp λv z=>cells p h v z
  loc:=⟨mc,d.outer (cx.env.locals,mc) (.head _),λi y v a b=>(f.2 i y v a b).imp λj z=>⟨VR.mono B _ _ z.1,z.2.keep rfl λc v e q=>cells (y,c) (aX e) v q⟩⟩
  wait:=λa o z=>B a o (R.wait a o z)
  tmp:=(d.tmp.mono w).append (R.tmp.mono B)}
end
section
variable{g:Gl}{cx:Cx}{tmp:List V}{vals:List V9}{st:St}{s:Wj}{A:Xd}{x y z:V9}{a b v u:V}{F:FZ}{E:V9->Wj->Prop}{Q:V->St->Prop}{X:St->Prop}{hp:Heap}{tk:Nat}
def Uk(g:Gl)(cx:Cx)(hp:Heap)(b:Addr):Prop:=b∈cx.frs∨(g.B.get? b=none∧b∉cx.rv∧∃o vs,hp.get? b=some o∧o.data=.fields vs)
theorem aI.slots(R:aI g cx tmp vals st s){hid:List Addr}(hu:∀b o,s.heap.get? b=some o->NF o->∃sl,hp.get? b=some { o with slots:=sl})(hk:∀b o,s.heap.get? b=some o->b∉hid->hp.get? b=some o)(hh:∀b∈hid,Uk g cx s.heap b) :
 aI g cx tmp vals st { s with heap:=hp,toks:=tk}:=
 have kn:∀{a m},s.heap.Ns a m->hp.Ns a m:=λh=>h.elim λo h=>h.elim λes h=>h.elim λep h=>(hu _ o h.1 (c7 h.2.1 rfl)).elim λsl e=>⟨_,es,ep,e,h.2⟩
 have kc:∀{c v},s.heap.IsCell c v->hp.IsCell c v:=λh=>h.elim λo h=>(hu _ o h.1 (c7 h.2 rfl)).elim λsl e=>⟨_,e,h.2⟩
 have nh:∀{b o},s.heap.get? b=some o->NF o->b∉cx.rv->hp.get? b=some o:=λe n r=>hk _ _ e λh=>(hh _ h).elim (λq=>r (R.ok.frs _ q)) λ⟨_,_,o',vs,e',d⟩=>by rw[e]at e';cases e';exact n vs d
 have hF:∀b o,cx.F st s b o->Fz hp st.h cx.rv b o:=λb o z=>⟨nh z.1 z.2.2.2 z.2.2.1,z.2⟩
 {R with
  base:=λb o e=>hk b o (R.base b o e) λh=>(hh _ h).elim (λq=>by rw[dI (R.rsv b (R.ok.frs _ q)).1]at e;cases e) λq=>by rw[q.1]at e;cases e
  known:=λa o e=>let k:=R.known a o e;⟨k.low,k.nrv,k.obj.imp λ_ z=>⟨nh z.1 z.2.nf k.nrv,z.2.mono hF⟩⟩
  rsv:=λa h=>⟨(R.rsv a h).1,(R.rsv a h).2.elim λo e=>(Yj (a∈hid)).elim (λq=>(hh a q).elim (λq=>(R.frs a q).elim λo h=>(hu a o h.1 h.2).imp' _ λ_ e=>e) λq=>absurd h q.2.1) λq=>⟨o,hk _ _ e q⟩⟩
  frs:=λa h=>(R.frs a h).elim λo h=>(hu a o h.1 h.2).elim λsl e=>⟨_,e,h.2⟩
  keep:=λq h=>hk _ _ (R.keep q h) λz=>(hh _ z).elim (λz=>(R.ok.keep q h).2.2 z) λz=>z.2.1 (R.ok.keep q h).1
  outer:=λq h=>kn (R.outer q h)
  cl:=λp h=>(R.cl p h).imp λ_=>kc
  loc:=R.loc.imp λm z=>⟨kn z.1,λi y v a b=>(z.2 i y v a b).imp λval z=>⟨VR.mono hF _ _ z.1,z.2.keep rfl λ_ _ _=>kc⟩⟩
  wait:=λa o z=>hF a o (R.wait a o z)
  tmp:=R.tmp.mono hF}
theorem vW(c:∀a∈frs,∃o,hp.get? a=some o∧∀vs,o.data≠.fields vs):∀{l:List Env},(∀env∈l,Rn frs env)->(∀env∈l,∀L,env.frame=some L->B.get? L=none)->hp.FunFrames B l:=by
 intro i
 induction i with
 |nil=>
  intro _ _
  exact trivial
 |cons env r m=>
  intro q hb
  obtain⟨k,L,e,j⟩:=q env (.head _)
  obtain⟨o,p,hd⟩:=c L j
  exact⟨by rw[k];decide,⟨L,o,e,hb env (.head _) L e,p,hd⟩,m (λe d=>q e (.tail _ d)) (λe d=>hb e (.tail _ d))⟩
set_option tactic.hygienic true in
theorem OU{P:Prop}(R:aI g cx tmp vals st s)(X:rP g cx.env.frame cx.rv s.heap x)(k:∀e j vs c hid,x=.ref e->s.heap.get? e=some j->j.cls=.ref cp->j.data=.fields vs->vs[0]? = some c->g.B.get? e=none->e∉cx.rv->(∀b∈hid,Uk g cx s.heap b)->e∈hid->s.heap.FunFrames (adu s.heap hid) cx.stk->
 (vs[1]? = some .none∨∃fl,s.heap.TracedAtW (adu s.heap hid) e (.ref cp) c fl∧(fl=.none∨∃a,cx.env.frame=some a∧fl=Y5 a))->P):P:=by
 obtain⟨rfl,m,hc,hd,h0,h1,hb,w,t⟩:=X
 rename_i e j vs c f
 have fr:∀b,b∈cx.stk.filterMap (·.frame)->b∈cx.frs:=λb hb=>by
  obtain⟨d,D,o⟩:=aaV.mp hb
  obtain⟨_,L,Y,n⟩:=R.ok.stk d D
  rw[o]at Y;cases Y;exact n
 have ff:∀hid:List Addr,(∀b,b∈cx.stk.filterMap (·.frame)->b∈hid)->s.heap.FunFrames (adu s.heap hid) cx.stk:=λhid hs=>
  vW R.frs R.ok.stk λd D L H=>aba _ (hs L (aaV.mpr ⟨d,D,H⟩))
 rcases t with h|@⟨T,U,Z,l,h,S,J,ne,i,p,G,I⟩
 ·subst h
  exact k e j vs c (e::cx.stk.filterMap (·.frame)) rfl m hc hd h0 hb w (λb h=>(Wf.mp h).elim (λq=>q▸.inr ⟨hb,w,j,vs,m,hd⟩) λh=>.inl (fr b h)) (.head _) (ff _ λb h=>.tail _ h) (.inl h1)
 ·subst h
  exact k e j vs c (e::T::cx.stk.filterMap (·.frame)) rfl m hc hd h0 hb w (λb h=>(Wf.mp h).elim (λq=>q▸.inr ⟨hb,w,j,vs,m,hd⟩) λh=>(Wf.mp h).elim (λq=>q▸.inr ⟨S,J,U,Z,i,p⟩) λh=>.inl (fr b h)) (.head _)
   (ff _ λb h=>.tail _ (.tail _ h)) (.inr ⟨l,⟨j,vs,T,U,Z,m,⟨hc,h0⟩,hd,h1,aba _ (.tail _ (.head _)),ne,i,p,G⟩,I⟩)
theorem rl(R:aI g cx tmp vals st s){e:Addr}{a0 fl:V9}{hid:List Addr}{L:Option Addr}(hh:∀b∈hid,Uk g cx s.heap b)(x1:(adu s.heap hid).StaysIn hp)(x2:hp.TracedAtW (adu s.heap hid) e (.ref cp) a0 fl)(x4:∀b o,s.heap.get? b=some o->NF o->∃sl,hp.get? b=some { o with slots:=sl})
 (hbe:g.B.get? e=none) (hne:e∉cx.rv) (hl:fl=.none∨∃a,L=some a∧fl=Y5 a):aI g cx tmp vals st { s with heap:=hp}∧mi g L cx.rv hp (.ref e):=by
 have R':aI g cx tmp vals st { s with heap:=hp}:=R.slots (tk:=s.toks) x4 (λb o ho hn=>x1 b o (hideAll_get _ ho hn)) hh
 refine Wo λno=>?_
 obtain⟨oe,vs,T,oT,ts,y1,⟨y2,y3⟩,y4,y5,y6,y7,y8,y9,y10⟩:=x2
 refine no ?_
 have nT:∀{o},s.heap.get? T=some o->T∈hid:=λh=>Wo λq=>by rw[hideAll_get _ h q]at y6;cases y6
 refine⟨R',.mk rfl y1 y2 y4 y3 y5 hbe hne (.mk rfl ?_ (λq=>?_) y7 y8 y9 y10 hl)⟩
 ·generalize q:g.B.get? T=zz;cases zz with
  |none=>rfl
  |some o=>exact(hh T (nT (R.base _ _ q))).elim (λw=>(dI (R.rsv T (R.ok.frs _ w)).1).symm.trans q |>.symm▸rfl) λw=>w.1.symm.trans q |>.symm▸rfl
 ·exact(R.rsv T q).2.elim λo h=>(hh T (nT h)).elim (λw=>(R'.frs T w).elim λo h=>by
   have:hp.get? T=some o:=h.1
   rw[y8]at this;cases this;exact h.2 ts y9) λw=>w.2.1 q
theorem mi.flight(h:mi g L rv hp x):rP g L rv hp x:=h.imp (λ_ h=>h) λ_ _=>.inr
theorem yD{L:Addr}{outer:List Env}{Qr:Unit->Wj->Prop}(R:aI g cx tmp vals st s)(hf:A.frames=some cx.stk)(hs:cx.stk=cx.env::outer)(he:cx.env.frame=some L)(X:rP g cx.env.frame cx.rv s.heap x)(k:∀s',aI g cx tmp vals st s'->mi g none cx.rv s'.heap x->Qr () s') :
 wpAny g.M A (leaving cx.env x) Qr E s:=OU R X λe oe vs a0 hid hx hoe hcls hd h0 hbe hne hh hm hF w=>by
 subst hx
 rw[hs]at hF hf
 have bc:∀h',Heap.LeftW (adu s.heap hid) (cx.env::outer) e (.ref cp) a0 s.heap h'->Qr () { s with heap:=h'}:=λh' z=>have q:=rl R hh z.1 z.2.2.1 z.2.2.2 hbe hne (L:=none) (.inl rfl);k _ q.1 q.2
 rcases w with h1|⟨fl,tr,hl⟩
 ·exact wpAny_leaving_firstW hf hF he hoe (λb o q=>acd _ q) (aba _ hm) hd h1 h0 (hcls▸bc)
 ·rcases hl with rfl|⟨l,hl,rfl⟩
  ·exact wpAny_leaving_nextW hf hF he tr (λb o q=>acd _ q) (aba _ hm) bc
  ·rw[he]at hl;cases hl
   exact V7 (wpAny_noteFrame_againW he tr (wpAny_setFlight_noneW (λb o q=>acd _ q) hF tr λh' x1 x2 x3 x4=>have q:=rl R hh x1 x3 (λb o a c=>⟨o.slots,x4 b o a c⟩) hbe hne (L:=none) (.inl rfl);k _ q.1 q.2))
theorem rV{L:Addr}{outer:List Env}{Qr:Unit->Wj->Prop}(R:aI g cx tmp vals st s)(hf:A.frames=some cx.stk)(hs:cx.stk=cx.env::outer)(he:cx.env.frame=some L)(X:rP g cx.env.frame cx.rv s.heap x)(k:∀s',aI g cx tmp vals st s'->mi g cx.env.frame cx.rv s'.heap x->Qr () s') :
 wpAny g.M A (abX x cx.env) Qr E s:=OU R X λe oe vs a0 hid hx hoe hcls hd h0 hbe hne hh hm hF w=>by
 subst hx
 rw[hs]at hF hf
 have bc:∀h',Heap.NotedW (adu s.heap hid) (cx.env::outer) e (.ref cp) a0 (Y5 L) s.heap h'->Qr () { s with heap:=h'}:=λh' z=>have q:=rl R hh z.1 z.2.2.1 z.2.2.2 hbe hne (L:=cx.env.frame) (.inr ⟨L,he,rfl⟩);k _ q.1 q.2
 rcases w with h1|⟨fl,tr,hl⟩
 ·unfold abX
  simp only[he]
  refine V7 (acD hoe hd h1 ?_)
  rw[if_neg dD]
  exact wpAny_entryW hf hF he hoe (λb o q=>acd _ q) (aba _ hm) hd (aaR.mp h1).1 h0 (hcls▸bc)
 ·rcases hl with rfl|⟨l,hl,rfl⟩
  ·exact wpAny_noteFrame_onW hf hF he tr (λb o q=>acd _ q) (aba _ hm) bc
  ·rw[he]at hl;cases hl
   exact wpAny_noteFrame_againW he tr (have q:=rl (hp:=s.heap) R hh (λb o q=>acd _ q) tr (λb o h _=>⟨o.slots,h⟩) hbe hne (L:=cx.env.frame) (.inr ⟨L,he,rfl⟩);k _ q.1 q.2)
set_option tactic.hygienic true in
theorem AG{L:Addr}{Er:V9->Wj->Prop}(R:aI g cx tmp vals st s)(he:cx.env.frame=some L)(X:mi g cx.env.frame cx.rv s.heap x)(k:∀s',aI g cx tmp vals st s'->mi g cx.env.frame cx.rv s'.heap x->Er x s'):cameBackBy g.M A cx.env Er x s:=by
 obtain⟨rfl,hoe,hcls,hd,h0,h1,hbe,hne,@⟨T,oT,ts,l,rfl,hbT,hnT,hTe,hoT,hdT,h3,hl⟩⟩:=X
 rename_i e oe vs a0
 refine V7 (acD hoe hd h1 ?_)
 rw[if_neg (by simp)]
 refine V7 (acD hoe hd h1 ?_)
 rw[if_pos (by simp)]
 have hsz:=(aaR.mp h3).1
 refine wpAny_setField hoT hdT hsz ?_
 have other:∀b,b≠T->(s.heap.update T (Obj.mapFields (·.setIfInBounds 3 (cx.env.frame.elim aaO λf=>Y5 f)))).get? b=s.heap.get? b:=λb hb=>aee _ _ (XW hb)
 refine k _ (R.slots (tk:=s.toks) (hid:=[T]) (λb o ho hn=>⟨o.slots,(other b λq=>?_).trans ho⟩) (λb o ho hn=>(other b λq=>hn (by rw[q];exact .head _)).trans ho) λb hb=>?_)
  (.mk rfl ((other e (XW hTe)).trans hoe) hcls hd h0 h1 hbe hne (.mk rfl hbT hnT hTe (W9 _ hoT (ab0 (aa2 hdT _))) (aa2 hdT _) (l:=Y5 L) ?_ (.inr ⟨L,he,rfl⟩)))
 ·rw[q,hoT]at ho;cases ho;exact hn ts hdT
 ·rw[Wr.mp hb]
  exact .inr ⟨hbT,hnT,oT,ts,hoT,hdT⟩
 ·rw[he];simp[hsz]
end
inductive Fin(Q:V->AH->Prop):V->AH->Prop
 |mk {v:V} {h h1:AH} (s:Sub h1 h) (q:Q v h1):Fin Q v h
 |fr {v:V} {h:AH} (a:Addr) (vs:List V) (e:h a=some (.list vs)) (t:Fin Q (b9 a vs v) (upd h a none)):Fin Q v h
def yE(X:AH->Prop)(h:AH):Prop:=∃h1,Sub h1 h∧X h1
noncomputable def EB(v:V):V:=V.casesOn (motive_1:=λ_=>V) v .none (λ_=>.none) (λ_=>.none) (λ_=>.none) (λ_=>.none) (λ_=>.none) (λ_=>.none) (λvs=>vs.headD .none) (λ_=>.none) (λ_ _=>.none)
@[irreducible] def iH(g:Gl)(lvl:Nat)(f:V9)(vs:List V)(Q:V->AH->Prop)(X:AH->Prop)(h:AH):Prop:=
 ∀{cx:Cx} {A:Xd} {s:Wj} {tmp:List V} {vals xs:List V9} {loc:List (Option V)},lvl<=cx.lvl->gJ cx.stk cx.lvl A->aI g cx (vs++tmp) (xs++vals) ⟨loc,h⟩ s->vs.length=xs.length->
  cq g A (.call f ⟨xs,[]⟩) (Q9 (T2 (Up g cx tmp vals λv st=>st.loc=loc∧Q v st.h)) (hH g cx λst=>st.loc=loc∧X st.h)) s
section
variable{g:Gl}{cx:Cx}{tmp:List V}{vals xs:List V9}{st:St}{s:Wj}{A:Xd}{x y z:V9}{a b v u:V}{vs:List V}{F F':FZ}{E:V9->Wj->Prop}{Q:V->AH->Prop}{X:AH->Prop}{hp:Heap}{tk n:Nat}{h:AH}{f:V9}
theorem iH.call(c:iH g n f vs Q X h):bW g n f vs Q X h:=by
 unfold bW
 unfold iH at c
 exact λl d R q=>jM (c l d R q)
theorem bo.subst'(vs:List V)(k:∀v∈vs,∀x,VR g F v x->VR g F' (b9 c us v) x):∀xs,bo g F vs xs->bo g F' (vO c us vs) xs:=by
 induction vs with
 |nil=>exact λxs h=>h
 |cons v vs q=>
  intro xs h
  cases xs with
  |nil=>exact h
  |cons x xs=>exact⟨k v (.head _) x h.1,q (λu d=>k u (.tail _ d)) xs h.2⟩
theorem VR.subst(j:∀a o,F a o->F' a o)(hc:VR g F' (.lst us) (.ref c))(v:V):∀x,VR g F v x->VR g F' (b9 c us v) x:=
 V.rec (motive_1:=λv=>∀x,VR g F v x->VR g F' (b9 c us v) x) (motive_2:=λvs=>∀v∈vs,∀x,VR g F v x->VR g F' (b9 c us v) x)
  (λ_ h=>h) (λ_ _ h=>h) (λ_ _ h=>h) (λ_ _ h=>h) (λ_ _ h=>h) (λ_ _ h=>h) (λb x h=>by
   show VR g F' (if b=c then V.lst us else V.ref b) x
   by_cases q:b=c
   ·rw[if_pos q];obtain rfl:x=.ref b:=h;rw[q];exact hc
   ·rw[if_neg q];exact h)
  (λvs d _=>bQ.imp j (bo.subst' vs d)) (λvs d _=>bQ.imp j (bo.subst' vs d)) (λ_ vs d _ h=>⟨h.1,uR.imp j (bo.subst' vs d) h.2⟩)
  (λ_ h=>nomatch h) (λv vs h1 i u p=>(Wf.mp p).elim (λe=>e▸h1) (i u)) v
theorem aI.frz(R:aI g cx tmp vals st s)(e:st.h c=some (.list us)):aI g cx tmp vals ⟨st.loc,upd st.h c none⟩ s∧VR g (cx.F ⟨st.loc,upd st.h c none⟩ s) (.lst us) (.ref c)∧∀a o,cx.F st s a o->cx.F ⟨st.loc,upd st.h c none⟩ s a o:=by
 have d:∀a o,cx.F st s a o->cx.F ⟨st.loc,upd st.h c none⟩ s a o:=λa o z=>⟨z.1,(Yj (a=c)).elim (λq=>by rw[q];exact aB _ _ _) λq=>(aE q).trans z.2.1,z.2.2⟩
 have K:=R.known c _ e
 obtain⟨o,p,xs,n,rfl,j,i⟩:=K.obj
 exact⟨R.forget λa o q=>(Yj (a=c)).elim (λz=>by rw[z,aB]at q;cases q) λz=>(aE z).symm.trans q,show bQ _ _ _ _ from .mk rfl ⟨p,aB _ _ _,K.nrv,c7 rfl rfl⟩ j (i.mono d),d⟩
theorem Fin.out(F:Fin Q v h):∀{loc:List (Option V)},aI g cx [v] [x] ⟨loc,h⟩ s->∃d h1,aI g cx [d] [x] ⟨loc,h1⟩ s∧Q d h1:=by
 induction F with
 |mk hs q=>exact λR=>⟨_,_,R.forget hs,q⟩
 |fr a vs e t j=>exact λR=>have z:=R.frz e;j (z.1.pop.push (VR.subst z.2.2 z.2.1 _ _ R.tmp.1))
theorem CJ(h:wq g (A.deeper env) (aew body env) (λf s=>R (.ok (.ret (match f with | .ret v=>v|_=>.none))) s) (λe s=>Wz g.M (A.deeper env) (leaving env e) (λ_ s=>R (.error e) s) (λe s=>R (.error e) s) s) s):cq g A (.func body env) R s:=by
 refine fD (λ_ _=>rfl) ?_
 show wq g (A.deeper env) (do point;match←(aew body env).onRaise (leaving env)with | .ret v=>ret v|_=>ret .none) _ _ s
 refine aq (aF (adP (aq (cI (be h (λf j d=>?_) λ_ _ q=>aF q)))))
 cases f <;> exact ax d
theorem p6(w:A.depth<recursionLimit)(G:s.heap.get? c=some o)(L:o.data=.func fd)(S:fd.scope.isCoroutine=false)(B:fd.scope.isGenerator=false)(k:fd.body=.stmts body)(J:s.heap.CodeRec fd.code fd.qualname)
 (h:Wz g.M A.in1 (abZ fd args) (λbinds i=>Wz g.M A.in1 (aet fd.scope fd.globals fd.closure binds (fd.qualname++ ".<locals>.") (some c) fd.code none fd.builtins) (λenv j=>j.heap.NoLimit∧cq g A (.func body env) R j) (λe s=>R (.error e) s) i) (λe s=>R (.error e) s) s) :
 cq g A (.call (.ref c) args) R s:=by
 refine fD (λ_ _=>rfl) ?_
 show wq g A.in1 (callAny (.ref c) args) _ _ s
 refine fC (λ_ q=>aaC G q) ?_
 refine Wo λno=>?_
 obtain⟨d,oc,vs,H,hc,Y,U,Z⟩:=J
 refine no ?_
 simp only[L,callFunction,S,B,k,hc]
 rw[hc]at h
 refine aq (m:=field (.ref d) 1) (aF (acD Y U Z (dY (?_))))
 exact aq (aF (Yc h (λbinds i D=>aq (aF (Yc D (λenv j p=>aq (aF (wpAny_enterFrame p.1 w (ax (V8 rfl (V8 (λ_ _=>rfl) p.2)))))) λ_ _ e=>e))) λ_ _ e=>e))
theorem ou{K:Frag}(T:Top g K){f:Addr}{fd:aaP}{body:List Stmt}{params names:List Str}{dvals:List V9}{dvs:List V}{W:PT}(fo:EA g f fd body params names dvals)(hd:∀F,bo g F dvs dvals)(hT:∀cx,c6 cx fd.scope names n true->Ax g cx body W)(p:vs.length+dvs.length=params.length)
 (hw:W (λfl st=>Fin Q (EB fl) st.h) (λst=>yE X st.h) ⟨(vs++dvs).map some++WZ (names.length-params.length) none,h⟩):iH g (n+1) (.ref f) vs Q X h:=by
 unfold iH
 intro cx A s tmp vals xs loc G L R l
 obtain⟨o,ho,D⟩:=fo.at_
 have hv:=(R.unL l).1
 have U:=(R.unL l).2
 have lv:=(hd (cx.F ⟨loc,h⟩ s)).length
 refine p6 (o:=o) (fd:=fd) (Wp (V4 (Wq _ _) L.depth) (V5 rfl)) (R.base _ _ ho) D fo.co fo.gen fo.body (fo.code.keeps R.base) ?_
 refine fo.bind s xs R.base (by rw[←l,lv];exact p) _ _ _ _ ?_
 rw[fo.clo]
 have m:∀x∈params.zip (xs++dvals),fd.scope.names.lookup x.1=some .local∨(fd.scope.names.lookup x.1=some .cell∧((acP (s.heap.objs.size+1) fd.scope.names []).lookup x.1).isSome=true):=λx hx=>
  (fo.kinds x.1 (abR hx).1).imp id λk=>⟨k,cellsFrom_some _ _ _ _ (.inl (aX k))⟩
 refine aer fo.kind m (λenv he s' x=>?_)
 have j:env=aeB fd s.heap.objs.size f:=he
 obtain⟨h',t',rfl⟩:=x.toInCall.same
 obtain⟨mc,B⟩:=U.loc
 refine⟨(T.nolim.keeps R.base).keeps x.toInCall.keep,CJ ?_⟩
 have I:=GL (n:=n) fo hd p U hv B.1 j x
 have ck:c6 (cx.into env mc s.heap names n (cx.F ⟨loc,h⟩ s)) fd.scope names n true:=⟨by rw[j];rfl,λ_=>by rw[j];rfl,rfl,rfl,fo.uniq,λ_ y H=>by rw[j];exact X8.mp (cellsFrom_some _ _ _ _ (.inl (aX H))),λ_=>⟨_,rfl⟩,λ_=>rfl⟩
 have J:gJ (cx.into env mc s.heap names n (cx.F ⟨loc,h⟩ s)).stk n (A.deeper env):=⟨by show A.frames.map _=_;rw[L.frames];rfl,Rk G dD L.depth,Rk G dD L.units,L.handled⟩
 have i:env.frame=some env.locals:=by rw[j];rfl
 refine be (hT _ ck J I hw) (λfl Z u=>?_) λe Z u=>?_
 ·have bc:∀{v:V} {x:V9} {st':St},aI g (cx.into env mc s.heap names n (cx.F ⟨loc,h⟩ s)) [v] [x] st' Z->Fin Q v st'.h->Up g cx tmp vals (λv st=>st.loc=loc∧Q v st.h) x Z:=λw q=>by
   obtain⟨v',h1,Y,q'⟩:=Fin.out q (loc:=_) w
   exact⟨u0 U B Y (λ_ _ e=>e),rfl,q'⟩
  cases u with
  |next w q=>exact bc (w.push (v:=.none) (x:=.none) gn) q
  |ret w q=>exact bc w q
 ·cases u with
  |mk w hf q=>
   obtain⟨h1,S,q⟩:=q
   exact yD (cx:=cx.into env mc s.heap names n (cx.F ⟨loc,h⟩ s)) w J.frames rfl i hf λs3 Y X3=>⟨(u0 (us:=[]) (ys:=[]) U.drop B Y S),X3.imp (λ_ h=>WK _ h) (λ_ _ t=>.inr (by
    obtain⟨a,b,c,d,e,f,k,l⟩:=t
    exact .mk a b (λq=>c (WK _ q)) d e f k (.inl (l.elim id λ⟨_,z,_⟩=>ns z)))),rfl,q⟩
end
def Cx.addIt(cx:Cx)(I:Addr)(o:Obj)(F:FZ):Cx:={cx with rv:=I::cx.rv,keep:=(I,o)::cx.keep,w:=F}
def eA(d:Int):Nat->Int->List V
 |0,_=>[]
 |n+1,x=>.int x::eA d n (x+d)
def AI(o:Obj):Prop:=∃vs,o.data=.fields vs
structure cS(g:Gl)(cx:Cx)(st:St)(s:Wj)(I:Addr)(o:Obj):Prop where
 big:g.B.objs.size<=I
 unk:st.h I=none
 nrv:I∉cx.rv
 at_:s.heap.get? I=some o
 fld:AI o
inductive gk(g:Gl)(F:FZ)(o:Obj):List V->Prop
 |list {l:Addr} {xs:List V9} {i n:Nat} {vs:List V} (hc:o.cls=.type "list_iterator") (hd:o.data=.fields #[.ref l,.int i 0]) (hl:F l (sq "list" xs n)) (hv:bo g F vs (xs.drop i)):gk g F o vs
 |tup {l:Addr} {xs:List V9} {i n:Nat} {vs:List V} (hc:o.cls=.type "tuple_iterator") (hd:o.data=.fields #[.ref l,.int i 0]) (hl:F l (sq "tuple" xs n)) (hv:bo g F vs (xs.drop i)):gk g F o vs
 |bytes {b:List UInt8} {t:Tok} {i:Nat} (hc:o.cls=.type "bytes_iterator") (hd:o.data=.fields #[.bytes b.toArray t,.int i 0]):gk g F o ((b.drop i).map λc=>.int (c.toNat:Nat))
 |str {x:List Nat} {t:Tok} {i:Nat} (hc:o.cls=.type "str_ascii_iterator" ∨ o.cls=.type "str_iterator") (hd:o.data=.fields #[.str ⟨x.toArray⟩ t,.int i 0]):gk g F o ((x.drop i).map λc=>.str [c])
 |range {x step:Int} {n:Nat} (ho:o={cls:=.type "range_iterator",dict:=none,data:=.fields #[Y5 x,Y5 n,Y5 step],slots:=#[]}):gk g F o (eA step n x)
section
variable{g:Gl}{cx:Cx}{tmp:List V}{vals:List V9}{st:St}{s:Wj}{A:Xd}{x y z:V9}{a b v u:V}{vs:List V}{F F':FZ}{E:V9->Wj->Prop}{Q:V->St->Prop}{X:St->Prop}{hp:Heap}{tk n:Nat}{I:Addr}{o o':Obj}
theorem gk.mono(d:∀a o,F a o->F' a o)(h:gk g F o vs):gk g F' o vs:=by
 cases h with
 |list hc hd q j=>exact .list hc hd (d _ _ q) (j.mono d)
 |tup hc hd q j=>exact .tup hc hd (d _ _ q) (j.mono d)
 |bytes hc hd=>exact .bytes hc hd
 |str hc hd=>exact .str hc hd
 |range h=>exact .range h
theorem GN{b:Addr}(L:cS g cx st s I o){o:Obj}(h:s.heap.get? b=some o)(n:NF o):b≠I:=λe=>L.fld.elim λvs d=>by rw[e,L.at_]at h;cases h;exact n vs d
theorem cS.turn(R:aI g cx tmp vals st s)(L:cS g cx st s I o)(hk:∀b o,b≠I->s.heap.get? b=some o->hp.get? b=some o):aI g cx tmp vals st { s with heap:=hp,toks:=tk}:=
 R.slots (hid:=[I]) (λb o h n=>⟨o.slots,hk b o (GN L h n) h⟩) (λb o h q=>hk b o (λe=>q (e▸.head _)) h) λb h=>by rw[Wr.mp h];exact .inr ⟨dI L.big,L.nrv,L.fld.elim λvs d=>⟨_,vs,L.at_,d⟩⟩
theorem aI.addIt(R:aI g cx tmp vals st s)(L:cS g cx st s I o):aI g (cx.addIt I o (cx.F st s)) tmp vals st s∧∀a o,cx.F st s a o->Fz s.heap st.h (I::cx.rv) a o:=
 have ne:∀{b},b∈cx.rv->b≠I:=λh e=>L.nrv (e▸h)
 have d:∀a o,cx.F st s a o->Fz s.heap st.h (I::cx.rv) a o:=λa o z=>⟨z.1,z.2.1,λq=>(Wf.mp q).elim (GN L z.1 z.2.2.2) z.2.2.1,z.2.2.2⟩
 ⟨{ok:={R.ok with
    own:=.tail _ R.ok.own
    frs:=λa h=>.tail _ (R.ok.frs a h)
    cells:=λp h=>⟨.tail _ (R.ok.cells p h).1,(R.ok.cells p h).2⟩
    keep:=λq h=>(Wf.mp h).elim (λe=>by rw[e];exact⟨.head _,(ne R.ok.own).symm,λq=>ne (R.ok.frs _ q) rfl⟩) λh=>⟨.tail _ (R.ok.keep q h).1,(R.ok.keep q h).2⟩
    outer:=λq h=>⟨.tail _ (R.ok.outer q h).1,(R.ok.outer q h).2⟩
    free:=λp h a b=>⟨λq j=>(Wf.mp j).elim (λe=>by rw[e];exact(ne (R.ok.cells p h).1).symm) ((R.ok.free p h a b).1 q),(R.ok.free p h a b).2⟩}
   base:=R.base,gens:=R.gens,os:=R.os
   known:=λa o e=>let k:=R.known a o e;⟨k.low,λq=>(Wf.mp q).elim (λq=>by rw[q,L.unk]at e;cases e) k.nrv,k.obj.imp λ_ z=>⟨z.1,z.2.mono d⟩⟩
   rsv:=λa h=>(Wf.mp h).elim (λe=>e▸⟨L.big,_,L.at_⟩) (R.rsv a)
   frs:=R.frs
   keep:=λq h=>(Wf.mp h).elim (λe=>by rw[e];exact L.at_) (R.keep q)
   outer:=R.outer,cl:=R.cl
   loc:=R.loc.imp λm z=>⟨z.1,λi y v a b=>(z.2 i y v a b).imp λc z=>⟨VR.mono d _ _ z.1,z.2⟩⟩
   wait:=d
   tmp:=R.tmp.mono d},d⟩
theorem aI.dropIt(j:aI g cx [] [] d s₀)(L:cS g cx d s₀ I o)(R:aI g (cx.addIt I o (cx.F d s₀)) tmp vals st s):aI g cx tmp vals st s∧cS g cx st s I o∧∀a o,cx.F d s₀ a o->cx.F st s a o:=
 have out:∀{a},a∉(cx.addIt I o (cx.F d s₀)).rv->a∉cx.rv:=λh q=>h (.tail _ q)
 have c:∀a o',(cx.addIt I o (cx.F d s₀)).F st s a o'->cx.F st s a o':=λa o z=>⟨z.1,z.2.1,out z.2.2.1,z.2.2.2⟩
 have p:∀a o',cx.F d s₀ a o'->cx.F st s a o':=λa o z=>c a o (R.wait a o z)
 ⟨{ok:=j.ok,base:=R.base,gens:=R.gens,os:=R.os
   known:=λa o e=>let k:=R.known a o e;⟨k.low,out k.nrv,k.obj.imp λ_ z=>⟨z.1,z.2.mono c⟩⟩
   rsv:=λa h=>R.rsv a (.tail _ h)
   frs:=R.frs
   keep:=λq h=>R.keep q (.tail _ h)
   outer:=R.outer,cl:=R.cl
   loc:=R.loc.imp λm z=>⟨z.1,λi y v a b=>(z.2 i y v a b).imp λw z=>⟨VR.mono c _ _ z.1,z.2⟩⟩
   wait:=λa o z=>p a o (j.wait a o z)
   tmp:=R.tmp.mono c},⟨L.big,R.rvNone (.head _),L.nrv,R.keep (I,o) (.head _),L.fld⟩,p⟩
end
inductive Tz(g:Gl)(cx:Cx)(tmp:List V)(vals:List V9)(Q:V->St->Prop)(x:V9)(s:Wj):Prop
 |mk {vs:List V} {I:Addr} {o:Obj} {st:St} (hx:x=.ref I) (R:aI g cx tmp vals st s) (L:cS g cx st s I o) (it:gk g (cx.F st s) o vs) (q:Q (.lst vs) st)
def TI(g:Gl)(cx:Cx)(t:Sem V9)(W:PT):Prop:=∀{A s tmp vals st Q X},gJ cx.stk cx.lvl A->aI g cx tmp vals st s->W Q X st->wq g A t (λx d=>wq g A (ac5 x) (Tz g cx tmp vals Q) (hH g cx X) d) (hH g cx X) s
inductive AJ(g:Gl)(cx:Cx)(tmp:List V)(vals:List V9)(st:St)(I:Addr)(v:V)(vs:List V):Option V9->Wj->Prop
 |mk {x:V9} {s:Wj} {o:Obj} (R:aI g cx (v::tmp) (x::vals) st s) (L:cS g cx st s I o) (it:gk g (cx.F st s) o vs):AJ g cx tmp vals st I v vs (some x) s
inductive GO(g:Gl)(cx:Cx)(tmp:List V)(vals:List V9)(st:St):Option V9->Wj->Prop
 |mk {s:Wj} (R:aI g cx tmp vals st s):GO g cx tmp vals st none s
section
variable{g:Gl}{cx:Cx}{tmp:List V}{vals:List V9}{st:St}{s:Wj}{A:Xd}{x y z:V9}{a b v u:V}{vs:List V}{F F':FZ}{E:V9->Wj->Prop}{Q:V->St->Prop}{X:St->Prop}{hp:Heap}{tk n:Nat}{I:Addr}{o o':Obj}
theorem ow{d:Type}{xs ys:List d}{y:d}{i:Nat}(e:xs.drop i=y::ys):xs.toArray[i]? = some y∧xs.drop (i+1)=ys:=
 ⟨by rw[XZ,←ZW,e];rfl,by rw[←adG,e];rfl⟩
theorem oy{d:Type}{xs:List d}{i:Nat}(e:xs.drop i=[]):xs.toArray[i]? = none:=by
 rw[XZ,←ZW,e];rfl
theorem bo.drop1{P:Prop}{xs:List V9}{i:Nat}(h:bo g F (v::vs) (xs.drop i))(k:∀x,xs.toArray[i]? = some x->VR g F v x->bo g F vs (xs.drop (i+1))->P):P:=by
 generalize e:xs.drop i=q;cases q with
 |nil=>rw[e]at h;exact Ws h
 |cons y ys=>rw[e]at h;have d:=ow e;exact k y d.1 h.1 (d.2▸h.2)
theorem bo.drop0{xs:List V9}{i:Nat}(h:bo g F [] (xs.drop i)):xs.toArray[i]? = none:=by
 generalize e:xs.drop i=d;cases d with
 |nil=>exact oy e
 |cons y ys=>rw[e]at h;cases h
theorem u3{P:Prop}{q:Type}{f:q->V}{xs:List q}{i:Nat}(h:v::vs=(xs.drop i).map f)(k:∀c,xs.toArray[i]? = some c->v=f c->vs=(xs.drop (i+1)).map f->P):P:=by
 generalize e:xs.drop i=j;cases j with
 |nil=>rw[e]at h;cases h
 |cons y ys=>rw[e]at h;have d:=ow e;exact k y d.1 (Zg h).1 (d.2▸(Zg h).2)
theorem oz{d:Type}{f:d->V}{xs:List d}{i:Nat}(h:[]=(xs.drop i).map f):xs.toArray[i]? = none:=oy (Zb.mp h.symm)
theorem oA(R:aI g cx tmp vals st s)(L:cS g cx st s I o)(it:gk g (cx.F st s) o (v::vs)):Wz g.M A (aaZ (.ref I)) (AJ g cx tmp vals st I v vs) E s:=by
 generalize hvs:v::vs=ws at it
 have hF:∀{h' tk} a o,Xg I s.heap h'->cx.F st s a o->cx.F st { s with heap:=h',toks:=tk} a o:=λa o hs z=>⟨(hs.2 a (GN L z.1 z.2.2.2)).trans z.1,z.2⟩
 have bc:∀{x h' o' tk},VR g (cx.F st s) v x->Xg I s.heap h'->h'.get? I=some o'->AI o'->gk g (cx.F st s) o' vs->AJ g cx tmp vals st I v vs (some x) { s with heap:=h',toks:=tk}:=λhv hs ho hf hi=>
  .mk ((L.turn (R.push hv) λb o n e=>(hs.2 b n).trans e)) ⟨L.big,L.unk,L.nrv,ho,hf⟩ (hi.mono λa o=>hF a o hs)
 cases it with
 |list hc hd hl hv=>exact(hvs▸hv:bo g _ (v::vs) _).drop1 λx hx h1 h2=>wpAny_pyNext_list_item ⟨_,L.at_,hc,hd⟩ ⟨_,hl.1,rfl,_,rfl⟩ hx λh' hi hs=>hi.elim λo' y=>bc h1 hs y.1 ⟨_,y.2.2⟩ (.list y.2.1 y.2.2 hl h2)
 |tup hc hd hl hv=>exact(hvs▸hv:bo g _ (v::vs) _).drop1 λx hx h1 h2=>wpAny_pyNext_tuple_item ⟨_,L.at_,hc,hd⟩ ⟨_,hl.1,rfl,_,rfl⟩ hx λh' hi hs=>hi.elim λo' y=>bc h1 hs y.1 ⟨_,y.2.2⟩ (.tup y.2.1 y.2.2 hl h2)
 |bytes hc hd=>exact u3 hvs λc hx h1 h2=>KBw.next_item ⟨_,L.at_,hc,hd⟩ hx λh' hi hs=>hi.elim λo' y=>bc (h1▸cD) hs y.1 ⟨_,y.2.2⟩ (h2▸.bytes y.2.1 y.2.2)
 |str hc hd=>exact u3 hvs λc hx h1 h2=>Or.elim hc (λhc=>wpAny_pyNext_ascii_item ⟨_,L.at_,hc,hd⟩ hx λh' hi hs=>hi.elim λo' y=>bc (h1▸e6 (V5 rfl)) hs y.1 ⟨_,y.2.2⟩ (h2▸.str (.inl y.2.1) y.2.2)) λhc=>wpAny_pyNext_wide_item ⟨_,L.at_,hc,hd⟩ hx λh' hi hs=>hi.elim λo' y=>bc (h1▸e6 (V5 rfl)) hs y.1 ⟨_,y.2.2⟩ (h2▸.str (.inr y.2.1) y.2.2)
 |@range x step n ho=>
  subst ho
  cases n with
  |zero=>cases hvs
  |succ n=>
   obtain⟨rfl,rfl⟩:=Zg hvs
   refine wpAny_pyNext_range_item L.at_ (Int.ofNat_succ_pos n) λh' hi hs=>bc cD hs hi ⟨_,rfl⟩ (.range ?_)
   rw[ada,Z3]
theorem rW(R:aI g cx tmp vals st s)(hh:A.handled=none)(L:cS g cx st s I o)(it:gk g (cx.F st s) o []):Wz g.M A (aaZ (.ref I)) (GO g cx tmp vals st) E s:=by
 generalize hvs:([]:List V)=ws at it
 have k:∀h',ab4 I s.heap h'->GO g cx tmp vals st none { s with heap:=h'}:=λh' he=>.mk (L.turn (tk:=s.toks) R λb o n e=>he b o n e)
 cases it with
 |list hc hd hl hv=>exact wpAny_pyNext_list_end hh ⟨_,L.at_,hc,hd⟩ ⟨_,hl.1,rfl,_,rfl⟩ (hvs▸hv:bo g _ [] _).drop0 k
 |tup hc hd hl hv=>exact wpAny_pyNext_tuple_end hh ⟨_,L.at_,hc,hd⟩ ⟨_,hl.1,rfl,_,rfl⟩ (hvs▸hv:bo g _ [] _).drop0 k
 |bytes hc hd=>exact KBw.next_end hh ⟨_,L.at_,hc,hd⟩ (oz hvs) k
 |str hc hd=>exact hc.elim (λhc=>wpAny_pyNext_ascii_end hh ⟨_,L.at_,hc,hd⟩ (oz hvs) k) λhc=>wpAny_pyNext_wide_end hh ⟨_,L.at_,hc,hd⟩ (oz hvs) k
 |@range x step n ho=>
  subst ho
  cases n with
  |zero=>exact wpAny_pyNext_range_end hh L.at_ (aax 0) k
  |succ n=>cases hvs
theorem aI.frSt(R:aI g cx tmp vals st s)(e:st.h c=some (.list us)):aI g cx tmp vals (Internal.T4 c us st) s∧VR g (cx.F (Internal.T4 c us st) s) (.lst us) (.ref c):=
 have f:=R.frz e
 ⟨{f.1 with loc:=R.loc.imp λm z=>⟨z.1,λi y v a b=>by
    have b:(st.loc.map (Ym (b9 c us)))[i]? = some (some v):=b
    rw[YF]at b
    obtain⟨w,b',hw⟩:=Yl.mp b
    obtain⟨u,rfl,rfl⟩:=Yl.mp hw
    exact(z.2 i y u a b').imp λval z=>⟨VR.subst f.2.2 f.2.1 _ _ z.1,z.2⟩⟩},f.2.1⟩
theorem bQ.elim'{P:Prop}{T:String}{R:List V9->Prop}(h:bQ F T R x)(k:∀a xs n,x=.ref a->F a (sq T xs n)->xs.length<=1000000->R xs->P):P:=h.casesOn λe h l r=>k _ _ _ e h l r
theorem aI.newIt(R:aI g cx tmp vals st s)(hf:AI o)(it:gk g (cx.F st s) o vs)(q:Q (.lst vs) st):Tz g cx tmp vals Q (.ref s.heap.objs.size) { s with heap:=s.heap.push o,toks:=tk}:=
 .mk rfl (R.keeps λb o e=>Wl _ e) ⟨R.size,R.fresh (Wh _),R.notRv (Wh _),WG _ (hf.elim λ_ d=>ab0 d),hf⟩
  (it.mono λa o z=>⟨Wl _ z.1,z.2⟩) q
set_option tactic.hygienic true in
theorem Nf{e:Expr}{W:PT}(h:bE g cx e W):TI g cx (eval e cx.env) (a6 W):=λoa R w=>aV (h oa R w) λx s u=>u.elim' λv st R q=>aF (by
 have hv:=R.tmp.1
 cases v <;> first|exact Ws q|skip
 case str c=>
  obtain⟨l,t,rfl⟩:=hv
  generalize ha:((⟨c.toArray⟩:Str).cps.all (· < 128))=zz;cases zz with
  |true=>exact wpAny_pyIter_ascii ha (R.pop.newIt ⟨_,rfl⟩ (.str (i:=0) (.inl rfl) rfl) q)
  |false=>exact wpAny_pyIter_wide ha (R.pop.newIt ⟨_,rfl⟩ (.str (i:=0) (.inr rfl) rfl) q)
 case bytes c=>
  obtain⟨l,t,rfl⟩:=hv
  exact KBw.pyIter_bytes (R.pop.newIt ⟨_,rfl⟩ (.bytes (i:=0) rfl rfl) q)
 case ref c=>
  obtain rfl:x=.ref c:=hv
  obtain⟨o,e,q⟩:=aT q
  cases o <;> first|exact Ws q|skip
  have f:=R.pop.frSt e
  exact bQ.elim' f.2 λa xs n hx hF hl hr=>by
   cases hx
   exact adm (items:=xs.toArray) ⟨_,hF.1,rfl,_,rfl⟩ (f.1.newIt (tk:=s.toks) ⟨_,rfl⟩ (.list (i:=0) rfl rfl hF hr) q)
 case tup c=>
  exact bQ.elim' hv λa xs n hx hF hl hr=>by
   cases hx
   exact wpAny_pyIter_tuple (items:=xs.toArray) ⟨_,hF.1,rfl,_,rfl⟩ (R.pop.newIt (tk:=s.toks) ⟨_,rfl⟩ (.tup (i:=0) rfl rfl hF hr) q)
 case lst c=>
  exact bQ.elim' hv λa xs n hx hF hl hr=>by
   cases hx
   exact adm (items:=xs.toArray) ⟨_,hF.1,rfl,_,rfl⟩ (R.pop.newIt (tk:=s.toks) ⟨_,rfl⟩ (.list (i:=0) rfl rfl hF hr) q))
end
inductive RW(g:Gl)(cx:Cx)(W:List V->St->Prop)(I:Addr)(n:Nat)(s:Wj):Prop
 |mk {vs:List V} {st:St} {o:Obj} (e:vs.length=n) (R:aI g cx [] [] st s) (L:cS g cx st s I o) (it:gk g (cx.F st s) o vs) (q:W vs st)
section
theorem Trace.less(z:∀a,a∈y->a∈rv)(h:Trace g L rv hp e f):Trace g L y hp e f:=h.imp id λ⟨a,b,c,d,e,f,i,j⟩=>⟨a,b,λq=>c (z _ q),d,e,f,i,j⟩
theorem hH.dropIt(y:aI g cx [] [] d s₀)(L:cS g cx d s₀ I o)(u:hH g (cx.addIt I o (cx.F d s₀)) X x s):hH g cx X x s:=match u with
 | .mk R f q=>.mk (y.dropIt L R).1 (gL.imp f (λ_ h=>.tail _ h) λe f=>Trace.less λ_ h=>.tail _ h) q
theorem RX(i:gJ cx.stk cx.lvl A)(hs:cx.stk=cx.env::outer)(u:hH g cx X x s):wq g A (do abX x cx.env;ach x) (λ_ y=>cameBackBy g.M A cx.env (hH g cx X) x y) E s:=match u with
 | .mk R f q=>(R.ok.stk cx.env (hs▸.head _)).2.elim λL h=>aq (aF (rV R i.frames hs h.1 f λy j n=>aF (wpAny_theTreesLotGoes (AG j h.1 n λz d n=>.mk d n.flight q))))
theorem gk.plain(d:gk g F o vs):∃n vs,o.cls=.type n∧o.data=.fields vs∧["enumerate", "zip", "dict_itemiterator", "dict_reverseitemiterator", "odict_iterator", "itertools.zip_longest", "itertools.pairwise"].contains n=false:=by
 cases d with
 |list hc hd=>exact⟨_,_,hc,hd,dD⟩
 |tup hc hd=>exact⟨_,_,hc,hd,dD⟩
 |bytes hc hd=>exact⟨_,_,hc,hd,dD⟩
 |str hc hd=>exact hc.elim (λhc=>⟨_,_,hc,hd,dD⟩) λhc=>⟨_,_,hc,hd,dD⟩
 |range q=>subst q;exact⟨_,_,rfl,rfl,dD⟩
theorem oB{Q:Unit->Wj->Prop}(u:s.heap.get? I=some o)(y:gk g F o vs)(h:Q () s):Wz g.M A (ad0 d (.ref I) x) Q E s:=by
 have q:∀a,Wz g.M A (do
  let o ←load I
  match o.cls,o.data with
  | .type n,.fields vs=>
   if["enumerate", "zip", "dict_itemiterator", "dict_reverseitemiterator", "odict_iterator", "itertools.zip_longest", "itertools.pairwise"].contains n&&vs[0]?==some (Y5 a)then
    rule "for.unpacks-the-owned-tuple"
    updateField I 0 .none
  |_,_=>pure ():Sem Unit) Q E s:=λa=>V7 (aaC u (by
  refine Wo λno=>?_
  obtain⟨n,vs,j,i,z⟩:=y.plain
  refine no ?_
  rw[j,i]
  show Wz _ _ (if(_&&_)=true then _ else _) _ _ _
  rw[z,Bool.false_and]
  exact Wg h))
 cases d <;> first|exact Wg h|(cases x <;> first|exact q _|exact Wg h)
theorem vX(h:R (.ok .next) s):cq g A (.block [] env) R s:=
 fD (λ_ _=>rfl) (show wq _ A (do return PySem.Fin.done (←(aew [] env).onRaise (λx=>do abX x env;ach x))) _ _ s from aq (cI (ax (ax h))))
set_option tactic.hygienic true in
theorem RY(htop:cx.stk=cx.env::outer)(hi:TI g cx (eval iter cx.env) Wi)(ht:∀I o F,TT g (cx.addIt I o F) (Y1 target cx.env) Wt)(hb:∀I o F,Ax g (cx.addIt I o F) body Wb)(hset:∀x,Yv iter cx.env x=pure x) :
 j1 g cx (.For target iter body [] pos) (dq Wt Wi Wb):=@λA s st Q X oa R w=>
 show wq _ _ (do XC pos;let x ←Yv iter cx.env (←eval iter cx.env);XC iter.pos;runOwn (.forLoop target (←XH [x] (ac5 x)) body [] cx.env) cx.env) _ _ _ from
 aU (b0 (hi oa R w) λx s h=>(kI (hset x) (aU (aq (ay (aV h λy s u=>by
  obtain⟨hx,R,L,it,q⟩:=u
  subst hx
  rename_i vs I o st
  refine oi (rj rfl (λ_ _=>rfl) (RW g cx (λvs st=>fT Wt Wb vs Q X st) I) (λn s h=>?_) vs.length (.mk rfl R L it q)) λ_ _=>rfl
  obtain⟨e,R,L,it,q⟩:=h
  rename_i vs st o
  refine show wq _ A ((forTurn target (.ref I) body [] cx.env).onRaise (λx=>do abX x cx.env;ach x)) _ _ s from
   cI (be (E:=hH g cx X) (aU (aq (cI ?_))) (λ_ _ h=>h) λx s u=>RX oa htop u)
  cases vs with
  |nil=>
   refine aV (aF (rW R oa.handled L it)) λr s h=>?_
   obtain⟨R⟩:=h
   exact ax (.inr ⟨rfl,λ_ _=>rfl,vX (.next R q)⟩)
  |cons v r=>
   refine aV (aF (oA R L it)) λx s h=>?_
   obtain⟨R₁,L₁,it₁⟩:=h
   refine aq (aF (oB L₁.at_ it₁ (aq (be (ht I _ _ oa (R₁.addIt L₁).1 q) (λ_ s h=>?_) λ_ _ h=>h.elim))))
   obtain⟨R₂,q₂⟩:=h
   refine aq (be (hb I _ _ oa R₂ q₂) (λf s h=>?_) λx s u=>hH.dropIt R₁.pop L₁ u)
   rcases h with⟨R₃,q₃⟩|⟨R₃,q₃⟩
   ·have D:=R₁.pop.dropIt L₁ R₃
    exact ax (.inl ⟨rfl,r.length,e▸XX _,.mk rfl D.1 D.2.1 (it₁.mono D.2.2) q₃⟩)
   ·exact ax (.inr (.ret (R₁.pop.dropIt L₁ R₃).1 q₃))))))))
end
inductive RZ(g:Gl)(cx:Cx)(W:Nat->St->Prop)(n:Nat)(s:Wj):Prop
 |mk {st:St} (R:aI g cx [] [] st s) (q:W n st)
section
theorem KV(htop:cx.stk=cx.env::outer)(ht:uT g cx t W)(hb:Ax g cx body Wb):j1 g cx (.While t body [] pos) (fW W Wb):=@λA s st Q X oa R w=>
 show wq _ _ (do XC pos;runOwn (.whileLoop t body [] cx.env) cx.env) _ _ _ from
 w.elim λn w=>aU (oi (rj rfl (λ_ _=>rfl) (RZ g cx λn st=>rM W Wb n Q X st) (λn s h=>by
  obtain⟨R,q⟩:=h
  refine show wq _ A ((whileTurn t body [] cx.env).onRaise (λx=>do abX x cx.env;ach x)) _ _ s from cI (be (E:=hH g cx X) ?_ (λ_ _ h=>h) λx s u=>RX oa htop u)
  cases n with
  |zero=>exact Ws q
  |succ n=>
   refine ht.then_ oa R q λb st s R q=>?_
   cases b with
   |false=>exact dY ((ax (.inr (.next R q))))
   |true=>
    refine aq (be (hb oa R q) (λf s h=>?_) λ_ _ u=>u)
    rcases h with⟨R,q⟩|⟨R,q⟩
    ·exact ax (.inl ⟨rfl,n,XX n,.mk R q⟩)
    ·exact ax (.inr (.ret R q))) n (.mk R w)) λ_ _=>rfl)
end
def Ul(vs:List V)(k:V->Prop):Prop:=Yd (motive:=λ_=>Prop) vs False λa r=>Yd (motive:=λ_=>Prop) r False λb r=>Yd (motive:=λ_=>Prop) r False λc r=>a=.int 0∧c=.int 2∧r=[]∧k b
def GP(vs:List V)(P:List V->Prop):Prop:=Yd (motive:=λ_=>Prop) vs False λa r=>Yd (motive:=λ_=>Prop) r (kJ a λn=>(-1000000<=n∧n<=1000000)∧P (eA 1 n.toNat 0))
 λb r=>Ul (a::b::r) λv=>kJ v λn=>(0<=n∧n<=1000000)∧P (eA 2 ((n+1)/2).toNat 0)
def da(q:PT):PT:=λQ X st=>q (λvs d=>iE vs λvs=>GP vs λus=>Q (.lst us) d) X st
section
variable{g:Gl}{cx:Cx}{tmp:List V}{vals:List V9}{st st₀:St}{s s₀:Wj}{A:Xd}{x y z:V9}{a b v u:V}{vs:List V}{F F':FZ}{E:V9->Wj->Prop}{Q:V->St->Prop}{X:St->Prop}{hp:Heap}{tk n:Nat}{I:Addr}{o o':Obj}
theorem dc(id:String):Keeps g (.type id):=⟨.machine,.inr rfl,λA Q E s _ h=>Wg h⟩
theorem OV{y:Str}{i:Pos}{f:V9}{k:List V->PT}(m:bE g cx (.Name y i) (af (.raw f)))(p:Keeps g f)(h:An g cx pos c W)(d:(Zf pos (X0 c cx.env)).any (·.1)=false)
 (key:∀{A s tmp vals st vs xs Q X},aI g cx tmp vals st s->bo g (cx.F st s) vs xs->k vs Q X st->Wz g.M A (call f xs) (λx w=>Wz g.M A (ac5 x) (Tz g cx tmp vals Q) (hH g cx X) w) (hH g cx X) s) :
 TI g cx (eval (.Call (.Name y i) c [] pos) cx.env) (λQ X st=>W (λvs j=>iE vs λvs=>k vs Q X j) X st):=λ{A s tmp vals st Q X} oa R q=>
 TE.then_ (Q:=λv st'=>v=.raw f∧W (λvs j=>iE vs λvs=>k vs Q X j) X st') m oa R ⟨rfl,q⟩ λv x st s R q=>by
  obtain⟨rfl,q⟩:=q
  obtain rfl:x=f:=R.tmp.1
  exact bO p d (aV (h oa R.pop q) λxs s u=>u.elim' λvs st R l q=>⟨R.base,aF (Yc (key (R.unL l).2 (R.unL l).1 q) (λ_ _ h=>aF h) λ_ _ h=>h)⟩)
theorem aI.range(R:aI g cx tmp vals st s){a b c:Int}{t u v:Tok}{tk m:Nat}(h1:Z8 a b c=true)(h2:ZD a b c=(m:Int))(q:Q (.lst (eA c m a)) st) :
 wpAny g.M A (ac5 (.ref s.heap.objs.size)) (Tz g cx tmp vals Q) E { s with heap:=s.heap.push { cls:=.type "range",data:=.fields #[.int a t,.int b u,.int c v]},toks:=tk}:=
 have R3:aI g cx tmp vals st { s with heap:=s.heap.push { cls:=.type "range",data:=.fields #[.int a t,.int b u,.int c v]},toks:=tk}:=R.keeps λb o e=>Wl _ e
 wpAny_pyIter_range (IsRange.new ..) h1 (h2▸R3.newIt (tk:=tk) ⟨_,rfl⟩ (.range rfl) q)
set_option tactic.hygienic true in
theorem CK{n:Int}(h1:-1000000<=n)(d:n<=1000000):Z8 0 n 1=true∧ZD 0 n 1=(n.toNat:Int):=
 ⟨small_one dD dD (aaQ dD h1) (Z2 d dD),by
  rw[rangeSize_one]
  split
  ·rename_i h
   rw[Int.sub_zero,YJ (Int.le_of_lt h)]
  ·rename_i h
   rw[Int.toNat_of_nonpos (YX.mp h)];rfl⟩
theorem CL{b:Int}(h1:0<=b)(h2:b<=1000000):Z8 0 b 2=true∧ZD 0 b 2=(((b+1)/2).toNat:Int):=by
 obtain⟨m,rfl⟩:=abv h1
 have hm:m<=1000000:=XS.mp h2
 have hsz:ZD 0 m 2=((((m:Int)+1)/2).toNat:Int):=by
  cases m with
  |zero=>rfl
  |succ k=>
   show(if(0:Int)<((k+1:Nat):Int)then(((k+1:Nat):Int)-0-1)/2+1 else 0)=_
   rw[if_pos (Int.natCast_pos.mpr (Xs k)),Int.sub_zero,ada,Z3]
   exact(congrArg Int.ofNat (Nat.add_div_right k dD)).symm
 have f:∀k:Nat,k<=1000001->aab k=true:=λk h=>X5.mpr ⟨decide_eq_true (aaQ dD (Ww k)),decide_eq_true (Z2 (XS.mpr h) dD)⟩
 refine⟨?_,hsz⟩
 unfold Z8
 rw[hsz]
 have e2:aab ((((m:Int)+1)/2).toNat:Int)=true:=f ((m+1)/2) (V4 (Nat.div_le_self _ _) (Wm hm))
 have e3:aab ((m:Int)+(2-1))=true:=f (m+1) (Wm hm)
 rw(config:={}) [f m (Yq hm),e2,if_pos dD,e3,Y3]
 rfl
theorem bo.one{P:Prop}{xs:List V9}(h:bo g F [v] xs)(k:∀x,xs=[x]->VR g F v x->P):P:=by
 cases xs with
 |nil=>exact Ws h
 |cons x r=>exact k x (congrArg (x::·) h.2) h.1
theorem bo.three{P:Prop}{xs:List V9}{a b c:V}(h:bo g F [a,b,c] xs)(k:∀x y z,xs=[x,y,z]->VR g F a x->VR g F b y->VR g F c z->P):P:=by
 cases xs with
 |nil=>exact Ws h
 |cons x r=>cases r with
  |nil=>exact Ws h.2
  |cons y r=>exact bo.one h.2.2 λz e d=>k x y z (congrArg (x::y::·) e) h.1 h.2.1 d
theorem KW(h:Ul vs k):∃b,vs=[.int 0,b,.int 2]∧k b:=by
 cases vs with
 |nil=>exact Ws h
 |cons a r=>cases r with
  |nil=>exact Ws h
  |cons b r=>cases r with
   |nil=>exact Ws h
   |cons c r=>
    obtain⟨rfl,rfl,rfl,h⟩:=h
    exact⟨b,rfl,h⟩
theorem KY{y:Str}{np:Pos}(hf:bE g cx (.Name y np) (af (.raw (.type "range"))))(h:An g cx pos es W)(hplain:(Zf pos (X0 es cx.env)).any (·.1)=false):TI g cx (eval (.Call (.Name y np) es [] pos) cx.env) (da W):=
 OV (k:=λvs Q X st=>GP vs λus=>Q (.lst us) st) hf (dc _) h hplain λ{A s tmp vals st vs xs Q X} R hv q=>match vs,hv,q with
  | [v],hv,q=>(bu q).elim λn q=>hv.one λx e hx=>by
   obtain⟨rfl,q⟩:=q
   obtain⟨t,rfl⟩:=hx
   subst e
   exact call_range_1 (R.range (CK q.1.1 q.1.2).1 (CK q.1.1 q.1.2).2 q.2)
  |a::b::r,hv,q=>by
   have q:Ul (a::b::r) λv=>kJ v λn=>(0<=n∧n<=1000000)∧Q (.lst (eA 2 ((n+1)/2).toNat 0)) st:=q
   obtain⟨v,e,q⟩:=KW q
   obtain⟨n,rfl,q⟩:=bu q
   rw[e]at hv
   exact hv.three λx y z e hx hy hz=>by
    obtain⟨t,rfl⟩:=hx
    obtain⟨t,rfl⟩:=hy
    obtain⟨t,rfl⟩:=hz
    subst e
    exact call_range_3 dD (R.range (CL q.1.1 q.1.2).1 (CL q.1.1 q.1.2).2 q.2) (.inl (PyProof.noPylong_small dD))
end
section
open PySem.Builtin PySem.Builtin.ObjectAttr
inductive GQ(h:Heap)(C:Addr)(bm:List V9):Prop
 |mk {nm q N bs hdct sn sub ab col dd k0 k1 k2 k3 k5} (e:h.get? C=some (excClassObj nm q C N bs bm hdct sn sub ab col dd k0 k1 k2 k3 k5 "Exception.__new__"))
structure tQ(h:Heap)(C:Addr)(bm:List V9):Prop where
 at_:GQ h C bm
 b1:bm.contains (.type "Exception")=true
 b2:bm.contains (.type "BaseException")=true
 b3:bm.contains (.type "AttributeError")=false
 b4:bm.contains (.type "NameError")=false
section
variable{prog:abz}{w:abx}{A:Xd}{E:V9->Wj->Prop}{R:abJ->Wj->Prop}{h:Heap}{g:Array GenState}{d:Drawn}{t:Nat}{os:OsState}{C fI:Addr}{bm:List V9}{K:Frag}
theorem KZ(X:tQ h C bm)(y:q.length<=acF)
 (c:R (.ok (.ret (.ref (h.objs.size+1)))) ⟨(h.push { cls:=.type "tuple",data:=.seq q.toArray}).push { cls:=.ref C,data:=.fields #[.ref h.objs.size,.none,.none,.none,.bool false,.none]},g,d,t,os⟩) :
 codeAny (YL prog w) A (.builtin "Exception.__new__" ⟨.ref C::q,[]⟩) R ⟨h,g,d,t,os⟩:=by
 refine Wo λno=>?_
 obtain⟨⟨hC⟩,b1,b2,b3,b4⟩:=X
 refine no ?_
 have F:=ade
 have u:(Zq C::bm).contains (.type "Exception")=true:=by rw[Z0,b1,Y3]
 have z:(Zq C::bm).contains (.type "AttributeError")=false:=by rw[Z0,b3];rfl
 have i:(Zq C::bm).contains (.type "NameError")=false:=by rw[Z0,b4];rfl
 have j:=F.ends
 refine codeAny_builtinAt F.entry ?_
 refine PySem.wpAt_bind ?_
 refine PySem.wpAt_bind (PySem.wpAt_stack λp below=>aeQ ?_)
 wp_walk
 refine aeQ ?_
 rw[F.owner]
 repeat (first|with_reducible refine wpAny_madeHere_exc F.canon hC ?_|with_reducible refine Y8 hC ?_|(with_reducible refine Z1 hC ?_;first|rw(config:={}) [u]|rw(config:={}) [z]|rw(config:={}) [i])|wp_step)
 show R _ _
 rw[aaS]
 exact c
theorem GR(X:tQ h C bm)(k:K.In h)(chk:∀S,peek K S (XN "Exception.__new__" ⟨.ref C::q,[]⟩)=some ())(a:Xf K (.ref C) "__init__" = some (some (.ref fI)))(B:typeIn K (.ref fI)=some (.type "function"))(z:q.length<=acF)
 (D:∀p e,Heap.MadeExcOf h p e (.ref C) q->Wz (YL prog w) (A.under (.builtin "type.__call__" ⟨.ref C::q,[]⟩)) (call (.ref fI) (.ref e::q)) (λr c=>r=.none∧Q (.ref e) c) E ⟨p,g,d,t,os⟩) :
 wpAny (YL prog w) A (call (.ref C) q) Q E ⟨h,g,d,t,os⟩:=by
 have m:=X
 obtain⟨⟨hC⟩,b1,b2,b3,b4⟩:=X
 have F:=ade
 have L:=tc_lookup
 have U:=tc_bind (.ref C)
 have hT:(⟨h,g,d,t,os⟩:Wj).TypeIs (.ref C) "type" := ⟨_,hC,rfl⟩
 refine abi (aa0 ?_)
 show Wz _ _ (callAny (.ref C) _) _ _ _
 repeat (any_goals (first|assumption|with_reducible refine Y8 hC ?_|wp_step))
 refine⟨rfl,codeAny_call_builtin_at (YA _ dD) aex (wpAny_check_type_call_sub hC ?_)⟩
 repeat (first|with_reducible refine Y8 hC ?_|with_reducible refine wpAny_madeBy_exc hC ?_|wp_step)
 have j:=Wl { cls:=.ref C,data:=.fields #[.ref h.objs.size,.none,.none,.none,.bool false,.none]}
  (Wl { cls:=.type "tuple",data:=.seq q.toArray} hC)
 refine codeAny_call_builtin_code (YA _ F.quiet) ((Looks.of_peek (M:=YL prog w) k (chk _)).here ?_)
 refine KZ m z ?_
 have y:K.In ((h.push { cls:=.type "tuple",data:=.seq q.toArray}).push { cls:=.ref C,data:=.fields #[.ref h.objs.size,.none,.none,.none,.bool false,.none]}):=k.keeps λb o e=>Wl _ (Wl _ e)
 have i:((h.push { cls:=.type "tuple",data:=.seq q.toArray}).push
  {cls:=.ref C,data:=.fields #[.ref h.objs.size,.none,.none,.none,.bool false,.none]}).get? (h.objs.size+1)=some
  {cls:=.ref C,data:=.fields #[.ref h.objs.size,.none,.none,.none,.bool false,.none]}:=by heap_get
 have u:(Zq C::bm).contains (.ref C)=true:=by simp
 unfold aaD
 repeat (first|with_reducible refine Y8 i ?_|(with_reducible refine Z1 j ?_;rw[u])|wp_step)
 refine Z1 j ?_
 rw[u]
 repeat (first|with_reducible refine Y8 i ?_|wp_step)
 refine adt (M:=YL prog w) y a _ _ _ _ (λ_ _ e=>e) ?_
 refine Xk (V7 (bind_fn (M:=YL prog w) y _ B _ _ _ _ (λ_ _ e=>e) ?_))
 refine V7 (Yc (D _ (h.objs.size+1) ⟨λb o hb=>Wl _ (Wl _ hb),aeS (Xq _),h.objs.size,i,aeS (Wh _),?_⟩) (λr c J=>?_) λ_ _ x=>x)
 ·exact Wl _ (Heap.get?_push_at rfl rfl)
 ·obtain⟨rfl,f⟩:=J
  wp_walk
  exact f
theorem EC(X:tQ s.heap C bm)(XK:K.In s.heap)(he:s.heap.get? e=some { cls:=.ref C,data:=.fields vs})
 (hs:Xf K (.ref C) "__setattr__" = some (some (.builtin "object.__setattr__"))) (hn:Xf K (.ref C) name=some none) (hpass:∀self,refuseLoop self "__setattr__" (.ref C::bm)=pure ()) (hobj:bm.contains (.type "object")=true)
 (hh:(clsIn K C).any (·.hasDict)=true)
 (h:∀h' tk,(∀b o,b≠e->s.heap.get? b=some o->h'.get? b=some o)->(∃o,h'.get? e=some o∧o.cls=.ref C∧o.data=.fields vs)->Q () { s with heap:=h',toks:=tk}) :
 wpAny (YL prog w) A (setAttr (.ref e) name v) Q E s:=by
 have I:InstAt s.heap e { cls:=.ref C,data:=.fields vs} C none:=⟨he,rfl,rfl,trivial⟩
 have SF:=PySem.F.store_object
 obtain⟨⟨hC⟩,b1,b2,b3,b4⟩:=X
 have cO:(Zq C::bm).contains (.type "object")=true:=by rw[Z0,hobj,Y3]
 have hm:adT (YL prog w) s.heap (mroOf (.ref C)) (.ref C::bm):=λA Q E s' hk q=>by
  obtain⟨hh,gg,d,t,os⟩:=s'
  exact wpAny_mroOf_exc (hk _ _ hC) q
 have sb:adT (YL prog w) s.heap (aaD (.ref e) (.type "object")) true:=I.type.andThen λA Q E s' hk q=>by
  obtain⟨hh,gg,d,t,os⟩:=s'
  exact Z1 (hk _ _ hC) (by rw[cO];exact q)
 refine set_plain XK I hs ?_
 refine aaN SF.slot.plain SF.entry (@check_slot (YL prog w) _ _ _ "object.__setattr__" "object" "__setattr__" (.ref e) [.str name s.toks,v] [] _ SF.kind SF.split sb (SF.args (.ref e) (.str name s.toks) v) ?_)
 rw[osa_eq,refuse_eq]
 refine V7 (V7 (I.type _ _ _ _ (λ_ _ e=>e) (V7 (hm _ _ _ _ (λ_ _ e=>e) ?_))))
 rw[hpass]
 refine Wg (V7 (I.type _ _ _ _ (λ_ _ e=>e) (V7 (adt (M:=YL prog w) XK hn _ _ _ _ (λ_ _ e=>e) (Internal.V1 (?_))))))
 obtain⟨cd,hc,hd'⟩:=any_some hh
 refine Internal.V1 ((V7 (V7 (acA he (Internal.Vv (λ_ q=>looks_clsIn (M:=YL prog w) XK hc _ _ _ _ (λ_ _ e=>e) q) ?_)))))
 rw[hd']
 have hes:e≠s.heap.objs.size:=WW (WU he)
 have he₁:(s.heap.push { cls:=.type "dict",data:=.dict #[]}).get? e=some { cls:=.ref C,data:=.fields vs}:=Wl _ he
 show Wz _ _ (alloc { cls:=.type "dict",data:=.dict #[]}>>=λd=>update e (λo=>{cls:=o.cls,dict:=some d,data:=o.data,slots:=o.slots})>>=λ_=>pure (some d)) _ _ _
 refine V7 (wpAny_alloc (V7 (wpAny_update' he₁ (Wg ?_))))
 have U:((s.heap.push { cls:=.type "dict",data:=.dict #[]}).update e λo=>{cls:=o.cls,dict:=some s.heap.objs.size,data:=o.data,slots:=o.slots}).get? s.heap.objs.size=some (dictOf [] 0):=
  (ZL _ _ _ _ hes.symm).trans (Heap.get?_push_at rfl rfl)
 have Ue:((s.heap.push { cls:=.type "dict",data:=.dict #[]}).update e λo=>{cls:=o.cls,dict:=some s.heap.objs.size,data:=o.data,slots:=o.slots}).get? e=some { cls:=.ref C,dict:=some s.heap.objs.size,data:=.fields vs}:=
  W9 _ he₁ rfl
 refine Internal.V1 ((V7 ?_))
 unfold nsSet
 refine V7 (V7 (Yn (Wg (V7 (wpAny_mkText (V7 (acA U ?_)))))))
 dsimp only
 rw[aRefKeyMayBeTheName_at,show(!([]:List aaG).toArray.any (·.key.isStr name)&&([]:List aaG).toArray.any (·.refKey))=false from by simp]
 refine wpAny_updatePart U ?_
 have U2:=W9 (Obj.putName name (Zy w.params name) (.str name (s.toks+1)) v) U (by rw[ads];rfl)
 rw[ads]at U2
 refine V7 (adI U2 (pastItsLine_dict (by rw[Wk,WT];simp[putL])) ?_)
 refine Wg (h _ _ (λb o hb hbo=>?_) ⟨_,(ZL _ _ _ _ hes).trans Ue,rfl,rfl⟩)
 have hbs:b≠s.heap.objs.size:=WW (WU hbo)
 exact(ZL _ _ _ _ hbs).trans ((ZL _ _ _ _ hb).trans (Wl _ hbo))
end
section
variable{prog:abz}{w:abx}{A:Xd}{E:V9->Wj->Prop}{s:Wj}{C fI:Addr}{bm:List V9}{K:Frag}
structure oD(K:Frag)(C fI:Addr)(fd:aaP)(me told:Str):Prop where
 at_:∃o,K.lookup fI=some o∧o.data=.func fd
 code:codeIn K fd.code fd.qualname=true
 body:∃p1 p2 p3 p4,fd.body=.stmts [.Assign [.Attribute (.Name me p1) told p2] (.Name told p3) p4]
 n1:fd.scope.names.lookup me=some .local
 n2:fd.scope.names.lookup told=some .local
 ne:(told==me)=false
 d1:(me==("__debug__" : Str))=false
 d2:(told==("__debug__" : Str))=false
 cells:∀x∈fd.scope.names,x.2≠.cell
 co:fd.scope.isCoroutine=false
 gen:fd.scope.isGenerator=false
 kind:fd.scope.kind=.function
 setter:Xf K (.ref C) "__setattr__" = some (some (.builtin "object.__setattr__"))
 free:Xf K (.ref C) told=some none
 dict:(clsIn K C).any (·.hasDict)=true
 bind:∀(s:Wj) (e x:V9),K.In s.heap->BindsTo s fd ⟨[e,x],[]⟩ [(me,e),(told,x)]
theorem tR(I:oD K C fI fd me told)(X:tQ s.heap C bm)(XK:K.In s.heap)(hlim:s.heap.NoLimit)(hpass:∀me,refuseLoop me "__setattr__" (.ref C::bm)=pure ())(hobj:bm.contains (.type "object")=true)(hroom:A.depth<recursionLimit)(he:s.heap.get? e=some { cls:=.ref C,data:=.fields vs})
 (h:∀h' tk,(∀b o,b≠e->s.heap.get? b=some o->h'.get? b=some o)->(∃o,h'.get? e=some o∧o.cls=.ref C∧o.data=.fields vs)->Q .none { s with heap:=h',toks:=tk}) :
 wpAny (YL prog w) A (call (.ref fI) [.ref e,x]) Q E s:=by
 refine Wo λno=>?_
 obtain⟨fo,hfo,hfd⟩:=I.at_
 refine no ?_
 refine Wo λno=>?_
 obtain⟨p1,p2,p3,p4,hbody⟩:=I.body
 refine no ?_
 refine abi (codeAny_call_def (o:=fo) (fd:=fd) (binds:=[(me,.ref e),(told,x)]) hroom (XK _ _ hfo) hfd hlim (codeRec_of XK I.code) hbody (I.bind s _ _ XK) I.cells (λy hy=>?_) (λh₀ hns hk=>?_) I.co I.gen I.kind)
 ·rcases Wf.mp hy with rfl|hy
  ·exact I.n1
  ·rcases Wf.mp hy with rfl|hy
   ·exact I.n2
   ·cases hy
 ·have ekind:(callEnv fd s.heap.objs.size fI).scope.kind=.function:=I.kind
  have m2:(λy=>[(me,Zq e),(told,x)].reverse.lookup y) told=some x:=by
   show ac8 told [(told,x),(me,Zq e)]=some x
   simp
  have m1:(λy=>[(me,Zq e),(told,x)].reverse.lookup y) me=some (.ref e):=by
   show ac8 me [(told,x),(me,Zq e)]=some (.ref e)
   have:(me==told)=false:=by
    have:=I.ne
    rw[beq_eq_false_iff_ne]at *
    exact λq=>this q.symm
   simp[ac8,this]
  have X₀:tQ h₀ C bm:=⟨by obtain⟨hC⟩:=X.at_;exact⟨hk _ _ hC⟩,X.b1,X.b2,X.b3,X.b4⟩
  refine wpAny_execs_cons ?_
  rw[ad1]
  refine Internal.Vv (λ_ q=>acW q) ?_
  rw[show ae4 [.Attribute (.Name me p1) told p2] (.Name told p3) p4.line (callEnv fd s.heap.objs.size fI)=pure false from rfl]
  refine Internal.V1 (?_)
  rw[if_neg dD]
  refine V7 (wpAny_Name (acB ekind I.n2 hns m2 ?_) I.d2)
  rw[show ZA [.Attribute (.Name me p1) told p2] (.Name told p3) (callEnv fd s.heap.objs.size fI)=pure none from rfl]
  refine Internal.V1 (?_)
  show Wz _ _ (do assignAll x [Y1 (.Attribute (.Name me p1) told p2) (callEnv fd s.heap.objs.size fI)];pure acf) _ _ _
  refine V7 ?_
  show Wz _ _ (do XH [] (Y1 (.Attribute (.Name me p1) told p2) (callEnv fd s.heap.objs.size fI) x)) _ _ _
  refine Xk ?_
  rw[arm_assign_Attribute]
  refine V7 (Xk (wpAny_Name (acB ekind I.n1 hns m1 ?_) I.d1))
  refine V7 (acW (V7 (Xk ?_)))
  refine EC X₀ (XK.keeps hk) (hk _ _ he) I.setter I.free hpass hobj I.dict λh' tk hk' ho=>?_
  refine abn (Wg (wpAny_execs_nil ?_))
  exact h h' tk (λb o hb hbo=>hk' b o hb (hk b o hbo)) ho
end
end
structure yF(g:Gl)(K:Frag)(bm:List V9)(fI:Addr)(fd:aaP)(me told:Str):Prop where
 cls:tQ g.B cp bm
 init:Xf K (.ref cp) "__init__" = some (some (.ref fI))
 isf:typeIn K (.ref fI)=some (.type "function")
 facts:oD K cp fI fd me told
 pass:∀x,refuseLoop x "__setattr__" (.ref cp::bm)=pure ()
 obj:bm.contains (.type "object")=true
 keeps:Keeps g (.ref cp)
 chk:∀S rest,peek K S (XN "Exception.__new__" ⟨.ref cp::rest,[]⟩)=some ()
inductive R0(g:Gl)(cx:Cx)(bm:List V9)(X:St->Prop)(x:V9)(s:Wj):Prop
 |mk {e:Addr} {o:Obj} {vs:Array V9} (hx:x=.ref e) (C:tQ s.heap cp bm) (ho:s.heap.get? e=some o) (hc:o.cls=.ref cp) (hd:o.data=.fields vs) (h1:vs[1]? = some .none) (u:hH g cx X x s)
section
variable{g:Gl}{cx:Cx}{tmp:List V}{vals:List V9}{st st₀:St}{s s₀:Wj}{A:Xd}{x y z:V9}{a b v u:V}{vs:List V}{F F':FZ}{E:V9->Wj->Prop}{Q:V->St->Prop}{X:St->Prop}{hp:Heap}{tk n:Nat}{I:Addr}{o o':Obj}
variable{W W1 W2 W3 Wi Wb:PT}{Wt:gG}{target iter t e:Expr}{body:List Stmt}{pos:Pos}{outer:List Env}{es:List Expr}{K:Frag}{bm:List V9}{fI:Addr}{fd:aaP}{me told:Str}
theorem tQ.keeps(X:tQ h C bm)(k:∀b o,h.get? b=some o->d.get? b=some o):tQ d C bm:=⟨by
 obtain⟨hC⟩:=X.at_
 exact⟨k _ _ hC⟩,X.b1,X.b2,X.b3,X.b4⟩
theorem ED(T:Top g K)(B:yF g K bm fI fd me told)(J:gJ cx.stk cx.lvl A)(R:aI g cx [v] [z] st s)(q:X st):Wz g.M A (call (.ref cp) [z]) (R0 g cx bm X) E s:=by
 have base:=R.base
 refine GR (B.cls.keeps base) (T.k.keeps base) (λS=>B.chk S _) B.init B.isf (by show 1<=acF;rw[WT];decide) λZ e M=>?_
 refine Wo λno=>?_
 obtain⟨t,f,L,Y⟩:=M.there
 refine no ?_
 refine tR B.facts ((B.cls.keeps base).keeps M.keeps) ((T.k.keeps base).keeps M.keeps) ((T.nolim.keeps base).keeps M.keeps) B.pass B.obj ?_ f λp tk w U=>⟨rfl,?_⟩
 ·exact Wp (Wm (V4 (Wq _ _) J.depth)) (V5 rfl)
 have c:∀b o,s.heap.get? b=some o->b≠e:=λb o q z=>by rw[z,M.new]at q;cases q
 have k:∀b o,s.heap.get? b=some o->p.get? b=some o:=λb o q=>w b o (c b o q) (M.keeps b o q)
 refine Wo λno=>?_
 obtain⟨o,j,i,d⟩:=U
 refine no ?_
 exact .mk rfl ((B.cls.keeps base).keeps k) j i d rfl (.mk (R.pop.keeps k) (.mk rfl j i d rfl rfl (match q:g.B.get? e with
  |none=>rfl
  |some D=>absurd rfl (c _ _ (base _ _ q))) (λq=>(R.rsv e q).2.elim λD m=>c _ _ m rfl) (.inl rfl)) q)
set_option tactic.hygienic true in
theorem EE{env:Env}{Q:Flow->Wj->Prop}(hh:A.handled=none)(b:R0 g cx bm X x s):Wz g.M A (acO env (some (pure x)) none) Q (hH g cx X) s:=by
 obtain⟨rfl,C,he,hcls,hd,h1,hE⟩:=b
 rename_i e o vs
 obtain⟨⟨hC⟩,b1,b2,b3,b4⟩:=C
 have hcB:(Zq cp::bm).contains (.type "BaseException")=true:=by rw[Z0,b2,Y3]
 obtain⟨hp,gg,d,tk,os⟩:=s
 obtain⟨oc,od,odt,osl⟩:=o
 subst hcls hd
 unfold acO
 refine V7 (Wg ?_)
 repeat (first|with_reducible refine Y8 he ?_|with_reducible refine Y8 hC ?_|(with_reducible refine Z1 hC ?_;rw[hcB])|wp_step)
 rw[h1]
 refine Wg ?_
 rw[if_neg dD]
 exact Wg (wpAny_raiseNew_none hh hE)
theorem OW{P:Prop}{xs:List V9}(l:[v].length=xs.length)(k:∀z,xs=[z]->P):P:=by
 cases xs with
 |nil=>cases l
 |cons z r=>cases r with
  |nil=>exact k z rfl
  |cons=>cases l
theorem GS{env:Env}{m:Sem V9}{Q:Flow->Wj->Prop}(h:wq g A m (λx s'=>Wz g.M A (acO env (some (pure x)) none) Q E s') E s):wq g A (acO env (some m) none) Q E s:=by
 unfold acO at *
 exact aq (aV h λx s h=>aF h)
theorem K0(T:Top g K)(B:yF g K bm fI fd me told){x:Str}{np cpos:Pos}{arg:Expr}(hf:bE g cx (.Name x np) (af (.raw (.ref cp))))(ha:An g cx cpos [arg] (aa W ag))(hplain:(Zf cpos (X0 [arg] cx.env)).any (·.1)=false) :
 j1 g cx (.Raise (some (.Call (.Name x np) [arg] [] cpos)) none pos) (bj W):=@λA s st Q X oa R w=>by
 refine aU (t:=acO cx.env (some (do let v ←eval (.Call (.Name x np) [arg] [] cpos) cx.env;XC pos;pure v)) none) ?_
 refine GS (aq (?_:wq g A (do aeA cpos (←eval (.Name x np) cx.env) [] (Zf cpos (X0 [arg] cx.env)) (backToKw cpos (adR [] cx.env))) _ _ _))
 exact TE.then_ (Q:=λv st'=>v=.raw (.ref cp)∧W (λ_ st1=>X st1) X st') hf oa R ⟨rfl,w⟩ λv x st s R q=>by
  obtain⟨rfl,q⟩:=q
  obtain rfl:x=.ref cp:=R.tmp.1
  refine bO B.keeps hplain (aV (ha (Q:=λvs st1=>iE vs λvs=>only vs λ_=>X st1) oa R.pop q) λxs s u=>u.elim' λvs st R l q=>⟨R.base,?_⟩)
  obtain⟨v,rfl,q⟩:=c9 q
  refine OW l λz e=>?_
  subst e
  exact aF (Yc (ED T B oa R q) (λ_ _ h=>aU (ax (EE oa.handled h))) λ_ _ h=>h)
set_option tactic.hygienic true in
theorem rX(R:aI g cx tmp vals st s)(X:mi g L cx.rv s.heap x)(k:∀Z,aI g cx tmp vals st Z->mi g none cx.rv Z.heap x->h () Z):Wz g.M A (setFlight x none) h E s:=by
 obtain⟨rfl,w,c,hd,h0,h1,S,U,@⟨T,oT,G,l,rfl,J,D,p,i,j,H,hl⟩⟩:=X
 rename_i e oe vs a0
 refine V7 (acD w hd h1 ?_)
 rw[if_pos (by simp)]
 have m:=(aaR.mp H).1
 refine wpAny_setField i j m ?_
 have d:∀b,b≠T->(s.heap.update T (Obj.mapFields (·.setIfInBounds 3 ((none:Option Addr).elim aaO λf=>Y5 f)))).get? b=s.heap.get? b:=λb hb=>aee _ _ (XW hb)
 refine k _ (R.slots (tk:=s.toks) (hid:=[T]) (λb o B Y=>⟨o.slots,(d b λq=>?_).trans B⟩) (λb o B Y=>(d b λq=>Y (by rw[q];exact .head _)).trans B) λb hb=>?_)
  (.mk rfl ((d e (XW p)).trans w) c hd h0 h1 S U (.mk rfl J D p (W9 _ i (ab0 (aa2 j _))) (aa2 j _) (l:=.none) (by simp[m]) (.inl rfl)))
 ·rw[q,i]at B;cases B;exact Y G j
 ·rw[Wr.mp hb]
  exact .inr ⟨J,D,oT,G,i,j⟩
def CM(g:Gl)(cx:Cx)(e:Expr)(v:V):Prop:=∀{A:Xd} {d:V9->Wj->Prop} {q:V9->Wj->Prop} {s:Wj},(∀t x,(∀F,VR g F v x)->d x { s with toks:=t})->Wz g.M A (eval e cx.env) d q s
theorem R6(T:Top g K)(B:yF g K bm fI fd me told)(htop:cx.stk=cx.env::outer){sc:Za}(hsc:cx.env.scope=sc){x y:Str}{np py ap hp kp:Pos}{i:Nat}{e:Expr}
 (hb:Ax g cx body W) (hx:cx.env.kindOf x=some .globalImplicit) (hxd:(x==("__debug__" : Str))=false) (e1:nsIn K Xv x=some (some (.ref cp))) (hi:cx.names[i]? = some y) (hk:jP cx y) (hs:ZT e (some (.Name y py)) ap.line (qh sc)=pure false) (hv:CM g cx e v) :
 j1 g cx (.Try body [.ExceptHandler (some (.Name x np)) none [.Assign [.Name y py] e ap] hp] [] [] pos) (vQ W i v):=@λA s st Q X oa R w=>by
 refine aU (t:=tryStmt false (aew body cx.env) _ (aew [] cx.env) [] cx.env) ?_
 refine aq (kW (be (hb oa R w) (λf s u=>?_) λx s u=>?_))
 ·cases u with
  |next R q=>exact ax (.next R q)
  |ret R q=>exact ax (.ret R q)
 ·obtain⟨R,f,q⟩:=u
  obtain⟨L,hL⟩:=(R.ok.stk cx.env (htop▸.head _)).2
  refine aq (aF (rV R oa.frames htop hL.1 f λs2 R2 N2=>aq (aF (rX R2 N2 λs3 R3 N3=>aF ?_))))
  obtain⟨rfl,hoe,hcls,hd,h0,h1,hbe,hne,ht⟩:=id N3
  refine wpAny_handleBy_cons (codeAny_handlers_test ?_) (by intro q;cases q)
  refine Wo λno=>?_
  obtain⟨mg,mb,g1,g2,g3⟩:=T.ns
  obtain⟨hh,gg,dd,tt,os⟩:=s3
  obtain⟨hC⟩:=B.cls.at_
  refine no ?_
  refine acH R.ok.kind hx (loadGlobal_global (by rw[R.ok.globals];exact g1.keeps R3.base) (mg_of T.k g1 e1) ?_) hxd
  refine wpAny_excMatches_sub_self (R3.base _ _ hC) hoe hcls B.cls.b2 (codeAny_handlers_suite (rX R3 N3 λs4 R4 N4=>wpAny_execs_cons (wpAny_Assign_Name ?_ (by rw[dG hsc];exact hs))))
  exact hv λt z hz=>gp ((R4.toks (tk:=t)).push (hz _)) hi hk λs5 R5=>wpAny_execs_nil (.next R5 q)
end
def rm(k:Zn)(l:List (Str×Zn)):List Str:=(l.filter (·.2==k)).map (·.1)
theorem CN:x∈rm k l↔(x,k)∈l:=
 ⟨λh=>let⟨⟨a,b⟩,d,e⟩:=WC.mp h;have⟨m1,m2⟩:=abS.mp d;by
  obtain rfl:a=x:=e
  obtain rfl:b=k:=eq_of_beq m2
  exact m1,λh=>WC.mpr ⟨_,abS.mpr ⟨h,beq_self_eq_true k⟩,rfl⟩⟩
def cap(cells:List (Str×Addr))(p:Str×Zn):Option (Str×Addr):=if p.2==.free then(cells.lookup p.1).map λc=>(p.1,c)else none
def iP(cells:List (Str×Addr))(l:List (Str×Zn)):List (Str×Addr):=(l.filterMap (cap cells)).reverse
section
theorem rY(h:cap cells p=some q):p.2=.free∧q.1=p.1∧cells.lookup p.1=some q.2:=by
 unfold cap at h
 generalize d:(p.2==.free)=y;cases y with
 |false=>rw[d]at h;cases h
 |true=>
  rw[d,if_pos rfl]at h
  obtain⟨c,h1,rfl⟩:=Yl.mp h
  exact⟨eq_of_beq d,rfl,h1⟩
theorem GU(h:p∈iP cells l):(p.1,Zh)∈l∧cells.lookup p.1=some p.2:=by
 obtain⟨q,d,e⟩:=aaV.mp (aam.mp h)
 obtain⟨y,j,i⟩:=rY e
 rw[j]
 exact⟨by rw[←y];exact d,i⟩
theorem GV(h:(x,Zh)∈l)(hc:cells.lookup x=some c):(x,c)∈iP cells l:=
 aam.mpr (aaV.mpr ⟨_,h,by unfold cap;rw[if_pos (beq_self_eq_true _),hc];rfl⟩)
theorem u4(hs:∀a b,R a b->R b a)(z:(l.map (·.1)).Nodup)(h:∀p q:Str×Addr,p.1≠q.1->cells.lookup p.1=some p.2->cells.lookup q.1=some q.2->R p q):(iP cells l).Pairwise R:=
 List.pairwise_reverse.mpr (((Zx.mp z).filterMap _ λa k n b hb c d=>by
  obtain⟨_,j,u⟩:=rY hb
  obtain⟨_,y,i⟩:=rY d
  exact hs _ _ (h b c (by rw[j,y];exact n) (by rw[j];exact u) (by rw[y];exact i))))
theorem AK(ha:cells.Pairwise λx y=>x.2≠y.2)(d:(l.map (·.1)).Nodup):(iP cells l).Pairwise λx y=>x.2≠y.2:=u4 (λ_ _=>XW) d λp q n h1 j=>mn ha h1 j n
theorem EF(d:(l.map (·.1)).Nodup)(h:(x,Zh)∈l)(hc:cells.lookup x=some c):(iP cells l).lookup x=some c:=
 dA (Zx.mpr (u4 (λ_ _=>XW) d λp q n _ _=>n)) (GV h hc)
theorem AL(scope:Za)(h:∀x,(x,Zh)∈scope.names->∃c,env.cells.lookup x=some c):aey scope env=pure (iP env.cells scope.names):=by
 unfold aey
 have main:∀(l:List (Str×Zn)) (acc:List (Str×Addr)),(∀x,(x,Zh)∈l->∃c,env.cells.lookup x=some c)->
  (forIn l acc λ(x:Str×Zn) (r:List (Str×Addr))=>(if x.2==.free then(do let c ←cellOf env x.1;pure (abh ((x.1,c)::r)))else pure (abh r):Sem (ForInStep (List (Str×Addr)))))=pure (iP env.cells l++acc):=by
  intro l
  induction l with
  |nil=>intro acc _;rfl
  |cons p r ih=>
   intro acc h
   rw[adi]
   unfold iP
   rw[List.filterMap_cons]
   generalize hk:(p.2==.free)=zz;cases zz with
   |true=>
    obtain⟨c,hc⟩:=h p.1 (eq_of_beq hk▸.head _)
    have e1:cellOf env p.1=pure c:=by unfold cellOf;rw[hc]
    have e2:cap env.cells p=some (p.1,c):=by unfold cap;rw[hk,if_pos rfl,hc];rfl
    rw[if_pos rfl,e1,e2,abc,Wn]
    exact ih _ λx hx=>h x (.tail _ hx)
   |false=>
    have e2:cap env.cells p=none:=by unfold cap;rw[hk];rfl
    rw[if_neg dD,e2]
    exact ih _ λx hx=>h x (.tail _ hx)
 have:=main scope.names [] h
 rw[WH]at this
 exact(congrArg (λt=>t>>=λcs=>pure cs) this).trans rfl
def eU(S:Za)(scope:Za):Scope:={scope with names:=scope.names.map λ(n,k)=>if(k==.free&&ad2==ad2&&S.names.lookup n==some .cell)then(n,.cell)else(n,k)}
theorem yG(d:env.scope.kind=.function)(h:env.scope.names=S.names):ab7 scope env=eU S scope:=by
 unfold ab7 eU Env.kindOf
 rw[d,h]
theorem u5(S scope:Za):(eU S scope).names.map (·.1)=scope.names.map (·.1):=by
 unfold eU
 rw[Xy]
 exact acn λx _=>show(if _ then _ else _:Str×Zn).1=_ by split <;> rfl
theorem Rd(h:(x,k)∈scope.names)(d:(k==Zh)=false):(x,k)∈(eU S scope).names:=
 WC.mpr ⟨(x,k),h,show(if _ then _ else _)=_ by rw[d];rfl⟩
theorem AM(h:(x,Zh)∈scope.names)(hc:S.names.lookup x=some .cell):(x,NameKind.cell)∈(eU S scope).names:=
 WC.mpr ⟨(x,.free),h,show(if _ then _ else _)=_ by rw[hc];rfl⟩
end
noncomputable def Cx.comp(cx:Cx)(env:Env)(m:Str->Option V9)(hp:Heap)(names:List Str)(D:Addr)(F:FZ):Cx:=
 {cx with env,rv:=D::env.locals::cx.rv,keep:=OT hp cx.env.cells++cx.keep,outer:=(cx.env.locals,m)::cx.outer,w:=F,names,ro:=true}
def Cx.res(cx:Cx)(C:Addr):Cx:={cx with rv:=C::cx.rv}
structure hN(cx:Cx)(D:Addr):Prop where
 rv:D∈cx.rv
 loc:D≠cx.env.locals
 frs:D∉cx.frs
 keep:∀q∈cx.keep,q.1≠D
 outer:∀q∈cx.outer,q.1≠D
 cells:∀p∈cx.env.cells,p.2≠D
def Cx.hold(cx:Cx)(D:Addr)(o:Obj):Cx:={cx with keep:=(D,o)::cx.keep}
def Ng(S:Za)(names frees:List Str)(is:List Nat):Prop:=is.length=frees.length∧∀(j:Nat) (x:Str) (i:Nat),frees[j]? = some x->is[j]? = some i->names[i]? = some x∧S.names.lookup x=some .cell
section
variable{g:Gl}{cx:Cx}{tmp:List V}{vals:List V9}{st st₀:St}{s s₀:Wj}{A:Xd}{x y z:V9}{a b v u:V}{vs us:List V}{ys:List V9}{F F':FZ}{E:V9->Wj->Prop}{Q:V->St->Prop}{X:St->Prop}{hp:Heap}{tk n:Nat}{I C D:Addr}{o o':Obj}
variable{S scope:Za}{names frees:List Str}{is:List Nat}{loc:List (Option V)}{h:AH}{m m':Str->Option V9}{env:Env}
theorem aI.into(R:aI g cx tmp vals ⟨loc,h⟩ s)(c:c6 cx S names n true)(G:Ng S names (rm .free scope.names) is)(hnd:cn=rm .local scope.names++rm .free scope.names)(hn:cn.Nodup)(L:(scope.names.map (·.1)).Nodup)(J:scope.kind=.function)
 (he:env=compEnvC scope (iP cx.env.cells scope.names) C cx.env) (hC:s.heap.objs.size<=C) (hD:s.heap.objs.size<=D) (hCD:D≠C) (U:∀b o,s.heap.get? b=some o->hp.get? b=some o) (hDo:∃o,hp.get? D=some o) (Z:hp.Ns C m')
 (hm:s.heap.Ns cx.env.locals m∧∀(i:Nat) x v,cx.names[i]? = some x->loc[i]? = some (some v)->∃w,VR g (cx.F ⟨loc,h⟩ s) v w∧Ku cx.env m s.heap x w) :
 aI g (cx.comp env m s.heap cn D (cx.F ⟨loc,h⟩ s)) [] [] ⟨WZ (rm .local scope.names).length none++eI is loc,h⟩ { s with heap:=hp,toks:=tk}∧hN (cx.comp env m s.heap cn D (cx.F ⟨loc,h⟩ s)) D:=by
 subst he
 have old:∀{a},a∈cx.rv->a<s.heap.objs.size:=λh=>let⟨_,e⟩:=(R.rsv _ h).2;WU e
 have nC:∀{a},a∈cx.rv->a≠C:=λh=>WW (WA (old h) hC)
 have H:∀{a},a∈cx.rv->a≠D:=λh=>WW (WA (old h) hD)
 have cell:∀{p},p∈iP cx.env.cells scope.names->p∈cx.env.cells:=λh=>aX (GU h).2
 have kk:∀q∈Internal.OT s.heap cx.env.cells++cx.keep,q.1∈cx.rv∧q.1∉cx.frs:=λq h=>(WD.mp h).elim (λh=>let⟨p,h1,e⟩:=(R.objs h).1;e▸⟨(R.ok.cells p h1).1,(R.ok.cells p h1).2.2⟩) λh=>⟨(R.ok.keep q h).1,(R.ok.keep q h).2.2⟩
 have oo:∀q∈(cx.env.locals,m)::cx.outer,q.1∈cx.rv:=λq h=>(Wf.mp h).elim (λe=>e▸R.ok.own) λh=>(R.ok.outer q h).1
 have up:∀{a},a∈cx.rv->a∈D::C::cx.rv:=λh=>.tail _ (.tail _ h)
 have nn:∀{a o},s.heap.get? a=some o->a∉cx.rv->a∉D::C::cx.rv:=λe h q=>(Wf.mp q).elim (λq=>Xh.mpr hD (q▸WU e)) λq=>(Wf.mp q).elim (λq=>Xh.mpr hC (q▸WU e)) h
 have hF:∀a o,cx.F ⟨loc,h⟩ s a o->Fz hp h (D::C::cx.rv) a o:=λa o z=>⟨U _ _ z.1,z.2.1,nn z.1 z.2.2.1,z.2.2.2⟩
 have f:=R.keeps (tk:=tk) U
 refine⟨
 {ok:=
  {kind:=J,globals:=R.ok.globals,builtins:=R.ok.builtins,apart:=AK R.ok.apart L,names:=hn,head:=R.ok.head,stk:=R.ok.stk
   own:=.tail _ (.head _)
   frs:=λa h=>up (R.ok.frs a h)
   cells:=λp h=>let k:=R.ok.cells p (cell h);⟨up k.1,nC k.1,k.2.2⟩
   keep:=λq h=>let k:=kk q h;⟨up k.1,nC k.1,k.2⟩
   outer:=λq h=>⟨up (oo q h),nC (oo q h)⟩
   free:=λp h e=>tf e}
  base:=f.base,gens:=f.gens,os:=f.os
  known:=λa o e=>let k:=R.known a o e;let⟨z,h1,h2⟩:=k.obj;⟨k.low,nn h1 k.nrv,z,U _ _ h1,h2.mono hF⟩
  rsv:=λa h=>(Wf.mp h).elim (λe=>e▸⟨V4 R.size hD,hDo⟩) λh=>(Wf.mp h).elim (λe=>e▸⟨V4 R.size hC,Z.imp λ_ z=>z.elim λ_ z=>z.elim λ_ z=>z.1⟩) (f.rsv a)
  frs:=f.frs
  keep:=λq h=>(WD.mp h).elim (λh=>U _ _ (R.objs h).2) (f.keep q)
  outer:=λq h=>(Wf.mp h).elim (λe=>e▸hm.1.keeps U) (f.outer q)
  cl:=λp h=>f.cl p (cell h)
  loc:=⟨_,Z,λi y v Y d=>?_⟩
  wait:=hF
  tmp:=rfl},
 {rv:=.head _,loc:=hCD,frs:=λq=>H (R.ok.frs _ q) rfl,keep:=λq h=>H (kk q h).1,outer:=λq h=>H (oo q h),cells:=λp h=>H (R.ok.cells p (cell h)).1}⟩
 have B:(WZ (rm .local scope.names).length (none:Option V)).length=(rm .local scope.names).length:=List.length_replicate ..
 have d:(WZ (rm .local scope.names).length none++eI is loc)[i]? = some (some v):=d
 have Y:cn[i]? = some y:=Y
 have q:(rm .local scope.names).length<=i:=Xh.mp λq=>by
  rw[aa7 (B.symm▸q),ad7,if_pos q]at d;cases d
 rw[ZF (B.symm▸q),B]at d
 rw[hnd,ZF q]at Y
 unfold eI at d
 rw[YF]at d
 refine Wo λno=>?_
 obtain⟨j,hj,d⟩:=Yl.mp d
 obtain⟨h1,h2⟩:=G.2 _ y j Y hj
 refine no ?_
 refine Wo λno=>?_
 obtain⟨w,w1,w2⟩:=hm.2 j y v (c.names.symm▸h1) (adL.mp d)
 refine no ?_
 have hf:=CN.mp (Xx Y)
 have ck:cx.env.kindOf y=some .cell:=(congrArg (ac8 y) c.kinds).trans h2
 refine⟨w,VR.mono hF _ _ w1,?_⟩
 cases w2 with
 |loc k=>rw[k]at ck;cases ck
 |@cell cc k e hc=>
  exact .cell (.inl (by
   show(ab7 scope cx.env).names.lookup y=_
   rw[yG R.ok.kind c.kinds]
   exact dA (by rw[u5];exact L) (AM hf h2))) (EF L hf e) (hc.imp λ_ z=>⟨U _ _ z.1,z.2⟩)
theorem aI.outof(R:aI g cx tmp vals ⟨loc,h⟩ s)(hC:s.heap.objs.size<=env.locals)(Z:s.heap.objs.size<=D)(f:D≠env.locals)
 (L:s.heap.Ns cx.env.locals m∧∀(i:Nat) x v,cx.names[i]? = some x->loc[i]? = some (some v)->∃j,VR g (cx.F ⟨loc,h⟩ s) v j∧Ku cx.env m s.heap x j)
 (d:aI g ((cx.comp env m s.heap H D (cx.F ⟨loc,h⟩ s)).hold D (sq "list" xs n)) us xs st s₀) (U:us.length<=1000000):aI g (cx.res env.locals) (.lst us::tmp) (.ref D::vals) ⟨loc,st.h⟩ s₀:=
 have old:∀{a},a∈cx.rv->a<s.heap.objs.size:=λh=>let⟨_,e⟩:=(R.rsv _ h).2;WU e
 have nC:∀{a},a∈cx.rv->a≠env.locals:=λh=>WW (WA (old h) hC)
 have out:∀{a},a∉D::env.locals::cx.rv->a∉env.locals::cx.rv:=λh q=>h (.tail _ q)
 have w:∀a o,Fz s₀.heap st.h (D::env.locals::cx.rv) a o->Fz s₀.heap st.h (env.locals::cx.rv) a o:=λa o z=>⟨z.1,z.2.1,out z.2.2.1,z.2.2.2⟩
 have J:∀a o,cx.F ⟨loc,h⟩ s a o->Fz s₀.heap st.h (env.locals::cx.rv) a o:=λa o z=>w a o (d.wait a o z)
 have cells:∀p∈cx.env.cells,∀v,s.heap.IsCell p.2 v->s₀.heap.IsCell p.2 v:=λp h v z=>by
  have:=d.keep _ (.tail _ (Yg _ (WC.mpr ⟨p,h,rfl⟩)))
  obtain⟨o,Y,G⟩:=z
  exact⟨o,by rw[this];show some ((s.heap.get? p.2).getD default)=_;rw[Y];rfl,G⟩
 have B:D∉env.locals::cx.rv:=λq=>(Wf.mp q).elim f λq=>Xh.mpr Z (old q)
 {ok:={R.ok with
   own:=.tail _ R.ok.own
   frs:=λa h=>.tail _ (R.ok.frs a h)
   cells:=λp h=>⟨.tail _ (R.ok.cells p h).1,(R.ok.cells p h).2⟩
   keep:=λp h=>⟨.tail _ (R.ok.keep p h).1,(R.ok.keep p h).2⟩
   outer:=λp h=>⟨.tail _ (R.ok.outer p h).1,(R.ok.outer p h).2⟩}
  base:=d.base,gens:=d.gens,os:=d.os
  known:=λa o e=>let k:=d.known a o e;⟨k.low,out k.nrv,k.obj.imp λ_ z=>⟨z.1,z.2.mono w⟩⟩
  rsv:=λa h=>d.rsv a (.tail _ h)
  frs:=d.frs
  keep:=λq h=>d.keep q (.tail _ (WK _ h))
  outer:=λq h=>d.outer q (.tail _ h)
  cl:=λp h=>(R.cl p h).imp λv z=>cells p h v z
  loc:=⟨m,d.outer (cx.env.locals,m) (.head _),λi y v a b=>(L.2 i y v a b).imp λj z=>⟨VR.mono J _ _ z.1,z.2.keep rfl λc v e q=>cells (y,c) (aX e) v q⟩⟩
  wait:=λa o z=>J a o (R.wait a o z)
  tmp:=⟨show bQ _ _ _ _ from .mk rfl ⟨d.keep _ (.head _),d.rvNone (.head _),B,c7 rfl rfl⟩ (d.tmp.length▸U) (d.tmp.mono w),R.tmp.mono J⟩}
theorem aI.unres(R₀:aI g cx [] [] st₀ s₀)(R:aI g (cx.res C) tmp vals st s)(hC:C∉cx.rv)(hs:Xg C s.heap hp):aI g cx tmp vals st { s with heap:=hp,toks:=tk}:=
 have to:∀{b o},b≠C->s.heap.get? b=some o->hp.get? b=some o:=λq e=>(hs.2 _ q).trans e
 have ne:∀{b},b∈cx.rv->b≠C:=λh e=>hC (e▸h)
 have hF:∀b o,Fz s.heap st.h (C::cx.rv) b o->Fz hp st.h cx.rv b o:=λb o z=>⟨to (λe=>z.2.2.1 (e▸.head _)) z.1,z.2.1,λq=>z.2.2.1 (.tail _ q),z.2.2.2⟩
 have kc:∀{c v},c∈cx.rv->s.heap.IsCell c v->hp.IsCell c v:=λh z=>z.imp λ_ z=>⟨to (ne h) z.1,z.2⟩
 have kn:∀{a m},a∈cx.rv->s.heap.Ns a m->hp.Ns a m:=λh z=>z.imp λ_=>XF λ_=>XF λ_ z=>⟨to (ne h) z.1,z.2⟩
 {ok:=R₀.ok,gens:=R.gens,os:=R.os
  base:=λb o e=>to (λq=>by rw[q,dI (R.rsv C (.head _)).1]at e;cases e) (R.base b o e)
  known:=λb o e=>let k:=R.known b o e;⟨k.low,λq=>k.nrv (.tail _ q),k.obj.imp λ_ z=>⟨to (λq=>k.nrv (q▸.head _)) z.1,z.2.mono hF⟩⟩
  rsv:=λa h=>⟨(R.rsv a (.tail _ h)).1,(R.rsv a (.tail _ h)).2.imp λ_ z=>to (ne h) z⟩
  frs:=λa h=>(R.frs a h).imp λ_ z=>⟨to (ne (R₀.ok.frs a h)) z.1,z.2⟩
  keep:=λq h=>to (ne (R₀.ok.keep q h).1) (R.keep q h)
  outer:=λq h=>kn (R₀.ok.outer q h).1 (R.outer q h)
  cl:=λp h=>(R.cl p h).imp λv z=>kc (R₀.ok.cells p h).1 z
  loc:=R.loc.imp λm z=>⟨kn R₀.ok.own z.1,λi y v a b=>(z.2 i y v a b).imp λval z=>⟨VR.mono hF _ _ z.1,z.2.keep rfl λc v e q=>kc (R₀.ok.cells (y,c) (aX e)).1 q⟩⟩
  wait:=λa o z=>hF a o (R.wait a o z)
  tmp:=R.tmp.mono hF}
end
section
variable{g:Gl}{cx c0:Cx}{tmp tmp':List V}{vals vals':List V9}{st st₀:St}{s s₀:Wj}{A:Xd}{x y z:V9}{a b v u:V}{vs us acc:List V}{xs ys:List V9}{F F':FZ}{E:V9->Wj->Prop}{Q:V->St->Prop}{X:St->Prop}{hp:Heap}{tk n m:Nat}{I C D:Addr}{o o' ob ob':Obj}
theorem aI.less(R:aI g cx tmp vals st s)(h:∀p∈k,p∈cx.keep):aI g { cx with keep:=k} tmp vals st s:=
 {R with
  ok:={R.ok with keep:=λp q=>R.ok.keep p (h p q),free:=λp hp a b=>⟨λq d=>(R.ok.free p hp a b).1 q (h q d),(R.ok.free p hp a b).2⟩}
  known:=λa o e=>let k:=R.known a o e;⟨k.low,k.nrv,k.obj⟩
  keep:=λp q=>R.keep p (h p q)}
theorem aI.held(R:aI g cx tmp vals st s)(L:hN cx D)(e:s.heap.get? D=some o):aI g (cx.hold D o) tmp vals st s:=
 {R with
  ok:={R.ok with
   keep:=λp q=>(Wf.mp q).elim (λe=>e▸⟨L.rv,L.loc,L.frs⟩) (R.ok.keep p)
   free:=λp hp a b=>⟨λq d=>(Wf.mp d).elim (λe=>by rw[e];exact(L.cells p hp).symm) ((R.ok.free p hp a b).1 q),(R.ok.free p hp a b).2⟩}
  known:=λa o e=>let k:=R.known a o e;⟨k.low,k.nrv,k.obj⟩
  keep:=λp q=>(Wf.mp q).elim (λh=>by rw[h];exact e) (R.keep p)}
theorem cS.ne(L:cS g cx st s I o)(h:D∈cx.rv):I≠D:=λe=>L.nrv (e▸h)
theorem hN.addIt(L:hN cx D)(h:I≠D):hN (cx.addIt I o F) D:={L with rv:=.tail _ L.rv,keep:=λq d=>(Wf.mp d).elim (λe=>by rw[e];exact h) (L.keep q)}
theorem aI.forth(R:aI g (c0.hold D ob) tmp vals st s)(L:cS g c0 st s I o):aI g ((c0.addIt I o (c0.F st s)).hold D ob) tmp vals st s:=
 ((R.addIt (cx:=c0.hold D ob) ⟨L.big,L.unk,L.nrv,L.at_,L.fld⟩).1).less λp h=>(Wf.mp h).elim (λe=>e▸.tail _ (.head _)) λh=>(Wf.mp h).elim (λe=>e▸.head _) λh=>.tail _ (.tail _ h)
theorem aI.back(q:aI g (c0.hold D ob) tmp' vals' st₀ s₀)(j:hN c0 D)(L:cS g c0 st₀ s₀ I o)(R:aI g ((c0.addIt I o (c0.F st₀ s₀)).hold D ob') tmp vals st s):aI g (c0.hold D ob') tmp vals st s∧cS g c0 st s I o∧∀a o,c0.F st₀ s₀ a o->c0.F st s a o:=
 have d:=((q.less λp h=>.tail _ h).drop:aI g c0 [] [] st₀ s₀).dropIt L (R.less λp h=>.tail _ h)
 ⟨d.1.held j (R.keep _ (.head _)),d.2⟩
theorem aI.append(R:aI g (cx.hold D (sq "list" xs m)) (v::acc) (z::xs) st s)(L:hN cx D)(hs:Xg D s.heap hp)(e:hp.get? D=some (sq "list" (xs++[z]) (m+1))):aI g (cx.hold D (sq "list" (xs++[z]) (m+1))) (acc++[v]) (xs++[z]) st { s with heap:=hp,toks:=tk}:=
 have R1:aI g cx (v::acc) (z::xs) st s:=R.less λp h=>.tail _ h
 have to:∀{b o},b≠D->s.heap.get? b=some o->hp.get? b=some o:=λq e=>(hs.2 _ q).trans e
 have kc:∀{c w},c≠D->s.heap.IsCell c w->hp.IsCell c w:=λn z=>z.imp λ_ z=>⟨to n z.1,z.2⟩
 have R2:aI g cx (v::acc) (z::xs) st { s with heap:=hp,toks:=tk}:=R1.ownc L.rv L.keep L.outer hs ⟨_,e,c7 rfl rfl⟩ (λp h=>(R1.cl p h).imp λ_ z=>kc (L.cells p h) z) λup=>
  R1.loc.imp λm z=>⟨z.1.imp λ_=>XF λ_=>XF λ_ z=>⟨to (XW L.loc) z.1,z.2⟩,λi y v a b=>(z.2 i y v a b).imp λval z=>⟨up _ _ z.1,z.2.keep rfl λc w e q=>kc (L.cells (y,c) (aX e)) q⟩⟩
 {R2.held L e with tmp:=bo.append R2.tmp.2 ⟨R2.tmp.1,rfl⟩}
theorem vY(R:aI g (cx.hold D (sq "list" xs m)) (v::acc) (z::xs) st s)(L:hN cx D)(hl:acc.length<=1000000)
 (k:∀s',aI g (cx.hold D (sq "list" (xs++[z]) (m+1))) (acc++[v]) (xs++[z]) st s'->Xg D s.heap s'.heap->Qr .none s'):Wz g.M A (call (.builtin "list.append") [.ref D,z]) Qr E s:=
 have hD:s.heap.get? D=some (sq "list" xs m):=R.keep (D,_) (.head _)
 call_meets acS ⟨_,hD,rfl⟩ F.entry_list_append (F.args_list_append_2 _ _) (list_append D xs.toArray m z (by rw[Wk,WT,R.tmp.2.length];exact V4 hl (V5 rfl))) ⟨hD,by
  have e1:(s.heap.update D (Xj λx=>x.push z)).get? D=some (sq "list" (xs++[z]) (m+1)):=by
   rw[W9 _ hD rfl]
   unfold sq Xj
   simp
  exact k _ (R.append (tk:=s.toks) L (.update ..) e1) (.update ..)⟩
end
inductive rZ(g:Gl)(c0:Cx)(W:List V->List V->St->Prop)(I D:Addr)(n:Nat)(s:Wj):Prop
 |mk {vs acc:List V} {xs:List V9} {m:Nat} {st:St} {o:Obj} (e:vs.length=n) (R:aI g (c0.hold D (sq "list" xs m)) acc xs st s) (L:cS g c0 st s I o) (it:gk g (c0.F st s) o vs) (l:acc.length<=1000000) (q:W vs acc st)
inductive Made(g:Gl)(c0:Cx)(D:Addr)(Q:List V->St->Prop):abJ->Wj->Prop
 |mk {acc:List V} {xs:List V9} {m:Nat} {st:St} {s:Wj} (R:aI g (c0.hold D (sq "list" xs m)) acc xs st s) (l:acc.length<=1000000) (q:Q acc st):Made g c0 D Q (.ok .next) s
theorem c6.hold{cx:Cx}{S:Za}{names:List Str}{n:Nat}{fn:Bool}{D:Addr}{o:Obj}(c:c6 cx S names n fn):c6 (cx.hold D o) S names n fn:={c with}
theorem c6.addIt{cx:Cx}{S:Za}{names:List Str}{n:Nat}{fn:Bool}{D:Addr}{o:Obj}{F:FZ}(c:c6 cx S names n fn):c6 (cx.addIt D o F) S names n fn:={c with}
noncomputable abbrev u6(d:List Expr)(env:Env):Sem Bool:=forIn d true λc r=>if r=true then do let ok ←abG c env (eval c env);pure (abh ok)else pure (abh r)
noncomputable abbrev AN(d iter:Expr)(i:List Expr)(j e:Expr)(c:Nat)(q acc:V9)(env:Env):Sem aaJ:=do
 standAt iter.pos
 match←aaZ q with
 |none=>pure (.done .next)
 |some v=>
  letOwnedTupleGo d q v
  assign d env v
  let ok ←u6 i env
  if ok then
   (do let _ ←call (.builtin "list.append") [acc,←eval j env])
  again (.compLoop e c q acc env)
section
variable{g:Gl}{cx c0:Cx}{tmp tmp':List V}{vals vals':List V9}{st st₀:St}{s s₀:Wj}{A:Xd}{x y z:V9}{a b v u:V}{vs us acc:List V}{xs ys:List V9}{F F':FZ}{E:V9->Wj->Prop}{Q:V->St->Prop}{X:St->Prop}{hp:Heap}{tk n m:Nat}{I C D:Addr}{o o' ob ob':Obj}
theorem GW:TB g cx (u6 [] cx.env) j0:=λ_ R w=>ax ⟨R,w⟩
theorem OX(h:uT g cx e q):TB g cx (u6 [e] cx.env) q:=λd R w=>aq (aq (aV (h d R w) λb s u=>ax (ax u)))
theorem EG(h:s.heap.get? I=some o)(d:gk g F o vs){Q:V9->Wj->Prop}(q:Q (.ref I) s):Wz g.M A (ac5 (.ref I)) Q E s:=by
 cases d with
 |list hc hd=>exact wpAny_pyIter_listiter ⟨_,h,hc,hd⟩ q
 |tup hc hd=>exact wpAny_pyIter_tupleiter ⟨_,h,hc,hd⟩ q
 |bytes hc hd=>exact KBw.pyIter_self ⟨_,h,hc,hd⟩ q
 |str hc hd=>exact hc.elim (λhc=>wpAny_pyIter_striter_ascii ⟨_,h,hc,hd⟩ q) λhc=>wpAny_pyIter_striter_wide ⟨_,h,hc,hd⟩ q
 |range j=>exact wpAny_pyIter_rangeiter (j▸h) q
theorem yH(h:s.heap.get? I=some o)(k:gk g F o vs)(q:cq g A (.compLoop (.ListComp d gens scope pos) p (.ref I) x env) R s)(hg:((afh (.ListComp d gens scope pos))[p]?).elim false (·.is_async != 0)=false) :
 cq g A (.compStart (.ListComp d gens scope pos) p (.ref I) x env) R s:=fD (λ_ _=>rfl) (by
 show wq _ _ ((compStart (.ListComp d gens scope pos) p (.ref I) x env).onRaise (λx=>do abX x env;XC theWindowsPlace)) _ _ s
 have bc:Au g (A.under (.compStart (.ListComp d gens scope pos) p (.ref I) x env)) R (.again (.compLoop (.ListComp d gens scope pos) p (.ref I) x env)) s:=⟨rfl,λ_ _=>rfl,q⟩
 have j:Wz g.M A (ac5 (.ref I)>>=λi=>adS (.compLoop (.ListComp d gens scope pos) p i x env)) (Au g (A.under (.compStart (.ListComp d gens scope pos) p (.ref I) x env)) R) (λ_ _=>False) s:=V7 (EG h k (Wg bc))
 refine cI (be (E:=λ_ _=>False) (aF ?_) (λ_ _ h=>h) λ_ _ h=>h.elim)
 unfold compStart
 rw[hg]
 refine V7 (Yn (wpAny_ite ?_))
 split
 ·exact Internal.V1 ((Wg bc))
 ·refine V7 (Yt ?_)
  cases (afh (.ListComp d gens scope pos))[p]? with
  |none=>exact j
  |some c=>exact V7 (acW j))
theorem cS.but(L:cS g cx st s I o)(d:hN cx D)(hs:Xg D s.heap s₀.heap):cS g cx st s₀ I o:=⟨L.big,L.unk,L.nrv,(hs.2 _ (L.ne d.rv)).trans L.at_,L.fld⟩
theorem R7(d:hN cx D)(hs:Xg D s.heap s₀.heap){a:Addr}{o:Obj}(h:cx.F st s a o):cx.F st s₀ a o:=⟨(hs.2 _ λe=>h.2.2.1 (by rw[e];exact d.rv)).trans h.1,h.2⟩
theorem step{d:Type}{acc r:List d}{v y:d}{n:Nat}(h:acc.length+(v::r).length<=n):(acc++[y]).length+r.length<=n:=by
 rw[V6]
 exact V4 (Xp (by rw[WM,WM,X6,WJ,W4 1])) h
theorem u7(heq:ado (.ListComp i gens scope pos) dp (.ref I) (.ref D) c0.env=AN k iter ifs i (.ListComp i gens scope pos) dp (.ref I) (.ref D) c0.env)(c:c6 c0 S names n false)(G:hN c0 D)(oa:gJ c0.stk c0.lvl A)
 (ht:∀cx,c6 cx S names n false->TT g cx (Y1 k cx.env) Wt) (hc:∀cx,c6 cx S names n false->TB g cx (u6 ifs cx.env) Wc) (he:∀cx,c6 cx S names n false->bE g cx i We)
 {Q:List V->St->Prop} {m:Nat} (h:rZ g c0 (λvs acc st=>acc.length+vs.length<=1000000∧iF Wt Wc We vs acc Q st) I D m s):cq g A (.compLoop (.ListComp i gens scope pos) dp (.ref I) (.ref D) c0.env) (Made g c0 D Q) s:=by
 refine rj rfl (λ_ _=>rfl) (rZ g c0 (λvs acc st=>acc.length+vs.length<=1000000∧iF Wt Wc We vs acc Q st) I D) (λn s h=>?_) m h
 refine cI (be (E:=λ_ _=>False) (show wq g A (ado (.ListComp i gens scope pos) dp (.ref I) (.ref D) c0.env) _ _ s from heq▸aU (aq ?_)) (λ_ _ h=>h) λ_ _ f=>f.elim)
 obtain⟨e,R,L,it,l,q⟩:=h
 cases vs with
 |nil=>
  refine aV (aF (rW R oa.handled ⟨L.big,L.unk,L.nrv,L.at_,L.fld⟩ it)) λr s h=>?_
  obtain⟨R⟩:=h
  exact ax (.inr (.mk R l q.2))
 |cons v r=>
  refine aV (aF (oA R ⟨L.big,L.unk,L.nrv,L.at_,L.fld⟩ it)) λx s h=>?_
  obtain⟨p,d,j⟩:=h
  have d:cS g c0 _ _ _ _:=⟨d.big,d.unk,d.nrv,d.at_,d.fld⟩
  have e:r.length<n:=e▸XX _
  refine aq (aF (oB d.at_ j (aq (be (ht _ (c.addIt.hold) oa (p.forth d) q.2) (λ_ s h=>?_) λ_ _ h=>h.elim))))
  obtain⟨R₂,H⟩:=h
  refine aq (be (hc _ (c.addIt.hold) oa R₂ H) (λb s h=>?_) λ_ _ u=>u.casesOn λ_ _ q=>q.elim)
  obtain⟨J,w⟩:=h
  cases b with
  |false=>
   have B:=p.back G d J
   exact ax (.inl ⟨rfl,r.length,e,.mk rfl B.1 B.2.1 (j.mono B.2.2) l ⟨X9 q.1,w⟩⟩)
  |true=>
   refine aq (aq (be (he _ (c.addIt.hold) oa J w) (λy s h=>?_) λ_ _ u=>u.casesOn λ_ _ q=>q.elim))
   obtain⟨Y,U⟩:=h
   have B:=p.back G d Y
   exact aq (aF (vY B.1 G l λs' Z hs=>ax (ax (.inl ⟨rfl,r.length,e,.mk rfl Z (B.2.1.but G hs) ((j.mono B.2.2).mono λa o=>R7 G hs) (V4 (Wq _ _) (step q.1)) ⟨step q.1,U⟩⟩))))
end
section
variable{elt target iter e t0 t1 i0 i1:Expr}{ifs:List Expr}{gens:List abK}{dp:Nat}{scope S:Za}{pos:Pos}{Wt Wt0 Wt1:gG}{W Wc We Wi:PT}{names:List Str}{is:List Nat}
theorem K1(q d:V9)(env:Env):ado (.ListComp elt [⟨t0,i0,[],0⟩,⟨t1,i1,[],0⟩] scope pos) 1 q d env=AN t1 i1 [] elt (.ListComp elt [⟨t0,i0,[],0⟩,⟨t1,i1,[],0⟩] scope pos) 1 q d env:=rfl
theorem GX(q d:V9)(env:Env):ado (.ListComp elt [⟨target,iter,ifs,0⟩] scope pos) 0 q d env=AN target iter ifs elt (.ListComp elt [⟨target,iter,ifs,0⟩] scope pos) 0 q d env:=rfl
theorem GY(it acc:V9)(env:Env):ado (.ListComp elt [⟨t0,i0,[],0⟩,⟨t1,i1,[],0⟩] scope pos) 0 it acc env=(do
 standAt i0.pos
 match←aaZ it with
 |none=>pure (.done .next)
 |some v=>
  letOwnedTupleGo t0 it v
  assign t0 env v
  let x ←eval i1 env
  standAt i1.pos
  let x ←Yv i1 env x
  let _ ←runOwn (.compStart (.ListComp elt [⟨t0,i0,[],0⟩,⟨t1,i1,[],0⟩] scope pos) 1 (←XH [x] (ac5 x)) acc env) env
  again (.compLoop (.ListComp elt [⟨t0,i0,[],0⟩,⟨t1,i1,[],0⟩] scope pos) 0 it acc env)):=rfl
theorem AO(c:c6 c0 S names n false)(Lo:hN c0 D)(oa:gJ c0.stk c0.lvl A)
 (ht0:∀cx,c6 cx S names n false->TT g cx (Y1 t0 cx.env) Wt0) (hi:∀cx,c6 cx S names n false->TI g cx (eval i1 cx.env) Wi) (ht1:∀cx,c6 cx S names n false->TT g cx (Y1 t1 cx.env) Wt1) (he:∀cx,c6 cx S names n false->bE g cx elt We) (hset:∀env x,Yv i1 env x=pure x)
 {Q:List V->St->Prop} {m:Nat} (h:rZ g c0 (λvs acc st=>fU Wt0 Wt1 Wi We vs acc Q st) I D m s):cq g A (.compLoop (.ListComp elt [⟨t0,i0,[],0⟩,⟨t1,i1,[],0⟩] scope pos) 0 (.ref I) (.ref D) c0.env) (Made g c0 D Q) s:=by
 refine rj rfl (λ_ _=>rfl) (rZ g c0 (λvs acc st=>fU Wt0 Wt1 Wi We vs acc Q st) I D) (λn s h=>?_) m h
 refine cI (be (E:=λ_ _=>False) (show wq g A (ado (.ListComp elt [⟨t0,i0,[],0⟩,⟨t1,i1,[],0⟩] scope pos) 0 (.ref I) (.ref D) c0.env) _ _ s from GY _ _ _▸aU (aq ?_)) (λ_ _ h=>h) λ_ _ f=>f.elim)
 obtain⟨e,R,L,it,l,q⟩:=h
 cases vs with
 |nil=>
  refine aV (aF (rW R oa.handled ⟨L.big,L.unk,L.nrv,L.at_,L.fld⟩ it)) λr s h=>?_
  obtain⟨R⟩:=h
  exact ax (.inr (.mk R l q))
 |cons v r=>
  refine aV (aF (oA R ⟨L.big,L.unk,L.nrv,L.at_,L.fld⟩ it)) λx s h=>?_
  obtain⟨R₁,L₁,it₁⟩:=h
  have L₁:cS g c0 _ _ _ _:=⟨L₁.big,L₁.unk,L₁.nrv,L₁.at_,L₁.fld⟩
  have e:r.length<n:=e▸XX _
  refine aq (aF (oB L₁.at_ it₁ (aq (be (ht0 _ (c.addIt.hold) oa (R₁.forth L₁) q) (λ_ s h=>?_) λ_ _ h=>h.elim))))
  obtain⟨R₂,q₂⟩:=h
  refine aq (be (hi _ (c.addIt.hold) oa R₂ q₂) (λy s h=>aU ((kI (hset _ _) (aq (ay (be h (λy s h=>?_) λ_ _ u=>u.casesOn λ_ _ q=>q.elim)))))) λ_ _ u=>u.casesOn λ_ _ q=>q.elim)
  obtain⟨hy,R₃,L₃,it₃,q₃⟩:=h
  subst hy
  refine aq (be (oi (Q:=λ_ s=>rZ g c0 (λvs acc st=>fU Wt0 Wt1 Wi We vs acc Q st) I D r.length s) (E:=λ_ _=>False)
   (mh (yH L₃.at_ it₃ (u7 (K1 _ _ _) c.addIt (Lo.addIt (L₁.ne Lo.rv)) oa ht1 (λ_ _=>GW) he (.mk rfl R₃ ⟨L₃.big,L₃.unk,L₃.nrv,L₃.at_,L₃.fld⟩ it₃ l ⟨V4 q₃.1 (V5 rfl),q₃.2⟩)) rfl) λr s h=>?_) λ_ _=>rfl) (λ_ s h=>ax (.inl ⟨rfl,_,e,h⟩)) λ_ _ f=>f.elim)
  obtain⟨R₄,l₄,q₄⟩:=h
  have B:=R₁.back Lo L₁ R₄
  exact .mk rfl B.1 B.2.1 (it₁.mono B.2.2) l₄ q₄
end
def rn(M:Model)(A:Xd)(E:V9->Wj->Prop)(use:Option (V9->Sem Unit))(Q:V9->Wj->Prop)(acc:V9)(C:Addr)(r:abJ)(s':Wj):Prop:=
 r=.ok .next∧match use with
 |none=>∃m,s'.heap.Ns C m∧∀h',Xg C s'.heap h'->Q acc { s' with heap:=h'}
 |some u=>Wz M A (u acc) (λ_ s''=>∃m,s''.heap.Ns C m∧∀h',Xg C s''.heap h'->Q .none { s'' with heap:=h'}) E s'
section
theorem AP[Decidable c](h:wq g A (k ()) Q E s):wq g A (if c then(XC pos>>=k)else k ()) Q E s:=Rr (λ_=>aU h) λ_=>h
theorem gM
 (hcl:afh e=k::ks) (hs:∀x,Yv k.iter env x=pure x) (hclos:aey scope env=pure cl)
 (hkind:scope.kind=.function) (hnames:∀x∈scope.names,x.2=.local->scope.names.lookup x.1=some .local)
 (h:wq g A first (λx s₁=>wq g A (ac5 x) (λit s₂=>Wz g.M A newAcc (λacc s₃=>
  wpAny g.M A (aet scope env.globals cl [] env.qual none .none (some env)) (λcenv s₄=>
   cq g A (.compStart e 0 it acc { cenv with scope:=ab7 scope env}) (rn g.M A E use Q acc cenv.locals) s₄) E s₃) E s₂) E s₁) E s) (hh:∀it acc env,jY (.compStart e 0 it acc env)) :
 wq g A (ae5 e scope env pos newAcc false first use) Q E s:=by
 unfold ae5
 rw[hclos,hcl]
 refine b0 h λx s₁ h₁=>aU ((kI (hs x) (aq (ay (aV h₁ λit s₂ h₂=>AP (aq (aF (Yc h₂ (λacc s₃ h₃=>dY ((aq (aF (Yc h₃ (λcenv s₄ h₄=>?_) λ_ _ x=>x))))) λ_ _ x=>x))))))))
 dsimp only
 have hv:∀x∈(scope.names.filter λx=>(x.2==.local||x.2==.cell)&&x.1 != (".0" : Str)).reverse,x.2=.local->
  Env.kindOf { cenv with scope:=ab7 scope env} x.1=some .local:=λx hx hl=>lookup_relabel_local (hnames x (abS.mp (aam.mp hx)).1 hl)
 refine ay (aq (kW (ay (be (Gr (Q:=λf s'=>rn g.M A E use Q acc cenv.locals (.ok f) s') (E:=λ_ _=>False) (mh h₄ λr s' hr=>?_) (hh _ _ _)) (λf s' hr=>?_) λ_ _ f=>f.elim))))
 ·cases r with
  |ok f=>exact hr
  |error x=>cases hr.1
 ·cases use with
  |none=>exact hr.2.elim λm hr=>aF (V7 (Xk (wpAny_comp_letGo (cenv:={cenv with scope:=ab7 scope env}) hkind _ s' m hv hr.1 λh' m' _ hs'=>Wg (hr.2 h' hs'))))
  |some u=>exact aF (V7 (Yt (V7 (Xk (Yc hr.2 (λ_ s'' hr=>hr.elim λm hr=>V7 (wpAny_comp_letGo (cenv:={cenv with scope:=ab7 scope env}) hkind _ s'' m (λx hx=>(WD.mp hx).elim (λq=>hv x (aav q)) λq=>hv x (aau q)) hr.1 λh' m' _ hs'=>Wg (hr.2 h' hs'))) λ_ _ x=>x)))))
end
abbrev bM(scope:Za):List Str:=rm .local scope.names++rm .free scope.names
structure dZ(S scope:Za)(names:List Str)(is:List Nat):Prop where
 cap:Ng S names (rm .free scope.names) is
 nd:(bM scope).Nodup
 uq:(scope.names.map (·.1)).Nodup
 kind:scope.kind=.function
 noCell:∀y∈scope.names,y.2≠.cell
abbrev vZ(scope:Za)(is:List Nat)(loc:List (Option V)):List (Option V):=WZ (rm .local scope.names).length none++eI is loc
section
variable{g:Gl}{cx c0:Cx}{tmp tmp':List V}{vals vals':List V9}{st st₀:St}{s s₀:Wj}{A:Xd}{x y z:V9}{a b v u:V}{vs us acc:List V}{xs ys:List V9}{F F':FZ}{E:V9->Wj->Prop}{Q:V->St->Prop}{X:St->Prop}{hp:Heap}{tk n m:Nat}{I C D:Addr}{o o' ob ob':Obj}
theorem dZ.frees(O:dZ S scope names is){y:Str}(h:(y,Zh)∈scope.names):S.names.lookup y=some .cell:=by
 obtain⟨j,d,q⟩:=ZM (CN.mpr h)
 have h1:(rm .free scope.names)[j]? = some y:=by rw[Xb d,q]
 have i:j<is.length:=O.cap.1.symm▸d
 exact(O.cap.2 j y _ h1 (Xb i)).2
theorem dZ.clos(O:dZ S scope names is)(c:c6 cx S names n true):aey scope cx.env=pure (iP cx.env.cells scope.names):=AL scope λx hx=>c.cell rfl x (O.frees hx)
theorem dZ.sees(O:dZ S scope names is)(c:c6 cx S names n true)(d:cx.env.scope.kind=.function){env:Env}{m:Str->Option V9}{F:FZ}(q:env.scope=ab7 scope cx.env):c6 (cx.comp env m hp (bM scope) D F) (eU S scope) (bM scope) n false:=
 {kinds:=by show env.scope.names=_;rw[q,yG d c.kinds],scope:=ff,names:=rfl,lvl:=c.lvl,uniq:=by rw[u5];exact O.uq,cell:=ff,top:=ff,wr:=ff}
theorem u9(O:dZ S scope names is)(c:c6 cx S names n true)(oa:gJ cx.stk cx.lvl A)(R:aI g cx tmp vals st s)(L:cS g cx st s I o)(H:gk g (cx.F st s) o vs){W:List V->List V->St->Prop}{P:V9->Addr->abJ->Wj->Prop}
 (J:∀c0 D s,c6 c0 (eU S scope) (bM scope) n false->hN c0 D->gJ c0.stk c0.lvl A->rZ g c0 W I D vs.length s->cq g A (.compLoop (.ListComp B gens scope pos) 0 (.ref I) (.ref D) c0.env) (Made g c0 D λacc st'=>Q (.lst acc) ⟨st.loc,st'.h⟩) s)
 (hg:((afh (.ListComp B gens scope pos))[0]?).elim false (·.is_async != 0)=false) (w:W vs [] ⟨vZ scope is st.loc,st.h⟩)
 (k:∀C D us h' Z,aI g (cx.res C) (.lst us::tmp) (.ref D::vals) ⟨st.loc,h'⟩ Z->C∉cx.rv->(∃m,Z.heap.Ns C m)->Q (.lst us) ⟨st.loc,h'⟩->P (.ref D) C (.ok .next) Z) :
 wpAny g.M A (newList []) (λacc Y=>Wz g.M A (aet scope cx.env.globals (iP cx.env.cells scope.names) [] cx.env.qual none .none (some cx.env)) (λcenv f=>
  cq g A (.compStart (.ListComp B gens scope pos) 0 (.ref I) acc { cenv with scope:=ab7 scope cx.env}) (P acc cenv.locals) f) E Y) E s:=by
 refine Ze (wpAny_newFunctionEnv O.noCell (λ_ h=>nomatch h) (λj U i=>?_) O.kind) (by rw[WT];decide)
 generalize hC:(s.heap.push { cls:=.type "list",data:=.seq ([]:List V9).toArray}).objs.size=C at U i ⊢
 have hC:C=s.heap.objs.size+1:=hC.symm.trans (aaS _ _)
 have d:s.heap.objs.size<=C:=hC▸Xq _
 have G:∀{b},b<C->b≠C:=λh=>WW h
 have hk:∀b o,s.heap.get? b=some o->j.get? b=some o:=λb o e=>(i.2 b (G (WA (WU e) d))).trans (Wl _ (Wl _ e))
 have p:s.heap.objs.size≠C:=G (hC▸XX _)
 have hD:j.get? s.heap.objs.size=some (sq "list" [] 0):=(i.2 _ p).trans (Wl _ (WG _ rfl))
 obtain⟨m,hm⟩:=R.loc
 have N:=R.into (tk:=s.toks+0) c O.cap rfl O.nd O.uq O.kind rfl d (Wh _) p hk ⟨_,hD⟩ U hm
 have c1:=O.sees (hp:=s.heap) (D:=s.heap.objs.size) (F:=cx.F st s) (m:=m) (env:=compEnvC scope (iP cx.env.cells scope.names) C cx.env) c R.ok.kind rfl
 have lt:=WU L.at_
 have L1:cS g (cx.comp (compEnvC scope (iP cx.env.cells scope.names) C cx.env) m s.heap (bM scope) s.heap.objs.size (cx.F st s)) ⟨vZ scope is st.loc,st.h⟩ { s with heap:=j,toks:=s.toks+0} I o:=
  ⟨L.big,L.unk,λq=>(Wf.mp q).elim (λe=>acx _ (e▸lt)) λq=>(Wf.mp q).elim (λe=>G (WA lt d) e) L.nrv,hk _ _ L.at_,L.fld⟩
 refine mh (yH L1.at_ H (J _ _ _ c1 N.2 oa (.mk rfl (N.1.held N.2 hD) L1 (H.mono N.1.wait) (Wy _) w)) hg) λr Z h=>?_
 cases h with
 |mk R2 l q=>exact k C _ _ _ _ (R.outof d (Wh _) p hm R2 l) (R.notRv d) (R2.loc.imp λ_ z=>z.1) q
end
section
variable{g:Gl}{cx c0:Cx}{tmp tmp':List V}{vals vals':List V9}{st st₀:St}{s s₀:Wj}{A:Xd}{x y z:V9}{a b v u:V}{vs us acc:List V}{xs ys:List V9}{F F':FZ}{E:V9->Wj->Prop}{Q:V->St->Prop}{X:St->Prop}{hp:Heap}{tk n m:Nat}{I C D:Addr}{o o' ob ob':Obj}
def wa(g:Gl)(S scope:Za)(n:Nat)(d:Expr)(gens:List abK)(pos:Pos)(W:List V->List V->(List V->St->Prop)->St->Prop):Prop:=
 ∀{A:Xd} {Q:List V->St->Prop} {I:Addr} {m:Nat} (c0:Cx) (D:Addr) (s:Wj),c6 c0 (eU S scope) (bM scope) n false->hN c0 D->gJ c0.stk c0.lvl A->rZ g c0 (λvs acc st=>W vs acc Q st) I D m s->cq g A (.compLoop (.ListComp d gens scope pos) 0 (.ref I) (.ref D) c0.env) (Made g c0 D Q) s
theorem yI(k:∀cx,c6 cx (eU S scope) (bM scope) n false->TT g cx (Y1 d cx.env) f)(hc:∀cx,c6 cx (eU S scope) (bM scope) n false->TB g cx (u6 j cx.env) i)(e:∀cx,c6 cx (eU S scope) (bM scope) n false->bE g cx q w) :
 wa g S scope n q [⟨d,iter,j,0⟩] pos (λvs acc Q st=>acc.length+vs.length<=1000000∧iF f i w vs acc Q st):=λc0 D s c B p h=>u7 (GX _ _ _) c B p k hc e h
theorem yJ(ht0:∀cx,c6 cx (eU S scope) (bM scope) n false->TT g cx (Y1 t0 cx.env) Wt0)(hi:∀cx,c6 cx (eU S scope) (bM scope) n false->TI g cx (eval i1 cx.env) Wi)(ht1:∀cx,c6 cx (eU S scope) (bM scope) n false->TT g cx (Y1 t1 cx.env) Wt1)
 (he:∀cx,c6 cx (eU S scope) (bM scope) n false->bE g cx elt We) (hset:∀env x,Yv i1 env x=pure x):wa g S scope n elt [⟨t0,i0,[],0⟩,⟨t1,i1,[],0⟩] pos (fU Wt0 Wt1 Wi We):=λc0 D s c Lo oa h=>AO c Lo oa ht0 hi ht1 he hset h
abbrev rp(scope:Za)(is:List Nat)(W:List V->List V->(List V->St->Prop)->St->Prop)(q:PT):PT:=λQ X st=>q (λvs d=>iE vs λvs=>W vs [] (λacc st'=>Q (.lst acc) ⟨d.loc,st'.h⟩) ⟨vZ scope is d.loc,d.h⟩) X st
theorem dZ.own(O:dZ S scope names is):∀x∈scope.names,x.2=.local->scope.names.lookup x.1=some .local:=λx hx d=>dA O.uq (by rw[←d];exact hx)
theorem yK(O:dZ S scope names is)(c:c6 cx S names n true)(hi:TI g cx (eval iter cx.env) Wi)(loop:wa g S scope n elt (⟨target,iter,ifs,0⟩::rest) pos WL)(hset:∀x,Yv iter cx.env x=pure x) :
 bE g cx (.ListComp elt (⟨target,iter,ifs,0⟩::rest) scope pos) (rp scope is WL Wi):=λ{A s tmp vals st Q X} oa R w=>
 gM (use:=none) rfl hset (O.clos c) O.kind O.own (aV (hi oa R w) λx s h=>aV h λy s u=>match u with
  | .mk hx R L it q=>hx▸u9 O c oa R L it (P:=rn g.M A (hH g cx X) none (Up g cx tmp vals Q)) loop rfl q λC D us h' s' R' nC hn q'=>⟨rfl,hn.imp λm z=>⟨z,λh' hs=>⟨R.drop.unres (tk:=s'.toks) R' nC hs,q'⟩⟩⟩) λ_ _ _ _ _=>rfl
theorem GZ(R:aI g cx tmp vals st s)(h:C∉cx.rv):hN (cx.res C) C:=
 have ne:∀{a},a∈cx.rv->a≠C:=λq e=>h (e▸q)
 {rv:=.head _,loc:=(ne R.ok.own).symm,frs:=λq=>h (R.ok.frs _ q),keep:=λq d=>ne (R.ok.keep q d).1,outer:=λq d=>ne (R.ok.outer q d).1,cells:=λp hp=>ne (R.ok.cells p hp).1}
theorem yL(O:dZ S scope names is)(c:c6 cx S names n true)(hi:TI g cx (eval iter cx.env) Wi)(loop:wa g S scope n elt (⟨target,iter,ifs,0⟩::rest) pos WL)(hset:∀x,Yv iter cx.env x=pure x)
 {y:Str} {py spos:Pos} {i:Nat} (hy:cx.names[i]? = some y) (hk:jP cx y) (hsw:ZT (.ListComp elt (⟨target,iter,ifs,0⟩::rest) scope pos) (some (.Name y py)) spos.line (qh S)=pure true) :
 j1 g cx (.Assign [.Name y py] (.ListComp elt (⟨target,iter,ifs,0⟩::rest) scope pos) spos) (aD (aj i) (rp scope is WL Wi)):=λ{A s st Q X} oa R w=>by
 rw[exec_Assign_Name_used _ _ _ _ (by rw[dG (c.scope rfl)];exact hsw)]
 refine aU (aq (?_:wq g A (do let _ ←ae5 (.ListComp elt (⟨target,iter,ifs,0⟩::rest) scope pos) scope cx.env _ (newList []) false (eval iter cx.env) (some (Y1 (.Name y py) cx.env))) _ _ _))
 refine aq (gM (Q:=λ_ s'=>wq g A (pure ()) (λ_ s'=>wq g A (pure acf) (Ot g cx Q) (hH g cx X) s') (hH g cx X) s') (use:=some (Y1 (.Name y py) cx.env)) rfl hset (O.clos c) O.kind O.own (aV (hi oa R w) λx s h=>aV h λz s u=>match u with
  | .mk hx R L it q=>hx▸u9 O c oa R L it (Q:=λv st1=>Q .none ⟨st1.loc.set i (some v),st1.h⟩) (P:=rn g.M A (hH g cx X) (some (Y1 (.Name y py) cx.env)) _) loop rfl q λC D us h' s' R' nC hn q'=>⟨rfl,?_⟩) λ_ _ _ _ _=>rfl)
 refine Wo λno=>?_
 obtain⟨m,oC,es,ep,e1,e2⟩:=hn
 refine no ?_
 have Lo:=GZ R nC
 exact wpAny_assign_Name (gp (cx:=(cx.res C).hold C oC) (R'.held Lo e1) hy hk λs'' R4=>⟨m,⟨oC,es,ep,R4.keep _ (.head _),e2⟩,λh' hs=>ax (ax (.next (R.unres (tk:=s''.toks) (R4.less λp h=>.tail _ h) nC hs) q'))⟩)
end
section
theorem K2(j:s.heap.get? a=some o)(h:wq g A (k o) Q E s):wq g A (.load a p k) Q E s:=λy q d hc=>⟨o,j,h y q d hc⟩
theorem mo(l:adT g.M s.heap t a)(h:wq g A (k a) Q E s):wq g A (t>>=k) Q E s:=aq (aF (l _ _ _ _ (λ_ _ e=>e) h))
theorem gq{c:Code}{x:V9}{id:String}(h:∀v p,Gq v (c,p)=(Builtin.Bytes.sameRef x v&&ab2.contains id))(hd:ab2.contains id=false):jY c:=λv p=>by rw[h v p,hd,aaa]
theorem G1{id:String}{args:Args}{b:XE}(hb:Yw Z6 id=some b)(d:jY (.builtin id args))(h:wq g (A.under (.builtin id args)) (b args) (Au g A R) (λe q=>R (.error e) q) s):cq g A (.builtin id args) R s:=
 fD d (by
  show wq _ _ (match Yw Z6 id with|some b=>b args|none=>unsupported ((withoutEnding? id "#data").getD id)) _ _ s
  rw[hb];exact h)
theorem kX{id:String}{args:Args}{b:XE}(i:(Code.builtin id args).quiet=true)(hb:Yw Z6 id=some b)(j:jY (.builtin id args))
 (h:Wz g.M A.in1 (XN id args) (λ_ d=>wq g (A.under (.builtin id args)) (b args) (Au g A R) (λe y=>R (.error e) y) d) (λe y=>R (.error e) y) s):cq g A (.call (.builtin id) args) R s:=
 fD (oh _ _) (show wq _ A.in1 (do XN id args;adS (.builtin id args)) _ _ s from aq (aF (Yc h (λ_ d q=>ax ⟨i,j,G1 hb j q⟩) λ_ _ x=>x)))
theorem K3{rest:List V9}{init:V9}(Y:Makes g.M s.heap C)(hi:adT g.M s.heap (abj (.ref C) "__init__") (some init))(hb:∀self,adT g.M s.heap (bindSpecial init self) (init,[self]))(hne:(some init != some (Value.builtin "object.__init__"))=true)
 (hq:cq g (A.under (.builtin "type.__call__" ⟨.ref C::rest,[]⟩)) (.call init ⟨.ref (s.heap.objs.size+1)::rest,[]⟩) (InitBack (s.heap.objs.size+1) R) { s with heap:=(s.heap.push aaf).push (ace C s.heap.objs.size)}) :
 cq g A (.call (.ref C) ⟨rest,[]⟩) R s:=by
 have Y':=Y
 obtain⟨h,gg,d,t,os⟩:=s
 refine Wo λno=>?_
 obtain⟨⟨oc,od,cd,sl,hC,e1,e2,e4⟩,made,base,self,top,cal,typ⟩:=Y
 refine no ?_
 refine fD (λ_ _=>rfl) ?_
 refine K2 hC ?_
 show wq _ _ (callAny.viaDunder (.ref C) _) _ _ _
 refine fC (λ_ q=>cal.at q) ?_
 dsimp only
 rw[tc_bind]
 refine dY ((dY (?_)))
 refine ax (a:=PySem.Fin.again (.call (.builtin "type.__call__") ⟨.ref C::rest,[]⟩)) ⟨rfl,λ_ _=>rfl,?_⟩
 refine kX (YA _ dD) aex (gq (x:=.ref C) (id:= "type.__call__") (λ_ _=>rfl) rfl) (aeC tc_kind tc_split typ (tc_args _ _ _) ?_)
 have hm:adT g.M h (mroOf (.ref C)) cd.mro:=((Looks.ld (part:=none) hC).andThen .now).andThen .now
 refine mo hm ?_
 rw[e4]
 refine mo made ?_
 show wq _ _ (XH _ (call (.builtin "object.__new__") (.ref C::rest) [])>>=_) _ _ _
 refine aq (ay (aF (abi (new_K Y' hi (.inl hne) ?_))))
 have k:∀b o,h.get? b=some o->((h.push aaf).push (ace C h.objs.size)).get? b=some o:=λb o e=>Wl _ (Wl _ e)
 have hx:((h.push aaf).push (ace C h.objs.size)).get? (h.objs.size+1)=some (ace C h.objs.size):=by heap_get
 have t1:adT g.M ((h.push aaf).push (ace C h.objs.size)) (abF (.ref (h.objs.size+1))) (.ref C):=(Looks.ld hx).andThen .now
 have s1:=self.keeps k
 have i1:=hi.keeps k
 have b1:=(hb (.ref (h.objs.size+1))).keeps k
 have ii:adT g.M ((h.push aaf).push (ace C h.objs.size)) (aaD (.ref (h.objs.size+1)) (.ref C)) true:=t1.andThen s1
 have sp:adT g.M ((h.push aaf).push (ace C h.objs.size)) (specialOf (.ref (h.objs.size+1)) "__init__") (some init):=t1.andThen i1
 refine mo (s:=⟨(h.push aaf).push (ace C h.objs.size),gg,d,t,os⟩) ii ?_
 refine aq (ay (mo sp (ay (mo b1 (aq (jM (mh hq λr s' z=>?_)))))))
 cases r with
 |error e=>exact z
 |ok f=>cases f with
  |ret v=>
   obtain⟨rfl,z⟩:=z
   exact ax (ax z)
  |_=>exact z.elim
end
inductive Kept(g:Gl)(C:Addr)(x d:Addr)(Q:V->AH->Prop)(v:V)(h:AH):Prop
 |inst {fs:List V} (hv:v=.none) (e1:h x=some (.inst C d)) (e2:h d=some (.fields C fs)) (t:(g.tab.lookup C).isSome=true) (l:fs.length=(g.names C).length) (q:Q (.inst C fs) (upd (upd h x none) d none))
 |ref (hv:v=.none) (q:Q (.ref x) h)
def Cx.down(cx:Cx):Cx:={cx with lvl:=cx.lvl-1}
section
variable{g:Gl}{cx c0:Cx}{tmp tmp':List V}{vals vals':List V9}{st st₀:St}{s s₀:Wj}{A:Xd}{x y z:V9}{a b v u:V}{vs us acc:List V}{xs ys:List V9}{F F':FZ}{E:V9->Wj->Prop}{Q:V->AH->Prop}{X:AH->Prop}{hp:Heap}{tk n m:Nat}{I C D:Addr}{o o' ob ob':Obj}{K:Frag}{h:AH}{fI:Addr}
theorem aI.down(R:aI g cx tmp vals st s):aI g cx.down tmp vals st s:={R with ok:={R.ok with},known:=λa o e=>let k:=R.known a o e;⟨k.low,k.nrv,k.obj⟩}
theorem aI.raised(R:aI g cx.down tmp vals st s):aI g cx tmp vals st s:={R with ok:={R.ok with},known:=λa o e=>let k:=R.known a o e;⟨k.low,k.nrv,k.obj⟩}
theorem hH.raised{X:St->Prop}(u:hH g cx.down X x s):hH g cx X x s:=u.casesOn λR f q=>.mk R.raised f q
theorem gJ.down(d:gJ cx.stk cx.lvl A)(l:n+1<=cx.lvl):gJ cx.down.stk cx.down.lvl (A.under (.builtin "type.__call__" ⟨.ref C::xs,[]⟩)) where
 frames:=by simp only[Around.under,d.frames];rfl
 depth:=Rk (u:=1) (Xp (aa3 (V4 (Wm (Wy _)) l))) dD d.depth
 units:=Rk (u:=1) (Xp (aa3 (V4 (Wm (Wy _)) l))) dD d.units
 handled:=d.handled
theorem aI.frzI(R:aI g cx tmp vals st s){x d:Addr}{fs:List V}(J:st.h x=some (.inst C d))(L:st.h d=some (.fields C fs))(t:(g.tab.lookup C).isSome=true)(l:fs.length=(g.names C).length) :
 aI g cx tmp vals ⟨st.loc,upd (upd st.h x none) d none⟩ s∧VR g (cx.F ⟨st.loc,upd (upd st.h x none) d none⟩ s) (.inst C fs) (.ref x):=
 have sub:∀a o,upd (upd st.h x none) d none a=some o->st.h a=some o:=λa o q=>(Yj (a=d)).elim (λz=>by rw[z,aB]at q;cases q) λz=>(Yj (a=x)).elim (λw=>by rw[aE z,w,aB]at q;cases q) λw=>by rwa [aE z,aE w]at q
 have no:∀{a},st.h a=none->upd (upd st.h x none) d none a=none:=λ{a} q=>match e:upd (upd st.h x none) d none a with
  |none=>rfl
  |some o=>by rw[sub a o e]at q;cases q
 have f:∀a o,cx.F st s a o->cx.F ⟨st.loc,upd (upd st.h x none) d none⟩ s a o:=λa o z=>⟨z.1,no z.2.1,z.2.2⟩
 have i:=R.known x _ J
 have c:=R.known d _ L
 ⟨R.forget sub,i.obj.elim λo1 h1=>c.obj.elim λo2 j=>by
  obtain⟨h1,rfl⟩:=h1
  obtain⟨j,ks,ys,n,rfl,p,k,B⟩:=j
  have hx:upd (upd st.h x none) d none x=none:=(Yj (x=d)).elim (λz=>by rw[z,aB]) λz=>by rw[aE z,aB]
  exact⟨t,.mk rfl ⟨h1,hx,i.nrv,c7 rfl rfl⟩ ⟨j,aB _ _ _,c.nrv,c7 rfl rfl⟩ (by rw[p,l,aal]) k (B.mono f)⟩⟩
theorem p7(T:Top g K)(S:makesIn K C=true)(Y:Xf K (.ref C) "__init__" = some (some (.ref fI)))(Z:typeIn K (.ref fI)=some (.type "function"))
 (G:∀x d,h x=none->h d=none->x≠d->iH g n (.ref fI) (.ref x::vs) (Kept g C x d Q) X (upd (upd h d (some (.fields C []))) x (some (.inst C d)))):iH g (n+1) (.ref C) vs Q X h:=by
 unfold iH at *
 intro cx A s tmp vals xs loc B U R c
 have j:K.In s.heap:=T.k.keeps R.base
 refine K3 (makes_of j S) (adt j Y) (λi=>bind_fn j i Z) rfl ?_
 have L:=R.alloc (tk:=s.toks) (a:=s.heap.objs.size) (o:=.fields C []) (hp:=s.heap.push aaf) (λb o e=>Wl _ e) (Wh _) (WG _ rfl) ⟨[],[],0,rfl,rfl,rfl,rfl⟩
 have J:=L.alloc (tk:=s.toks) (a:=(s.heap.push aaf).objs.size) (o:=.inst C s.heap.objs.size) (hp:=(s.heap.push aaf).push (ace C s.heap.objs.size)) (λb o e=>Wl _ e) (Wh _) (WG _ rfl) rfl
 rw[aaS]at J
 refine mh (G _ _ (R.fresh (Xq _)) (R.fresh (Wh _)) (Nat.succ_ne_self _) (cx:=cx.down) (Nat.le_sub_of_add_le B) (U.down B) (J.down.push (v:=.ref _) rfl) (congrArg adM c)) λr s' z=>?_
 match r,z with
 | .error e,z=>  exact z.raised
 | .ok (.ret w),.mk R' ⟨e,q⟩=>
  cases q with
  |inst p H e2 t l q=>
   have f:=R'.raised.pop.frzI H e2 t l
   exact⟨by have:=R'.tmp.1;rw[p]at this;exact this,.mk (f.1.push f.2) ⟨e,q⟩⟩
  |ref p q=>exact⟨by have:=R'.tmp.1;rw[p]at this;exact this,.mk (R'.raised.pop.push (v:=.ref _) rfl) ⟨e,q⟩⟩
end
structure MT where
 b:Option (String×BW):=none
 s:Option (String×BW):=none
 l:Option (String×BW):=none
 d:Option (String×BW):=none
 a:Option (String×BW):=none
 c:List (Addr×Addr):=[]
noncomputable def pick(m:MT)(v:V)(h:AH)(k:String×BW->Prop)(q:Addr->Prop):Prop:=vc (res h v) (fb:=λ_=>dR m.b k) (fs:=λ_=>dR m.s k) (fl:=λ_=>dR m.l k) (fc:=λc _=>dR (m.c.lookup c) q)
 (fr:=λa=>dR (h a) λo=>oc o (fd:=λ_ _=>dR m.d k) (fb:=λ_=>dR m.a k) (fi:=λc d=>dR (h d) λo=>oc o (ff:=λj _=>c=j∧dR (m.c.lookup c) q)))
noncomputable def av(g:Gl)(n:Nat)(m:MT)(o j:PT):PT:=λQ X st=>o (λv q=>pick m v q.h (λe=>j (λvs d=>iE vs λvs=>e.2 (v::vs) d.h λu h=>Q u ⟨d.loc,h⟩) X q)
 (λf=>j (λvs d=>iE vs λvs=>bW g n (.ref f) (v::vs) (λv h=>Q v ⟨d.loc,h⟩) (λh=>X ⟨d.loc,h⟩) d.h) X q)) X st
structure Nh(T:String)(name:Str)(id:String):Prop where
 attrs:PlainAttrs T
 slot:Slot T name id
 isM:abF (.builtin id)=pure (.type "method_descriptor")
def BM(g:Gl)(T:String)(name:Str)(e:Option (String×BW)):Prop:=∀p,e=some p->Nh T name p.1∧fF g (.builtin p.1) p.2
noncomputable def oE(K:Frag)(C:Addr)(name:Str)(f:Addr):Bool:=plainGet K C name&&Xf K (.ref C) name==some (some (.ref f))&&isFn K (.ref f)&&keepIn K (.ref f)
structure TC(g:Gl)(K:Frag)(name:Str)(m:MT):Prop where
 b:BM g "bytes" name m.b
 s:BM g "str" name m.s
 l:BM g "list" name m.l
 d:BM g "dict" name m.d
 a:BM g "bytearray" name m.a
 c:∀c f,m.c.lookup c=some f->oE K c name f=true∧name∉g.names c
section
variable{g:Gl}{cx:Cx}{tmp:List V}{vals:List V9}{st:St}{s:Wj}{A:Xd}{x y z:V9}{a b v u:V}{F:FZ}{E:V9->Wj->Prop}{Q:V->St->Prop}{X:St->Prop}{K:Frag}{name:Str}
theorem dB(id:String):Keeps g (.builtin id):=⟨.machine,.inr rfl,λA Q E s _ h=>Wg h⟩
theorem wb(T:Top g K)(e:keepIn K f=true):Keeps g f:=let⟨k,q,d⟩:=looks_keep (M:=g.M) e T.k;⟨k,q,d⟩
theorem r0(T:Top g K)(M:TC g K name m)(R:aI g cx tmp vals st s)(h:Nd g (cx.F st s) s.heap x c vs)(w:dR (m.c.lookup c) i)
 (k:∀f,Keeps g (.ref f)->i f->d (.ref f,[x]) s):Wz g.M A (getMethod x name pl) d E s:=by
 obtain⟨rfl,h,e,j,S,J⟩:=h
 obtain⟨f,p,w⟩:=aT w
 obtain⟨n1,n2⟩:=M.c c f p
 obtain⟨L,F⟩:=R.fr
 unfold oE at n1
 simp only[aao,beq_iff_eq]at n1
 obtain⟨⟨⟨h1,B⟩,D⟩,o⟩:=n1
 refine method_inst (C:=c) F T.k ⟨h,rfl,rfl,e⟩ h1 B D ?_ (k f (wb T o) w)
 unfold getL
 rw[KG (by rw[j];exact λq=>n2 (aau q)),rS];rfl
end
section
variable{g:Gl}{cx:Cx}{tmp:List V}{vals:List V9}{st:St}{s:Wj}{A:Xd}{x y z:V9}{a b v u:V}{F:FZ}{E:V9->Wj->Prop}{Q:V->St->Prop}{X:St->Prop}{K:Frag}{name:Str}{n:Nat}
theorem AQ(T:Top g K)(M:TC g K name m)(R:aI g cx tmp vals st s)(i:VR g (cx.F st s) v x)(w:pick m v st.h k I)
 (h1:∀p,fF g (.builtin p.1) p.2->k p->Y (.builtin p.1,[x]) s) (J:∀f,Keeps g (.ref f)->I f->Y (.ref f,[x]) s):Wz g.M A (getMethod x name pl) Y E s:=by
 have bi:∀{T:String} {e:Option (String×BW)},BM g T name e->dR e k->s.TypeIs x T->(∀a,x=.ref a->∃o,s.heap.get? a=some o∧o.dict=none)->Wz g.M A (getMethod x name pl) Y E s:=λ{T e} B w t d=>by
  obtain⟨p,Z,w⟩:=aT w
  have b:=B p Z
  exact getMethod_builtin t b.1.attrs b.1.slot b.1.isM d (h1 p b.2 w)
 have q:=R.rsd i
 have D:vc (res st.h v) _ _ _ _ _ _ _ _ _:=w
 generalize res st.h v=v' at q D
 cases v' with
 |bytes b=>exact aA (g:=g) (F:=cx.F st s) q λt e=>by subst e;exact bi M.b D (Xe _ _ _) λa e=>nomatch e
 |str b=>exact aW (g:=g) (F:=cx.F st s) q λt e=>by subst e;exact bi M.s D (ac4 _ _ _) λa e=>nomatch e
 |lst b=>exact aI.seq q λa xs n e h l l' i=>by subst e;exact bi M.l D ⟨_,h,rfl⟩ λa e=>by cases e;exact⟨_,h,rfl⟩
 |inst c vs=>
  obtain⟨e,h,h',L,S,i⟩:=q.2
  have h1:(g.names c).length=vs.length:=by rw[←L,Wd,S,i.length]
  exact r0 T M R ⟨e,h.1,h'.1,by rw[L,←h1,aal],S,i⟩ D J
 |ref a=>
  obtain rfl:x=.ref a:=q
  obtain⟨o,G,w⟩:=aT D
  obtain⟨ob,j,r⟩:=(R.known _ _ G).obj
  cases o with
  |inst c d=>
   obtain⟨o,H,w⟩:=aT w
   cases o with
   |fields c' vs=>
    obtain⟨rfl,w⟩:=w
    obtain⟨x2,U,ks,xs,n,rfl,L,S,i⟩:=(R.known _ _ H).obj
    obtain rfl:ob=Gp c d:=r
    exact r0 T M R ⟨rfl,j,U,L,S,i⟩ w J
   |_=>exact Ws w
  |dict k l=>
   refine Wo λno=>?_
   obtain⟨_,rr,_,es,Z,⟨h1,J,h3⟩,h4⟩:=r
   refine no ?_
   exact bi M.d w ⟨_,j,h1⟩ λa e=>by cases e;exact⟨_,j,J⟩
  |ba bs=>
   obtain⟨_,rfl⟩:=r
   exact bi M.a w ⟨_,j,rfl⟩ λa e=>by cases e;exact⟨_,j,rfl⟩
  |_=>exact Ws w
 |_=>exact Ws D
theorem OY(T:Top g K)(M:TC g K name m)(S:cx.lvl=n)(Y:bE g cx o W1)(ha:An g cx pos B D)(k:acX o name cx.env (eval o cx.env)=eval o cx.env)
 (e:aeu (B.length+([]:List aed).length) (Zf pos (X0 B cx.env)) (backToKw pos (adR [] cx.env))=true) (c:(j.endLine==pos.line)=true) (d:(Zf pos (X0 B cx.env)).any (·.1)=false) :
 bE g cx (.Call (.Attribute o name j) B [] pos) (av g n m W1 D):=λ{A s tmp vals st Q X} oa R w=>by
 have i:methodCallPos true o cx.env j pos=pure pos:=by unfold methodCallPos;simp[c]
 rw[arm_eval_Call,k]
 refine Y.then_ oa R w λv x st s R q=>aU ?_
 unfold methodCall
 rw[e]
 refine aq (ay (aF (AQ T M R.pop R.tmp.1 q (λp hb w=>aq (M4 i (bO (dB _) d (aV (ha oa R w) λxs s u=>u.elim' λvs st R l q=>⟨R.base,?_⟩)))) λf L w=>aq (M4 i (bO L d (aV (ha oa R w) λxs s u=>u.elim' λvs st R l q=>⟨R.base,?_⟩))))))
 ·have U:=R.unL l
  have J:bo g (cx.F st s) (v::vs) ([x]++xs):=V8 U.2.tmp.1 U.1
  exact hb oa U.2.pop J q
 ·have U:=R.unL l
  exact CF S oa ({U.2.pop with tmp:=⟨U.2.tmp.1,bo.append U.1 U.2.tmp.2⟩}:aI g cx (v::vs++tmp) (x::xs++vals) st s) (congrArg adM l) q
end
section
open PySem.Builtin
namespace FX
theorem F6:Slot "bytes" "join" "bytes.join" := .of (owner:= "bytes") (n:= "join") (by rw[W8,WN];kernel_rfl) (by decide +kernel) (by decide +kernel) (by decide +kernel) (by first|exact .inl (by decide +kernel)|exact .inr (by decide +kernel)) (by rw[Xu];kernel_rfl)
theorem F7:abF (.builtin "bytes.join")=pure (.type "method_descriptor"):=by show aae _=_;rw[Yy];kernel_rfl
theorem EH:Yw Z6 "bytes.join" = some XE.«bytes.join»:=by first|exact XJ (by kernel_rfl)|exact XM (by kernel_rfl)
theorem EI:Slot "bytes" "split" "bytes.split" := .of (owner:= "bytes") (n:= "split") (by rw[W8,WN];kernel_rfl) (by decide +kernel) (by decide +kernel) (by decide +kernel) (by first|exact .inl (by decide +kernel)|exact .inr (by decide +kernel)) (by rw[Xu];kernel_rfl)
theorem EJ:abF (.builtin "bytes.split")=pure (.type "method_descriptor"):=by show aae _=_;rw[Yy];kernel_rfl
theorem CP:Yw Z6 "bytes.split" = some XE.«bytes.split»:=by first|exact XJ (by kernel_rfl)|exact XM (by kernel_rfl)
theorem AR:Slot "bytes" "replace" "bytes.replace" := .of (owner:= "bytes") (n:= "replace") (by rw[W8,WN];kernel_rfl) (by decide +kernel) (by decide +kernel) (by decide +kernel) (by first|exact .inl (by decide +kernel)|exact .inr (by decide +kernel)) (by rw[Xu];kernel_rfl)
theorem AS:abF (.builtin "bytes.replace")=pure (.type "method_descriptor"):=by show aae _=_;rw[Yy];kernel_rfl
theorem Ao:Yw Z6 "bytes.replace" = some XE.«bytes.replace»:=by first|exact XJ (by kernel_rfl)|exact XM (by kernel_rfl)
theorem EK:Slot "bytes" "lower" "bytes.lower" := .of (owner:= "bytes") (n:= "lower") (by rw[W8,WN];kernel_rfl) (by decide +kernel) (by decide +kernel) (by decide +kernel) (by first|exact .inl (by decide +kernel)|exact .inr (by decide +kernel)) (by rw[Xu];kernel_rfl)
theorem EL:abF (.builtin "bytes.lower")=pure (.type "method_descriptor"):=by show aae _=_;rw[Yy];kernel_rfl
theorem CQ:Yw Z6 "bytes.lower" = some XE.«bytes.lower»:=by first|exact XJ (by kernel_rfl)|exact XM (by kernel_rfl)
theorem EM:Slot "bytes" "upper" "bytes.upper" := .of (owner:= "bytes") (n:= "upper") (by rw[W8,WN];kernel_rfl) (by decide +kernel) (by decide +kernel) (by decide +kernel) (by first|exact .inl (by decide +kernel)|exact .inr (by decide +kernel)) (by rw[Xu];kernel_rfl)
theorem EN:abF (.builtin "bytes.upper")=pure (.type "method_descriptor"):=by show aae _=_;rw[Yy];kernel_rfl
theorem CR:Yw Z6 "bytes.upper" = some XE.«bytes.upper»:=by first|exact XJ (by kernel_rfl)|exact XM (by kernel_rfl)
theorem EO(a:V9):Yk "bytes.lower" ⟨[a],[]⟩:=by unfold Yk;kernel_rfl
theorem ER(a:V9):Yk "bytes.upper" ⟨[a],[]⟩:=by unfold Yk;kernel_rfl
theorem F8(a b:V9):Yk "bytes.join" ⟨[a,b],[]⟩:=by unfold Yk;kernel_rfl
theorem ES(a b:V9):Yk "bytes.split" ⟨[a,b],[]⟩:=by unfold Yk;kernel_rfl
theorem AU(a b c:V9):Yk "bytes.replace" ⟨[a,b,c],[]⟩:=by unfold Yk;kernel_rfl
theorem wc(a b c:V9):Yk "bytes.startswith" ⟨[a,b,c],[]⟩:=by unfold Yk;kernel_rfl
end FX
noncomputable section
def hO(vs:List V):Option (List (List UInt8)):=aeX (motive:=λ_=>Option (List (List UInt8))) (some []) (λv _ r=>r.bind λl=>match v with | .bytes i=>some (i::l)|_=>none) vs
def yM(vs:List V):Option (List (List Nat)):=aeX (motive:=λ_=>Option (List (List Nat))) (some []) (λv _ r=>r.bind λl=>match v with | .str i=>some (i::l)|_=>none) vs
def G2:BW:=λvs h Q=>Yd (motive:=λ_=>Prop) vs False λa r=>Av a λb=>Yd (motive:=λ_=>Prop) r False λc r=>Av c λc=>Yd (motive:=λ_=>Prop) r (Q (.int (a8 b c 0)) h) λk r=>kJ k λk=>(0<=k∧r=[])∧Q (.int (a8 b c k.toNat)) h
def yN:BW:=b3 λa c k h Q=>Av a λb=>Av c λc=>kJ k λk=>0<=k∧Q (.bool (cQ b c k.toNat)) h
def CS:BW:=b1 λa h Q=>Av a λb=>Q (.bytes (b.map acj)) h
def CT:BW:=b1 λa h Q=>Av a λb=>Q (.bytes (b.map aci)) h
def CU:BW:=b2 λa c h Q=>Av a λb=>Av c λc=>only c λc=>b.length<=900000∧Q (.lst ((aL c b).map .bytes)) h
def va:BW:=b3 λa c w h Q=>Av a λb=>Av c λc=>Av w λw=>only c λc=>(b.length+b.length*w.length<=16777216∧(aP w (aL c b)).length<=16777216)∧Q (.bytes (aP w (aL c b))) h
def G3:BW:=b2 λa l h Q=>Av a λb=>iE (res h l) λvs=>dR (hO vs) λps=>(aP b ps).length<=16777216∧Q (.bytes (aP b ps)) h
def G4:BW:=b2 λa l h Q=>M6 a λb=>iE (res h l) λvs=>dR (yM vs) λps=>(b=[]∧ps.flatten.length<=16777216)∧Q (.str ps.flatten) h
def iI(x:List Nat)(c:Nat):Int:=match acZ ⟨x.toArray⟩ ⟨#[c]⟩ 0 x.length 1 with
 |i::_=>(i:Int)
 | []=>-1
def G5:BW:=b2 λa c h Q=>M6 a λx=>M6 c λc=>only c λc=>Q (.int (iI x c)) h
def CV:BW:=b1 λa h Q=>M6 a λx=>(∀c∈x,c<128)∧Q (.str (x.map XO)) h
def yO:BW:=b2 λa v h Q=>Ol a λa=>dR (h a) λo=>oc o (fl:=λvs=>vs.length<1000000∧Q .none (upd h a (some (.list (vs++[v])))))
def Ni:BW:=b1 λa h Q=>Ol a λa=>dR (h a) λo=>oc o (fl:=λvs=>dR vs.getLast? λv=>Q v (upd h a (some (.list vs.dropLast))))
def G6:BW:=b3 λa i d h Q=>Ol a λa=>dR (h a) λo=>oc o (fd:=λk l=>dR (k.key i) λq=>Q ((atKey l q).getD d) h)
end
end
section
open PySem.Builtin
section
theorem wd(h:two vs k):∃a b,vs=[a,b]∧k a b:=match vs,h with
 |a::r,h=>let⟨b,e,q⟩:=c9 h;⟨a,b,by rw[e],q⟩
theorem ET(h:three vs k):∃a b c,vs=[a,b,c]∧k a b c:=match vs,h with
 |a::r,h=>let⟨b,c,e,q⟩:=wd h;⟨a,b,c,by rw[e],q⟩
theorem bo.two{P:Prop}(h:bo g F [a,b] xs)(k:∀x y,xs=[x,y]->VR g F a x->VR g F b y->P):P:=by
 cases xs with
 |nil=>exact Ws h
 |cons x r=>exact bo.one h.2 λy e hy=>k x y (congrArg (x::·) e) h.1 hy
theorem fF.two{k:V->V->AH->VP->Prop}(h:∀{cx A s tmp vals st a b x y Q E},gJ cx.stk cx.lvl A->aI g cx tmp vals st s->VR g (cx.F st s) a x->VR g (cx.F st s) b y->k a b st.h (λv h=>Q v ⟨st.loc,h⟩)->Wz g.M A (call f [x,y]) (Up g cx tmp vals Q) E s):fF g f (b2 k):=λoa R hv w=>by
 obtain⟨a,b,rfl,q⟩:=wd w
 exact hv.two λx y e hx hy=>by subst e;exact aF (h oa R hx hy q)
theorem fF.three(h:∀{cx A s tmp vals st a b c x y z Q E},gJ cx.stk cx.lvl A->aI g cx tmp vals st s->VR g (cx.F st s) a x->VR g (cx.F st s) b y->VR g (cx.F st s) c z->k a b c st.h (λv h=>Q v ⟨st.loc,h⟩)->Wz g.M A (call f [x,y,z]) (Up g cx tmp vals Q) E s):fF g f (b3 k):=λoa R hv w=>by
 obtain⟨a,b,c,rfl,q⟩:=ET w
 exact hv.three λx y z e hx hy hz=>by subst e;exact aF (h oa R hx hy hz q)
theorem G7:fF g (.builtin "bytes.find") G2:=λ{cx A s tmp vals st vs xs Q E} oa R hv w=>by
 cases vs with
 |nil=>exact Ws w
 |cons a r=>cases r with
  |nil=>
   obtain⟨b,rfl,w⟩:=cK w
   exact Ws w
  |cons c r=>
   obtain⟨b,rfl,w1⟩:=cK w
   obtain⟨c,rfl,w2⟩:=cK w1
   cases r with
   |nil=>exact hv.two λx y e hx hy=>aA hx λt e1=>aA hy λt' e2=>by subst e e1 e2;exact aF (abk Tactic.FX.Q7 (Xe s _ _) Tactic.FX.Og (Tactic.FX.Oh _ _) Tactic.M0 (R.toks.up cD w2))
   |cons k r=>
    obtain⟨k,rfl,w3⟩:=bu w2
    obtain⟨⟨h0,rfl⟩,w3⟩:=w3
    obtain⟨j,rfl⟩:=abv h0
    exact hv.three λx y z e hx hy hz=>aA hx λt e1=>aA hy λt' e2=>aM hz λt2 e3=>by subst e e1 e2 e3;exact aF (abk Tactic.FX.Q7 (Xe s _ _) Tactic.FX.Og (Tactic.FX.Oi _ _ _) (Tactic.M1 j) (R.toks.up cD w3))
theorem AV:fF g (.builtin "bytes.startswith") yN:=fF.three λ{cx A s tmp vals st a b c x y z Q E} oa R hx hy hz w=>by
 obtain⟨b,rfl,w1⟩:=cK w
 obtain⟨c,rfl,w2⟩:=cK w1
 obtain⟨k,rfl,h0,w3⟩:=bu w2
 obtain⟨j,rfl⟩:=abv h0
 exact aA hx λt e1=>aA hy λt' e2=>aM hz λt2 e3=>by subst e1 e2 e3;exact abk aeb (Xe s _ _) FB.entry_bytes_startswith (FX.wc _ _ _) (Tactic.Cu j) (R.up mj w3)
theorem EU:fF g (.builtin "bytes.lower") CS:=fF.one λ{cx A s tmp vals st v x Q E} oa R hx w=>by
 obtain⟨b,rfl,w1⟩:=cK w
 have hz:(b.map acj).length<=16777216:=by rw[Wd];exact Zt hx
 exact aA hx λt e=>by subst e;exact abk FX.EK (Xe s _ _) FX.CQ (FX.EO _) Tactic.M2 ⟨by rw[Wk,WT];exact hz,R.toks.up (v:=.bytes _) (cR hz) w1⟩
theorem yP{b:List UInt8}{t:Tok}:afj (XE.«bytes.upper» ⟨[.bytes b.toArray t],[]⟩) (.bytes (b.map aci).toArray):=
 .of_wp λM A E s Q hq=>by
  show Wz M A (mkBytes (b.map aci).toArray>>=λv=>ret v) _ E s
  exact V7 (aaI (Wg ⟨_,rfl,hq.2⟩) hq.1)
theorem EV:fF g (.builtin "bytes.upper") CT:=fF.one λ{cx A s tmp vals st v x Q E} oa R hx w=>by
 obtain⟨b,rfl,w1⟩:=cK w
 have hz:(b.map aci).length<=16777216:=by rw[Wd];exact Zt hx
 exact aA hx λt e=>by subst e;exact abk FX.EM (Xe s _ _) FX.CR (FX.ER _) yP ⟨by rw[Wk,WT];exact hz,R.toks.up (v:=.bytes _) (cR hz) w1⟩
theorem R8(t:fS ps xs):(∀p∈ps,p.length<=16777216)->bo g F (ps.map .bytes) xs:=by
 induction t with
 |nil=>exact λ_=>rfl
 |cons t ih=>exact λh=>⟨cR (h _ (.head _)),ih λp hp=>h p (.tail _ hp)⟩
theorem EW:fF g (.builtin "bytes.split") CU:=fF.two λ{cx A s tmp vals st a b x y Q E} oa R hx hy w=>by
 obtain⟨b,rfl,w1⟩:=cK w
 obtain⟨c,rfl,w2⟩:=cK w1
 obtain⟨c,rfl,hb,w3⟩:=c9 w2
 exact aA hx λt e1=>aA hy λt' e2=>by
  subst e1 e2
  refine ZO FX.EI (Xe s _ _) FX.CP (FX.ES _ _) (Tactic.M3 (V4 hb dD)) λxs n hxs=>?_
  have hv:bo g (cx.F st s) ((aL c b).map .bytes) xs:=R8 hxs λp hp=>V4 (Tactic.vL c b p hp) (V4 hb dD)
  have R':=R.keeps (tk:=n) (hp:=s.heap.push (sq "list" xs 0)) λb o e=>Wl _ e
  exact⟨R'.push (v:=.lst _) (show bQ _ _ _ _ from .mk rfl (R.new (λb o e=>Wl _ e) (Wh _) (WG _ rfl) (c7 rfl rfl)) (by rw[hxs.length];exact V4 (Tactic.kU c b) (V4 (Wm hb) dD)) (hv.mono λa o z=>⟨Wl _ z.1,z.2⟩)),w3⟩
theorem yQ:fF g (.builtin "bytes.replace") va:=fF.three λ{cx A s tmp vals st a b c x y z Q E} oa R hx hy hz w=>by
 obtain⟨b,rfl,w1⟩:=cK w
 obtain⟨c,rfl,w2⟩:=cK w1
 obtain⟨nw,rfl,w3⟩:=cK w2
 obtain⟨c,rfl,hl,w4⟩:=c9 w3
 exact aA hx λt e1=>aA hy λt' e2=>aA hz λt2 e3=>by subst e1 e2 e3;exact ZO FX.AR (Xe s _ _) FX.Ao (FX.AU _ _ _) (Tactic.Kp hl.1 hl.2) λt' k=>R.toks.up (v:=.bytes _) (cR hl.2) w4
end
end
section
open PySem.Builtin
section
variable{g:Gl}{cx:Cx}{tmp:List V}{vals:List V9}{st:St}{s:Wj}{A:Xd}{x y z:V9}{a b c v u:V}{F:FZ}{E:V9->Wj->Prop}{Q:V->St->Prop}{X:St->Prop}{K:Frag}{f:V9}{vs:List V}{xs:List V9}
theorem we:∀{vs:List V} {xs:List V9} {ps:List (List UInt8)},bo g F vs xs->hO vs=some ps->fS ps xs:=by
 intro w1
 induction w1 with
 |nil=>
  intro _ _ h e
  cases h;cases e;exact .nil
 |cons v r ih=>
  intro w2
  cases w2 with
  |nil=>
   intros;exact Ws ‹_›
  |cons x xs=>
   intro ps h e
   obtain⟨l,e1,e2⟩:=YE.mp (show(hO r).bind _=some ps from e)
   cases v with
   |bytes i=>cases e2;exact aA h.1 λt q=>by rw[q];exact .cons (ih h.2 e1)
   |_=>exact bS e2
theorem yR:∀{vs:List V} {xs:List V9} {ps:List (List Nat)},bo g F vs xs->yM vs=some ps->∃l:List (Str×Tok),xs=strValues l∧l.map (·.1)=ps.map λp=>(⟨p.toArray⟩:Str):=by
 intro w1
 induction w1 with
 |nil=>
  intro _ _ h e
  cases h;cases e;exact⟨[],rfl,rfl⟩
 |cons v r ih=>
  intro w2
  cases w2 with
  |nil=>
   intros;exact Ws ‹_›
  |cons x xs=>
   intro ps h e
   obtain⟨l,e1,e2⟩:=YE.mp (show(yM r).bind _=some ps from e)
   cases v with
   |str i=>
    cases e2
    refine aW h.1 λt q=>?_
    obtain⟨l',e3,e4⟩:=ih h.2 e1
    exact⟨(_,t)::l',by rw[q,e3];rfl,by rw[WO,e4];rfl⟩
   |_=>exact bS e2
theorem vb{P:Prop}{vs:List V}(R:aI g cx tmp vals st s)(h:VR g (cx.F st s) v x)(e:res st.h v=.lst vs)(k:∀a xs n,x=.ref a->s.heap.get? a=some (sq "list" xs n)->xs.length<=1000000->xs.length=vs.length->bo g (cx.F st s) vs xs->P):P:=by
 have h':=R.rsd h
 rw[e]at h'
 exact aI.seq h' k
theorem G8:fF g (.builtin "bytes.join") G3:=fF.two λ{cx A s tmp vals st a b x y Q E} oa R hx hy w=>by
 obtain⟨b,rfl,w1⟩:=cK w
 obtain⟨vs,e,w2⟩:=eS w1
 obtain⟨ps,ep,hl,w3⟩:=aT w2
 exact aA hx λt e1=>vb R hy e λa xs n e2 ho _ _ hv=>by subst e1 e2;exact ZO FX.F6 (Xe s _ _) FX.EH (FX.F8 _ _) (Tactic.Of (we hv ep) hl) ⟨ho,λt' k=>R.toks.up (v:=.bytes _) (cR hl) w3⟩
theorem yS(ps:List (List Nat)):(ZQ ⟨#[]⟩ (ps.map λp=>(⟨p.toArray⟩:Str)))=⟨ps.flatten.toArray⟩:=by
 have main:∀(l:List (List Nat)) (acc:List Nat),(l.map λp=>(⟨p.toArray⟩:Str)).foldl (λacc p=>acc++(#[]:Array Nat)++p.cps) acc.toArray=(acc++l.flatten).toArray:=by
  intro l
  induction l with
  |nil=>intro acc;simp
  |cons a r ih=>
   intro acc
   have:acc.toArray++(#[]:Array Nat)++(⟨a.toArray⟩:Str).cps=(acc++a).toArray:=by simp
   rw[WO,aaB]
   rw[this,ih];simp
 unfold ZQ
 cases ps with
 |nil=>rfl
 |cons a r=>
  rw[WO]
  have:=main r a
  rw[this];simp
theorem EX(l:List (List Nat))(k:Nat):(l.map λp=>(⟨p.toArray⟩:Str)).toArray.foldl (λn (x:Str)=>n+x.length+(⟨([]:List Nat).toArray⟩:Str).length) k=k+l.flatten.length:=by
 rw(config:={}) [←Array.foldl_toList]
 show(l.map λp=>(⟨p.toArray⟩:Str)).foldl (λn (x:Str)=>n+x.length+0) k=_
 induction l generalizing k with
 |nil=>rfl
 |cons a r ih=>
  have e1:(⟨a.toArray⟩:Str).length=a.length:=Wk ..
  rw(config:={}) [WO,aaB,ih,e1,YG,V6,aeL,WJ]
theorem G9:fF g (.builtin "str.join") G4:=fF.two λ{cx A s tmp vals st a b x y Q E} oa R hx hy w=>by
 obtain⟨b,rfl,w1⟩:=hM w
 obtain⟨vs,e,w2⟩:=eS w1
 obtain⟨ps,ep,⟨rfl,hl⟩,w3⟩:=aT w2
 refine aW hx λt e1=>vb R hy e λa xs n e2 ho _ _ hv=>?_
 subst e1 e2
 obtain⟨l,rfl,el⟩:=yR hv ep
 refine ZO F.slot_str_join (ac4 s _ _) F.entry_str_join (F.args_str_join_2 _ _) (meets_str_join_list ⟨([]:List Nat).toArray⟩ t a l ?_) ⟨⟨_,ho,rfl,_,rfl⟩,?_⟩
 ·rw[el]
  rw[EX ps 0,WT,Xn]
  exact decide_eq_false (Xh.mpr hl)
 ·have eg:ZQ ⟨([]:List Nat).toArray⟩ (l.map (·.1))=⟨ps.flatten.toArray⟩:=by rw[el];exact yS ps
  have bc:∀t' tk,Up g cx tmp vals Q (.str ⟨ps.flatten.toArray⟩ t') { s with toks:=tk}:=λt' tk=>R.toks.up (v:=.str _) (e6 hl) w3
  have szf:(⟨ps.flatten.toArray⟩:Str).length<=sizeLine:=by show ps.flatten.toArray.size<=_;rw[Wk,WT];exact hl
  rcases l with _|⟨p,_|⟨p',r⟩⟩
  ·show Made.post (.str (ZQ _ _)) _ _
   rw[eg];exact⟨szf,bc _ _⟩
  ·have e2:p.1=⟨ps.flatten.toArray⟩:=by
    rcases ps with _|⟨z,_|⟨z',r'⟩⟩
    ·cases el
    ·have:p.1=⟨z.toArray⟩:=(Zg el).1
     rw[this,YG,List.flatten_nil,WH]
    ·cases (Zg el).2
   show Up g cx tmp vals Q (.str p.1 p.2) s
   rw[e2];exact bc _ _
  ·show Made.post (.str (ZQ _ _)) _ _
   rw[eg];exact⟨szf,bc _ _⟩
end
end
section
open PySem.Builtin
section
theorem Ha:fF g (.builtin "str.find") G5:=fF.two λ{cx A s tmp vals st a b x y Q E} oa R hx hy w=>by
 obtain⟨x,rfl,w1⟩:=hM w
 obtain⟨c,rfl,w2⟩:=hM w1
 obtain⟨c,rfl,w3⟩:=c9 w2
 refine aW hx λt e1=>aW hy λt' e2=>?_
 subst e1 e2
 refine abk F.slot_str_find (ac4 s _ _) F.entry_str_find (F.args_str_find_2 _ _) (gives_str_find _ _ _ _) ?_
 rw[show(⟨x.toArray⟩:Str).length=x.length from Wk ..]
 exact R.toks.up (v:=.int (iI x c)) cD w3
theorem EY:fF g (.builtin "str.upper") CV:=fF.one λ{cx A s tmp vals st v x Q E} oa R hx w=>by
 obtain⟨x,rfl,hA,w1⟩:=hM w
 refine aW hx λt e1=>?_
 subst e1
 have hl:(x.map XO).length<=16777216:=by rw[Wd];exact Zt hx
 have e:Txt.upper ⟨x.toArray⟩=⟨(x.map XO).toArray⟩:=by
  rw[PyProof.Rows.upper_ascii (by simpa using hA)]
  simp
 refine SC.upper ?_ ?_
 ·rw[e]
  show Builtin.Str.tooLong (x.map XO).toArray.size=false
  rw[Wk,WT]
  exact decide_eq_false (Xh.mpr hl)
 ·rw[e]
  exact R.toks.up (v:=.str _) (e6 hl) w1
set_option tactic.hygienic true in
theorem AW:fF g (.builtin "list.append") yO:=fF.two λ{cx A s tmp vals st a v x y Q E} oa R hx hy w=>by
 obtain⟨a,rfl,w1⟩:=jN w
 obtain⟨o,e,w2⟩:=aT w1
 obtain rfl:x=.ref a:=hx
 cases o <;> first|exact Ws w2|skip
 rename_i vs
 obtain⟨hl,q⟩:=w2
 obtain⟨ob,ho,xs,n,rfl,hn,hv⟩:=(R.known _ _ e).obj
 refine ZO acS ⟨_,ho,rfl⟩ F.entry_list_append (F.args_list_append_2 _ _) (list_append a xs.toArray n y (by rw[Wk,WT];exact V4 hn dD)) ⟨ho,?_⟩
 have e1:(s.heap.update a (Xj λx=>x.push y)).get? a=some (sq "list" (xs++[y]) (n+1)):=by
  rw[W9 _ ho rfl]
  unfold sq Xj
  simp
 exact⟨(R.turn (tk:=s.toks) (o:=.list (vs++[v])) e (.update ..) e1 ⟨xs++[y],_,rfl,by rw[V6,hv.length];exact hl,bo.append hv ⟨hy,rfl⟩⟩).push (v:=.none) gn,q⟩
set_option tactic.hygienic true in
theorem K4:fF g (.builtin "dict.get") G6:=fF.three λ{cx A s tmp vals st a i d x y z Q E} oa R hx hy hz w=>by
 obtain⟨a,rfl,w1⟩:=jN w
 obtain⟨o,e,w2⟩:=aT w1
 obtain rfl:x=.ref a:=hx
 cases o <;> first|exact Ws w2|skip
 rename_i k l
 obtain⟨kk,hkk,q⟩:=aT w2
 obtain⟨r,hl,hr,hD,hsys⟩:=R.dict e
 refine call_meetsIn F.slot_dict_get hD.typeIs F.entry_dict_get (F.args_dict_get_3 _ _ _) (meets_dict_get_default (k.kind g.prog g.w) a (k:=kk) (DK.is hy hkk) hsys z) ⟨_,hD.mapOf,?_⟩
 rcases hr.at_ kk with⟨e1,e2⟩|⟨v,x,e1,e2,h⟩
 ·rw[e2]
  rw[e1]at q
  exact R.toks.up (VR.mono (λa o h=>h) _ _ hz) q
 ·rw[e2]
  rw[e1]at q
  exact R.toks.up (VR.mono (λa o h=>h) _ _ h) q
set_option tactic.hygienic true in
theorem K5:fF g (.builtin "list.pop") Ni:=fF.one λ{cx A s tmp vals st v x Q E} oa R hx w=>by
 obtain⟨a,rfl,w1⟩:=jN w
 obtain⟨o,e,w2⟩:=aT w1
 obtain rfl:x=.ref a:=hx
 cases o <;> first|exact Ws w2|skip
 rename_i vs
 obtain⟨v,ev,q⟩:=aT w2
 obtain⟨ob,ho,xs,n,rfl,hn,hv⟩:=(R.known _ _ e).obj
 obtain⟨us,rfl⟩:∃us,vs=us++[v]:=⟨vs.dropLast,by rw[List.getLast?_eq_some_iff]at ev;obtain⟨us,rfl⟩:=ev;rw[ab6]⟩
 obtain⟨ys,y,rfl,h1,h2⟩:∃ys y,xs=ys++[y]∧bo g (cx.F st s) us ys∧VR g (cx.F st s) v y:=by
  have hl:us.length=(xs.take us.length).length:=by rw[Xi,hv.length,V6];exact(ZZ (Wq _ _)).symm
  rw[←Yz us.length xs]at hv
  have z:=bo.split hl hv
  exact z.2.one λy e2 hy=>⟨_,y,by rw[←e2,Yz],z.1,hy⟩
 rw[ab6]at q
 refine ZO F.slot_list_pop ⟨_,ho,rfl⟩ F.entry_list_pop (F.args_list_pop_1 _) (PySem.MeetsSeq.list_pop_last a (ys++[y]).toArray n y (by simp) (by rw[Wk,WT];exact V4 hn dD)) ⟨ho,?_⟩
 have e1:(s.heap.update a (Xj λxs=>xs.eraseIdxIfInBounds ((ys++[y]).toArray.size-1))).get? a=some (sq "list" ys (n+1)):=by
  rw[W9 _ ho rfl]
  have z:(ys++[y]).toArray.eraseIdxIfInBounds ((ys++[y]).toArray.size-1)=ys.toArray:=by
   rw[List.eraseIdxIfInBounds_toArray]
   congr 1
   simp[List.eraseIdx_append_of_length_le]
  unfold sq Xj
  simp only[z]
  simp
 exact⟨(R.push h2).turn (tk:=s.toks) (o:=.list us) e (.update ..) e1 ⟨ys,_,rfl,V4 (by rw[V6];exact Wq _ _) hn,h1⟩,q⟩
end
end
section
open Sem (wp)
open PySem.Builtin
namespace FX
theorem Hb:mroOf (.type "bytearray")=pure [.type "bytearray",.type "object"]:=by rw[mroOf_type];kernel_rfl
theorem tS:abj (.type "bytearray") "__new__" = pure (some (.builtin "bytearray.__new__")):=by rw[W8,WN];kernel_rfl
theorem wg:Slot "bytearray" "__init__" "bytearray.__init__" := .of (owner:= "bytearray") (n:= "__init__") (by rw[W8,WN];kernel_rfl) dD dD dD (.inl dD) (by rw[Xu];kernel_rfl)
theorem Hc:Slot "bytearray" "append" "bytearray.append" := .of (owner:= "bytearray") (n:= "append") (by rw[W8,WN];kernel_rfl) dD dD dD (.inr dD) (by rw[Xu];kernel_rfl)
theorem F9:Slot "bytearray" "reverse" "bytearray.reverse" := .of (owner:= "bytearray") (n:= "reverse") (by rw[W8,WN];kernel_rfl) dD dD dD (.inr dD) (by rw[Xu];kernel_rfl)
theorem Nj:Slot "bytearray" "__len__" "bytearray.__len__" := .of (owner:= "bytearray") (n:= "__len__") (by rw[W8,WN];kernel_rfl) dD dD dD (.inl dD) (by rw[Xu];kernel_rfl)
theorem Rf:TypeCalled "bytearray" "bytearray.__new__" "bytearray.__init__" :=
 ⟨dD,dD,⟨_,_,Hb⟩,madeBy_type Hb tS dD,dD,by rw[Xu];kernel_rfl,wg⟩
theorem Nk:checkTypeCall "bytearray" ⟨[],[]⟩=pure ():=by kernel_rfl
theorem OZ:XN "bytearray.__new__" ⟨[.type "bytearray"],[]⟩=pure ():=by kernel_rfl
theorem K6:Yw Z6 "bytearray.__new__" = some XE.«list.__new__»:=entryFor_alias (id':= "list.__new__") (by kernel_rfl) dD dD (by kernel_rfl)
theorem Kq:Yw Z6 "bytearray.__init__" = some XE.«bytearray.__init__»:=by first|exact XJ (by kernel_rfl)|exact XM (by kernel_rfl)
theorem Ga:Yw Z6 "bytearray.append" = some XE.«bytearray.append»:=by first|exact XJ (by kernel_rfl)|exact XM (by kernel_rfl)
theorem EZ:Yw Z6 "bytearray.reverse" = some XE.«bytearray.reverse»:=by first|exact XJ (by kernel_rfl)|exact XM (by kernel_rfl)
theorem K7:Yw Z6 "bytearray.__len__" = some XE.«bytearray.__len__»:=by first|exact XJ (by kernel_rfl)|exact XM (by kernel_rfl)
theorem K8:plainId "bytearray.__new__" = true:=dD
theorem Nl:afg (.type "bytearray") (.type "bytearray")=pure true:=by rw[Xu];kernel_rfl
theorem He(a b:V9):Yk "bytearray.append" ⟨[a,b],[]⟩:=by unfold Yk;kernel_rfl
theorem Gb(a:V9):Yk "bytearray.reverse" ⟨[a],[]⟩:=by unfold Yk;kernel_rfl
theorem Nm(a:V9):Yk "bytearray.__len__" ⟨[a],[]⟩:=by unfold Yk;kernel_rfl
theorem K9(a:V9):Yk "bytearray.__init__" ⟨[a],[]⟩:=by unfold Yk;kernel_rfl
theorem Hf:abF (.builtin "bytearray.append")=pure (.type "method_descriptor"):=by show aae _=_;rw[Yy];kernel_rfl
theorem Gc:abF (.builtin "bytearray.reverse")=pure (.type "method_descriptor"):=by show aae _=_;rw[Yy];kernel_rfl
theorem O0:abj (.type "bytearray") "__release_buffer__" = pure (some (.builtin "bytearray.__release_buffer__")):=by rw[W8,WN];kernel_rfl
theorem Nn:abj (.type "bytearray") "__bytes__" = pure none:=by rw[W8,WN];kernel_rfl
theorem Np:abj (.type "bytearray") "__index__" = pure none:=by rw[W8,WN];kernel_rfl
theorem Rg:abj (.type "bytearray") "__buffer__" = pure (some (.builtin "bytearray.__buffer__")):=by rw[W8,WN];kernel_rfl
theorem R9:PlainAttrs "bytearray" := ⟨⟨"bytearray.__getattribute__",by rw[W8,WN];kernel_rfl,dD⟩,by rw[W8,WN];kernel_rfl⟩
end FX
abbrev E0(b:List UInt8):Obj:={cls:=.type "bytearray",data:=.bytearray b.toArray}
section
variable{g:Gl}{cx:Cx}{tmp:List V}{vals:List V9}{st:St}{s:Wj}{A:Xd}{x y z:V9}{a v u:V}{F:FZ}{E:V9->Wj->Prop}{Q:V->St->Prop}{X:St->Prop}{K:Frag}{f:V9}{vs:List V}{xs:List V9}{d:Addr}{b:List UInt8}
theorem yT{Q:Bool->Wj->Prop}(h:Q false s):wq g A (Bytes.exported (.ref d)) Q E s:=λj p _ hC=>by
 rw[yr,aeE]
 show wp _ j (Sem.stack _) _ _ p s
 rw[Sem.wp_stack]
 refine @Eq.subst Bool (λb=>Q b s) false _ (Eq.symm ?_) h
 rw[Z9]
 intro q i
 rw[Bool.not_eq_true]
 exact(Wf.mp i).elim (λe=>by rw[e];exact hC.1 _ _) λh=>hC.2 q h _ _
theorem CW{Q:Bool->Wj->Prop}(q:s.heap.get? d=some (E0 b))(h:Q false s):wq g A (Bytes.exported (.ref d) <||> (do return (←Bytes.exportsOf (.ref d))>0)) Q E s:=by
 refine aq (yT ?_)
 show wq _ _ (do let n ←Bytes.exportsOf (.ref d);pure (decide (n>0)):Sem Bool) _ _ _
 refine aq ?_
 exact aF (V7 (aaC q (Wg (ax h))))
theorem r4{f:Array UInt8->Array UInt8}{Q:Unit->Wj->Prop}(ho:s.heap.get? d=some (E0 b))(hsz:(f b.toArray).size<=16777216)
 (h:∀h',Xg d s.heap h'->h'.get? d=some (E0 (f b.toArray).toList)->Q () { s with heap:=h'}):wq g A (aeF (.ref d) f) Q E s:=by
 refine aF ?_
 show Wz _ _ (updateBytearray d f) _ _ s
 refine Internal.Vv (λ_ q=>aaC ho q) ?_
 show Wz _ _ (update d (ac6 f)>>=λ_=>lookBehind d) _ _ _
 refine V7 (wpAny_update ho ?_)
 have hS:(s.heap.update d (ac6 f)).get? d=some (E0 (f b.toArray).toList):=by
  rw[W9 (ac6 f) ho rfl];rfl
 refine adI hS ?_ (h _ (X2 ..) hS)
 show(if(f b.toArray).toList.toArray.size>acF then some "bytearray:memory" else none)=none
 rw[if_neg (by rw[WT];exact Xh.mpr hsz)]
theorem kY{id:String}{args:List V9}{w:XE}{j:V9->Wj->Prop}(i:(Code.builtin id ⟨args,[]⟩).quiet=true)(hb:Yw Z6 id=some w)(c:jY (.builtin id ⟨args,[]⟩))
 (h:Wz g.M A.in1 (XN id ⟨args,[]⟩) (λ_ q=>wq g (A.under (.builtin id ⟨args,[]⟩)) (w ⟨args,[]⟩) (Au g A (Q9 (T2 j) E)) E q) E s):wq g A (call (.builtin id) args) j E s:=
 jM (kX i hb c h)
theorem aI.ba(R:aI g cx tmp vals st s)(e:st.h d=some (.ba b)):b.length<=1000000∧s.heap.get? d=some (E0 b):=by
 obtain⟨j,q,r⟩:=(R.known _ _ e).obj
 exact⟨r.1,by rw[q,r.2]⟩
def Um(k:Addr->List UInt8->AH->VP->Prop):V->AH->VP->Prop:=λa h Q=>Ol a λa=>dR (h a) λo=>oc o (fb:=λb=>k a b h Q)
theorem CX{k:Addr->List UInt8->AH->VP->Prop}{h:AH}{Q:VP}(w:Um k a h Q):∃d b,a=.ref d∧h d=some (.ba b)∧k d b h Q:=by
 obtain⟨d,rfl,w⟩:=jN w
 obtain⟨o,e,w⟩:=aT w
 cases o <;> first|exact Ws w|skip
 exact⟨d,_,rfl,e,w⟩
def vd:BW:=b2 λa v=>Um (λa b h Q=>kJ v λi=>(GJ i∧b.length<1000000)∧Q .none (upd h a (some (.ba (b++[i.toNat.toUInt8]))))) a
def r5:BW:=b1 (Um λa b h Q=>Q .none (upd h a (some (.ba b.reverse))))
def wh:BW:=λvs h Q=>vs=[]∧∀c,h c=none->Q (.ref c) (upd h c (some (.ba [])))
theorem yU:fF g (.builtin "bytearray.append") vd:=λ{cx A s tmp vals st vs xs Q E} oa R hv w=>by
 obtain⟨a,r,rfl,w1⟩:=wd w
 obtain⟨d,b,rfl,e,w2⟩:=CX w1
 obtain⟨i,rfl,⟨hi,hl⟩,q⟩:=bu w2
 refine bo.two hv λx y e1 hx hy=>?_
 obtain rfl:x=.ref d:=hx
 refine aM hy λt e2=>?_
 subst e1 e2
 have z:=R.ba e
 refine kY (YA _ dD) FX.Ga (gq (x:=.ref d) (id:= "bytearray.append") (λ_ _=>rfl) rfl) (FX.Hc.check _ _ _ _ _ _ _ _ ⟨_,z.2,rfl⟩ (FX.He _ _) ?_)
 show wq _ _ (Bytes.byteValue (.int i t)>>=λc=>afk (.ref d)>>=λ_=>aeF (.ref d) (·.push c)>>=λ_=>ret .none) _ _ s
 refine(kI (a:=i.toNat.toUInt8) ?_ (aq ?_))
 ·show(if(decide (i<0)||decide (i≥256))=true then _ else _)=_
  rw[if_neg (by rw[decide_eq_false (YX.mpr hi.1),decide_eq_false (Int.not_le.mpr hi.2)];decide)]
 ·unfold afk
  refine aq (CW z.2 (ax (aq (r4 z.2 (by rw[adb,Wk];exact V4 hl dD) λh' hs he=>ax ?_))))
  exact⟨(R.turn (tk:=s.toks) (o:=.ba (b++[i.toNat.toUInt8])) e hs he ⟨by rw[V6];exact hl,by simp⟩).push (v:=.none) gn,q⟩
theorem wi:fF g (.builtin "bytearray.reverse") r5:=λ{cx A s tmp vals st vs xs Q E} oa R hv w=>by
 obtain⟨a,rfl,w1⟩:=c9 w
 obtain⟨d,b,rfl,e,q⟩:=CX w1
 refine bo.one hv λx e1 hx=>?_
 subst e1
 obtain rfl:x=.ref d:=hx
 have z:=R.ba e
 refine kY (YA _ dD) FX.EZ (gq (x:=.ref d) (id:= "bytearray.reverse") (λ_ _=>rfl) rfl) (FX.F9.check _ _ _ _ _ _ _ _ ⟨_,z.2,rfl⟩ (FX.Gb _) ?_)
 show wq _ _ (aeF (.ref d) (·.reverse)>>=λ_=>ret .none) _ _ s
 refine aq (r4 z.2 (by rw[Array.size_reverse,Wk];exact V4 z.1 dD) λh' hs he=>ax ?_)
 exact⟨(R.turn (tk:=s.toks) (o:=.ba b.reverse) e hs he ⟨by rw[Ys];exact z.1,by simp⟩).push (v:=.none) gn,q⟩
end
end
section
open Sem (wp)
open PySem.Builtin
section
variable{g:Gl}{cx:Cx}{tmp:List V}{vals:List V9}{st:St}{s:Wj}{A:Xd}{x y z:V9}{a v u:V}{F:FZ}{E:V9->Wj->Prop}{Q:V->St->Prop}{X:St->Prop}{K:Frag}{f:V9}{vs:List V}{xs:List V9}{d:Addr}{b:List UInt8}
theorem mq{q:Type}{c:Prop}[Decidable c]{x y:Sem q}{Q:q->Wj->Prop}(hc:¬c)(h:wq g A y Q E s):wq g A (if c then x else y) Q E s:=by rw[if_neg hc];exact h
abbrev Rh(s:Wj):Shared:={s with heap:=s.heap.push (E0 [])}
theorem O1(h:Q₁ (.ref s.heap.objs.size) (Rh s)):Wz g.M A (call (.builtin "bytearray.__new__") [.type "bytearray"]) Q₁ E s:=by
 refine abi (aa0 ?_)
 show Wz _ A.in1 (do XN "bytearray.__new__" ⟨[.type "bytearray"],[]⟩;adS (.builtin "bytearray.__new__" ⟨[.type "bytearray"],[]⟩)) _ _ s
 refine(Internal.V2 FX.OZ (Wg ⟨ZC FX.K8 _,codeAny_builtin_stack FX.K6 rfl λp st=>?_⟩))
 rw[XI FX.K8 _]
 have e:("bytearray.__new__".splitOn ".__new__").headD "" = "bytearray" := by rw[split_bytearray];rfl
 dsimp only
 rw[e]
 refine(Internal.V2 (a:=true) rfl ?_)
 refine(Internal.V2 FX.Nl ?_)
 exact Internal.V1 ((V7 (Yu (T:= "bytearray") (Wg h) (Wy _))))
theorem La:acs "bytearray.__init__" "bytearray" ["source", "encoding", "errors"] [] []=pure [none,none,none]:=by rfl
theorem kL{Q:Bool->Wj->Prop}(j:s.heap.get? d=some (E0 b))(h:Q false s):Wz g.M A (Bytes.ownRelease (.ref d)) Q E s:=by
 have hT:s.TypeIs (.ref d) "bytearray" := ⟨_,j,rfl⟩
 refine V7 (Internal.Vv (λ_ q=>Y6 (name:=V3 "__release_buffer__") hT FX.O0 q) ?_)
 dsimp only
 rw[if_neg (by decide +kernel)]
 refine Zm (b:=true) hT ?_ (Wg h)
 exact(congrArg (λx=>afg (.type "bytearray") (.type x)) (show "bytearray.__release_buffer__".dropRight ("__release_buffer__".length+1) = "bytearray" by decide +kernel)).trans FX.Nl
theorem Lb(h:∀h',Xg s.heap.objs.size (Rh s).heap h'->h'.get? s.heap.objs.size=some (E0 [])->Qr .none { s with heap:=h'}):wq g A (call (.builtin "bytearray.__init__") [.ref s.heap.objs.size]) Qr E (Rh s):=by
 have ho:(Rh s).heap.get? s.heap.objs.size=some (E0 []):=WG _ rfl
 refine kY (YA _ dD) FX.Kq (gq (x:=.ref s.heap.objs.size) (id:= "bytearray.__init__") (λ_ _=>rfl) rfl) (FX.wg.check _ _ _ _ _ _ _ _ ⟨_,ho,rfl⟩ (FX.K9 _) ?_)
 refine fC (λ_ q=>kL ho q) ?_
 refine mq dD ?_
 refine(kI La ?_)
 dsimp only
 refine(kI (a:=()) rfl ?_)
 refine(kI (a:=()) rfl ?_)
 refine aq (CW ho ?_)
 refine mq dD ?_
 refine aq (r4 (b:=[]) ho (Wy _) λh' hs he=>?_)
 refine aq (mq dD (mq dD (ax ?_)))
 exact ax (h h' hs he)
theorem Sa{Qr:V9->Wj->Prop}(h:∀h',Xg s.heap.objs.size (Rh s).heap h'->h'.get? s.heap.objs.size=some (E0 [])->Qr (.ref s.heap.objs.size) { s with heap:=h'}):wq g A (call (.type "bytearray") []) Qr E s:=by
 obtain⟨c,tl,hmro⟩:=FX.Rf.mro
 refine jM (fD (oh _ _) ?_)
 refine ax ⟨YA _ dD,gq (x:=.type "bytearray") (id:= "type.__call__") (λ_ _=>rfl) rfl,G1 aex (gq (x:=.type "bytearray") (id:= "type.__call__") (λ_ _=>rfl) rfl) ?_⟩
 unfold XE.«type.__call__»
 refine mq (by rw[FX.Rf.notType];decide) ?_
 refine mq (by rw[FX.Rf.canCreate];decide) ?_
 refine(kI FX.Nk ?_)
 refine(kI hmro ?_)
 refine mq ff ?_
 refine(kI FX.Rf.made ?_)
 refine dY (?_)
 refine aq (ay (aF (O1 ?_)))
 have hT:(Rh s).TypeIs (.ref s.heap.objs.size) "bytearray" := ⟨_,WG _ rfl,rfl⟩
 refine fC (λ_ q=>Zm (b:=true) hT FX.Rf.sub q) ?_
 refine mq dD ?_
 refine aq (ay ?_)
 refine fC (λ_ q=>Y6 hT FX.Rf.init.lookup q) ?_
 refine ay (aq (aF (adQ (FX.Rf.init.bind _) ?_)))
 refine aq (Lb λh' hs he=>?_)
 refine ax ?_
 exact mq dD (ax (h h' hs he))
theorem Sb:fF g (.type "bytearray") wh:=λ{cx A s tmp vals st vs xs Q E} oa R hv w=>by
 obtain⟨rfl,q⟩:=w
 obtain rfl:xs=[]:=hv
 exact Sa λh' hs he=>⟨(R.alloc (tk:=s.toks) (o:=.ba []) (λb o e=>(hs.2 b (WW (WU e))).trans (Wl _ e)) (Wh _) he ⟨Wy _,rfl⟩).push (v:=.ref s.heap.objs.size) rfl,q _ (R.fresh (Wh _))⟩
theorem wj:Meets (XE.«bytearray.__len__» ⟨[.ref d],[]⟩) (λ_ R s=>s.heap.get? d=some (E0 b)∧R (.ok (.ret (.int b.length s.toks))) { s with toks:=s.toks+1}):=by
 refine .of_wp λprog w A R s ⟨q,h⟩=>?_
 show Wz _ _ (ack (.ref d)>>=λr=>_) _ _ s
 refine V7 ?_
 refine V7 (V7 (aaC q (Wg (Wg ?_))))
 exact V7 (acz (Wg ⟨_,rfl,by rw[Wk];exact h⟩))
theorem O2{Q:V9->Wj->Prop}(j:s.heap.get? d=some (E0 b))(hb:b.length<=1000000)(h:∀t k,Q (.int b.length t) { s with toks:=k}):Wz g.M A (call (.builtin "len") [.ref d]) Q E s:=by
 have hT:s.TypeIs (.ref d) "bytearray" := ⟨_,j,rfl⟩
 refine adE kind_len plain_len entry_len (args_len1 _) ?_
 refine V7 (m:=oneArg "len" _) (Wg ?_)
 refine V7 (m:=callSpecial? (.ref d) (V3 "__len__")) (YK (name:=V3 "__len__") hT FX.Nj (ZO FX.Nj hT FX.K7 (FX.Nm _) wj ⟨j,?_⟩))
 show Wz _ _ _ _ _ { s with toks:=s.toks+1}
 refine V7 (Xk (Wg ?_))
 refine Internal.Vv (λ_ q=>wpAny_letGo q) ?_
 rw[if_neg (YX.mpr (Ww _))]
 show Wz _ _ (if((b.length:Nat):Int)≥2^63 then _ else _) _ _ _
 rw[if_neg (Int.not_le.mpr (Z2 (XS.mpr (show b.length<=1000000 by assumption)) dD))]
 exact V7 (acz (Wg ⟨_,rfl,h _ _⟩))
theorem AX{Q:Bool->Wj->Prop}(hT:s.TypeIs (.ref d) "bytearray")(h:Q true s):Wz g.M A (Bytes.slotIsOwn (.ref d) "__buffer__") Q E s:=by
 unfold Bytes.slotIsOwn
 refine Internal.Vv (λ_ q=>Y6 (name:=V3 "__buffer__") hT FX.Rg q) ?_
 dsimp only
 rw[if_neg (by decide +kernel)]
 refine Zm (b:=true) hT ?_ h
 exact(congrArg (λx=>afg (.type "bytearray") (.type x)) (show "bytearray.__buffer__".dropRight ("__buffer__".length+1) = "bytearray" by decide +kernel)).trans FX.Nl
theorem fM{q:Type}{c:Bool}{x y:Sem q}{Q:q->Wj->Prop}(hc:c=false)(h:Wz g.M A y Q E s):Wz g.M A (if c then x else y) Q E s:=by rw[if_neg (by rw[hc];decide)];exact h
theorem Hg{Q:V9->Wj->Prop}(j:s.heap.get? d=some (E0 b))(hb:b.length<=1000000)(h:∀t k,Q (.bytes b.toArray t) { s with toks:=k}):Wz g.M A (call (.type "bytes") [.ref d]) Q E s:=by
 have hT:s.TypeIs (.ref d) "bytearray" := ⟨_,j,rfl⟩
 refine callType_codes F.bm_called (F.bm_typeCall _) F.entry_object_init (Q₁:=λv c=>∃t k,v=.bytes b.toArray t∧c={s with toks:=k}) ?_ ?_
 ·refine aa0 ?_
  show Wz _ A.in1.in1 (do XN "bytes.__new__" ⟨[.type "bytes",.ref d],[]⟩;adS (.builtin "bytes.__new__" ⟨[.type "bytes",.ref d],[]⟩)) _ _ s
  refine(Internal.V2 (F.bm_newCall _) (Wg ⟨ZC F.bm_plain _,YR F.bm_entry ?_⟩))
  rw[XI F.bm_plain _]
  refine(Internal.V2 (a:=true) rfl ?_)
  refine fM rfl ?_
  refine(Internal.V2 F.bm_sub ?_)
  refine fM rfl ?_
  refine(Internal.V2 (F.bm_bind _) ?_)
  refine(Internal.V2 (a:=()) rfl ?_)
  refine(Internal.V2 (a:=()) rfl ?_)
  refine fM rfl ?_
  refine V7 (Y6 hT FX.Nn ?_)
  refine V7 (V7 ?_)
  refine Internal.Vv (λ_ q=>aaC j q) ?_
  refine Wg (Wg ?_)
  refine fM rfl ?_
  refine V7 (Y6 hT FX.Np ?_)
  refine bm_if_true rfl ?_
  refine V7 ?_
  refine V7 (Y6 (name:=V3 "__buffer__") hT FX.Rg ?_)
  refine Internal.Vv (λ_ q=>AX hT q) ?_
  refine fM rfl ?_
  refine V7 (Y6 (name:=V3 "__buffer__") hT FX.Rg ?_)
  refine Internal.Vv (λ_ q=>kL j q) ?_
  refine fM rfl ?_
  refine V7 (V7 (V7 (aaC j (Wg (Wg (Wg ?_))))))
  refine V7 (Yt ?_)
  refine V7 (aaI ?_ (by rw[WT,Wk];exact CH hb))
  exact Wg ⟨_,_,rfl,rfl⟩
 ·rintro obj i ⟨t,k,rfl,rfl⟩
  exact⟨Xe _ _ _,F.args_object_init_2 _ _,object_init_meets F.bm_called.init.lookup F.bm_called.made dD _ _ A.in1 _ _ ⟨Xe _ _ _,rfl,h _ _⟩⟩
theorem O4:tP g (.builtin "len") c5:=λ{cx A s tmp vals st v x Q E} oa R hx w=>by
 have q:=R.rsd hx
 have j:vc (res st.h v) _ _ _ _ _ _ _:=w
 generalize res st.h v=m at q j
 cases m with
 |bytes b=>
  refine aA (g:=g) (F:=cx.F st s) q λt e=>?_
  subst e
  refine len_bytes (V4 (show b.toArray.size<=16777216 by rw[Wk];exact Zt q) dD) ?_
  rw[Wk];exact R.toks.up cD j
 |str b=>
  refine aW (g:=g) (F:=cx.F st s) q λt e=>?_
  subst e
  refine P.len_str (Int.not_le.mpr (ON (Zt q))) ?_
  rw[show(⟨b.toArray⟩:Str).length=b.length from Wk ..];exact R.toks.up cD j
 |tup b=>
  refine aI.seq (bQ.imp (λ_ _ h=>h.1) (λ_ h=>h) q) λa xs n e h l i p=>?_
  subst e
  refine len_tuple ⟨_,h,rfl,_,rfl⟩ (ON (CH l)) ?_
  rw[Wk,i];exact R.toks.up cD j
 |lst b=>
  refine aI.seq q λa xs n e h l i p=>?_
  subst e
  refine call_len_list ⟨_,h,rfl,_,rfl⟩ (ON (CH l)) ?_
  rw[Wk,i];exact R.toks.up cD j
 |ref d=>
  obtain rfl:x=.ref d:=q
  obtain⟨o,e,c⟩:=aT j
  cases o <;> first|exact Ws c|exact O2 (R.ba e).2 (R.ba e).1 λt k=>R.toks.up cD c
 |_=>exact Ws j
theorem Hh:tP g (.type "bytes") du:=λ{cx A s tmp vals st v x Q E} oa R hx w=>by
 have j:=R.rsd hx
 have i:vc (res st.h v) _ _ _ _ _ _ _:=w
 generalize res st.h v=D at j i
 cases D with
 |lst b=>
  refine aI.seq j λa xs n e h l L B=>?_
  subst e
  obtain⟨ns,e,J,q⟩:=aT i
  have c:=yA B e
  refine call_bytes_ints ⟨_,h,rfl,_,rfl⟩ c J (by rw[WT];exact V4 l dD) oa.handled λS t k m=>?_
  rw[AF]
  exact(R.keeps m).up (v:=.bytes (ns.map λn=>n.toNat.toUInt8)) (cR (by rw[Wd,←c.length];exact V4 l dD)) q
 |ref d=>
  obtain rfl:x=.ref d:=j
  obtain⟨o,e,p⟩:=aT i
  cases o <;> first|exact Ws p|exact Hg (R.ba e).2 (R.ba e).1 λt k=>R.toks.up (v:=.bytes _) (cR (CH (R.ba e).1)) p
 |_=>exact Ws i
end
end
section
def a4(e:Expr):Bool:=match e with
 | .Starred _ _=>false
 |_=>true
theorem eT(d:List Expr)(env:Env)(h:a4 e=true):X0 (e::d) env=(false,eval e env)::X0 d env:=by
 cases e <;> first|rfl|cases h
theorem e7(d:List Expr)(env:Env)(h:a4 e=true):aaF (e::d) env=(false,Y1 e env)::aaF d env:=by
 cases e <;> first|rfl|cases h
def yV:List gG->List V->(St->Prop)->St->Prop
 | [],[],Q,st=>Q st
 |t::q,v::vs,Q,st=>t v (λd=>yV q vs Q d) st
 |_,_,_,_=>False
def Un(d:List gG):gG:=λv Q st=>Ra v λvs=>yV d vs Q st
noncomputable section
def jl(k:DK):List (k.K×V)->List V->Option (List (k.K×V))
 |d,[]=>some d
 |d,a::b::r=>(k.key a).bind λq=>jl k (fE d q b) r
 |_,_=>none
def p8(k:DK)(W:PT):PT:=λQ X st=>∀d,st.h d=none->W (λv q=>iE v λl=>dR (jl k [] l) λout=>(l.length<=100∧q.h d=some (.dict k []))∧Q (.ref d) ⟨q.loc,upd q.h d (some (.dict k out))⟩) X ⟨st.loc,upd st.h d (some (.dict k []))⟩
def r6(k:DK):PT:=λQ _ st=>fresh (.dict k []) st Q
end
def ve(l:List (V9×V9)):List Value:=l.flatMap λp=>[p.1,p.2]
inductive U8(g:Gl)(cx:Cx)(tmp:List V)(vals:List V9)(Q:V->St->Prop)(n:Nat)(rs:List (V9×V9))(s:Wj):Prop
 |mk {l:List V} {st:St} (R:aI g cx (l++tmp) (ve rs++vals) st s) (e:l.length=(ve rs).length) (q:Q (.lst l) st):U8 g cx tmp vals Q n rs s
def TP(g:Gl)(cx:Cx)(t:Sem (List (V9×V9)))(W:PT):Prop:=∀{A s tmp vals st Q X},gJ cx.stk cx.lvl A->aI g cx tmp vals st s->W Q X st->wq g A t (U8 g cx tmp vals Q 0) (hH g cx X) s
section
variable{g:Gl}{cx:Cx}{tmp:List V}{vals:List V9}{st:St}{s:Wj}{A:Xd}{x y z:V9}{a b v u:V}{F:FZ}{E:V9->Wj->Prop}{Q:V->St->Prop}{X:St->Prop}{Qs:St->Prop}
theorem AY(c:gJ cx.stk cx.lvl A):∀{d:List Expr} {vs:List V} {xs:List V9} {st:St} {s:Wj},(∀t∈d,a4 t=true∧TT g cx (Y1 t cx.env) (f t))->aI g cx (vs++tmp) (xs++vals) st s->vs.length=xs.length->yV (d.map f) vs Qs st->(∀st j,aI g cx tmp vals st j->Qs st->i () j)->
 wq g A (ae6 ((aaF d cx.env).map (·.2)) xs) i (λ_ _=>False) s:=by
 intro d
 induction d with
 |nil=>
  intro vs xs st s h R l w k
  cases vs with
  |nil=>cases xs with
   |nil=>exact ax (k _ _ R w)
   |cons=>cases l
  |cons=>exact Ws w
 |cons t d p=>
  intro vs xs st s h R l w k
  cases vs with
  |nil=>exact Ws w
  |cons v vs=>cases xs with
   |nil=>cases l
   |cons x xs=>
    rw[e7 d cx.env (h t (.head _)).1]
    exact aq (ay (aV ((h t (.head _)).2 c R w) λ_ s u=>match u with
     | .mk R q=>p (λt m=>h t (.tail _ m)) R (Xr l) q k))
theorem oF(h:∀t∈d,a4 t=true)(env:Env):(aaF d env).length=d.length∧(aaF d env).findIdx? (·.1)=none:=by
 induction d with
 |nil=>exact⟨rfl,rfl⟩
 |cons t d j=>
  have i:=j λt q=>h t (.tail _ q)
  rw[e7 d env (h t (.head _))]
  exact⟨congrArg (· + 1) i.1,by rw[List.findIdx?_cons,i.2];rfl⟩
theorem Ri:∀{d:List gG} {vs:List V} {st:St},yV d vs Qs st->(∀T∈d,∀v P st,T v P st->∃st,P st)->d.length=vs.length:=by
 intro j
 induction j with
 |nil=>
  intro c
  cases c with
  |nil=>
   intro _ _ _
   exact rfl
  |cons m k=>
   intro _ w _
   exact w.elim
 |cons T d p=>
  intro i
  cases i with
  |nil=>
   intro _ w _
   exact w.elim
  |cons v vs=>
   intro st w h
   exact let⟨_,q⟩:=h T (.head _) v _ _ w;congrArg (· + 1) (p q λT hT=>h T (.tail _ hT))
def cL(n:Nat)(d:List gG):gG:=λv Q st=>Ra v λvs=>vs.length=n∧yV d vs Q st
theorem Lc(h:∀t∈ts,a4 t=true∧TT g cx (Y1 t cx.env) (f t)):TT g cx (Y1 (.Tuple ts k pos) cx.env) (cL ts.length (ts.map f)):=@λA s v x tmp vals st Q oa R w=>by
 obtain⟨vs,rfl,hl,w⟩:=vR w
 obtain @⟨a,xs,_,rfl,h1,_,hv⟩:=(show bQ _ _ _ _ from R.tmp.1)
 have pl:=oF (λt ht=>(h t ht).1) cx.env
 show wq _ _ (do XC pos;unpack (.ref a) (aaF ts cx.env)) _ _ _
 refine aU ?_
 unfold unpack
 rw[pl.1,pl.2]
 have hlv:=hv.length
 refine aq (ay ?_)
 rw[←hl,←hlv,show xs.length=xs.toArray.size from(Wk ..).symm]
 refine aF (aff oa.handled (items:=xs.toArray) ⟨_,h1.1,rfl,_,rfl⟩ λhp he=>?_)
 have R':=R.pop.keeps (tk:=s.toks) λb o e=>he b o (WW (WU e)) e
 have hr:bo g (cx.F st { s with heap:=hp}) vs xs:=hv.mono λb o z=>⟨he b o (WW (WU z.1)) z.1,z.2⟩
 exact AY oa h { R' with tmp:=hr.append R'.tmp} hlv.symm w λst s' R q=>⟨R,q⟩
theorem Hi:TP g cx (abY []) ag:=λ_ R w=>ax (.mk (l:=[]) R rfl w)
theorem O5{k v:Sem V9}{r:List (Sem V9×Sem V9)}(h1:TE g cx k W1)(p:TE g cx v j)(m:TP g cx (abY r) i):TP g cx (abY ((k,v)::r)) (aa W1 (aa j i)):=λd R w=>by
 rw[abY]
 refine h1.then_ d R w λa x st s R q=>TE.then_ (p.hold [x]) d R q λb y st s R q=>aq (ay (aV (m d R q) λrs s u=>?_))
 obtain @⟨l,st,R,e,q⟩:=u
 obtain⟨f,c,q⟩:=eS q
 have z:=bo.split e R.tmp
 cases c
 exact ax (.mk (l:=a::b::l) { R with tmp:=⟨z.2.2.1,z.2.1,z.1.append z.2.2.2⟩} (congrArg (· + 2) e) q)
theorem Ld(h:AH)(d:Addr)(o o':Option O):upd (upd h d o) d o'=upd h d o':=funext λb=>by unfold upd;split <;> rfl
theorem O6(e:h d=o):upd h d o=h:=funext λb=>by unfold upd;split;subst_vars;rfl;rfl
theorem yW:∀{rs:List (V9×V9)} {l:List V} {q out:List (j.K×V)} {st:St} {s:Wj},aI g cx (l++tmp) (ve rs++vals) st s->l.length=(ve rs).length->st.h d=some (.dict j q)->jl j q l=some out->q.length+rs.length<=1000000->
 (∀i,aI g cx tmp vals ⟨st.loc,upd st.h d (some (.dict j out))⟩ i->Qr PUnit.unit i)->Wz g.M A (storeAll d rs) Qr E s:=by
 intro I
 induction I with
 |nil=>
  intro l q out st s R e hd hp L k
  obtain rfl:l=[]:=Zc.mp e
  cases hp
  unfold storeAll
  rw[List.forIn_nil]
  exact Wg (k s (by rw[O6 hd];exact R))
 |cons G rs Z=>
  obtain⟨w3,w4⟩:=G
  intro l q out st s R e hd hp L k
  match l,e with
  |a::b::l,e=>
   obtain⟨D,U,hp⟩:=YE.mp (show(j.key a).bind _=some out from hp)
   obtain⟨r,f,J,hD,_⟩:=R.dict hd
   have c:=J.length
   have Y:aI g cx (l++tmp) (ve rs++vals) st s:=R.pop.pop
   unfold storeAll
   rw[adi]
   refine V7 (V7 (wpAny_dictSet_pairs (DK.is R.tmp.1 U) hD (λh' w hs=>Wg ?_) (by rw[WT,c];exact V4 f dD)))
   obtain⟨o',m,p⟩:=aay.mp w
   have B:=CE q D b
   have S:q.length+1+rs.length<=1000000:=by rw[WJ,W4 1];exact L
   have H:=Y.turn (tk:=s.toks+1) (o:=.dict j (fE q D b)) hd hs m ⟨V4 B (V4 (Wq _ _) S),_,J.put R.tmp.2.1,p⟩
   exact Z H (Xr (Xr e)) (aB _ _ _) hp (V4 (Wv B _) S) λi n=>k i (by rw[←Ld];exact n)
theorem Le:bE g cx (.Dict [] [] pos) (r6 q):=λi R w=>aF (by
 refine Wo λno=>?_
 obtain⟨o,j,d⟩:=aay.mp (aef (knd:=q.kind g.prog g.w) _)
 refine no ?_
 exact wpAny_Dict_empty ⟨(R.alloc (tk:=_) (o:=.dict q []) (λb o e=>Wl _ e) (Wh _) j ⟨Wy _,[],rfl,d⟩).push (v:=.ref _) rfl,w _ (R.fresh (Wh _))⟩)
theorem AZ{pairs:List (Sem V9×Sem V9)}{Q:Addr->Wj->Prop}{E:V9->Wj->Prop}(hlen:pairs.length<=15)
 (h:wq g A (abY pairs) (λvs s₁=>Wz g.M A (storeAll s.heap.objs.size vs) (λ_ s'=>Q s.heap.objs.size s') E s₁) E { s with heap:=s.heap.push { cls:=.type "dict",data:=.dict #[]} }):wq g A (subDict pairs) Q E s:=by
 unfold subDict
 refine fC (λ_ q=>wpAny_alloc q) ?_
 refine aq (ay ?_)
 rw[if_pos hlen]
 exact b0 h λvs s₁ h₁=>ay (aF (V7 (Yc h₁ (λ_ _ h=>Wg (ax h)) λ_ _ h=>h)))
theorem E1:∀rs:List (V9×V9),rs.length<=(ve rs).length:=by
 intro d
 induction d with
 |nil=>
  exact Wh _
 |cons _ rs q=>
  exact Wm (Yq (q))
theorem O7(hall:ks.all (·.isSome)=true)(hl:ks.length=es.length)(h0:ks≠[])(hlen:ks.length<=15)(h:TP g cx (abY (pairTrees ks es cx.env pos)) W):bE g cx (.Dict ks es pos) (p8 kd W):=@λA s tmp vals st Q X oa R w=>by
 have pl:=pairTrees_length ks es cx.env pos hall hl
 obtain⟨o,ho,hio⟩:=aay.mp (aef (knd:=kd.kind g.prog g.w) s.heap)
 rw[arm_eval_Dict,zip_pairTrees ks es cx.env pos hall hl,dictDisplay_pairs _ (λe=>h0 (Zc.mp (by rw[←pl,e];rfl))) (by rw[pl];exact Wp hlen dD)]
 have R1:=R.alloc (tk:=s.toks) (o:=.dict kd []) (λb o e=>Wl _ e) (Wh _) ho ⟨Wy _,[],rfl,hio⟩
 refine aU (aq (AZ (by rw[pl];exact hlen) (aV (h oa R1 (w _ (R.fresh (Wh _)))) λrs s u=>?_)))
 obtain @⟨l,st,R2,e,q⟩:=u
 obtain⟨l',e',q⟩:=eS q
 cases e'
 obtain⟨out,eo,⟨hl,hd⟩,q⟩:=aT q
 exact yW R2 e hd eo (V4 (V4 (Wu (E1 rs) _) (by rw[X6,Xn,←e];exact hl)) dD) λs' R3=>ax ⟨R3.push (v:=.ref _) rfl,q⟩
end
end
set_option backward.match.sparseCases false
abbrev wk(a b:List UInt8):Prop:=Tactic.Vw a b=true
noncomputable def hU:V->AH->VP->Prop:=λv h Q=>iE (res h v) λvs=>dR (hO vs) λd=>d.length<64∧∀l:List (List UInt8),l.Perm d->l.Pairwise wk->Q (.lst (l.map .bytes)) h
noncomputable def de(w:PT):PT:=λQ X st=>w (λv d=>iE (res d.h v) λvs=>dR (hO vs) λq=>q.length<64∧∀l:List (List UInt8),l.Nodup->(∀x,x∈l↔x∈q)->l.Pairwise wk->Q (.lst (l.map .bytes)) d) X st
noncomputable def eV(g:Gl)(n:Nat)(f:V9)(w:PT):PT:=λQ X st=>w (λvs d=>iE vs λus=>only us λv=>iE (res d.h v) λws=>(1<=n∧ws.length<64∧∀u∈ws,∃k:List UInt8,k.length<=16777216∧bW g (n-1) f [u] (λr q=>r=.bytes k∧q=d.h) (λ_=>False) d.h)∧∀l:List V,l.Perm ws->Q (.lst l) d) X st
section
open PySem.Builtin
noncomputable def fm(a:List UInt8):List Nat:=a.map acV
theorem Hj(h:fm a=fm b):a=b:=(List.map_inj_right (f:=acV) (λx y e=>UInt8.toNat_inj.mp e)).mp h
inductive yX:Ordering->List Nat->List Nat->Prop
 |lt {a b:List Nat} (h:a<b):yX .lt a b
 |gt {a b:List Nat} (h:b<a):yX .gt a b
 |eq {a:List Nat}:yX .eq a a
theorem Hk:∀a b:List UInt8,yX (aas a b) (fm a) (fm b):=by
 intro i
 induction i with
 |nil=>
  intro u
  cases u with
  |nil=>
   exact .eq
  |cons c k=>
   exact .lt (List.nil_lt_cons _ _)
 |cons x xs d=>
  intro z
  cases z with
  |nil=>
   exact .gt (List.nil_lt_cons _ _)
  |cons y ys=>
   show yX (if x<y then .lt else if x>y then .gt else aas xs ys) (x.toNat::fm xs) (y.toNat::fm ys)
   by_cases h1:x<y
   ·rw[if_pos h1];exact .lt (aaj.mpr (.inl (aad.mp h1)))
   ·rw[if_neg h1]
    by_cases j:x>y
    ·rw[if_pos j];exact .gt (aaj.mpr (.inl (aad.mp j)))
    ·rw[if_neg j]
     have e:x.toNat=y.toNat:=abV (Xh.mp λh=>j (aad.mpr h)) (Xh.mp λh=>h1 (aad.mpr h))
     rw[e]
     have d:=d ys
     generalize aas xs ys=o at d
     generalize fm xs=p at d
     generalize fm ys=q at d
     cases d with
     |lt h=>exact .lt (aaj.mpr (.inr ⟨rfl,h⟩))
     |gt h=>exact .gt (aaj.mpr (.inr ⟨rfl,h⟩))
     |eq=>exact .eq
noncomputable def rq(a b:List UInt8):Bool:=decide (fm a<fm b)
theorem Lf(a b:List UInt8):(aas a b==.lt)=rq a b:=by
 unfold rq
 have h:=Hk a b
 revert h
 generalize aas a b=o
 generalize fm a=p
 generalize fm b=q
 intro h
 cases h with
 |lt h=>exact(decide_eq_true h).symm
 |gt h=>exact(decide_eq_false λd=>aaX _ (adU h d)).symm
 |eq=>exact(decide_eq_false (aaX _)).symm
theorem CY(a b:List UInt8):Tactic.Vw a b=!rq b a:=by
 unfold Tactic.Vw rq
 have h:=Hk a b
 revert h
 generalize aas a b=o
 generalize fm a=p
 generalize fm b=q
 intro h
 cases h with
 |lt h=>rw[decide_eq_false λh'=>aaX _ (adU h h')];rfl
 |gt h=>rw[decide_eq_true h];rfl
 |eq=>rw[decide_eq_false (aaX _)];rfl
theorem CZ(a:List UInt8):rq a a=false:=decide_eq_false (aaX _)
theorem oG(h1:rq a b=true)(d:rq b c=true):rq a c=true:=decide_eq_true (adU (of_decide_eq_true h1) (of_decide_eq_true d))
theorem wm(h1:rq a b=false)(d:rq b a=false):a=b:=Hj (List.le_antisymm (aeY.mp (of_decide_eq_false d)) (aeY.mp (of_decide_eq_false h1)))
theorem Lg(h:rq a c=true):rq a b=true∨rq b c=true:=by
 by_cases d:fm a<fm b
 ·exact .inl (decide_eq_true d)
 ·exact .inr (decide_eq_true (List.lt_of_le_of_lt (aeY.mp d) (of_decide_eq_true h)))
theorem mr:wk a b↔rq b a=false:=by unfold wk;rw[CY,Bool.not_eq_true']
theorem Hl(h1:wk a b)(d:wk b a):a=b:=wm (mr.mp d) (mr.mp h1)
end
section
open PySem.Builtin
noncomputable def Lh(v:V9):Option (List UInt8):=match v with | .bytes x _=>some x.toList|_=>none
@[reducible] noncomputable def bK:PyProof.Rows.KeyKind where
 α:=List UInt8
 blt:=rq
 irrefl:=CZ
 trans _ _ _:=oG
 negTrans _ _ _:=Lg
 total _ _:=wm
 keyOf:=Lh
 dflt:=[]
noncomputable def bv(v:V9):List UInt8:=(Lh v).getD []
namespace FX
theorem TG:Slot "bytes" "__lt__" "bytes.__lt__" := .of (owner:= "bytes") (n:= "__lt__") (by rw[W8,WN];kernel_rfl) dD dD dD (.inl dD) (by rw[Xu];kernel_rfl)
theorem Sd:Yw Z6 "bytes.__lt__" = some XE.«bytes.__lt__»:=by first|exact XJ (by kernel_rfl)|exact XM (by kernel_rfl)
theorem TH(a b:V9):Yk "bytes.__lt__" ⟨[a,b],[]⟩:=by unfold Yk;kernel_rfl
end FX
theorem r7:afj («bytes.__lt__» ⟨[.bytes b t,.bytes c u],[]⟩) (.val (.bool (rq b.toList c.toList))):=.of_wp λM A E s Q d=>
 show Wz M A (aaD (.bytes c u) (.type "bytes")>>=λr=>_) _ E s from V7 (Zm (Xe s _ u) F.sub_bytes_bytes (Wg ⟨_,rfl,by rw[←Lf]at d;exact d⟩))
theorem jQ(h:Lh x=some a):∃b t,x=.bytes b t∧b.toList=a:=by
 cases x <;> first|cases h;done|skip
 exact⟨_,_,rfl,WR h⟩
theorem Hm:bK.OneLt:=by
 intro prog w A E s x y a b Q ha hb h
 obtain⟨x,t,rfl,rfl⟩:=jQ ha
 obtain⟨y,u,rfl,rfl⟩:=jQ hb
 rw[oneLt'_eq,if_pos rfl]
 exact V7 (wpAny_cRoomFor_byValue rfl (V7 (wpAny_callSpecialIfBound?_slot (Xe s x t) FX.TG (abk FX.TG (Xe s x t) FX.Sd (FX.TH _ _) r7 (Y7 h)))))
theorem Hn{α β:Type}{f:α->Sem β}{c:β}:∀{xs:List α},(∀x∈xs,f x=pure c)->xs.mapM f=pure (xs.map λ_=>c):=by
 intro zi
 induction zi with
 |nil=>
  intro _
  exact rfl
 |cons x r ih=>
  intro h
  rw[List.mapM_cons,h x (.head _),ih λy hy=>h y (.tail _ hy)]
  rfl
def AllB(xs:List V9):Prop:=∀x∈xs,∃a,Lh x=some a
theorem A0{a b:V9}{r:List V9}(h:AllB (a::b::r)):keyKind' (a::b::r).toArray=pure oneType':=by
 have h1:∀x∈a::b::r,firstOfTuple' x=pure none:=λx hx=>(h x hx).elim λk e=>(jQ e).elim λy z=>z.elim λt z=>by rw[z.1];rfl
 have h2:∀x∈a::b::r,abF x=pure (.type "bytes"):=λx hx=>(h x hx).elim λk e=>(jQ e).elim λy z=>z.elim λt z=>by rw[z.1];rfl
 rw[keyKind'_eq,List.mapM_toArray,Hn h1]
 show(if((a::b::r).map λ_=>(none:Option V9)).toArray.all (·.isSome)=true then _ else _:Sem SortKind)=_
 rw[if_neg (by rw[List.all_toArray];exact W0)]
 show(oneTypeOnly' _>>=λo=>_)=_
 rw[oneTypeOnly'_eq,List.mapM_toArray,Hn h2]
 show((pure (if((a::b::r).map λ_=>Ye "bytes").toArray.all (·==.type "bytes")=true then some (.type "bytes")else none):Sem (Option V9))>>=λo=>pure (if o.isSome=true then aeI else general'))=_
 rw[if_pos (by rw[List.all_toArray];exact WQ.mpr λx hx=>(WC.mp hx).elim λ_ z=>by rw[←z.2];rfl)]
 rfl
section
def tT(g:Gl)(F:FZ)(xs:List V9):Prop:=∀x∈xs,∃b t,x=.bytes b t∧VR g F (.bytes b.toList) x
theorem Li(h:VR g F (.bytes i) x)(d:xs.map bv=l∧tT g F xs):(x::xs).map bv=i::l∧tT g F (x::xs):=
 aA h λt q=>⟨by rw[WO,d.1,q];rfl,λy j=>(Wf.mp j).elim (λz=>⟨_,t,z.trans q,by rw[z];exact h⟩) (d.2 y)⟩
theorem Nq:∀{vs:List V} {xs:List V9} {q:List (List UInt8)},bo g F vs xs->hO vs=some q->xs.map bv=q∧tT g F xs:=by
 intro j
 induction j with
 |nil=>
  intro c
  cases c with
  |nil=>
   intro _ _ e
   cases e;exact⟨rfl,λx h=>nomatch h⟩
  |cons k p=>
   intros;contradiction
 |cons v r d=>
  intro z
  cases z with
  |nil=>
   intros;exact Ws ‹_›
  |cons x xs=>
   intro ps h e
   obtain⟨l,u,y⟩:=YE.mp (show(hO r).bind _=some ps from e)
   have d:=d h.2 u
   have h1:=h.1
   cases v with
   |bytes i=>
    rw[←WR y]
    exact Li h1 d
   |_=>exact bS y
theorem Nr:∀{xs:List V9},tT g F xs->bo g F ((xs.map bv).map .bytes) xs:=by
 intro d
 induction d with
 |nil=>
  intro _
  exact rfl
 |cons x r j=>
  intro h
  exact⟨by obtain⟨b,t,e,w⟩:=h x (.head _);rw[e]at w ⊢;exact w,j λy q=>h y (.tail _ q)⟩
theorem tT.all(h:tT g F xs):AllB xs:=λx hx=>(h x hx).elim λb z=>z.elim λt z=>⟨b.toList,z.1▸rfl⟩
theorem Lj(hs:SortedToK bK d d.size):(d.toList.map λp=>bv p.1).Pairwise wk:=Zx.mpr (adN.mpr λi j c z q=>by
 have h1:=hs i j (Xo q) z
 have u:∀m (y:m<d.toList.length),KK bK d m=bv d.toList[m].1:=λm y=>by
  unfold KK
  rw[getElem?_pos d m y];rfl
 rw[u i c,u j z]at h1
 exact mr.mpr h1)
theorem Ho(h:xs.Perm ys):∀{vs:List V},bo g F vs xs->∃us:List V,us.Perm vs∧bo g F us ys:=by
 induction h with
 |nil=>exact λh=>⟨_,.refl _,h⟩
 |cons x _ ih=>exact λ{vs} h=>match vs,h with
  |v::vs,h=>(ih h.2).elim λus z=>⟨v::us,z.1.cons v,h.1,z.2⟩
 |swap x y l=>exact λ{vs} h=>match vs,h with
  |v::w::vs,h=>⟨w::v::vs,.swap ..,h.2.1,h.1,h.2.2⟩
 |trans _ _ i1 i2=>exact λh=>(i1 h).elim λus z=>(i2 z.2).elim λws y=>⟨ws,y.1.trans z.1,y.2⟩
theorem yY(d:(abB st').Perm (pairsOf xs))(hs:SortedToK bK (abB st') (pairsOf xs).size):((abB st').map (·.2)).toList.Perm xs∧(((abB st').map (·.2)).toList.map bv).Pairwise wk:=by
 have q:(abB st').toList.Perm (xs.zip xs):=by rw[←pairsOf_toList xs];exact adD.mp d
 rw[Array.toList_map]
 refine⟨by
  have:=q.map (·.2)
  rw[List.map_snd_zip (Wh _)]at this
  exact this,?_⟩
 have y:=Lj (by rw[←d.size_eq]at hs;exact hs)
 rw[Xy]
 rw[show(abB st').toList.map (bv∘λx=>x.2)=(abB st').toList.map (λp=>bv p.1)from acn λp h=>(congrArg bv (mem_zip_self (q.mem_iff.mp h)).1).symm]
 exact y
theorem Nt(h:AllB xs):KeysOf bK (pairsOf xs):=λp hp=>h _ (mem_zip_self ((pairsOf_toList xs)▸hp)).2
theorem E2:tP g (.builtin "sorted") hU:=λ{cx A s tmp vals st v x Q E} oa R hx w=>by
 have q:=R.rsd hx
 obtain⟨vs,e,w⟩:=eS w
 rw[e]at q
 obtain⟨S,hb,w⟩:=aT w
 refine aI.seq q λa xs n D J m L k=>?_
 subst D
 have B:=Nq k hb
 refine sortedK Hm (l:=a) (vs:=xs) ⟨_,J,rfl,_,rfl⟩ (Nt B.2.all) (λz u c e=>A0 (e▸B.2.all)) (by rw[←Wd (f:=bv),B.1];exact w.1) λst' i hs=>?_
 have j:=yY i hs
 generalize (abB st').map (·.2)=out at *
 obtain⟨n,d⟩:=sortedAll_at s.heap xs out
 rw[←aeO (xs:=out)]at d
 exact R.newL (tk:=s.toks) (λb o e=>sortedAll_old e) (Xq _) d (Nr λy p=>B.2 y (j.1.mem_iff.mp p)) (by rw[j.1.length_eq];exact m) (w.2 _ (by rw[←B.1];exact j.1.map bv) j.2)
end
end
section
open PySem.Builtin
noncomputable def Cx.sk(cx:Cx)(l:Nat)(D K:Addr)(od:Obj)(F:FZ):Cx:={cx with lvl:=l,rv:=D::K::cx.rv,keep:=(D,od)::cx.keep,w:=F}
section
variable{g:Gl}{cx:Cx}{tmp:List V}{vals:List V9}{st:St}{s s₀:Wj}{A:Xd}{x y z:V9}{a b c v u:V}{E:V9->Wj->Prop}{Q:V->St->Prop}{X:St->Prop}{vs us:List V}{xs ys:List V9}{D K:Addr}{od ok:Obj}{hp:Heap}{tk l:Nat}
theorem aI.sk(R:aI g cx tmp vals st s)(hD:s.heap.objs.size<=D)(hK:s.heap.objs.size<=K)(n:D≠K)(hk:∀b o,s.heap.get? b=some o->hp.get? b=some o)(eD:hp.get? D=some od)(eK:hp.get? K=some ok) :
 aI g ((cx.sk l D K od (cx.F st s)).hold K ok) [] [] st { s with heap:=hp,toks:=tk}∧hN (cx.sk l D K od (cx.F st s)) K:=
 have R':=R.keeps (tk:=tk) hk
 have old:∀{a},a∈cx.rv->a<s.heap.objs.size:=λh=>let⟨_,e⟩:=(R.rsv _ h).2;WU e
 have nD:∀{a},a∈cx.rv->a≠D:=λh=>WW (WA (old h) hD)
 have nK:∀{a},a∈cx.rv->a≠K:=λh=>WW (WA (old h) hK)
 have up:∀{a},a∈cx.rv->a∈D::K::cx.rv:=λh=>.tail _ (.tail _ h)
 have nn:∀{a o},s.heap.get? a=some o->a∉cx.rv->a∉D::K::cx.rv:=λe h q=>(Wf.mp q).elim (λq=>Xh.mpr hD (q▸WU e)) λq=>(Wf.mp q).elim (λq=>Xh.mpr hK (q▸WU e)) h
 have hF:∀a o,cx.F st s a o->Fz hp st.h (D::K::cx.rv) a o:=λa o z=>⟨hk _ _ z.1,z.2.1,nn z.1 z.2.2.1,z.2.2.2⟩
 have L:hN (cx.sk l D K od (cx.F st s)) K:={rv:=.tail _ (.head _),loc:=(nK R.ok.own).symm,frs:=λq=>nK (R.ok.frs _ q) rfl,keep:=λq h=>(Wf.mp h).elim (λe=>by rw[e];exact n) λh=>nK (R.ok.keep q h).1,outer:=λq h=>nK (R.ok.outer q h).1,cells:=λp h=>nK (R.ok.cells p h).1}
 have R1:aI g (cx.sk l D K od (cx.F st s)) [] [] st { s with heap:=hp,toks:=tk}:=
 {ok:={R.ok with
   own:=up R.ok.own
   frs:=λa h=>up (R.ok.frs a h)
   cells:=λp h=>⟨up (R.ok.cells p h).1,(R.ok.cells p h).2⟩
   keep:=λq h=>(Wf.mp h).elim (λe=>by rw[e];exact⟨.head _,(nD R.ok.own).symm,λq=>nD (R.ok.frs _ q) rfl⟩) λh=>⟨up (R.ok.keep q h).1,(R.ok.keep q h).2⟩
   outer:=λq h=>⟨up (R.ok.outer q h).1,(R.ok.outer q h).2⟩
   free:=λp h a b=>⟨λq hq=>(Wf.mp hq).elim (λe=>by rw[e];exact(nD (R.ok.cells p h).1).symm) ((R.ok.free p h a b).1 q),(R.ok.free p h a b).2⟩}
  base:=R'.base,gens:=R'.gens,os:=R'.os
  known:=λa o e=>let k:=R.known a o e;let⟨z,h1,h2⟩:=k.obj;⟨k.low,nn h1 k.nrv,z,hk _ _ h1,h2.mono hF⟩
  rsv:=λa h=>(Wf.mp h).elim (λe=>e▸⟨V4 R.size hD,_,eD⟩) λh=>(Wf.mp h).elim (λe=>e▸⟨V4 R.size hK,_,eK⟩) (R'.rsv a)
  frs:=R'.frs
  keep:=λq h=>(Wf.mp h).elim (λe=>by rw[e];exact eD) (R'.keep q)
  outer:=R'.outer,cl:=R'.cl
  loc:=R.loc.imp λm z=>⟨z.1.keeps hk,λi y v a b=>(z.2 i y v a b).imp λval z=>⟨VR.mono hF _ _ z.1,z.2.keep rfl λc v e q=>q.imp λ_ z=>⟨hk _ _ z.1,z.2⟩⟩⟩
  wait:=hF
  tmp:=rfl}
 ⟨R1.held L eK,L⟩
theorem aI.unsk(R:aI g cx tmp vals st s)(hD:s.heap.objs.size<=D)(hK:s.heap.objs.size<=K)(R2:aI g ((cx.sk l D K od (cx.F st s)).hold K ok) us ys st s₀)(hs:∀b o,b≠D->b≠K->s₀.heap.get? b=some o->hp.get? b=some o) :
 aI g cx tmp vals st { s₀ with heap:=hp,toks:=tk}∧(∀a o,cx.F st s a o->cx.F st { s₀ with heap:=hp,toks:=tk} a o)∧∀o,hp.get? D=some o->NF o->cx.F st { s₀ with heap:=hp,toks:=tk} D o:=
 have old:∀{a},a∈cx.rv->a<s.heap.objs.size:=λh=>let⟨_,e⟩:=(R.rsv _ h).2;WU e
 have nD:∀{a},a∈cx.rv->a≠D:=λh=>WW (WA (old h) hD)
 have nK:∀{a},a∈cx.rv->a≠K:=λh=>WW (WA (old h) hK)
 have to:∀{b o},b∉D::K::cx.rv->s₀.heap.get? b=some o->hp.get? b=some o:=λq=>hs _ _ (λe=>q (e▸.head _)) λe=>q (e▸.tail _ (.head _))
 have tr:∀{b o},b∈cx.rv->s₀.heap.get? b=some o->hp.get? b=some o:=λq=>hs _ _ (nD q) (nK q)
 have out:∀{a},a∉D::K::cx.rv->a∉cx.rv:=λh q=>h (.tail _ (.tail _ q))
 have hF:∀a o,Fz s₀.heap st.h (D::K::cx.rv) a o->cx.F st { s₀ with heap:=hp,toks:=tk} a o:=λa o z=>⟨to z.2.2.1 z.1,z.2.1,out z.2.2.1,z.2.2.2⟩
 have hW:∀a o,cx.F st s a o->cx.F st { s₀ with heap:=hp,toks:=tk} a o:=λa o z=>hF a o (R2.wait a o z)
 have kn:∀{a m},a∈cx.rv->s₀.heap.Ns a m->hp.Ns a m:=λh z=>z.imp λ_=>XF λ_=>XF λ_ z=>⟨tr h z.1,z.2⟩
 have kc:∀{c v},c∈cx.rv->s₀.heap.IsCell c v->hp.IsCell c v:=λh z=>z.imp λ_ z=>⟨tr h z.1,z.2⟩
 ⟨{ok:=R.ok,gens:=R2.gens,os:=R2.os
   base:=λb o e=>hs b o (λq=>by rw[q,dI (R2.rsv D (.head _)).1]at e;cases e) (λq=>by rw[q,dI (R2.rsv K (.tail _ (.head _))).1]at e;cases e) (R2.base b o e)
   known:=λa o e=>let k:=R2.known a o e;⟨k.low,out k.nrv,k.obj.imp λ_ z=>⟨to k.nrv z.1,z.2.mono hF⟩⟩
   rsv:=λa h=>⟨(R2.rsv a (.tail _ (.tail _ h))).1,(R2.rsv a (.tail _ (.tail _ h))).2.imp λ_ z=>tr h z⟩
   frs:=λa h=>(R2.frs a h).imp λ_ z=>⟨tr (R.ok.frs a h) z.1,z.2⟩
   keep:=λq h=>tr (R.ok.keep q h).1 (R2.keep q (.tail _ (.tail _ h)))
   outer:=λq h=>kn (R.ok.outer q h).1 (R2.outer q h)
   cl:=λp h=>(R2.cl p h).imp λv z=>kc (R.ok.cells p h).1 z
   loc:=R2.loc.imp λm z=>⟨kn R.ok.own z.1,λi y v a b=>(z.2 i y v a b).imp λval z=>⟨VR.mono hF _ _ z.1,z.2.keep rfl λc v e q=>kc (R.ok.cells (y,c) (aX e)).1 q⟩⟩
   wait:=λa o z=>hW a o (R.wait a o z)
   tmp:=R.tmp.mono hW},hW,λo e nf=>⟨e,R2.rvNone (.head _),λq=>nD q rfl,nf⟩⟩
end
end
section
open PySem.Builtin
section
variable{g:Gl}{cx:Cx}{tmp:List V}{vals:List V9}{st:St}{s s₀:Wj}{A:Xd}{x y z f:V9}{a b c v u:V}{E:V9->Wj->Prop}{Q:V->St->Prop}{X:St->Prop}{vs us acc:List V}{xs ys kA:List V9}{D K:Addr}{od ok:Obj}{hp:Heap}{tk n m N:Nat}
theorem Hp{id:String}{args:Args}{b:XE}{Qv:V9->Wj->Prop}(hp:plainId id=true)(hb:Yw Z6 id=some b)(i:jY (.builtin id args))
 (h:Wz g.M A.in1 (XN id args) (λ_ d=>wq g A.in1 (b args) (λbc j=>∃v,bc=.done (.ret v)∧Qv v j) E d) E s):wq g A (call (.builtin id) args.pos args.kw) Qv E s:=
 jM (kX (ZC hp args) hb i (Yc h (λ_ d q=>by
  rw[XI hp args]
  exact be q (λbc j z=>z.elim λv z=>by rw[z.1];exact z.2) λ_ _ x=>x) λ_ _ x=>x))
theorem Hq{id:String}{args:Args}(hk:builtinKind id=none)(ha:Yk id args):XN id args=pure ():=by
 unfold Yk at ha
 simp only[XN,hk]
 generalize e:Manifest.signature? id=zz;cases zz with
 |none=>rfl
 |some sig=>rw[e]at ha;exact ha
theorem Lk{body:V9->PUnit->Sem (ForInStep PUnit)}{I:List V9->Wj->Prop}(step:∀x r s,I (x::r) s->wq g A (body x ⟨⟩) (λk s'=>k=.yield ⟨⟩∧I r s') E s):∀(xs:List V9) (s:Wj),I xs s->wq g A (forIn xs PUnit.unit body) (λ_ s'=>I [] s') E s:=by
 intro zi
 induction zi with
 |nil=>
  intro s h
  rw[List.forIn_nil];exact ax h
 |cons x r ih=>
  intro s h
  rw[adi]
  exact b0 (step x r s h) λk s' q=>by rw[q.1];exact ih s' q.2
theorem Ll(hK:s.heap.get? K=some (sq "list" kA m))(hD:s.heap.get? D=some (YI "list" #[] e1))(n:D≠K)(h1:kA.length<=1000)(h2:(abB st').size<=1000)(hf:failedOf st'=none) :
 wpAny g.M A (ksk_tail D false e1 (.ref K) st') (λbc s'=>bc=.done (.ret .none)∧∃hp c,s'={s with heap:=hp}∧hp.get? D=some (YI "list" ((abB st').map (·.2)) c)∧∀b o,b≠D->b≠K->s.heap.get? b=some o->hp.get? b=some o) E s:=by
 have t1:=X2 s.heap K (Xj λ_=>(#[]:Array V9))
 have hD7:=(t1.2 D n).trans hD
 generalize hh6:s.heap.update K (Xj λ_=>(#[]:Array V9))=h6 at t1 hD7
 have t2:=X2 h6 D (Xj λ_=>(abB st').map (·.2))
 refine V7 (ac1 hK rfl ?_ (by rw[Wk,WT];exact V4 h1 dD) (Wy _))
 rw[hh6]
 refine V7 (wpAny_letGo (V7 (seqEpoch_at hD7 rfl (V7 (ac1 hD7 rfl ?_ (Wy _) (by rw[WT];exact V4 (Xp (Array.size_map ..)) (V4 h2 dD)))))))
 rw[hf,bne_self_eq_false]
 exact Wg (V8 rfl ⟨_,_,rfl,get?_update_seq hD7 λ_=>(abB st').map (λp:Keyed=>p.2),λb o n1 n2 e=>(t2.2 b n1).trans ((t1.2 b n2).trans e)⟩)
theorem O8(kb:AllB kA)(hK:s.heap.get? K=some (sq "list" kA m))(hD:s.heap.get? D=some (YI "list" #[] e1))(n:D≠K)(hl:kA.length=xs.length)(h64:xs.length<64) :
 wpAny g.M A (ksk_end D false xs.toArray e1 (.ref K) kA.toArray) (λbc s'=>bc=.done (.ret .none)∧∃hp c ys,s'={s with heap:=hp}∧hp.get? D=some (sq "list" ys c)∧ys.Perm xs∧∀b o,b≠D->b≠K->s.heap.get? b=some o->hp.get? b=some o) E s:=by
 have hz:(kA.toArray.zip xs.toArray).toList=kA.zip xs:=by rw[Array.toList_zip]
 have hzs:(kA.toArray.zip xs.toArray).size=xs.length:=by rw[Array.size_zip,Wk,Wk,hl,Nat.min_self]
 have go:∀st':SortSt,(abB st').Perm (kA.toArray.zip xs.toArray)->failedOf st'=none->Wz g.M A (ksk_tail D false e1 (.ref K) st') (λbc s'=>bc=.done (.ret .none)∧∃hp c ys,s'={s with heap:=hp}∧hp.get? D=some (sq "list" ys c)∧ys.Perm xs∧∀b o,b≠D->b≠K->s.heap.get? b=some o->hp.get? b=some o) E s:=λst' p f=>
  wpAny_mono (Ll hK hD n (by rw[hl];exact V4 (Xo h64) dD) (by rw[p.size_eq,hzs];exact V4 (Xo h64) dD) f) (λbc s' z=>⟨z.1,z.2.imp λhp z=>z.imp λc z=>⟨((abB st').map (·.2)).toList,z.1,z.2.1,by
   have:=(adD.mp p).map (·.2)
   rw[hz,List.map_snd_zip (Xp hl.symm)]at this
   rw[Array.toList_map];exact this,z.2.2⟩⟩) λ_ _ x=>x
 let F:SortKind->Sem aaJ:=λkind=>((if xs.toArray.size<2 then pure ()else sortRuns'):StateT SortSt Sem Unit).run (aeU kind (kA.toArray.zip xs.toArray) #[] 7 none)>>=λr=>ksk_tail D false e1 (.ref K) r.2
 show Wz g.M A (if xs.toArray.size<2 then(pure general'>>=F)else(keyKind' kA.toArray>>=F)) _ E s
 by_cases h2:xs.toArray.size<2
 ·rw[if_pos h2]
  show Wz g.M A (F general') _ E s
  unfold F
  rw[if_pos h2]
  exact Internal.V1 ((go (aeU general' (kA.toArray.zip xs.toArray) #[] 7 none) (aeP _) rfl))
 ·rw[if_neg h2]
  have h2':2<=xs.length:=Xh.mp (by rw[Wk]at h2;exact h2)
  have hkk:keyKind' kA.toArray=pure oneType':=by
   cases kA with
   |nil=>rw[←hl]at h2';exact absurd h2' (ae9 1)
   |cons a r=>cases r with
    |nil=>rw[←hl]at h2';exact absurd h2' (afa 1)
    |cons b r=>exact A0 kb
  rw[hkk]
  show Wz g.M A (F aeI) _ E s
  unfold F
  rw[if_neg h2]
  refine V7 (Yc (wpS_sortRunsK Hm (a₀:=kA.toArray.zip xs.toArray) (st:=aeU aeI (kA.toArray.zip xs.toArray) #[] 7 none)
   (Q:=λ_ st'=>(abB st').Perm (kA.toArray.zip xs.toArray)∧failedOf st'=none) (λp hp=>kb _ (abR (hz▸hp)).1) ⟨aeP _,rfl,rfl,rfl⟩ (by rw[hzs];exact h2') (by rw[hzs];exact h64) λst' a1 a2 a3=>⟨a1,a2⟩) (λr s' z=>?_) λ_ _ x=>x)
  rw[z.1]
  exact go r.2 z.2.1 z.2.2
inductive Rj(g:Gl)(cx:Cx)(st:St)(s₀:Wj)(D K:Addr)(od:Obj)(n:Nat)(f:V9)(N:Nat)(rest:List V9)(s:Wj):Prop
 |mk {us acc:List V} {kA:List V9} {m:Nat} (hv:bo g (cx.F st s₀) us rest) (hc:∀u∈us,∃k:List UInt8,k.length<=16777216∧bW g n f [u] (λr h'=>r=.bytes k∧h'=st.h) (λ_=>False) st.h)
  (R:aI g ((cx.sk n D K od (cx.F st s₀)).hold K (sq "list" kA m)) acc kA st s) (kb:AllB kA) (l:kA.length+rest.length=N):Rj g cx st s₀ D K od n f N rest s
set_option tactic.hygienic true in
theorem Hr(L:hN (cx.sk n D K od (cx.F st s₀)) K)(S:gJ cx.stk n A)(w:N<64)(I:Rj g cx st s₀ D K od n f N (y::r) s) :
 wq g A ((call f [y]).attempt) (λk d=>∃z,k=.ok z∧Wz g.M A (Builtin.List.listUpdate (.ref K) (·.push z)) (λ_ p=>Rj g cx st s₀ D K od n f N r p) E d) E s:=by
 refine Wo λno=>?_
 obtain⟨i,hc,R,G,l⟩:=I
 refine no ?_
 rename_i us acc kA m
 cases us with
 |nil=>cases i
 |cons u us=>
 refine Wo λno=>?_
 obtain⟨k,H,C⟩:=hc u (.head _)
 refine no ?_
 unfold bW at C
 have o:kA.length<=1000:=V4 (V4 (Wq _ _) (Xp l)) (V4 (Xo w) dD)
 refine kW (be (C (cx:=(cx.sk n D K od (cx.F st s₀)).hold K (sq "list" kA m)) (A:=A) (tmp:=acc) (vals:=kA) (xs:=[y]) (loc:=st.loc) (Wh _) S (R.push (VR.mono R.wait _ _ i.1)) rfl) (λz d U=>⟨z,rfl,?_⟩) λe d U=>?_)
 ·cases U with
  |@mk v st' j q=>
  have Z:(⟨st'.loc,st'.h⟩:St)=⟨st.loc,st.h⟩:=by rw[q.1,q.2.2]
  have j:aI g ((cx.sk n D K od (cx.F st s₀)).hold K (sq "list" kA m)) (.bytes k::acc) (z::kA) st d:=q.2.1▸show aI _ _ _ _ (⟨st.loc,st.h⟩:St) _ from Z▸j
  have B:=j.keep (K,_) (.head _)
  refine ac1 B rfl ?_ (by rw[Wk,WT];exact V4 o dD) (by rw[adb,Wk,WT];exact Wm (V4 o dD))
  have Y:(d.heap.update K (Xj (·.push z))).get? K=some (sq "list" (kA++[z]) (m+1)):=by
   rw[W9 _ B rfl]
   unfold sq Xj
   simp
  exact .mk i.2 (λu J=>hc u (.tail _ J)) (j.append (tk:=d.toks) L (.update ..) Y) (λx hx=>(WD.mp hx).elim (G x) λh=>by rw[Wr.mp h];exact aA j.tmp.1 λt q=>⟨_,by rw[q];rfl⟩) (by rw[V6,WJ,W4 [z].length];exact l)
 ·cases U with|mk R f q=>exact Ws q.2
end
end
section
open PySem.Builtin
section
variable{g:Gl}{cx:Cx}{tmp:List V}{vals:List V9}{st:St}{s s₀:Wj}{A:Xd}{x y z f:V9}{a b c v u:V}{E:V9->Wj->Prop}{Q:V->St->Prop}{X:St->Prop}{vs us acc ws:List V}{xs ys kA:List V9}{D K fa:Addr}{od ok:Obj}{hp:Heap}{tk n m N:Nat}
inductive Lm(h:Heap)(xs:List V9):Heap->Prop
 |mk {h2:Heap} (at_:h2.get? (h.objs.size+1)=some (YI "list" xs.toArray 0)) (sz:h2.objs.size=h.objs.size+2) (keep:∀b o,h.get? b=some o->h2.get? b=some o):Lm h xs h2
theorem O9(h:Heap)(xs:List V9):Lm h xs (((h.push (YI "list" #[] 0)).update h.objs.size (Xj (·++xs.toArray))).push (YI "list" xs.toArray 0)):=
 have j:((h.push (YI "list" #[] 0)).update h.objs.size (Xj (·++xs.toArray))).objs.size=h.objs.size+1:=by rw[acY,aaH]
 .mk (by rw[←j];exact WG _ rfl) (by rw[aaH,j]) λb o q=>by
  have d:b<h.objs.size:=WU q
  rw[Heap.get?_push_ne _ _ _ (by rw[j];exact WW (Nat.lt_succ_of_lt d)),ZL _ _ _ _ (WW d),Heap.get?_push_ne _ _ _ (WW d)]
  exact q
inductive wo(g:Gl)(cx:Cx)(tmp:List V)(vals:List V9)(st:St)(ws:List V)(D:Addr)(s:Wj):Prop
 |mk {us:List V} {ys:List V9} {c:Nat} (p:us.Perm ws) (R:aI g cx tmp vals st s) (hv:bo g (cx.F st s) us ys) (hl:ys.length<=1000000) (hD:cx.F st s D (sq "list" ys c)):wo g cx tmp vals st ws D s
set_option tactic.hygienic true in
theorem Ln(d:aI g cx tmp vals st s)(L:s.heap.objs.size<=D)(Y:s.heap.objs.size<=K)(B:D≠K)(k:bo g (cx.F st s) ws xs)(q:xs.length<64)(I:Rj g cx st s D K (YI "list" #[] S) n f xs.length [] s₀) :
 ∃kA:List V9,∃m,s₀.heap.get? K=some (sq "list" kA m)∧Wz g.M A (ksk_end D false xs.toArray S (.ref K) kA.toArray) (λbc i=>bc=.done (.ret .none)∧wo g cx tmp vals st ws D i) E s₀:=by
 obtain⟨e,o,R,Z,l⟩:=I
 rename_i us acc kA m
 refine⟨kA,m,R.keep (K,_) (.head _),Yc (O8 Z (R.keep (K,_) (.head _)) (R.keep (D,_) (.tail _ (.head _))) B l q) (λbc i z=>⟨z.1,?_⟩) λ_ _ x=>x⟩
 obtain⟨_,hp,c,ys,rfl,h1,j,J⟩:=z
 obtain⟨us,p,w⟩:=Ho j.symm k
 have U:=d.unsk (tk:=s₀.toks) L Y R J
 exact .mk p U.1 (w.mono U.2.1) (by rw[j.length_eq];exact V4 (Xo q) dD) (U.2.2 _ h1 (c7 rfl rfl))
theorem E4(T:Lm s.heap xs h2)(s1:Xg (s.heap.objs.size+1) h2 h3)(sz3:h3.objs.size=s.heap.objs.size+2)(ho1:h3.get? (s.heap.objs.size+1)=some (YI "list" #[] e1))(R:aI g cx tmp vals st s)(hv:bo g (cx.F st s) ws xs)
 (hc:∀u∈ws,∃k:List UInt8,k.length<=16777216∧bW g n f [u] (λr h'=>r=.bytes k∧h'=st.h) (λ_=>False) st.h) (K:Addr) (hK:K=s.heap.objs.size+3) :
 hN (cx.sk n (s.heap.objs.size+1) K (YI "list" #[] e1) (cx.F st s)) K∧Rj g cx st s (s.heap.objs.size+1) K (YI "list" #[] e1) n f xs.length xs { s with heap:=(h3.push (YI "tuple" xs.toArray 0)).push (YI "list" #[] 0)}:=by
 refine Wo λno=>?_
 obtain⟨at_,sz,keep⟩:=T
 refine no ?_
 have up:∀b o,h3.get? b=some o->((h3.push (YI "tuple" xs.toArray 0)).push (YI "list" #[] 0)).get? b=some o:=λb o e=>Wl _ (Wl _ e)
 have eK:((h3.push (YI "tuple" xs.toArray 0)).push (YI "list" #[] 0)).get? K=some (sq "list" [] 0):=by
  have:K=(h3.push (YI "tuple" xs.toArray 0)).objs.size:=by rw[aaH,sz3];exact hK
  rw[this];exact WG _ rfl
 have S:=R.sk (l:=n) (tk:=s.toks) (D:=s.heap.objs.size+1) (K:=K) (Xq _) (by rw[hK];exact Wq _ _) (by rw[hK];exact WW (WA (XX _) (Xq _))) (λb o e=>up b o ((s1.2 b λq=>by rw[q]at e;exact absurd (WU e) (Xh.mpr (Xq _))).trans (keep b o e))) (up _ _ ho1) eK
 exact⟨S.2,.mk hv hc S.1 (λx h=>nomatch h) (Xn _)⟩
theorem wt(T:Lm s.heap xs h2)(R:aI g cx tmp vals st s)(oa:gJ cx.stk n A.in1)(hv:bo g (cx.F st s) ws xs)(h64:xs.length<64)
 (hc:∀u∈ws,∃k:List UInt8,k.length<=16777216∧bW g n (.ref fa) [u] (λr h'=>r=.bytes k∧h'=st.h) (λ_=>False) st.h) :
 wq g A (call (.builtin "list.sort") [.ref (s.heap.objs.size+1)] [(V3 "key",.ref fa)]) (λ_ s'=>wo g cx tmp vals st ws (s.heap.objs.size+1) s') E { s with heap:=h2}:=by
 obtain⟨at_,sz,keep⟩:=T
 refine Hp (args:=⟨[.ref (s.heap.objs.size+1)],[(V3 "key",.ref fa)]⟩) aeH.plain entry_list_sort (gq (x:=.ref (s.heap.objs.size+1)) (id:= "list.sort") (λ_ _=>rfl) rfl) (aeH.check _ _ _ _ _ _ _ _ ⟨_,at_,rfl⟩ (ksk_l1 _ _) ?_)
 rw[ksk_t1]
 have s1:=X2 h2 (s.heap.objs.size+1) (Xj λ_=>(#[]:Array V9))
 have sz3:(h2.update (s.heap.objs.size+1) (Xj λ_=>(#[]:Array V9))).objs.size=s.heap.objs.size+2:=by rw[acY,sz]
 have ho1:=get?_update_seq at_ λ_=>(#[]:Array V9)
 have hx:xs.length<=16777216:=V4 (Xo h64) dD
 refine fC (λ_ q=>listItems_at at_ rfl q) ?_
 refine aq (aF (ac1 at_ rfl ?_ (by rw[Wk,WT];exact hx) (Wy _)))
 show wq _ _ _ _ _ { s with heap:=h2.update (s.heap.objs.size+1) (Xj λ_=>(#[]:Array V9))}
 generalize h2.update (s.heap.objs.size+1) (Xj λ_=>(#[]:Array V9))=h3 at s1 sz3 ho1 ⊢
 obtain⟨e1,ho1⟩:∃e1,h3.get? (s.heap.objs.size+1)=some (YI "list" #[] e1):=⟨_,ho1⟩
 refine fC (λ_ q=>seqEpoch_at ho1 rfl q) ?_
 refine aq (aF (aeq ?_ (by rw[WT];exact hx)))
 refine aq (aF (Ze ?_ (Wy _)))
 refine ay ?_
 have eK:(h3.push (YI "tuple" xs.toArray 0)).objs.size=s.heap.objs.size+3:=by rw[aaH,sz3]
 have S:=E4 ⟨at_,sz,keep⟩ s1 sz3 ho1 R hv hc _ eK
 show wq _ _ (ksk_rest (s.heap.objs.size+1) (.ref fa) false xs.toArray e1 (.ref (h3.push (YI "tuple" xs.toArray 0)).objs.size)) _ _ { s with heap:=(h3.push (YI "tuple" xs.toArray 0)).push (YI "list" #[] 0)}
 generalize (h3.push (YI "tuple" xs.toArray 0)).objs.size=K at eK S ⊢
 refine fC (λ_ q=>Yt q) ?_
 rw[List.forIn_toArray]
 refine b0 (Lk (I:=λr s'=>Rj g cx st s (s.heap.objs.size+1) K (YI "list" #[] e1) n (.ref fa) xs.length r s') (λy r s' I=>b0 (Hr S.1 oa h64 I) λk s'' z=>?_) xs _ S.2) λ_ s' I=>?_
 ·obtain⟨z,rfl,h⟩:=z
  exact aq (aF (Yc h (λ_ _ I=>ax ⟨rfl,I⟩) λ_ _ x=>x))
 ·obtain⟨kA,m,hK,W⟩:=Ln (A:=A.in1) (E:=E) R (Xq _) (by rw[eK];exact Wq _ _) (by rw[eK];exact WW (WA (XX _) (Xq _))) hv h64 I
  refine aq (aF (listItems_at hK rfl (aV (aF W) λbc s' z=>⟨_,z.1,z.2⟩)))
theorem gJ.in2(d:gJ stk n A)(l:1<=n):gJ stk (n-1) A.in1.in1 where
 frames:=d.frames
 depth:=V4 (Wu (WX 20 (YW n 1)) _) d.depth
 units:=Rk (u:=2) (Xp (aa3 l)) dD d.units
 handled:=d.handled
theorem A1(oa:gJ cx.stk cx.lvl A)(hn:cx.lvl=n)(R:aI g cx (v::tmp) (x::vals) st s)
 (w:iE (res st.h v) λws=>(1<=n∧ws.length<64∧∀u∈ws,∃k:List UInt8,k.length<=16777216∧bW g (n-1) (.ref fa) [u] (λr h'=>r=.bytes k∧h'=st.h) (λ_=>False) st.h)∧∀l:List V,l.Perm ws->Q (.lst l) st) :
 wq g A (call (.builtin "sorted") [x] [(V3 "key",.ref fa)]) (Up g cx tmp vals Q) E s:=by
 have hx:=R.rsd R.tmp.1
 obtain⟨ws,e,⟨l1,h64,hc⟩,q⟩:=eS w
 rw[e]at hx
 refine aI.seq hx λa xs m ex ho hl hlen hv=>?_
 subst ex
 have h64:xs.length<64:=hlen▸h64
 have hx:xs.length<=16777216:=V4 (Xo h64) dD
 have T:=O9 s.heap xs
 refine Hp (args:=⟨[.ref a],[(V3 "key",.ref fa)]⟩) plain_sorted entry_sorted (gq (x:=.ref a) (id:= "sorted") (λ_ _=>rfl) rfl) ?_
 rw[Hq kind_sorted (ksk_s1 _ _)]
 refine Wg ?_
 refine aq (m:=checkCount "sorted" 1 1 _) (ax ?_)
 refine aq (aF (collect_list (vs:=xs) ⟨_,ho,rfl,_,rfl⟩ ?_ (by rw[WT];exact hx)))
 refine aq (aF (Ze ?_ (by rw[WT];exact hx)))
 show wq _ _ _ _ _ { s with heap:=((s.heap.push (YI "list" #[] 0)).update s.heap.objs.size (Xj (·++xs.toArray))).push (YI "list" xs.toArray 0)}
 rw[show((s.heap.push (YI "list" #[] 0)).update s.heap.objs.size (Xj (·++xs.toArray))).objs.size=s.heap.objs.size+1 by rw[acY,aaH]]
 refine b0 (ay (wt (n:=n-1) T R.pop ((hn▸oa).in2 l1) hv h64 hc)) λ_ s' S=>?_
 obtain⟨p,R',hu,hul,hD⟩:=S
 exact ax ⟨_,rfl,.mk (R'.push (v:=.lst _) (show bQ _ _ _ _ from .mk rfl hD hul hu)) (q _ p)⟩
end
end
section
open PySem.Builtin
section
theorem wu{id:String}{t:Sem V9}{k:Str}{q:Sem V9}{Qv:V9->Wj->Prop}
 (h:wq g A (abw [(false,t)]) (λvs d=>wq g A q (λz y=>wq g A (call (.builtin id) vs [(k,z)]) Qv E y) E d) E s):wq g A (aeA pos (.builtin id) [] [(false,t)] [(some k,q)]) Qv E s:=by
 unfold aeA
 have u:wq g A (evalArgs (.builtin id) true [(false,t)] [(some k,q)]) (λa s=>wq g A (call (.builtin id) ([]++a.pos) a.kw) Qv E s) E s:=by
  unfold evalArgs
  refine b0 h λvs s i=>dY ((ay ?_))
  show wq g A (evalAll [q]>>=λp=>_) _ E s
  refine aq ?_
  show wq g A (q>>=λv=>XH [v] (evalAll [])>>=λr=>pure (v::r)) _ E s
  exact b0 i λz s i=>aq (ay (ax (ax (dY ((ax i))))))
 refine aq (ay (aV u λa s j=>aU ?_))
 exact aq (m:=keeperOf _) (ax (b0 j λr s c=>aq (ay (aF (adP (ax c))))))
theorem wx(h:a4 e=true)(env:Env):Zf pos (X0 [e] env)=[(false,eval e env)]:=by
 cases e <;> first|rfl|cases h
theorem E5{y:Str}(b:cx.lvl=n)(m:bE g cx (.Name y f) (af (.raw (.builtin "sorted"))))(ha:An g cx pos [d] W)(hp:a4 d=true)(c:bE g cx p (af (.raw (.ref j)))) :
 bE g cx (.Call (.Name y f) [d] [⟨some (V3 "key"),p,kp⟩] pos) (eV g n (.ref j) W):=λ{A s tmp vals st Q X} oa R w=>
 TE.then_ (Q:=λv st'=>v=.raw (.builtin "sorted")∧eV g n (.ref j) W Q X st') m oa R ⟨rfl,w⟩ λv x st s R q=>by
  obtain⟨rfl,q⟩:=q
  obtain rfl:x=.builtin "sorted" := R.tmp.1
  have hs:Zf pos (X0 [d] cx.env)=[(false,eval d cx.env)]:=wx hp cx.env
  rw[hs]
  refine wu ?_
  have h1:=ha oa R.pop q
  rw[hs]at h1
  refine aV h1 λxs s u=>u.elim' λvs st R l q=>?_
  obtain⟨us,e,q⟩:=eS q
  cases e
  obtain⟨v,rfl,q⟩:=c9 q
  cases xs with
  |nil=>cases l
  |cons x r=>
  obtain rfl:r=[]:=W7 (Xr l).symm
  refine TE.then_ (Q:=λk st'=>k=.raw (.ref j)∧st'=st) c oa R ⟨rfl,rfl⟩ λk z st' o i e=>?_
  obtain⟨rfl,rfl⟩:=e
  obtain rfl:z=.ref j:=i.tmp.1
  exact aU (ax (A1 oa b i.pop q))
end
end
section
open PySem.Builtin
noncomputable def Gl.text(g:Gl):Bool:=g.w.params.followText "set-order"
abbrev Se:=List (Int×V9)
def wy(g:Gl)(q:Se)(d:List (List UInt8)):Prop:=ElemsOf (YM g.prog g.w) q∧(q.map λe=>bv e.2)=d∧d.Nodup
noncomputable abbrev eJ(y:Array (Int×V9))(q:Nat)(t:Y9):Obj:={cls:=.type "set",dict:=none,data:=.set y q t}
inductive eW(g:Gl)(h:Heap)(S:Addr)(d:List (List UInt8)):Prop
 |mk {es:Array (Int×V9)} {ep:Nat} {t:Y9} (at_:h.get? S=some (eJ es ep t)) (ok:wy g es.toList d) (b:es.size<abW) (f:t.fits es.size=true) (led:t.led=!g.text) (pl:es.size=0∨t.plain=false):eW g h S d
theorem A2(t:Y9)(q:Array (Int×V9))(h:Int)(x:V9):(layNew t q h x).2.1.led=t.led:=by
 unfold layNew
 cases t.freeSlot h with
 |none=>rfl
 |some p=>
  show(aec (t.put p.1).1 _).led=t.led
  unfold aec
  split <;> rfl
theorem r8(t:Y9)(q:Array (Int×V9))(n:Nat)(hp:t.plain=false):(acG t q n).2.1.led=t.led∧(acG t q n).2.1.plain=false:=by
 unfold acG
 generalize e:t.relaid (q.map (·.1)) n=i;cases i with
 |none=>exact⟨rfl,rfl⟩
 |some p=>
  have j:p.1.led=t.led∧p.1.plain=t.plain:=by
   unfold SetTable.relaid SetTable.laid at e
   obtain⟨o,u,z⟩:=YE.mp e
   rw[←WR z];exact⟨rfl,rfl⟩
  have key:∀(c:Bool) (y:Array (Int×V9)),(if c=true then(y,p.1,false)else(q,t.standIn q.size,true):Array (Int×V9)×Y9×Bool).2.1.led=t.led∧(if c=true then(y,p.1,false)else(q,t.standIn q.size,true):Array (Int×V9)×Y9×Bool).2.1.plain=false:=λc y=>by
   cases c with
   |false=>exact⟨rfl,rfl⟩
   |true=>exact⟨j.1,j.2.trans hp⟩
  exact key _ _
theorem Hs{g:Gl}{k:List UInt8}{v:V9}(h:(YM g.prog g.w).is k v=true):bv v=k:=by
 obtain⟨t,rfl⟩:=ae7 h;rfl
theorem wy.perm(h:wy g j d)(p:q.Perm j):∃y,y.Perm d∧wy g q y:=
 ⟨q.map λe=>bv e.2,by rw[←h.2.1];exact p.map _,h.1.perm p,rfl,(((h.2.1▸p.map λe=>bv e.2:(q.map λe=>bv e.2).Perm d)).nodup_iff).mpr h.2.2⟩
theorem wy.has(h:wy g j d):k∈d↔∃e∈j,(YM g.prog g.w).is k e.2=true:=by
 rw[←h.2.1,WC]
 exact⟨λ⟨e,q,y⟩=>(h.1 e q).1.elim λi z=>⟨e,q,by rw[←y,Hs z.1];exact z.1⟩,λ⟨e,q,y⟩=>⟨e,q,Hs y⟩⟩
section
variable{g:Gl}{A:Xd}{E:V9->Wj->Prop}{s:Wj}{S:Addr}{d:List (List UInt8)}{k:List UInt8}{x:V9}
theorem wz{b:Bool}{f:Bool->Sem Unit}(h0:f false=pure ())(h1:∃r,f true=rule r){Q:Unit->Wj->Prop}(q:Q () s):Wz g.M A (f b) Q E s:=by
 cases b with
 |false=>rw[h0];exact Wg q
 |true=>obtain⟨r,e⟩:=h1;rw[e];exact Yt q
theorem kZ[Decidable c](h1:c->Wz g.M A t Q E s)(q:¬c->Wz g.M A u Q E s):Wz g.M A (if c then t else u) Q E s:=by
 by_cases h:c
 ·rw[if_pos h];exact h1 h
 ·rw[if_neg h];exact q h
theorem Ht(ho:s.heap.get? S=some (eJ es ep t))(hb:es'.size<abW)
 (q:∀h' ep',Xg S s.heap h'->h'.get? S=some (eJ es' ep' t')->Q () { s with heap:=h'}):Wz g.M A (storeSet S es' t') Q E s:=
 wpAny_storeSet_of ho rfl (q _ (ep+1) (.update ..) (by rw[W9 _ ho rfl];rfl)) (fits_of_scanBound hb)
theorem Hu{es es1:Array (Int×V9)}{ep:Nat}{t:Y9}(hkey:(YM g.prog g.w).is k x=true)(hsc:x.scannable=true)(ho:s.heap.get? S=some (eJ es ep t))(hok:wy g es.toList d)(hn:k∉d)(hb:es.size+1<abW)(hperm:es1.toList.Perm (es.push ((YM g.prog g.w).hash k,x)).toList){b:Bool}{t2:Y9}
 (ht2:t2.led=!g.text∧t2.plain=false∧t2.fits es1.size=true) {f:Bool->Sem Unit} (hf:∀(b:Bool) (s₁:Wj) (Q':Unit->Wj->Prop),Q' () s₁->Wz g.M A (f b) Q' E s₁) {Q:Option Bool->Wj->Prop}
 (q:∀h' d',Xg S s.heap h'->eW g h' S d'->(∀y,y∈d'↔y∈d∨y=k)->d'.length=d.length+1->Q (some true) { s with heap:=h'}) :
 wpAny g.M A (do
  storeSet S es1 t2
  if(!b&&t2.tooFull)=true then do
   f (acG t2 es1 (Zv es1.size)).2.2
   storeSet S (acG t2 es1 (Zv es1.size)).1 (acG t2 es1 (Zv es1.size)).2.1
   pure (some true)
   else pure (some true)) Q E s:=by
 rw[afp]at hperm
 have hok1:wy g (es.toList++[((YM g.prog g.w).hash k,x)]) (d++[k]):=⟨hok.1.push hkey hsc,by rw[WE,hok.2.1];show d++[bv x]=_;rw[Hs hkey],List.nodup_append.mpr ⟨hok.2.2,ad5 ..,λa ha b hb e=>hn (by rw[←Wr.mp hb,←e];exact ha)⟩⟩
 have hsz:es1.size=es.size+1:=by rw[←Yp,hperm.length_eq,V6,Yp];rfl
 have hb1:es1.size<scanBound:=by rw[hsz];exact hb
 obtain⟨d1,p1,Pa⟩:=hok1.perm hperm
 have bc:∀{d':List (List UInt8)},d'.Perm (d++[k])->(∀y,y∈d'↔y∈d∨y=k)∧d'.length=d.length+1:=λp=>⟨λy=>by rw[p.mem_iff,WD,Wr],by rw[p.length_eq,V6];rfl⟩
 refine V7 (Ht ho hb1 λh1 ep1 s1 e1=>?_)
 have done:=q h1 d1 s1 (.mk e1 Pa hb1 ht2.2.2 ht2.1 (.inr ht2.2.1)) (bc p1).1 (bc p1).2
 refine kZ (λ_=>?_) λ_=>?_
 ·have hp:=relayAll_perm t2 es1 (Zv es1.size)
  have hf2:=relayAll_fits t2 es1 (Zv es1.size)
  have hl:=r8 t2 es1 (Zv es1.size) ht2.2.1
  generalize acG t2 es1 (Zv es1.size)=Rl at *
  obtain⟨d2,p2,ok2⟩:=Pa.perm hp
  have hb2:Rl.1.size<scanBound:=by rw[←Yp,hp.length_eq,Yp];exact hb1
  refine V7 (hf _ _ _ (V7 (Ht e1 hb2 λh2 ep2 s2 e2=>Wg ?_)))
  exact q h2 d2 (s1.trans s2) (.mk e2 ok2 hb2 hf2 (hl.1.trans ht2.1) (.inr hl.2)) (bc (p2.trans p1)).1 (bc (p2.trans p1)).2
 ·exact Wg done
set_option tactic.hygienic true in
theorem Lp(u:(YM g.prog g.w).is k x=true)(hS:eW g s.heap S d)(hr:d.length+1<abW){Q:Bool->Wj->Prop}
 (q:∀a o b,Xg S s.heap a->eW g a S o->(∀y,y∈o↔y∈d∨y=k)->o.length<=d.length+1->Q b { s with heap:=a}):Wz g.M A (setAddHashed S x ((YM g.prog g.w).hash k)) Q E s:=by
 have G:=hS
 obtain⟨X,i,hb,hf,p,hpl⟩:=hS
 rename_i m ep t
 obtain⟨tt,ex⟩:=ae7 u
 have c:x.scannable=true:=by rw[ex];rfl
 have hes:m.size=d.length:=by rw[←i.2.1,Wd,Yp]
 refine Xk (Internal.Vv (λ_ q=>X1 X rfl hf q) ?_)
 dsimp only
 rw[byScan_of c hb i.1,if_pos rfl]
 refine V7 (V7 (Yt (V7 (wpAny_setScan_of u X rfl hf i.1 ?_))))
 generalize R:List.findIdx? (λe=>(YM g.prog g.w).is k e.2) m.toList=zz;cases zz with
 |some j=>
  refine Wo λno=>?_
  obtain⟨hj,n,_⟩:=acI.mp R
  refine no ?_
  have Y:k∈d:=i.has.mpr ⟨_,ZJ hj,n⟩
  exact Wg (Wg (q s.heap d _ (Heap.SameBut.refl _ _) G (λy=>⟨.inl,λh=>h.elim id λe=>e▸Y⟩) (Xq _)))
 |none=>
  have Y:k∉d:=λh=>(i.has.mp h).elim λe z=>by
   have:=List.findIdx?_eq_none_iff.mp R e z.1
   rw[z.2]at this;cases this
  have hl:=A2 t m ((YM g.prog g.w).hash k) x
  have J:=layNew_fits t m ((YM g.prog g.w).hash k) x
  have B:=layNew_perm t m ((YM g.prog g.w).hash k) x
  have U:m.size+1<scanBound:=by rw[hes];exact hr
  generalize layNew t m ((YM g.prog g.w).hash k) x=L at *
  refine V7 (wz (f:=_) rfl ⟨_,rfl⟩ ?_)
  refine kZ (λhp=>?_) λhp=>?_
  ·refine V7 ?_
   rw[hashByValue_scannable 8 c,show plainKind x=false by rw[ex];rfl]
   refine Wg ?_
   refine Hu (t2:={L.2.1 with plain:=false}) u c X i Y U B ⟨hl.trans p,rfl,SetTable.fits_plain_off J⟩ ?_ λa o h1 H I Z=>?_
   ·exact λb D Q' h=>wz rfl ⟨_,rfl⟩ h
   exact Wg (q a o _ h1 H I (Xp Z))
  ·refine V7 (Wg ?_)
   refine Hu u c X i Y U B ⟨hl.trans p,YH.mpr hp,J⟩ ?_ λa o h1 H I Z=>?_
   ·exact λb D Q' h=>wz rfl ⟨_,rfl⟩ h
   exact Wg (q a o _ h1 H I (Xp Z))
end
end
section
open PySem.Builtin
section
variable{g:Gl}{A:Xd}{E:V9->Wj->Prop}{s s₀:Wj}{S I l N:Addr}{d:List (List UInt8)}{k:List UInt8}{x:V9}{xs:List V9}{h h0:Heap}{R:abJ->Wj->Prop}
def Pb(N:Nat)(h q:Heap):Prop:=∀b o,b<N->h.get? b=some o->q.get? b=some o
theorem eW.but(y:eW g h S d)(n:S≠I)(hb:Xg I h j):eW g j S d:=by
 obtain⟨at_,ok,b,f,q,pl⟩:=y
 exact .mk ((hb.2 S n).trans at_) ok b f q pl
theorem eW.ext(y:eW g h S d)(n:S≠I)(hb:ab4 I h j):eW g j S d:=by
 obtain⟨at_,ok,b,f,q,pl⟩:=y
 exact .mk (hb S _ n at_) ok b f q pl
theorem Hv(hh:A.handled=none)(hx:∀x∈xs,∃b t,x=YO b t)(h64:xs.length<64)(hl:h0.IsList l xs.toArray)(lN:l<N)(SN:N<=S)(IN:N<=I)(SI:S≠I)
 (hR:∀h tk d,Pb N h0 h->eW g h S d->(∀y,y∈d↔y∈xs.map bv)->d.length<=xs.length->R (.ok (.ret .none)) { s₀ with heap:=h,toks:=tk}) :
 ∀(r:List V9) (i:Nat) (h:Heap) (tk:Nat) (d:List (List UInt8)),xs.drop i=r->h.IsListIter I l i->Pb N h0 h->eW g h S d->(∀y,y∈d↔y∈(xs.take i).map bv)->d.length<=i->i<=xs.length->adp g.M A (.builtin "set.update.loop" ⟨[.ref S,.ref I],[]⟩) R { s₀ with heap:=h,toks:=tk}:=by
 intro zi
 induction zi with
 |nil=>
  intro i h tk d e hi ho hS hm hd hil
  obtain⟨ol,l1,l2⟩:=hl
  refine YR aeV ?_
  rw[XI abM _]
  refine V7 (wpAny_pyNext_list_end hh hi ⟨ol,ho _ _ lN l1,l2⟩ (oy e) λh' he=>Wg (hR h' tk d (λb o q e=>he b o (WW (WA q IN)) (ho b o q e)) (hS.ext SI he) ?_ (V4 hd hil)))
  rw[Zj (List.drop_eq_nil_iff.mp e)]at hm
  exact hm
 |cons x r ih=>
  intro i h tk d e hi ho hS hm hd hil
  have D:=ow e
  obtain⟨ol,l1,l2⟩:=id hl
  have il:i<xs.length:=Nat.lt_of_not_le λq=>by rw[List.drop_of_length_le q]at e;cases e
  obtain⟨b,t,ex⟩:=hx x (Xx (XZ (xs:=xs)▸D.1))
  have hk:(YM g.prog g.w).is b.toList x=true:=by rw[ex];exact beq_self_eq_true _
  refine YR aeV ?_
  rw[XI abM _]
  refine V7 (wpAny_pyNext_list_item hi ⟨ol,ho _ _ lN l1,l2⟩ D.1 λh1 i1 b1=>?_)
  refine V7 (Xk ?_)
  refine Xk (V7 ((YM g.prog g.w).pyHash (k:=b.toList) hk (Lp hk (hS.but SI b1) ?_ λh2 d2 _ b2 S2 m2 l2=>?_)))
  ·exact Wp (Wm hd) (Xz (Nat.succ_lt_succ (Xz il h64)) dD)
  ·refine Wg ⟨ZC abM _,ih (i+1) h2 _ d2 D.2 ?_ ?_ S2 ?_ (V4 l2 (Wm hd)) il⟩
   ·obtain⟨o,o1,o2⟩:=i1
    exact⟨o,(b2.2 I (XW SI)).trans o1,o2⟩
   ·exact λb o q e=>(b2.2 b (WW (WA q SN))).trans ((b1.2 b (WW (WA q IN))).trans (ho b o q e))
   ·intro y
    rw[m2 y,hm y,abb,show xs[i]? = some x from XZ (xs:=xs)▸D.1,WE,WD]
    show _↔_∨y∈[bv x]
    rw[Wr,ex];rfl
end
end
section
open PySem.Builtin
section
variable{g:Gl}{A:Xd}{E:V9->Wj->Prop}{s s₀:Wj}{S I l N:Addr}{d:List (List UInt8)}{k:List UInt8}{x:V9}{xs:List V9}{h h0:Heap}{R:abJ->Wj->Prop}
theorem tU(a:V9)(h:Q₁ (.ref s.heap.objs.size) { s with heap:=s.heap.push (eJ #[] 0 (.fresh 0 0 (!g.text)))}) :
 codeAny g.M A (.call (.builtin "set.__new__") ⟨[.type "set",a],[]⟩) (wants Q₁ E) s:=by
 refine aa0 ?_
 show Wz _ A.in1 (do XN "set.__new__" ⟨[.type "set",a],[]⟩;adS (.builtin "set.__new__" ⟨[.type "set",a],[]⟩)) _ _ s
 refine(Internal.V2 (F.newCall_set_1 a) (Wg ⟨ZC F.plain_set_new _,YR F.entry_set_new ?_⟩))
 rw[XI F.plain_set_new _]
 have hsub:=sub_set_self
 obtain⟨hp,gg,d,tk,os⟩:=s
 wp_walk
 refine Yn (Wg ?_)
 refine V7 (wpAny_alloc (Wg ?_))
 exact Wg h
theorem Hw(e:q=!g.text)(y:h.get? S=some (eJ #[] 0 (.fresh 0 0 q))):eW g h S []:=.mk y ⟨λx h=>(nomatch h),rfl,List.nodup_nil⟩ (by show 0<_;decide) rfl e (.inl rfl)
abbrev Pc(g:Gl)(s:Wj)(xs:List V9)(s':Wj):Prop:=∃h tk d,s'={s with heap:=h,toks:=tk}∧Pb s.heap.objs.size s.heap h∧eW g h s.heap.objs.size d∧(∀y,y∈d↔y∈xs.map bv)∧d.length<=xs.length
theorem Hx(hh:A.handled=none)(hx:∀x∈xs,∃b t,x=YO b t)(h64:xs.length<64)(hl:s.heap.get? l=some (sq "list" xs n)) :
 codeAny g.M A (.call (.builtin "set.__init__") ⟨[.ref s.heap.objs.size,.ref l],[]⟩) (wants (λr s'=>r=.none∧Pc g s xs s') E) { s with heap:=s.heap.push (eJ #[] 0 (.fresh 0 0 (!g.text)))}:=by
 have hS:(s.heap.push (eJ #[] 0 (.fresh 0 0 (!g.text)))).get? s.heap.objs.size=some (eJ #[] 0 (.fresh 0 0 (!g.text))):=WG _ rfl
 have hT:Shared.TypeIs { s with heap:=s.heap.push (eJ #[] 0 (.fresh 0 0 (!g.text)))} (.ref s.heap.objs.size) "set" := ⟨_,hS,rfl⟩
 have hl':(s.heap.push (eJ #[] 0 (.fresh 0 0 (!g.text)))).get? l=some (sq "list" xs n):=Wl _ hl
 refine aaN ZP.init.plain F.entry_set_init (check_set_init_1 hT ?_)
 have hl1:(s.heap.push (eJ #[] 0 (.fresh 0 0 (!g.text)))).IsList l xs.toArray:=⟨_,hl',rfl,n,rfl⟩
 have hsls:=F.sub_list_set
 have hslf:=F.sub_list_frozenset
 have hne:(Ye "list" == Ye "dict")=false:=dD
 unfold XE.«set.__init__» noKeywords Builtin.Frozenset.updateFrom
 generalize hPI:ac5=PI
 wp_walk
 subst hPI
 refine adm hl1 ?_
 refine V7 (wpAny_runValue ?_)
 have lS:l<s.heap.objs.size:=WU hl
 refine Hv (A:=A.in1) (h0:=s.heap) (N:=s.heap.objs.size) (l:=l) (s₀:=s) (xs:=xs) hh hx h64 ⟨_,hl,rfl,n,rfl⟩ lS (Wh _) (by show _<=(s.heap.push _).objs.size;rw[aaS];exact Xq _) (by show _≠(s.heap.push _).objs.size;rw[aaS];exact WW (XX _)) (λh tk d o S m le=>?_) xs 0 _ _ [] rfl ⟨{cls:=.type "list_iterator",data:=.fields #[.ref l,.int 0 0]},WG _ rfl,rfl,rfl⟩ (λb o q e=>Wl _ (Wl _ e)) (Hw rfl (Wl _ hS)) (λy=>⟨λh=>(nomatch h),λh=>(nomatch h)⟩) (Wh _) (Wy _)
 exact Wg (Wg ⟨rfl,h,tk,d,rfl,o,S,m,le⟩)
set_option maxHeartbeats 3200000 in
theorem E6(hh:A.handled=none)(hx:∀x∈xs,∃b t,x=YO b t)(h64:xs.length<64)(hl:s.heap.get? l=some (sq "list" xs n))
 (q:∀s',Pc g s xs s'->Q (.ref s.heap.objs.size) s'):Wz g.M A (call (.type "set") [.ref l]) Q E s:=by
 obtain⟨c,tl,hmro⟩:=ZP.mro
 have hmade:=ZP.made
 have hsub:=ZP.sub
 refine abi (aa0 ?_)
 refine Wg ⟨YA _ dD,YR F.entry_type_call ?_⟩
 rw[Around.under_plain (weight_type_call_type "set" [.ref l] []) rfl]
 have h1:=ZP.notType
 have h2:=ZP.canCreate
 have hct:=F.typeCall_set_1 (.ref l)
 repeat (any_goals (first|assumption|wp_step))
 refine codeAny_mono (tU (g:=g) (.ref l) (E:=E) (Q₁:=λobj s₁=>obj=.ref s.heap.objs.size∧s₁={s with heap:=s.heap.push (eJ #[] 0 (.fresh 0 0 (!g.text)))}) ⟨rfl,rfl⟩) λr s₁ hr=>?_
 cases r with
 |error e=>exact hr
 |ok fl=>
  cases fl with
  |ret obj=>
   obtain⟨rfl,rfl⟩:=hr
   have hS:(s.heap.push (eJ #[] 0 (.fresh 0 0 (!g.text)))).get? s.heap.objs.size=some (eJ #[] 0 (.fresh 0 0 (!g.text))):=WG _ rfl
   have hT:Shared.TypeIs { s with heap:=s.heap.push (eJ #[] 0 (.fresh 0 0 (!g.text)))} (.ref s.heap.objs.size) "set" := ⟨_,hS,rfl⟩
   have hli:=ZP.init.lookup
   have hbi:=ZP.init.bind (.ref s.heap.objs.size)
   repeat (any_goals (first|assumption|wp_step))
   refine codeAny_mono (Hx (g:=g) (E:=E) hh hx h64 hl) λr₂ s₂ hr₂=>?_
   cases r₂ with
   |error e=>exact hr₂
   |ok fl₂=>
    cases fl₂ with
    |ret r=>
     obtain⟨rfl,hq⟩:=hr₂
     have hq:=q _ hq
     repeat (any_goals (first|assumption|wp_step))
    |_=>exact hr₂.elim
  |_=>exact hr.elim
end
end
section
open PySem.Builtin
namespace FX
theorem Gd:Slot "set_iterator" "__next__" "set_iterator.__next__" :=
 .of (owner:= "set_iterator") (n:= "__next__") (by rw[W8,WN];kernel_rfl) dD dD dD (.inl dD) (by rw[Xu];kernel_rfl)
theorem E7:Yw Z6 "set_iterator.__next__" = some XE.«set_iterator.__next__»:=by first|exact XJ (by kernel_rfl)|exact XM (by kernel_rfl)
theorem Ge(a:V9):Yk "set_iterator.__next__" ⟨[a],[]⟩:=by unfold Yk;kernel_rfl
end FX
noncomputable abbrev Hy(first:V9)(i n ep:Nat)(S:Addr):Obj:={cls:=.type "set_iterator",data:=.fields #[first,Y5 i,.ref S,Y5 n,Y5 ep]}
section
variable{g:Gl}{A:Xd}{E:V9->Wj->Prop}{s s₀:Wj}{S I l N P:Addr}{x first:V9}{xs rest:List V9}{h h0:Heap}{es:Array (Int×V9)}{ep i n m:Nat}{t:Y9}
theorem C0{Q:Option V9->Wj->Prop}{Q1:aaJ->Wj->Prop}(hh:A.handled=none)(q:∀h',(∀b o,s.heap.get? b=some o->h'.get? b=some o)->Q none { s with heap:=h'}) :
 wpAny g.M A.in1 (do let e ←newExc (.type "StopIteration") [];raiseNew e) Q1 (λe s'=>Wz g.M A (do if(←aaD e (.type "StopIteration"))=true then pure none else throw e) Q E s') s:=by
 refine V7 ?_
 refine V7 (Yu ?_ (by size_fits))
 refine V7 (m:=firstArgMember _ _) (adQ (a:=aaO) rfl ?_)
 refine Yu ?_ (by size_fits)
 refine Internal.Vv (λ_ q=>wpAny_handled q) ?_
 rw[show A.in1.handled=none from hh]
 refine V7 (Wg (wpAny_throw ?_))
 refine V7 (Zm (T:= "StopIteration") (b:=true) ⟨_,WG _ rfl,rfl⟩ isSubtype_stop ?_)
 exact Wg (q _ λb o e=>Wl _ (Wl _ e))
theorem p9{Q:Option V9->Wj->Prop}{sl nx:Nat}(hS:s.heap.get? S=some (eJ es ep t))(hf:t.fits es.size=true)(hI:s.heap.get? I=some (Hy (Y5 sl) i es.size ep S))
 (hn:∀{A E Q'},Q' (some (x,nx)) s->Wz g.M A (acM S sl i ep) Q' E s) (q:∀h',Xg I s.heap h'->h'.get? I=some (Hy (Y5 nx) (i+1) es.size ep S)->Q (some x) { s with heap:=h'}) :
 wpAny g.M A (aaZ (.ref I)) Q E s:=by
 unfold aaZ
 refine V7 (abE (YK (name:=V3 "__next__") ⟨_,hI,rfl⟩ FX.Gd (YZ FX.Gd ⟨_,hI,rfl⟩ FX.E7 ?_ (FX.Ge _))))
 show Wz _ _ (fieldsOf (.ref I)>>=_) _ _ s
 refine Internal.Vv (λ_ q=>acC hI rfl q) ?_
 refine V7 (V7 (X1 hS rfl hf (Wg ?_)))
 rw[if_neg (by rw[bne_self_eq_false];exact W0)]
 show Wz _ _ (acM S sl i ep>>=_) _ _ s
 refine Internal.Vv (λ_ q=>hn q) ?_
 refine V7 (Zw hI (V5 rfl) λh1 e1 b1=>?_)
 refine V7 (Zw e1 (V5 rfl) λh2 e2 b2=>?_)
 exact Wg ⟨_,rfl,Wg (q h2 (b1.trans b2) e2)⟩
theorem k4{Q:Option V9->Wj->Prop}{sl:Nat}(hh:A.handled=none)(hS:s.heap.get? S=some (eJ es ep t))(hf:t.fits es.size=true)(hI:s.heap.get? I=some (Hy (Y5 sl) i es.size ep S))
 (hn:∀{A E Q'},Q' none s->Wz g.M A (acM S sl i ep) Q' E s) (q:∀h',ab4 I s.heap h'->Q none { s with heap:=h'}) :
 wpAny g.M A (aaZ (.ref I)) Q E s:=by
 unfold aaZ
 refine V7 (abE (YK (name:=V3 "__next__") ⟨_,hI,rfl⟩ FX.Gd (YZ FX.Gd ⟨_,hI,rfl⟩ FX.E7 ?_ (FX.Ge _))))
 show Wz _ _ (fieldsOf (.ref I)>>=_) _ _ s
 refine V7 (acC hI rfl ?_)
 refine V7 (V7 (X1 hS rfl hf (Wg ?_)))
 rw[if_neg (by rw[bne_self_eq_false];exact W0)]
 show Wz _ _ (acM S sl i ep>>=_) _ _ s
 refine Internal.Vv (λ_ q=>hn q) ?_
 refine V7 (Zw hI (V5 rfl) λh1 e1 b1=>?_)
 exact C0 hh λh' k=>q h' λb o n e=>k b o ((b1.2 b n).trans e)
theorem yZ{Q:Option V9->Wj->Prop}{ps:List V9}{p:Nat}{c:Int}(hS:s.heap.get? S=some (eJ es ep t))(hf:t.fits es.size=true)(hI:s.heap.get? I=some (Hy (.ref P) i es.size ep S))
 (hP:s.heap.get? P=some (sq "tuple" ps m)) (hp:ps[i]? = some (Y5 p)) (hx:es[p]? = some (c,x)) (q:∀h',Xg I s.heap h'->h'.get? I=some (Hy (.ref P) (i+1) es.size ep S)->Q (some x) { s with heap:=h'}) :
 wpAny g.M A (aaZ (.ref I)) Q E s:=by
 unfold aaZ
 refine V7 (abE (YK (name:=V3 "__next__") ⟨_,hI,rfl⟩ FX.Gd (YZ FX.Gd ⟨_,hI,rfl⟩ FX.E7 ?_ (FX.Ge _))))
 show Wz _ _ (fieldsOf (.ref I)>>=_) _ _ s
 refine Internal.Vv (λ_ q=>acC hI rfl q) ?_
 refine V7 (V7 (X1 hS rfl hf (Wg ?_)))
 rw[if_neg (by rw[bne_self_eq_false];exact W0)]
 show Wz _ _ (seqItems? (.ref P)>>=_) _ _ s
 refine Internal.Vv (λ_ q=>aap hP rfl q) ?_
 dsimp only
 rw[show ps.toArray[(i:Int).toNat]? = some (Y5 p) by rw[XZ];exact hp]
 refine V7 (Internal.Vv (λ_ q=>X1 hS rfl hf q) ?_)
 dsimp only
 rw[if_neg (by rw[bne_self_eq_false];exact W0),hx]
 refine Wg (V7 (Zw hI (V5 rfl) λh1 e1 b1=>?_))
 exact Wg ⟨_,rfl,Wg (q h1 b1 e1)⟩
theorem A3{Q:Option V9->Wj->Prop}{ps:List V9}(hh:A.handled=none)(hS:s.heap.get? S=some (eJ es ep t))(hf:t.fits es.size=true)(hI:s.heap.get? I=some (Hy (.ref P) i es.size ep S))
 (hP:s.heap.get? P=some (sq "tuple" ps m)) (hp:ps[i]? = none) (q:∀h',ab4 I s.heap h'->Q none { s with heap:=h'}) :
 wpAny g.M A (aaZ (.ref I)) Q E s:=by
 unfold aaZ
 refine V7 (abE (YK (name:=V3 "__next__") ⟨_,hI,rfl⟩ FX.Gd (YZ FX.Gd ⟨_,hI,rfl⟩ FX.E7 ?_ (FX.Ge _))))
 show Wz _ _ (fieldsOf (.ref I)>>=_) _ _ s
 refine Internal.Vv (λ_ q=>acC hI rfl q) ?_
 refine V7 (V7 (X1 hS rfl hf (Wg ?_)))
 rw[if_neg (by rw[bne_self_eq_false];exact W0)]
 show Wz _ _ (seqItems? (.ref P)>>=_) _ _ s
 refine V7 (aap hP rfl ?_)
 dsimp only
 rw[show ps.toArray[(i:Int).toNat]? = none by rw[XZ];exact hp]
 refine V7 (Zw hI (V5 rfl) λh1 e1 b1=>?_)
 refine V7 (Zw e1 (V5 rfl) λh2 e2 b2=>?_)
 exact C0 hh λh' k=>q h' λb o n e=>k b o ((b2.2 b n).trans ((b1.2 b n).trans e))
end
end
section
open PySem.Builtin
noncomputable abbrev Gl.pick(g:Gl)(S:Addr)(ep:Nat)(es:Array (Int×V9)):Se:=(pickOrder (g.w.params.setOrder S ep) es).toList
inductive fp(g:Gl)(h:Heap)(S I:Addr):List V9->Prop
 |text {es:Array (Int×V9)} {ep i sl:Nat} {t:Y9} (hS:h.get? S=some (eJ es ep t)) (f:t.fits es.size=true) (hI:h.get? I=some (Hy (Y5 sl) i es.size ep S)) (tx:g.text=true):fp g h S I (((g.pick S ep es).drop i).map (·.2))
 |drawn {es:Array (Int×V9)} {ep i m:Nat} {t:Y9} {P:Addr} {ps:List Nat} (hS:h.get? S=some (eJ es ep t)) (f:t.fits es.size=true) (hI:h.get? I=some (Hy (.ref P) i es.size ep S)) (hP:h.get? P=some (sq "tuple" (ps.map λ(p:Nat)=>Y5 p) m)) (b:∀p∈ps,p<es.size):fp g h S I ((ps.drop i).map λp=>(es[p]?.getD default).2)
 |none {ep sl i:Nat} {t:Y9} (hS:h.get? S=some (eJ #[] ep t)) (f:t.fits 0=true) (hI:h.get? I=some (Hy (Y5 sl) i 0 ep S)) (tx:g.text=false):fp g h S I []
 |one {e:Int×V9} {ep j:Nat} {t:Y9} (hS:h.get? S=some (eJ #[e] ep t)) (f:t.fits 1=true) (pl:t.place=#[j]) (led:t.led=true) (hI:h.get? I=some (Hy (Y5 (0:Nat)) 0 1 ep S)) (tx:g.text=false):fp g h S I [e.2]
 |over {e:Int×V9} {ep j:Nat} {t:Y9} (hS:h.get? S=some (eJ #[e] ep t)) (f:t.fits 1=true) (pl:t.place=#[j]) (led:t.led=true) (hI:h.get? I=some (Hy (Y5 (j+1:Nat)) 1 1 ep S)) (tx:g.text=false):fp g h S I []
section
variable{g:Gl}{A:Xd}{E:V9->Wj->Prop}{s s₀:Wj}{S I l N P D:Addr}{x first:V9}{xs rest:List V9}{h h' h0:Heap}{es:Array (Int×V9)}{ep i n m:Nat}{t:Y9}
theorem r9(h1:h.get? a=some o)(d:h.get? b=some p)(n:o.cls≠p.cls):a≠b:=λe=>n (by rw[e,d]at h1;rw[WR h1])
theorem y0:Ye "set" ≠ .type "list" := dD
theorem Hz:Ye "set_iterator" ≠ .type "list" := dD
theorem Sf:Ye "tuple" ≠ .type "list" := dD
theorem fp.but(J:fp g h S I xs)(u:h.get? D=some (sq "list" rest m))(hb:Xg D h h'):fp g h' S I xs:=by
 have d:∀{b o},h.get? b=some o->o.cls≠.type "list" -> h'.get? b=some o:=λe n=>(hb.2 _ (r9 e u n)).trans e
 cases J with
 |text y f q j=>exact .text (d y y0) f (d q Hz) j
 |drawn y f q hP b=>exact .drawn (d y y0) f (d q Hz) (d hP Sf) b
 |none y f q j=>exact .none (d y y0) f (d q Hz) j
 |one y f pl z q j=>exact .one (d y y0) f pl z (d q Hz) j
 |over y f pl z q j=>exact .over (d y y0) f pl z (d q Hz) j
theorem vf(d:s.heap.get? S=some (eJ es ep t))(y:t.fits es.size=true)(j:g.text=true)(q:Q (((g.pick S ep es)[i]?).map λe=>(e.2,sl)) s):Wz g.M A (acM S sl i ep) Q E s:=by
 unfold acM
 refine V7 (X1 d rfl y ?_)
 refine V7 (V7 (Yn (Wg ?_)))
 refine kZ (λ_=>?_) λh=>absurd j h
 rw[if_neg (by rw[bne_self_eq_false];exact W0)]
 refine V7 (Internal.Vv (λ_ q=>X1 d rfl y q) ?_)
 refine V7 (V7 (Yn (Wg ?_)))
 refine kZ (λ_=>?_) λh=>absurd j h
 refine V7 (Yn (Wg (Wg ?_)))
 rw[←Array.getElem?_toList];exact q
theorem sa(u:s.heap.get? S=some (eJ es ep t))(z:t.fits es.size=true)(y:g.text=false)(l:es.size<=1)(d:es.size=0∨t.led=true)(q:∀r,(∀c x j,es[ZY t.place sl]? = some (c,x)->t.place[ZY t.place sl]? = some j->r=some (x,j+1))->(es[ZY t.place sl]? = none->r=none)->Q r s):Wz g.M A (acM S sl i ep) Q E s:=by
 unfold acM
 refine Internal.Vv (λ_ q=>X1 u rfl z q) ?_
 dsimp only
 refine V7 (V7 (Yn (Wg ?_)))
 refine kZ (λh=>absurd h (YH.mp y)) λ_=>kZ (λh=>?_) λ_=>?_
 ·have h:(!t.plain&&decide (es.size>1))=true:=h
  rw[decide_eq_false (Xh.mpr l),aaa]at h
  cases h
 ·refine(Internal.V2 (a:=()) ?_ (Wg (q _ (λc x j h1 p=>by rw[h1,p]) λh=>by rw[h])))
  show(if(!t.led&&!es.isEmpty)=true then _ else _)=_
  rw[if_neg]
  rcases d with h|h
  ·rw[show es.isEmpty=true from decide_eq_true h,Bool.not_true,aaa];exact W0
  ·rw[h];exact W0
theorem TJ:ZY #[] n=0:=rfl
theorem TK:ZY #[j] 0=0:=rfl
theorem Lq:ZY #[j] (j+1)=1:=
 have h:∀(f lo d:Nat),aby #[j] (j+1) (f+1) lo d=(if lo<d then(if(#[j]:Array Nat).getD ((lo+d)/2) (j+1)<j+1 then aby #[j] (j+1) f ((lo+d)/2+1) d else aby #[j] (j+1) f lo ((lo+d)/2))else lo):=λf lo d=>rfl
 (h 0 0 1).trans ((if_pos dD).trans ((if_pos (show j<j+1 from XX j)).trans rfl))
theorem fp.next(J:fp g s.heap S I xs)(e:xs=x::rest)(q:∀h',Xg I s.heap h'->fp g h' S I rest->Q (some x) { s with heap:=h'}):Wz g.M A (aaZ (.ref I)) Q E s:=by
 have to:∀{h' b o},Xg I s.heap h'->s.heap.get? b=some o->b≠I->h'.get? b=some o:=λhb e n=>(hb.2 _ n).trans e
 cases J with
 |@text es ep i sl t hS f hI tx=>
  have nS:=r9 hS hI (show Ye "set" ≠ .type "set_iterator" by decide)
  obtain⟨y,r,e1,e2,e3⟩:=ae0.mp e
  have h1:(g.pick S ep es)[i]? = some y:=by rw[←ZW,e1];rfl
  have h2:(g.pick S ep es).drop (i+1)=r:=by rw[←adG,e1];rfl
  refine p9 hS f hI (x:=x) (nx:=sl) (λ{A E Q'} q=>vf hS f tx (by rw[h1];show Q' (some (y.2,sl)) _;rw[e2];exact q)) λh' hb hI'=>q h' hb ?_
  rw[←e3,←h2]
  exact .text (to hb hS nS) f hI' tx
 |@drawn es ep i m t P ps hS f hI hP b=>
  have nS:=r9 hS hI (show Ye "set" ≠ .type "set_iterator" by decide)
  have nP:=r9 hP hI (show Ye "tuple" ≠ .type "set_iterator" by decide)
  obtain⟨p,r,e1,e2,e3⟩:=ae0.mp e
  have h1:ps[i]? = some p:=by rw[←ZW,e1];rfl
  have h2:ps.drop (i+1)=r:=by rw[←adG,e1];rfl
  have hx:es[p]? = some ((es[p]?.getD default).1,x):=by
   rw[←e2,getElem?_pos es p (b p (Xx h1))];rfl
  refine yZ hS f hI hP (by rw[YF,h1];rfl) hx λh' hb hI'=>q h' hb ?_
  rw[←e3,←h2]
  exact .drawn (to hb hS nS) f hI' (to hb hP nP) b
 |none=>cases e
 |@one e' ep j t hS f pl led hI tx=>
  cases e
  have nS:=r9 hS hI (show Ye "set" ≠ .type "set_iterator" by decide)
  exact p9 hS f hI (x:=e'.2) (nx:=j+1) (λq=>sa hS f tx (Wh _) (.inr led) λr h1 h2=>by
   rw[h1 e'.1 e'.2 j (by rw[pl];rfl) (by rw[pl];rfl)];exact q) λh' hb hI'=>q h' hb (.over (to hb hS nS) f pl led hI' tx)
 |over=>cases e
theorem fp.stop(hh:A.handled=.none)(J:fp g s.heap S I xs)(e:xs=[])(q:∀h',ab4 I s.heap h'->Q .none { s with heap:=h'}):Wz g.M A (aaZ (.ref I)) Q E s:=by
 cases J with
 |@text es ep i sl t hS f hI tx=>
  have h1:(g.pick S ep es)[i]? = .none:=by rw[←ZW,Zb.mp e];rfl
  exact k4 hh hS f hI (λq=>vf hS f tx (by rw[h1];exact q)) q
 |@drawn es ep i m t P ps hS f hI hP b=>
  have h1:ps[i]? = .none:=by rw[←ZW,Zb.mp e];rfl
  exact A3 hh hS f hI hP (by rw[YF,h1];rfl) q
 |none hS f hI tx=>exact k4 hh hS f hI (λq=>sa hS f tx (Wy _) (.inl rfl) λr h1 h2=>by rw[h2 rfl];exact q) q
 |one=>cases e
 |over hS f pl led hI tx=>exact k4 hh hS f hI (λq=>sa hS f tx (Wh _) (.inr led) λr h1 h2=>by rw[h2 (by rw[pl,Lq];rfl)];exact q) q
end
end
section
open PySem.Builtin
namespace FX
theorem HA:Yw Z6 "set.__iter__" = some XE.«frozenset.__iter__»:=entryFor_alias (id':= "frozenset.__iter__") (by kernel_rfl) rfl dD (by kernel_rfl)
end FX
section
variable{g:Gl}{A:Xd}{E:V9->Wj->Prop}{s s₀:Wj}{S I l N P D:Addr}{x first:V9}{xs rest:List V9}{h h' h0:Heap}{es:Array (Int×V9)}{ep i n m:Nat}{t:Y9}{d:List (List UInt8)}
theorem E8(y:n≠0)(q:∀x dr,x<n->Q x { s with drawn:=dr}):Wz g.M A (choose src n) Q E s:=λj p _=>⟨y,q _ _ (abQ _ (Nat.pos_of_ne_zero y))⟩
theorem k7{q:Type}:∀{xs:List q} {i:Nat} {x:q},xs[i]? = some x->xs.Perm (x::xs.eraseIdx i)
 | [],_,_,h=>ns h
 |y::r,0,x,h=>by cases h;exact .refl _
 |y::r,i+1,x,h=>((k7 (xs:=r) (i:=i) h).cons y).trans (.swap x y _)
theorem A4:∀(n:Nat) (xs:List α) {s:Wj} {Q:List α->Wj->Prop},xs.length=n->(∀ys dr,ys.Perm xs->Q ys { s with drawn:=dr})->Wz g.M A (drawOrder n xs) Q E s:=by
 intro w1
 induction w1 with
 |zero=>
  intro xs s Q l q
  rw[W7 l]at q ⊢
  exact show Wz g.M A (pure []) Q E s from Wg (q [] s.drawn (.refl _))
 |succ n ih=>
  intro w2
  cases w2 with
  |nil=>
   intro s Q l q
   exact nomatch l
  |cons y r=>
   intro s Q l q
   refine V7 (E8 (Nat.succ_ne_zero _) λi dr hi=>?_)
   have e:(y::r)[i]? = some ((y::r)[i]):=Xb hi
   have p:=k7 e
   rw[e]
   refine V7 (ih ((y::r).eraseIdx i) (by rw[ZE hi,l];rfl) λys dr hp=>Wg (q _ dr ((hp.cons _).trans p.symm)))
theorem E9(f:Nat->Nat):∀(n k:Nat) (left:List α) (out:Array α),left.length=n->(pickOrder.go f n k left out).toList.Perm (out.toList++left):=by
 intro zi
 induction zi with
 |zero=>
  intro k left out l
  rw[W7 l,WH];exact .refl _
 |succ n ih=>
  intro k left out l
  have hi:f k%left.length<left.length:=abQ _ (by rw[l];exact Xs n)
  have e:left[f k%left.length]? = some left[f k%left.length]:=Xb hi
  show(match left[f k%left.length]? with|some x=>pickOrder.go f n (k+1) (left.eraseIdx (f k%left.length)) (out.push x)|none=>out).toList.Perm _
  rw[e]
  refine(ih (k+1) _ (out.push left[f k%left.length]) (by rw[ZE hi,l];rfl)).trans ?_
  rw[afp,Wn]
  exact(k7 e).symm.append_left _
inductive HB(g:Gl)(s:Wj)(S:Addr)(d:List (List UInt8))(I:Addr)(s':Wj):Prop
 |mk {rest:List V9} {hp:Heap} {dr:_} (e:s'={s with heap:=hp,drawn:=dr}) (keep:∀b o,s.heap.get? b=some o->hp.get? b=some o) (new:s.heap.objs.size<=I) (J:fp g hp S I rest) (p:(rest.map bv).Perm d) (b:∀x∈rest,∃b t,x=YO b t):HB g s S d I s'
theorem C1(ok:wy g es.toList d)(keep:∀b o,s.heap.get? b=some o->hp.get? b=some o)(new:s.heap.objs.size<=I)(J:fp g hp S I rest)(p:rest.Perm (es.toList.map (·.2))):HB g s S d I { s with heap:=hp,drawn:=dr}:=
 .mk rfl keep new J (by
  have:=p.map bv
  rw[Xy]at this
  rw[←ok.2.1];exact this) λx hx=>by
  obtain⟨e,he,rfl⟩:=WC.mp (p.mem_iff.mp hx)
  obtain⟨k,hk,_⟩:=(ok.1 e he).1
  obtain⟨t,ht⟩:=ae7 hk
  exact⟨_,t,ht⟩
theorem A5:(Xw es.size).map (λp=>(es[p]?.getD default).2)=es.toList.map (·.2):=List.ext_getElem (by rw[Wd,Wd,Y2,Yp]) λi h1 y=>by
 have q:i<es.size:=by rw[Wd,Y2]at h1;exact h1
 rw[List.getElem_map,List.getElem_map,List.getElem_range,getElem?_pos es i q,Array.getElem_toList];rfl
set_option tactic.hygienic true in
theorem HC(hS:eW g s.heap S d)(q:∀I s',HB g s S d I s'->s'.TypeIs (.ref I) "set_iterator" -> Q (.ref I) s'):Wz g.M A (call (.builtin "set.__iter__") [.ref S]) Q E s:=by
 obtain⟨at_,ok,b,f,led,pl⟩:=hS
 rename_i es ep t
 refine YZ F.slot_set_iter ⟨_,at_,rfl⟩ FX.HA ?_ (F.args_set_iter_1 _)
 show Wz _ _ (Frozenset.sizeOf S>>=_) _ _ s
 refine V7 (V7 (V7 (X1 at_ rfl f (Wg (Wg ?_)))))
 refine V7 (V7 (X1 at_ rfl f ?_))
 refine V7 (V7 (Yn (Wg (Wg ?_))))
 refine kZ (λc=>?_) λc=>?_
 ·refine V7 (A4 es.size (Xw es.size) Y2 λys dr hp=>?_)
  refine V7 (aeq ?_ ?_)
  refine V7 (wpAny_setEpoch_of (Wl _ at_) rfl f ?_)
  refine V7 (Yu (Wg ⟨_,rfl,q _ _ (C1 ok (λb o e=>Wl _ (Wl _ e)) ?_ (.drawn (i:=0) (ps:=ys) (Wl _ (Wl _ at_)) f (WG _ rfl) (Wl _ (WG _ rfl)) λp h=>List.mem_range.mp (hp.mem_iff.mp h)) ?_) ⟨_,WG _ rfl,rfl⟩⟩))
  ·rw[aaH];exact Xq _
  ·rw[←A5];exact hp.map _
  ·rw[Wd,hp.length_eq,Y2];exact fits_of_scanBound b
 ·refine Internal.V1 (?_)
  refine Internal.Vv (λ_ q=>wpAny_setEpoch_of at_ rfl f q) ?_
  have up:∀{o},s.heap.get? S=some o->∀{p},(s.heap.push p).get? S=some o:=λe=>Wl _ e
  generalize tx:g.text=zz;cases zz with
  |true=>exact V7 (Yu (Wg ⟨_,rfl,q _ _ (C1 (dr:=s.drawn) ok (λb o e=>Wl _ e) (Wh _) (.text (i:=0) (sl:=0) (up at_) f (WG _ rfl) tx) ((E9 _ _ _ _ _ (Yp ..)).map _)) ⟨_,WG _ rfl,rfl⟩⟩))
  |false=>
   have c1:¬(!g.text&&(!t.plain&&decide (es.size>1)))=true:=c
   rw[tx]at c1 led
   have l1:es.size<=1:=by
    rcases pl with p|p
    ·rw[p];exact Wy _
    ·rw[p]at c1
     exact Xh.mp λh=>c1 (by rw[decide_eq_true h];rfl)
   rcases es with⟨_|⟨e,_|⟨e',r⟩⟩⟩
   ·exact V7 (Yu (Wg ⟨_,rfl,q _ _ (C1 (dr:=s.drawn) ok (λb o e=>Wl _ e) (Wh _) (.none (i:=0) (sl:=0) (up at_) f (WG _ rfl) tx) (.refl _)) ⟨_,WG _ rfl,rfl⟩⟩))
   ·obtain⟨j,hj⟩:=Array.size_eq_one_iff.mp (show t.place.size=1 from eq_of_beq (X5.mp (show(t.place.size==1&&decide (t.fill<=t.mask))=true from f)).1)
    exact V7 (Yu (Wg ⟨_,rfl,q _ _ (C1 (dr:=s.drawn) ok (λb o e=>Wl _ e) (Wh _) (.one (up at_) f hj led (WG _ rfl) tx) (.refl _)) ⟨_,WG _ rfl,rfl⟩⟩))
   ·exact absurd l1 (ae9 _∘X7)
end
end
section
open PySem.Builtin
section
variable{g:Gl}{A:Xd}{E:V9->Wj->Prop}{s s₀:Wj}{S I l N P D:Addr}{x first:V9}{xs rest all:List V9}{h h' h0:Heap}{d:List (List UInt8)}{R:abJ->Wj->Prop}
theorem HD(hh:A.handled=none)(DN:N<=D)(IN:N<=I)(ha:all.length<=5000)(hR:∀h c,Pb N h0 h->h.get? D=some (sq "list" all c)->R (.ok (.ret (.ref D))) { s₀ with heap:=h}) :
 ∀(rest acc:List V9) (c:Nat) (h:Heap),acc++rest=all->fp g h S I rest->h.get? D=some (sq "list" acc c)->Pb N h0 h->D≠I->adp g.M A (.builtin "list.extend.loop" ⟨[.ref D,.ref I,.ref D],[]⟩) R { s₀ with heap:=h}:=by
 intro zi
 induction zi with
 |nil=>
  intro acc c h e J hD o n
  refine YR F.entry_extend_loop ?_
  rw[XI aaT _]
  refine V7 (J.stop (s:={s₀ with heap:=h}) hh rfl λh' he=>Wg (hR h' c (λb x q e=>he b x (WW (WA q IN)) (o b x q e)) ?_))
  rw[←e,WH]
  exact he D _ n hD
 |cons x r ih=>
  intro acc c h e J hD o n
  refine YR F.entry_extend_loop ?_
  rw[XI aaT _]
  refine V7 (J.next (s:={s₀ with heap:=h}) rfl λh1 b1 J1=>?_)
  have hD1:=(b1.2 D n).trans hD
  have hl:acc.length<=5000:=V4 (Wq _ _) (by rw[←e,V6]at ha;exact ha)
  show Wz _ A.in1 (updateSeq D (·.push x)>>=_) _ _ _
  refine V7 (adZ hD1 rfl (Wg ⟨ZC aaT _,?_⟩) (by rw[Wk,WT];exact V4 hl dD) (by rw[adb,Wk,WT];exact Wm (V4 hl dD)))
  have e1:(h1.update D (Xj (·.push x))).get? D=some (sq "list" (acc++[x]) (c+1)):=by
   rw[W9 _ hD1 rfl]
   unfold sq Xj
   simp
  have b2:=X2 h1 D (Xj (·.push x))
  exact ih (acc++[x]) (c+1) _ (by rw[Wn];exact e) (J1.but hD1 b2) e1 (λb y q e=>(b2.2 b (WW (WA q DN))).trans ((b1.2 b (WW (WA q IN))).trans (o b y q e))) n
theorem HE(hT:s.TypeIs (.ref S) "set")(q:Q false s):Wz g.M A (acr (.ref S)) Q E s:=by
 unfold acr
 refine Internal.Vv (λ_ q=>Y6 hT PySem.F.slot_set_len.lookup q) ?_
 generalize hid:("set.__len__" : String)=j
 wp_delta
 rw[show splitId j=some ("set", "__len__")from by subst hid;decide +kernel]
 subst hid
 refine Internal.Vv (λ_ q=>Zm (T:= "set") (b:=true) hT sub_set_self q) ?_
 refine wpAny_ite_split (λy=>absurd y dD) (λ_=>?_)
 refine wpAny_ite_split (λ_=>?_) (λy=>absurd dD y)
 refine Internal.Vv (λ_ q=>adl hT q) ?_
 exact Wg q
end
end
section
open PySem.Builtin
section
variable{g:Gl}{A:Xd}{E:V9->Wj->Prop}{s s₀:Wj}{S I l N P D:Addr}{x first:V9}{xs rest all:List V9}{h h' h0:Heap}{d:List (List UInt8)}{R:abJ->Wj->Prop}
theorem eW.push(y:eW g h S d)(o:Obj):eW g (h.push o) S d:=by
 obtain⟨at_,ok,b,f,q,pl⟩:=y
 exact .mk (Wl _ at_) ok b f q pl
theorem eW.typeIs(q:eW g s.heap S d):s.TypeIs (.ref S) "set" := by
 obtain⟨at_,ok,b,f,y,pl⟩:=q
 exact⟨_,at_,rfl⟩
theorem eW.lt(q:eW g h S d):S<h.objs.size:=by
 obtain⟨at_,ok,b,f,y,pl⟩:=q
 exact WU at_
inductive C2(g:Gl)(s:Wj)(d:List (List UInt8))(all:List V9)(s':Wj):Prop
 |mk {hp:Heap} {dr:Drawn} (e:s'={s with heap:=hp,drawn:=dr}) (old:Pb s.heap.objs.size s.heap hp) (p:(all.map bv).Perm d) (b:∀x∈all,∃b t,x=YO b t):C2 g s d all s'
set_option tactic.hygienic true in
theorem A6(hh:A.handled=none)(hs:s₁={s with heap:=s.heap.push (sq "list" [] 0)})(hS:eW g s.heap S d)(hl:d.length<=5000)
 (q:∀all s' c,C2 g s d all s'->s'.heap.get? s.heap.objs.size=some (sq "list" all c)->R (.ok (.ret (.ref s.heap.objs.size))) s') :
 codeAny g.M A (.builtin "list.__iadd__" ⟨[.ref s.heap.objs.size,.ref S],[]⟩) R s₁:=by
 have hS1:eW g s₁.heap S d:=by rw[hs];exact hS.push _
 refine YR F.entry_list_iadd ?_
 rw[XI F.plain_list_iadd _]
 show Wz _ A.in1 (Builtin.List.listExtendWith (.ref s.heap.objs.size) (.ref S) (.ref s.heap.objs.size)) _ _ s₁
 refine Internal.Vv (λ_ q=>adl hS1.typeIs q) ?_
 rw[if_neg (by
  rw[show Builtin.List.listSameRef (.ref s.heap.objs.size) (.ref S)=false from beq_false_of_ne (YD hS.lt)]
  decide)]
 refine V7 (wpAny_pyIter_slot hS1.typeIs F.slot_set_iter (HC hS1 λI s2 J T=>⟨_,_,T,FX.Gd.lookup,?_⟩))
 obtain⟨e2,keep,new,J,p,b⟩:=J
 rename_i rest hp dr
 have hD:hp.get? s.heap.objs.size=some (sq "list" [] 0):=keep _ _ (by rw[hs];exact WG _ rfl)
 have hT:s2.TypeIs (.ref S) "set" := by
  obtain⟨at_,_⟩:=hS1
  exact⟨_,by rw[e2];exact keep _ _ at_,rfl⟩
 refine V7 (Xk (HE hT ?_))
 show Wz _ A.in1 (rule "list.extend.makes-room" >>= λ_=>Builtin.List.listTouch (.ref s.heap.objs.size)>>=λ_=>
  again (.builtin "list.extend.loop" ⟨[.ref s.heap.objs.size,.ref I,.ref s.heap.objs.size],[]⟩)) _ _ _
 refine V7 (Yt (V7 ?_))
 rw[e2]
 show Wz _ A.in1 (updateSeq s.heap.objs.size (·.push .none)>>=λ_=>updateSeq s.heap.objs.size (·.pop)) _ _ _
 refine Internal.Vv (λ_ q=>adZ hD rfl q) ?_
 have h2:=W9 (Xj (·.push aaO)) hD rfl
 refine adZ h2 rfl ?_
 have h3:=W9 (Xj (·.pop)) h2 rfl
 have b1:=(X2 hp s.heap.objs.size (Xj (·.push aaO))).trans (X2 _ s.heap.objs.size (Xj (·.pop)))
 have new:s.heap.objs.size+1<=I:=by rw[hs]at new;exact V4 (Xp (aaH ..).symm) new
 have keep:Pb s.heap.objs.size s.heap hp:=λb o _ e=>keep b o (by rw[hs];exact Wl _ e)
 have hlr:rest.length<=5000:=by rw[←Wd (f:=bv),p.length_eq];exact hl
 rw[hs]
 refine Wg ⟨ZC aaT _,HD (A:=A) (s₀:={s with drawn:=dr}) (N:=s.heap.objs.size) (h0:=s.heap) hh (Wh _) (X9 new) hlr (λh c o hD=>q rest _ c (.mk rfl o p b) hD) rest [] _ _ rfl (J.but hD b1) h3 (λb o q e=>(b1.2 b (WW q)).trans (keep b o q e)) (WW new)⟩
theorem za(hh:A.handled=none)(hS:eW g s.heap S d)(hl:d.length<=5000)(q:∀all s',C2 g s d all s'->s.heap.objs.size<s'.heap.objs.size->Q all s'):Wz g.M A (collect (.ref S)) Q E s:=by
 unfold collect
 refine V7 (wpAny_runValue (YR F.entry_proto_collect ?_))
 rw[XI F.plain_proto_collect _]
 show Wz _ A.in1 (newList []>>=λl=>adS (.builtin "list.__iadd__" ⟨[l,.ref S],[]⟩)) _ _ s
 refine V7 (Ze (Wg ⟨ZC F.plain_list_iadd _,?_⟩))
 refine A6 (A:=A) hh rfl hS hl λall s' c T hD=>?_
 exact V7 (aaC hD (Wg (q all s' T (WU hD))))
set_option tactic.hygienic true in
theorem A7(G:A.handled=none)(H:eW g s.heap S d)(i:d.length<64)
 (q:∀B D ys c,C2 g s d ys B->s.heap.objs.size<=D->B.heap.get? D=some (sq "list" ys c)->(ys.map bv).Pairwise wk->Q (.ref D) B):Wz g.M A (call (.builtin "sorted") [.ref S]) Q E s:=by
 refine adE kind_sorted plain_sorted entry_sorted (args_sorted1 _) ?_
 refine V7 (m:=checkCount "sorted" 1 1 _) (Wg ?_)
 refine V7 (za (A:=A.in1) G H (V4 (Xo i) dD) λall s1 T lt=>?_)
 obtain⟨rfl,o,p,b⟩:=T
 rename_i hp dr
 have lt:s.heap.objs.size<hp.objs.size:=lt
 have X:all.length<64:=by rw[←Wd (f:=bv),p.length_eq];exact i
 refine V7 (Ze ?_ (by rw[WT];exact V4 (Xo X) dD))
 have j:AllB all:=λx hx=>(b x hx).elim λa z=>z.elim λt z=>⟨a.toList,z▸rfl⟩
 have k:(hp.push (sq "list" all 0)).get? hp.objs.size=some (sq "list" all 0):=WG _ rfl
 refine V7 (Xk (YZ aeH ⟨_,k,rfl⟩ entry_list_sort (list_sort_treeK Hm k (Nt j) (λJ U rest e=>A0 (e▸j)) X λst' a1 a2=>⟨_,rfl,?_⟩) (args_list_sort _)))
 have w:=yY a1 a2
 generalize (abB st').map (·.2)=out at *
 refine Wo λno=>?_
 obtain⟨n,u⟩:=sortedHeap_at (out:=out) k
 refine no ?_
 rw[←aeO (xs:=out)]at u
 refine Wg ⟨_,rfl,q _ hp.objs.size out.toList n (.mk (dr:=dr) rfl (λb' o' hb Z=>?_) ((w.1.map bv).trans p) λy Y=>b y (w.1.mem_iff.mp Y)) (Xo lt) u w.2⟩
 have L:=Xz hb lt
 exact(sortedHeap_old (WW L) (by rw[aaH];exact Nat.lt_succ_of_lt L)).trans (Wl _ (o b' o' hb Z))
end
end
section
open PySem.Builtin
section
variable{g:Gl}{cx:Cx}{tmp:List V}{vals:List V9}{st:St}{s:Wj}{A:Xd}{x y z:V9}{v:V}{F:FZ}{E:V9->Wj->Prop}{Q:V->St->Prop}{X:St->Prop}{W:PT}{pos np p2 yp:Pos}{arg e:Expr}{xs ys:List V9}{hp:Heap}{tk:Nat}{dr:Drawn}{d:List (List UInt8)}
theorem aI.moved(R:aI g cx tmp vals st s)(hk:∀b o,s.heap.get? b=some o->hp.get? b=some o):aI g cx tmp vals st { s with heap:=hp,toks:=tk,drawn:=dr}:=
 have R':=R.keeps (tk:=tk) hk
 {ok:=R'.ok,base:=R'.base,gens:=R'.gens,os:=R'.os,known:=R'.known,rsv:=R'.rsv,frs:=R'.frs,keep:=R'.keep,outer:=R'.outer,cl:=R'.cl,loc:=R'.loc,wait:=R'.wait,tmp:=R'.tmp}
theorem Lr(B:tT g F xs)(m:∀y∈ys,bv y∈xs.map bv)(b:∀y∈ys,∃b t,y=YO b t):tT g F ys:=λy j=>by
 obtain⟨c,t,e⟩:=b y j
 obtain⟨x,hx,q⟩:=WC.mp (m y j)
 obtain⟨i,p,u,w⟩:=B x hx
 refine⟨c,t,e,?_⟩
 rw[u,e]at q
 have q:i.toList=c.toList:=q
 rw[e]
 exact V8 (q▸Zt w) ⟨t,rfl⟩
set_option tactic.hygienic true in
theorem A8(hh:A.handled=none)(R:aI g cx tmp vals st s)(B:xs.map bv=bs∧tT g (cx.F st s) xs)(ho:s.heap.get? a=some (sq "list" xs m))(h64:bs.length<64)
 (q:∀l:List (List UInt8),l.Nodup->(∀x,x∈l↔x∈bs)->l.Pairwise wk->Q (.lst (l.map .bytes)) st) (T:Pc g s xs s2) :
 g.B.StaysIn s2.heap∧wq g A (call (.builtin "sorted") [.ref s.heap.objs.size]) (Up g cx tmp vals Q) E s2:=by
 obtain⟨h,tk,d,rfl,o,S,mm,le⟩:=T
 have k1:∀b o',s.heap.get? b=some o'->h.get? b=some o':=λb o' e=>o b o' (WU e) e
 refine⟨(R.keeps (tk:=tk) k1).base,aF (A7 hh S (Wp le (by rw[←Wd (f:=bv),B.1];exact h64)) λs3 D ys c T hD hD2 pw=>?_)⟩
 obtain⟨rfl,o2,p,b⟩:=T
 rename_i hp dr
 have hlt:s.heap.objs.size<h.objs.size:=S.lt
 have k2:∀b o',s.heap.get? b=some o'->hp.get? b=some o':=λb o' e=>o2 b o' (Xz (WU e) hlt) (k1 b o' e)
 have nd:d.Nodup:=by obtain⟨_,ok,_⟩:=S;exact ok.2.2
 have B2:tT g (cx.F st s) ys:=Lr B.2 (λy hy=>(mm _).mp (p.mem_iff.mp (XY hy))) b
 have hl:ys.length<=1000000:=by rw[←Wd (f:=bv),p.length_eq];exact V4 le (by rw[←Wd (f:=bv),B.1];exact V4 (Xo h64) dD)
 exact .mk ((R.moved k2).push (v:=.lst ((ys.map bv).map .bytes)) (show bQ _ _ _ _ from .mk rfl (R.new k2 (V4 (Xo hlt) hD) hD2 (c7 rfl rfl)) hl ((Nr B2).mono λb o z=>⟨k2 _ _ z.1,z.2⟩))) (q _ (p.nodup_iff.mpr nd) (λy=>by rw[p.mem_iff,mm y,B.1]) pw)
theorem C3(h:wq g A t (λv j=>i [v] j) E s):wq g A (abw [(false,t)]) i E s:=by
 rw[abw]
 exact b0 h λv j q=>aq (ax (aq (ay (ax (ax q)))))
theorem Fb{x y:Str}(S:bE g cx (.Name x np) (af (.raw (.builtin "sorted"))))(D:Keeps g (.builtin "sorted"))(J:bE g cx (.Name y yp) (af (.raw (.type "set"))))(c:Keeps g (.type "set"))(ha:bE g cx arg W)(hp:a4 arg=true) :
 bE g cx (.Call (.Name x np) [.Call (.Name y yp) [arg] [] p2] [] pos) (de W):=λ{A s tmp vals st Q X} oa R w=>
 TE.then_ (Q:=λv st'=>v=.raw (.builtin "sorted")∧de W Q X st') S oa R ⟨rfl,w⟩ λv z st s p q=>by
  obtain⟨rfl,q⟩:=q
  obtain rfl:z=.builtin "sorted" := p.tmp.1
  refine bO D rfl (C3 (show wq _ _ (do aeA p2 (←eval (.Name y yp) cx.env) [] (Zf p2 (X0 [arg] cx.env)) (backToKw p2 (adR [] cx.env))) _ _ _ from ?_))
  refine TE.then_ (Q:=λv st'=>v=.raw (.type "set")∧de W Q X st') J oa p.pop ⟨rfl,q⟩ λv z st s k q=>?_
  obtain⟨rfl,q⟩:=q
  obtain rfl:z=.type "set" := k.tmp.1
  refine bO c (by rw[wx hp];rfl) ?_
  rw[wx hp]
  refine C3 (aV (ha oa k.pop q) λz s u=>u.elim' λv st i q=>⟨i.base,?_⟩)
  obtain⟨vs,e,q⟩:=eS q
  obtain⟨G,hb,j,q⟩:=aT q
  have hx:=i.rsd i.tmp.1
  rw[e]at hx
  refine aI.seq hx λa xs m ex o Z U L=>?_
  subst ex
  have B:=Nq L hb
  exact aF (E6 oa.handled (λx hx=>(B.2 x hx).elim λb z=>z.elim λt z=>⟨b,t,z.1⟩) (by rw[←Wd (f:=bv),B.1];exact j) o λY T=>A8 oa.handled i.pop B o j q T)
end
end
inductive FK where
 |fn (v:V9)
 |bw (v:V9) (w:BW)
 |range
 |sort
 |set
structure Gm where
 n:Nat
 exc:Str
 tops:List (Str×V)
 fns:List (Str×FK)
 attr:List (Str×Ix)
 meth:List (Str×MT)
structure Sc where
 S:Za
 names:List Str
 fn:Bool
 grow:List Str
structure Rc where
 e:Sc->Expr->PT
 b:Sc->Expr->PT
 i:Sc->Expr->PT
 t:Sc->Expr->gG
 ss:Sc->List Stmt->PT
noncomputable def cG(a b:Str):Bool:=a.cps.toList==b.cps.toList
noncomputable def iQ{d:Type}(l:List (Str×d))(x:Str):Option d:=(l.find? λp=>cG p.1 x).map (·.2)
noncomputable def place(l:List Str)(x:Str):Option Nat:=l.findIdx? λy=>cG y x
noncomputable def cu(w:PT):PT:=λQ X st=>w (λv st=>Gs v λb=>Q (.bool b) st) X st
noncomputable def a7(own:Nat)(is:List Nat)(W:List V->List V->(List V->St->Prop)->St->Prop)(y:PT):PT:=λQ X st=>y (λvs d=>iE vs λvs=>W vs [] (λq st'=>Q (.lst q) ⟨d.loc,st'.h⟩) ⟨WZ own none++eI is d.loc,d.h⟩) X st
noncomputable def hV(y:gG)(j q:PT):List V->List V->(List V->St->Prop)->St->Prop:=λvs d Q st=>d.length+vs.length<=1000000∧iF y j q vs d Q st
noncomputable def TM:=(ak,av,dn,p8,r6,a7,hV,fU,cL,fV,bN,vQ,da,bZ,KA,dq,fW,cu,de,eV)
noncomputable def gd(c:Bool)(w:PT):PT:=Y4 (motive:=λ_=>PT) c (abD _ cJ TM) w
noncomputable def badT:gG:=λ_ _ _=>False
noncomputable def gt(c:Bool)(w:gG):gG:=Y4 (motive:=λ_=>gG) c (abD _ badT TM) w
noncomputable def og{d:Type}(o:Option d)(w:d->PT):PT:=WY (motive:=λ_=>PT) o (abD _ cJ TM) w
noncomputable def ot{d:Type}(o:Option d)(w:d->gG):gG:=WY (motive:=λ_=>gG) o (abD _ badT TM) w
noncomputable def pureOf(t:Sem d):Option d:=match t with
 | .pure a=>some a
 |_=>none
noncomputable def kindIs(S:Za)(x:Str)(k:Zn):Bool:=match iQ S.names x with
 |some j=>j==k
 |none=>false
noncomputable def jm(sc:Sc)(x:Str):Bool:=kindIs sc.S x .local||(sc.fn&&kindIs sc.S x .cell)
noncomputable def hZ:Str:=⟨#[95,95,100,101,98,117,103,95,95]⟩
noncomputable def HF:Str:=⟨#[95,95,99,108,97,115,115,100,105,99,116,95,95]⟩
noncomputable def HH(G:Gm)(sc:Sc)(x:Str):PT:=match place sc.names x with
 |some i=>gd (!cG x hZ&&!cG x HF) (ae i)
 |none=>gd (kindIs sc.S x .globalImplicit) (og (iQ G.tops x) af)
noncomputable def Pd(b:Bool)(v:V):Option V:=Y4 (motive:=λ_=>Option V) b none (some v)
noncomputable def wA(c:Const):Option V:=match c with
 | .int i=>some (.int i)
 | .none=>some .none
 | .bool b=>some (.bool b)
 | .str u=>Pd (decide (u.cps.toList.length<=16777216)) (.str u.cps.toList)
 | .bytes u=>Pd (decide (u.length<=16777216)) (.bytes u)
 |_=>none
noncomputable def A9(e:Expr):Option V:=match e with
 | .Constant c _ _=>wA c
 |_=>none
noncomputable def iJ(w:Expr->PT)(d:List Expr):PT:=d.foldr (λe r=>aa (w e) r) ag
noncomputable def Ba(o:Expr):Bool:=match o with
 | .Call _ args _ _=>!args.isEmpty
 |_=>true
noncomputable def k8(e:Expr):Bool:=match e with
 | .Set _ _ _=>false
 |_=>true
noncomputable def jn:List Str->Bool
 | []=>true
 |x::l=>!l.any (cG x)&&jn l
noncomputable def C4(S scope:Za)(names:List Str):Bool:=
 (rm .free scope.names).all (λx=>(place names x).isSome&&kindIs S x .cell)&&jn (bM scope)&&jn (scope.names.map (·.1))&&scope.kind==.function&&scope.names.all λy=>!(y.2==.cell)
noncomputable def bf(sc:Sc)(scope:Za):Sc:=⟨eU sc.S scope,bM scope,false,[]⟩
noncomputable def Pe(w:Expr->PT)(d:List Expr):PT:=match d with
 | []=>j0
 |c::r=>gd r.isEmpty (w c)
noncomputable def TN(r:Rc)(sc:Sc)(d:Expr)(gens:List abK)(scope:Za):PT:=gd (sc.fn&&C4 sc.S scope sc.names) (match gens with
 | []=>cJ
 |c0::rest=>gd (c0.is_async==0&&k8 c0.iter) (match rest with
  | []=>a7 (rm .local scope.names).length ((rm .free scope.names).filterMap (place sc.names)) (hV (r.t (bf sc scope) c0.target) (Pe (r.b (bf sc scope)) c0.ifs) (r.e (bf sc scope) d)) (r.i sc c0.iter)
  |c1::more=>gd (c1.is_async==0&&k8 c1.iter&&more.isEmpty&&c0.ifs.isEmpty&&c1.ifs.isEmpty)
   (a7 (rm .local scope.names).length ((rm .free scope.names).filterMap (place sc.names)) (fU (r.t (bf sc scope) c0.target) (r.t (bf sc scope) c1.target) (r.i (bf sc scope) c1.iter) (r.e (bf sc scope) d)) (r.i sc c0.iter))))
noncomputable def Pf(w:Expr->PT)(o:Option Expr):PT:=match o with
 |some e=>w e
 |none=>af .none
noncomputable def Nu(c:Const):Bool:=match c with
 | .int i=>i==1
 |_=>false
noncomputable def Sg(e:Expr):Bool:=match e with
 | .Constant c _ _=>Nu c
 |_=>false
noncomputable def Sh(e:Expr):Bool:=match e with
 | .UnaryOp op a _=>op==.USub&&Sg a
 |_=>false
noncomputable def HI(r:Rc)(sc:Sc)(v:Expr)(lo d step:Option Expr):PT:=match step with
 |none=>bb (r.e sc v) (Pf (r.e sc) lo) (Pf (r.e sc) d)
 |some k=>gd (Sh k&&lo.isNone&&d.isNone) (Kz (r.e sc v))
noncomputable def Si(r:Rc)(sc:Sc)(v s:Expr):PT:=match s with
 | .Slice lo d step _=>HI r sc v lo d step
 |s=>aQ (r.e sc v) (r.e sc s)
noncomputable def Nv(op:BoolOp):PT->PT->PT:=match op with
 | .And=>di
 | .Or=>cF
noncomputable def U9(g:Gl)(n:Nat)(k:FK)(d:PT):PT:=match k with
 | .fn v=>ak g n v d
 | .bw _ w=>dn w d
 | .sort=>dn (b1 hU) d
 |_=>cJ
noncomputable def wB(k:FK):Bool:=match k with
 | .sort=>true
 |_=>false
noncomputable def HJ(k:FK):Bool:=match k with
 | .set=>true
 |_=>false
noncomputable def Nw(k:FK):Option Addr:=match k with
 | .fn (.ref a)=>some a
 |_=>none
noncomputable def wC(e:Expr):Option Str:=match e with
 | .Name x _=>some x
 |_=>none
noncomputable def vg(l:List d):Option d:=match l with
 | [a]=>some a
 |_=>none
noncomputable def setArg(e:Expr):Option (Expr×Expr):=match e with
 | .Call f args d _=>WY (motive:=λ_=>Option (Expr×Expr)) (vg args) none λa=>Y4 (motive:=λ_=>Option (Expr×Expr)) d.isEmpty none (some (f,a))
 |_=>none
noncomputable def Sj{d:Type}(o:Option d)(w:PT)(f:d->PT):PT:=WY (motive:=λ_=>PT) o w f
noncomputable def Nx(G:Gm)(r:Rc)(sc:Sc)(k:FK)(args:List Expr)(w:PT):PT:=Sj (vg args) w λe=>Sj (setArg e) w λq=>Sj (wC q.1) w λy=>Sj (iQ G.fns y) w λd=>Y4 (motive:=λ_=>PT) (wB k&&HJ d) w (gd (a4 q.2&&kindIs sc.S y .globalImplicit) (de (r.e sc q.2)))
noncomputable def Ny(g:Gl)(G:Gm)(r:Rc)(sc:Sc)(f:Expr)(args:List Expr)(pos:Pos):PT:=match f with
 | .Name x _=>og (iQ G.fns x) λk=>gd (args.all a4&&kindIs sc.S x .globalImplicit) (Nx G r sc k args (U9 g G.n k (iJ (r.e sc) args)))
 | .Attribute o name d=>og (iQ G.meth name) λm=>gd (args.all a4&&Ba o&&decide (args.length<30)&&d.endLine==pos.line) (av g G.n m (r.e sc o) (iJ (r.e sc) args))
 |_=>cJ
noncomputable def HK:Str:=V3 "key"
noncomputable def HM(g:Gl)(G:Gm)(r:Rc)(sc:Sc)(f:Expr)(args:List Expr)(d:aed):PT:=og d.arg λk=>og (wC f) λx=>og (wC d.value) λy=>og (vg args) λa=>og (iQ G.fns x) λi=>og (iQ G.fns y) λq=>og (Nw q) λj=>
 gd (cG k HK&&wB i&&a4 a&&kindIs sc.S x .globalImplicit&&kindIs sc.S y .globalImplicit) (eV g G.n (.ref j) (iJ (r.e sc) [a]))
noncomputable def Sk(g:Gl)(G:Gm)(r:Rc)(sc:Sc)(f:Expr)(args:List Expr)(pos:Pos)(d:List aed):PT:=match d with
 | []=>Ny g G r sc f args pos
 |kw::l=>gd l.isEmpty (HM g G r sc f args kw)
noncomputable def Uo(w:Expr->PT)(k:Option Expr)(v:Expr)(r:PT):PT:=match k with
 |some k=>aa (w k) (aa (w v) r)
 |none=>cJ
noncomputable def HN(w:Expr->PT):List (Option Expr)->List Expr->PT
 |k::ks,v::vs=>Uo w k v (HN w ks vs)
 |_,_=>ag
noncomputable def Uq(v:V):DK:=match v with
 | .str _=>.s
 | .int _=>.i
 |_=>.b
noncomputable def Sl(k:Option Expr):DK:=match k with
 |some e=>Uq ((A9 e).getD .none)
 |none=>.b
noncomputable def Nz(w:Expr->PT)(ks:List (Option Expr))(vs:List Expr):PT:=match ks with
 | []=>gd vs.isEmpty (r6 .b)
 |k::r=>gd ((k::r).all (·.isSome)&&(k::r).length==vs.length&&decide ((k::r).length<=15)) (p8 (Sl k) (HN w (k::r) vs))
noncomputable def NA(g:Gl)(G:Gm)(r:Rc)(sc:Sc)(e:Expr):PT:=match e with
 | .Constant c _ _=>og (wA c) af
 | .Name x _=>HH G sc x
 | .BinOp a op b _=>ao op (r.e sc a) (r.e sc b)
 | .UnaryOp op a _=>(match op with
  | .Not=>gw (r.e sc a)
  | .USub=>Gy (r.e sc a)
  |_=>cJ)
 | .BoolOp op d _=>(match d with
  | [a,b]=>Nv op (r.e sc a) (r.e sc b)
  |_=>cJ)
 | .Compare a j d _=>(match j,d with
  | [op],[b]=>gd (!abI op b) (aC op (r.e sc a) (r.e sc b))
  |_,_=>cJ)
 | .IfExp t a b _=>bA (r.b sc t) (r.e sc a) (r.e sc b)
 | .Attribute o name _=>gd (Ba o) (og (iQ G.attr name) λi=>aS (r.e sc o) i)
 | .Subscript v s _=>Si r sc v s
 | .Tuple d _ _=>gd (d.all a4) (c8 (iJ (r.e sc) d))
 | .List d _=>gd (d.all a4) (bp (iJ (r.e sc) d))
 | .ListComp q gens scope _=>TN r sc q gens scope
 | .Call f args y pos=>Sk g G r sc f args pos y
 | .Dict ks vs _=>Nz (r.e sc) ks vs
 |_=>cJ
noncomputable def Sm(op:BoolOp)(w:Expr->PT)(d:List Expr):PT:=d.foldr (λe r=>Nv op (w e) r) (af (.bool (op==.And)))
noncomputable def NB(r:Rc)(sc:Sc)(e:Expr):PT:=match e with
 | .UnaryOp .Not a _=>gw (r.b sc a)
 | .BoolOp op d _=>Sm op (r.b sc) d
 | .Compare a q d _=>(match q,d with
  | [op],[b]=>gd (!abI op b) (aC op (r.e sc a) (r.e sc b))
  | [o1,o2],[b1,b2]=>gd (!lastMarks [o1,o2] [b1,b2]) (rO o1 o2 (r.e sc a) (r.e sc b1) (r.e sc b2))
  |_,_=>cJ)
 | .IfExp t a b _=>bA (r.b sc t) (r.b sc a) (r.b sc b)
 |e=>cu (r.e sc e)
noncomputable def Pg(k:FK)(w v:PT):PT:=match k with
 | .range=>v
 |_=>w
noncomputable def HO(o:Option FK)(w v:PT):PT:=WY (motive:=λ_=>PT) o w λk=>Pg k w v
noncomputable def HP(G:Gm)(r:Rc)(sc:Sc)(f:Expr)(args:List Expr)(d:List aed)(w:PT):PT:=match f with
 | .Name x _=>HO (iQ G.fns x) w (gd (args.all a4&&kindIs sc.S x .globalImplicit&&d.isEmpty) (da (iJ (r.e sc) args)))
 |_=>w
noncomputable def stepI(G:Gm)(r:Rc)(sc:Sc)(e:Expr):PT:=match e with
 | .Call f args d _=>HP G r sc f args d (a6 (r.e sc e))
 |e=>a6 (r.e sc e)
noncomputable def stepT(G:Gm)(r:Rc)(sc:Sc)(e:Expr):gG:=match e with
 | .Name x _=>ot (place sc.names x) λi=>gt (jm sc x) (aj i)
 | .Subscript o i _=>fV (r.e sc o) (r.e sc i)
 | .Attribute o name _=>ot (iQ G.attr name) λq=>bN (r.e sc o) q
 | .Tuple d _ _=>gt (d.all a4) (cL d.length (d.map (r.t sc)))
 |_=>badT
noncomputable def NC(sc:Sc)(d:Expr):Bool:=match d with
 | .Name x _=>(place sc.grow x).isSome
 |_=>false
noncomputable def HQ(r:Rc)(sc:Sc)(q e:Expr):PT:=match e with
 | .List d _=>Y4 (motive:=λ_=>PT) (NC sc q) (r.e sc e) (gd (d.all a4) (gx (iJ (r.e sc) d)))
 |e=>r.e sc e
noncomputable def HR(r:Rc)(sc:Sc):List Expr->List Expr->PT
 |t::q,e::d=>aa (HQ r sc t e) (HR r sc q d)
 | [],[]=>ag
 |_,_=>cJ
noncomputable def HS(r:Rc)(sc:Sc)(d e:Expr)(xs:List Str):PT:=match d,e with
 | .Tuple ts _ _,.Tuple es _ _=>gd (es.all a4&&xs.all λx=>jm sc x&&(place sc.names x).isSome) (bZ (xs.reverse.filterMap (place sc.names)) (HR r sc ts es))
 |_,_=>cJ
noncomputable def Ph(r:Rc)(sc:Sc)(d e:Expr):PT:=match d,e with
 | .Name x _,.ListComp elt gens scope _=>og (place sc.names x) λi=>gd (jm sc x) (aD (aj i) (TN r sc elt gens scope))
 |_,_=>cJ
noncomputable def Sn(r:Rc)(sc:Sc)(d e:Expr)(pos:Pos):PT:=og (pureOf (ZT e (some d) pos.line (qh sc.S))) λb=>Y4 (motive:=λ_=>PT) b
 (og (pureOf (ZA [d] e (qh sc.S))) λo=>match o with
  |none=>gd (a4 d) (aD (r.t sc d) (HQ r sc d e))
  |some xs=>HS r sc d e xs)
 (Ph r sc d e)
noncomputable def HT(G:Gm)(r:Rc)(sc:Sc)(e:Expr):PT:=match e with
 | .Call f args d _=>(match f,args with
  | .Name x _,[a]=>gd (cG x G.exc&&d.isEmpty&&a4 a&&kindIs sc.S x .globalImplicit) (bj (r.e sc a))
  |_,_=>cJ)
 |_=>cJ
noncomputable def HU(G:Gm)(sc:Sc)(w:PT)(d t e:Expr):PT:=match d,t with
 | .Name x _,.Name y _=>gd (cG x G.exc&&kindIs sc.S x .globalImplicit&&jm sc y) (og (place sc.names y) λi=>og (A9 e) λv=>vQ w i v)
 |_,_=>cJ
noncomputable def HV(G:Gm)(sc:Sc)(w:PT)(d:Expr)(s:Stmt):PT:=match s with
 | .Assign q e _=>(match q with
  | [t]=>HU G sc w d t e
  |_=>cJ)
 |_=>cJ
noncomputable def ND(G:Gm)(sc:Sc)(w:PT)(h:ExceptHandler):PT:=match h with
 | .ExceptHandler (some ty) none [s] _=>HV G sc w ty s
 |_=>cJ
noncomputable def So(G:Gm)(r:Rc)(sc:Sc)(d e:Expr):PT:=match d with
 | .Attribute o name _=>og (iQ G.attr name) λq=>KA (r.e sc o) q (r.e sc e)
 |_=>cJ
noncomputable def NG(G:Gm)(r:Rc)(sc:Sc)(s:Stmt):PT:=match s with
 | .Return e _=>og e λe=>aN (r.e sc e)
 | .Pass _=>ai
 | .Expr e pos=>og (pureOf (ZT e none pos.line (qh sc.S))) λb=>gd (!b) (fX (r.e sc e))
 | .If t b o _=>bA (r.b sc t) (r.ss sc b) (r.ss sc o)
 | .For t q body o _=>gd (o.isEmpty&&k8 q) (dq (r.t sc t) (r.i sc q) (r.ss sc body))
 | .While t body o _=>gd o.isEmpty (fW (r.b sc t) (r.ss sc body))
 | .Assign y e pos=>(match y with
  | [d]=>Sn r sc d e pos
  |_=>cJ)
 | .AugAssign d op e _=>gd (op==.Add) (So G r sc d e)
 | .Raise e c _=>gd c.isNone (og e λe=>HT G r sc e)
 | .Try body hs o f _=>gd (o.isEmpty&&f.isEmpty) (match hs with
  | [h]=>ND G sc (r.ss sc body) h
  |_=>cJ)
 |_=>cJ
noncomputable def HW(G:Gm)(r:Rc)(sc:Sc)(ss:List Stmt):PT:=gd sc.fn (ss.foldr (λs w=>ah (NG G r sc s) w) ai)
noncomputable def rc(g:Gl)(G:Gm):Nat->Rc
 |0=>⟨λ_ _=>cJ,λ_ _=>cJ,λ_ _=>cJ,λ_ _=>badT,λ_ _=>cJ⟩
 |n+1=>⟨NA g G (rc g G n),NB (rc g G n),stepI G (rc g G n),stepT G (rc g G n),HW G (rc g G n)⟩
def k9(g:Gl)(x:Str)(v:V):Prop:=∀{cx:Cx} {pos:Pos},cx.env.kindOf x=some .globalImplicit->bE g cx (.Name x pos) (af v)
inductive mu(g:Gl)(x:Str):FK->Prop
 |fn {v:V9} (h:k9 g x (.raw v)) (k:Keeps g v):mu g x (.fn v)
 |bw {v:V9} {w:BW} (h:k9 g x (.raw v)) (k:Keeps g v) (b:fF g v w):mu g x (.bw v w)
 |range (h:k9 g x (.raw (.type "range"))):mu g x .range
 |sort (h:k9 g x (.raw (.builtin "sorted"))) (k:Keeps g (.builtin "sorted")):mu g x .sort
 |set (h:k9 g x (.raw (.type "set"))) (k:Keeps g (.type "set")):mu g x .set
structure e8(g:Gl)(K:Frag)(G:Gm):Prop where
 top:Top g K
 bad:∃bm fI fd me told,yF g K bm fI fd me told
 excN:k9 g G.exc (.raw (.ref cp))
 excK:nsIn K Xv G.exc=some (some (.ref cp))
 excD:cG G.exc hZ=false
 tops:∀x v,iQ G.tops x=some v->k9 g x v
 fns:∀x k,iQ G.fns x=some k->mu g x k
 attr:∀name ix,iQ G.attr name=some ix->∀c i,ix.lookup c=some i->(g.names c)[i]? = some name
 meth:∀name m,iQ G.meth name=some m->TC g K name m
structure fY(g:Gl)(n:Nat)(r:Rc):Prop where
 e:∀{sc:Sc} {cx:Cx} (x:Expr),c6 cx sc.S sc.names n sc.fn->bE g cx x (r.e sc x)
 b:∀{sc:Sc} {cx:Cx} (x:Expr),c6 cx sc.S sc.names n sc.fn->uT g cx x (r.b sc x)
 i:∀{sc:Sc} {cx:Cx} (x:Expr),c6 cx sc.S sc.names n sc.fn->TI g cx (eval x cx.env) (r.i sc x)
 t:∀{sc:Sc} {cx:Cx} (x:Expr),c6 cx sc.S sc.names n sc.fn->TT g cx (Y1 x cx.env) (r.t sc x)
 ss:∀{sc:Sc} {cx:Cx} (x:List Stmt),c6 cx sc.S sc.names n sc.fn->Ax g cx x (r.ss sc x)
section
variable{g:Gl}{cx:Cx}{K:Frag}{G:Gm}{r:Rc}{sc:Sc}{x y:Str}{e:Expr}{es ts:List Expr}{pos p:Pos}{W W1 W2:PT}{a:V9}{c:Bool}{w:PT}{n:Nat}{S:Za}
theorem NH{P:PT->Prop}(hb:P cJ)(h:c=true->P w):P (gd c w):=by
 cases c with
 |false=>exact hb
 |true=>exact h rfl
theorem VA{P:gG->Prop}{w:gG}(hb:P badT)(h:c=true->P w):P (gt c w):=by
 cases c with
 |false=>exact hb
 |true=>exact h rfl
theorem Va{d:Type}{P:PT->Prop}{o:Option d}{w:d->PT}(hb:P cJ)(h:∀a,o=some a->P (w a)):P (og o w):=by
 cases o with
 |none=>exact hb
 |some a=>exact h a rfl
theorem VB{d:Type}{P:gG->Prop}{o:Option d}{w:d->gG}(hb:P badT)(h:∀a,o=some a->P (w a)):P (ot o w):=by
 cases o with
 |none=>exact hb
 |some a=>exact h a rfl
theorem jo:TE g cx t cJ:=λ_ _ w=>Ws w
theorem wD:TB g cx t cJ:=λ_ _ w=>Ws w
theorem Pj:TL g cx t cJ:=λ_ _ w=>Ws w
theorem eL:TS g cx t cJ:=λ_ _ w=>Ws w
theorem Sp:TI g cx t cJ:=λ_ _ w=>Ws w
theorem C5:TT g cx t badT:=λ_ _ w=>Ws w
theorem Ur:TP g cx t cJ:=λ_ _ w=>Ws w
theorem eG{t:Sem V9}(h:c=true->TE g cx t w):TE g cx t (gd c w):=NH (P:=λw=>TE g cx t w) jo h
theorem lG{t:Sem (List V9)}(h:c=true->TL g cx t w):TL g cx t (gd c w):=NH (P:=λw=>TL g cx t w) Pj h
theorem bG{t:Sem Bool}(h:c=true->TB g cx t w):TB g cx t (gd c w):=NH (P:=λw=>TB g cx t w) wD h
theorem sG{t:Sem Flow}(h:c=true->TS g cx t w):TS g cx t (gd c w):=NH (P:=λw=>TS g cx t w) eL h
theorem iG{t:Sem V9}(h:c=true->TI g cx t w):TI g cx t (gd c w):=NH (P:=λw=>TI g cx t w) Sp h
theorem tG{t:V9->Sem Unit}{w:gG}(h:c=true->TT g cx t w):TT g cx t (gt c w):=VA (P:=λw=>TT g cx t w) C5 h
theorem eO{d:Type}{o:Option d}{w:d->PT}{t:Sem V9}(h:∀a,o=some a->TE g cx t (w a)):TE g cx t (og o w):=Va (P:=λw=>TE g cx t w) jo h
theorem sO{d:Type}{o:Option d}{w:d->PT}{t:Sem Flow}(h:∀a,o=some a->TS g cx t (w a)):TS g cx t (og o w):=Va (P:=λw=>TS g cx t w) eL h
theorem tO{d:Type}{o:Option d}{w:d->gG}{t:V9->Sem Unit}(h:∀a,o=some a->TT g cx t (w a)):TT g cx t (ot o w):=VB (P:=λw=>TT g cx t w) C5 h
theorem aJ{a b:Bool}(h:(a&&b)=true):a=true∧b=true:=by simpa using h
theorem cw{a:Bool}(h:(!a)=true):a=false:=by simpa using h
theorem b6{a b:Str}:cG a b=true↔a=b:=by
 unfold cG
 rw[beq_iff_eq]
 cases a;cases b
 constructor
 ·intro h;exact congrArg Str.mk (Array.toList_inj.mp h)
 ·intro h;cases h;rfl
theorem mv{a b:Str}(h:cG a b=false):(a==b)=false:=oq λe=>by rw[b6.mpr e]at h;cases h
theorem rt{d:Type}(l:List (Str×d))(x:Str):iQ l x=l.lookup x:=by
 unfold iQ
 induction l with
 |nil=>rfl
 |cons p l q=>
  rw[Zr,ac2]
  generalize h:cG p.1 x=j;cases j with
  |true=>rw[b6.mp h];simp
  |false=>
   have:(x==p.1)=false:=oq λe=>by rw[e,b6.mpr rfl]at h;cases h
   rw[this];exact q
theorem dK{l:List Str}{i:Nat}(h:place l x=some i):l[i]? = some x:=by
 obtain⟨d,q,_⟩:=acI.mp h
 rw[Xb d,b6.mp q]
theorem fZ(h:kindIs S x k=true):S.names.lookup x=some k:=by
 unfold kindIs at h
 rw[rt]at h
 generalize e:S.names.lookup x=d;cases d with
 |none=>rw[e]at h;cases h
 |some j=>rw[e]at h;rw[eq_of_beq h]
theorem c6.kind{fn:Bool}{names:List Str}(c:c6 cx S names n fn){k:Zn}(h:kindIs S x k=true):cx.env.kindOf x=some k:=by
 have:=fZ h
 unfold Env.kindOf
 rw[c.kinds];exact this
theorem c6.store(c:c6 cx sc.S sc.names n sc.fn)(h:jm sc x=true):jP cx x:=by
 unfold jm at h
 rcases afe.mp h with h|h
 ·exact .inl (c.kind h)
 ·obtain⟨h1,d⟩:=aJ h
  exact .inr ⟨c.wr h1,c.kind d,c.cell h1 x (fZ d)⟩
theorem sd:hZ=("__debug__" : Str):=dD
theorem HX:HF=("__classdict__" : Str):=dD
theorem HY(H:e8 g K G)(c:c6 cx sc.S sc.names G.n sc.fn):bE g cx (.Name x p) (HH G sc x):=by
 unfold HH
 generalize h:place sc.names x=j;cases j with
 |some i=>exact eG λq=>Ow i (c.names▸dK h) (sd▸mv (cw (aJ q).1)) (HX▸mv (cw (aJ q).2))
 |none=>exact eG λq=>eO λv d=>H.tops x v d (c.kind q)
theorem mw(h:Pd b v=some u):b=true∧v=u:=by
 cases b with
 |false=>cases h
 |true=>exact⟨rfl,WR h⟩
theorem Fe(h:wA k=some v):bE g cx (.Constant k i p) (af v):=by
 cases k with
 |int i=>cases h;exact M9
 |none=>cases h;exact Ou
 |bool b=>cases h;exact Ov
 |str u=>obtain⟨d,rfl⟩:=mw h;exact Rz d
 |bytes u=>obtain⟨d,rfl⟩:=mw h;exact KC d
 |_=>cases h
theorem d0(h:∀e,bE g cx e (f e)):∀{es:List Expr},es.all a4=true->An g cx pos es (iJ f es):=by
 intro d
 induction d with
 |nil=>
  intro _
  exact GA
 |cons e es j=>
  intro q
  exact have q:=aJ (show(a4 e&&es.all a4)=true from q);AA (h e) (j q.2) (eT es _ q.1)
theorem f5:∀{es:List Expr},es.all a4=true->∀env,(Zf pos (X0 es env)).any (·.1)=false:=by
 intro d
 induction d with
 |nil=>
  intro _ _
  exact rfl
 |cons e es j=>
  intro q env
  have q:=aJ (show(a4 e&&es.all a4)=true from q)
  rw[eT es env q.1]
  exact j q.2 env
end
section
variable{g:Gl}{cx:Cx}{K:Frag}{G:Gm}{r:Rc}{sc:Sc}{x y:Str}{e:Expr}{es ts:List Expr}{pos p:Pos}{W W1 W2:PT}{a:V9}{c:Bool}{w:PT}{n:Nat}{S:Za}
theorem Pk{P:Const->Prop}{k:Const}(h:Nu k=true)(f:P (.int 1)):P k:=by
 cases k with
 |int z=>exact(show z=1 from eq_of_beq h)▸f
 |_=>exact ff h
theorem Sq{P:Expr->Prop}(h:Sg e=true)(f:∀i p,P (.Constant (.int 1) i p)):P e:=by
 cases e with
 |Constant k i p=>exact Pk (P:=λk=>P (.Constant k i p)) h (f i p)
 |_=>exact ff h
theorem Sr{P:Expr->Prop}(h:Sh e=true)(f:∀i p q,P (.UnaryOp .USub (.Constant (.int 1) i p) q)):P e:=by
 cases e with
 |UnaryOp op a q=>exact(show op=.USub from eq_of_beq (aJ h).1)▸Sq (P:=λa=>P (.UnaryOp .USub a q)) (aJ h).2 λi p=>f i p q
 |_=>exact ff h
theorem C6(h:∀e,bE g cx e (f e))(o:Option Expr):TE g cx (aaM o cx.env) (Pf f o):=by
 cases o with
 |none=>exact OE
 |some e=>exact h e
theorem Ff(O:fY g n r)(c:c6 cx sc.S sc.names n sc.fn){v:Expr}{lo hi st:Option Expr}:bE g cx (.Subscript v (.Slice lo hi st p) pos) (HI r sc v lo hi st):=by
 cases st with
 |none=>exact RR (O.e v c) (C6 (λe=>O.e e c) lo) (C6 (λe=>O.e e c) hi) λ_ _=>rfl
 |some k=>
  refine @eG _ _ _ _ _ λq=>?_
  have q1:=aJ q
  have q2:=aJ q1.1
  obtain rfl:=YY.mp q2.2
  obtain rfl:=YY.mp q1.2
  show bE g cx _ _
  exact Sr (P:=λk=>bE g cx (.Subscript v (.Slice none none (some k) p) pos) (Kz (r.e sc v))) q2.1 λi p1 p2=>RS (O.e v c) (Nb M9) λ_ _=>rfl
theorem Ls(O:fY g n r)(c:c6 cx sc.S sc.names n sc.fn):bE g cx (.Subscript v s pos) (Si r sc v s):=by
 cases s with
 |Slice lo hi st p=>exact Ff O c
 |_=>exact OC (O.e v c) (O.e _ c) λ_ _=>rfl
theorem C7(h:Ba o=true)(env:Env):acX o name env (eval o env)=eval o env:=by
 cases o with
 |Call f args k p=>cases args with
  |nil=>exact ff h
  |cons a l=>cases f <;> rfl
 |_=>rfl
theorem Pl(h:es.all a4=true)(hn:es.length<30)(env:Env):aeu (es.length+([]:List aed).length) (Zf pos (X0 es env)) (backToKw pos (adR [] env))=true:=by
 unfold aeu
 rw[aao,aao]
 refine⟨⟨?_,rfl⟩,decide_eq_true hn⟩
 have:=f5 (pos:=pos) h env
 rw[Z9]at this
 rw[WQ]
 intro q hq
 have:=this q hq
 simpa using this
theorem Pm(H:e8 g K G)(O:fY g G.n r)(c:c6 cx sc.S sc.names G.n sc.fn)(hk:mu g x k)(hp:es.all a4=true)(hx:kindIs sc.S x .globalImplicit=true):bE g cx (.Call (.Name x p) es [] pos) (U9 g G.n k (iJ (r.e sc) es)):=by
 cases hk with
 |fn h k=>exact OJ c.lvl (h (c.kind hx)) k (d0 (λe=>O.e e c) hp) (f5 hp _)
 |bw h k b=>exact RV (h (c.kind hx)) k b (d0 (λe=>O.e e c) hp) (f5 hp _)
 |range h=>exact jo
 |sort h k=>exact RV (h (c.kind hx)) k (fF.one E2) (d0 (λe=>O.e e c) hp) (f5 hp _)
 |set=>exact jo
theorem TO{P:FK->Prop}{k:FK}(h:wB k=true)(f:P .sort):P k:=by cases k <;> first|exact f|exact ff h
theorem Us{P:FK->Prop}{k:FK}(h:HJ k=true)(f:P .set):P k:=by cases k <;> first|exact f|exact ff h
theorem wF{P:Expr->Prop}{e:Expr}{y:Str}(h:wC e=some y)(f:∀p,P (.Name y p)):P e:=by
 cases e <;> first|(cases h;done)|skip
 exact WR h▸f _
theorem Bb{α:Type}{P:List α->Prop}{l:List α}{a:α}(h:vg l=some a)(f:P [a]):P l:=by
 cases l with
 |nil=>cases h
 |cons b r=>cases r with
  |nil=>exact WR h▸f
  |cons=>cases h
set_option tactic.hygienic true in
theorem Lu{P:Expr->Prop}{e:Expr}{q:Expr×Expr}(h:setArg e=some q)(k:∀p,P (.Call q.1 [q.2] [] p)):P e:=by
 cases e <;> first|(cases h;done)|skip
 rename_i f args kws p
 have h:WY (motive:=λ_=>Option (Expr×Expr)) (vg args) none (λa=>Y4 (motive:=λ_=>Option (Expr×Expr)) kws.isEmpty none (some (f,a)))=some q:=h
 generalize e:vg args=zz;cases zz with
 |none=>rw[e]at h;cases h
 |some a=>
  rw[e]at h
  cases kws with
  |nil=>cases h;exact Bb (P:=λl=>P (.Call f l [] p)) e (k p)
  |cons=>cases h
theorem TQ{α:Type}{P:PT->Prop}{o:Option α}{w:PT}{f:α->PT}(hb:P w)(h:∀a,o=some a->P (f a)):P (Sj o w f):=by
 cases o with
 |none=>exact hb
 |some a=>exact h a rfl
theorem VC{P:PT->Prop}{b:Bool}{w v:PT}(hb:P w)(h:b=true->P v):P (Y4 (motive:=λ_=>PT) b w v):=by
 cases b with
 |false=>exact hb
 |true=>exact h rfl
theorem mu.sortE(h:mu g x k)(e:wB k=true):k9 g x (.raw (.builtin "sorted"))∧Keeps g (.builtin "sorted"):=by
 cases h <;> first|exact ff e|exact⟨‹_›,‹_›⟩
theorem mu.setE(h:mu g x k)(e:HJ k=true):k9 g x (.raw (.type "set"))∧Keeps g (.type "set"):=by
 cases h <;> first|exact ff e|exact⟨‹_›,‹_›⟩
theorem HZ(H:e8 g K G)(O:fY g G.n r)(c:c6 cx sc.S sc.names G.n sc.fn){k:FK}(hk:mu g x k)(hx:kindIs sc.S x .globalImplicit=true)(b:bE g cx (.Call (.Name x p) es [] pos) w):bE g cx (.Call (.Name x p) es [] pos) (Nx G r sc k es w):=
 TQ (P:=λw=>bE g cx _ w) b λe h1=>TQ (P:=λw=>bE g cx _ w) b λq h2=>TQ (P:=λw=>bE g cx _ w) b λy h3=>TQ (P:=λw=>bE g cx _ w) b λk2 h4=>VC (P:=λw=>bE g cx _ w) b λh5=>eG λh6=>by
  have S:=hk.sortE (aJ h5).1
  have T:=(H.fns y k2 h4).setE (aJ h5).2
  refine @Bb _ (λl=>bE g cx (.Call (.Name x p) l [] pos) (de (r.e sc q.2))) _ _ h1 ?_
  refine @Lu (λe=>bE g cx (.Call (.Name x p) [e] [] pos) (de (r.e sc q.2))) _ _ h2 λp2=>?_
  refine @wF (λf=>bE g cx (.Call (.Name x p) [.Call f [q.2] [] p2] [] pos) (de (r.e sc q.2))) _ _ h3 λyp=>?_
  show bE g cx _ _
  exact Fb (S.1 (c.kind hx)) S.2 (T.1 (c.kind (aJ h6).2)) T.2 (O.e q.2 c) (aJ h6).1
theorem H0(H:e8 g K G)(O:fY g G.n r)(c:c6 cx sc.S sc.names G.n sc.fn):bE g cx (.Call f es [] pos) (Ny g G r sc f es pos):=by
 cases f with
 |Name x p=>exact eO λk hk=>eG λq=>HZ H O c (H.fns x k hk) (aJ q).2 (Pm H O c (H.fns x k hk) (aJ q).1 (aJ q).2)
 |Attribute o name apos=>
  refine @eO _ _ _ _ _ _ λm hm=>@eG _ _ _ _ _ λq=>?_
  have q1:=aJ q
  have q2:=aJ q1.1
  have q3:=aJ q2.1
  show bE g cx _ _
  exact OY H.top (H.meth name m hm) c.lvl (O.e o c) (d0 (λe=>O.e e c) q3.1) (C7 q3.2 _) (Pl q3.1 (of_decide_eq_true q2.2) _) q1.2 (f5 q3.1 _)
 |_=>exact jo
theorem mu.fnE(h:mu g x k)(e:Nw k=some fa):k9 g x (.raw (.ref fa)):=by
 cases h with
 |@fn v h k=>
  cases v <;> first|(cases e;done)|skip
  exact WR e▸h
 |_=>cases e
theorem H2(H:e8 g K G)(O:fY g G.n r)(c:c6 cx sc.S sc.names G.n sc.fn){f:Expr}{kw:aed}:bE g cx (.Call f es [kw] pos) (HM g G r sc f es kw):=
 eO λk h1=>eO λx h2=>eO λy h3=>eO λa h4=>eO λfk h5=>eO λkf h6=>eO λfa h7=>eG λq=>by
  obtain⟨arg,value,kp⟩:=kw
  have q1:=aJ q
  have q2:=aJ q1.1
  have q3:=aJ q2.1
  have q4:=aJ q3.1
  have S:=(H.fns x fk h5).sortE q4.2
  have T:k9 g y (.raw (.ref fa)):=@λcx pos=>(H.fns y kf h6).fnE h7
  obtain rfl:arg=some k:=h1
  obtain rfl:k=HK:=b6.mp q4.1
  refine @wF (λf=>bE g cx (.Call f es [⟨some HK,value,kp⟩] pos) (eV g G.n (.ref fa) (iJ (r.e sc) [a]))) _ _ h2 λnp=>?_
  refine @wF (λv=>bE g cx (.Call (.Name x np) es [⟨some HK,v,kp⟩] pos) (eV g G.n (.ref fa) (iJ (r.e sc) [a]))) _ _ h3 λyp=>?_
  refine @Bb _ (λl=>bE g cx (.Call (.Name x np) l [⟨some HK,.Name y yp,kp⟩] pos) (eV g G.n (.ref fa) (iJ (r.e sc) [a]))) _ _ h4 ?_
  show bE g cx _ _
  exact E5 c.lvl (S.1 (c.kind q2.2)) (d0 (λe=>O.e e c) (by rw[adX,q3.2];rfl)) q3.2 (T (c.kind q1.2))
theorem Lv(H:e8 g K G)(O:fY g G.n r)(c:c6 cx sc.S sc.names G.n sc.fn):bE g cx (.Call f es kws pos) (Sk g G r sc f es pos kws):=by
 cases kws with
 |nil=>exact H0 H O c
 |cons kw l=>cases l with
  |nil=>exact(H2 H O c:bE g cx (.Call f es [kw] pos) (HM g G r sc f es kw))
  |cons=>exact jo
theorem H3(h:TE g cx t W):TE g cx (do let x ←t;XC pos;pure x) W:=λoa R w=>h.then_ oa R w λv x st s R q=>aU (ax ⟨R,q⟩)
theorem H4(h:∀e,bE g cx e (f e)):∀{ks:List (Option Expr)} {vs:List Expr},TP g cx (abY (pairTrees ks vs cx.env pos)) (HN f ks vs):=by
 intro w1
 induction w1 with
 |nil=>
  intro _
  exact Hi
 |cons w2 ks ih=>
  cases w2 with
  |none=>
   intro w3
   cases w3 with
   |nil=>
    exact Hi
   |cons w4 w5=>
    exact Ur
  |some k=>
   intro w6
   cases w6 with
   |nil=>
    exact Hi
   |cons v vs=>
    exact O5 (h k) (H3 (h v)) (ih)
theorem H5(h:∀e,bE g cx e (f e)):bE g cx (.Dict ks vs pos) (Nz f ks vs):=by
 cases ks with
 |nil=>
  refine @eG _ _ _ _ _ λq=>?_
  obtain rfl:=Xa.mp q
  exact Le
 |cons k ks=>
  refine @eG _ _ _ _ _ λq=>?_
  have q1:=aJ q
  have q2:=aJ q1.1
  show bE g cx _ _
  exact O7 q2.1 (eq_of_beq q2.2) (λh=>nomatch h) (of_decide_eq_true q1.2) (H4 h)
theorem gP:∀{l:List Str},jn l=true->l.Nodup:=by
 intro zi
 induction zi with
 |nil=>
  intro _
  exact .nil
 |cons x l ih=>
  intro h
  have q:=aJ (show(!l.any (cG x)&&jn l)=true from h)
  refine .cons (λy hy e=>?_) (ih q.2)
  have:=Z9.mp (cw q.1) y hy
  exact this (b6.mpr e)
theorem kM{α β:Type}{f:α->Option β}:∀{l:List α},(∀x∈l,(f x).isSome=true)->(l.filterMap f).length=l.length∧∀(j:Nat) x i,l[j]? = some x->(l.filterMap f)[j]? = some i->f x=some i:=by
 intro zi
 induction zi with
 |nil=>
  intro _
  exact⟨rfl,λj x i h=>by cases h⟩
 |cons x l ih=>
  intro h
  obtain⟨i,hi⟩:=X8.mp (h x (.head _))
  have ih:=ih λy hy=>h y (.tail _ hy)
  rw[adW hi]
  refine⟨congrArg (· + 1) ih.1,λj y k hj hk=>?_⟩
  cases j with
  |zero=>cases hj;cases hk;exact hi
  |succ j=>exact ih.2 j y k hj hk
theorem vh{scope:Za}(h:C4 sc.S scope sc.names=true):dZ sc.S scope sc.names ((rm .free scope.names).filterMap (place sc.names)):=by
 have q1:=aJ h
 have q2:=aJ q1.1
 have q3:=aJ q2.1
 have q4:=aJ q3.1
 have q5:=λx hx=>aJ (WQ.mp q4.1 x hx)
 have fl:=kM λx hx=>(q5 x hx).1
 exact⟨⟨fl.1,λj x i h1 h2=>⟨dK (fl.2 j x i h1 h2),fZ (q5 x (Xx h1)).2⟩⟩,gP q4.2,gP q3.2,eq_of_beq q2.2,λy hy e=>by
  have:=cw (WQ.mp q1.2 y hy)
  rw[e]at this;cases this⟩
theorem h8(h:k8 e=true)(env:Env)(x:V9):Yv e env x=pure x:=by
 cases e <;> first|rfl|cases h
theorem C8(h:∀e,uT g cx e (f e))(ifs:List Expr):TB g cx (u6 ifs cx.env) (Pe f ifs):=by
 cases ifs with
 |nil=>exact GW
 |cons c r=>
  refine @bG _ _ _ _ _ λq=>?_
  obtain rfl:=Xa.mp q
  exact OX (h c)
theorem zb{scope:Za}{gens:List abK}{P:PT->Prop}(hb:P cJ)
 (one:∀t i ifs,gens=[⟨t,i,ifs,0⟩]->k8 i=true->sc.fn=true->dZ sc.S scope sc.names ((rm .free scope.names).filterMap (place sc.names))->P (rp scope ((rm .free scope.names).filterMap (place sc.names)) (hV (r.t (bf sc scope) t) (Pe (r.b (bf sc scope)) ifs) (r.e (bf sc scope) e)) (r.i sc i)))
 (two:∀t i t1 i1,gens=[⟨t,i,[],0⟩,⟨t1,i1,[],0⟩]->k8 i=true->k8 i1=true->sc.fn=true->dZ sc.S scope sc.names ((rm .free scope.names).filterMap (place sc.names))->P (rp scope ((rm .free scope.names).filterMap (place sc.names)) (fU (r.t (bf sc scope) t) (r.t (bf sc scope) t1) (r.i (bf sc scope) i1) (r.e (bf sc scope) e)) (r.i sc i))) :
 P (TN r sc e gens scope):=NH hb λq=>by
 have q:=aJ q
 cases gens with
 |nil=>exact hb
 |cons c0 rest=>
  refine NH hb λq2=>?_
  have q2:=aJ q2
  obtain⟨t,i,ifs,a⟩:=c0
  obtain rfl:=eq_of_beq q2.1
  cases rest with
  |nil=>exact one t i ifs rfl q2.2 q.1 (vh q.2)
  |cons c1 more=>
   refine NH hb λq3=>?_
   have q3:=aJ q3
   have q4:=aJ q3.1
   have q5:=aJ q4.1
   have q6:=aJ q5.1
   obtain⟨t1,i1,ifs1,a1⟩:=c1
   obtain rfl:=eq_of_beq q6.1
   obtain rfl:=Xa.mp q5.2
   obtain rfl:=Xa.mp q4.2
   obtain rfl:=Xa.mp q3.2
   exact two t i t1 i1 rfl q2.2 q6.2 q.1 (vh q.2)
theorem TR(c:c6 cx S sc.names n sc.fn)(h:sc.fn=true):c6 cx S sc.names n true:=h▸c
theorem Pn(O:fY g n r)(c:c6 cx sc.S sc.names n sc.fn){elt:Expr}{gens:List abK}{scope:Za}:bE g cx (.ListComp elt gens scope pos) (TN r sc elt gens scope):=
 zb (P:=λW=>bE g cx (.ListComp elt gens scope pos) W) jo (λt i ifs e hi hf K=>by
  subst e
  exact yK K (TR c hf) (O.i i c) (yI (λcx k=>O.t (sc:=bf sc scope) t k) (λcx k=>C8 (λe=>O.b (sc:=bf sc scope) e k) ifs) λcx k=>O.e (sc:=bf sc scope) elt k) (h8 hi _))
  λt i t1 i1 e hi hi1 hf K=>by
   subst e
   exact yK K (TR c hf) (O.i i c) (yJ (λcx k=>O.t (sc:=bf sc scope) t k) (λcx k=>O.i (sc:=bf sc scope) i1 k) (λcx k=>O.t (sc:=bf sc scope) t1 k) (λcx k=>O.e (sc:=bf sc scope) elt k) (h8 hi1)) (h8 hi _)
theorem H6(H:e8 g K G)(O:fY g G.n r)(c:c6 cx sc.S sc.names G.n sc.fn)(e:Expr):bE g cx e (NA g G r sc e):=by
 cases e with
 |Constant k i p=>exact eO λv h=>Fe h
 |Name x p=>exact HY H c
 |BinOp a op b p=>exact RJ (O.e a c) (O.e b c)
 |UnaryOp op a p=>cases op with
  |Not=>exact RB (O.e a c)
  |USub=>exact Nb (O.e a c)
  |_=>exact jo
 |BoolOp op es p=>
  rcases es with _|⟨a,_|⟨b,_|⟨d,l⟩⟩⟩
  ·exact jo
  ·exact jo
  ·cases op with
   |And=>exact RD (O.e a c) (O.e b c)
   |Or=>exact Uc (O.e a c) (O.e b c)
  ·exact jo
 |Compare a ops es p=>
  rcases ops with _|⟨op,_|⟨o2,l⟩⟩
  ·exact jo
  ·rcases es with _|⟨b,_|⟨d,l⟩⟩
   ·exact jo
   ·exact eG λq=>RN H.top.inst (O.e a c) (O.e b c) (cw q)
   ·exact jo
  ·exact jo
 |IfExp t a b p=>exact Ua (O.b t c) (O.e a c) (O.e b c)
 |Attribute o name p=>exact eG λq=>eO λix h=>OF H.top (O.e o c) (H.attr name ix h) (C7 q _)
 |Subscript v s p=>exact Ls O c
 |Tuple es k p=>exact eG λq=>Nc (d0 (λe=>O.e e c) q)
 |List es p=>exact eG λq=>RP (d0 (λe=>O.e e c) q)
 |ListComp elt gens scope p=>exact Pn O c
 |Call f args kws p=>exact Lv H O c
 |Dict ks vs p=>exact H5 λe=>O.e e c
 |_=>exact jo
end
section
variable{g:Gl}{cx:Cx}{K:Frag}{G:Gm}{r:Rc}{sc:Sc}{x y:Str}{e to:Expr}{es ts:List Expr}{pos p:Pos}{W W1 W2:PT}{a:V9}{c:Bool}{w:PT}{n:Nat}{S:Za}
theorem Lw(h:∀e,uT g cx e (f e))(op:BoolOp)(es:List Expr):TB g cx (aca op es cx.env) (Sm op f es):=by
 induction es with
 |nil=>exact RG
 |cons e es ih=>cases op with
  |And=>exact RE (h e) ih
  |Or=>exact Ud (h e) ih
theorem H7(H:e8 g K G)(O:fY g G.n r)(c:c6 cx sc.S sc.names G.n sc.fn)(e:Expr):uT g cx e (NB r sc e):=by
 cases e with
 |UnaryOp op a p=>cases op with
  |Not=>exact RA (O.b a c)
  |_=>exact Na (O.e _ c) λ_=>rfl
 |BoolOp op es p=>exact Lw (λe=>O.b e c) op es
 |Compare a ops es p=>
  rcases ops with _|⟨o1,_|⟨o2,_|⟨o3,l⟩⟩⟩
  ·exact wD
  ·rcases es with _|⟨b,_|⟨d,l⟩⟩
   ·exact wD
   ·exact bG λq=>RO H.top.inst (O.e a c) (O.e b c) (cw q)
   ·exact wD
  ·rcases es with _|⟨b,_|⟨d,_|⟨f,l⟩⟩⟩
   ·exact wD
   ·exact wD
   ·exact bG λq=>KE H.top.inst (O.e a c) (O.e b c) (O.e d c) (cw q)
   ·exact wD
  ·exact wD
 |IfExp t a b p=>exact Ub (O.b t c) (O.b a c) (O.b b c)
 |_=>exact Na (O.e _ c) λ_=>rfl
theorem Fg(h:TI g cx t w)(k:o=some .range->TI g cx t v):TI g cx t (HO o w v):=by
 cases o with
 |none=>exact h
 |some f=>cases f with
  |range=>exact k rfl
  |_=>exact h
theorem Fh(H:e8 g K G)(O:fY g G.n r)(c:c6 cx sc.S sc.names G.n sc.fn)(h:TI g cx (eval (.Call f es kws pos) cx.env) W):TI g cx (eval (.Call f es kws pos) cx.env) (HP G r sc f es kws W):=by
 cases f with
 |Name x p=>
  refine @Fg _ _ _ _ _ _ h λe=>@iG _ _ _ _ _ λq=>?_
  have q:=aJ q
  have q1:=aJ q.1
  obtain rfl:=Xa.mp q.2
  have z:=H.fns x _ e
  cases z with
  |range z=>
   show TI g cx (eval _ _) _
   exact KY (z (c.kind q1.2)) (d0 (λe=>O.e e c) q1.1) (f5 q1.1 _)
 |_=>exact h
theorem H8(H:e8 g K G)(O:fY g G.n r)(c:c6 cx sc.S sc.names G.n sc.fn)(e:Expr):TI g cx (eval e cx.env) (stepI G r sc e):=by
 cases e with
 |Call f args kws p=>exact Fh H O c (Nf (O.e _ c))
 |_=>exact Nf (O.e _ c)
theorem H9(H:e8 g K G)(O:fY g G.n r)(c:c6 cx sc.S sc.names G.n sc.fn)(e:Expr):TT g cx (Y1 e cx.env) (stepT G r sc e):=by
 cases e with
 |Name x p=>exact tO λi h=>tG λq=>KI i (c.names▸dK h) (c.store q)
 |Subscript o i p=>exact KL (O.e o c) (O.e i c)
 |Attribute o name p=>exact tO λix h=>KN H.top (O.e o c) (H.attr name ix h)
 |Tuple ts k p=>exact tG λq=>Lc λt ht=>⟨WQ.mp q t ht,O.t t c⟩
 |_=>exact C5
theorem jq{α:Type}{t:Sem α}{a:α}(h:pureOf t=some a):t=pure a:=by
 cases t <;> first|exact(congrArg Sem.pure (WR h))|cases h
theorem C9(O:fY g n r)(c:c6 cx sc.S sc.names n sc.fn):bE g cx e (HQ r sc to e):=by
 cases e with
 |List es p=>
  unfold HQ
  generalize h:NC sc to=zz;cases zz with
  |false=>exact O.e _ c
  |true=>exact eG λq=>RQ (d0 (λe=>O.e e c) q)
 |_=>exact O.e _ c
theorem Ia(O:fY g n r)(c:c6 cx sc.S sc.names n sc.fn):∀{ts es:List Expr},es.all a4=true->An g cx pos es (HR r sc ts es):=by
 intro w1
 induction w1 with
 |nil=>
  intro w2
  cases w2 with
  |nil=>
   intro _
   exact GA
  |cons w3 w4=>
   intro _
   exact Pj
 |cons t ts ih=>
  intro w5
  cases w5 with
  |nil=>
   intro _
   exact Pj
  |cons e es=>
   intro q
   exact have q:=aJ (show(a4 e&&es.all a4)=true from q);AA (C9 O c) (ih q.2) (eT es _ q.1)
theorem Ib(c:c6 cx sc.S sc.names n sc.fn):∀{xs:List Str},(∀x∈xs,jm sc x=true∧(place sc.names x).isSome=true)->uY cx xs (xs.filterMap (place sc.names)):=by
 intro zi
 induction zi with
 |nil=>
  intro _
  exact .nil
 |cons x xs ih=>
  intro h
  obtain⟨i,hi⟩:=X8.mp (h x (.head _)).2
  rw[adW hi]
  exact .cons (c.names▸dK hi) (c.store (h x (.head _)).1) (ih λy hy=>h y (.tail _ hy))
theorem Ic(O:fY g n r)(c:c6 cx sc.S sc.names n sc.fn)(hf:sc.fn=true)(h:ZA [to] e (qh sc.S)=pure (some xs)):j1 g cx (.Assign [to] e pos) (HS r sc to e xs):=by
 cases to with
 |Tuple ts k p=>cases e with
  |Tuple es k p=>
   refine @sG _ _ _ _ _ λq=>?_
   have q:=aJ q
   have q2:∀x∈xs.reverse,jm sc x=true∧(place sc.names x).isSome=true:=λx hx=>aJ (WQ.mp q.2 x (aam.mp hx))
   have l:=(kM λx hx=>(q2 x hx).2).1
   show j1 g cx _ _
   exact OI (c.scope hf) (Ia O c q.1) h (Ib c q2) (by rw[l,Ys])
  |_=>exact eL
 |_=>exact eL
theorem Lx(O:fY g n r)(c:c6 cx sc.S sc.names n sc.fn)(h:ZT e (some to) pos.line (qh sc.S)=pure true):j1 g cx (.Assign [to] e pos) (Ph r sc to e):=by
 cases to with
 |Name x p=>cases e with
  |ListComp elt gens scope q=>
   refine @sO _ _ _ _ _ _ λi hi=>@sG _ _ _ _ _ λhs=>?_
   refine @zb _ _ _ _ _ (λW=>j1 g cx (.Assign [.Name x p] (.ListComp elt gens scope q) pos) (aD (aj i) W)) (λ_ _ w=>Ws w) (λt i0 ifs e hi0 hf K=>?_) (λt i0 t1 i1 e hi0 hi1 hf K=>?_)
   ·subst e
    exact yL K (TR c hf) (O.i i0 c) (yI (λcx k=>O.t (sc:=bf sc scope) t k) (λcx k=>C8 (λe=>O.b (sc:=bf sc scope) e k) ifs) λcx k=>O.e (sc:=bf sc scope) elt k) (h8 hi0 _) (c.names▸dK hi) (c.store hs) h
   ·subst e
    exact yL K (TR c hf) (O.i i0 c) (yJ (λcx k=>O.t (sc:=bf sc scope) t k) (λcx k=>O.i (sc:=bf sc scope) i1 k) (λcx k=>O.t (sc:=bf sc scope) t1 k) (λcx k=>O.e (sc:=bf sc scope) elt k) (h8 hi1)) (h8 hi0 _) (c.names▸dK hi) (c.store hs) h
  |_=>exact eL
 |_=>exact eL
theorem Ly(O:fY g n r)(c:c6 cx sc.S sc.names n sc.fn)(hf:sc.fn=true):j1 g cx (.Assign [to] e pos) (Sn r sc to e pos):=by
 refine @sO _ _ _ _ _ _ λb hb=>?_
 have hb:=jq hb
 cases b with
 |true=>
  show j1 g cx _ (Ph r sc to e)
  exact Lx O c hb
 |false=>
  refine @sO _ _ _ _ _ _ λo ho=>?_
  have ho:=jq ho
  cases o with
  |some xs=>
   show j1 g cx _ (HS r sc to e xs)
   exact Ic O c hf ho
  |none=>
   show j1 g cx _ (gd (a4 to) (aD (r.t sc to) (HQ r sc to e)))
   exact sG λq=>OG (c.scope hf) (C9 O c) (O.t to c) hb ho (by rw[e7 [] cx.env q];rfl)
theorem Fi(H:e8 g K G)(O:fY g G.n r)(c:c6 cx sc.S sc.names G.n sc.fn):j1 g cx (.Raise (some e) none pos) (HT G r sc e):=by
 obtain⟨bm,fI,fd,me,told,B⟩:=H.bad
 cases e with
 |Call f args kws p=>cases f with
  |Name x q=>
   rcases args with _|⟨a,_|⟨b,l⟩⟩
   ·exact eL
   ·refine @sG _ _ _ _ _ λq=>?_
    have q1:=aJ q
    have q2:=aJ q1.1
    have q3:=aJ q2.1
    obtain rfl:=b6.mp q3.1
    obtain rfl:=Xa.mp q3.2
    have z:[a].all a4=true:=by show(a4 a&&true)=true;rw[q2.2];rfl
    show j1 g cx _ _
    exact K0 H.top B (H.excN (c.kind q1.2)) (AA (O.e a c) GA (eT [] _ q2.2)) (f5 z _)
   ·exact eL
  |_=>exact eL
 |_=>exact eL
theorem Bc(h:A9 e=some v):CM g cx e v∧∀t l env,ZT e t l env=pure false:=by
 cases e with
 |Constant k i p=>
  refine⟨?_,λ_ _ _=>rfl⟩
  have h:wA k=some v:=h
  intro A Qr Er s q
  cases k with
  |int i=>cases h;exact wpAny_Constant_int (q _ _ λ_=>cD)
  |none=>cases h;exact wpAny_Constant_none (q _ _ λ_=>gn)
  |bool b=>cases h;exact wpAny_Constant_bool (q _ _ λ_=>mj)
  |str u=>obtain⟨d,rfl⟩:=mw h;exact wpAny_Constant_str (q _ _ λ_=>e6 (of_decide_eq_true d))
  |bytes u=>obtain⟨d,rfl⟩:=mw h;exact λ_ _ _=>q _ _ λ_=>cR (of_decide_eq_true d)
  |_=>cases h
 |_=>cases h
theorem Fj(H:e8 g K G)(c:c6 cx sc.S sc.names G.n sc.fn)(hf:sc.fn=true){body:List Stmt}{ty t:Expr}{q ap:Pos}(hb:Ax g cx body W):j1 g cx (.Try body [.ExceptHandler (some ty) none [.Assign [t] e ap] q] [] [] pos) (HU G sc W ty t e):=by
 obtain⟨bm,fI,fd,me,told,B⟩:=H.bad
 cases ty with
 |Name x np=>cases t with
  |Name y py=>
   refine @sG _ _ _ _ _ λq=>@sO _ _ _ _ _ _ λi hi=>@sO _ _ _ _ _ _ λv hv=>?_
   have q1:=aJ q
   have q2:=aJ q1.1
   obtain rfl:=b6.mp q2.1
   have k:=Bc (g:=g) (cx:=cx) hv
   obtain⟨outer,ht⟩:=c.top hf
   show j1 g cx _ _
   exact R6 (kp:=ap) H.top B ht (c.scope hf) hb (c.kind q2.2) (sd▸mv H.excD) H.excK (c.names▸dK hi) (c.store q1.2) (k.2 _ _ _) k.1
  |_=>exact eL
 |_=>exact eL
theorem Fk(H:e8 g K G)(c:c6 cx sc.S sc.names G.n sc.fn)(hf:sc.fn=true){body:List Stmt}{ty:Expr}{s:Stmt}{q:Pos}(hb:Ax g cx body W):j1 g cx (.Try body [.ExceptHandler (some ty) none [s] q] [] [] pos) (HV G sc W ty s):=by
 cases s with
 |Assign ts e ap=>
  rcases ts with _|⟨t,_|⟨b,l⟩⟩
  ·exact eL
  ·exact Fj H c hf hb
  ·exact eL
 |_=>exact eL
theorem Ie(H:e8 g K G)(c:c6 cx sc.S sc.names G.n sc.fn)(hf:sc.fn=true)(hb:Ax g cx body W):j1 g cx (.Try body [h] [] [] pos) (ND G sc W h):=by
 obtain⟨ty,nm,bd,q⟩:=h
 cases ty with
 |none=>exact eL
 |some ty=>cases nm with
  |some x=>exact eL
  |none=>
   rcases bd with _|⟨s,_|⟨b,l⟩⟩
   ·exact eL
   ·exact Fk H c hf hb
   ·exact eL
theorem Lz(H:e8 g K G)(O:fY g G.n r)(c:c6 cx sc.S sc.names G.n sc.fn):j1 g cx (.AugAssign to .Add e pos) (So G r sc to e):=by
 cases to with
 |Attribute o name p=>exact sO λix h=>RU H.top (O.e o c) (O.e e c) (H.attr name ix h)
 |_=>exact eL
theorem Ig(H:e8 g K G)(O:fY g G.n r)(c:c6 cx sc.S sc.names G.n sc.fn)(hf:sc.fn=true)(s:Stmt):j1 g cx s (NG G r sc s):=by
 obtain⟨outer,ht⟩:=c.top hf
 cases s with
 |Return e p=>cases e with
  |none=>exact eL
  |some e=>exact RI (O.e e c)
 |Pass p=>exact Oy
 |Expr e p=>exact sO λb hb=>sG λq=>λoa R w=>Uh (O.e e c) (by unfold interactive;rw[R.ok.kind];rfl) (by
  have hb:=jq hb
  rw[cw q]at hb
  rw[dG (c.scope hf)];exact hb) oa R w
 |If t b o p=>exact Ug (O.b t c) (O.ss b c) (O.ss o c)
 |For t it body o p=>
  refine @sG _ _ _ _ _ λq=>?_
  have q:=aJ q
  obtain rfl:=Xa.mp q.1
  show j1 g cx _ _
  exact RY ht (O.i it c) (λI o F=>O.t t c.addIt) (λI o F=>O.ss body c.addIt) (h8 q.2 _)
 |While t body o p=>
  refine @sG _ _ _ _ _ λq=>?_
  obtain rfl:=Xa.mp q
  exact KV ht (O.b t c) (O.ss body c)
 |Assign ts e p=>
  rcases ts with _|⟨t,_|⟨b,l⟩⟩
  ·exact eL
  ·exact Ly O c hf
  ·exact eL
 |AugAssign to op e p=>
  refine @sG _ _ _ _ _ λq=>?_
  obtain rfl:=eq_of_beq q
  exact Lz H O c
 |Raise e k p=>
  refine @sG _ _ _ _ _ λq=>@sO _ _ _ _ _ _ λe' he=>?_
  subst he
  obtain rfl:=YY.mp q
  exact Fi H O c
 |Try body hs o f p=>
  refine @sG _ _ _ _ _ λq=>?_
  have q:=aJ q
  obtain rfl:=Xa.mp q.1
  obtain rfl:=Xa.mp q.2
  rcases hs with _|⟨h,_|⟨b,l⟩⟩
  ·show j1 g cx _ cJ
   exact eL
  ·show j1 g cx _ _
   exact Ie H c hf (O.ss body c)
  ·show j1 g cx _ cJ
   exact eL
 |_=>exact eL
theorem Fl(H:e8 g K G)(O:fY g G.n r)(c:c6 cx sc.S sc.names G.n sc.fn)(ss:List Stmt):Ax g cx ss (HW G r sc ss):=by
 refine @sG _ _ _ _ _ λhf=>?_
 induction ss with
 |nil=>exact RH
 |cons s ss ih=>exact Ox (Ig H O c hf s) ih
theorem Dc(H:e8 g K G):∀m,fY g G.n (rc g G m):=by
 intro zi
 induction zi with
 |zero=>
  exact⟨λ_ _=>jo,λ_ _=>wD,λ_ _=>Sp,λ_ _=>C5,λ_ _=>eL⟩
 |succ m ih=>
  exact⟨λx c=>H6 H (ih) c x,λx c=>H7 H (ih) c x,λx c=>H8 H (ih) c x,λx c=>H9 H (ih) c x,λx c=>Fl H (ih) c x⟩
end
noncomputable def qi:List (Addr×List Str):=[(141,[V3 "name",V3 "email",V3 "when",V3 "zone"]),(190,[V3 "mode",V3 "name",V3 "oid"]),(239,[V3 "entries"]),(330,[V3 "heads",V3 "at"]),(365,[V3 "tree",V3 "parents",V3 "author",V3 "committer",V3 "extra",V3 "message"]),(415,[V3 "target",V3 "kind",V3 "name",V3 "tagger",V3 "message",V3 "signature"])]
noncomputable def NI:List (Str×V):=[(V3 "FILE",.int 33188),(V3 "EXEC",.int 33261),(V3 "LINK",.int 40960),(V3 "DIR",.int 16384),(V3 "SUB",.int 57344),(V3 "HEX_SIGNS",.str [48,49,50,51,52,53,54,55,56,57,97,98,99,100,101,102]),(V3 "NOUGHT_SIGN",.int 48),(V3 "OBJECT_KINDS",.tup [.bytes [98,108,111,98],.bytes [116,114,101,101],.bytes [99,111,109,109,105,116],.bytes [116,97,103]]),(V3 "OBJECT_MODES",.tup [.int 33188,.int 33261,.int 40960,.int 16384,.int 57344]),(V3 "OBJECT_OLD_MODE",.int 33204),(V3 "OBJECT_HEX",.bytes [48,49,50,51,52,53,54,55,56,57,97,98,99,100,101,102]),(V3 "OBJECT_DIGITS",.bytes [48,49,50,51,52,53,54,55,56,57]),(V3 "OBJECT_HEADS",.tup [.bytes [116,114,101,101],.bytes [112,97,114,101,110,116],.bytes [97,117,116,104,111,114],.bytes [99,111,109,109,105,116,116,101,114]]),(V3 "OBJECT_SIGNATURES",.tup [.bytes [45,45,45,45,45,66,69,71,73,78,32,80,71,80,32,83,73,71,78,65,84,85,82,69,45,45,45,45,45],.bytes [45,45,45,45,45,66,69,71,73,78,32,80,71,80,32,77,69,83,83,65,71,69,45,45,45,45,45],.bytes [45,45,45,45,45,66,69,71,73,78,32,83,73,71,78,69,68,32,77,69,83,83,65,71,69,45,45,45,45,45],.bytes [45,45,45,45,45,66,69,71,73,78,32,83,83,72,32,83,73,71,78,65,84,85,82,69,45,45,45,45,45]])]
noncomputable def NJ:List (Str×Addr):=[(V3 "text_of",59),(V3 "octets_of",64),(V3 "hex_of",71),(V3 "hex_digit",78),(V3 "octets_of_hex",85),(V3 "number_by",92),(V3 "number_of",99),(V3 "object_has_sign",110),(V3 "object_are_all",117),(V3 "read_person",152),(V3 "object_by_eights",201),(V3 "object_name_fault",208),(V3 "tree_faults",250),(V3 "check_tree",257),(V3 "object_mode_of",264),(V3 "read_tree",271),(V3 "object_head_row",278),(V3 "object_head_id",285),(V3 "object_heads",292),(V3 "read_commit",376),(V3 "object_signature_at",383),(V3 "read_tag",426),(V3 "read_object",433),(V3 "object_octets",440),(V3 "split_object",447),(V3 "_law_octets",452),(V3 "_law_signs_of",457),(V3 "_law_deck",462),(V3 "_law_draw",469),(V3 "_law_pick",476),(V3 "_law_hex",481),(V3 "_law_oid",486),(V3 "_law_heard",493),(V3 "_law_bent",500),(V3 "_law_number",505),(V3 "_law_split",512),(V3 "_law_split_told",519),(V3 "_law_heads_right",524),(V3 "_law_hex_right",531),(V3 "_law_rows",538),(V3 "_law_key",545),(V3 "_law_are_fit",550),(V3 "_law_tree_right",555),(V3 "_law_trees_right",560),(V3 "_law_person",567),(V3 "_law_person_row",574),(V3 "_law_parts",581),(V3 "_law_made",588),(V3 "_law_odd_person",595),(V3 "_law_odd_id",602),(V3 "_law_spoilt",609),(V3 "_law_commits_right",614),(V3 "_law_tags_right",619),(V3 "Person",141),(V3 "Entry",190),(V3 "Tree",239),(V3 "ObjectHeadWalk",330),(V3 "Commit",365),(V3 "Tag",415)]
noncomputable def LA:List (Str×V9×BW):=[(V3 "len",.builtin "len",b1 c5),(V3 "ord",.builtin "ord",b1 KO),(V3 "chr",.builtin "chr",b1 KP),(V3 "int",.type "int",b1 KQ),(V3 "str",.type "str",b1 Ew),(V3 "list",.type "list",b1 CG),(V3 "tuple",.type "tuple",b1 vV),(V3 "bytes",.type "bytes",b1 du),(V3 "bytearray",.type "bytearray",wh)]
noncomputable def se:Ix:=[(330,1)]
noncomputable def gQ:Ix:=[(365,2)]
noncomputable def d4:Ix:=[(365,3)]
noncomputable def jr:Ix:=[(141,1)]
noncomputable def dM:Ix:=[(239,0)]
noncomputable def js:Ix:=[(365,4)]
noncomputable def gR:Ix:=[(330,0)]
noncomputable def jR:Ix:=[(415,1)]
noncomputable def cf:Ix:=[(365,5),(415,4)]
noncomputable def fG:Ix:=[(190,0)]
noncomputable def bH:Ix:=[(141,0),(190,1),(415,2)]
noncomputable def jt:Ix:=[(190,2)]
noncomputable def f6:Ix:=[(365,1)]
noncomputable def d5:Ix:=[(415,5)]
noncomputable def cW:Ix:=[(415,3)]
noncomputable def fN:Ix:=[(415,0)]
noncomputable def mx:Ix:=[(365,0)]
noncomputable def my:Ix:=[(141,2)]
noncomputable def mz:Ix:=[(141,3)]
noncomputable def NK:List (Str×Ix):=[(V3 "at",se),(V3 "author",gQ),(V3 "committer",d4),(V3 "email",jr),(V3 "entries",dM),(V3 "extra",js),(V3 "heads",gR),(V3 "kind",jR),(V3 "message",cf),(V3 "mode",fG),(V3 "name",bH),(V3 "oid",jt),(V3 "parents",f6),(V3 "signature",d5),(V3 "tagger",cW),(V3 "target",fN),(V3 "tree",mx),(V3 "when",my),(V3 "zone",mz)]
noncomputable def aK:MT:={l:=some ("list.append",yO),a:=some ("bytearray.append",vd)}
noncomputable def m_find:MT:={b:=some ("bytes.find",G2),s:=some ("str.find",G5),c:=[(239,236)]}
noncomputable def Ih:MT:={d:=some ("dict.get",G6)}
noncomputable def fO:MT:={c:=[(330,313)]}
noncomputable def bB:MT:={b:=some ("bytes.join",G3),s:=some ("str.join",G4)}
noncomputable def Po:MT:={c:=[(190,180)]}
noncomputable def m_lower:MT:={b:=some ("bytes.lower",CS)}
noncomputable def df:MT:={c:=[(141,138),(190,187),(239,229),(365,355),(415,412)]}
noncomputable def Dd:MT:={l:=some ("list.pop",Ni)}
noncomputable def m_replace:MT:={b:=some ("bytes.replace",va)}
noncomputable def oH:MT:={c:=[(330,327)]}
noncomputable def vi:MT:={a:=some ("bytearray.reverse",r5)}
noncomputable def kN:MT:={c:=[(415,405)]}
noncomputable def lg:MT:={c:=[(190,173)]}
noncomputable def m_split:MT:={b:=some ("bytes.split",CU)}
noncomputable def m_startswith:MT:={b:=some ("bytes.startswith",yN)}
noncomputable def fe:MT:={c:=[(330,320)]}
noncomputable def m_upper:MT:={b:=some ("bytes.upper",CT),s:=some ("str.upper",CV)}
noncomputable def Ii:List (Str×MT):=[(V3 "append",aK),(V3 "find",m_find),(V3 "get",Ih),(V3 "is_next",fO),(V3 "join",bB),(V3 "kind",Po),(V3 "lower",m_lower),(V3 "octets",df),(V3 "pop",Dd),(V3 "replace",m_replace),(V3 "rest",oH),(V3 "reverse",vi),(V3 "signed_part",kN),(V3 "sort_key",lg),(V3 "split",m_split),(V3 "startswith",m_startswith),(V3 "take",fe),(V3 "upper",m_upper)]
noncomputable def NL(n:Nat):Gm:=⟨n,V3 "BadObject",NI,NJ.map (λp=>(p.1,FK.fn (.ref p.2)))++LA.map (λp=>(p.1,FK.bw p.2.1 p.2.2))++[(V3 "range",FK.range),(V3 "sorted",FK.sort),(V3 "set",FK.set)],NK,Ii⟩
noncomputable def fdOf(o:Option Obj):FuncData:=match o with
 |some ⟨_,_,.func fd,_⟩=>fd
 |_=>default
noncomputable def Ij(o:Option Obj):Bool:=match o with
 |some ⟨_,_,.func _,_⟩=>true
 |_=>false
noncomputable def ll(K:Frag)(a:Addr):FuncData:=fdOf (K.lookup a)
noncomputable def De(b:FuncBody):List PySem.Stmt:=match b with
 | .stmts b=>b
 |_=>[]
noncomputable def Dg(b:FuncBody):Bool:=match b with
 | .stmts _=>true
 |_=>false
noncomputable def lq(K:Frag)(a:Addr):List PySem.Stmt:=De (ll K a).body
noncomputable def Fm(K:Frag)(a:Addr)(names grow:List Str):Sc:=⟨(ll K a).scope,names,true,grow⟩
noncomputable def Bd:List Str->List Str->Bool
 | [],[]=>true
 |a::l,b::r=>cG a b&&Bd l r
 |_,_=>false
noncomputable def Pp(K:Frag)(fd:aaP)(params names:List Str):Bool:=
 codeIn K fd.code fd.qualname&&Dg fd.body&&fd.closure.isEmpty&&Yr fd.globals Xv&&Yr fd.builtins aaE&&fd.scope.kind==.function&&!fd.scope.isCoroutine&&!fd.scope.isGenerator
  && Bd (names.take params.length) params&&jn names&&jn (fd.scope.names.map (·.1))&&params.all λx=>kindIs fd.scope x .local||kindIs fd.scope x .cell
noncomputable def Be(K:Frag)(a:Addr)(params names:List Str):Bool:=Ij (K.lookup a)&&Pp K (ll K a) params names
structure Df where
 a:Addr
 params:List Str
 names:List Str
 grow:List Str
def vj:Nat->(List V9->Prop)->Prop
 |0,P=>P []
 |n+1,P=>∀v,vj n λl=>P (v::l)
theorem sf(l:List V9):∀{P:List V9->Prop},vj l.length P->P l:=by
 induction l with
 |nil=>exact λh=>h
 |cons v l d=>exact λh=>d (h v)
structure aR(K:Frag)(d:Df)(W:Gl->Nat->PT):Prop where
 good:Be K d.a d.params d.names=true
 bind:vj d.params.length λl=>abZ (ll K d.a) ⟨l,[]⟩=pure (d.params.zip l)
 word:∀g n,(rc g (NL n) 14).ss (Fm K d.a d.names d.grow) (lq K d.a)=W g n
theorem Bf:∀{l r:List Str},Bd l r=true->l=r:=by
 intro d
 induction d with
 |nil=>
  intro y
  cases y with
  |nil=>
   intro _
   exact rfl
  |cons i z=>
   intro h
   exact ff h
 |cons a l j=>
  intro q
  cases q with
  |nil=>
   intro h
   exact ff h
  |cons b r=>
   intro h
   rw[b6.mp (aJ h).1,j (aJ h).2]
section
variable{g:Gl}{K:Frag}{cx:Cx}{x:Str}{pos:Pos}{v:V}{val:V9}
theorem zc(h:Ij (K.lookup a)=true):∃c d sl,K.lookup a=some ⟨c,d,.func (ll K a),sl⟩:=by
 unfold ll
 generalize e:K.lookup a=zz;cases zz with
 |none=>rw[e]at h;exact ff h
 |some o=>
  obtain⟨c,d,dt,sl⟩:=o
  rw[e]at h
  cases dt with
  |func fd=>exact⟨c,d,sl,rfl⟩
  |_=>exact ff h
theorem Bg(h:Dg b=true):b=.stmts (De b):=by
 cases b with
 |stmts b=>rfl
 |_=>exact ff h
theorem ru(T:K.In g.B)(h:Be K a params names=true)(hb:∀(s:Wj) (vals:List V9),g.B.StaysIn s.heap->vals.length+dvals.length=params.length->BindsTo s (ll K a) ⟨vals,[]⟩ (params.zip (vals++dvals))) :
 EA g a (ll K a) (lq K a) params names dvals:=by
 have h0:=aJ h
 have h1:=aJ h0.2
 have p:=aJ h1.1
 have b:=aJ p.1
 have i:=aJ b.1
 have m:=aJ i.1
 have j:=aJ m.1
 have u:=aJ j.1
 have k:=aJ u.1
 have z:=aJ k.1
 have q:=aJ z.1
 have y:=aJ q.1
 obtain⟨c,d,sl,e⟩:=zc h0.1
 exact⟨⟨_,T _ _ e,rfl⟩,codeRec_of T y.1,Bg y.2,Xa.mp q.2,Yb z.2,Yb k.2,eq_of_beq u.2,cw j.2,cw m.2,hb,
  ⟨names.drop params.length,by conv=>lhs;rw[←Yz params.length names,Bf i.2]⟩,gP b.2,gP p.2,λx hx=>(afe.mp (WQ.mp h1.2 x hx)).imp fZ fZ⟩
theorem aH(H:e8 g K (NL n))(D:aR K d W)(q:vs.length=d.params.length)
 (j:W g n (λfl st=>Fin Q (EB fl) st.h) (λst=>yE X st.h) ⟨vs.map some++WZ (d.names.length-d.params.length) none,h⟩):iH g (n+1) (.ref d.a) vs Q X h:=
 ou (dvs:=[]) (dvals:=[]) H.top (ru H.top.k D.good λs vals _ y=>BindsTo.of_eq (by rw[WH];exact sf vals (y▸D.bind))) (λ_=>rfl)
  (λcx c=>D.word g n▸(Dc H 14).ss (sc:=Fm K d.a d.names d.grow) (lq K d.a) c) q (by rw[WH];exact j)
structure Ik(K:Frag)(d:Df)(W:Gl->Nat->PT):Prop where
 good:Be K d.a d.params d.names=true
 bind7:vj 7 λl=>∀S,peek K S (abZ (ll K d.a) ⟨l,[]⟩)=some (d.params.zip l)
 bind6:vj 6 λl=>∀S,peek K S (abZ (ll K d.a) ⟨l,[]⟩)=some (d.params.zip (l++[.bytes #[] 751]))
 word:∀g n,(rc g (NL n) 14).ss (Fm K d.a d.names d.grow) (lq K d.a)=W g n
theorem vk(e:l.length=n)(h:vj n P):P l:=by
 subst e;exact sf l h
theorem ls(X:K.In s.heap)(e:∀S,peek K S (abZ fd args)=some binds):BindsTo s fd args binds:=
 λM _ _ _ q=>(Looks.of_peek (M:=M) X (e _)).here q
theorem Il(H:e8 g K (NL n))(D:Ik K d W)(hp:d.params.length=7)(q:vs.length=d.params.length)
 (j:W g n (λfl st=>Fin Q (EB fl) st.h) (λst=>yE X st.h) ⟨vs.map some++WZ (d.names.length-d.params.length) none,h⟩):iH g (n+1) (.ref d.a) vs Q X h:=
 ou (dvs:=[]) (dvals:=[]) H.top (ru H.top.k D.good λs vals hs y=>ls (H.top.k.keeps hs) λS=>by rw[WH];exact vk (P:=λl=>∀S,peek K S (abZ (ll K d.a) ⟨l,[]⟩)=some (d.params.zip l)) (y.trans hp) D.bind7 S) (λ_=>rfl)
  (λcx c=>D.word g n▸(Dc H 14).ss (sc:=Fm K d.a d.names d.grow) (lq K d.a) c) q (by rw[WH];exact j)
theorem Im(H:e8 g K (NL n))(D:Ik K d W)(hp:d.params.length=7)(q:vs.length+1=d.params.length)
 (j:W g n (λfl st=>Fin Q (EB fl) st.h) (λst=>yE X st.h) ⟨(vs++[V.bytes []]).map some++WZ (d.names.length-d.params.length) none,h⟩):iH g (n+1) (.ref d.a) vs Q X h:=
 ou (dvs:=[V.bytes []]) (dvals:=[.bytes #[] 751]) H.top (ru H.top.k D.good λs vals hs y=>ls (H.top.k.keeps hs) λS=>vk (P:=λl=>∀S,peek K S (abZ (ll K d.a) ⟨l,[]⟩)=some (d.params.zip (l++[.bytes #[] 751]))) (Xr (y.trans hp)) D.bind6 S) (λ_=>⟨⟨Wy _,751,rfl⟩,rfl⟩)
  (λcx c=>D.word g n▸(Dc H 14).ss (sc:=Fm K d.a d.names d.grow) (lq K d.a) c) q j
theorem bW.up(l:n<=m)(c:bW g n f vs Q X h):bW g m f vs Q X h:=by
 unfold bW at *
 exact λd=>c (V4 l d)
theorem LB(B:∀F,(∀a o,g.B.get? a=some o->NF o->F a o)->VR g F v val){tmp:List V}{vals:List V9}{st:St}{s:Wj}(R:aI g cx tmp vals st s):VR g (cx.F st s) v val:=
 B _ λa o e n=>⟨R.base a o e,R.bNone (WU e),λq=>Xh.mpr (R.rsv a q).1 (WU e),n⟩
theorem vl(T:Top g K)(e:nsIn K Xv x=some (some val))(hd:(x==("__debug__" : Str))=false)(B:∀F,(∀a o,g.B.get? a=some o->NF o->F a o)->VR g F v val):k9 g x v:=λd=>by
 intro A s tmp vals st Q X q R w
 obtain⟨y,j,h1,i,z⟩:=T.ns
 exact aF (acH R.ok.kind d (loadGlobal_global (by rw[R.ok.globals];exact h1.keeps R.base) (mg_of T.k h1 e) (R.up (LB B R) w)) hd)
theorem Bh(T:Top g K)(e:nsIn K Xv x=some none)(q:ab9 x=some val)(y:x≠ "__name__")(hd:(x==("__debug__" : Str))=false):k9 g x (.raw val):=λd=>by
 intro A s tmp vals st Q X z R w
 obtain⟨u,c,h1,j,i⟩:=T.ns
 exact aF (acH R.ok.kind d (loadGlobal_builtin (by rw[R.ok.globals];exact h1.keeps R.base) (mg_none_of T.k h1 e) (by rw[R.ok.builtins];exact j.keeps R.base) ((i x y).trans q) (R.up (v:=.raw val) rfl w)) hd)
end
noncomputable def Fn:Df:=⟨59,[V3 "octets"],[V3 "octets"],[]⟩
def Fo(g:Gl)(n:Nat):=(ah (aN (av g n bB (af (.str [])) (aa (a7 2 [] (hV (aj 1) j0 (dn (b1 KP) (aa (ae 1) ag))) (a6 (ae 0))) ag))) ai)
noncomputable def zd:Df:=⟨64,[V3 "text"],[V3 "text",V3 "numbers",V3 "number"],[]⟩
def tV(g:Gl)(n:Nat):=(ah (bA (aC .Gt (ae 2) (af (.int 255))) (ah (bj (ae 0)) ai) ai) ai)
def tW(g:Gl)(n:Nat):=(ah (dq (aj 2) (a6 (ae 1)) (tV g n)) (ah (aN (dn (b1 du) (aa (ae 1) ag))) ai))
def ze(g:Gl)(n:Nat):=(ah (aD (aj 1) (a7 2 [] (hV (aj 1) j0 (dn (b1 KO) (aa (ae 1) ag))) (a6 (ae 0)))) (tW g n))
noncomputable def Io:Df:=⟨71,[V3 "octets"],[V3 "octets",V3 "found",V3 "octet"],[V3 "found"]⟩
def Bi(g:Gl)(n:Nat):=(ah (fX (av g n aK (ae 1) (aa (aQ (af (.str [48,49,50,51,52,53,54,55,56,57,97,98,99,100,101,102])) (ao .BitAnd (ae 2) (af (.int 15)))) ag))) ai)
def Bj(g:Gl)(n:Nat):=(ah (fX (av g n aK (ae 1) (aa (aQ (af (.str [48,49,50,51,52,53,54,55,56,57,97,98,99,100,101,102])) (ao .RShift (ae 2) (af (.int 4)))) ag))) (Bi g n))
def Bk(g:Gl)(n:Nat):=(ah (aN (av g n bB (af (.str [])) (aa (ae 1) ag))) ai)
def Bl(g:Gl)(n:Nat):=(ah (dq (aj 2) (a6 (ae 0)) (Bj g n)) (Bk g n))
def Ip(g:Gl)(n:Nat):=(ah (aD (aj 1) (gx ag)) (Bl g n))
noncomputable def zf:Df:=⟨78,[V3 "sign"],[V3 "sign",V3 "place"],[]⟩
def tX(g:Gl)(n:Nat):=(ah (aN (bA (aC .GtE (ae 1) (af (.int 0))) (ae 1) (af .none))) ai)
def tY(g:Gl)(n:Nat):=(ah (bA (di (aC .Lt (ae 1) (af (.int 0))) (di (aC .In (ae 0) (af (.str [65,66,67,68,69,70]))) (af (.bool .true)))) (ah (aN (ao .Add (af (.int 10)) (av g n m_find (af (.str [65,66,67,68,69,70])) (aa (ae 0) ag)))) ai) ai) (tX g n))
def zg(g:Gl)(n:Nat):=(ah (aD (aj 1) (av g n m_find (af (.str [48,49,50,51,52,53,54,55,56,57,97,98,99,100,101,102])) (aa (ae 0) ag))) (tY g n))
noncomputable def qj:Df:=⟨85,[V3 "text"],[V3 "text",V3 "found",V3 "at",V3 "high",V3 "low"],[V3 "found"]⟩
def mA(g:Gl)(n:Nat):=(ah (fX (av g n aK (ae 1) (aa (ao .Add (ao .Mult (af (.int 16)) (ae 3)) (ae 4)) ag))) ai)
def mB(g:Gl)(n:Nat):=(ah (bA (cF (aC .Is (ae 3) (af .none)) (cF (aC .Is (ae 4) (af .none)) (af (.bool .false)))) (ah (bj (ae 0)) ai) ai) (mA g n))
def mC(g:Gl)(n:Nat):=(ah (aD (aj 4) (ak g n (.ref 78) (aa (aQ (ae 0) (ao .Add (ae 2) (af (.int 1)))) ag))) (mB g n))
def mD(g:Gl)(n:Nat):=(ah (aD (aj 3) (ak g n (.ref 78) (aa (aQ (ae 0) (ae 2)) ag))) (mC g n))
def mE(g:Gl)(n:Nat):=(ah (dq (aj 2) (da (aa (af (.int 0)) (aa (dn (b1 c5) (aa (ae 0) ag)) (aa (af (.int 2)) ag)))) (mD g n)) (ah (aN (dn (b1 du) (aa (ae 1) ag))) ai))
def qk(g:Gl)(n:Nat):=(ah (bA (aC .NotEq (ao .Mod (dn (b1 c5) (aa (ae 0) ag)) (af (.int 2))) (af (.int 0))) (ah (bj (ae 0)) ai) ai) (ah (aD (aj 1) (gx ag)) (mE g n)))
noncomputable def zh:Df:=⟨92,[V3 "octets",V3 "base"],[V3 "octets",V3 "base",V3 "number",V3 "octet",V3 "digit"],[]⟩
def tZ(g:Gl)(n:Nat):=(ah (aD (aj 2) (ao .Add (ao .Mult (ae 1) (ae 2)) (ae 4))) ai)
def t4(g:Gl)(n:Nat):=(ah (bA (gw (rO .LtE .Lt (af (.int 0)) (ae 4) (ae 1))) (ah (aN (af .none)) ai) ai) (tZ g n))
def t5(g:Gl)(n:Nat):=(ah (aD (aj 4) (ao .Sub (ae 3) (af (.int 48)))) (t4 g n))
def t6(g:Gl)(n:Nat):=(ah (dq (aj 3) (a6 (ae 0)) (t5 g n)) (ah (aN (ae 2)) ai))
def zj(g:Gl)(n:Nat):=(ah (bA (aC .Eq (dn (b1 c5) (aa (ae 0) ag)) (af (.int 0))) (ah (aN (af .none)) ai) ai) (ah (aD (aj 2) (af (.int 0))) (t6 g n)))
noncomputable def zk:Df:=⟨99,[V3 "octets"],[V3 "octets"],[]⟩
def t7(g:Gl)(n:Nat):=(ah (aN (ak g n (.ref 92) (aa (ae 0) (aa (af (.int 10)) ag)))) ai)
def zl(g:Gl)(n:Nat):=(ah (bA (di (aC .Gt (dn (b1 c5) (aa (ae 0) ag)) (af (.int 1))) (di (aC .Eq (aQ (ae 0) (af (.int 0))) (af (.int 48))) (af (.bool .true)))) (ah (aN (af .none)) ai) ai) (t7 g n))
noncomputable def mF:Df:=⟨110,[V3 "octets",V3 "signs"],[V3 "octets",V3 "signs",V3 "sign"],[]⟩
def j2(g:Gl)(n:Nat):=(ah (bA (aC .GtE (av g n m_find (ae 0) (aa (dn (b1 du) (aa (bp (aa (ae 2) ag)) ag)) ag)) (af (.int 0))) (ah (aN (af (.bool .true))) ai) ai) ai)
def mG(g:Gl)(n:Nat):=(ah (dq (aj 2) (a6 (ae 1)) (j2 g n)) (ah (aN (af (.bool .false))) ai))
noncomputable def oI:Df:=⟨117,[V3 "octets",V3 "signs"],[V3 "octets",V3 "signs",V3 "sign"],[]⟩
def lu(g:Gl)(n:Nat):=(ah (bA (aC .NotIn (ae 2) (ae 1)) (ah (aN (af (.bool .false))) ai) ai) ai)
def oJ(g:Gl)(n:Nat):=(ah (dq (aj 2) (a6 (ae 0)) (lu g n)) (ah (aN (af (.bool .true))) ai))
noncomputable def t8:Df:=⟨131,[V3 "self",V3 "name",V3 "email",V3 "when",V3 "zone"],[V3 "self",V3 "name",V3 "email",V3 "when",V3 "zone"],[]⟩
def ql(g:Gl)(n:Nat):=(ah (aD (bN (ae 0) my) (ae 3)) (ah (aD (bN (ae 0) mz) (ae 4)) ai))
def qm(g:Gl)(n:Nat):=(ah (aD (bN (ae 0) jr) (ae 2)) (ql g n))
def t9(g:Gl)(n:Nat):=(ah (aD (bN (ae 0) bH) (ae 1)) (qm g n))
noncomputable def qn:Df:=⟨138,[V3 "self"],[V3 "self"],[]⟩
def qo(g:Gl)(n:Nat):=(ah (aN (ao .Add (ao .Add (ao .Add (ao .Add (ao .Add (ao .Add (aS (ae 0) bH) (af (.bytes [32,60]))) (aS (ae 0) jr)) (af (.bytes [62,32]))) (ak g n (.ref 64) (aa (dn (b1 Ew) (aa (aS (ae 0) my) ag)) ag))) (af (.bytes [32]))) (aS (ae 0) mz))) ai)
noncomputable def ua:Df:=⟨152,[V3 "octets"],[V3 "octets",V3 "start",V3 "name",V3 "rest",V3 "end",V3 "email",V3 "blank",V3 "when",V3 "zone"],[]⟩
def qp(g:Gl)(n:Nat):=(ah (aN (ak g n (.ref 141) (aa (ae 2) (aa (ae 5) (aa (ae 7) (aa (ae 8) ag)))))) ai)
def qq(g:Gl)(n:Nat):=(ah (bA (cF (aC .NotEq (dn (b1 c5) (aa (ae 8) ag)) (af (.int 5))) (cF (aC .NotIn (aQ (ae 8) (af (.int 0))) (af (.bytes [43,45]))) (cF (gw (cu (ak g n (.ref 117) (aa (bb (ae 8) (af (.int 1)) (af .none)) (aa (af (.bytes [48,49,50,51,52,53,54,55,56,57])) ag))))) (af (.bool .false))))) (ah (bj (af (.str [97,32,122,111,110,101,32,116,104,97,116,32,105,115,32,110,111,110,101]))) ai) ai) (qp g n))
def qr(g:Gl)(n:Nat):=(ah (bA (aC .Is (ae 7) (af .none)) (ah (bj (af (.str [97,32,109,111,109,101,110,116,32,116,104,97,116,32,105,115,32,110,111,32,110,117,109,98,101,114]))) ai) ai) (qq g n))
def qt(g:Gl)(n:Nat):=(ah (bZ [8,7] (aa (ak g n (.ref 99) (aa (bb (ae 3) (af .none) (ae 6)) ag)) (aa (bb (ae 3) (ao .Add (ae 6) (af (.int 1))) (af .none)) ag))) (qr g n))
def iK(g:Gl)(n:Nat):=(ah (bA (aC .Lt (ae 6) (af (.int 0))) (ah (bj (af (.str [97,32,112,101,114,115,111,110,32,119,105,116,104,111,117,116,32,97,32,122,111,110,101]))) ai) ai) (qt g n))
def qu(g:Gl)(n:Nat):=(ah (aD (aj 6) (av g n m_find (ae 3) (aa (af (.bytes [32])) ag))) (iK g n))
def qv(g:Gl)(n:Nat):=(ah (bA (cu (ak g n (.ref 110) (aa (ao .Add (ae 2) (ae 5)) (aa (af (.bytes [60,62,10,0])) ag)))) (ah (bj (af (.str [115,105,103,110,115,32,116,104,97,116,32,110,111,32,112,101,114,115,111,110,32,104,97,115]))) ai) ai) (qu g n))
def qw(g:Gl)(n:Nat):=(ah (bZ [3,5] (aa (bb (ae 3) (af .none) (ae 4)) (aa (bb (ae 3) (ao .Add (ae 4) (af (.int 2))) (af .none)) ag))) (qv g n))
def qx(g:Gl)(n:Nat):=(ah (bA (aC .Lt (ae 4) (af (.int 0))) (ah (bj (af (.str [97,32,112,101,114,115,111,110,32,119,105,116,104,111,117,116,32,98,114,97,99,107,101,116,115]))) ai) ai) (qw g n))
def gS(g:Gl)(n:Nat):=(ah (aD (aj 4) (av g n m_find (ae 3) (aa (af (.bytes [62,32])) ag))) (qx g n))
def oK(g:Gl)(n:Nat):=(ah (bZ [3,2] (aa (bb (ae 0) (af .none) (ae 1)) (aa (bb (ae 0) (ao .Add (ae 1) (af (.int 2))) (af .none)) ag))) (gS g n))
def oL(g:Gl)(n:Nat):=(ah (bA (aC .Lt (ae 1) (af (.int 0))) (ah (bj (af (.str [97,32,112,101,114,115,111,110,32,119,105,116,104,111,117,116,32,98,114,97,99,107,101,116,115]))) ai) ai) (oK g n))
def ub(g:Gl)(n:Nat):=(ah (aD (aj 1) (av g n m_find (ae 0) (aa (af (.bytes [32,60])) ag))) (oL g n))
noncomputable def wG:Df:=⟨166,[V3 "self",V3 "mode",V3 "name",V3 "oid"],[V3 "self",V3 "mode",V3 "name",V3 "oid"],[]⟩
def sg(g:Gl)(n:Nat):=(ah (aD (bN (ae 0) bH) (ae 2)) (ah (aD (bN (ae 0) jt) (ae 3)) ai))
def wH(g:Gl)(n:Nat):=(ah (aD (bN (ae 0) fG) (ae 1)) (sg g n))
noncomputable def oM:Df:=⟨173,[V3 "self"],[V3 "self"],[]⟩
def oN(g:Gl)(n:Nat):=(ah (aN (bA (aC .Eq (aS (ae 0) fG) (af (.int 16384))) (ao .Add (aS (ae 0) bH) (af (.bytes [47]))) (aS (ae 0) bH))) ai)
noncomputable def sh:Df:=⟨187,[V3 "self"],[V3 "self"],[]⟩
def si(g:Gl)(n:Nat):=(ah (aN (ao .Add (ao .Add (ao .Add (ao .Add (ak g n (.ref 201) (aa (aS (ae 0) fG) ag)) (af (.bytes [32]))) (aS (ae 0) bH)) (af (.bytes [0]))) (aS (ae 0) jt))) ai)
noncomputable def ly:Df:=⟨201,[V3 "number"],[V3 "number",V3 "digits"],[]⟩
def ju(g:Gl)(n:Nat):=(ah (aD (aj 0) (ao .FloorDiv (ae 0) (af (.int 8)))) ai)
def jv(g:Gl)(n:Nat):=(ah (fX (av g n aK (ae 1) (aa (ao .Add (af (.int 48)) (ao .Mod (ae 0) (af (.int 8)))) ag))) (ju g n))
def jw(g:Gl)(n:Nat):=(ah (fX (av g n vi (ae 1) ag)) (ah (aN (dn (b1 du) (aa (ae 1) ag))) ai))
def jx(g:Gl)(n:Nat):=(ah (fW (cF (aC .Gt (ae 0) (af (.int 0))) (cF (aC .Eq (dn (b1 c5) (aa (ae 1) ag)) (af (.int 0))) (af (.bool .false)))) (jv g n)) (jw g n))
def lz(g:Gl)(n:Nat):=(ah (aD (aj 1) (dn wh ag)) (jx g n))
noncomputable def j3:Df:=⟨208,[V3 "name"],[V3 "name"],[]⟩
def iR(g:Gl)(n:Nat):=(ah (bA (cu (ak g n (.ref 110) (aa (ae 0) (aa (af (.bytes [47,0])) ag)))) (ah (aN (af (.str [97,32,110,97,109,101,32,119,105,116,104,32,97,32,115,116,114,111,107,101,32,111,114,32,97,32,110,111,117,103,104,116]))) ai) ai) (ah (aN (af .none)) ai))
def iS(g:Gl)(n:Nat):=(ah (bA (aC .Eq (av g n m_lower (ae 0) ag) (af (.bytes [46,103,105,116]))) (ah (aN (af (.str [116,104,101,32,110,97,109,101,32,111,102,32,116,104,101,32,115,116,111,114,101,32,105,116,115,101,108,102]))) ai) ai) (iR g n))
def iU(g:Gl)(n:Nat):=(ah (bA (aC .In (ae 0) (c8 (aa (af (.bytes [46])) (aa (af (.bytes [46,46])) ag)))) (ah (aN (af (.str [97,32,110,97,109,101,32,111,102,32,100,111,116,115]))) ai) ai) (iS g n))
def j4(g:Gl)(n:Nat):=(ah (bA (aC .Eq (ae 0) (af (.bytes []))) (ah (aN (af (.str [97,110,32,101,109,112,116,121,32,110,97,109,101]))) ai) ai) (iU g n))
noncomputable def zm:Df:=⟨222,[V3 "self",V3 "entries"],[V3 "self",V3 "entries"],[]⟩
def zo(g:Gl)(n:Nat):=(ah (aD (bN (ae 0) dM) (ae 1)) ai)
noncomputable def uc:Df:=⟨229,[V3 "self"],[V3 "self",V3 "parts",V3 "entry"],[V3 "parts"]⟩
def qy(g:Gl)(n:Nat):=(ah (fX (av g n aK (ae 1) (aa (av g n df (ae 2) ag) ag))) ai)
def qz(g:Gl)(n:Nat):=(ah (aN (av g n bB (af (.bytes [])) (aa (ae 1) ag))) ai)
def qA(g:Gl)(n:Nat):=(ah (dq (aj 2) (a6 (aS (ae 0) dM)) (qy g n)) (qz g n))
def ud(g:Gl)(n:Nat):=(ah (aD (aj 1) (gx ag)) (qA g n))
noncomputable def zp:Df:=⟨236,[V3 "self",V3 "name"],[V3 "self",V3 "name",V3 "entry"],[]⟩
def ue(g:Gl)(n:Nat):=(ah (bA (aC .Eq (aS (ae 2) bH) (ae 1)) (ah (aN (ae 2)) ai) ai) ai)
def zq(g:Gl)(n:Nat):=(ah (dq (aj 2) (a6 (aS (ae 0) dM)) (ue g n)) (ah (aN (af .none)) ai))
noncomputable def uf:Df:=⟨250,[V3 "tree"],[V3 "tree",V3 "found",V3 "known",V3 "ahead",V3 "entry",V3 "odd"],[V3 "found"]⟩
def qB(g:Gl)(n:Nat):=(ah (aD (fV (ae 2) (aS (ae 4) bH)) (af (.bool .true))) (ah (aD (aj 3) (av g n lg (ae 4) ag)) ai))
def qC(g:Gl)(n:Nat):=(ah (bA (cu (ak g n (.ref 117) (aa (aS (ae 4) jt) (aa (af (.bytes [0])) ag)))) (ah (fX (av g n aK (ae 1) (aa (af (.str [97,110,32,105,100,32,111,102,32,110,111,117,103,104,116,115])) ag))) ai) ai) (qB g n))
def qD(g:Gl)(n:Nat):=(ah (bA (aC .In (aS (ae 4) bH) (ae 2)) (ah (fX (av g n aK (ae 1) (aa (af (.str [97,32,110,97,109,101,32,116,119,105,99,101])) ag))) ai) (ah (bA (di (aC .IsNot (ae 3) (af .none)) (di (aC .LtE (av g n lg (ae 4) ag) (ae 3)) (af (.bool .true)))) (ah (fX (av g n aK (ae 1) (aa (af (.str [101,110,116,114,105,101,115,32,111,117,116,32,111,102,32,111,114,100,101,114])) ag))) ai) ai) ai)) (qC g n))
def qE(g:Gl)(n:Nat):=(ah (bA (aC .IsNot (ae 5) (af .none)) (ah (fX (av g n aK (ae 1) (aa (ae 5) ag))) ai) ai) (qD g n))
def qF(g:Gl)(n:Nat):=(ah (aD (aj 5) (ak g n (.ref 208) (aa (aS (ae 4) bH) ag))) (qE g n))
def qG(g:Gl)(n:Nat):=(ah (bA (aC .NotIn (aS (ae 4) fG) (af (.tup [.int 33188,.int 33261,.int 40960,.int 16384,.int 57344]))) (ah (fX (av g n aK (ae 1) (aa (af (.str [97,32,109,111,100,101,32,116,104,97,116,32,105,115,32,110,111,110,101])) ag))) ai) ai) (qF g n))
def qH(g:Gl)(n:Nat):=(ah (dq (aj 4) (a6 (aS (ae 0) dM)) (qG g n)) (ah (aN (ae 1)) ai))
def ug(g:Gl)(n:Nat):=(ah (bZ [3,2,1] (aa (gx ag) (aa (r6 .b) (aa (af .none) ag)))) (qH g n))
noncomputable def wI:Df:=⟨257,[V3 "tree"],[V3 "tree",V3 "found"],[]⟩
def sj(g:Gl)(n:Nat):=(ah (bA (aC .Gt (dn (b1 c5) (aa (ae 1) ag)) (af (.int 0))) (ah (bj (aQ (ae 1) (af (.int 0)))) ai) ai) ai)
def wJ(g:Gl)(n:Nat):=(ah (aD (aj 1) (ak g n (.ref 250) (aa (ae 0) ag))) (sj g n))
noncomputable def oO:Df:=⟨264,[V3 "octets"],[V3 "octets",V3 "mode",V3 "sign"],[]⟩
def lA(g:Gl)(n:Nat):=(ah (aD (aj 1) (ao .Sub (ao .Add (ao .Mult (af (.int 8)) (ae 1)) (ae 2)) (af (.int 48)))) ai)
def lB(g:Gl)(n:Nat):=(ah (bA (di (aC .NotIn (ae 1) (af (.tup [.int 33188,.int 33261,.int 40960,.int 16384,.int 57344]))) (di (aC .NotEq (ae 1) (af (.int 33204))) (af (.bool .true)))) (ah (bj (af (.str [97,32,109,111,100,101,32,116,104,97,116,32,105,115,32,110,111,110,101]))) ai) ai) (ah (aN (ae 1)) ai))
def lC(g:Gl)(n:Nat):=(ah (dq (aj 2) (a6 (ae 0)) (lA g n)) (lB g n))
def oP(g:Gl)(n:Nat):=(ah (bA (cF (aC .Eq (ae 0) (af (.bytes []))) (cF (gw (cu (ak g n (.ref 117) (aa (ae 0) (aa (af (.bytes [48,49,50,51,52,53,54,55])) ag))))) (cF (aC .Eq (aQ (ae 0) (af (.int 0))) (af (.int 48))) (cF (aC .Gt (dn (b1 c5) (aa (ae 0) ag)) (af (.int 6))) (af (.bool .false)))))) (ah (bj (af (.str [97,32,109,111,100,101,32,116,104,97,116,32,105,115,32,119,114,105,116,116,101,110,32,111,116,104,101,114,119,105,115,101]))) ai) ai) (ah (aD (aj 1) (af (.int 0))) (lC g n)))
noncomputable def zr:Df:=⟨271,[V3 "octets",V3 "size"],[V3 "octets",V3 "size",V3 "entries",V3 "at",V3 "blank",V3 "mode",V3 "end"],[V3 "entries"]⟩
def uh(g:Gl)(n:Nat):=(ah (aD (aj 3) (ao .Add (ao .Add (ae 6) (af (.int 1))) (ae 1))) ai)
def ui(g:Gl)(n:Nat):=(ah (fX (av g n aK (ae 2) (aa (ak g n (.ref 190) (aa (ae 5) (aa (bb (ae 0) (ao .Add (ae 4) (af (.int 1))) (ae 6)) (aa (bb (ae 0) (ao .Add (ae 6) (af (.int 1))) (ao .Add (ao .Add (ae 6) (af (.int 1))) (ae 1))) ag)))) ag))) (uh g n))
def uj(g:Gl)(n:Nat):=(ah (bA (aC .Eq (ae 6) (ao .Add (ae 4) (af (.int 1)))) (ah (bj (af (.str [97,110,32,101,109,112,116,121,32,110,97,109,101]))) ai) ai) (ui g n))
def uk(g:Gl)(n:Nat):=(ah (bA (cF (aC .Lt (ae 6) (af (.int 0))) (cF (aC .Gt (ao .Add (ao .Add (ae 6) (af (.int 1))) (ae 1)) (dn (b1 c5) (aa (ae 0) ag))) (af (.bool .false)))) (ah (bj (af (.str [97,32,116,114,101,101,32,99,117,116,32,115,104,111,114,116]))) ai) ai) (uj g n))
def um(g:Gl)(n:Nat):=(ah (aD (aj 6) (av g n m_find (ae 0) (aa (af (.bytes [0])) (aa (ao .Add (ae 4) (af (.int 1))) ag)))) (uk g n))
def uo(g:Gl)(n:Nat):=(ah (aD (aj 5) (ak g n (.ref 264) (aa (bb (ae 0) (ae 3) (ae 4)) ag))) (um g n))
def ur(g:Gl)(n:Nat):=(ah (bA (aC .Lt (ae 4) (af (.int 0))) (ah (bj (af (.str [97,32,116,114,101,101,32,99,117,116,32,115,104,111,114,116]))) ai) ai) (uo g n))
def uu(g:Gl)(n:Nat):=(ah (aD (aj 4) (av g n m_find (ae 0) (aa (af (.bytes [32])) (aa (ae 3) ag)))) (ur g n))
def uv(g:Gl)(n:Nat):=(ah (fW (aC .Lt (ae 3) (dn (b1 c5) (aa (ae 0) ag))) (uu g n)) (ah (aN (ak g n (.ref 239) (aa (ae 2) ag))) ai))
def zt(g:Gl)(n:Nat):=(ah (bZ [3,2] (aa (gx ag) (aa (af (.int 0)) ag))) (uv g n))
noncomputable def mH:Df:=⟨278,[V3 "key",V3 "value"],[V3 "key",V3 "value"],[]⟩
def mI(g:Gl)(n:Nat):=(ah (aN (ao .Add (ao .Add (ao .Add (ae 0) (af (.bytes [32]))) (av g n bB (af (.bytes [10,32])) (aa (av g n m_split (ae 1) (aa (af (.bytes [10])) ag)) ag))) (af (.bytes [10])))) ai)
noncomputable def oQ:Df:=⟨285,[V3 "octets",V3 "size"],[V3 "octets",V3 "size"],[]⟩
def lD(g:Gl)(n:Nat):=(ah (aN (ak g n (.ref 85) (aa (ak g n (.ref 59) (aa (ae 0) ag)) ag))) ai)
def oR(g:Gl)(n:Nat):=(ah (bA (cF (aC .NotEq (dn (b1 c5) (aa (ae 0) ag)) (ao .Mult (af (.int 2)) (ae 1))) (cF (gw (cu (ak g n (.ref 117) (aa (ae 0) (aa (af (.bytes [48,49,50,51,52,53,54,55,56,57,97,98,99,100,101,102])) ag))))) (af (.bool .false)))) (ah (bj (af (.str [97,110,32,105,100,32,116,104,97,116,32,105,115,32,110,111,110,101]))) ai) ai) (lD g n))
noncomputable def sm:Df:=⟨292,[V3 "octets"],[V3 "octets",V3 "heads",V3 "at",V3 "end",V3 "row",V3 "key",V3 "value",V3 "blank"],[V3 "heads"]⟩
def oS(g:Gl)(n:Nat):=(ah (aD (fV (ae 1) (Gy (af (.int 1)))) (c8 (aa (ae 5) (aa (ao .Add (ao .Add (ae 6) (af (.bytes [10]))) (bb (ae 4) (af (.int 1)) (af .none))) ag)))) ai)
def oU(g:Gl)(n:Nat):=(ah (aD (cL 2 [(aj 5),(aj 6)]) (aQ (ae 1) (Gy (af (.int 1))))) (oS g n))
def oV(g:Gl)(n:Nat):=(ah (fX (av g n aK (ae 1) (aa (c8 (aa (bb (ae 4) (af .none) (ae 7)) (aa (bb (ae 4) (ao .Add (ae 7) (af (.int 1))) (af .none)) ag))) ag))) ai)
def oW(g:Gl)(n:Nat):=(ah (bA (aC .Lt (ae 7) (af (.int 1))) (ah (bj (af (.str [97,32,104,101,97,100,32,119,105,116,104,111,117,116,32,97,32,118,97,108,117,101]))) ai) ai) (oV g n))
def gT(g:Gl)(n:Nat):=(ah (bA (aC .Eq (bb (ae 4) (af .none) (af (.int 1))) (af (.bytes [32]))) (ah (bA (aC .Eq (dn (b1 c5) (aa (ae 1) ag)) (af (.int 0))) (ah (bj (af (.str [97,32,104,101,97,100,32,116,104,97,116,32,103,111,101,115,32,111,110,32,97,110,100,32,104,97,115,32,110,111,116,32,98,101,103,117,110]))) ai) ai) (oU g n)) (ah (aD (aj 7) (av g n m_find (ae 4) (aa (af (.bytes [32])) ag))) (oW g n))) ai)
def oX(g:Gl)(n:Nat):=(ah (bZ [2,4] (aa (bb (ae 0) (ae 2) (ae 3)) (aa (ao .Add (ae 3) (af (.int 1))) ag))) (gT g n))
def oY(g:Gl)(n:Nat):=(ah (bA (aC .Eq (ae 3) (ae 2)) (ah (aN (c8 (aa (ae 1) (aa (bb (ae 0) (ao .Add (ae 3) (af (.int 1))) (af .none)) ag)))) ai) ai) (oX g n))
def oZ(g:Gl)(n:Nat):=(ah (bA (aC .Lt (ae 3) (af (.int 0))) (ah (bj (af (.str [104,101,97,100,115,32,119,105,116,104,111,117,116,32,97,110,32,101,110,100]))) ai) ai) (oY g n))
def pb(g:Gl)(n:Nat):=(ah (aD (aj 3) (av g n m_find (ae 0) (aa (af (.bytes [10])) (aa (ae 2) ag)))) (oZ g n))
def mJ(g:Gl)(n:Nat):=(ah (fW (cu (af (.bool .true))) (pb g n)) ai)
def mK(g:Gl)(n:Nat):=(ah (bZ [2,1] (aa (gx ag) (aa (af (.int 0)) ag))) (mJ g n))
def sr(g:Gl)(n:Nat):=(ah (bA (aC .GtE (av g n m_find (ae 0) (aa (af (.bytes [0])) ag)) (af (.int 0))) (ah (bj (af (.str [97,32,110,111,117,103,104,116]))) ai) ai) (mK g n))
noncomputable def iV:Df:=⟨306,[V3 "self",V3 "heads"],[V3 "self",V3 "heads"],[]⟩
def iW(g:Gl)(n:Nat):=(ah (aD (bN (ae 0) gR) (ae 1)) (ah (aD (bN (ae 0) se) (af (.int 0))) ai))
noncomputable def gy:Df:=⟨313,[V3 "self",V3 "key"],[V3 "self",V3 "key"],[]⟩
def gz(g:Gl)(n:Nat):=(ah (aN (di (aC .Lt (aS (ae 0) se) (dn (b1 c5) (aa (aS (ae 0) gR) ag))) (aC .Eq (aQ (aQ (aS (ae 0) gR) (aS (ae 0) se)) (af (.int 0))) (ae 1)))) ai)
noncomputable def iX:Df:=⟨320,[V3 "self",V3 "key"],[V3 "self",V3 "key"],[]⟩
def gU(g:Gl)(n:Nat):=(ah (aN (aQ (aQ (aS (ae 0) gR) (ao .Sub (aS (ae 0) se) (af (.int 1)))) (af (.int 1)))) ai)
def gV(g:Gl)(n:Nat):=(ah (KA (ae 0) se (af (.int 1))) (gU g n))
def iY(g:Gl)(n:Nat):=(ah (bA (gw (cu (av g n fO (ae 0) (aa (ae 1) ag)))) (ah (bj (ao .Add (ao .Add (af (.str [110,111,32])) (ak g n (.ref 59) (aa (ae 1) ag))) (af (.str [32,105,110,32,105,116,115,32,112,108,97,99,101])))) ai) ai) (gV g n))
noncomputable def iZ:Df:=⟨327,[V3 "self"],[V3 "self"],[]⟩
def i3(g:Gl)(n:Nat):=(ah (aN (bb (aS (ae 0) gR) (aS (ae 0) se) (af .none))) ai)
noncomputable def uw:Df:=⟨348,[V3 "self",V3 "tree",V3 "parents",V3 "author",V3 "committer",V3 "extra",V3 "message"],[V3 "self",V3 "tree",V3 "parents",V3 "author",V3 "committer",V3 "extra",V3 "message"],[]⟩
def qI(g:Gl)(n:Nat):=(ah (aD (bN (ae 0) js) (ae 5)) (ah (aD (bN (ae 0) cf) (ae 6)) ai))
def qJ(g:Gl)(n:Nat):=(ah (aD (bN (ae 0) d4) (ae 4)) (qI g n))
def qK(g:Gl)(n:Nat):=(ah (aD (bN (ae 0) gQ) (ae 3)) (qJ g n))
def qL(g:Gl)(n:Nat):=(ah (aD (bN (ae 0) f6) (ae 2)) (qK g n))
def ux(g:Gl)(n:Nat):=(ah (aD (bN (ae 0) mx) (ae 1)) (qL g n))
noncomputable def qM:Df:=⟨355,[V3 "self"],[V3 "self",V3 "parts",V3 "oid",V3 "key",V3 "value"],[V3 "parts"]⟩
def mL(g:Gl)(n:Nat):=(ah (fX (av g n aK (ae 1) (aa (ao .Add (ao .Add (af (.bytes [112,97,114,101,110,116,32])) (ak g n (.ref 64) (aa (ak g n (.ref 71) (aa (ae 2) ag)) ag))) (af (.bytes [10]))) ag))) ai)
def mM(g:Gl)(n:Nat):=(ah (fX (av g n aK (ae 1) (aa (ak g n (.ref 278) (aa (ae 3) (aa (ae 4) ag))) ag))) ai)
def mN(g:Gl)(n:Nat):=(ah (aN (av g n bB (af (.bytes [])) (aa (ae 1) ag))) ai)
def mO(g:Gl)(n:Nat):=(ah (fX (av g n aK (ae 1) (aa (ao .Add (af (.bytes [10])) (aS (ae 0) cf)) ag))) (mN g n))
def mP(g:Gl)(n:Nat):=(ah (dq (cL 2 [(aj 3),(aj 4)]) (a6 (aS (ae 0) js)) (mM g n)) (mO g n))
def mQ(g:Gl)(n:Nat):=(ah (fX (av g n aK (ae 1) (aa (ao .Add (ao .Add (af (.bytes [99,111,109,109,105,116,116,101,114,32])) (av g n df (aS (ae 0) d4) ag)) (af (.bytes [10]))) ag))) (mP g n))
def mR(g:Gl)(n:Nat):=(ah (fX (av g n aK (ae 1) (aa (ao .Add (ao .Add (af (.bytes [97,117,116,104,111,114,32])) (av g n df (aS (ae 0) gQ) ag)) (af (.bytes [10]))) ag))) (mQ g n))
def mS(g:Gl)(n:Nat):=(ah (dq (aj 2) (a6 (aS (ae 0) f6)) (mL g n)) (mR g n))
def qN(g:Gl)(n:Nat):=(ah (aD (aj 1) (gx (aa (ao .Add (ao .Add (af (.bytes [116,114,101,101,32])) (ak g n (.ref 64) (aa (ak g n (.ref 71) (aa (aS (ae 0) mx) ag)) ag))) (af (.bytes [10]))) ag))) (mS g n))
noncomputable def uy:Df:=⟨376,[V3 "octets",V3 "size"],[V3 "octets",V3 "size",V3 "heads",V3 "message",V3 "walk",V3 "tree",V3 "parents",V3 "author",V3 "committer",V3 "key",V3 "value"],[V3 "parents"]⟩
def qO(g:Gl)(n:Nat):=(ah (fX (av g n aK (ae 6) (aa (ak g n (.ref 285) (aa (av g n fe (ae 4) (aa (af (.bytes [112,97,114,101,110,116])) ag)) (aa (ae 1) ag))) ag))) ai)
def qP(g:Gl)(n:Nat):=(ah (bA (aC .In (ae 9) (af (.tup [.bytes [116,114,101,101],.bytes [112,97,114,101,110,116],.bytes [97,117,116,104,111,114],.bytes [99,111,109,109,105,116,116,101,114]]))) (ah (bj (af (.str [97,32,104,101,97,100,32,111,117,116,32,111,102,32,105,116,115,32,112,108,97,99,101]))) ai) ai) ai)
def qQ(g:Gl)(n:Nat):=(ah (aN (ak g n (.ref 365) (aa (ae 5) (aa (ae 6) (aa (ae 7) (aa (ae 8) (aa (av g n oH (ae 4) ag) (aa (ae 3) ag)))))))) ai)
def iL(g:Gl)(n:Nat):=(ah (dq (cL 2 [(aj 9),(aj 10)]) (a6 (av g n oH (ae 4) ag)) (qP g n)) (qQ g n))
def qR(g:Gl)(n:Nat):=(ah (aD (aj 8) (ak g n (.ref 152) (aa (av g n fe (ae 4) (aa (af (.bytes [99,111,109,109,105,116,116,101,114])) ag)) ag))) (iL g n))
def qS(g:Gl)(n:Nat):=(ah (aD (aj 7) (ak g n (.ref 152) (aa (av g n fe (ae 4) (aa (af (.bytes [97,117,116,104,111,114])) ag)) ag))) (qR g n))
def iM(g:Gl)(n:Nat):=(ah (fW (cu (av g n fO (ae 4) (aa (af (.bytes [112,97,114,101,110,116])) ag))) (qO g n)) (qS g n))
def qT(g:Gl)(n:Nat):=(ah (bZ [6,5] (aa (ak g n (.ref 285) (aa (av g n fe (ae 4) (aa (af (.bytes [116,114,101,101])) ag)) (aa (ae 1) ag))) (aa (gx ag) ag))) (iM g n))
def qU(g:Gl)(n:Nat):=(ah (aD (aj 4) (ak g n (.ref 330) (aa (ae 2) ag))) (qT g n))
def uz(g:Gl)(n:Nat):=(ah (aD (cL 2 [(aj 2),(aj 3)]) (ak g n (.ref 292) (aa (ae 0) ag))) (qU g n))
noncomputable def i4:Df:=⟨383,[V3 "message"],[V3 "message",V3 "found",V3 "at",V3 "opening",V3 "end"],[]⟩
def gW(g:Gl)(n:Nat):=(ah (bA (cu (av g n m_startswith (ae 0) (aa (ae 3) (aa (ae 2) ag)))) (ah (aD (aj 1) (ae 2)) ai) ai) ai)
def gX(g:Gl)(n:Nat):=(ah (aD (aj 2) (bA (aC .Lt (ae 4) (af (.int 0))) (dn (b1 c5) (aa (ae 0) ag)) (ao .Add (ae 4) (af (.int 1))))) ai)
def gY(g:Gl)(n:Nat):=(ah (aD (aj 4) (av g n m_find (ae 0) (aa (af (.bytes [10])) (aa (ae 2) ag)))) (gX g n))
def gZ(g:Gl)(n:Nat):=(ah (dq (aj 3) (a6 (af (.tup [.bytes [45,45,45,45,45,66,69,71,73,78,32,80,71,80,32,83,73,71,78,65,84,85,82,69,45,45,45,45,45],.bytes [45,45,45,45,45,66,69,71,73,78,32,80,71,80,32,77,69,83,83,65,71,69,45,45,45,45,45],.bytes [45,45,45,45,45,66,69,71,73,78,32,83,73,71,78,69,68,32,77,69,83,83,65,71,69,45,45,45,45,45],.bytes [45,45,45,45,45,66,69,71,73,78,32,83,83,72,32,83,73,71,78,65,84,85,82,69,45,45,45,45,45]]))) (gW g n)) (gY g n))
def g0(g:Gl)(n:Nat):=(ah (fW (aC .Lt (ae 2) (dn (b1 c5) (aa (ae 0) ag))) (gZ g n)) (ah (aN (ae 1)) ai))
def i5(g:Gl)(n:Nat):=(ah (bZ [2,1] (aa (dn (b1 c5) (aa (ae 0) ag)) (aa (af (.int 0)) ag))) (g0 g n))
noncomputable def Bm:Df:=⟨398,[V3 "self",V3 "target",V3 "kind",V3 "name",V3 "tagger",V3 "message",V3 "signature"],[V3 "self",V3 "target",V3 "kind",V3 "name",V3 "tagger",V3 "message",V3 "signature"],[]⟩
def wK(g:Gl)(n:Nat):=(ah (aD (bN (ae 0) cf) (ae 5)) (ah (aD (bN (ae 0) d5) (ae 6)) ai))
def wL(g:Gl)(n:Nat):=(ah (aD (bN (ae 0) bH) (ae 3)) (ah (aD (bN (ae 0) cW) (ae 4)) (wK g n)))
def Bn(g:Gl)(n:Nat):=(ah (aD (bN (ae 0) fN) (ae 1)) (ah (aD (bN (ae 0) jR) (ae 2)) (wL g n)))
noncomputable def mT:Df:=⟨405,[V3 "self"],[V3 "self",V3 "parts"],[V3 "parts"]⟩
def j5(g:Gl)(n:Nat):=(ah (aN (av g n bB (af (.bytes [])) (aa (ae 1) ag))) ai)
def fq(g:Gl)(n:Nat):=(ah (fX (av g n aK (ae 1) (aa (ao .Add (af (.bytes [10])) (aS (ae 0) cf)) ag))) (j5 g n))
def j6(g:Gl)(n:Nat):=(ah (bA (aC .IsNot (aS (ae 0) cW) (af .none)) (ah (fX (av g n aK (ae 1) (aa (ao .Add (ao .Add (af (.bytes [116,97,103,103,101,114,32])) (av g n df (aS (ae 0) cW) ag)) (af (.bytes [10]))) ag))) ai) ai) (fq g n))
def j7(g:Gl)(n:Nat):=(ah (fX (av g n aK (ae 1) (aa (ao .Add (ao .Add (af (.bytes [116,97,103,32])) (aS (ae 0) bH)) (af (.bytes [10]))) ag))) (j6 g n))
def j8(g:Gl)(n:Nat):=(ah (fX (av g n aK (ae 1) (aa (ao .Add (ao .Add (af (.bytes [116,121,112,101,32])) (aS (ae 0) jR)) (af (.bytes [10]))) ag))) (j7 g n))
def mU(g:Gl)(n:Nat):=(ah (aD (aj 1) (gx (aa (ao .Add (ao .Add (af (.bytes [111,98,106,101,99,116,32])) (ak g n (.ref 64) (aa (ak g n (.ref 71) (aa (aS (ae 0) fN) ag)) ag))) (af (.bytes [10]))) ag))) (j8 g n))
noncomputable def wM:Df:=⟨412,[V3 "self"],[V3 "self"],[]⟩
def wN(g:Gl)(n:Nat):=(ah (aN (ao .Add (av g n kN (ae 0) ag) (aS (ae 0) d5))) ai)
noncomputable def Bo:Df:=⟨426,[V3 "octets",V3 "size"],[V3 "octets",V3 "size",V3 "heads",V3 "message",V3 "walk",V3 "target",V3 "kind",V3 "name",V3 "tagger",V3 "at"],[]⟩
def wO(g:Gl)(n:Nat):=(ah (aN (ak g n (.ref 415) (aa (ae 5) (aa (ae 6) (aa (ae 7) (aa (ae 8) (aa (bb (ae 3) (af .none) (ae 9)) (aa (bb (ae 3) (ae 9) (af .none)) ag)))))))) ai)
def wQ(g:Gl)(n:Nat):=(ah (aD (aj 9) (ak g n (.ref 383) (aa (ae 3) ag))) (wO g n))
def mV(g:Gl)(n:Nat):=(ah (bA (aC .Gt (dn (b1 c5) (aa (av g n oH (ae 4) ag) ag)) (af (.int 0))) (ah (bj (af (.str [97,32,104,101,97,100,32,111,117,116,32,111,102,32,105,116,115,32,112,108,97,99,101]))) ai) ai) (wQ g n))
def wR(g:Gl)(n:Nat):=(ah (aD (aj 8) (bA (cu (av g n fO (ae 4) (aa (af (.bytes [116,97,103,103,101,114])) ag))) (ak g n (.ref 152) (aa (av g n fe (ae 4) (aa (af (.bytes [116,97,103,103,101,114])) ag)) ag)) (af .none))) (mV g n))
def wU(g:Gl)(n:Nat):=(ah (bA (cF (aC .Eq (ae 7) (af (.bytes []))) (cF (aC .GtE (av g n m_find (ae 7) (aa (af (.bytes [10])) ag)) (af (.int 0))) (af (.bool .false)))) (ah (bj (af (.str [97,32,116,97,103,32,119,105,116,104,111,117,116,32,97,32,110,97,109,101]))) ai) ai) (wR g n))
def mW(g:Gl)(n:Nat):=(ah (bA (aC .NotIn (ae 6) (af (.tup [.bytes [98,108,111,98],.bytes [116,114,101,101],.bytes [99,111,109,109,105,116],.bytes [116,97,103]]))) (ah (bj (af (.str [97,32,107,105,110,100,32,116,104,97,116,32,105,115,32,110,111,110,101]))) ai) ai) (wU g n))
def wV(g:Gl)(n:Nat):=(ah (bZ [7,6,5] (aa (ak g n (.ref 285) (aa (av g n fe (ae 4) (aa (af (.bytes [111,98,106,101,99,116])) ag)) (aa (ae 1) ag))) (aa (av g n fe (ae 4) (aa (af (.bytes [116,121,112,101])) ag)) (aa (av g n fe (ae 4) (aa (af (.bytes [116,97,103])) ag)) ag)))) (mW g n))
def wW(g:Gl)(n:Nat):=(ah (aD (aj 4) (ak g n (.ref 330) (aa (ae 2) ag))) (wV g n))
def Bp(g:Gl)(n:Nat):=(ah (aD (cL 2 [(aj 2),(aj 3)]) (ak g n (.ref 292) (aa (ae 0) ag))) (wW g n))
noncomputable def uA:Df:=⟨433,[V3 "kind",V3 "octets",V3 "size"],[V3 "kind",V3 "octets",V3 "size"],[]⟩
def qV(g:Gl)(n:Nat):=(ah (bA (aC .NotEq (ae 0) (af (.bytes [98,108,111,98]))) (ah (bj (af (.str [97,32,107,105,110,100,32,116,104,97,116,32,105,115,32,110,111,110,101]))) ai) ai) (ah (aN (ae 1)) ai))
def qW(g:Gl)(n:Nat):=(ah (bA (aC .Eq (ae 0) (af (.bytes [116,97,103]))) (ah (aN (ak g n (.ref 426) (aa (ae 1) (aa (ae 2) ag)))) ai) ai) (qV g n))
def qX(g:Gl)(n:Nat):=(ah (bA (aC .Eq (ae 0) (af (.bytes [99,111,109,109,105,116]))) (ah (aN (ak g n (.ref 376) (aa (ae 1) (aa (ae 2) ag)))) ai) ai) (qW g n))
def uB(g:Gl)(n:Nat):=(ah (bA (aC .Eq (ae 0) (af (.bytes [116,114,101,101]))) (ah (aN (ak g n (.ref 271) (aa (ae 1) (aa (ae 2) ag)))) ai) ai) (qX g n))
noncomputable def qY:Df:=⟨440,[V3 "kind",V3 "content"],[V3 "kind",V3 "content"],[]⟩
def qZ(g:Gl)(n:Nat):=(ah (aN (ao .Add (ao .Add (ao .Add (ao .Add (ae 0) (af (.bytes [32]))) (ak g n (.ref 64) (aa (dn (b1 Ew) (aa (dn (b1 c5) (aa (ae 1) ag)) ag)) ag))) (af (.bytes [0]))) (ae 1))) ai)
noncomputable def su:Df:=⟨447,[V3 "octets"],[V3 "octets",V3 "end",V3 "blank",V3 "kind",V3 "many"],[]⟩
def pd(g:Gl)(n:Nat):=(ah (aN (c8 (aa (ae 3) (aa (bb (ae 0) (ao .Add (ae 1) (af (.int 1))) (af .none)) ag)))) ai)
def pe(g:Gl)(n:Nat):=(ah (bA (cF (aC .Is (ae 4) (af .none)) (cF (aC .NotEq (ae 4) (ao .Sub (ao .Sub (dn (b1 c5) (aa (ae 0) ag)) (ae 1)) (af (.int 1)))) (af (.bool .false)))) (ah (bj (af (.str [97,32,108,101,110,103,116,104,32,116,104,97,116,32,105,115,32,97,110,111,116,104,101,114,32,111,110,101]))) ai) ai) (pd g n))
def g4(g:Gl)(n:Nat):=(ah (bA (aC .NotIn (ae 3) (af (.tup [.bytes [98,108,111,98],.bytes [116,114,101,101],.bytes [99,111,109,109,105,116],.bytes [116,97,103]]))) (ah (bj (af (.str [97,32,107,105,110,100,32,116,104,97,116,32,105,115,32,110,111,110,101]))) ai) ai) (pe g n))
def pf(g:Gl)(n:Nat):=(ah (bZ [4,3] (aa (bb (ae 0) (af .none) (ae 2)) (aa (ak g n (.ref 99) (aa (bb (ae 0) (ao .Add (ae 2) (af (.int 1))) (ae 1)) ag)) ag))) (g4 g n))
def pg(g:Gl)(n:Nat):=(ah (bA (cF (aC .Lt (ae 1) (af (.int 0))) (cF (aC .Lt (ae 2) (af (.int 0))) (cF (aC .Gt (ae 2) (ae 1)) (af (.bool .false))))) (ah (bj (af (.str [97,110,32,111,98,106,101,99,116,32,119,105,116,104,111,117,116,32,97,32,104,101,97,100]))) ai) ai) (pf g n))
def ph(g:Gl)(n:Nat):=(ah (aD (aj 2) (av g n m_find (ae 0) (aa (af (.bytes [32])) ag))) (pg g n))
def sv(g:Gl)(n:Nat):=(ah (aD (aj 1) (av g n m_find (ae 0) (aa (af (.bytes [0])) ag))) (ph g n))
noncomputable def wX:Df:=⟨452,[V3 "text"],[V3 "text"],[]⟩
def wY(g:Gl)(n:Nat):=(ah (aN (dn (b1 du) (aa (a7 2 [] (hV (aj 1) j0 (dn (b1 KO) (aa (ae 1) ag))) (a6 (ae 0))) ag))) ai)
noncomputable def sx:Df:=⟨457,[V3 "octets"],[V3 "octets"],[]⟩
def sy(g:Gl)(n:Nat):=(ah (aN (av g n bB (af (.str [])) (aa (a7 2 [] (hV (aj 1) j0 (dn (b1 KP) (aa (ae 1) ag))) (a6 (ae 0))) ag))) ai)
noncomputable def Bq:Df:=⟨462,[V3 "script"],[V3 "script",V3 "cells",V3 "mixed",V3 "cell"],[]⟩
def wZ(g:Gl)(n:Nat):=(ah (aD (aj 2) (ao .Mod (ao .Add (ao .Add (ao .Mult (ae 2) (af (.int 48271))) (ao .Mod (ae 3) (af (.int 2147483629)))) (af (.int 404))) (af (.int 2147483587)))) ai)
def w0(g:Gl)(n:Nat):=(ah (aN (p8 .s (aa (af (.str [99,101,108,108,115])) (aa (Kz (ae 1)) (aa (af (.str [109,105,120,101,100])) (aa (ae 2) (aa (af (.str [116,117,114,110])) (aa (af (.int 0)) ag)))))))) ai)
def w9(g:Gl)(n:Nat):=(ah (dq (aj 3) (a6 (ae 1)) (wZ g n)) (w0 g n))
def Br(g:Gl)(n:Nat):=(ah (bZ [2,1] (aa (a7 2 [] (hV (aj 1) j0 (dn (b1 KQ) (aa (ae 1) ag))) (a6 (bb (ae 0) (af .none) (af (.int 8))))) (aa (af (.int 404)) ag))) (w9 g n))
noncomputable def Bs:Df:=⟨469,[V3 "deck",V3 "below"],[V3 "deck",V3 "below",V3 "figure",V3 "cell"],[]⟩
def xa(g:Gl)(n:Nat):=(ah (aD (aj 2) (ao .Add (ae 2) (ao .Mod (ae 3) (af (.int 2147483563))))) ai)
def mX(g:Gl)(n:Nat):=(ah (bA (aC .GtE (ae 3) (af (.int 1000000))) (ah (fX (av g n aK (aQ (ae 0) (af (.str [99,101,108,108,115]))) (aa (ao .FloorDiv (ae 3) (ae 1)) ag))) (ah (aN (ao .Mod (ae 3) (ae 1))) ai)) ai) (xa g n))
def xb(g:Gl)(n:Nat):=(ah (aN (ao .Mod (ao .FloorDiv (ao .Mod (ao .Mult (ae 2) (af (.int 39373))) (af (.int 2147483579))) (af (.int 64))) (ae 1))) ai)
def xc(g:Gl)(n:Nat):=(ah (aD (aj 2) (ao .Mod (ao .Add (ao .Mult (ae 2) (ae 2)) (af (.int 404))) (af (.int 2147483587)))) (xb g n))
def h9(g:Gl)(n:Nat):=(ah (aD (aj 2) (ao .Mod (ao .Mult (ao .Mod (ae 2) (af (.int 2147483629))) (af (.int 40692))) (af (.int 2147483647)))) (xc g n))
def xd(g:Gl)(n:Nat):=(ah (bA (aC .NotEq (aQ (ae 0) (af (.str [99,101,108,108,115]))) (bp ag)) (ah (aD (aj 3) (av g n Dd (aQ (ae 0) (af (.str [99,101,108,108,115]))) ag)) (mX g n)) ai) (h9 g n))
def xe(g:Gl)(n:Nat):=(ah (aD (aj 2) (ao .Add (aQ (ae 0) (af (.str [109,105,120,101,100]))) (ao .Mult (ao .Mult (af (.int 60404)) (aQ (ae 0) (af (.str [116,117,114,110])))) (aQ (ae 0) (af (.str [116,117,114,110])))))) (xd g n))
def Bt(g:Gl)(n:Nat):=(ah (aD (fV (ae 0) (af (.str [116,117,114,110]))) (ao .Add (aQ (ae 0) (af (.str [116,117,114,110]))) (af (.int 1)))) (xe g n))
noncomputable def Bu:Df:=⟨476,[V3 "deck",V3 "some"],[V3 "deck",V3 "some"],[]⟩
def Bv(g:Gl)(n:Nat):=(ah (aN (aQ (ae 1) (ak g n (.ref 469) (aa (ae 0) (aa (dn (b1 c5) (aa (ae 1) ag)) ag))))) ai)
noncomputable def Fp:Df:=⟨481,[V3 "oid"],[V3 "oid",V3 "signs"],[]⟩
def zu(g:Gl)(n:Nat):=(ah (aN (dn (b1 du) (aa (a7 3 [1] (fU (aj 1) (aj 2) (a6 (c8 (aa (af (.int 0)) (aa (af (.int 1)) ag)))) (aQ (ae 3) (ao .Add (ao .Mult (ao .FloorDiv (ae 1) (af (.int 16))) (ao .Sub (af (.int 1)) (ae 2))) (ao .Mult (ao .Mod (ae 1) (af (.int 16))) (ae 2))))) (a6 (ae 0))) ag))) ai)
def Fq(g:Gl)(n:Nat):=(ah (aD (aj 1) (af (.bytes [48,49,50,51,52,53,54,55,56,57,97,98,99,100,101,102]))) (zu g n))
noncomputable def Fs:Df:=⟨486,[V3 "deck",V3 "size"],[V3 "deck",V3 "size"],[]⟩
def Ft(g:Gl)(n:Nat):=(ah (aN (dn (b1 du) (aa (ao .Add (bp (aa (af (.int 171)) ag)) (a7 2 [0] (hV (aj 1) j0 (ao .Add (af (.int 1)) (ak g n (.ref 469) (aa (ae 2) (aa (af (.int 255)) ag))))) (da (aa (ao .Sub (ae 1) (af (.int 1))) ag)))) ag))) ai)
noncomputable def zv:Df:=⟨493,[V3 "kind",V3 "octets",V3 "size"],[V3 "kind",V3 "octets",V3 "size",V3 "found"],[]⟩
def uC(g:Gl)(n:Nat):=(ah (vQ (ah (aD (aj 3) (ak g n (.ref 433) (aa (ae 0) (aa (ae 1) (aa (ae 2) ag))))) ai) 3 (.str [98,97,100])) (ah (aN (ae 3)) ai))
def zw(g:Gl)(n:Nat):=(ah (aD (aj 3) (af (.str [98,97,100]))) (uC g n))
noncomputable def Bw:Df:=⟨500,[V3 "deck",V3 "octets",V3 "most"],[V3 "deck",V3 "octets",V3 "most",V3 "at",V3 "way",V3 "fresh"],[]⟩
def xf(g:Gl)(n:Nat):=(ah (aN (bA (aC .Eq (ae 4) (af (.int 1))) (ao .Add (bb (ae 1) (af .none) (ae 3)) (bb (ae 1) (ao .Add (ae 3) (af (.int 1))) (af .none))) (ao .Add (ao .Add (bb (ae 1) (af .none) (ae 3)) (ae 5)) (bb (ae 1) (ae 3) (af .none))))) ai)
def xg(g:Gl)(n:Nat):=(ah (bA (aC .Eq (ae 4) (af (.int 0))) (ah (aN (ao .Add (ao .Add (bb (ae 1) (af .none) (ae 3)) (ae 5)) (bb (ae 1) (ao .Add (ae 3) (af (.int 1))) (af .none)))) ai) ai) (xf g n))
def xh(g:Gl)(n:Nat):=(ah (aD (aj 5) (dn (b1 du) (aa (bp (aa (bA (aC .Gt (ak g n (.ref 469) (aa (ae 0) (aa (af (.int 3)) ag))) (af (.int 0))) (ak g n (.ref 476) (aa (ae 0) (aa (af (.bytes [0,32,47,48,49,52,57,97,98,103,46,10,65,71])) ag))) (ak g n (.ref 469) (aa (ae 0) (aa (af (.int 256)) ag)))) ag)) ag))) (xg g n))
def Bx(g:Gl)(n:Nat):=(ah (bZ [4,3] (aa (ak g n (.ref 469) (aa (ae 0) (aa (ae 2) ag))) (aa (ak g n (.ref 469) (aa (ae 0) (aa (af (.int 3)) ag))) ag))) (xh g n))
noncomputable def xk:Df:=⟨505,[V3 "octets"],[V3 "octets",V3 "found",V3 "sign"],[]⟩
def sA(g:Gl)(n:Nat):=(ah (aD (aj 1) (ao .Sub (ao .Add (ao .Mult (af (.int 10)) (ae 1)) (ae 2)) (af (.int 48)))) ai)
def sC(g:Gl)(n:Nat):=(ah (dq (aj 2) (a6 (ae 0)) (sA g n)) (ah (aN (ae 1)) ai))
def xl(g:Gl)(n:Nat):=(ah (bA (cF (aC .Eq (ae 0) (af (.bytes []))) (cF (di (aC .Gt (dn (b1 c5) (aa (ae 0) ag)) (af (.int 1))) (di (aC .Eq (bb (ae 0) (af .none) (af (.int 1))) (af (.bytes [48]))) (af (.bool .true)))) (cF (aC .NotEq (a7 2 [] (hV (aj 1) (gw (rO .LtE .LtE (af (.int 48)) (ae 1) (af (.int 57)))) (ae 1)) (a6 (ae 0))) (bp ag)) (af (.bool .false))))) (ah (aN (af .none)) ai) ai) (ah (aD (aj 1) (af (.int 0))) (sC g n)))
noncomputable def zx:Df:=⟨512,[V3 "octets"],[V3 "octets",V3 "at",V3 "words"],[]⟩
def uD(g:Gl)(n:Nat):=(ah (aN (bA (aC .Eq (ak g n (.ref 505) (aa (aQ (ae 2) (af (.int 1))) ag)) (ao .Sub (ao .Sub (dn (b1 c5) (aa (ae 0) ag)) (ae 1)) (af (.int 1)))) (c8 (aa (aQ (ae 2) (af (.int 0))) (aa (bb (ae 0) (ao .Add (ae 1) (af (.int 1))) (af .none)) ag))) (af .none))) ai)
def kO(g:Gl)(n:Nat):=(ah (bA (cF (aC .NotEq (dn (b1 c5) (aa (ae 2) ag)) (af (.int 2))) (cF (aC .NotIn (aQ (ae 2) (af (.int 0))) (c8 (aa (af (.bytes [98,108,111,98])) (aa (af (.bytes [116,114,101,101])) (aa (af (.bytes [99,111,109,109,105,116])) (aa (af (.bytes [116,97,103])) ag)))))) (af (.bool .false)))) (ah (aN (af .none)) ai) ai) (uD g n))
def uE(g:Gl)(n:Nat):=(ah (aD (aj 2) (bA (aC .GtE (ae 1) (af (.int 0))) (av g n m_split (bb (ae 0) (af .none) (ae 1)) (aa (af (.bytes [32])) ag)) (bp ag))) (kO g n))
def zy(g:Gl)(n:Nat):=(ah (aD (aj 1) (av g n m_find (ae 0) (aa (af (.bytes [0])) ag))) (uE g n))
noncomputable def pj:Df:=⟨519,[V3 "octets"],[V3 "octets",V3 "found"],[]⟩
def lE(g:Gl)(n:Nat):=(ah (vQ (ah (aD (aj 1) (dn (b1 vV) (aa (ak g n (.ref 447) (aa (ae 0) ag)) ag))) ai) 1 .none) (ah (aN (ae 1)) ai))
def pk(g:Gl)(n:Nat):=(ah (aD (aj 1) (af .none)) (lE g n))
noncomputable def mY:Df:=⟨524,[V3 "deck",V3 "size"],[V3 "deck",V3 "size",V3 "kind",V3 "size_now",V3 "content",V3 "octets",V3 "turn",V3 "some"],[]⟩
def j9(g:Gl)(n:Nat):=(ah (bA (aC .NotEq (ak g n (.ref 519) (aa (ae 7) ag)) (ak g n (.ref 512) (aa (ae 7) ag))) (ah (aN (af (.bool .false))) ai) ai) ai)
def ka(g:Gl)(n:Nat):=(ah (aD (aj 7) (ak g n (.ref 500) (aa (ae 0) (aa (ae 5) (aa (ao .Add (ao .Sub (dn (b1 c5) (aa (ae 5) ag)) (ae 3)) (af (.int 1))) ag))))) (j9 g n))
def fu(g:Gl)(n:Nat):=(ah (dq (aj 6) (da (aa (af (.int 2)) ag)) (ka g n)) (ah (aN (af (.bool .true))) ai))
def ke(g:Gl)(n:Nat):=(ah (bA (cF (aC .NotEq (ak g n (.ref 433) (aa (af (.bytes [98,108,111,98])) (aa (ae 4) (aa (ae 1) ag)))) (ae 4)) (cF (aC .NotEq (ak g n (.ref 493) (aa (af (.bytes [116,104,105,110,103])) (aa (ae 4) (aa (ae 1) ag)))) (af (.str [98,97,100]))) (af (.bool .false)))) (ah (aN (af (.bool .false))) ai) ai) (fu g n))
def kg(g:Gl)(n:Nat):=(ah (bA (cF (aC .NotEq (ak g n (.ref 440) (aa (ae 2) (aa (ae 4) ag))) (ae 5)) (cF (aC .NotEq (ak g n (.ref 519) (aa (ae 5) ag)) (c8 (aa (ae 2) (aa (ae 4) ag)))) (af (.bool .false)))) (ah (aN (af (.bool .false))) ai) ai) (ke g n))
def kh(g:Gl)(n:Nat):=(ah (aD (aj 5) (ao .Add (ao .Add (ao .Add (ao .Add (ae 2) (af (.bytes [32]))) (ak g n (.ref 452) (aa (dn (b1 Ew) (aa (ae 3) ag)) ag))) (af (.bytes [0]))) (ae 4))) (kg g n))
def ki(g:Gl)(n:Nat):=(ah (aD (aj 4) (dn (b1 du) (aa (a7 2 [0] (hV (aj 1) j0 (ak g n (.ref 476) (aa (ae 2) (aa (af (.bytes [0,97,32,49])) ag)))) (da (aa (ae 3) ag))) ag))) (kh g n))
def mZ(g:Gl)(n:Nat):=(ah (bZ [3,2] (aa (ak g n (.ref 476) (aa (ae 0) (aa (bp (aa (af (.bytes [98,108,111,98])) (aa (af (.bytes [116,114,101,101])) (aa (af (.bytes [99,111,109,109,105,116])) (aa (af (.bytes [116,97,103])) ag))))) ag))) (aa (ak g n (.ref 476) (aa (ae 0) (aa (bp (aa (af (.int 0)) (aa (af (.int 1)) (aa (af (.int 3)) (aa (af (.int 9)) (aa (af (.int 10)) (aa (af (.int 12)) ag))))))) ag))) ag))) (ki g n))
noncomputable def q0:Df:=⟨531,[V3 "deck",V3 "oid"],[V3 "deck",V3 "oid",V3 "page",V3 "at",V3 "some",V3 "found"],[]⟩
def m3(g:Gl)(n:Nat):=(ah (bA (aC .IsNot (ae 5) (af .none)) (ah (aN (af (.bool .false))) ai) ai) ai)
def m4(g:Gl)(n:Nat):=(ah (vQ (ah (aD (aj 5) (ak g n (.ref 85) (aa (ae 4) ag))) ai) 5 .none) (m3 g n))
def gr(g:Gl)(n:Nat):=(ah (dq (aj 4) (a6 (c8 (aa (ao .Add (bb (ae 2) (af .none) (ae 3)) (bb (ae 2) (ao .Add (ae 3) (af (.int 1))) (af .none))) (aa (ao .Add (ao .Add (bb (ae 2) (af .none) (ae 3)) (af (.str [103]))) (bb (ae 2) (ao .Add (ae 3) (af (.int 1))) (af .none))) (aa (ao .Add (ae 2) (af (.str [45]))) ag))))) (ah (aD (aj 5) (af .none)) (m4 g n))) (ah (aN (af (.bool .true))) ai))
def m6(g:Gl)(n:Nat):=(ah (aD (aj 3) (ak g n (.ref 469) (aa (ae 0) (aa (dn (b1 c5) (aa (ae 2) ag)) ag)))) (gr g n))
def m7(g:Gl)(n:Nat):=(ah (bA (cF (aC .NotEq (ak g n (.ref 71) (aa (ae 1) ag)) (ae 2)) (cF (aC .NotEq (ak g n (.ref 85) (aa (ae 2) ag)) (ae 1)) (cF (aC .NotEq (ak g n (.ref 85) (aa (av g n m_upper (ae 2) ag) ag)) (ae 1)) (af (.bool .false))))) (ah (aN (af (.bool .false))) ai) ai) (m6 g n))
def q7(g:Gl)(n:Nat):=(ah (aD (aj 2) (ak g n (.ref 457) (aa (ak g n (.ref 481) (aa (ae 1) ag)) ag))) (m7 g n))
noncomputable def By:Df:=⟨538,[V3 "octets",V3 "size"],[V3 "octets",V3 "size",V3 "modes",V3 "found",V3 "at",V3 "blank",V3 "nought"],[V3 "found"]⟩
def xm(g:Gl)(n:Nat):=(ah (aD (aj 4) (ao .Add (ao .Add (ae 6) (af (.int 1))) (ae 1))) ai)
def xn(g:Gl)(n:Nat):=(ah (fX (av g n aK (ae 3) (aa (c8 (aa (aQ (ae 2) (bb (ae 0) (ae 4) (ae 5))) (aa (bb (ae 0) (ao .Add (ae 5) (af (.int 1))) (ae 6)) (aa (bb (ae 0) (ao .Add (ae 6) (af (.int 1))) (ao .Add (ao .Add (ae 6) (af (.int 1))) (ae 1))) ag)))) ag))) (xm g n))
def xo(g:Gl)(n:Nat):=(ah (bA (cF (aC .Lt (ae 6) (af (.int 0))) (cF (aC .NotIn (bb (ae 0) (ae 4) (ae 5)) (ae 2)) (cF (aC .Eq (ae 6) (ao .Add (ae 5) (af (.int 1)))) (cF (aC .Gt (ao .Add (ao .Add (ae 6) (af (.int 1))) (ae 1)) (dn (b1 c5) (aa (ae 0) ag))) (af (.bool .false)))))) (ah (aN (af .none)) ai) ai) (xn g n))
def xp(g:Gl)(n:Nat):=(ah (aD (aj 6) (bA (aC .GtE (ae 5) (af (.int 0))) (av g n m_find (ae 0) (aa (af (.bytes [0])) (aa (ae 5) ag))) (Gy (af (.int 1))))) (xo g n))
def xq(g:Gl)(n:Nat):=(ah (aD (aj 5) (av g n m_find (ae 0) (aa (af (.bytes [32])) (aa (ae 4) ag)))) (xp g n))
def xr(g:Gl)(n:Nat):=(ah (fW (aC .Lt (ae 4) (dn (b1 c5) (aa (ae 0) ag))) (xq g n)) (ah (aN (ae 3)) ai))
def m9(g:Gl)(n:Nat):=(ah (bZ [4,3] (aa (gx ag) (aa (af (.int 0)) ag))) (xr g n))
def xt(g:Gl)(n:Nat):=(ah (aD (fV (ae 2) (af (.bytes [49,48,48,54,54,52]))) (af (.int 33204))) (m9 g n))
def Bz(g:Gl)(n:Nat):=(ah (aD (aj 2) (p8 .b (aa (af (.bytes [49,48,48,54,52,52])) (aa (af (.int 33188)) (aa (af (.bytes [49,48,48,55,53,53])) (aa (af (.int 33261)) (aa (af (.bytes [49,50,48,48,48,48])) (aa (af (.int 40960)) (aa (af (.bytes [52,48,48,48,48])) (aa (af (.int 16384)) (aa (af (.bytes [49,54,48,48,48,48])) (aa (af (.int 57344)) ag)))))))))))) (xt g n))
noncomputable def Fu:Df:=⟨545,[V3 "row"],[V3 "row"],[]⟩
def Fv(g:Gl)(n:Nat):=(ah (aN (bA (aC .Eq (aQ (ae 0) (af (.int 0))) (af (.int 16384))) (ao .Add (aQ (ae 0) (af (.int 1))) (af (.bytes [47]))) (aQ (ae 0) (af (.int 1))))) ai)
noncomputable def uF:Df:=⟨550,[V3 "rows"],[V3 "rows",V3 "names_now",V3 "bad"],[]⟩
def q8(g:Gl)(n:Nat):=(ah (aN (di (aC .Eq (ae 2) (bp ag)) (aC .NotIn (af (.int 33204)) (a7 2 [] (hV (aj 1) j0 (aQ (ae 1) (af (.int 0)))) (a6 (ae 0)))))) ai)
def q9(g:Gl)(n:Nat):=(ah (aD (aj 2) (a7 2 [] (hV (aj 1) (cF (aC .In (af (.bytes [47])) (ae 1)) (cF (aC .In (ae 1) (c8 (aa (af (.bytes [46])) (aa (af (.bytes [46,46])) ag)))) (cF (aC .Eq (av g n m_lower (ae 1) ag) (af (.bytes [46,103,105,116]))) (af (.bool .false))))) (ae 1)) (a6 (ae 1)))) (q8 g n))
def ra(g:Gl)(n:Nat):=(ah (bA (cF (aC .NotEq (de (ae 1)) (dn (b1 hU) (aa (ae 1) ag))) (cF (aC .NotEq (a7 2 [] (hV (aj 1) j0 (ak g n (.ref 545) (aa (ae 1) ag))) (a6 (ae 0))) (dn (b1 hU) (aa (a7 2 [] (hV (aj 1) j0 (ak g n (.ref 545) (aa (ae 1) ag))) (a6 (ae 0))) ag))) (af (.bool .false)))) (ah (aN (af (.bool .false))) ai) ai) (q9 g n))
def uG(g:Gl)(n:Nat):=(ah (aD (aj 1) (a7 2 [] (hV (aj 1) j0 (aQ (ae 1) (af (.int 1)))) (a6 (ae 0)))) (ra g n))
noncomputable def pn:Df:=⟨555,[V3 "octets",V3 "size"],[V3 "octets",V3 "size",V3 "rows",V3 "it",V3 "made",V3 "is_fit",V3 "told"],[]⟩
def lF(g:Gl)(n:Nat):=(ah (aN (di (aC .Is (av g n m_find (ae 3) (aa (af (.bytes [110,111,116,104,105,110,103])) ag)) (af .none)) (aC .Eq (a7 2 [] (hV (aj 1) j0 (c8 (aa (aS (ae 1) fG) (aa (aS (ae 1) bH) (aa (aS (ae 1) jt) ag))))) (a6 (ae 6))) (ae 2)))) ai)
def f7(g:Gl)(n:Nat):=(ah (aD (aj 6) (a7 2 [3] (hV (aj 1) j0 (av g n m_find (ae 2) (aa (aQ (ae 1) (af (.int 1))) ag))) (a6 (ae 2)))) (lF g n))
def lH(g:Gl)(n:Nat):=(ah (bA (gw (cu (ae 5))) (ah (aN (af (.bool .true))) ai) ai) (f7 g n))
def f9(g:Gl)(n:Nat):=(ah (bA (cF (aC .NotEq (av g n df (ae 4) ag) (ae 0)) (cF (aC .NotEq (ae 5) (ak g n (.ref 550) (aa (ae 2) ag))) (af (.bool .false)))) (ah (aN (af (.bool .false))) ai) ai) (lH g n))
def lI(g:Gl)(n:Nat):=(ah (vQ (ah (fX (ak g n (.ref 257) (aa (ae 3) ag))) ai) 5 (.bool .false)) (f9 g n))
def gb(g:Gl)(n:Nat):=(ah (bZ [5,4] (aa (ak g n (.ref 239) (aa (a7 2 [] (hV (aj 1) j0 (ak g n (.ref 190) (aa (aQ (ae 1) (af (.int 0))) (aa (aQ (ae 1) (af (.int 1))) (aa (aQ (ae 1) (af (.int 2))) ag))))) (a6 (ae 2))) ag)) (aa (af (.bool .true)) ag))) (lI g n))
def lJ(g:Gl)(n:Nat):=(ah (bA (cF (aC .NotEq (a7 2 [] (hV (aj 1) j0 (c8 (aa (aS (ae 1) fG) (aa (aS (ae 1) bH) (aa (aS (ae 1) jt) ag))))) (a6 (aS (ae 3) dM))) (ae 2)) (cF (aC .NotEq (av g n df (ae 3) ag) (ae 0)) (af (.bool .false)))) (ah (aN (af (.bool .false))) ai) ai) (gb g n))
def lK(g:Gl)(n:Nat):=(ah (bA (cF (aC .Is (ae 2) (af .none)) (cF (aC .Eq (ae 3) (af (.str [98,97,100]))) (af (.bool .false)))) (ah (aN (di (aC .Is (ae 2) (af .none)) (aC .Eq (ae 3) (af (.str [98,97,100]))))) ai) ai) (lJ g n))
def pq(g:Gl)(n:Nat):=(ah (aD (cL 2 [(aj 2),(aj 3)]) (c8 (aa (ak g n (.ref 538) (aa (ae 0) (aa (ae 1) ag))) (aa (ak g n (.ref 493) (aa (af (.bytes [116,114,101,101])) (aa (ae 0) (aa (ae 1) ag)))) ag)))) (lK g n))
noncomputable def nc:Df:=⟨560,[V3 "deck",V3 "size"],[V3 "deck",V3 "size",V3 "rows",V3 "texts",V3 "turn",V3 "mode",V3 "name",V3 "octets",V3 "row",V3 "some"],[V3 "rows",V3 "some"]⟩
def kj(g:Gl)(n:Nat):=(ah (fX (av g n aK (ae 2) (aa (c8 (aa (ae 5) (aa (ae 6) (aa (ak g n (.ref 486) (aa (ae 0) (aa (ae 1) ag))) ag)))) ag))) ai)
def kl(g:Gl)(n:Nat):=(ah (aD (aj 6) (ak g n (.ref 476) (aa (ae 0) (aa (bp (aa (af (.bytes [97])) (aa (af (.bytes [97,46,98])) (aa (af (.bytes [97,45])) (aa (af (.bytes [97,98])) (aa (af (.bytes [98])) (aa (af (.bytes [97,48])) (aa (af (.bytes [255])) (aa (af (.bytes [99,32,100])) (aa (bA (aC .Gt (ae 4) (af (.int 0))) (af (.bytes [46,46,46])) (af (.bytes [46,71,105,116]))) ag)))))))))) ag)))) (kj g n))
def fv(g:Gl)(n:Nat):=(ah (aD (aj 5) (ak g n (.ref 476) (aa (ae 0) (aa (bp (aa (af (.int 33188)) (aa (af (.int 16384)) (aa (af (.int 16384)) (aa (af (.int 33261)) (aa (af (.int 40960)) (aa (af (.int 57344)) (aa (bA (aC .Eq (ae 4) (af (.int 2))) (af (.int 33204)) (af (.int 33188))) ag)))))))) ag)))) (kl g n))
def fw(g:Gl)(n:Nat):=(ah (aD (aj 7) (ao .Add (ao .Add (ao .Add (ao .Add (ao .Add (ae 7) (av g n Ih (ae 3) (aa (aQ (ae 8) (af (.int 0))) (aa (af (.bytes [49,48,48,54,52,52])) ag)))) (af (.bytes [32]))) (aQ (ae 8) (af (.int 1)))) (af (.bytes [0]))) (aQ (ae 8) (af (.int 2))))) ai)
def km(g:Gl)(n:Nat):=(ah (fX (av g n aK (ae 9) (aa (ak g n (.ref 500) (aa (ae 0) (aa (ae 7) (aa (dn (b1 c5) (aa (ae 7) ag)) ag)))) ag))) ai)
def ko(g:Gl)(n:Nat):=(ah (aN (aC .Eq (a7 2 [1] (hV (aj 1) (gw (cu (ak g n (.ref 555) (aa (ae 1) (aa (ae 2) ag))))) (ae 1)) (a6 (ae 9))) (bp ag))) ai)
def kq(g:Gl)(n:Nat):=(ah (dq (aj 4) (da (aa (bA (aC .NotEq (ae 7) (af (.bytes []))) (af (.int 2)) (af (.int 0))) ag)) (km g n)) (ko g n))
def dv(g:Gl)(n:Nat):=(ah (aD (aj 9) (gx (aa (ae 7) ag))) (kq g n))
def fx(g:Gl)(n:Nat):=(ah (dq (aj 8) (a6 (ae 2)) (fw g n)) (dv g n))
def eX(g:Gl)(n:Nat):=(ah (aD (aj 2) (bA (aC .Gt (ak g n (.ref 469) (aa (ae 0) (aa (af (.int 5)) ag))) (af (.int 0))) (eV g n (.ref 545) (aa (ae 2) ag)) (ae 2))) (ah (aD (aj 7) (af (.bytes []))) (fx g n)))
def jy(g:Gl)(n:Nat):=(ah (dq (aj 4) (da (aa (ak g n (.ref 469) (aa (ae 0) (aa (af (.int 4)) ag))) ag)) (fv g n)) (eX g n))
def ng(g:Gl)(n:Nat):=(ah (bZ [3,2] (aa (gx ag) (aa (p8 .i (aa (af (.int 16384)) (aa (af (.bytes [52,48,48,48,48])) (aa (af (.int 40960)) (aa (af (.bytes [49,50,48,48,48,48])) (aa (af (.int 57344)) (aa (af (.bytes [49,54,48,48,48,48])) (aa (af (.int 33261)) (aa (af (.bytes [49,48,48,55,53,53])) (aa (af (.int 33204)) (aa (af (.bytes [49,48,48,54,54,52])) ag))))))))))) ag))) (jy g n))
noncomputable def xu:Df:=⟨567,[V3 "deck"],[V3 "deck",V3 "name",V3 "email",V3 "when"],[]⟩
def sD(g:Gl)(n:Nat):=(ah (aN (c8 (aa (ae 1) (aa (ae 2) (aa (ae 3) (aa (ak g n (.ref 476) (aa (ae 0) (aa (bp (aa (af (.bytes [43,48,48,48,48])) (aa (af (.bytes [45,48,49,51,48])) (aa (af (.bytes [43,49,50,52,53])) ag)))) ag))) ag)))))) ai)
def sE(g:Gl)(n:Nat):=(ah (aD (aj 3) (ak g n (.ref 476) (aa (ae 0) (aa (bp (aa (af (.int 0)) (aa (af (.int 1)) (aa (af (.int 1234567890)) (aa (ao .Pow (af (.int 10)) (af (.int 12))) ag))))) ag)))) (sD g n))
def xv(g:Gl)(n:Nat):=(ah (bZ [2,1] (aa (ak g n (.ref 476) (aa (ae 0) (aa (bp (aa (af (.bytes [65])) (aa (af (.bytes [65,110,110,32,66,46,32,67,101,101])) (aa (af (.bytes [195,169])) (aa (af (.bytes [])) ag))))) ag))) (aa (ak g n (.ref 476) (aa (ae 0) (aa (bp (aa (af (.bytes [97,64,98])) (aa (af (.bytes [120,32,121])) (aa (af (.bytes [97,110,110,64,99,46,100])) ag)))) ag))) ag))) (sE g n))
noncomputable def pv:Df:=⟨574,[V3 "it"],[V3 "it"],[]⟩
def px(g:Gl)(n:Nat):=(ah (aN (ao .Add (ao .Add (ao .Add (ao .Add (ao .Add (ao .Add (aQ (ae 0) (af (.int 0))) (af (.bytes [32,60]))) (aQ (ae 0) (af (.int 1)))) (af (.bytes [62,32]))) (ak g n (.ref 452) (aa (dn (b1 Ew) (aa (aQ (ae 0) (af (.int 2))) ag)) ag))) (af (.bytes [32]))) (aQ (ae 0) (af (.int 3))))) ai)
noncomputable def zA:Df:=⟨581,[V3 "person"],[V3 "person"],[]⟩
def zB(g:Gl)(n:Nat):=(ah (aN (c8 (aa (aS (ae 0) bH) (aa (aS (ae 0) jr) (aa (aS (ae 0) my) (aa (aS (ae 0) mz) ag)))))) ai)
noncomputable def BA:Df:=⟨588,[V3 "it"],[V3 "it"],[]⟩
def BB(g:Gl)(n:Nat):=(ah (aN (ak g n (.ref 141) (aa (aQ (ae 0) (af (.int 0))) (aa (aQ (ae 0) (af (.int 1))) (aa (aQ (ae 0) (af (.int 2))) (aa (aQ (ae 0) (af (.int 3))) ag)))))) ai)
noncomputable def pz:Df:=⟨595,[V3 "deck"],[V3 "deck",V3 "some"],[]⟩
def lL(g:Gl)(n:Nat):=(ah (aN (ak g n (.ref 476) (aa (ae 0) (aa (ae 1) ag)))) ai)
def lM(g:Gl)(n:Nat):=(ah (aD (aj 1) (ao .Add (ae 1) (bp (aa (af (.bytes [65,32,60,97,64,98,62,32,49])) (aa (af (.bytes [65,32,60,97,0,98,62,32,49,32,43,48,48,48,48])) ag))))) (lL g n))
def lO(g:Gl)(n:Nat):=(ah (aD (aj 1) (ao .Add (ae 1) (bp (aa (af (.bytes [65,32,60,97,64,98,62,32,48,49,32,43,48,48,48,48])) (aa (af (.bytes [65,32,60,97,64,98,62,32,49,32,48,48,48,48])) (aa (af (.bytes [65,32,60,97,64,98,62,32,49,32,43,48,48,48])) (aa (af (.bytes [65,32,60,97,64,98,62,32,49,32,43,48,48,48,48,48])) (aa (af (.bytes [65,32,60,97,64,98,62,32,49,32,43,48,97,48,48])) ag)))))))) (lM g n))
def pA(g:Gl)(n:Nat):=(ah (aD (aj 1) (bp (aa (af (.bytes [65,32,97,64,98,62,32,49,32,43,48,48,48,48])) (aa (af (.bytes [65,32,60,97,64,98,32,49,32,43,48,48,48,48])) (aa (af (.bytes [65,32,60,97,64,98,62,32,43,48,48,48,48])) (aa (af (.bytes [65,32,60,97,64,98,62,32,120,32,43,48,48,48,48])) (aa (af (.bytes [65,32,60,97,64,98,62,32,45,49,32,43,48,48,48,48])) ag))))))) (lO g n))
noncomputable def xw:Df:=⟨602,[V3 "deck",V3 "oid"],[V3 "deck",V3 "oid",V3 "page",V3 "at",V3 "some"],[]⟩
def sF(g:Gl)(n:Nat):=(ah (aN (ak g n (.ref 476) (aa (ae 0) (aa (ae 4) ag)))) ai)
def sH(g:Gl)(n:Nat):=(ah (aD (aj 4) (bp (aa (ao .Add (bb (ae 2) (af .none) (ae 3)) (bb (ae 2) (ao .Add (ae 3) (af (.int 1))) (af .none))) (aa (ao .Add (ae 2) (af (.bytes [48]))) (aa (av g n m_upper (ae 2) ag) (aa (ao .Add (ao .Add (bb (ae 2) (af .none) (ae 3)) (af (.bytes [103]))) (bb (ae 2) (ao .Add (ae 3) (af (.int 1))) (af .none))) (aa (ao .Add (af (.bytes [32])) (ae 2)) (aa (af (.bytes [])) ag)))))))) (sF g n))
def sI(g:Gl)(n:Nat):=(ah (aD (aj 3) (ak g n (.ref 469) (aa (ae 0) (aa (dn (b1 c5) (aa (ae 2) ag)) ag)))) (sH g n))
def xx(g:Gl)(n:Nat):=(ah (aD (aj 2) (ak g n (.ref 481) (aa (ae 1) ag))) (sI g n))
noncomputable def xy:Df:=⟨609,[V3 "deck",V3 "rows",V3 "order"],[V3 "deck",V3 "rows",V3 "order",V3 "at",V3 "way",V3 "mate",V3 "some"],[]⟩
def sJ(g:Gl)(n:Nat):=(ah (aD (cL 2 [(fV (ae 6) (ae 3)),(fV (ae 6) (ae 5))]) (c8 (aa (aQ (ae 1) (ae 5)) (aa (aQ (ae 1) (ae 3)) ag)))) (ah (aN (ae 6)) ai))
def sL(g:Gl)(n:Nat):=(ah (aD (aj 6) (dn (b1 CG) (aa (ae 1) ag))) (sJ g n))
def jz(g:Gl)(n:Nat):=(ah (aD (aj 5) (ao .Mod (ao .Add (ae 3) (af (.int 1))) (ae 2))) (sL g n))
def sM(g:Gl)(n:Nat):=(ah (bA (aC .Eq (ae 4) (af (.int 1))) (ah (aN (ao .Add (bb (ae 1) (af .none) (ao .Add (ae 3) (af (.int 1)))) (bb (ae 1) (ae 3) (af .none)))) ai) ai) (jz g n))
def sN(g:Gl)(n:Nat):=(ah (bA (aC .Eq (ae 4) (af (.int 0))) (ah (aN (ao .Add (bb (ae 1) (af .none) (ae 3)) (bb (ae 1) (ao .Add (ae 3) (af (.int 1))) (af .none)))) ai) ai) (sM g n))
def sP(g:Gl)(n:Nat):=(ah (aD (aj 4) (ak g n (.ref 469) (aa (ae 0) (aa (af (.int 3)) ag)))) (sN g n))
def xA(g:Gl)(n:Nat):=(ah (aD (aj 3) (ak g n (.ref 469) (aa (ae 0) (aa (ae 2) ag)))) (sP g n))
noncomputable def ku:Df:=⟨614,[V3 "deck",V3 "size"],[V3 "deck",V3 "size",V3 "tree",V3 "parents_now",V3 "author",V3 "committer",V3 "extra",V3 "message",V3 "fixed",V3 "middle",V3 "tail",V3 "octets",V3 "it",V3 "ends",V3 "odd"],[V3 "odd"]⟩
def eB(g:Gl)(n:Nat):=(ah (aN (aC .Eq (a7 2 [1] (hV (aj 1) (aC .NotEq (ak g n (.ref 493) (aa (af (.bytes [99,111,109,109,105,116])) (aa (ae 1) (aa (ae 2) ag)))) (af (.str [98,97,100]))) (ae 1)) (a6 (a7 2 [0,14] (hV (aj 1) j0 (ak g n (.ref 476) (aa (ae 2) (aa (ae 3) ag)))) (da (aa (af (.int 3)) ag))))) (bp ag))) ai)
def i6(g:Gl)(n:Nat):=(ah (aD (aj 14) (ao .Add (ae 14) (bp (aa (ao .Add (av g n bB (af (.bytes [10])) (aa (ao .Add (ae 8) (bp (aa (af (.bytes [32,109,111,114,101])) ag))) ag)) (ae 13)) (aa (ao .Add (av g n bB (af (.bytes [10])) (aa (ae 8) ag)) (af (.bytes [10,10,97,0,98]))) (aa (af (.bytes [])) (aa (ae 7) ag))))))) (eB g n))
def i7(g:Gl)(n:Nat):=(ah (fX (av g n aK (ae 14) (aa (ao .Add (av g n bB (af (.bytes [10])) (aa (ao .Add (ae 8) (bp (aa (ak g n (.ref 476) (aa (ae 0) (aa (ae 8) ag))) ag))) ag)) (ae 13)) ag))) (i6 g n))
def i8(g:Gl)(n:Nat):=(ah (fX (av g n aK (ae 14) (aa (ao .Add (av g n bB (af (.bytes [10])) (aa (ao .Add (ao .Add (bb (ae 8) (af .none) (af (.int 2))) (bp (aa (ao .Add (af (.bytes [112,97,114,101,110,116,32])) (ak g n (.ref 481) (aa (ae 2) ag))) ag))) (bb (ae 8) (af (.int 2)) (af .none))) ag)) (ae 13)) ag))) (i7 g n))
def i9(g:Gl)(n:Nat):=(ah (fX (av g n aK (ae 14) (aa (ao .Add (av g n bB (af (.bytes [10])) (aa (ao .Add (bb (ae 8) (af .none) (af (.int 2))) (bp (aa (ao .Add (af (.bytes [99,111,109,109,105,116,116,101,114,32])) (ak g n (.ref 595) (aa (ae 0) ag))) ag))) ag)) (ae 13)) ag))) (i8 g n))
def ja(g:Gl)(n:Nat):=(ah (fX (av g n aK (ae 14) (aa (ao .Add (av g n bB (af (.bytes [10])) (aa (ao .Add (ao .Add (bb (ae 8) (af .none) (af (.int 1))) (bp (aa (ao .Add (af (.bytes [97,117,116,104,111,114,32])) (ak g n (.ref 595) (aa (ae 0) ag))) ag))) (bb (ae 8) (af (.int 2)) (af .none))) ag)) (ae 13)) ag))) (i9 g n))
def jb(g:Gl)(n:Nat):=(ah (fX (av g n aK (ae 14) (aa (ao .Add (av g n bB (af (.bytes [10])) (aa (ao .Add (ao .Add (ao .Add (bb (ae 8) (af .none) (af (.int 1))) (ae 9)) (bp (aa (ao .Add (af (.bytes [112,97,114,101,110,116,32])) (ak g n (.ref 602) (aa (ae 0) (aa (ae 2) ag)))) ag))) (bb (ae 8) (af (.int 1)) (af .none))) ag)) (ae 13)) ag))) (ja g n))
def jc(g:Gl)(n:Nat):=(ah (fX (av g n aK (ae 14) (aa (ao .Add (av g n bB (af (.bytes [10])) (aa (ao .Add (bp (aa (ao .Add (af (.bytes [116,114,101,101,32])) (ak g n (.ref 602) (aa (ae 0) (aa (ae 2) ag)))) ag)) (bb (ae 8) (af (.int 1)) (af .none))) ag)) (ae 13)) ag))) (jb g n))
def jd(g:Gl)(n:Nat):=(ah (aD (aj 14) (gx (aa (ao .Add (av g n bB (af (.bytes [10])) (aa (ak g n (.ref 609) (aa (ae 0) (aa (ae 8) (aa (af (.int 3)) ag)))) ag)) (ae 13)) (aa (av g n bB (af (.bytes [10])) (aa (ae 8) ag)) (aa (ao .Add (av g n bB (af (.bytes [10])) (aa (ae 8) ag)) (af (.bytes [10]))) ag))))) (jc g n))
def bT(g:Gl)(n:Nat):=(ah (aD (aj 13) (ao .Add (af (.bytes [10,10])) (ae 7))) (jd g n))
def ia(g:Gl)(n:Nat):=(ah (bA (aC .NotEq (av g n df (ak g n (.ref 365) (aa (ae 2) (aa (ae 3) (aa (ak g n (.ref 588) (aa (ae 4) ag)) (aa (ak g n (.ref 588) (aa (ae 5) ag)) (aa (ae 6) (aa (ae 7) ag))))))) ag) (ae 11)) (ah (aN (af (.bool .false))) ai) ai) (bT g n))
def ib(g:Gl)(n:Nat):=(ah (bA (cF (aC .NotEq (bp (aa (ak g n (.ref 581) (aa (aS (ae 12) gQ) ag)) (aa (ak g n (.ref 581) (aa (aS (ae 12) d4) ag)) ag))) (bp (aa (ae 4) (aa (ae 5) ag)))) (cF (aC .NotEq (a7 2 [] (hV (aj 1) j0 (dn (b1 vV) (aa (ae 1) ag))) (a6 (aS (ae 12) js))) (ae 6)) (af (.bool .false)))) (ah (aN (af (.bool .false))) ai) ai) (ia g n))
def ic(g:Gl)(n:Nat):=(ah (bA (cF (aC .Eq (ae 12) (af (.str [98,97,100]))) (cF (aC .NotEq (av g n df (ae 12) ag) (ae 11)) (cF (aC .NotEq (bp (aa (aS (ae 12) mx) (aa (dn (b1 CG) (aa (aS (ae 12) f6) ag)) (aa (aS (ae 12) cf) ag)))) (bp (aa (ae 2) (aa (ae 3) (aa (ae 7) ag))))) (af (.bool .false))))) (ah (aN (af (.bool .false))) ai) ai) (ib g n))
def d6(g:Gl)(n:Nat):=(ah (aD (aj 12) (ak g n (.ref 493) (aa (af (.bytes [99,111,109,109,105,116])) (aa (ae 11) (aa (ae 1) ag))))) (ic g n))
def ie(g:Gl)(n:Nat):=(ah (aD (aj 11) (ao .Add (ao .Add (av g n bB (af (.bytes [10])) (aa (ao .Add (ao .Add (ao .Add (bb (ae 8) (af .none) (af (.int 1))) (ae 9)) (bb (ae 8) (af (.int 1)) (af .none))) (ae 10)) ag)) (af (.bytes [10,10]))) (ae 7))) (d6 g n))
def ig(g:Gl)(n:Nat):=(ah (aD (aj 10) (a7 3 [] (hV (cL 2 [(aj 1),(aj 2)]) j0 (ao .Add (ao .Add (ae 1) (af (.bytes [32]))) (av g n m_replace (ae 2) (aa (af (.bytes [10])) (aa (af (.bytes [10,32])) ag))))) (a6 (ae 6)))) (ie g n))
def ij(g:Gl)(n:Nat):=(ah (aD (aj 9) (a7 2 [] (hV (aj 1) j0 (ao .Add (af (.bytes [112,97,114,101,110,116,32])) (ak g n (.ref 481) (aa (ae 1) ag)))) (a6 (ae 3)))) (ig g n))
def cM(g:Gl)(n:Nat):=(ah (aD (aj 8) (bp (aa (ao .Add (af (.bytes [116,114,101,101,32])) (ak g n (.ref 481) (aa (ae 2) ag))) (aa (ao .Add (af (.bytes [97,117,116,104,111,114,32])) (ak g n (.ref 574) (aa (ae 4) ag))) (aa (ao .Add (af (.bytes [99,111,109,109,105,116,116,101,114,32])) (ak g n (.ref 574) (aa (ae 5) ag))) ag))))) (ij g n))
def ik(g:Gl)(n:Nat):=(ah (aD (aj 7) (ak g n (.ref 476) (aa (ae 0) (aa (bp (aa (af (.bytes [])) (aa (af (.bytes [111,110,101,10])) (aa (af (.bytes [111,110,101,10,10,116,119,111,32,116,104,114,101,101])) (aa (af (.bytes [10])) (aa (af (.bytes [97,10,98,10,10])) ag)))))) ag)))) (cM g n))
def ip(g:Gl)(n:Nat):=(ah (aD (aj 6) (ao .Add (ao .Mult (bp (aa (c8 (aa (af (.bytes [101,110,99,111,100,105,110,103])) (aa (af (.bytes [108,97,116,105,110,49])) ag))) ag)) (ak g n (.ref 469) (aa (ae 0) (aa (af (.int 2)) ag)))) (ao .Mult (bp (aa (c8 (aa (af (.bytes [110,111,116,101,45,120])) (aa (af (.bytes [111,110,101,10,116,119,111,10,10,102,111,117,114])) ag))) ag)) (ak g n (.ref 469) (aa (ae 0) (aa (af (.int 2)) ag)))))) (ik g n))
def iq(g:Gl)(n:Nat):=(ah (bZ [5,4] (aa (ak g n (.ref 567) (aa (ae 0) ag)) (aa (ak g n (.ref 567) (aa (ae 0) ag)) ag))) (ip g n))
def fy(g:Gl)(n:Nat):=(ah (bZ [3,2] (aa (ak g n (.ref 486) (aa (ae 0) (aa (ae 1) ag))) (aa (a7 2 [0,1] (hV (aj 1) j0 (ak g n (.ref 486) (aa (ae 2) (aa (ae 3) ag)))) (da (aa (ak g n (.ref 469) (aa (ae 0) (aa (af (.int 3)) ag))) ag))) ag))) (iq g n))
noncomputable def pB:Df:=⟨619,[V3 "deck",V3 "size"],[V3 "deck",V3 "size",V3 "goal",V3 "kind",V3 "name",V3 "person",V3 "message",V3 "fixed",V3 "is_signed_by",V3 "rows",V3 "octets",V3 "it",V3 "tagger",V3 "odd"],[V3 "odd"]⟩
def lP(g:Gl)(n:Nat):=(ah (bA (cF (di (cu (ae 8)) (di (aC .NotEq (ak g n (.ref 581) (aa (aS (ae 11) cW) ag)) (ae 5)) (af (.bool .true)))) (cF (di (gw (cu (ae 8))) (di (aC .IsNot (aS (ae 11) cW) (af .none)) (af (.bool .true)))) (af (.bool .false)))) (ah (aN (af (.bool .false))) ai) ai) ai)
def lQ(g:Gl)(n:Nat):=(ah (bA (aC .NotEq (av g n df (ak g n (.ref 415) (aa (ae 2) (aa (ae 3) (aa (ae 4) (aa (ae 12) (aa (ae 6) ag)))))) ag) (ae 10)) (ah (aN (af (.bool .false))) ai) ai) (lP g n))
def lR(g:Gl)(n:Nat):=(ah (aD (aj 12) (bA (cu (ae 8)) (ak g n (.ref 588) (aa (ae 5) ag)) (af .none))) (lQ g n))
def lT(g:Gl)(n:Nat):=(ah (bA (cF (aC .Eq (ae 11) (af (.str [98,97,100]))) (cF (aC .NotEq (av g n df (ae 11) ag) (ae 10)) (cF (aC .NotEq (bp (aa (aS (ae 11) fN) (aa (aS (ae 11) jR) (aa (aS (ae 11) bH) (aa (aS (ae 11) cf) ag))))) (bp (aa (ae 2) (aa (ae 3) (aa (ae 4) (aa (ae 6) ag)))))) (af (.bool .false))))) (ah (aN (af (.bool .false))) ai) ai) (lR g n))
def lU(g:Gl)(n:Nat):=(ah (aD (aj 11) (ak g n (.ref 493) (aa (af (.bytes [116,97,103])) (aa (ae 10) (aa (ae 1) ag))))) (lT g n))
def lV(g:Gl)(n:Nat):=(ah (aD (aj 10) (ao .Add (ao .Add (av g n bB (af (.bytes [10])) (aa (ae 9) ag)) (af (.bytes [10,10]))) (ae 6))) (lU g n))
def dN(g:Gl)(n:Nat):=(ah (aD (aj 9) (ao .Add (ae 7) (ao .Mult (bp (aa (ao .Add (af (.bytes [116,97,103,103,101,114,32])) (ak g n (.ref 574) (aa (ae 5) ag))) ag)) (dn (b1 KQ) (aa (ae 8) ag))))) (lV g n))
def lW(g:Gl)(n:Nat):=(ah (aN (aC .Eq (a7 2 [1] (hV (aj 1) (aC .NotEq (ak g n (.ref 493) (aa (af (.bytes [116,97,103])) (aa (ae 1) (aa (ae 2) ag)))) (af (.str [98,97,100]))) (ae 1)) (a6 (a7 2 [0,13] (hV (aj 1) j0 (ak g n (.ref 476) (aa (ae 2) (aa (ae 3) ag)))) (da (aa (af (.int 3)) ag))))) (bp ag))) ai)
def lX(g:Gl)(n:Nat):=(ah (fX (av g n aK (ae 13) (aa (ao .Add (av g n bB (af (.bytes [10])) (aa (ao .Add (ae 7) (bp (aa (ao .Add (af (.bytes [116,97,103,103,101,114,32])) (ak g n (.ref 595) (aa (ae 0) ag))) ag))) ag)) (af (.bytes [10,10,109]))) ag))) (lW g n))
def kx(g:Gl)(n:Nat):=(ah (fX (av g n aK (ae 13) (aa (ao .Add (av g n bB (af (.bytes [10])) (aa (ao .Add (ao .Add (bb (ae 7) (af .none) (af (.int 1))) (bp (aa (ao .Add (af (.bytes [116,121,112,101,32])) (ak g n (.ref 476) (aa (ae 0) (aa (bp (aa (af (.bytes [116,104,105,110,103])) (aa (af (.bytes [])) (aa (af (.bytes [67,111,109,109,105,116])) ag)))) ag)))) ag))) (bb (ae 7) (af (.int 2)) (af .none))) ag)) (af (.bytes [10,10,109]))) ag))) (lX g n))
def ky(g:Gl)(n:Nat):=(ah (fX (av g n aK (ae 13) (aa (ao .Add (av g n bB (af (.bytes [10])) (aa (ao .Add (bp (aa (ao .Add (af (.bytes [111,98,106,101,99,116,32])) (ak g n (.ref 602) (aa (ae 0) (aa (ae 2) ag)))) ag)) (bb (ae 7) (af (.int 1)) (af .none))) ag)) (af (.bytes [10,10,109]))) ag))) (kx g n))
def dw(g:Gl)(n:Nat):=(ah (aD (aj 13) (gx (aa (ao .Add (av g n bB (af (.bytes [10])) (aa (ak g n (.ref 609) (aa (ae 0) (aa (ae 7) (aa (af (.int 3)) ag)))) ag)) (af (.bytes [10,10,109]))) (aa (av g n bB (af (.bytes [10])) (aa (ae 7) ag)) (aa (ao .Add (av g n bB (af (.bytes [10])) (aa (ae 7) ag)) (af (.bytes [10,10,109,0]))) ag))))) (ky g n))
def fz(g:Gl)(n:Nat):=(ah (dq (aj 8) (a6 (bp (aa (aC .Eq (ak g n (.ref 469) (aa (ae 0) (aa (af (.int 2)) ag))) (af (.int 0))) ag))) (dN g n)) (dw g n))
def kz(g:Gl)(n:Nat):=(ah (aD (aj 7) (bp (aa (ao .Add (af (.bytes [111,98,106,101,99,116,32])) (ak g n (.ref 481) (aa (ae 2) ag))) (aa (ao .Add (af (.bytes [116,121,112,101,32])) (ae 3)) (aa (ao .Add (af (.bytes [116,97,103,32])) (ae 4)) ag))))) (fz g n))
def kB(g:Gl)(n:Nat):=(ah (aD (aj 6) (ak g n (.ref 476) (aa (ae 0) (aa (bp (aa (af (.bytes [])) (aa (af (.bytes [111,110,101,10])) (aa (af (.bytes [111,110,101,10,10,116,119,111])) ag)))) ag)))) (kz g n))
def kC(g:Gl)(n:Nat):=(ah (bZ [5,4] (aa (ak g n (.ref 476) (aa (ae 0) (aa (bp (aa (af (.bytes [118,49])) (aa (af (.bytes [97,47,98])) ag))) ag))) (aa (ak g n (.ref 567) (aa (ae 0) ag)) ag))) (kB g n))
def pC(g:Gl)(n:Nat):=(ah (bZ [3,2] (aa (ak g n (.ref 486) (aa (ae 0) (aa (ae 1) ag))) (aa (ak g n (.ref 476) (aa (ae 0) (aa (bp (aa (af (.bytes [99,111,109,109,105,116])) (aa (af (.bytes [116,114,101,101])) (aa (af (.bytes [98,108,111,98])) (aa (af (.bytes [116,97,103])) ag))))) ag))) ag))) (kC g n))
noncomputable def sQ:Df:=⟨626,[V3 "script"],[V3 "script",V3 "deck",V3 "size",V3 "way",V3 "rows",V3 "octets"],[]⟩
def LC(g:Gl)(n:Nat):=(ah (aN (di (aC .Eq (ak g n (.ref 538) (aa (ae 5) (aa (ae 2) ag))) (ae 4)) (ak g n (.ref 555) (aa (ae 5) (aa (ae 2) ag))))) ai)
def LD(g:Gl)(n:Nat):=(ah (aD (aj 5) (ao .Add (ao .Add (ao .Add (ao .Add (ao .Add (af (.bytes [49,48,48,54,52,52,32,97,0])) (aQ (aQ (ae 4) (af (.int 0))) (af (.int 2)))) (af (.bytes [49,48,48,54,52,52,32,97,46,98,0]))) (aQ (aQ (ae 4) (af (.int 1))) (af (.int 2)))) (af (.bytes [52,48,48,48,48,32,97,0]))) (aQ (aQ (ae 4) (af (.int 2))) (af (.int 2))))) (LC g n))
def Dh(g:Gl)(n:Nat):=(ah (aD (aj 4) (bp (aa (c8 (aa (af (.int 33188)) (aa (af (.bytes [97])) (aa (ao .Mult (af (.bytes [1])) (ae 2)) ag)))) (aa (c8 (aa (af (.int 33188)) (aa (af (.bytes [97,46,98])) (aa (ao .Mult (af (.bytes [2])) (ae 2)) ag)))) (aa (c8 (aa (af (.int 16384)) (aa (af (.bytes [97])) (aa (ao .Mult (af (.bytes [3])) (ae 2)) ag)))) ag))))) (LD g n))
def LF(g:Gl)(n:Nat):=(ah (bA (cF (di (aC .Eq (ae 3) (af (.int 0))) (di (gw (cu (ak g n (.ref 614) (aa (ae 1) (aa (ae 2) ag))))) (af (.bool .true)))) (cF (di (aC .Eq (ae 3) (af (.int 1))) (di (gw (cu (ak g n (.ref 619) (aa (ae 1) (aa (ae 2) ag))))) (af (.bool .true)))) (af (.bool .false)))) (ah (aN (af (.bool .false))) ai) ai) (Dh g n))
def LG(g:Gl)(n:Nat):=(ah (aD (aj 3) (ak g n (.ref 469) (aa (ae 1) (aa (af (.int 2)) ag)))) (LF g n))
def LH(g:Gl)(n:Nat):=(ah (bA (cF (gw (cu (ak g n (.ref 560) (aa (ae 1) (aa (ae 2) ag))))) (cF (gw (cu (ak g n (.ref 524) (aa (ae 1) (aa (ae 2) ag))))) (cF (gw (cu (ak g n (.ref 531) (aa (ae 1) (aa (ak g n (.ref 486) (aa (ae 1) (aa (ae 2) ag))) ag))))) (af (.bool .false))))) (ah (aN (af (.bool .false))) ai) ai) (LG g n))
def Di(g:Gl)(n:Nat):=(ah (aD (aj 2) (ak g n (.ref 476) (aa (ae 1) (aa (bp (aa (af (.int 2)) (aa (af (.int 2)) (aa (af (.int 4)) ag)))) ag)))) (LH g n))
def NM(g:Gl)(n:Nat):=(ah (aD (aj 1) (ak g n (.ref 462) (aa (ae 0) ag))) (Di g n))
theorem Kr(h1:c=true->t)(d:c=false->f):br c t f:=by
 cases c with
 |true=>exact h1 rfl
 |false=>exact d rfl
theorem VD(h:c=true)(k:t):br c t f:=by rw[h];exact k
theorem Vb(h:c=false)(k:f):br c t f:=by rw[h];exact k
theorem az(e:o=some a)(h:k a):dR o k:=by rw[e];exact h
theorem Sub.rfl:Sub h h:=λ_ _ e=>e
theorem Sub.upd(e:h c=none):Sub h (upd h c o):=λa b q=>(aE λz=>by rw[z,e]at q;cases q).trans q
noncomputable def cy(r:Option V)(Q:V->AH->Prop)(X:AH->Prop)(h:AH):Prop:=WY (motive:=λ_=>Prop) r (X h) λv=>Q v h
abbrev cU(g:Gl)(n:Nat)(a:Addr)(vs:List V)(r:Option V):Prop:=∀{Q:V->AH->Prop} {X:AH->Prop} {h:AH},cy r Q X h->bW g n (.ref a) vs Q X h
abbrev dC(Q:V->AH->Prop):V->St->Prop:=λfl st=>Fin Q (EB fl) st.h
abbrev bz(X:AH->Prop):St->Prop:=λst=>yE X st.h
theorem fH(q:X h):yE X h:=⟨h,Sub.rfl,q⟩
theorem eC(s:Sub h1 h)(q:X h1):yE X h:=⟨h1,s,q⟩
theorem bc(q:Q v h):Fin Q v h:=.mk Sub.rfl q
theorem VE(e:r=some v)(q:Q v h):cy r Q X h:=by rw[e];exact q
theorem VF(e:r=none)(q:X h):cy r Q X h:=by rw[e];exact q
theorem VG(h1:∀v,r=some v->Q v h)(d:r=none->X h):cy r Q X h:=by
 cases r with
 |none=>exact d rfl
 |some v=>exact h1 v rfl
theorem Ss{s:gG}{W:PT}{v:V}{r:List V}{Q:V->St->Prop}{X:St->Prop}{st:St}(h:s v (λq=>W (λf d=>br (isNone f) (fT s W r Q X d) (Q f d)) X q) st):fT s W (v::r) Q X st:=h
theorem Vc{s:gG}{W:PT}{Q:V->St->Prop}{X:St->Prop}{st:St}(h:Q .none st):fT s W [] Q X st:=h
theorem NN(I:List y->St->Prop)(h0:∀st,I [] st->Q .none st)
 (h1:∀a r st,I (a::r) st->∀Qc:V->St->Prop,(∀st',I r st'->Qc .none st')->(∀v st',Q (.tup [v]) st'->Qc (.tup [v]) st')->W Qc X ⟨st.loc.set i (some (e a)),st.h⟩) :
 ∀{l:List y} {st:St},I l st->fT (aj i) W (l.map e) Q X st:=by
 intro d
 induction d with
 |nil=>
  intro st h
  exact h0 st h
 |cons a r z=>
  intro st h
  exact h1 a r st h _ (λst' j=>z j) λ_ _ q=>q
theorem NO(I:St->Prop)(f:x->V):∀{l:List x} {d:List V} {st:St},(∀a∈l,∀st (Q':V->St->Prop),I st->(∀st',I st'->Q' (f a) st')->s (e a) (λj=>w Q' uS j) st)->I st->(∀st',I st'->Q (d++l.map f) st')->iF s j0 w (l.map e) d Q st:=by
 intro k
 induction k with
 |nil=>
  intro d st _ i q
  have:=q st i;rwa [aem,WH]at this
 |cons v r o=>
  intro d st h i q
  exact h v (.head _) st _ i λst' p=>o (λu z=>h u (.tail _ z)) p λy m=>by have:=q y m;rwa [WO,aan]at this
theorem Dj(p:w->Bool)(I:St->Prop)(s:gG)(f:w->V):∀{l:List w} {y:List V} {st:St},(∀a∈l,∀st,I st->∃d,I d∧(∀Q:St->Prop,Q d->s (e a) Q st)∧(∀j:V->St->Prop,j (.bool (p a)) d->J j uS d)∧(p a=true->∀j:V->St->Prop,j (f a) d->U j uS d))->
 I st->(∀st',I st'->Q (y++(l.filter p).map f) st')->iF s J U (l.map e) y Q st:=by
 intro R
 induction R with
 |nil=>
  intro y st _ i q
  have:=q st i;rwa [List.filter_nil,aem,WH]at this
 |cons v r o=>
  intro y st h i q
  exact(h v (.head _) st i).elim λd z=>z.2.1 _ (z.2.2.1 _ (show br (p v) _ _ from by
  have x:∀u∈r,_:=λu D=>h u (.tail _ D)
  generalize e:p v=L;cases L with
  |false=>exact o x z.1 λk S=>by have:=q k S;rwa [abr (by rw[e];decide)]at this
  |true=>exact z.2.2.2 e _ (o x z.1 λm Y=>by have:=q m Y;rwa [abq e,WO,aan]at this)))
theorem d7(e:h c=some (.list vs)):res h (.ref c)=.lst vs:=by
 show WY (motive:=λ_=>V) (h c) _ _=_
 rw[e]
theorem Dk(e:h c=some (.list vs))(q:dR m.l k):pick m (.ref c) h k d:=by unfold pick;rw[d7 e];exact q
theorem Ir(e:h c=some (.list vs))(q:k vs):iE (res h (.ref c)) k:=by rw[d7 e];exact q
abbrev Ev(E:PT)(X:St->Prop)(st:St)(v:V):Prop:=∀d:V->St->Prop,d v st->E d X st
section
variable{g:Gl}{n i:Nat}{E A B C W r:PT}{T:gG}{Q Qc:V->St->Prop}{X:St->Prop}{st:St}{loc:List (Option V)}{h:AH}{c:Addr}{vs:List V}{v u:V}{a b:Bool}
theorem aZ(d:Ev E X ⟨loc,h⟩ v)(k:r Q X ⟨loc.set i (some v),h⟩):ah (aD (aj i) E) r Q X ⟨loc,h⟩:=d _ k
theorem vm(d:Ev q X ⟨loc,h⟩ (.lst vs))(l:vs.length<=1000000)(k:∀c,h c=none->r Q X ⟨loc.set i (some (.ref c)),upd h c (some (.list vs))⟩):ah (aD (aj i) (gx q)) r Q X ⟨loc,h⟩:=d _ ⟨l,k⟩
theorem jA(d:Ev E X ⟨loc,h⟩ (.lst vs))(l:vs.length<=1000000∧is.length=vs.length)(k:r Q X ⟨vP loc is vs.reverse,h⟩):ah (bZ is E) r Q X ⟨loc,h⟩:=d _ ⟨l.1,l.2,k⟩
theorem VH(d:Ev E X st v)(k:r Q X st):ah (fX E) r Q X st:=d _ k
theorem a5(d:Ev E X st v)(q:Q (.tup [v]) st):ah (aN E) r Q X st:=d _ q
theorem Dl(h:∀d,s d X st):ah s r Q X st:=h _
theorem bP(hC:Ev C X st (.bool b))(d:b=true->Ev E X st v)(hx:b=true->X st)(k:b=false->r Q X st):ah (bA C (ah (bj E) ai) ai) r Q X st:=hC _ (Kr (λe=>d e _ (hx e)) k)
theorem je(hC:Ev C X st (.bool b))(e:b=false)(k:r Q X st):ah (bA C A ai) r Q X st:=hC _ (Vb e k)
theorem d8(hC:Ev C X st (.bool b))(e:b=true)(d:Ev E X st v)(x:X st):ah (bA C (ah (bj E) ai) q) r Q X st:=hC _ (VD e (d _ x))
theorem bI(hC:Ev C X st (.bool b))(d:b=true->Ev E X st v)(hx:b=true->Q (.tup [v]) st)(k:b=false->r Q X st):ah (bA C (ah (aN E) ai) ai) r Q X st:=hC _ (Kr (λe=>d e _ (hx e)) k)
theorem Fw(hC:Ev C X st (.bool b))(h1:b=true->A (λf d=>br (isNone f) (r Q X d) (Q f d)) X st)(q:b=false->B (λf d=>br (isNone f) (r Q X d) (Q f d)) X st):ah (bA C A B) r Q X st:=hC _ (Kr h1 q)
theorem Ut(k:Qc .none st):ai Qc X st:=k
theorem zC{a r:PT}{st':St}(h:∀Qc:V->St->Prop,Qc .none st'->a Qc X st)(k:r Q X st'):ah a r Q X st:=h _ k
theorem Su(I:List z->St->Prop)(j:Ev It X st (.lst (l.map e)))(q:I l st)(h0:∀st,I [] st->r Q X st)
 (h1:∀a l st,I (a::l) st->∀Qc:V->St->Prop,(∀st',I l st'->Qc .none st')->(∀v st',Q (.tup [v]) st'->Qc (.tup [v]) st')->W Qc X ⟨st.loc.set i (some (e a)),st.h⟩):ah (dq (aj i) It W) r Q X st:=
 j _ (show fT (aj i) W (l.map e) (λf d=>br (isNone f) (r Q X d) (Q f d)) X st from NN (Q:=λf d=>br (isNone f) (r Q X d) (Q f d)) I h0 (λa l st i Qc k y=>h1 a l st i Qc k y) q)
theorem d9(f:q->St)(I:List w->q->Prop)(s:q)(p:Ev It X (f s) (.lst (l.map e)))(y:I l s)(h0:∀s,I [] s->r Q X (f s))
 (h1:∀a l s,I (a::l) s->∀Qc:V->St->Prop,(∀d,I l d->Qc .none (f d))->(∀v st',Q (.tup [v]) st'->Qc (.tup [v]) st')->W Qc X ⟨(f s).loc.set i (some (e a)),(f s).h⟩):ah (dq (aj i) It W) r Q X (f s):=
 Su (λl st=>∃s,st=f s∧I l s) p ⟨s,rfl,y⟩ (λst z=>z.elim λs z=>z.1▸h0 s z.2) λa l st z Qc k j=>z.elim λs z=>z.1▸h1 a l s z.2 Qc (λd m=>k _ ⟨d,rfl,m⟩) j
theorem Iu(f:σ->St)(I:Nat->Int->σ->Prop)(h0:∀x s,I 0 x s->Q .none (f s))
 (h1:∀m x s,I (m+1) x s->∀Qc:V->St->Prop,(∀s',I m (x+d) s'->Qc .none (f s'))->(∀v st',Q (.tup [v]) st'->Qc (.tup [v]) st')->W Qc X ⟨(f s).loc.set i (some (.int x)),(f s).h⟩):∀(m:Nat) (x:Int) (s:σ),I m x s->fT (aj i) W (eA d m x) Q X (f s):=by
 intro zi
 induction zi with
 |zero=>
  intro x s h
  exact h0 x s h
 |succ m ih=>
  intro x s h
  exact h1 m x s h _ (λs' h'=>ih _ s' h') λ_ _ q=>q
theorem xB(f:y->St)(I:Nat->Int->y->Prop)(s:y)(p:Ev It X (f s) (.lst (eA d m x)))(z:I m x s)(h0:∀x s,I 0 x s->r Q X (f s))
 (h1:∀m x s,I (m+1) x s->∀Qc:V->St->Prop,(∀j,I m (x+d) j->Qc .none (f j))->(∀v st',Q (.tup [v]) st'->Qc (.tup [v]) st')->W Qc X ⟨(f s).loc.set i (some (.int x)),(f s).h⟩):ah (dq (aj i) It W) r Q X (f s):=
 p _ (show fT (aj i) W (eA d m x) (λf q=>br (isNone f) (r Q X q) (Q f q)) X (f s)from Iu (Q:=λf q=>br (isNone f) (r Q X q) (Q f q)) f I h0 h1 m x s z)
theorem eE(h1:Ev A X st (.bool a))(d:a=true->Ev B X st (.bool b)):Ev (di A B) X st (.bool (a&&b)):=λ_ k=>h1 _ (by
 cases a with
 |true=>exact d rfl _ k
 |false=>exact k)
theorem lY(h1:Ev A X st (.bool a)):Ev (di A (af (.bool .true))) X st (.bool a):=λ_ k=>h1 _ (by cases a <;> exact k)
theorem fA(h1:Ev A X st (.bool a)):Ev (cF A (af (.bool .false))) X st (.bool a):=λ_ k=>h1 _ (by cases a <;> exact k)
theorem cg(h1:Ev A X st (.bool a))(d:a=false->Ev B X st (.bool b)):Ev (cF A B) X st (.bool (a||b)):=λ_ k=>h1 _ (by
 cases a with
 |true=>exact k
 |false=>exact d rfl _ k)
theorem Dm(h1:Ev E X st x)(j:Ev A X st y)(q:Ev B X st z)(d:∀P:Bool->Prop,P a->tN o x y st.h P)(m:a=true->∀P:Bool->Prop,P b->tN p y z st.h P):Ev (rO o p E A B) X st (.bool (a&&b)):=λ_ k=>h1 _ (j _ (d _ (by
 cases a with
 |true=>exact q _ (m rfl _ k)
 |false=>exact k)))
theorem jB(h1:Ev A X st (.bool a)):Ev (gw A) X st (.bool (!a)):=λ_ k=>h1 _ k
theorem kD(h1:Ev C X st (.bool b))(q:b=true->Ev A X st v)(d:b=false->Ev B X st v):Ev (bA C A B) X st v:=λ_ k=>h1 _ (Kr (λe=>q e _ k) λe=>d e _ k)
theorem ar(h1:Ev E X st v)(q:Ev d X st (.lst vs)):Ev (aa E d) X st (.lst (v::vs)):=λ_ k=>h1 _ (q _ k)
theorem VI(h1:Ev q X st (.lst vs))(d:∀Qv:VP,Qv v st.h->w vs st.h Qv):Ev (dn w q) X st v:=λ_ k=>h1 _ (d _ k)
theorem lZ(h1:Ev E X st u)(d:∀Qv:VP,Qv v st.h->w u st.h Qv):Ev (dn (b1 w) (aa E ag)) X st v:=λ_ k=>h1 _ (d _ k)
theorem ea(h1:Ev A X st x)(q:Ev B X st y)(d:∀Qv:V->Prop,Qv v->El op x y st.h Qv):Ev (ao op A B) X st v:=λ_ k=>h1 _ (q _ (d _ k))
theorem bJ(h1:Ev A X st x)(q:Ev B X st y)(d:∀P:Bool->Prop,P b->tN op x y st.h P):Ev (aC op A B) X st (.bool b):=λ_ k=>h1 _ (q _ (d _ k))
theorem dy(h1:Ev A X st x)(q:Ev B X st y)(d:∀Qv:V->Prop,Qv v->gm x y st.h Qv):Ev (aQ A B) X st v:=λ_ k=>h1 _ (q _ (d _ k))
theorem kE(h1:Ev E X st (.bytes x))(e:m.b=some p)(y:Ev q X st (.lst vs))(d:∀Qv:VP,Qv v st.h->p.2 (.bytes x::vs) st.h Qv):Ev (av g n m E q) X st v:=λ_ k=>h1 _ (az e (y _ (d _ k)))
theorem LI(h1:Ev E X st (.str x))(e:m.s=some p)(y:Ev q X st (.lst vs))(d:∀Qv:VP,Qv v st.h->p.2 (.str x::vs) st.h Qv):Ev (av g n m E q) X st v:=λ_ k=>h1 _ (az e (y _ (d _ k)))
theorem aG{a:Addr}{d:PT}(h1:Ev d X st (.lst vs))(hc:cU g n a vs (some v)):Ev (ak g n (.ref a) d) X st v:=λ_ k=>h1 _ (hc k)
theorem xC{a:Addr}{d:PT}(h1:Ev d X st (.lst vs))(hc:cU g n a vs none)(hx:X st):ak g n (.ref a) d Q X st:=h1 _ (hc hx)
theorem g5{d q:Type}{f:d->q}{l:List d}(h:l.length<=1000000):([]:List V).length+(l.map f).length<=1000000:=by rw[Wd];exact(Xn _).symm▸h
theorem eb{y:Type}{e f:y->V}{l:List y}{is:List Nat}{It d:PT}(j:Ev It X st (.lst (l.map e)))(z:l.length<=1000000)(p:∀a∈l,Ev d uS ⟨none::some (e a)::eI is st.loc,st.h⟩ (f a)):Ev (a7 2 is (hV (aj 1) j0 d) It) X st (.lst (l.map f)):=
 λ_ k=>j _ ⟨g5 z,NO (λs=>∃x,s=⟨none::x::eI is st.loc,st.h⟩) f (λa ha s _ i q=>by obtain⟨x,rfl⟩:=i;exact p a ha _ (q _ ⟨_,rfl⟩)) ⟨_,rfl⟩ λs i=>by obtain⟨x,rfl⟩:=i;exact k⟩
theorem Dn{d:Type}{e f:d->V}{l:List d}{is:List Nat}{It j y:PT}(p:d->Bool)(z:Ev It X st (.lst (l.map e)))(m:l.length<=1000000)(hC:∀a∈l,Ev y uS ⟨none::some (e a)::eI is st.loc,st.h⟩ (.bool (p a)))(w:∀a∈l,p a=true->Ev j uS ⟨none::some (e a)::eI is st.loc,st.h⟩ (f a)):Ev (a7 2 is (hV (aj 1) y j) It) X st (.lst ((l.filter p).map f)):=
 λ_ k=>z _ ⟨g5 m,Dj p (λs=>∃x,s=⟨none::x::eI is st.loc,st.h⟩) (aj 1) f (λa ha s i=>by obtain⟨x,rfl⟩:=i;exact⟨⟨none::some (e a)::eI is st.loc,st.h⟩,⟨_,rfl⟩,λ_ q=>q,hC a ha,w a ha⟩) ⟨_,rfl⟩ λs i=>by obtain⟨x,rfl⟩:=i;exact k⟩
theorem eF(q:Ev E X ⟨loc,h⟩ v)(y:(loc[i]?).join=some (.ref c))(e:h c=some (.list vs))(l:vs.length<1000000)(k:r Q X ⟨loc,upd h c (some (.list (vs++[v])))⟩):ah (fX (av g n aK (ae i) (aa E ag))) r Q X ⟨loc,h⟩:=
 az y (Dk (k:=λe=>aa E ag (λvs d=>iE vs λvs=>e.2 (.ref c::vs) d.h λu h=>r Q X ⟨d.loc,h⟩) X ⟨loc,h⟩) e (q _ (az e ⟨l,k⟩)))
end
structure n7(h0:AH)(c:Addr)(o:O)(h:AH):Prop where
 at_:h c=some o
 old:∀a,a≠c->h a=h0 a
theorem n7.new:n7 h0 c o (upd h0 c (some o)):=⟨aB _ _ _,λ_ n=>aE n⟩
theorem n7.put(w:n7 h0 c o h):n7 h0 c o' (upd h c (some o')):=⟨aB _ _ _,λa n=>(aE n).trans (w.old a n)⟩
theorem n7.sub(w:n7 h0 c o h)(n:h0 c=none):Sub h0 h:=λa b e=>(w.old a λq=>by rw[q,n]at e;cases e).trans e
theorem n7.drop(w:n7 h0 c o h)(n:h0 c=none):upd h c none=h0:=funext λa=>(Yj (a=c)).elim (λe=>by rw[e,aB,n]) λe=>(aE e).trans (w.old a e)
structure Kn(g:Gl)(K:Frag):Prop where
 H:∀n,e8 g K (NL n)
 cl:∀c∈[141,190,239,330,365,415],makesIn K c=true
 inits:∀p∈[(141,131),(190,166),(239,222),(330,306),(365,348),(415,398)],Xf K (.ref p.1) "__init__" = some (some (.ref p.2))∧typeIn K (.ref p.2)=some (.type "function")
 tab:g.tab=qi
 text_of:aR K Fn Fo
 octets_of:aR K zd ze
 hex_of:aR K Io Ip
 hex_digit:aR K zf zg
 octets_of_hex:aR K qj qk
 number_by:aR K zh zj
 number_of:aR K zk zl
 object_has_sign:aR K mF mG
 object_are_all:aR K oI oJ
 Person_init:aR K t8 t9
 Person_octets:aR K qn qo
 read_person:aR K ua ub
 Entry_init:aR K wG wH
 Entry_sort_key:aR K oM oN
 Entry_octets:aR K sh si
 object_by_eights:aR K ly lz
 object_name_fault:aR K j3 j4
 Tree_init:aR K zm zo
 Tree_octets:aR K uc ud
 Tree_find:aR K zp zq
 tree_faults:aR K uf ug
 check_tree:aR K wI wJ
 object_mode_of:aR K oO oP
 read_tree:aR K zr zt
 object_head_row:aR K mH mI
 object_head_id:aR K oQ oR
 object_heads:aR K sm sr
 ObjectHeadWalk_init:aR K iV iW
 ObjectHeadWalk_is_next:aR K gy gz
 ObjectHeadWalk_take:aR K iX iY
 ObjectHeadWalk_rest:aR K iZ i3
 Commit_init:aR K uw ux
 Commit_octets:aR K qM qN
 read_commit:aR K uy uz
 object_signature_at:aR K i4 i5
 Tag_init:Ik K Bm Bn
 Tag_signed_part:aR K mT mU
 Tag_octets:aR K wM wN
 read_tag:aR K Bo Bp
 read_object:aR K uA uB
 object_octets:aR K qY qZ
 split_object:aR K su sv
 law_octets:aR K wX wY
 law_signs_of:aR K sx sy
 law_deck:aR K Bq Br
 law_draw:aR K Bs Bt
 law_pick:aR K Bu Bv
 law_hex:aR K Fp Fq
 law_oid:aR K Fs Ft
 law_heard:aR K zv zw
 law_bent:aR K Bw Bx
 law_number:aR K xk xl
 law_split:aR K zx zy
 law_split_told:aR K pj pk
 law_heads_right:aR K mY mZ
 law_hex_right:aR K q0 q7
 law_rows:aR K By Bz
 law_key:aR K Fu Fv
 law_are_fit:aR K uF uG
 law_tree_right:aR K pn pq
 law_trees_right:aR K nc ng
 law_person:aR K xu xv
 law_person_row:aR K pv px
 law_parts:aR K zA zB
 law_made:aR K BA BB
 law_odd_person:aR K pz pA
 law_odd_id:aR K xw xx
 law_spoilt:aR K xy xA
 law_commits_right:aR K ku fy
 law_tags_right:aR K pB pC
 theLaw:aR K sQ NM
section
variable{g:Gl}{K:Frag}{n:Nat}{b:List UInt8}{h:AH}
theorem jS(f:α->Int)(l:List α):yz (l.map λa=>.int (f a))=some (l.map f):=by
 induction l with
 |nil=>rfl
 |cons a l ih=>show(yz (l.map λa=>.int (f a))).bind _=_;rw[ih];rfl
theorem pD(f:α->List Nat)(l:List α):yM (l.map λa=>.str (f a))=some (l.map f):=by
 induction l with
 |nil=>rfl
 |cons a l ih=>show(yM (l.map λa=>.str (f a))).bind _=_;rw[ih];rfl
theorem dO(f:α->List UInt8)(l:List α):hO (l.map λa=>.bytes (f a))=some (l.map f):=by
 induction l with
 |nil=>rfl
 |cons a l ih=>show(hO (l.map λa=>.bytes (f a))).bind _=_;rw[ih];rfl
def jf(b:List UInt8):List Nat:=b.map acV
theorem vn(f:α->β)(l:List α):(l.map λa=>[f a]).flatten=l.map f:=by
 induction l with
 |nil=>rfl
 |cons a l ih=>rw[WO,YG,ih];rfl
theorem Sv(c:UInt8):(c.toNat:Int)<1114112:=Xl.mpr (Xz c.toNat_lt dD)
def jC(base:Int):List UInt8->Int->Option Int
 | [],acc=>some acc
 |c::r,acc=>bif decide (0<=(c.toNat:Int)-48)&&decide ((c.toNat:Int)-48<base)then jC base r (base*acc+((c.toNat:Int)-48))else none
def zD(base:Int)(b:List UInt8):Option Int:=bif b.isEmpty then none else jC base b 0
noncomputable def gA(o:Option Int):V:=WY (motive:=λ_=>V) o .none .int
def Fx(s:List Nat):List UInt8:=s.map adf
theorem ni(h:(!a)=false):a=true:=by simpa using h
theorem BC(h1:-(2^64)<i)(h2:i<2^64):ady i j:=.of_left (intBits_le_64 h1 h2)
theorem zE(h1:-(2^64)<j)(h2:j<2^64):ady i j:=.of_right (intBits_le_64 h1 h2)
theorem pE(k:Kn g K)(hn:1<=n)(hb:b.length<=1000000):cU g n 59 [.bytes b] (some (.str (jf b))):=λ{Q X h} q=>by
 refine((aH (n:=0) (k.H 0) k.text_of rfl ?_).call).up hn
 refine a5 (LI Iq rfl (ar (eb (f:=λc:UInt8=>.str [c.toNat]) Iq hb λc _ _ k=>V8 ⟨Ww _,Sv c⟩ k) λ_ k=>k) λ_ k=>az (pD _ _) (V8 ⟨rfl,?_⟩ k)) ?_
 ·rw[vn,Wd];exact V4 hb dD
 ·rw[vn];exact bc q
theorem jD(k:Kn g K)(hn:1<=n)(hl:s.length<=1000000)(hs:∀c∈s,c<256):cU g n 64 [.str s] (some (.bytes (Fx s))):=λ{Q X h} q=>by
 refine((aH (n:=0) (k.H 0) k.octets_of rfl ?_).call).up hn
 refine aZ (eb (f:=λc:Nat=>.int c) Iq hl λc _ _ k=>k) ?_
 refine d9 (e:=λc:Nat=>.int c) (λz:Option V=>⟨[some (.str s),some (.lst (s.map λc:Nat=>.int c)),z],h⟩) (λl _=>∀c∈l,c<256) none Iq hs (λz i=>?_) λc r z i Qc k kr=>?_
 ·refine a5 (λ_ k=>az (jS (λc:Nat=>(c:Int)) s) (V8 (λm hm=>?_) k)) ?_
  ·obtain⟨c,hc,rfl⟩:=WC.mp hm
   exact⟨Ww _,Xl.mpr (hs c hc)⟩
  ·rw[Xy];exact bc q
 ·exact je Iq (decide_eq_false (YX.mpr (XS.mpr (Zz (i c (.head _)))))) (k _ λd hd=>i d (.tail _ hd))
theorem pF:jC base (c::r) acc=bif decide (0<=(c.toNat:Int)-48)&&decide ((c.toNat:Int)-48<base)then jC base r (base*acc+((c.toNat:Int)-48))else none:=rfl
theorem zF(k:Kn g K)(hn:1<=n)(h1:-(2^64)<base)(h2:base<2^64):cU g n 92 [.bytes b,.int base] (some (gA (zD base b))):=λ{Q X h} q=>by
 refine((aH (n:=0) (k.H 0) k.number_by rfl ?_).call).up hn
 refine bI Iq (λ_ _ k=>k) (λe=>?_) λe=>aZ Iq ?_
 ·obtain rfl:b=[]:=Zc.mp (Yx (eq_of_beq e))
  exact bc q
 ·have q:Q (gA (jC base b 0)) h:=by
   cases b with
   |nil=>cases e
   |cons=>exact q
  refine d9 (e:=λc:UInt8=>.int (c.toNat:Nat)) (l:=b) (λs:Int×Option V×Option V=>⟨[some (.bytes b),some (.int base),some (.int s.1),s.2.1,s.2.2],h⟩) (λl s=>Q (gA (jC base l s.1)) h) (0,none,none) Iq q (λs q=>a5 Iq (bc q)) λd r s q Qc k kr=>?_
  rw[pF]at q
  refine aZ Iq (bI (jB (Dm Iq Iq Iq Iq λ_ _ k=>k)) (λ_ _ k=>k) (λe=>?_) λe=>?_)
  ·rw[cw e]at q
   exact kr _ _ (bc q)
  ·rw[ni e]at q
   exact aZ (λ_ k=>V8 (BC h1 h2) k) (k (_,_,_) q)
def numOf(b:List UInt8):Option Int:=bif decide ((b.length:Int)>1)&&(b.head?.elim false λc=>(c.toNat:Int)==48)then none else zD 10 b
theorem Iv(e:0<b.length):∃c,b[0]? = some c∧b.head? = some c:=by
 cases b with
 |nil=>cases e
 |cons c r=>exact⟨c,rfl,rfl⟩
theorem qa(k:Kn g K)(hn:2<=n):cU g n 99 [.bytes b] (some (gA (numOf b))):=λ{Q X h} q=>by
 refine((aH (n:=1) (k.H 1) k.number_of rfl ?_).call).up hn
 unfold numOf at q
 refine bI (b:=decide ((b.length:Int)>1)&&(b.head?.elim false λc=>(c.toNat:Int)==48)) (eE Iq λe=>?_) (λ_ _ k=>k) (λe=>?_) λe=>?_
 ·obtain⟨c,e1,e2⟩:=Iv (Xz adB (Xl.mp (of_decide_eq_true e)))
  rw[e2]
  exact lY (bJ (λ_ k=>V8 (aax 0) (az e1 k)) Iq λ_ k=>k)
 ·rw[e]at q;exact bc q
 ·rw[e]at q;exact a5 (aG Iq (zF k (Wh _) dD dD)) (bc q)
theorem BD(d:UInt8):((d.toNat:Int).toNat).toUInt8=d:=by simp
theorem LJ(d:UInt8):0<=(d.toNat:Int)∧(d.toNat:Int)<256:=⟨Ww _,Xl.mpr d.toNat_lt⟩
theorem sR(k:Kn g K)(hn:1<=n):cU g n 110 [.bytes b,.bytes s] (some (.bool (s.any λc=>decide (Tactic.a8 b [c] 0≥0)))):=λ{Q X h} q=>by
 refine((aH (n:=0) (k.H 0) k.object_has_sign rfl ?_).call).up hn
 refine d9 (e:=λc:UInt8=>.int (c.toNat:Nat)) (λx:Option V=>⟨[some (.bytes b),some (.bytes s),x],h⟩) (λl _=>Q (.bool (l.any λc=>decide (Tactic.a8 b [c] 0≥0))) h) none Iq q (λx q=>a5 Iq (bc q)) λd r x q Qc k kr=>?_
 ·rw[YT]at q
  refine bI (bJ (kE Iq rfl (ar (lZ (λ_ k=>V8 (V5 rfl) k) λ_ k=>V8 (λm hm=>by rw[Wr.mp hm];exact LJ d) k) λ_ k=>k) λ_ k=>k) Iq λ_ k=>k) (λ_ _ k=>k) (λe=>?_) λe=>?_
  ·have e:decide (Tactic.a8 b [((d.toNat:Int).toNat).toUInt8] 0≥0)=true:=e
   rw[BD d]at e
   rw[e]at q;exact kr _ _ (bc q)
  ·have e:decide (Tactic.a8 b [((d.toNat:Int).toNat).toUInt8] 0≥0)=false:=e
   rw[BD d]at e
   rw[e]at q;exact k _ q
theorem jT(k:Kn g K)(hn:1<=n):cU g n 117 [.bytes b,.bytes s] (some (.bool (b.all λc=>s.contains c))):=λ{Q X h} q=>by
 refine((aH (n:=0) (k.H 0) k.object_are_all rfl ?_).call).up hn
 refine d9 (e:=λc:UInt8=>.int (c.toNat:Nat)) (λx:Option V=>⟨[some (.bytes b),some (.bytes s),x],h⟩) (λl _=>Q (.bool (l.all λc=>s.contains c)) h) none Iq q (λx q=>a5 Iq (bc q)) λd r x q Qc k kr=>?_
 ·rw[adX]at q
  refine bI (λ_ k=>V8 (LJ d) k) (λ_ _ k=>k) (λe=>?_) λe=>?_
  ·rw[BD d]at e
   rw[cw e]at q;exact kr _ _ (bc q)
  ·rw[BD d]at e
   rw[ni e]at q;exact k _ q
end
noncomputable def ez:List Nat:=[48,49,50,51,52,53,54,55,56,57,97,98,99,100,101,102]
noncomputable def NP:List Nat:=[65,66,67,68,69,70]
noncomputable def kP(c:UInt8):Nat:=ez.getD (c.toNat/16) 0
noncomputable def qb(c:UInt8):Nat:=ez.getD (c.toNat%16) 0
noncomputable def cz(b:List UInt8):List Nat:=b.flatMap λc=>[kP c,qb c]
theorem VJ:∀n:Nat,n<256->((0<=(n:Int).fdiv (2^(4:Int).toNat)∧ez[((n:Int).fdiv (2^(4:Int).toNat)).toNat]? = some (ez.getD (n/16) 0))∧(0<=ac7 (n:Int) 15∧ez[(ac7 (n:Int) 15).toNat]? = some (ez.getD (n%16) 0))):=dD
section
variable{g:Gl}{K:Frag}{n:Nat}{b:List UInt8}{h:AH}{s:List Nat}
noncomputable abbrev Uu(c:Nat):V:=.str [c]
theorem Vd{a b m:Nat}(h:a+b<=m)(k:Nat.blt m 1000000=true):a<1000000:=Wp (V4 (Wq _ _) h) (V5 k)
theorem zG(k:Kn g K)(hn:1<=n)(hb:b.length<=400000):cU g n 71 [.bytes b] (some (.str (cz b))):=λ{Q X h} q=>by
 refine((aH (n:=0) (k.H 0) k.hex_of rfl ?_).call).up hn
 refine vm Iq (Wy _) λc hc=>?_
 refine d9 (e:=λc:UInt8=>.int (c.toNat:Nat)) (λs:List Nat×Option V×AH=>⟨[some (.bytes b),some (.ref c),s.2.1],s.2.2⟩) (λl s=>n7 h c (.list (s.1.map Uu)) s.2.2∧s.1++cz l=cz b∧s.1.length+2*l.length<=800000) ([],none,upd h c (some (.list []))) Iq
  ⟨n7.new,rfl,by rw[X6,Xn];exact WX 2 hb⟩ (λs i=>?_) λd r s i Qc k kr=>?_
 ·have e:s.1=cz b:=by rw[←i.2.1];exact(WH _).symm
  refine a5 (LI Iq rfl (ar Iq λ_ k=>k) λ_ k=>Ir i.1.at_ (az (pD _ _) (V8 ⟨rfl,?_⟩ k))) (.mk (i.1.sub hc) ?_)
  ·rw[vn,YQ];exact Xo (Xz (Vd i.2.2 rfl) dD)
  ·rw[vn,YQ,e];exact q
 ·have nb:=VJ d.toNat d.toNat_lt
  refine eF (v:=Uu (kP d)) (λQe k=>V8 (Int.le_of_lt dD) (V8 nb.1.1 (az nb.1.2 k))) rfl i.1.at_ (by rw[Wd];exact Vd i.2.2 rfl) ?_
  refine eF (v:=Uu (qb d)) (λQe k=>V8 nb.2.1 (az nb.2.2 k)) rfl i.1.put.at_ ?_ (k (s.1++[kP d,qb d],_,_) ⟨?_,?_,?_⟩)
  ·rw[V6,Wd];exact Wp (Wm (V4 (Wq _ _) i.2.2)) (V5 rfl)
  ·rw[WE,Wn];exact i.1.put.put
  ·rw[Wn];exact i.2.1
  ·have l:=i.2.2
   rw[V6,WJ]
   rw[WM,abP,W4 (2*r.length)]at l
   exact l
noncomputable def bF(c:Nat):Option Int:=bif decide (iI ez c<0)&&decide (c∈NP)then some (10+iI NP c)else bif decide (iI ez c≥0)then some (iI ez c)else none
theorem qc(k:Kn g K)(d:1<=n):cU g n 78 [.str [c]] (some (gA (bF c))):=λ{Q X h} q=>by
 refine((aH (n:=0) (k.H 0) k.hex_digit rfl ?_).call).up d
 unfold bF at q
 refine aZ Iq (bI (eE Iq λ_=>lY Iq) (λ_ _ k=>k) (λe=>?_) λe=>?_)
 ·rw[show(decide (iI ez c<0)&&decide (c∈NP))=true from e]at q
  exact bc q
 ·rw[show(decide (iI ez c<0)&&decide (c∈NP))=false from e]at q
  refine a5 (kD Iq (λe _ k=>?_) λe _ k=>?_) (bc q)
  ·rw[show decide (iI ez c≥0)=true from e]at k
   exact k
  ·rw[show decide (iI ez c≥0)=false from e]at k
   exact k
noncomputable def ee:List Nat->Option (List UInt8)
 | []=>some []
 | [_]=>none
 |a::b::r=>(bF a).bind λx=>(bF b).bind λy=>(ee r).map λl=>(16*x+y).toNat.toUInt8::l
theorem BE(h:c∉x):iI x c=-1:=by
 have:=acq ⟨x.toArray⟩ c
 unfold iI
 have e:(⟨x.toArray⟩:Str).length=x.length:=Wk ..
 rw[e]at this
 generalize q:acZ ⟨x.toArray⟩ ⟨#[c]⟩ 0 x.length 1=d;cases d with
 |nil=>rfl
 |cons i r=>
  rw[q]at this
  exact absurd (of_decide_eq_true (p:=c∈x) this.symm) h
noncomputable def Uv(o:Option Int):Bool:=WY (motive:=λ_=>Bool) o true λx=>decide (0<=x)&&decide (x<16)
theorem LK:(ez++NP).all (λc=>Uv (bF c))=true:=dD
theorem LL(h:c∉ez++NP):bF c=none:=by
 have h1:c∉ez:=λq=>h (Yg _ q)
 have d:c∉NP:=λq=>h (WK _ q)
 unfold bF
 rw[BE h1,decide_eq_false d];rfl
theorem vo(h:bF c=some x):0<=x∧x<16:=by
 by_cases q:c∈ez++NP
 ·have z:=WQ.mp LK c q
  rw[h]at z
  exact⟨of_decide_eq_true (aJ z).1,of_decide_eq_true (aJ z).2⟩
 ·rw[LL q]at h;cases h
theorem Iw{A:PT}{X:St->Prop}{st:St}{N m:Nat}(hA:Ev A X st (.int N))(e:N=2*m)(l:N<=800000):Ev (da (aa (af (.int 0)) (aa A (aa (af (.int 2)) ag)))) X st (.lst (eA 2 m 0)):=λQ k=>hA _ ⟨rfl,rfl,rfl,⟨Ww _,XS.mpr (V4 l dD)⟩,by
 rw[e,show(((2*m:Nat):Int)+1)/2=m from congrArg Int.ofNat (Nat.mul_add_div dD m 1)]
 exact k⟩
theorem Sw{A:PT}{X:St->Prop}{st:St}{o:Option Int}(hA:Ev A X st (gA o)):Ev (aC .Is A (af .none)) X st (.bool o.isNone):=bJ hA Iq (by cases o <;> exact λ_ k=>⟨trivial,k⟩)
theorem pG:∀(m:Nat) (s:List Nat),s.length=2*m+1->ee s=none:=by
 intro w1
 induction w1 with
 |zero=>
  intro w2
  cases w2 with
  |nil=>
   intros;contradiction
  |cons w3 w4=>
   cases w4 with
   |nil=>
    intro _
    exact rfl
   |cons w5 w6=>
    first|(intros;first|contradiction|omega)|exact ff|(intros;simp_all;done)
 |succ m ih=>
  intro w7
  cases w7 with
  |nil=>
   intros;contradiction
  |cons a w8=>
   cases w8 with
   |nil=>
    first|(intros;first|contradiction|omega)|exact ff|(intros;simp_all;done)
   |cons b r=>
    intro e
    show(bF a).bind (λx=>(bF b).bind λy=>(ee r).map _)=none
    rw[ih r (Xr (Xr e))]
    cases bF a with
    |none=>rfl
    |some=>cases bF b <;> rfl
theorem LN:∀n:Nat,∃m,n=2*m∨n=2*m+1:=by
 intro zi
 induction zi with
 |zero=>
  exact⟨0,.inl rfl⟩
 |succ n ih=>
  exact(ih).elim λm h=>h.elim (λh=>⟨m,.inr (congrArg _ h)⟩) λh=>⟨m+1,.inl (congrArg _ h)⟩
theorem BF{d:Type}(p:List d)(a:d)(r:List d):(p++a::r)[p.length]? = some a:=by
 rw[ZF (Wh _),abO];rfl
theorem LO{d:Type}(p:List d)(a b:d)(r:List d):(p++a::b::r)[p.length+1]? = some b:=by
 rw[aan]
 have:=BF (p++[a]) b r
 rwa [V6]at this
theorem Uw{x y:Int}(h1:0<=x∧x<16)(d:0<=y∧y<16):0<=16*x+y∧16*x+y<256:=by lia
theorem zH{c:Addr}{l:List Int}{h':AH}(e:h' c=some (.list (l.map .int)))(hl:∀x∈l,0<=x∧x<256)(Qv:VP)(q:Qv (.bytes (l.map λx=>x.toNat.toUInt8)) h'):du (.ref c) h' Qv:=by
 unfold du
 rw[d7 e]
 exact az (by rw[show l.map V.int=l.map λx=>.int x from rfl,jS,YQ]) ⟨hl,q⟩
structure OH(s:List Nat)(h:AH)(c:Addr)(R:List UInt8->Option (List UInt8)->Prop)(m:Nat)(x:Int)(p u:List Nat)(acc:List Int)(h':AH):Prop where
 w:n7 h c (.list (acc.map .int)) h'
 e:s=p++u
 l:u.length=2*m
 x:x=p.length
 b:∀x∈acc,0<=x∧x<256
 n:acc.length<=p.length
 q:R (acc.map λx=>x.toNat.toUInt8) (ee u)
theorem dH(k:Kn g K)(hn:2<=n)(hl:s.length<=800000):cU g n 85 [.str s] ((ee s).map .bytes):=λ{Q X h} q=>by
 refine((aH (n:=1) (k.H 1) k.octets_of_hex rfl ?_).call).up hn
 have two:(2:Int)≠0:=dD
 obtain⟨m,e|e⟩:=LN s.length
 ·refine je (λ_ k=>⟨two,k⟩) (show(!((s.length:Int).fmod 2==0))=false by rw[aa4 _ dD,e];simp) (vm Iq (Wy _) λc hc=>?_)
  refine xB (λz:(List Nat×List Nat×List Int)×Option V×Option V×Option V×AH=>⟨[some (.str s),some (.ref c),z.2.1,z.2.2.1,z.2.2.2.1],z.2.2.2.2⟩)
   (λm x z=>OH s h c (λa o=>cy (o.map λl=>.bytes (a++l)) Q X h) m x z.1.1 z.1.2.1 z.1.2.2 z.2.2.2.2) (([],s,[]),none,none,none,upd h c (some (.list [])))
   (Iw Iq e hl) ⟨n7.new,rfl,e,rfl,an,Wh _,q⟩ (λx z i=>?_) λm x z i Qc kn kr=>?_
  ·obtain⟨⟨p,u,acc⟩,z1,z2,z3,h'⟩:=z
   obtain⟨w,e,l,rfl,b,n,q⟩:=i
   obtain rfl:u=[]:=Zc.mp l
   have q:Q (.bytes (acc.map (λx=>x.toNat.toUInt8)++[])) h:=q
   rw[WH]at q
   exact a5 (lZ Iq (zH w.at_ b)) (.mk (w.sub hc) q)
  ·obtain⟨⟨p,u,acc⟩,z1,z2,z3,h'⟩:=z
   obtain⟨w,e,l,rfl,hb,n,q⟩:=i
   match u,l,e,q with
   |a::b::r,l,e,q=>
   have q:cy (((bF a).bind λx=>(bF b).bind λy=>(ee r).map λl=>(16*x+y).toNat.toUInt8::l).map λl=>.bytes (acc.map (λx=>x.toNat.toUInt8)++l)) Q X h:=q
   refine aZ (aG (ar (dy Iq Iq λ_ k=>V8 (Ww _) (az (by rw[e];exact BF ..) k)) λ_ k=>k) (qc k (Wh _))) ?_
   refine aZ (aG (ar (dy Iq Iq λ_ k=>V8 (Ww (p.length+1)) (az (show s[p.length+1]? = some b by rw[e];exact LO ..) k)) λ_ k=>k) (qc k (Wh _))) ?_
   generalize ha:bF a=zz;cases zz with
   |none=>
    rw[ha]at q
    exact d8 (cg (b:=false) (λ_ k=>⟨trivial,k⟩) tf) rfl Iq (eC (w.sub hc) q)
   |some x=>
    rw[ha]at q
    generalize hb':bF b=zz;cases zz with
    |none=>
     rw[hb']at q
     exact d8 (cg (λ_ k=>⟨trivial,k⟩) λ_=>fA (λ_ k=>⟨trivial,k⟩)) rfl Iq (eC (w.sub hc) q)
    |some y=>
     rw[hb']at q
     have lp:p.length<1000000:=Wp (V4 (by rw[e,V6];exact Wq _ _) hl) dD
     refine je (cg (λ_ k=>⟨trivial,k⟩) λ_=>fA (λ_ k=>⟨trivial,k⟩)) rfl (eF (v:=.int (16*x+y)) (λ_ k=>V8 (BC dD dD) k) rfl w.at_ (by rw[Wd];exact Wp n lp) ?_)
     refine kn ((p++[a,b],r,acc++[16*x+y]),some (.int p.length),some (.int x),some (.int y),upd h' c (some (.list (acc.map .int++[.int (16*x+y)])))) ⟨by rw[WE];exact w.put,by rw[Wn];exact e,Xr (Xr l),?_,λv hv=>?_,?_,?_⟩
     ·show _=((p++[a,b]).length:Int);rw[V6];rfl
     ·exact(WD.mp hv).elim (hb v) λhv=>(Wr.mp hv).symm▸Uw (vo ha) (vo hb')
     ·show(acc++[_]).length<=(p++[a,b]).length;rw[V6,V6];exact Yq (Wm n)
     ·show cy ((ee r).map λl=>.bytes ((acc++[16*x+y]).map (λx=>x.toNat.toUInt8)++l)) Q X h
      rw[WE]
      revert q
      cases ee r with
      |none=>exact λq=>q
      |some l=>exact λq=>by show Q (.bytes (_++[_]++l)) h;rw[Wn];exact q
 ·refine d8 (λ_ k=>⟨two,k⟩) (show(!((s.length:Int).fmod 2==0))=true by rw[aa4 _ dD,e];simp) Iq (fH ?_)
  rw[pG m s e]at q;exact q
end
noncomputable def Dp:List Ix->Nat->PT
 | [],_=>ai
 |d::r,i=>ah (aD (bN (ae 0) d) (ae i)) (Dp r (i+1))
def LP(C:Addr):List Ix->Nat->Bool
 | [],_=>true
 |d::r,i=>(d.lookup C==some i)&&LP C r (i+1)
section
variable{g:Gl}{K:Frag}{n:Nat}{b:List UInt8}{h:AH}{s:List Nat}
theorem Dq(h0:(loc[0]?).join=some (.ref x))(hx:x≠d):∀(ixs:List Ix) (pre rest:List V) (h:AH),LP C ixs pre.length=true->ixs.length=rest.length->loc=some (.ref x)::(pre++rest).map some->h x=some (.inst C d)->h d=some (.fields C pre)->(∀h',h' d=some (.fields C (pre++rest))->(∀a,a≠d->h' a=h a)->Q .none ⟨loc,h'⟩)->Dp ixs (pre.length+1) Q X ⟨loc,h⟩
 | [],pre,[],h,_,_,hl,e1,e2,q=>q h (by rw[WH];exact e2) λ_ _=>rfl
 |ix::r,pre,v::rest,h,hi,hn,hl,e1,e2,q=>by
  have hi:=aJ hi
  have hv:(loc[pre.length+1]?).join=some v:=by rw[hl,WE];show((pre.map some++some v::rest.map some)[pre.length]?).join=_;rw[←Wd (f:=some) (as:=pre),BF];rfl
  have e:putAt pre pre.length v=pre++[v]:=by unfold putAt;rw[if_neg (acx _)]
  have z:=Dq (Q:=Q) (X:=X) h0 hx r (pre++[v]) rest (upd h d (some (.fields C (pre++[v])))) (by rw[V6];exact hi.2) (Xr hn) (by rw[←aan];exact hl) ((aE hx).trans e1) (aB _ _ _) λh' q1 q2=>q h' (by rw[aan];exact q1) λa n=>(q2 a n).trans (aE n)
  refine az hv (az h0 (az e1 ?_))
  refine az e2 (V8 rfl (az (eq_of_beq hi.1) (V8 (Wh _) ?_)))
  rw[e]
  rw[V6]at z
  exact z
theorem sS(k:Kn g K)(y:List Ix)(code:∀{Q:V->AH->Prop} {X:AH->Prop} {h:AH} (x:Addr),Dp y 1 (dC Q) (bz X) ⟨(.ref x::vs).map some,h⟩->iH g 1 (.ref fI) (.ref x::us) Q X h)(hC:((C,fI):Addr×Addr)∈[((141:Addr),(131:Addr)),(190,166),(239,222),(330,306),(365,348),(415,398)])(i:(LP C y 0&&Yr y.length vs.length&&(qi.lookup C).any (λl=>Yr vs.length l.length))=true)(D:2<=n):cU g n C us (some (.inst C vs)):=λ{Q X h} q=>by
 have i:=aJ i
 have p:=aJ i.1
 have hc:C∈[(141:Addr),190,239,330,365,415]:=XY (f:=Prod.fst) hC
 have w:=k.inits _ hC
 have J:∃l,qi.lookup C=some l∧vs.length=l.length:=by
  generalize e:qi.lookup C=B;cases B with
  |none=>rw[e]at i;exact ff i.2
  |some l=>rw[e]at i;exact⟨l,rfl,Yb i.2⟩
 obtain⟨l,z,m⟩:=J
 refine((p7 (n:=1) (k.H 0).top (k.cl C hc) w.1 w.2 λx r hx R j=>code x ?_).call).up D
 refine Dq (C:=C) (x:=x) (d:=r) rfl j y [] vs _ p.1 (Yb p.2) rfl (aB _ _ _) ((aE (XW j)).trans (aB _ _ _)) λL o u=>bc ?_
 refine .inst rfl ((u x j).trans (aB _ _ _)) o (by rw[k.tab,z];rfl) (by unfold Gl.names;rw[k.tab,z];exact m) ?_
 have e:upd (upd L x none) r none=h:=funext λa=>(Yj (a=r)).elim (λe=>by rw[e,aB,R]) λe=>(aE e).trans ((Yj (a=x)).elim (λe=>by rw[e,aB,hx]) λc=>(aE c).trans ((u a e).trans ((aE c).trans (aE e))))
 rw[e];exact q
theorem rx(k:Kn g K)(q:List Ix)(D:aR K d W)(i:∀n,W g n=Dp q 1)(hC:((C,d.a):Addr×Addr)∈[((141:Addr),(131:Addr)),(190,166),(239,222),(330,306),(365,348),(415,398)])(j:(LP C q 0&&Yr q.length vs.length&&(qi.lookup C).any (λl=>Yr vs.length l.length))=true)(hd:Yr (vs.length+1) d.params.length&&Yr d.names.length d.params.length)(y:2<=n):cU g n C vs (some (.inst C vs)):=
 have hd:=aJ hd
 sS k q (λx w=>aH (n:=0) (k.H 0) D (Yb hd.1) (by rw[i,Yb hd.2,abO,List.replicate_zero,WH];exact w)) hC j y
theorem Pq(k:Kn g K)(q:2<=n){a b c d e f:V}:cU g n 415 [a,b,c,d,e,f] (some (.inst 415 [a,b,c,d,e,f])):=
 sS k (fI:=398) (vs:=[a,b,c,d,e,f]) [fN,jR,bH,cW,cf,d5] (λx w=>Il (n:=0) (vs:=[.ref x,a,b,c,d,e,f]) (k.H 0) k.Tag_init rfl rfl w) (.tail _ (.tail _ (.tail _ (.tail _ (.tail _ (.head _)))))) rfl q
theorem Pr(k:Kn g K)(q:2<=n){a b c d e:V}:cU g n 415 [a,b,c,d,e] (some (.inst 415 [a,b,c,d,e,.bytes []])):=
 sS k (fI:=398) (vs:=[a,b,c,d,e,.bytes []]) [fN,jR,bH,cW,cf,d5] (λx w=>Im (n:=0) (vs:=[.ref x,a,b,c,d,e]) (k.H 0) k.Tag_init rfl rfl w) (.tail _ (.tail _ (.tail _ (.tail _ (.tail _ (.head _)))))) rfl q
end
theorem nj(n:Nat):kK n=(Nat.toDigits 10 n).map Char.toNat:=by
 unfold kK
 rw[Str.ofString_eq_toList]
 show(n.repr.toList.map Char.toNat)=_
 rw[Nat.toList_repr]
theorem Ds(n:Nat)(h:n<10):(Nat.digitChar n).toNat=48+n:=(by decide:∀n<10,(Nat.digitChar n).toNat=48+n) n h
noncomputable def bL(n:Nat):List UInt8:=Fx (kK n)
theorem Dt(h:n<10):bL n=[(48+n).toUInt8]:=by
 unfold bL
 rw[nj,Nat.toDigits_of_lt_base h,aaW,Ds n h];rfl
theorem LQ(h:10<=n):bL n=bL (n/10)++[(48+n%10).toUInt8]:=by
 unfold bL
 rw[nj,nj,Nat.toDigits_of_base_le dD h,WE,aaW,Ds _ (abQ _ dD)]
 unfold Fx;rw[WE];rfl
theorem xD(n:Nat):∀c∈kK n,c<256:=λc hc=>by
 rw[nj]at hc
 obtain⟨d,hd,rfl⟩:=WC.mp hc
 have:=Nat.isDigit_of_mem_toDigits dD dD hd
 unfold Char.isDigit at this
 exact Wp (UInt32.le_iff_toNat_le.mp (of_decide_eq_true (aJ this).2)) dD
theorem xE{n k:Nat}(h:n<10^(k+1)):(kK n).length<=k+1:=by
 rw[nj,Wd];exact(Nat.length_toDigits_le_iff dD (Xs k)).mpr h
theorem ry(P:Nat->List UInt8->Prop)(h1:∀n,n<10->P n [(48+n).toUInt8])(h2:∀n l d,0<n->d<10->P n l->P (10*n+d) (l++[(48+d).toUInt8]))(n:Nat):P n (bL n):=by
 induction n using Nat.strongRecOn with
 |ind n ih=>
  rcases Nat.lt_or_ge n 10 with h|h
  ·rw[Dt h];exact h1 n h
  ·rw[LQ h]
   have:=h2 (n/10) _ (n%10) (Nat.div_pos h dD) (abQ _ dD) (ih _ (Nat.div_lt_self (WA dD h) dD))
   rwa [Nat.div_add_mod]at this
theorem Iy(h:d<10):((48+d).toUInt8).toNat=48+d:=by
 rw[adf,acp];exact abu (Xz (aaL h 48) dD)
theorem zI:∀{l:List UInt8} {q:Int},jC base (l++[c]) q=(jC base l q).bind λx=>jC base [c] x
 | [],q=>rfl
 |d::l,q=>by
  rw[Yh,pF,pF]
  cases decide (0<=(d.toNat:Int)-48)&&decide ((d.toNat:Int)-48<base)with
  |true=>exact zI (l:=l)
  |false=>rfl
theorem zJ{d:Nat}(h:d<10){q:Int}:jC 10 [(48+d).toUInt8] q=some (10*q+d):=by
 rw[pF,Iy h]
 have e:((48+d:Nat):Int)-48=d:=by rw[adC,Int.add_comm];exact Z3 ..
 rw[e,decide_eq_true (Ww d),decide_eq_true (show(d:Int)<10 from Xl.mpr h)];rfl
inductive Ve(l:List UInt8):Prop
 |mk (d:Nat) (r:List UInt8) (e:l=(48+d).toUInt8::r) (h1:0<d) (h2:d<10)
theorem LS(n:Nat):0<n->Ve (bL n):=ry (λn l=>0<n->Ve l) (λn h p=>⟨n,[],rfl,p,h⟩) (λn l d p h q _=>match q p with | .mk e r z h1 y=>⟨e,r++[(48+d).toUInt8],by rw[z];rfl,h1,y⟩) n
theorem Iz(n:Nat):10<=n->0<n:=λh=>WA dD h
theorem IA(n:Nat):jC 10 (bL n) 0=some (n:Int):=ry (λn l=>jC 10 l 0=some (n:Int)) (λn h=>by rw[zJ h];exact congrArg some (Int.zero_add _)) (λn l d _ h q=>by
 rw[zI,q];exact(zJ h).trans (by rw[adC,Int.natCast_mul];rfl)) n
theorem vp(n:Nat):zD 10 (bL n)=some (n:Int):=by
 have h:bL n≠[]:=ry (λ_ l=>l≠[]) (λ_ _=>WB _ _) (λ_ l _ _ _ _=>by cases l <;> nofun) n
 rw[←IA n]
 generalize e:bL n=d;cases d with
 |nil=>exact absurd e h
 |cons=>rfl
theorem Fy(n:Nat):numOf (bL n)=some (n:Int):=by
 unfold numOf
 rcases Nat.lt_or_ge n 10 with h|h
 ·rw[←vp n,Dt h];rfl
 ·obtain⟨d,r,e,h1,y⟩:=LS n (Iz n h)
  have:((bL n).head?.elim false λc=>(c.toNat:Int)==48)=false:=by
   rw[e]
   show((((48+d).toUInt8).toNat:Int)==48)=false
   rw[Iy y]
   exact beq_eq_false_iff_ne.mpr λq=>YD (Yi h1) (Yx q)
  rw[this,aaa]
  exact vp n
theorem bt{d:Type}{a b:List d}{m:Nat}(h:(a++b).length<=m)(l:m<=16777216):Aw (a.length+b.length):=by rw[V6]at h;exact V4 h l
theorem cB{d:Type}{a b:List d}{m:Nat}(h:(a++b).length<=m):a.length<=m:=by rw[V6]at h;exact V4 (Wq _ _) h
section
variable{g:Gl}{K:Frag}{n:Nat}{b:List UInt8}{h:AH}{s:List Nat}
theorem zK(k:Kn g K)(q:2<=n){a b c d:V}:cU g n 141 [a,b,c,d] (some (.inst 141 [a,b,c,d])):=rx k [bH,jr,my,mz] k.Person_init (λ_=>rfl) (.head _) rfl rfl q
theorem Du(k:Kn g K)(d:2<=n){a b c:V}:cU g n 190 [a,b,c] (some (.inst 190 [a,b,c])):=rx k [fG,bH,jt] k.Entry_init (λ_=>rfl) (.tail _ (.head _)) rfl rfl d
theorem IB(k:Kn g K)(d:2<=n):cU g n 239 [a] (some (.inst 239 [a])):=rx k [dM] k.Tree_init (λ_=>rfl) (.tail _ (.tail _ (.head _))) rfl rfl d
theorem zL(k:Kn g K)(q:2<=n){a b c d e f:V}:cU g n 365 [a,b,c,d,e,f] (some (.inst 365 [a,b,c,d,e,f])):=rx k [mx,f6,gQ,d4,js,cf] k.Commit_init (λ_=>rfl) (.tail _ (.tail _ (.tail _ (.tail _ (.head _))))) rfl rfl q
noncomputable def rz(m e:List UInt8)(w:Nat)(z:List UInt8):List UInt8:=m++[32,60]++e++[62,32]++bL w++[32]++z
noncomputable abbrev xF(m e:List UInt8)(w:Nat)(z:List UInt8):V:=.inst 141 [.bytes m,.bytes e,.int w,.bytes z]
theorem rb(k:Kn g K)(c:2<=n){m e z:List UInt8}{w:Nat}(u:(w:Int).natAbs.log2<1920)(i:(rz m e w z).length<=1000):cU g n 138 [xF m e w z] (some (.bytes (rz m e w z))):=λ{Q X h} q=>by
 have j:=cB i
 refine((aH (n:=1) (k.H 1) k.Person_octets rfl ?_).call).up c
 have d:=cB j
 have y:=cB d
 have l2:=cB y
 have ld:(kK w).length<=1000000:=by
  have:(bL w).length<=1000:=by
   have:=d
   rw[V6]at this
   exact V4 (XU _ _) this
  unfold bL Fx at this
  rw[Wd]at this
  exact V4 this dD
 have t:1000<=16777216:=dD
 exact a5 (ea (ea (ea (x:=.bytes (m++[32,60]++e++[62,32])) (λ_ k=>⟨trivial,bt (cB l2) t,trivial,bt l2 t,bt y t,k⟩) (aG (ar (lZ (λ_ k=>⟨trivial,k⟩) λ_ k=>⟨u,k⟩) λ_ k=>k) (jD k (Wh _) ld (xD w))) λ_ k=>⟨bt d t,k⟩) Iq λ_ k=>⟨bt j t,k⟩) (λ_ k=>⟨trivial,k⟩) λ_ k=>⟨bt i t,k⟩) (bc q)
noncomputable abbrev Pt(m:Int)(x o:List UInt8):V:=.inst 190 [.int m,.bytes x,.bytes o]
noncomputable def sT(m:Int)(x:List UInt8):List UInt8:=bif m==16384 then x++[47]else x
theorem sU(k:Kn g K)(y:1<=n)(d:x.length<=1000000):cU g n 173 [Pt m x o] (some (.bytes (sT m x))):=λ{Q X h} q=>by
 refine((aH (n:=0) (k.H 0) k.Entry_sort_key rfl ?_).call).up y
 unfold sT at q
 refine a5 (v:=bif m==16384 then .bytes (x++[47])else .bytes x) (kD (b:=m==16384) (λ_ k=>⟨trivial,k⟩) (λe=>?_) λe=>?_) (bc ?_)
 ·rw[e];exact λ_ k=>⟨trivial,(V4 (Wm d) dD:Aw (x.length+1)),k⟩
 ·rw[e];exact λ_ k=>⟨trivial,k⟩
 ·generalize h:(m==16384)=j;cases j <;> rw[h]at q <;> exact q
theorem l0{m:MT}{E d:PT}{X:St->Prop}{st:St}{c f:Addr}{us vs:List V}{v:V}(h1:Ev E X st (.inst c us))(e:m.c.lookup c=some f)(q:Ev d X st (.lst vs))(hc:cU g n f (.inst c us::vs) (some v)):Ev (av g n m E d) X st v:=λ_ k=>h1 _ (az e (q _ (hc k)))
theorem bq{E:PT}{X:St->Prop}{st:St}{v w:V}(h:Ev E X st v)(e:v=w):Ev E X st w:=e▸h
theorem LU(f:σ->St)(I:Nat->σ->Prop)(h0:∀s,I 0 s->Ev Wt X (f s) (.bool false)∧r Q X (f s))
 (h1:∀m s,I (m+1) s->Ev Wt X (f s) (.bool true)∧∀Qc:V->St->Prop,(∀s',I m s'->Qc .none (f s'))->(∀v st',Q (.tup [v]) st'->Qc (.tup [v]) st')->W Qc X (f s)) (m:Nat) (s:σ) (i:I m s):ah (fW Wt W) r Q X (f s):=
 have w:∀(m:Nat) (s:σ),I m s->rM Wt W (m+1) (λf st1=>br (isNone f) (r Q X st1) (Q f st1)) X (f s):=λm=>by
  induction m with
  |zero=>exact λs i=>(h0 s i).1 _ (h0 s i).2
  |succ m ih=>exact λs i=>(h1 m s i).1 _ ((h1 m s i).2 _ (λs' i'=>ih s' i') λ_ _ q=>q)
 ⟨m+1,w m s i⟩
noncomputable def kF:Nat->Nat->List UInt8
 |0,_=>[]
 |f+1,m=>((48+m%8).toUInt8)::kF f (m/8)
def pH:Nat->Nat->Prop
 |0,m=>m=0
 |f+1,m=>0<m∧pH f (m/8)
theorem BG(e:h c=some (.ba l)):res h (.ref c)=.ref c:=by
 show WY (motive:=λ_=>V) (h c) _ _=_
 rw[e]
theorem Pu(e:h c=some (.ba l))(Qv:VP)(q:Qv (.int l.length) h):c5 (.ref c) h Qv:=by unfold c5;rw[BG e];exact az e q
theorem Pw(e:h c=some (.ba l))(Qv:VP)(q:Qv (.bytes l) h):du (.ref c) h Qv:=by unfold du;rw[BG e];exact az e q
theorem Dv(e:h c=some (.ba l))(d:m.a=some p)(q:k p):pick m (.ref c) h k y:=by unfold pick;rw[BG e];exact az e (az d q)
theorem Ux{r:PT}{Q:V->St->Prop}{X:St->Prop}{st:St}{i:Nat}(k:∀c,st.h c=none->r Q X ⟨st.loc.set i (some (.ref c)),upd st.h c (some (.ba []))⟩):ah (aD (aj i) (dn wh ag)) r Q X st:=V8 rfl k
structure VK(h:AH)(c:Addr)(r:List UInt8)(f j m:Nat)(l:List UInt8)(h':AH):Prop where
 o:pH j m
 e:l++kF j m=r
 w:n7 h c (.ba l) h'
 n:l.length+j=f+1
theorem zM(k:Kn g K)(D:1<=n)(f:Nat){m:Nat}(B:pH (f+1) m)(J:f<=100):cU g n 201 [.int m] (some (.bytes (kF (f+1) m).reverse)):=λ{Q X h} q=>by
 refine((aH (n:=0) (k.H 0) k.object_by_eights rfl ?_).call).up D
 refine Ux λc hc=>?_
 refine LU (λs:Nat×List UInt8×AH=>⟨[some (.int s.1),some (.ref c)],s.2.2⟩) (λj s=>VK h c (kF (f+1) m) f j s.1 s.2.1 s.2.2) (λs i=>⟨?_,?_⟩) (λj s i=>⟨?_,λz k U=>?_⟩) (f+1) (m,[],upd h c (some (.ba []))) ⟨B,rfl,n7.new,Xn _⟩
 ·obtain⟨a,l,x⟩:=s
  obtain⟨rfl,u,d,y⟩:=i
  exact cg (a:=false) Iq λ_=>fA (bJ (lZ Iq (Pu d.at_)) Iq λ_ k=>by rw[show l.length=f+1 from y];exact k)
 ·have e:s.2.1=kF (f+1) m:=by rw[←i.e];exact(WH _).symm
  refine zC (st':=⟨[some (.int s.1),some (.ref c)],upd s.2.2 c (some (.ba s.2.1.reverse))⟩) (λz k=>?_) ?_
  ·exact Dv i.w.at_ rfl (az i.w.at_ k)
  ·rw[←e]at q
   exact a5 (lZ Iq (Pw i.w.put.at_)) (.mk (i.w.put.sub hc) q)
 ·have p:decide ((s.1:Int)>0)=true:=decide_eq_true (Xl.mpr i.o.1)
  exact bq (cg (b:=false) Iq λe=>absurd (p.symm.trans e) dD) (congrArg (λb=>V.bool (b||false)) p)
 ·obtain⟨a,l,x⟩:=s
  obtain⟨R,u,d,y⟩:=i
  have lt:a%8<8:=abQ _ dD
  have S:((48:Int)+(a:Int).fmod 8)=((48+a%8:Nat):Int):=by rw[aa4 _ dD];rfl
  have L:(a:Int).fdiv 8=((a/8:Nat):Int):=by rw[Int.fdiv_eq_ediv_of_nonneg _ dD];rfl
  refine zC (st':=⟨[some (.int a),some (.ref c)],upd x c (some (.ba (l++[(48+a%8).toUInt8])))⟩) (λz k=>?_) ?_
  ·refine Dv d.at_ rfl (V8 (show(8:Int)≠0 by decide) (az d.at_ ?_))
   rw[S]
   exact V8 ⟨⟨Ww _,Xl.mpr (Xz (aaL lt 48) dD)⟩,Wp (V4 (Wq _ _) (Xp y)) (Wp (Wm J) dD)⟩ k
  ·refine aZ (v:=.int (a/8:Nat)) (λ_ k=>V8 ⟨by decide,rfl⟩ (by rw[L];exact k)) (k (a/8,l++[(48+a%8).toUInt8],_) ⟨R.2,by rw[←u,Wn];rfl,d.put,by rw[V6,←y];exact(XQ _ _ _)⟩)
theorem sV(k:Kn g K)(z:2<=n){f m:Nat}{x o:List UInt8}(i:pH (f+1) m)(u:f<=100)(y:((kF (f+1) m).reverse++[32]++x++[0]++o).length<=1000000):cU g n 187 [Pt m x o] (some (.bytes ((kF (f+1) m).reverse++[32]++x++[0]++o))):=λ{Q X h} q=>by
 refine((aH (n:=1) (k.H 1) k.Entry_octets rfl ?_).call).up z
 have j:=cB y
 have d:=cB j
 have t:1000000<=16777216:=dD
 exact a5 (ea (ea (ea (ea (aG (λ_ k=>⟨trivial,k⟩) (zM k (Wh _) f i u)) Iq λ_ k=>⟨bt (cB d) t,k⟩) (λ_ k=>⟨trivial,k⟩) λ_ k=>⟨bt d t,k⟩) Iq λ_ k=>⟨bt j t,k⟩) (λ_ k=>⟨trivial,k⟩) λ_ k=>⟨bt y t,k⟩) (bc q)
noncomputable def m8(m:Nat):List UInt8:=(kF (bif m==16384 then 5 else 6) m).reverse
inductive sW:Nat->Prop
 |five:sW 16384
 |six {m:Nat}:pH 6 m->m≠16384->sW m
structure a9 where
 m:Nat
 x:List UInt8
 o:List UInt8
noncomputable def a9.v(e:a9):V:=Pt e.m e.x e.o
noncomputable def a9.oct(e:a9):List UInt8:=m8 e.m++[32]++e.x++[0]++e.o
inductive M8(m:Nat):Prop
 |mk (f:Nat) (h1:pH (f+1) m) (h2:f<=100) (e:m8 m=(kF (f+1) m).reverse)
theorem Sx(h:sW m):M8 m:=by
 cases h with
 |five=>exact⟨4,⟨dD,dD,dD,dD,dD,rfl⟩,dD,rfl⟩
 |six h1 d=>exact⟨5,h1,dD,by unfold m8;rw[beq_eq_false_iff_ne.mpr d];rfl⟩
theorem xG(k:Kn g K)(i:2<=n){e:a9}(y:sW e.m)(d:e.oct.length<=1000000):cU g n 187 [e.v] (some (.bytes e.oct)):=by
 obtain⟨f,h1,j,q⟩:=Sx y
 have q:e.oct=(kF (f+1) e.m).reverse++[32]++e.x++[0]++e.o:=by unfold a9.oct;rw[q]
 rw[q]at d ⊢
 exact λ{_ _ _}=>sV k i h1 j d
noncomputable def cv(l:List a9):List UInt8:=(l.map a9.oct).flatten
noncomputable abbrev dE(l:List a9):V:=.inst 239 [.lst (l.map a9.v)]
theorem fP:∀l:List (List UInt8),Tactic.aP [] l=l.flatten:=by
 intro w1
 induction w1 with
 |nil=>
  exact rfl
 |cons a w2 ih=>
  cases w2 with
  |nil=>
   exact(WH a).symm
  |cons b r=>
   show a++[]++Tactic.aP [] (b::r)=a++(b::r).flatten;rw[ih,WH]
theorem nk{d:Type}{l:List (List d)}{a:List d}(h:a∈l):a.length<=l.flatten.length:=by
 induction l with
 |nil=>cases h
 |cons c r q=>
  rw[YG,V6]
  cases h with
  |head=>exact Wq _ _
  |tail _ h=>exact V4 (q h) (XU _ _)
theorem kQ(k:Kn g K)(j:3<=n){l:List a9}(y:∀e∈l,sW e.m)(z:l.length<1000000)(hb:(cv l).length<=1000000):cU g n 229 [dE l] (some (.bytes (cv l))):=λ{Q X h} q=>by
 refine((aH (n:=2) (k.H 2) k.Tree_octets rfl ?_).call).up j
 refine vm Iq (Wy _) λc hc=>?_
 refine d9 (e:=a9.v) (l:=l) (λs:List a9×Option V×AH=>⟨[some (dE l),some (.ref c),s.2.1],s.2.2⟩) (λr s=>n7 h c (.list (s.1.map λe=>.bytes e.oct)) s.2.2∧s.1++r=l) ([],none,upd h c (some (.list []))) (λ_ k=>⟨trivial,k⟩) ⟨n7.new,rfl⟩ (λs i=>?_) λe r s i w u p=>?_
 ·have e:s.1=l:=by rw[←i.2];exact(WH _).symm
  refine a5 (kE Iq rfl (ar Iq λ_ k=>k) λ_ k=>Ir i.1.at_ (az (dO a9.oct s.1) (V8 ?_ k))) (.mk (i.1.sub hc) ?_)
  ·rw[fP,e];exact V4 hb dD
  ·rw[fP,e];exact q
 ·have d:e∈l:=by rw[←i.2];exact WK _ (.head _)
  refine eF (v:=.bytes e.oct) (l0 Iq rfl Iq (xG k (Wh _) (y e d) (V4 (nk (XY d)) hb))) rfl i.1.at_ (by rw[Wd];exact Wp (by rw[←i.2,V6];exact Wq _ _) z) ?_
  refine u (s.1++[e],some e.v,_) ⟨?_,by rw[Wn];exact i.2⟩
  rw[WE];exact i.1.put
end
noncomputable def LV:List (Bool×V)->V->V
 | [],d=>d
 |p::r,d=>bif p.1 then p.2 else LV r d
theorem Sy(e:b=true):LV ((b,v)::r) d=v:=by rw[e];rfl
theorem NQ(e:b=false):LV ((b,v)::r) d=LV r d:=by rw[e];rfl
section
variable{g:Gl}{K:Frag}{n:Nat}{h:AH}
theorem Dw(hC:Ev C (bz X) ⟨loc,h⟩ (.bool b))(y:Ev E (bz X) ⟨loc,h⟩ v)(q:Q (LV ((b,v)::l) d) h)(k:Q (LV l d) h->r (dC Q) (bz X) ⟨loc,h⟩):ah (bA C (ah (aN E) ai) ai) r (dC Q) (bz X) ⟨loc,h⟩:=
 bI hC (λ_=>y) (λe=>bc (v:=v) (by rw[Sy e]at q;exact q)) λe=>k (by rw[NQ e]at q;exact q)
noncomputable def IC(x s:List UInt8):Bool:=s.any λc=>decide (Tactic.a8 x [c] 0≥0)
noncomputable def dP(x:List UInt8):V:=LV [(x==[],.str [97,110,32,101,109,112,116,121,32,110,97,109,101]),(([46]==x)||(([46,46]==x)||false),.str [97,32,110,97,109,101,32,111,102,32,100,111,116,115]),(x.map ZS==[46,103,105,116],.str [116,104,101,32,110,97,109,101,32,111,102,32,116,104,101,32,115,116,111,114,101,32,105,116,115,101,108,102]),(IC x [47,0],.str [97,32,110,97,109,101,32,119,105,116,104,32,97,32,115,116,114,111,107,101,32,111,114,32,97,32,110,111,117,103,104,116])] .none
theorem cX{W:PT}{X:St->Prop}{st:St}{b:Bool}(h:Ev W X st (.bool b)):Ev (cu W) X st (.bool b):=λ_ k=>h _ k
theorem xH(k:Kn g K)(d:2<=n):cU g n 208 [.bytes x] (some (dP x)):=λ{Q X h} q=>by
 refine((aH (n:=1) (k.H 1) k.object_name_fault rfl ?_).call).up d
 refine Dw Iq Iq q λq=>Dw (λ_ k=>V8 (V5 rfl) k) Iq q λq=>Dw Iq Iq q λq=>Dw (cX (aG Iq (sR k (Wh _)))) Iq q λq=>a5 Iq (bc q)
theorem ID(e:h c=o):upd h c o=h:=funext λa=>(Yj (a=c)).elim (λq=>by rw[q,aB,e]) aE
noncomputable abbrev Px(g:Gl)(n i:Nat)(E:PT):PT:=ah (fX (av g n aK (ae i) (aa E ag))) ai
noncomputable def rd(b:Bool)(v:V):List V:=bif b then[v]else[]
theorem Sz(e:b=false)(q:h c=some (.list vs)):upd h c (some (.list (vs++rd b v)))=h:=by rw[e];exact ID (q.trans (by rw[show rd false v=[]from rfl,WH]))
theorem rA(hC:Ev C X ⟨loc,h⟩ (.bool b))(d:Ev E X ⟨loc,h⟩ v)(y:(loc[i]?).join=some (.ref c))(e:h c=some (.list vs))(l:vs.length<1000000)(k:r Q X ⟨loc,upd h c (some (.list (vs++rd b v)))⟩):ah (bA C (Px g n i E) ai) r Q X ⟨loc,h⟩:=
 Fw hC (λq=>eF d y e l (by rw[q]at k;exact k)) λq=>by rw[Sz q e]at k;exact k
theorem IE(hC:Ev C X ⟨loc,h⟩ (.bool b))(z:Ev D X ⟨loc,h⟩ (.bool d))(j:Ev E X ⟨loc,h⟩ v)(u:Ev F X ⟨loc,h⟩ w)(y:(loc[i]?).join=some (.ref c))(e:h c=some (.list vs))(l:vs.length<1000000)(k:r Q X ⟨loc,upd h c (some (.list (vs++bif b then[v]else rd d w)))⟩):ah (bA C (Px g n i E) (ah (bA D (Px g n i F) ai) ai)) r Q X ⟨loc,h⟩:=
 Fw hC (λq=>eF j y e l (by rw[q]at k;exact k)) λq=>rA z u y e l (by rw[q]at k;exact k)
structure sX(h0:AH)(c d:Addr)(o p:O)(h:AH):Prop where
 ne:c≠d
 at_:h c=some o
 dt:h d=some p
 old:∀a,a≠c->a≠d->h a=h0 a
theorem sX.put(w:sX h0 c d o p h):sX h0 c d o' p (upd h c (some o')):=⟨w.ne,aB _ _ _,(aE (XW w.ne)).trans w.dt,λa x y=>(aE x).trans (w.old a x y)⟩
theorem sX.put2(w:sX h0 c d o p h):sX h0 c d o q (upd h d (some q)):=⟨w.ne,(aE w.ne).trans w.at_,aB _ _ _,λa x y=>(aE y).trans (w.old a x y)⟩
theorem sX.sub(w:sX h0 c d o p h)(n1:h0 c=none)(n2:h0 d=none):Sub h0 h:=λa b e=>(w.old a (λq=>by rw[q,n1]at e;cases e) λq=>by rw[q,n2]at e;cases e).trans e
noncomputable def Uy(o:Option (List UInt8)):V:=WY (motive:=λ_=>V) o .none .bytes
noncomputable def fJ(m:Int):Bool:=(33188==m)||((33261==m)||((40960==m)||((16384==m)||((57344==m)||false))))
noncomputable def uH(o:Option (List UInt8))(x:List UInt8):Bool:=o.elim false λy=>abl x y != .gt
noncomputable abbrev DB:=List (List UInt8×V)
noncomputable def known(l:DB)(x:List UInt8):Bool:=(atKey l x).isSome
noncomputable def sY(e:a9)(l:DB)(a:Option (List UInt8))(d:List V):List V:=
 (((d++rd (!fJ e.m) (.str [97,32,109,111,100,101,32,116,104,97,116,32,105,115,32,110,111,110,101]))++rd (!isNone (dP e.x)) (dP e.x))++bif known l e.x then[.str [97,32,110,97,109,101,32,116,119,105,99,101]]else rd (uH a (sT e.m e.x)) (.str [101,110,116,114,105,101,115,32,111,117,116,32,111,102,32,111,114,100,101,114]))++rd (e.o.all λc=>[0].contains c) (.str [97,110,32,105,100,32,111,102,32,110,111,117,103,104,116,115])
noncomputable def fg:List a9->DB->Option (List UInt8)->List V->List V
 | [],_,_,d=>d
 |e::r,l,a,d=>fg r (fE l e.x (.bool .true)) (some (sT e.m e.x)) (sY e l a d)
theorem IF{l:DB}{x:List UInt8}{v:V}:(fE l x v).length<=l.length+1:=by
 unfold fE
 cases l.any λd=>decide (d.1=x)with
 |true=>rw[if_pos rfl,Wd];exact Xq _
 |false=>rw[if_neg ff,V6];exact Wh _
theorem nq:(rd b v).length<=1:=by
 cases b with
 |false=>exact Wy _
 |true=>exact Wh _
theorem LW:(bif b then[v]else rd d w).length<=1:=by
 cases b with
 |false=>exact nq
 |true=>exact Wh _
theorem rB{d:Type}{a b:List d}{m:Nat}(h:a.length<=m)(l:b.length<=1):(a++b).length<=m+1:=by rw[V6];exact Wx h l
theorem LX{P:V->Prop}{d:V}(hd:P d):∀{l:List (Bool×V)},(∀p∈l,P p.2)->P (LV l d):=by
 intro j
 induction j with
 |nil=>
  intro _
  exact hd
 |cons p r i=>
  intro h
  show P (bif p.1 then p.2 else LV r d)
  cases p.1 with
  |true=>exact h p (.head _)
  |false=>exact i λq y=>h q (.tail _ y)
theorem IG:∀{l:List (Bool×V)},l.all (λp=>V.casesOn (motive_1:=λ_=>Bool) p.2 true (λ_=>true) (λ_=>true) (λ_=>true) (λ_=>true) (λ_=>false) (λ_=>true) (λ_=>true) (λ_=>true) (λ_ _=>true))=true->∀p∈l,ji p.2:=λh p hp=>by
 have:=WQ.mp h p hp
 generalize e:p.2=d;cases d <;> rw[e]at this <;> first|exact trivial|cases this
theorem FA(x:List UInt8):ji (dP x):=LX trivial (IG rfl)
theorem nr(e:h c=some (.dict k l)):res h (.ref c)=.ref c:=by
 show WY (motive:=λ_=>V) (h c) _ _=_
 rw[e]
theorem in_dict(e:h c=some (.dict .b l))(q:P (known l x)):Ru (.bytes x) (.ref c) h P:=by unfold Ru;rw[nr e];exact az e q
theorem NR{O E r:PT}{Q:V->St->Prop}{X:St->Prop}{loc:List (Option V)}{i:Nat}{c:Addr}{l:DB}{x:List UInt8}{v:V}(q:Ev E X ⟨loc,h⟩ v)(y:(loc[i]?).join=some (.ref c))(d:Ev O uS ⟨loc,h⟩ (.bytes x))(e:h c=some (.dict .b l))(n:l.length<1000000)(k:r Q X ⟨loc,upd h c (some (.dict .b (fE l x v)))⟩):ah (aD (fV (ae i) O) E) r Q X ⟨loc,h⟩:=
 q _ (az y (d _ (az e (V8 n k))))
theorem Py(k:∀c d,h c=none->h d=none->c≠d->r Q X ⟨vP loc is [v,.ref d,.ref c],upd (upd h c (some (.list []))) d (some (.dict .b []))⟩)(l:is.length=3):ah (bZ is (aa (gx ag) (aa (r6 .b) (aa (af v) ag)))) r Q X ⟨loc,h⟩:=
 V8 (Wy _) λc hc d hd=>V8 (V5 rfl) (V8 l (by
  have hd:upd h c (some (.list [])) d=none:=hd
  have y:c≠d:=λq=>by rw[←q,aB]at hd;cases hd
  exact k c d hc ((aE (XW y)).symm.trans hd) y))
structure TF(h:AH)(c d:Addr)(F:List V)(r:List a9)(acc:List V)(l:DB)(a:Option (List UInt8))(h':AH):Prop where
 w:sX h c d (.list acc) (.dict .b l) h'
 f:fg r l a acc=F
 n:acc.length+4*r.length<=40000
 m:l.length+r.length<=10000
 x:∀e∈r,e.x.length<=1000000
theorem uI(k:Kn g K)(R:3<=n)(L:j.length<=10000)(hx:∀e∈j,e.x.length<=1000000):cU g n 250 [dE j] (some (.lst (fg j [] none []))):=λ{Q X h} q=>by
 refine((aH (n:=2) (k.H 2) k.tree_faults rfl ?_).call).up R
 refine Py (λc d hc B p=>?_) rfl
 refine d9 (e:=a9.v) (l:=j) (λs:(List V×DB×Option (List UInt8))×Option V×Option V×AH=>⟨[some (dE j),some (.ref c),some (.ref d),some (Uy s.1.2.2),s.2.1,s.2.2.1],s.2.2.2⟩) (λr s=>TF h c d (fg j [] none []) r s.1.1 s.1.2.1 s.1.2.2 s.2.2.2) (([],[],none),none,none,_) (λ_ k=>⟨trivial,k⟩) ⟨⟨p,(aE p).trans (aB _ _ _),aB _ _ _,λa x y=>(aE y).trans (aE x)⟩,rfl,by rw[X6,Xn];exact WX 4 L,by rw[X6,Xn];exact L,hx⟩ (λs i=>?_) λe r s i E kn Z=>?_
 ·refine a5 Iq (.fr c s.1.1 i.w.at_ ?_)
  show Fin Q (if c=c then .lst s.1.1 else .ref c) _
  rw[if_pos rfl,show s.1.1=_ from i.f]
  exact .mk (λa b z=>(aE (λy=>by rw[y,hc]at z;cases z)).trans (i.w.sub hc B a b z)) q
 ·have w:=i.w
  have S:s.1.1.length<=39996:=V4 (Wq _ _) (Nat.le_of_add_le_add_right (b:=4) i.n)
  have J:=Wh s.1.1.length
  have u:∀{m},m<=3->s.1.1.length+m<1000000:=λl=>Wp (Wx S l) dD
  have n1:=rB J (nq (b:=!fJ e.m) (v:=.str [97,32,109,111,100,101,32,116,104,97,116,32,105,115,32,110,111,110,101]))
  have n2:=rB n1 (nq (b:=!isNone (dP e.x)) (v:=dP e.x))
  have D:=rB n2 (LW (b:=known s.1.2.1 e.x) (d:=uH s.1.2.2 (sT e.m e.x)) (v:=.str [97,32,110,97,109,101,32,116,119,105,99,101]) (w:=.str [101,110,116,114,105,101,115,32,111,117,116,32,111,102,32,111,114,100,101,114]))
  refine rA (λ_ k=>⟨trivial,k⟩) Iq rfl w.at_ (Wp J (u (Wy _))) ?_
  refine aZ (aG (λ_ k=>⟨trivial,k⟩) (xH k (Wh _))) ?_
  refine rA (b:=!isNone (dP e.x)) (λ_ k=>⟨FA _,k⟩) Iq rfl w.put.at_ (Wp n1 (u dD)) ?_
  refine IE (b:=known s.1.2.1 e.x) (d:=uH s.1.2.2 (sT e.m e.x)) (bJ (λ_ k=>⟨trivial,k⟩) Iq λ_ k=>in_dict w.put.put.dt k) ?_ Iq Iq rfl w.put.put.at_ (Wp n2 (u dD)) ?_
  ·rcases s.1.2.2 with _|y
   ·exact eE (a:=false) (b:=false) (λ_ k=>⟨trivial,k⟩) ff
   ·exact eE (a:=true) (λ_ k=>⟨trivial,k⟩) λ_=>lY (bJ (l0 Iq rfl Iq (sU k dD (i.x e (.head _)))) Iq λ_ k=>k)
  refine rA (cX (aG (ar (λ_ k=>⟨trivial,k⟩) λ_ k=>k) (jT k dD))) Iq rfl w.put.put.put.at_ (Wp D (u dD)) ?_
  refine NR Iq rfl (λ_ k=>⟨trivial,k⟩) w.put.put.put.put.dt (Wp (V4 (Wq _ _) i.m) dD) ?_
  refine aZ (l0 Iq rfl Iq (sU k dD (i.x e (.head _)))) ?_
  refine kn ((sY e s.1.2.1 s.1.2.2 s.1.1,fE s.1.2.1 e.x (.bool .true),some (sT e.m e.x)),some e.v,some (dP e.x),_) ⟨w.put.put.put.put.put2,i.f,?_,?_,λU Y=>i.x U (.tail _ Y)⟩
  ·have:=rB D (nq (b:=e.o.all λc=>[0].contains c) (v:=.str [97,110,32,105,100,32,111,102,32,110,111,117,103,104,116,115]))
   exact V4 (Wv this _) (V4 (Xp (XQ _ 4 _)) i.n)
  ·exact V4 (Wv IF _) (by rw[WJ,W4 1];exact i.m)
end
noncomputable def bh(c:UInt8):List UInt8->Option Nat
 | []=>none
 |x::r=>bif x==c then some 0 else(bh c r).map (· + 1)
theorem ir:∀{p:List UInt8},c∉p->bh c (p++c::r)=some p.length:=by
 intro d
 induction d with
 |nil=>
  intro _
  show(bif c==c then _ else _)=_;rw[beq_self_eq_true];rfl
 |cons x p q=>
  intro h
  show(bif x==c then _ else(bh c (p++c::r)).map (· + 1))=_
  rw[q λm=>h (.tail _ m),beq_eq_false_iff_ne.mpr λe=>h (by rw[e];exact .head _)];rfl
theorem Dx:∀{l:List UInt8},c∉l->bh c l=none:=by
 intro d
 induction d with
 |nil=>
  intro _
  exact rfl
 |cons x l q=>
  intro h
  show(bif x==c then _ else(bh c l).map (· + 1))=_
  rw[q λm=>h (.tail _ m),beq_eq_false_iff_ne.mpr λe=>h (by rw[e];exact .head _)];rfl
inductive Uz(c:UInt8)(l:List UInt8)(i:Nat):Prop
 |mk (p r:List UInt8) (e:l=p++c::r) (h:c∉p) (n:p.length=i)
theorem fQ(e:bh c l=some i):Uz c l i:=by
 by_cases h:c∈l
 ·obtain⟨p,r,q,hp⟩:=YV h
  rw[q,ir hp]at e
  exact⟨p,r,q,hp,WR e⟩
 ·rw[Dx h]at e;cases e
theorem FC(e:bh c l=none):c∉l:=λh=>by
 refine Wo λno=>?_
 obtain⟨p,r,q,hp⟩:=YV h
 refine no ?_
 rw[q,ir hp]at e;cases e
noncomputable def SA(k:Nat)(o:Option Nat):Int:=WY (motive:=λ_=>Int) o (-1) λi=>((k+i:Nat):Int)
theorem zN{b:List UInt8}{c:UInt8}:∀{l:List UInt8} {k:Nat},b.drop k=l->((Xw l.length).map (· + k)).find? (λi=>(b.drop i).take 1==[c])=(bh c l).map (k+·)
 | [],_,_=>rfl
 |x::r,k,e=>by
  have d:b.drop (k+1)=r:=by rw[←Xc,e];rfl
  rw[WM,ael,WO,Zr,Xn,e]
  show(match([x]==[c])with|true=>some k|false=>_)=(bif x==c then some 0 else(bh c r).map (· + 1)).map (k+·)
  rw[show([x]==[c])=(x==c)from acw _]
  cases x==c with
  |true=>rfl
  |false=>
   show List.find? _ _=((bh c r).map (· + 1)).map (k+·)
   have q:=zN (c:=c) d
   rw[Xy,show((λx=>x+k)∘adM)=(· + (k+1))from funext λi=>XQ i 1 k,q,Z5]
   exact congrArg (λf=>(bh c r).map f) (funext λi=>(WJ k 1 i).trans (congrArg (k+·) (W4 1 i)))
theorem sZ(b:List UInt8)(c:UInt8)(k:Nat):a8 b [c] k=SA k (bh c (b.drop k)):=by
 have key:=zN (c:=c) (rfl:b.drop k=_)
 unfold a8
 by_cases d:b.length<k+[c].length
 ·rw[if_pos d,Zl (Zz d)];rfl
 ·rw[if_neg d]
  unfold Tactic.findIn
  rw[WV,←Nat.add_sub_add_right b.length 1 k]at key
  rw[show((Xw (b.length+1-(k+[c].length))).map (· + k)).find? (λi=>(b.drop i).take [c].length==[c])=_ from key]
  cases bh c (b.drop k) <;> rfl
section
variable{g:Gl}{K:Frag}{n:Nat}{h:AH}
theorem xI(k:Kn g K)(j:4<=n)(y:d.length<=10000)(hx:∀e∈d,e.x.length<=1000000):cU g n 257 [dE d] (bif (fg d [] none []).isEmpty then some .none else none):=λ{Q X h} q=>by
 refine((aH (n:=3) (k.H 3) k.check_tree rfl ?_).call).up j
 refine aZ (aG Iq (uI k (Wh _) y hx)) ?_
 generalize fg d [] none []=f at q
 cases f with
 |nil=>exact je Iq rfl (bc q)
 |cons v r=>exact d8 (b:=true) (bq Iq (congrArg V.bool (decide_eq_true (Xl.mpr (Xs r.length))))) rfl (v:=v) (λ_ k=>V8 (aax 0) k) (fH q)
noncomputable def nt(d:List a9)(x:List UInt8):V:=WY (motive:=λ_=>V) (d.find? λe=>e.x==x) .none a9.v
theorem qd(k:Kn g K)(y:1<=n):cU g n 236 [dE d,.bytes x] (some (nt d x)):=λ{Q X h} q=>by
 refine((aH (n:=0) (k.H 0) k.Tree_find rfl ?_).call).up y
 refine d9 (e:=a9.v) (λs:Option V=>⟨[some (dE d),some (.bytes x),s],h⟩) (λl _=>Q (nt l x) h) none (λ_ k=>⟨trivial,k⟩) q (λs q=>a5 Iq (bc q)) λe r s q i k j=>?_
 unfold nt at q
 rw[Zr]at q
 refine bI (b:=e.x==x) (λ_ k=>⟨trivial,k⟩) (λ_ _ k=>k) (λb=>?_) λb=>k _ ?_
 ·rw[b]at q;exact j _ _ (bc q)
 ·rw[b]at q;exact q
noncomputable def kG:List UInt8->Int->Int
 | [],a=>a
 |c::r,a=>kG r (8*a+(c.toNat:Nat)-48)
noncomputable def g6:List Nat:=[33188,33261,40960,16384,57344,33204]
noncomputable def IH:List UInt8:=[48,49,50,51,52,53,54,55]
noncomputable def vq(i:Int):Bool:=g6.any λm=>(m:Int)==i
noncomputable def nu(c:UInt8)(r:List UInt8):Bool:=!((c::r).all λc=>IH.contains c)||(((c.toNat:Int)==48)||decide (((c::r).length:Int)>6))
noncomputable def bU:List UInt8->Option Nat
 | []=>none
 |c::r=>bif nu c r then none else bif vq (kG (c::r) 0)then some (kG (c::r) 0).toNat else none
theorem s6:bU (c::r)=bif nu c r then none else bif vq (kG (c::r) 0)then some (kG (c::r) 0).toNat else none:=rfl
theorem FD(h:vq i=true):(i.toNat:Int)=i:=by
 obtain⟨m,_,e⟩:=ZK.mp h
 rw[←eq_of_beq e];rfl
theorem II(i:Int):(!fJ i&&!(i==33204))=!vq i:=by
 rw[BEq.comm (a:=i),←Bool.not_or]
 congr 1
 show(((_||(_||(_||(_||(_||false)))))||_):Bool)=(_||(_||(_||(_||(_||(_||false))))))
 simp only[Bool.or_assoc,Bool.false_or,Zs]
 rfl
theorem FE(k:Kn g K)(y:2<=n):cU g n 264 [.bytes b] ((bU b).map λm:Nat=>V.int m):=λ{Q X h} q=>by
 refine((aH (n:=1) (k.H 1) k.object_mode_of rfl ?_).call).up y
 cases b with
 |nil=>exact d8 (cg (b:=false) Iq tf) rfl Iq (fH q)
 |cons c r=>
  refine bP (cg (a:=false) Iq λ_=>cg (jB (cX (aG Iq (jT k (Wh _))))) λ_=>cg (bJ (dy Iq Iq λ_ k=>V8 (aax 0) k) Iq λ_ k=>k) λ_=>fA Iq) (λ_ _ k=>k) (λe=>?_) λe=>?_
  ·have e:nu c r=true:=e
   rw[s6]at q
   rw[e]at q
   exact fH q
  ·have e:nu c r=false:=e
   rw[s6]at q
   rw[e]at q
   refine aZ Iq (d9 (e:=λc:UInt8=>.int (c.toNat:Nat)) (λs:Int×Option V=>⟨[some (.bytes (c::r)),some (.int s.1),s.2],h⟩) (λl s=>kG l s.1=kG (c::r) 0) (0,none) Iq rfl (λs i=>?_) λd l s i j k z=>?_)
   ·have i:s.1=kG (c::r) 0:=i
    refine bP (eE Iq λ_=>lY Iq) (λ_ _ k=>k) (λe=>fH ?_) λe=>a5 Iq (bc ?_)
    all_goals
     have e:=(II s.1).symm.trans e
     rw[i]at e
    ·rw[cw e]at q;exact q
    ·have e:=ni e
     rw[e]at q
     rw[i,←FD e];exact q
   ·exact aZ (λ_ k=>V8 (BC dD dD) k) (k (_,_) i)
end
section
theorem eN{b:Nat}:bY l none (some (b:Int))=l.take b:=by
 show(l.drop 0).take (abH l.length b-0)=_
 rw[aez]
 exact(aeM ..).symm
theorem dg{a:Nat}:bY l (some (a:Int)) none=l.drop a:=by
 show(l.drop (abH l.length a)).take (l.length-abH l.length a)=_
 rw[aez,Zj (by rw[WV];exact Wh _)]
 rcases Nat.le_total a l.length with h|h
 ·rw[ZZ h]
 ·rw[Nat.min_eq_right h,Zl h,List.drop_length]
theorem gc{a p:Nat}:bY l (some (a:Int)) (some ((a+p:Nat):Int))=(l.drop a).take p:=by
 show(l.drop (abH l.length a)).take (abH l.length (a+p:Nat)-abH l.length a)=_
 rw[aez,aez]
 rcases Nat.le_total a l.length with h|h
 ·rw[ZZ h,aeM (i:=p),WV,←Nat.sub_min_sub_right,aei]
 ·rw[Nat.min_eq_right h,Zl h,List.drop_length,List.take_nil,List.take_nil]
end
section
variable{g:Gl}{K:Frag}{n:Nat}{h:AH}
theorem s7(f:σ->St)(I:Nat->σ->Prop)(t:σ->Bool)(ht:∀m s,I m s->Ev Wt X (f s) (.bool (t s)))(hz:∀s,I 0 s->t s=false)(h0:∀m s,I m s->t s=false->r Q X (f s))
 (h1:∀m s,I (m+1) s->t s=true->∀Qc:V->St->Prop,(∀s',I m s'->Qc .none (f s'))->(∀v st',Q (.tup [v]) st'->Qc (.tup [v]) st')->W Qc X (f s)) (m:Nat) (s:σ) (i:I m s):ah (fW Wt W) r Q X (f s):=
 have w:∀(m:Nat) (s:σ),I m s->rM Wt W (m+1) (λf st1=>br (isNone f) (r Q X st1) (Q f st1)) X (f s):=λm=>by
  induction m with
  |zero=>exact λs i=>ht _ s i _ (Vb (hz s i) (h0 _ s i (hz s i)))
  |succ m ih=>exact λs i=>ht _ s i _ (Kr (λe=>h1 m s i e _ (λs' i'=>ih s' i') λ_ _ q=>q) λe=>h0 _ s i e)
 ⟨m+1,w m s i⟩
noncomputable def FG(m size p q:Nat)(s:List UInt8):Option (a9×Nat):=bif decide (s.length<q+1+size)then none else bif Yr q 0 then none else some (⟨m,s.take q,(s.drop (q+1)).take size⟩,p+1+(q+1)+size)
noncomputable def rf(md:List UInt8->Option Nat)(size:Nat)(s:List UInt8):Option (a9×Nat):=(bh 32 s).bind λp=>(md (s.take p)).bind λm=>(bh 0 (s.drop (p+1))).bind λq=>FG m size p q (s.drop (p+1))
section
theorem BH(e1:bh 32 s=none):rf md size s=none:=by unfold rf;rw[e1];rfl
theorem BI(e1:bh 32 s=some p)(e2:md (s.take p)=none):rf md size s=none:=by unfold rf;rw[e1];show(md (s.take p)).bind _=none;rw[e2];rfl
theorem BJ(e1:bh 32 s=some p)(e2:md (s.take p)=some m):rf md size s=(bh 0 (s.drop (p+1))).bind λq=>FG m size p q (s.drop (p+1)):=by unfold rf;rw[e1];show(md (s.take p)).bind _=_;rw[e2];rfl
end
noncomputable def gf(md:List UInt8->Option Nat)(size:Nat):Nat->List UInt8->Option (List a9)
 |0,_=>some []
 |f+1,s=>bif s.isEmpty then some []else(rf md size s).bind λx=>(gf md size f (s.drop x.2)).map (x.1::·)
noncomputable def eP(md:List UInt8->Option Nat)(size:Nat)(s:List UInt8):Option (List a9):=gf md size s.length s
theorem BK(e:s.isEmpty=false):gf md size (f+1) s=(rf md size s).bind λx=>(gf md size f (s.drop x.2)).map (x.1::·):=by
 show(bif s.isEmpty then _ else _)=_
 rw[e];rfl
theorem g7{b:List UInt8}{at_:Nat}:decide ((at_:Int)<b.length)=!(b.drop at_).isEmpty:=by
 rw[XT]
 simp[aeJ]
theorem BL(e:s.isEmpty=true):gf md size f s=some []:=by
 cases f with
 |zero=>rfl
 |succ f=>show(bif s.isEmpty then _ else _)=_;rw[e];rfl
theorem rC(e:bh c l=some i):i<l.length:=by
 obtain⟨p,r,e,_,h⟩:=fQ e
 rw[e,V6,←h]
 exact Yi (Xs _)
theorem IJ{L a q size:Nat}(h:q<L-a):decide (((a+q:Nat):Int)+1+size>L)=decide (L-a<q+1+size):=decide_eq_decide.mpr (Xl.trans (by rw[Nat.sub_lt_iff_lt_add' (Xo (Nat.lt_of_sub_pos (Wp (Wy _) h))),←WJ,←WJ]))
theorem IK:(((a+1+q:Nat):Int)==(a:Int)+1)=Yr q 0:=by
 cases q with
 |zero=>exact beq_self_eq_true _
 |succ q=>exact beq_eq_false_iff_ne.mpr λe=>absurd (Yx e) (YD (Yi (Xs q)))
theorem BN(k:∀c,h c=none->r Q X ⟨vP loc is [v,.ref c],upd h c (some (.list []))⟩)(l:is.length=2):ah (bZ is (aa (gx ag) (aa (af v) ag))) r Q X ⟨loc,h⟩:=
 V8 (Wy _) λc hc=>V8 (V5 rfl) (V8 l (k c hc))
theorem nv{x:Nat}:decide ((x:Int)<0)=false:=decide_eq_false (YX.mpr (Ww x))
structure RT(b:List UInt8)(size:Nat)(h:AH)(c:Addr)(Q:V->AH->Prop)(X:AH->Prop)(f:Nat)(acc:List a9)(at_:Nat)(h':AH):Prop where
 w:n7 h c (.list (acc.map a9.v)) h'
 n:(b.drop at_).length<=f
 m:acc.length<=at_
 q:cy ((gf bU size f (b.drop at_)).map λr=>dE (acc++r)) Q X h
theorem zO(k:Kn g K)(hn:3<=n){b:List UInt8}{size:Nat}(hb:b.length<=900000):cU g n 271 [.bytes b,.int size] ((eP bU size b).map dE):=λ{Q X h} q=>by
 refine((aH (n:=2) (k.H 2) k.read_tree rfl ?_).call).up hn
 refine BN (λc hc=>?_) rfl
 refine s7 (λs:(List a9×Nat)×Option V×Option V×Option V×AH=>⟨[some (.bytes b),some (.int size),some (.ref c),some (.int s.1.2),s.2.1,s.2.2.1,s.2.2.2.1],s.2.2.2.2⟩) (λf s=>RT b size h c Q X f s.1.1 s.1.2 s.2.2.2.2) (λs=>decide ((s.1.2:Int)<b.length)) (λm s i _ k=>k) (λs i=>?_) (λm s i e=>?_) (λf s i e0 Qc kn kr=>?_) b.length (([],0),none,none,none,upd h c (some (.list []))) ⟨n7.new,Wh _,Wh _,q⟩
 ·rw[g7,Xa.mpr (W7 (YS i.n))];rfl
 ·have q:=i.q
  rw[BL (ni ((g7 (b:=b)).symm.trans e))]at q
  have q:Q (dE (s.1.1++[])) h:=q
  rw[WH]at q
  refine a5 (aG Iq (IB k (Wh _))) (.fr c _ i.w.at_ ?_)
  show Fin Q (.inst 239 [if c=c then .lst (s.1.1.map a9.v)else .ref c]) _
  rw[if_pos rfl,i.w.drop hc]
  exact bc q
 ·have q:=i.q
  rw[BK (cw ((g7 (b:=b)).symm.trans e0))]at q
  refine aZ (bq (kE Iq rfl Iq λ_ k=>V8 ⟨Ww _,rfl⟩ k) (congrArg V.int (sZ b 32 s.1.2))) ?_
  generalize e1:bh 32 (b.drop s.1.2)=zz;cases zz with
  |none=>rw[BH e1]at q;exact d8 Iq rfl Iq (eC (i.w.sub hc) q)
  |some p=>
   refine je Iq (decide_eq_false (YX.mpr (Ww _))) ?_
   have cm:cU g 2 264 [.bytes ((b.drop s.1.2).take p)] _:=FE k (Wh _)
   generalize e2:bU ((b.drop s.1.2).take p)=zz;cases zz with
   |none=>
    rw[BI e1 e2]at q
    rw[e2]at cm
    exact Dl λQe=>xC (ar (bq Iq (congrArg V.bytes gc)) λ_ k=>k) cm (eC (i.w.sub hc) q)
   |some m=>
    rw[BJ e1 e2]at q
    rw[e2]at cm
    have d:(b.drop s.1.2).drop (p+1)=b.drop (s.1.2+p+1):=Xc ..
    refine aZ (aG (ar (bq Iq (congrArg V.bytes gc)) λ_ k=>k) cm) ?_
    refine aZ (bq (kE Iq rfl Iq λ_ k=>V8 ⟨Ww (s.1.2+p+1),rfl⟩ k) (congrArg V.int (sZ b 0 (s.1.2+p+1)))) ?_
    rw[d]at q
    generalize e3:bh 0 (b.drop (s.1.2+p+1))=zz;cases zz with
    |none=>rw[e3]at q;exact d8 (cg (b:=false) Iq λe=>nomatch (show true=false from e)) rfl Iq (eC (i.w.sub hc) q)
    |some r=>
     rw[e3]at q
     have lr:=rC e3
     rw[WV]at lr
     have q:cy ((((FG m size p r (b.drop (s.1.2+p+1))).bind λx=>(gf bU size f ((b.drop s.1.2).drop x.2)).map (x.1::·))).map λr=>dE (s.1.1++r)) Q X h:=q
     unfold FG at q
     rw[WV,←IJ lr]at q
     refine bP (b:=decide (((s.1.2+p+1+r:Nat):Int)+1+size>b.length)) (bq (cg Iq λ_=>fA Iq) (congrArg (λx=>V.bool (x||_)) nv)) (λ_ _ k=>k) (λe=>?_) λe=>?_
     ·rw[e]at q;exact eC (i.w.sub hc) q
     ·rw[e,←IK (a:=s.1.2+p)]at q
      refine bP (b:=((s.1.2+p+1+r:Nat):Int)==((s.1.2+p:Nat):Int)+1) Iq (λ_ _ k=>k) (λe=>?_) λe=>?_
      ·rw[e]at q;exact eC (i.w.sub hc) q
      ·rw[e]at q
       have la:=Xl.mp (of_decide_eq_true e0)
       have pos:0<p+1+(r+1)+size:=WA (Xs (p+1+r)) (Wq _ _)
       refine eF (v:=a9.v ⟨m,(b.drop (s.1.2+p+1)).take r,((b.drop (s.1.2+p+1)).drop (r+1)).take size⟩) (aG (ar Iq (ar (bq Iq (congrArg V.bytes (gc (a:=s.1.2+p+1) (p:=r)))) (ar (bq Iq (congrArg V.bytes ((gc (a:=s.1.2+p+1+r+1) (p:=size)).trans (congrArg (ad4 size) (show b.drop (s.1.2+p+1+r+1)=(b.drop (s.1.2+p+1)).drop (r+1)from(Xc (i:=r+1) (j:=s.1.2+p+1) (l:=b)).symm))))) λ_ k=>k))) (Du k (Wh _))) rfl i.w.at_ ?_ ?_
       ·rw[Wd];exact Wp i.m (WA la (V4 hb dD))
       ·refine aZ (v:=.int ((s.1.2+(p+1+(r+1)+size):Nat):Int)) (bq Iq (congrArg (λx:Nat=>V.int x) (show s.1.2+p+1+r+1+size=s.1.2+(p+1+(r+1)+size) by simp only[WJ]))) (kn ((s.1.1++[⟨m,(b.drop (s.1.2+p+1)).take r,((b.drop (s.1.2+p+1)).drop (r+1)).take size⟩],s.1.2+(p+1+(r+1)+size)),_,_,_,upd s.2.2.2.2 c (some (.list (s.1.1.map a9.v++[a9.v ⟨m,(b.drop (s.1.2+p+1)).take r,((b.drop (s.1.2+p+1)).drop (r+1)).take size⟩])))) ⟨?_,?_,?_,?_⟩)
        ·rw[WE];exact i.w.put
        ·rw[WV]
         have:=i.n
         rw[WV]at this
         exact Zz (WA (aaK la (Yi pos)) this)
        ·rw[V6];exact Wx i.m pos
        ·have q:cy ((((gf bU size f ((b.drop s.1.2).drop (p+1+(r+1)+size))).map (a9.mk m ((b.drop (s.1.2+p+1)).take r) (((b.drop (s.1.2+p+1)).drop (r+1)).take size)::·))).map λr=>dE (s.1.1++r)) Q X h:=q
         rw[Xc (i:=p+1+(r+1)+size),Z5]at q
         rw[show ∀x:a9,(λr=>dE ((s.1.1++[x])++r))=(λr=>dE (s.1.1++r))∘(x::·)from λx=>funext λr=>by rw[Wn];rfl]
         exact q
end
structure eH where
 m:List UInt8
 e:List UInt8
 w:Int
 z:List UInt8
noncomputable def eH.v(p:eH):V:=.inst 141 [.bytes p.m,.bytes p.e,.int p.w,.bytes p.z]
noncomputable def UA:List UInt8:=[48,49,50,51,52,53,54,55,56,57]
noncomputable def xJ:List UInt8->Bool
 | []=>true
 |c::r=>!(((c::r).length:Int)==5)||(!([43,45].contains c)||!(r.all λc=>UA.contains c))
noncomputable def UB(m e b:List UInt8)(i:Int):Option eH:=bif decide (i<0)then none else(numOf (bY b none (some i))).bind λw=>bif xJ (bY b (some (i+1)) none)then none else some ⟨m,e,w,bY b (some (i+1)) none⟩
noncomputable def UC(m e b:List UInt8):Option eH:=bif IC (m++e) [60,62,10,0]then none else UB m e b (a8 b [32] 0)
noncomputable def UD(m b:List UInt8)(i:Int):Option eH:=bif decide (i<0)then none else UC m (bY b none (some i)) (bY b (some (i+2)) none)
noncomputable def UE(b:List UInt8)(i:Int):Option eH:=bif decide (i<0)then none else UD (bY b none (some i)) (bY b (some (i+2)) none) (a8 (bY b (some (i+2)) none) [62,32] 0)
noncomputable def aY(b:List UInt8):Option eH:=UE b (a8 b [32,60] 0)
theorem xK:(bY l a b).length<=l.length:=by
 unfold bY
 rw[Xi,WV]
 exact V4 (YC _ _) (YW _ _)
theorem VL{c:UInt8}:(0<=(c.toNat:Int)∧(c.toNat:Int)<256):=LJ c
section
variable{g:Gl}{K:Frag}{n:Nat}{h:AH}
theorem LY(k:Kn g K)(q:cy ((UB m e b i).map eH.v) Q X h):iK g 2 (dC Q) (bz X) ⟨[v0,v1,some (.bytes m),some (.bytes b),v4,some (.bytes e),some (.int i),v7,v8],h⟩:=by
 unfold UB at q
 refine bP Iq (λ_ _ k=>k) (λe0=>?_) λe0=>?_
 ·rw[show decide (i<0)=true from e0]at q;exact fH q
 rw[show decide (i<0)=false from e0]at q
 clear e0
 refine jA (ar (aG Iq (qa k (Wh _))) Iq) ⟨V5 rfl,rfl⟩ ?_
 revert q
 generalize bY b (some (i+1)) none=z
 cases numOf (bY b none (some i))with
 |none=>exact λq=>d8 (λ_ k=>⟨trivial,k⟩) rfl Iq (fH q)
 |some w=>
  intro q
  have q:cy ((bif xJ z then none else some (eH.mk m e w z)).map eH.v) Q X h:=q
  refine je (λ_ k=>⟨trivial,k⟩) rfl ?_
  refine bP (b:=xJ z) ?_ (λ_ _ k=>k) (λy=>?_) λy=>?_
  ·cases z with
   |nil=>exact cg (a:=true) (b:=false) Iq tf
   |cons c r=>
    exact cg Iq λ_=>cg (bJ (dy Iq Iq λ_ k=>V8 (aax 0) k) Iq λ_ k=>V8 (LJ c) (by rw[BD];exact k)) λ_=>fA (jB (cX (aG (ar (bq Iq (congrArg V.bytes (dg (a:=1)))) λ_ k=>k) (jT k dD))))
  ·rw[y]at q;exact fH q
  ·rw[y]at q;exact a5 (aG Iq (zK k (Wh _))) (bc q)
theorem Pz(k:Kn g K)(hm:m.length<=8000000)(hb:b.length<=8000000)(q:cy ((UD m b (a8 b [62,32] 0)).map eH.v) Q X h):gS g 2 (dC Q) (bz X) ⟨[v0,v1,some (.bytes m),some (.bytes b),v4,v5,v6,v7,v8],h⟩:=by
 unfold UD at q
 refine aZ Iq (bP Iq (λ_ _ k=>k) (λe=>?_) λe=>?_)
 ·rw[show decide (a8 b [62,32] 0<0)=true from e]at q;exact fH q
 rw[show decide (a8 b [62,32] 0<0)=false from e]at q
 have l:(bY b none (some (a8 b [62,32] 0))).length<=8000000:=V4 xK hb
 refine jA Iq ⟨V5 rfl,rfl⟩ ?_
 revert q l
 generalize bY b none (some (a8 b [62,32] 0))=e
 generalize bY b (some (a8 b [62,32] 0+2)) none=b2
 intro q l
 have q:cy ((UC m e b2).map eH.v) Q X h:=q
 unfold UC at q
 refine bP (cX (aG (λ_ k=>⟨V4 (Wx hm l) dD,k⟩) (sR k dD))) (λ_ _ k=>k) (λe=>?_) λe=>?_
 ·rw[show IC _ _=true from e]at q;exact fH q
 ·rw[show IC _ _=false from e]at q;exact aZ Iq (LY k q)
theorem uJ(k:Kn g K)(hn:3<=n)(hb:b.length<=8000000):cU g n 152 [.bytes b] ((aY b).map eH.v):=λ{Q X h} q=>by
 refine((aH (n:=2) (k.H 2) k.read_person rfl ?_).call).up hn
 have q:cy ((UE b (a8 b [32,60] 0)).map eH.v) Q X h:=q
 unfold UE at q
 refine aZ Iq (bP Iq (λ_ _ k=>k) (λe=>?_) λe=>?_)
 ·rw[show decide (a8 b [32,60] 0<0)=true from e]at q;exact fH q
 ·rw[show decide (a8 b [32,60] 0<0)=false from e]at q
  exact jA Iq ⟨V5 rfl,rfl⟩ (Pz k (V4 xK hb) (V4 xK hb) q)
end
noncomputable def IL(key v:List UInt8):List UInt8:=key++[32]++Tactic.aP [10,32] (Tactic.aL 10 v)++[10]
noncomputable def ny:List UInt8:=[48,49,50,51,52,53,54,55,56,57,97,98,99,100,101,102]
noncomputable def bR(size:Nat)(b:List UInt8):Option (List UInt8):=bif !((b.length:Int)==2*size)||!(b.all λc=>ny.contains c)then none else ee (jf b)
structure Hd where
 k:List UInt8
 v:List UInt8
noncomputable def Hd.t(x:Hd):V:=.tup [.bytes x.k,.bytes x.v]
structure Walk(x d:Addr)(hs:List Hd)(i:Nat)(h:AH):Prop where
 hx:h x=some (.inst 330 d)
 hd:h d=some (.fields 330 [.lst (hs.map Hd.t),.int i])
 ne:x≠d
noncomputable def gC(l:List Hd)(key:List UInt8):Bool:=Yd (motive:=λ_=>Bool) l false λa _=>a.k==key
section
variable{g:Gl}{K:Frag}{n:Nat}{h:AH}
theorem fK{E L:PT}{X:St->Prop}{st:St}{s:List UInt8}{ps:List (List UInt8)}(h1:Ev E X st (.bytes s))(h2:Ev L X st (.lst (ps.map .bytes)))(l:(Tactic.aP s ps).length<=16777216):Ev (av g n bB E (aa L ag)) X st (.bytes (Tactic.aP s ps)):=
 kE h1 rfl (ar h2 λ_ k=>k) λ_ k=>az (dO (λx=>x) ps) (by rw[YQ];exact V8 l k)
theorem BO(k:Kn g K)(hn:1<=n){key v:List UInt8}(hv:v.length<=900000)(hl:(IL key v).length<=1000000):cU g n 278 [.bytes key,.bytes v] (some (.bytes (IL key v))):=λ{Q X h} q=>by
 have t:1000000<=16777216:=dD
 refine((aH (n:=0) (k.H 0) k.object_head_row rfl ?_).call).up hn
 have l2:=cB hl
 have l3:(Tactic.aP [10,32] (Tactic.aL 10 v)).length<=1000000:=by
  rw[V6]at l2
  exact V4 (XU _ _) l2
 exact a5 (ea (ea (x:=.bytes (key++[32])) (λ_ k=>⟨bt (cB l2) t,k⟩) (fK Iq (kE Iq rfl Iq λ_ k=>V8 hv k) (V4 l3 t)) λ_ k=>⟨bt l2 t,k⟩) Iq λ_ k=>⟨bt hl t,k⟩) (bc q)
theorem FH(k:Kn g K)(hn:3<=n){b:List UInt8}{size:Nat}(hb:b.length<=800000):cU g n 285 [.bytes b,.int size] ((bR size b).map .bytes):=λ{Q X h} q=>by
 refine((aH (n:=2) (k.H 2) k.object_head_id rfl ?_).call).up hn
 unfold bR at q
 refine bP (b:=!((b.length:Int)==2*size)||!(b.all λc=>ny.contains c)) (cg (λ_ k=>V8 (BC dD dD) k) λ_=>fA (jB (cX (aG Iq (jT k dD))))) (λ_ _ k=>k) (λe=>?_) λe=>?_
 ·rw[e]at q;exact fH q
 ·rw[e]at q
  have q:cy ((ee (jf b)).map .bytes) Q X h:=q
  have co:cU g 2 85 [.str (jf b)] _:=dH k (Wh _) (by unfold jf;rw[Wd];exact hb)
  have ct:cU g 2 59 [.bytes b] _:=pE k dD (V4 hb dD)
  generalize e1:ee (jf b)=zz;cases zz with
  |none=>rw[e1]at q co;exact Dl λQe=>xC (ar (aG Iq ct) λ_ k=>k) co (fH q)
  |some v=>rw[e1]at q co;exact a5 (aG (ar (aG Iq ct) λ_ k=>k) co) (bc q)
theorem Dy{l:List Hd}{i:Nat}{a:Hd}{r:List Hd}(e:l.drop i=a::r):(l.map Hd.t)[i]? = some a.t:=by
 have:l[i]? = some a:=by rw[←aeL i,←List.getElem?_drop,e];rfl
 rw[YF,this];rfl
theorem xM{i:Nat}:¬((i:Int)=-1):=λe=>nomatch e
theorem BP{W A:PT}{X:St->Prop}{st:St}{l:List V}{i:Nat}{v:V}(h1:Ev W X st (.lst l))(h2:Ev A X st (.int i))(e:l[i]? = some v):Ev (aQ W A) X st v:=dy h1 h2 λQ k=>by
 show Gw l i Q
 unfold Gw
 rw[if_neg xM]
 exact V8 (Ww i) (az e k)
theorem kR(h1:Ev W X ⟨loc,h⟩ (.ref x))(hx:h x=some (.inst C d))(hd:h d=some (.fields C fs))(e:ix.lookup C=some i)(e2:fs[i]? = some v)(r:ji v):Ev (aS W ix) X ⟨loc,h⟩ v:=λ_ k=>h1 _ (az hx (az hd (V8 rfl (az e (az e2 (V8 r k))))))
theorem IM(e:h x=some (.inst C d)):res h (.ref x)=.ref x:=by
 show WY (motive:=λ_=>V) (h x) _ _=_
 rw[e]
theorem pI(h1:Ev E X ⟨loc,h⟩ (.ref x))(hx:h x=some (.inst C d))(hd:h d=some (.fields C fs))(e:m.c.lookup C=some f)(h2:Ev es X ⟨loc,h⟩ (.lst vs))(hc:bW g n (.ref f) (.ref x::vs) (λv h=>Q v ⟨loc,h⟩) (λh=>X ⟨loc,h⟩) h):av g n m E es Q X ⟨loc,h⟩:=
 h1 _ (by
  show pick m (.ref x) h _ _
  unfold pick
  rw[IM hx]
  exact az hx (az hd (V8 rfl (az e (h2 _ hc)))))
theorem s8{A B:PT}{X:St->Prop}{st:St}{l:List V}{i:Nat}(h1:Ev A X st (.lst l))(h2:Ev B X st (.int i)):Ev (bb A B (af .none)) X st (.lst (l.drop i)):=λ_ k=>h1 _ (h2 _ (by rw[←dg]at k;exact k))
theorem LZ{l:List Hd}{i:Nat}:decide ((i:Int)<l.length)=!(l.drop i).isEmpty:=by
 rw[XT]
 simp[aeJ]
theorem Walk.lt(w:Walk x d hs i h):decide ((i:Int)<(hs.map Hd.t).length)=!(hs.drop i).isEmpty:=by rw[Wd];exact LZ
theorem pJ(k:Kn g K)(hn:1<=n){x d:Addr}{hs:List Hd}{i:Nat}{key:List UInt8}{Q:V->AH->Prop}{X:AH->Prop}(w:Walk x d hs i h)(q:Q (.bool (gC (hs.drop i) key)) h):bW g n (.ref 313) [.ref x,.bytes key] Q X h:=by
 refine((aH (n:=0) (k.H 0) k.ObjectHeadWalk_is_next rfl ?_).call).up hn
 generalize e:hs.drop i=zz;cases zz with
 |nil=>
  rw[e]at q
  refine a5 (bq (eE (b:=false) (bJ (kR Iq w.hx w.hd rfl rfl trivial) (lZ (kR Iq w.hx w.hd rfl rfl trivial) λ_ k=>k) λ_ k=>k) λz=>?_) (congrArg V.bool (aaa _))) (bc q)
  exact nomatch (show false=true from(w.lt.trans (congrArg (λl=>!l.isEmpty) e)).symm.trans z)
 |cons a r=>
  rw[e]at q
  exact a5 (bq (eE (bJ (kR Iq w.hx w.hd rfl rfl trivial) (lZ (kR Iq w.hx w.hd rfl rfl trivial) λ_ k=>k) λ_ k=>k) λ_=>bJ (dy (BP (kR Iq w.hx w.hd rfl rfl trivial) (kR Iq w.hx w.hd rfl rfl trivial) (Dy e)) Iq λ_ k=>V8 (aax 0) k) Iq λ_ k=>k) (congrArg (λb=>V.bool (b&&(a.k==key))) (show decide ((i:Int)<(hs.map Hd.t).length)=true from w.lt.trans (congrArg (λl=>!l.isEmpty) e)))) (bc q)
theorem Walk.up(w:Walk x d hs i h):Walk x d hs j (upd h d (some (.fields 330 [.lst (hs.map Hd.t),.int j]))):=⟨(aE w.ne).trans w.hx,aB _ _ _,w.ne⟩
theorem PA(k:Kn g K)(hn:2<=n){x d:Addr}{hs:List Hd}{i:Nat}{key:List UInt8}{Q:V->AH->Prop}{X:AH->Prop}(hk:key.length<=1000)(w:Walk x d hs i h)(q1:gC (hs.drop i) key=false->X h)
 (q2:∀a r,hs.drop i=a::r->a.k=key->Q (.bytes a.v) (upd h d (some (.fields 330 [.lst (hs.map Hd.t),.int (i+1:Nat)])))):bW g n (.ref 320) [.ref x,.bytes key] Q X h:=by
 refine((aH (n:=1) (k.H 1) k.ObjectHeadWalk_take rfl ?_).call).up hn
 have ln:(jf key).length<=1000:=by unfold jf;rw[Wd];exact hk
 have lk:Aw (3+(jf key).length):=V4 (Wu ln 3) dD
 have lk2:Aw (([110,111,32]++jf key).length+13):=by rw[V6];exact V4 (Wv (Wu ln 3) 13) dD
 have en:Ev (av g 1 fO (ae 0) (aa (ae 1) ag)) (bz X) ⟨[some (.ref x),some (.bytes key)],h⟩ (.bool (gC (hs.drop i) key)):=λ_ q=>pI Iq w.hx w.hd rfl Iq (pJ k (Wh _) w q)
 generalize e:hs.drop i=zz;cases zz with
 |nil=>
  rw[e]at q1 en
  exact d8 (jB (cX en)) rfl (ea (x:=.str ([110,111,32]++jf key)) (ea Iq (aG Iq (pE k dD (V4 hk dD))) λ_ k=>⟨lk,k⟩) Iq λ_ k=>⟨lk2,k⟩) (fH (q1 rfl))
 |cons a r=>
  rw[e]at q1 en
  refine bP (jB (cX en)) (λ_=>ea (x:=.str ([110,111,32]++jf key)) (ea Iq (aG Iq (pE k dD (V4 hk dD))) λ_ k=>⟨lk,k⟩) Iq λ_ k=>⟨lk2,k⟩) (λz=>fH (q1 (cw z))) λz=>?_
  refine zC (st':=⟨[some (.ref x),some (.bytes key)],upd h d (some (.fields 330 [.lst (hs.map Hd.t),.int (i+1:Nat)]))⟩) (λQc k=>?_) ?_
  ·exact az w.hx (az w.hd (V8 rfl (V8 trivial (az w.hx (az w.hd (V8 rfl (V8 (V5 rfl) k)))))))
  ·have w':=w.up (j:=i+1)
   exact a5 (dy (BP (kR Iq w'.hx w'.hd rfl rfl trivial) (bq (ea (kR Iq w'.hx w'.hd rfl rfl trivial) Iq λ_ k=>k) (congrArg V.int (show(i:Int)+1-1=i from Z3 ..))) (Dy e)) Iq λ_ k=>V8 dD k) (bc (q2 a r e (eq_of_beq (ni z))))
theorem IP(k:Kn g K)(hn:1<=n)(w:Walk x d hs i h)(q:Q (.lst ((hs.drop i).map Hd.t)) h):bW g n (.ref 327) [.ref x] Q X h:=by
 refine((aH (n:=0) (k.H 0) k.ObjectHeadWalk_rest rfl ?_).call).up hn
 rw[abg]at q
 exact a5 (s8 (kR Iq w.hx w.hd rfl rfl trivial) (kR Iq w.hx w.hd rfl rfl trivial)) (bc q)
end
section
variable{g:Gl}{K:Frag}{n:Nat}{h:AH}
theorem PC(k:Kn g K)(hn:2<=n)(q:∀x d h',h x=none->h d=none->Walk x d hs 0 h'->(∀a,a≠x->a≠d->h' a=h a)->Q (.ref x) h'):bW g n (.ref 330) [.lst (hs.map Hd.t)] Q X h:=by
 have w:=k.inits (330,306) (.tail _ (.tail _ (.tail _ (.head _))))
 refine((p7 (n:=1) (k.H 0).top (k.cl 330 (.tail _ (.tail _ (.tail _ (.head _))))) w.1 w.2 λx r hx hr hxr=>?_).call).up hn
 refine aH (n:=0) (k.H 0) k.ObjectHeadWalk_init rfl ?_
 have e1:upd (upd h r (some (.fields 330 []))) x (some (.inst 330 r)) x=some (.inst 330 r):=aB _ _ _
 have e2:upd (upd h r (some (.fields 330 []))) x (some (.inst 330 r)) r=some (.fields 330 []):=(aE (XW hxr)).trans (aB _ _ _)
 refine zC (st':=⟨[some (.ref x),some (.lst (hs.map Hd.t))],upd (upd (upd h r (some (.fields 330 []))) x (some (.inst 330 r))) r (some (.fields 330 [.lst (hs.map Hd.t)]))⟩) (λQc k=>az e1 (az e2 (V8 rfl (V8 (Wh _) k)))) ?_
 refine zC (st':=⟨[some (.ref x),some (.lst (hs.map Hd.t))],upd (upd (upd (upd h r (some (.fields 330 []))) x (some (.inst 330 r))) r (some (.fields 330 [.lst (hs.map Hd.t)]))) r (some (.fields 330 [.lst (hs.map Hd.t),.int (0:Nat)]))⟩) (λQc k=>az ((aE hxr).trans e1) (az (aB _ _ _) (V8 rfl (V8 (Wh _) k)))) ?_
 exact bc (.ref rfl (q x r _ hx hr ⟨(aE hxr).trans ((aE hxr).trans e1),aB _ _ _,hxr⟩ λa n1 n2=>(aE n2).trans ((aE n2).trans ((aE n1).trans (aE n2)))))
noncomputable def bump(acc:List Hd)(t:List UInt8):Option (List Hd):=acc.getLast?.map λa=>acc.set (acc.length-1) ⟨a.k,a.v++[10]++t⟩
noncomputable def L0(row:List UInt8)(acc:List Hd):Option Nat->Option (List Hd)
 |none=>none
 |some 0=>none
 |some (j+1)=>some (acc++[⟨row.take (j+1),row.drop (j+2)⟩])
noncomputable def c4(row:List UInt8)(acc:List Hd):Option (List Hd):=bif row.take 1==[32]then bump acc (row.drop 1)else L0 row acc (bh 32 row)
noncomputable def optN(o:Option Nat):Int:=WY (motive:=λ_=>Int) o (-1) λi=>(i:Int)
theorem s9(b:List UInt8)(c:UInt8):a8 b [c] 0=optN (bh c b):=by
 rw[sZ]
 show SA 0 (bh c b)=_
 cases bh c b with
 |none=>rfl
 |some i=>exact congrArg (λn:Nat=>(n:Int)) (Xn i)
theorem bl{A B:PT}{X:St->Prop}{st:St}{x y:List UInt8}(h1:Ev A X st (.bytes x))(h2:Ev B X st (.bytes y))(l:Aw (x.length+y.length)):Ev (ao .Add A B) X st (.bytes (x++y)):=λ_ k=>h1 _ (h2 _ (V8 l k))
theorem L2{Q:V->St->Prop}{X:AH->Prop}{h0:AH}{c:Addr}{acc:List Hd}{row:List UInt8}{v0 v2 v3 v5 v6 v7:Option V}{m:Nat}(w:n7 h0 c (.list (acc.map Hd.t)) h)(hc:h0 c=none)(hm:∀a∈acc,a.v.length<=m)(hr:m+1+row.length<=10000000)(hl:acc.length<1000000)(hx:c4 row acc=none->X h0)
 (k:∀acc' v5 v6 v7 h2,c4 row acc=some acc'->n7 h0 c (.list (acc'.map Hd.t)) h2->Q .none ⟨[v0,some (.ref c),v2,v3,some (.bytes row),v5,v6,v7],h2⟩):gT g n Q (bz X) ⟨[v0,some (.ref c),v2,v3,some (.bytes row),v5,v6,v7],h⟩:=by
 have lm:∀{x:Nat},x<=m+1+row.length->Aw x:=λh=>V4 h (V4 hr dD)
 unfold c4 at hx k
 refine Fw (b:=row.take 1==[32]) (bJ (bq Iq (congrArg V.bytes (eN (b:=1)))) Iq λ_ k=>k) (λe=>?_) λe=>?_
 ·rw[e]at hx k
  have hx:bump acc (row.drop 1)=none->X h0:=hx
  have k:∀acc' v5 v6 v7 h2,bump acc (row.drop 1)=some acc'->n7 h0 c (.list (acc'.map Hd.t)) h2->Q .none ⟨[v0,some (.ref c),v2,v3,some (.bytes row),v5,v6,v7],h2⟩:=k
  unfold bump at hx k
  have el:Ev (dn (b1 c5) (aa (ae 1) ag)) (bz X) ⟨[v0,some (.ref c),v2,v3,some (.bytes row),v5,v6,v7],h⟩ (.int (acc.map Hd.t).length):=lZ Iq λ_ k=>by unfold c5;rw[d7 w.at_];exact k
  generalize e2:acc.getLast? = zz;cases zz with
  |none=>
   obtain rfl:=List.getLast?_eq_none_iff.mp e2
   exact d8 (bJ el Iq λ_ k=>k) rfl Iq (eC (w.sub hc) (hx rfl))
  |some a=>
   rw[e2]at hx k
   have ne:acc≠[]:=λz=>by rw[z]at e2;cases e2
   have al:(acc.map Hd.t).getLast? = some a.t:=by rw[List.getLast?_map,e2];rfl
   have ma:a.v.length<=m:=hm a (aeZ e2)
   have nl:(((acc.map Hd.t).length:Int)==0)=false:=beq_eq_false_iff_ne.mpr λz=>ne (Zb.mp (W7 (Yx z)))
   refine je (bJ el Iq λ_ k=>k) nl ?_
   refine zC (st':=⟨[v0,some (.ref c),v2,v3,some (.bytes row),some (.bytes a.k),some (.bytes a.v),v7],h⟩) (λQc k=>?_) ?_
   ·show gm (.ref c) (.int (-1)) h _
    unfold gm
    rw[d7 w.at_]
    show Gw _ (-1) _
    unfold Gw
    rw[if_pos rfl]
    exact az al (V8 rfl k)
   ·refine zC (st':=⟨[v0,some (.ref c),v2,v3,some (.bytes row),some (.bytes a.k),some (.bytes a.v),v7],upd h c (some (.list ((acc.map Hd.t).set ((acc.map Hd.t).length-1) (Hd.t ⟨a.k,a.v++[10]++row.drop 1⟩))))⟩) (λQc k=>?_) ?_
    ·have hE:Ev (c8 (aa (ae 5) (aa (ao .Add (ao .Add (ae 6) (af (.bytes [10]))) (bb (ae 4) (af (.int 1)) (af .none))) ag))) (bz X) ⟨[v0,some (.ref c),v2,v3,some (.bytes row),some (.bytes a.k),some (.bytes a.v),v7],h⟩ (Hd.t ⟨a.k,a.v++[10]++row.drop 1⟩):=λQ k=>
      ar Iq (ar (bl (bl Iq Iq (lm (V4 (Wv ma 1) (Wq _ row.length)))) (bq Iq (congrArg V.bytes (dg (a:=1)))) (by rw[V6,WV];exact lm (Wx (Wv ma 1) (YW _ _)))) λ_ k=>k) _ (V8 (V5 rfl) k)
     refine hE _ (az w.at_ ?_)
     exact V8 (λz=>ne (Zb.mp z)) k
    ·refine k _ _ _ _ _ rfl ?_
     rw[List.map_set]
     have:=w.put (o':=.list ((acc.map Hd.t).set ((acc.map Hd.t).length-1) (Hd.t ⟨a.k,a.v++[10]++row.drop 1⟩)))
     rw[Wd]at this ⊢
     exact this
 ·rw[e]at hx k
  have hx:L0 row acc (bh 32 row)=none->X h0:=hx
  have k:∀acc' v5 v6 v7 h2,L0 row acc (bh 32 row)=some acc'->n7 h0 c (.list (acc'.map Hd.t)) h2->Q .none ⟨[v0,some (.ref c),v2,v3,some (.bytes row),v5,v6,v7],h2⟩:=k
  refine aZ (bq Iq (congrArg V.int (s9 row 32))) ?_
  revert hx k
  rcases bh 32 row with _|_|j
  ·exact λhx k=>d8 Iq rfl Iq (eC (w.sub hc) (hx rfl))
  ·exact λhx k=>d8 Iq rfl Iq (eC (w.sub hc) (hx rfl))
  ·intro hx k
   refine je Iq (decide_eq_false (YX.mpr (XS.mpr (Wm (Wy j))))) ?_
   refine eF (v:=Hd.t ⟨row.take (j+1),row.drop (j+2)⟩) (λQ k=>ar (bq Iq (congrArg V.bytes (eN (b:=j+1)))) (ar (bq Iq (congrArg V.bytes (dg (a:=j+2)))) λ_ k=>k) _ (V8 (V5 rfl) k)) rfl w.at_ (by rw[Wd];exact hl) ?_
   refine k _ _ _ _ _ rfl ?_
   rw[WE];exact w.put
end
structure PD(acc acc':List Hd)(m:Nat):Prop where
 v:∀a∈acc',a.v.length<=m
 n:acc'.length<=acc.length+1
theorem ta(e:c4 row acc=some acc')(h:∀a∈acc,a.v.length<=m):PD acc acc' (m+1+row.length):=by
 have up:∀{x},x<=m->x<=m+1+row.length:=λh=>V4 h (V4 (Xq m) (Wq _ _))
 unfold c4 at e
 generalize t:(row.take 1==[32])=zz;cases zz with
 |true=>
  rw[t]at e
  have e:bump acc (row.drop 1)=some acc':=e
  unfold bump at e
  generalize e2:acc.getLast? = zz;cases zz with
  |none=>rw[e2]at e;cases e
  |some a=>
   rw[e2]at e
   obtain rfl:=WR e
   refine⟨λb hb=>?_,by rw[aaA];exact Xq _⟩
   rcases List.mem_or_eq_of_mem_set hb with hb|rfl
   ·exact up (h b hb)
   ·show(a.v++[10]++row.drop 1).length<=_
    rw[V6,V6,WV]
    exact Wx (Wv (h a (aeZ e2)) 1) (YW _ _)
 |false=>
  rw[t]at e
  have e:L0 row acc (bh 32 row)=some acc':=e
  rcases j:bh 32 row with _|_|j <;> rw[j]at e
  ·cases e
  ·cases e
  ·obtain rfl:=WR e
   refine⟨λb hb=>?_,by rw[V6];exact Wh _⟩
   rcases WD.mp hb with hb|hb
   ·exact up (h b hb)
   ·rw[Wr.mp hb]
    show(row.drop _).length<=_
    rw[WV]
    exact V4 (YW _ _) (XU _ _)
structure Gf where
 l:List Hd
 m:List UInt8
noncomputable def Gf.v(x:Gf):V:=.tup [.lst (x.l.map Hd.t),.bytes x.m]
noncomputable def b5:Nat->List UInt8->List Hd->Option Gf
 |0,_,_=>none
 |f+1,s,acc=>(bh 10 s).bind λp=>bif Yr p 0 then some ⟨acc,s.drop 1⟩else(c4 (s.take p) acc).bind λacc'=>b5 f (s.drop (p+1)) acc'
noncomputable def cV(b:List UInt8):Option Gf:=bif decide (a8 b [0] 0≥0)then none else b5 (b.length+1) b []
section
theorem nz(e:bh 10 s=none):b5 (f+1) s acc=none:=by unfold b5;rw[e];rfl
theorem tb(e:bh 10 s=some p)(z:Yr p 0=true):b5 (f+1) s acc=some ⟨acc,s.drop 1⟩:=by unfold b5;rw[e];show(bif Yr p 0 then _ else _)=_;rw[z];rfl
theorem nA(e:bh 10 s=some p)(z:Yr p 0=false):b5 (f+1) s acc=(c4 (s.take p) acc).bind λacc'=>b5 f (s.drop (p+1)) acc':=by rw[b5,e];show(bif Yr p 0 then _ else _)=_;rw[z];rfl
end
structure HL(b:List UInt8)(h:AH)(c:Addr)(Q:V->AH->Prop)(X:AH->Prop)(f:Nat)(acc:List Hd)(at_:Nat)(h':AH):Prop where
 w:n7 h c (.list (acc.map Hd.t)) h'
 n:(b.drop at_).length+1<=f
 v:∀a∈acc,a.v.length<=at_
 l:acc.length<=at_
 a:at_<=b.length
 q:cy ((b5 f (b.drop at_) acc).map Gf.v) Q X h
section
variable{g:Gl}{K:Frag}{n:Nat}{h:AH}
theorem SE:(((a+p:Nat):Int)==(a:Int))=Yr p 0:=by
 cases p with
 |zero=>exact beq_self_eq_true _
 |succ q=>exact beq_eq_false_iff_ne.mpr λe=>absurd (Yx e) (YD (Yi (Xs q)))
theorem Dz(k:Kn g K)(hn:1<=n)(hb:b.length<=900000):cU g n 292 [.bytes b] ((cV b).map Gf.v):=λ{Q X h} q=>by
 refine((aH (n:=0) (k.H 0) k.object_heads rfl ?_).call).up hn
 unfold cV at q
 refine bP (b:=decide (a8 b [0] 0≥0)) Iq (λ_ _ k=>k) (λe=>?_) λe=>?_
 ·rw[e]at q;exact fH q
 rw[e]at q
 refine BN (λc hc=>?_) rfl
 refine s7 (λs:(List Hd×Nat)×Option V×Option V×Option V×Option V×Option V×AH=>⟨[some (.bytes b),some (.ref c),some (.int s.1.2),s.2.1,s.2.2.1,s.2.2.2.1,s.2.2.2.2.1,s.2.2.2.2.2.1],s.2.2.2.2.2.2⟩) (λf s=>HL b h c Q X f s.1.1 s.1.2 s.2.2.2.2.2.2) (λ_=>true) (λm s i _ k=>k) (λs i=>nomatch i.n) (λm s i e=>tf e) (λf s i _ Qc kn kr=>?_) (b.length+1) (([],0),none,none,none,none,none,upd h c (some (.list []))) ⟨n7.new,Wh _,an,Wh _,Wy _,q⟩
 have q:=i.q
 refine aZ (bq (kE Iq rfl Iq λ_ k=>V8 ⟨Ww _,rfl⟩ k) (congrArg V.int (sZ b 10 s.1.2))) ?_
 generalize e1:bh 10 (b.drop s.1.2)=zz;cases zz with
 |none=>rw[nz e1]at q;exact d8 Iq rfl Iq (eC (i.w.sub hc) q)
 |some p=>
  refine je Iq nv ?_
  refine bI (b:=Yr p 0) (v:=.tup [.ref c,.bytes (b.drop (s.1.2+p+1))]) (bq Iq (congrArg V.bool SE)) (λ_ Q k=>ar Iq (ar (bq Iq (congrArg V.bytes (dg (a:=s.1.2+p+1)))) λ_ k=>k) _ (V8 (V5 rfl) k)) (λe=>?_) λe=>?_
  ·rw[tb e1 e]at q
   obtain rfl:=Yb e
   refine kr _ _ (.fr c _ i.w.at_ ?_)
   show Fin Q (.tup [if c=c then .lst (s.1.1.map Hd.t)else .ref c,.bytes (b.drop (s.1.2+0+1))]) _
   rw[if_pos rfl,i.w.drop hc]
   have q:Q (.tup [.lst (s.1.1.map Hd.t),.bytes ((b.drop s.1.2).drop 1)]) h:=q
   rw[Xc]at q
   exact bc q
  ·rw[nA e1 e]at q
   have lp:=rC e1
   rw[WV]at lp
   have lr:((b.drop s.1.2).take p).length<=p:=by rw[Xi];exact abU _ _
   have la:s.1.2+p+1<=b.length:=by rw[WJ,W4];exact Nat.add_le_of_le_sub i.a lp
   have le:((b.drop s.1.2).take p).length=p:=by rw[Xi,WV];exact ZZ (Xo lp)
   refine jA (ar (bq Iq (congrArg V.bytes gc)) λ_ k=>k) ⟨V5 rfl,rfl⟩ ?_
   refine L2 i.w hc i.v ?_ ?_ (λe2=>?_) λacc' v5 v6 v7 h2 e2 w2=>?_
   ·rw[le,XQ];exact V4 la (V4 hb dD)
   ·exact Wp i.l (Wp (V4 i.a hb) dD)
   ·rw[e2]at q;exact q
   ·rw[e2]at q
    have so:=ta e2 i.v
    rw[le,XQ]at so
    refine kn ((acc',s.1.2+p+1),_,_,_,_,_,_) ⟨w2,?_,so.v,?_,la,?_⟩
    ·have:=i.n
     rw[WV]at this ⊢
     exact V4 (aaK (WA (abd (Wq _ p)) la) (abd (Wq _ p))) (X7 this)
    ·exact V4 so.n (Wm (V4 i.l (Wq _ _)))
    ·have q:cy ((b5 f ((b.drop s.1.2).drop (p+1)) acc').map Gf.v) Q X h:=q
     rw[Xc]at q
     exact q
end
noncomputable def bg(b:List UInt8):List UInt8:=Fx (cz b)
theorem IQ:ez.all (λc=>decide (c<256))=true:=rfl
theorem rD(i:Nat):ez.getD i 0<256:=by
 unfold List.getD
 generalize e:ez[i]? = d;cases d with
 |none=>exact(by decide:0<256)
 |some c=>exact of_decide_eq_true (WQ.mp IQ c (Xx e))
theorem xN:∀c∈cz b,c<256:=λc hc=>by
 obtain⟨d,_,h⟩:=ZI.mp hc
 rcases Wf.mp h with rfl|h
 ·exact rD _
 ·rw[Wr.mp h];exact rD _
theorem g8:∀b:List UInt8,(cz b).length=2*b.length:=by
 intro d
 induction d with
 |nil=>
  exact rfl
 |cons a r q=>
  show(kP a::qb a::cz r).length=_;rw[WM,WM,q];rfl
noncomputable def eH.oct(p:eH):List UInt8:=rz p.m p.e p.w.toNat p.z
structure dT where
 tree:List UInt8
 par:List (List UInt8)
 au:eH
 co:eH
 ex:List Hd
 msg:List UInt8
noncomputable def dT.v(c:dT):V:=.inst 365 [.bytes c.tree,.lst (c.par.map .bytes),c.au.v,c.co.v,.lst (c.ex.map Hd.t),.bytes c.msg]
noncomputable def zP(a b:List UInt8):List UInt8:=a++bg b++[10]
noncomputable def BQ(a b:List UInt8):List UInt8:=a++b++[10]
noncomputable def dT.parts(c:dT):List (List UInt8):=zP [116,114,101,101,32] c.tree::(c.par.map (zP [112,97,114,101,110,116,32])++(BQ [97,117,116,104,111,114,32] c.au.oct::BQ [99,111,109,109,105,116,116,101,114,32] c.co.oct::(c.ex.map (λx=>IL x.k x.v)++[[10]++c.msg])))
noncomputable def dT.oct(c:dT):List UInt8:=c.parts.flatten
structure eH.OK(p:eH):Prop where
 w:0<=p.w
 b:p.w.natAbs.log2<1920
 l:p.oct.length<=1000
section
variable{g:Gl}{K:Frag}{n:Nat}{h:AH}
theorem iu(k:Kn g K)(d:2<=n){p:eH}(ok:p.OK):cU g n 138 [p.v] (some (.bytes p.oct)):=by
 have e:((p.w.toNat:Nat):Int)=p.w:=YJ ok.w
 have t:cU g n 138 [xF p.m p.e p.w.toNat p.z] (some (.bytes p.oct)):=rb k d (by rw[e];exact ok.b) ok.l
 unfold xF at t
 rw[e]at t
 exact λ{_ _ _}=>t
theorem BR(k:Kn g K){E:PT}{X:St->Prop}{st:St}{a b:List UInt8}{m:Nat}(q:1<=m)(y:Ev E X st (.bytes b))(hb:b.length<=1000)(d:(zP a b).length<=100000):Ev (ao .Add (ao .Add (af (.bytes a)) (ak g m (.ref 64) (aa (ak g m (.ref 71) (aa E ag)) ag))) (af (.bytes [10]))) X st (.bytes (zP a b)):=
 bl (bl Iq (aG (ar (aG (ar y λ_ k=>k) (zG k q (V4 hb dD))) λ_ k=>k) (jD k q (by rw[g8];exact V4 (WX 2 hb) dD) xN)) (bt (cB d) dD)) Iq (bt d dD)
theorem IS{u y:Type}{a b:u->V}{l:List u}{It W r:PT}{i j:Nat}{Q:V->St->Prop}{X:St->Prop}(f:y->St)(I:List u->y->Prop)(s:y)(k:Ev It X (f s) (.lst (l.map λx=>.tup [a x,b x])))(p:I l s)(h0:∀s,I [] s->r Q X (f s))
 (h1:∀x l s,I (x::l) s->∀c:V->St->Prop,(∀z,I l z->c .none (f z))->(∀v st',Q (.tup [v]) st'->c (.tup [v]) st')->W c X ⟨((f s).loc.set i (some (a x))).set j (some (b x)),(f s).h⟩):ah (dq (cL 2 [aj i,aj j]) It W) r Q X (f s):=
 have w:∀(l:List u) (s:y),I l s->fT (cL 2 [aj i,aj j]) W (l.map λx=>.tup [a x,b x]) (λf d=>br (isNone f) (r Q X d) (Q f d)) X (f s):=λl=>by
  induction l with
  |nil=>exact λs i=>h0 s i
  |cons x l o=>exact λs i=>V8 rfl (h1 x l s i _ (λz m=>o z m) λ_ _ q=>q)
 k _ (w l s p)
structure CO(h0:AH)(c:Addr)(P:List (List UInt8))(acc rest:List (List UInt8))(h:AH):Prop where
 w:n7 h0 c (.list (acc.map .bytes)) h
 e:acc++rest=P
theorem CO.len(o:CO h0 c P d q h)(l:P.length<=1000):(d.map V.bytes).length<1000000:=by
 rw[Wd]
 exact Wp (V4 (by rw[←o.e,V6];exact Wq _ _) l) dD
theorem CO.app(o:CO h0 c P d (a::q) h):CO h0 c P (d++[a]) q (upd h c (some (.list (d.map .bytes++[.bytes a])))):=⟨by rw[WE];exact o.w.put,by rw[Wn];exact o.e⟩
theorem CO.le(o:CO h0 c P q (a::d) h)(l:P.flatten.length<=100000):a.length<=100000:=V4 (nk (by rw[←o.e];exact WK _ (.head _))) l
theorem rg(k:Kn g K)(m:3<=n){x:dT}(ha:x.au.OK)(hc:x.co.OK)(f:x.tree.length<=1000)(hp:∀p∈x.par,p.length<=1000)(hx:∀a∈x.ex,a.v.length<=1000)(j:x.oct.length<=100000)(d:x.parts.length<=1000):cU g n 355 [x.v] (some (.bytes x.oct)):=λ{Q X h} q=>by
 refine((aH (n:=2) (k.H 2) k.Commit_octets rfl ?_).call).up m
 have B:∀{a:List UInt8},a∈x.parts->a.length<=100000:=λh=>V4 (nk h) j
 refine vm (ar (BR k dD (λ_ k=>⟨trivial,k⟩) f (B (.head _))) λ_ k=>k) (V5 rfl) λc z=>?_
 refine d9 (e:=V.bytes) (l:=x.par) (λs:List (List UInt8)×Option V×AH=>⟨[some x.v,some (.ref c),s.2.1,none,none],s.2.2⟩) (λl s=>CO h c x.parts s.1 (l.map (zP [112,97,114,101,110,116,32])++(BQ [97,117,116,104,111,114,32] x.au.oct::BQ [99,111,109,109,105,116,116,101,114,32] x.co.oct::(x.ex.map (λx=>IL x.k x.v)++[[10]++x.msg]))) s.2.2∧∀p∈l,p.length<=1000) ([zP [116,114,101,101,32] x.tree],none,_) (λ_ k=>⟨trivial,k⟩) ⟨⟨n7.new,rfl⟩,hp⟩ (λs i=>?_) λp l s i o kn u=>?_
 ·have i:=i.1
  refine eF (bl (bl (y:=x.au.oct) Iq (l0 (λ_ k=>⟨trivial,k⟩) rfl Iq (iu k (Wh _) ha)) (bt (cB (i.le j)) dD)) Iq (bt (i.le j) dD)) rfl i.w.at_ (i.len d) ?_
  have i:=i.app
  refine eF (bl (bl (y:=x.co.oct) Iq (l0 (λ_ k=>⟨trivial,k⟩) rfl Iq (iu k (Wh _) hc)) (bt (cB (i.le j)) dD)) Iq (bt (i.le j) dD)) rfl i.w.at_ (i.len d) ?_
  refine IS (a:=λy:Hd=>.bytes y.k) (b:=λy:Hd=>.bytes y.v) (l:=x.ex) (λt:List (List UInt8)×Option V×Option V×AH=>⟨[some x.v,some (.ref c),s.2.1,t.2.1,t.2.2.1],t.2.2.2⟩) (λl t=>CO h c x.parts t.1 (l.map (λx=>IL x.k x.v)++[[10]++x.msg]) t.2.2.2∧∀a∈l,a.v.length<=1000) (_,none,none,_) (λ_ k=>⟨trivial,k⟩) ⟨i.app,hx⟩ (λt i=>?_) λa l t i o kn u=>?_
  ·have i:=i.1
   refine eF (bl Iq (λ_ k=>⟨trivial,k⟩) (bt (i.le j) dD)) rfl i.w.at_ (i.len d) ?_
   have e:t.1++[[10]++x.msg]=x.parts:=i.e
   have i:=i.app
   refine a5 (kE Iq rfl (ar Iq λ_ k=>k) λ_ k=>Ir i.w.at_ (az (dO (λx=>x) _) (V8 ?_ k))) (.mk (i.w.sub z) ?_)
   ·rw[YQ,fP,e];exact V4 j dD
   ·rw[YQ,fP,e];exact q
  ·exact eF (aG Iq (BO k dD (V4 (i.2 a (.head _)) dD) (V4 (i.1.le j) dD))) rfl i.1.w.at_ (i.1.len d) (kn (t.1++[_],_,_,_) ⟨i.1.app,λb hb=>i.2 b (.tail _ hb)⟩)
 ·refine eF (BR k dD Iq (i.2 p (.head _)) (i.1.le j)) rfl i.1.w.at_ (i.1.len d) (kn (s.1++[_],_,_) ⟨i.1.app,λa ha=>i.2 a (.tail _ ha)⟩)
end
noncomputable def cH(key:List UInt8):List Hd->Option (List UInt8×List Hd)
 | []=>none
 |a::r=>bif a.k==key then some (a.v,r)else none
noncomputable def bV(size:Nat)(key:List UInt8)(l:List Hd):Option (List UInt8×List Hd):=(cH key l).bind λp=>(bR size p.1).map λo=>(o,p.2)
noncomputable def bC(key:List UInt8)(l:List Hd):Option (eH×List Hd):=(cH key l).bind λp=>(aY p.1).map λo=>(o,p.2)
structure WS(h0:AH)(x d:Addr)(hs:List Hd)(i:Nat)(r:List Hd)(h:AH):Prop where
 w:Walk x d hs i h
 e:hs.drop i=r
 s:Sub h0 h
 nd:h0 d=none
 b:∀a∈hs,a.v.length<=800000
theorem WS.next(o:WS h0 x d hs i (a::r) h):WS h0 x d hs (i+1) r (upd h d (some (.fields 330 [.lst (hs.map Hd.t),.int (i+1:Nat)]))):=
 ⟨o.w.up,by rw[←Xc,o.e];rfl,λa b q=>(aE λz=>by rw[z,o.nd]at q;cases q).trans (o.s a b q),o.nd,o.b⟩
theorem WS.le(o:WS h0 x d hs i (a::r) h):a.v.length<=800000:=o.b a (aav (by rw[o.e];exact .head _))
section
variable{g:Gl}{K:Frag}{n:Nat}{h h0:AH}{x d:Addr}{hs r:List Hd}{i size:Nat}{E F:PT}{key:List UInt8}{Q:V->St->Prop}{X:AH->Prop}{loc:List (Option V)}
theorem xO(k:Kn g K)(p:2<=n)(o:WS h0 x d hs i r h)(b:Ev E (bz X) ⟨loc,h⟩ (.ref x))(u:key.length<=1000)(c:cH key r=none->X h0)(f:∀v q y,cH key r=some (v,q)->v.length<=800000->WS h0 x d hs (i+1) q y->(∀z,z≠d->y z=h z)->Q (.bytes v) ⟨loc,y⟩):av g n fe E (aa (af (.bytes key)) ag) Q (bz X) ⟨loc,h⟩:=by
 refine pI b o.w.hx o.w.hd rfl Iq (PA k p u o.w (λe=>eC o.s (c ?_)) λa q j m=>?_)
 ·rw[o.e]at e
  cases r with
  |nil=>rfl
  |cons a r=>show(bif a.k==key then _ else _)=_;rw[show(a.k==key)=false from e];rfl
 ·rw[o.e]at j
  subst j
  exact f _ q _ (by show(bif a.k==key then _ else _)=_;rw[m,beq_self_eq_true];rfl) o.le o.next λz n=>aE n
theorem tc(k:Kn g K)(b:3<=n)(o:WS h0 x d hs i r h)(B:Ev E (bz X) ⟨loc,h⟩ (.ref x))(f:∀q,Ev F (bz X) ⟨loc,q⟩ (.int size))(w:key.length<=1000)(y:bV size key r=none->X h0)(p:∀v j q,bV size key r=some (v,j)->WS h0 x d hs (i+1) j q->(∀z,z≠d->q z=h z)->Q (.bytes v) ⟨loc,q⟩):ak g n (.ref 285) (aa (av g n fe E (aa (af (.bytes key)) ag)) (aa F ag)) Q (bz X) ⟨loc,h⟩:=by
 unfold bV at y p
 refine xO k (X9 b) o B w (λe=>y (by rw[e];rfl)) λv j q e D o' fr=>?_
 rw[e]at y p
 have c:cU g n 285 [.bytes v,.int size] _:=FH k b D
 refine f q _ (c ?_)
 generalize m:bR size v=a;cases a with
 |none=>exact eC o'.s (y (by show(bR size v).map _=none;rw[m];rfl))
 |some u=>exact p u j q (by show(bR size v).map _=_;rw[m];rfl) o' fr
theorem pK(k:Kn g K)(m:3<=n)(o:WS h0 x d hs i r h)(B:Ev E (bz X) ⟨loc,h⟩ (.ref x))(f:key.length<=1000)(y:bC key r=none->X h0)(b:∀p j q,bC key r=some (p,j)->WS h0 x d hs (i+1) j q->(∀z,z≠d->q z=h z)->Q p.v ⟨loc,q⟩):ak g n (.ref 152) (aa (av g n fe E (aa (af (.bytes key)) ag)) ag) Q (bz X) ⟨loc,h⟩:=by
 unfold bC at y b
 refine xO k (X9 m) o B f (λe=>y (by rw[e];rfl)) λv j q e D o' fr=>?_
 rw[e]at y b
 have c:cU g n 152 [.bytes v] _:=uJ k m (V4 D dD)
 refine c ?_
 generalize w:aY v=a;cases a with
 |none=>exact eC o'.s (y (by show(aY v).map _=none;rw[w];rfl))
 |some u=>exact b u j q (by show(aY v).map _=_;rw[w];rfl) o' fr
end
theorem BS:∀(f:Nat) (s:List UInt8) (acc:List Hd) (m:Nat) (H:Gf),b5 f s acc=some H->(∀a∈acc,a.v.length<=m)->∀a∈H.l,a.v.length<=m+s.length:=by
 intro w1
 induction w1 with
 |zero=>
  intros;contradiction
 |succ f ih=>
  intro s acc m H e ha
  generalize e1:bh 10 s=zz;cases zz with
  |none=>rw[nz e1]at e;cases e
  |some p=>
   generalize z:Yr p 0=zz;cases zz with
   |true=>
    rw[tb e1 z]at e
    obtain rfl:=WR e
    exact λa h=>V4 (ha a h) (Wq _ _)
   |false=>
    rw[nA e1 z]at e
    generalize e2:c4 (s.take p) acc=zz;cases zz with
    |none=>rw[e2]at e;cases e
    |some acc'=>
     rw[e2]at e
     have lp:=rC e1
     refine λa h=>V4 (ih _ acc' _ H e (ta e2 ha).v a h) ?_
     rw[Xi,WV,ZZ (Xo lp),WJ m 1 p,W4 1 p,WJ m,acv lp]
     exact Wh _
noncomputable def dF:List UInt8:=[116,114,101,101]
noncomputable def dU:List UInt8:=[112,97,114,101,110,116]
noncomputable def zQ:List UInt8:=[97,117,116,104,111,114]
noncomputable def uK:List UInt8:=[99,111,109,109,105,116,116,101,114]
noncomputable def fL(size:Nat):List Hd->Option (List (List UInt8)×List Hd)
 | []=>some ([],[])
 |a::r=>bif a.k==dU then(bR size a.v).bind λo=>(fL size r).map λx=>(o::x.1,x.2)else some ([],a::r)
noncomputable def iN(k:List UInt8):Bool:=(dF==k)||((dU==k)||((zQ==k)||((uK==k)||false)))
noncomputable def Ks(tree:List UInt8)(par:List (List UInt8))(msg:List UInt8)(au co:eH)(l:List Hd):Option dT:=bif l.any λy=>iN y.k then none else some ⟨tree,par,au,co,l,msg⟩
noncomputable def vr(tree:List UInt8)(msg:List UInt8)(p:List (List UInt8)×List Hd):Option dT:=(bC zQ p.2).bind λa=>(bC uK a.2).bind λc=>Ks tree p.1 msg a.1 c.1 c.2
noncomputable def gh(size:Nat)(b:List UInt8):Option dT:=(cV b).bind λH=>(bV size dF H.l).bind λt=>(fL size t.2).bind λp=>vr t.1 H.m p
section
variable{g:Gl}{K:Frag}{n:Nat}{h h0:AH}{x d c:Addr}{hs r:List Hd}{i size:Nat}{Q:V->AH->Prop}{X:AH->Prop}{v0 v1 v2 v3 v9 v10:Option V}{tree msg:List UInt8}{par:List (List UInt8)}{au co:eH}
structure PL(h0:AH)(c x d:Addr)(par:List (List UInt8))(h:AH):Prop where
 at_:h c=some (.list (par.map .bytes))
 n:h0 c=none
 d:c≠d
theorem IT:∀r:List Hd,vO c us (r.map Hd.t)=r.map Hd.t:=by
 intro q
 induction q with
 |nil=>
  exact rfl
 |cons a r y=>
  exact congrArg (a.t::·) (y)
theorem PF(kn:Kn g K)(o:WS h0 x d hs i r h)(p:PL h0 c x d par h)(q:cy ((Ks tree par msg au co r).map dT.v) Q X h0):iL g 3 (dC Q) (bz X) ⟨[v0,v1,v2,some (.bytes msg),some (.ref x),some (.bytes tree),some (.ref c),some au.v,some co.v,v9,v10],h⟩:=by
 unfold Ks at q
 have j:∀v9 v10,Ev (av g 3 oH (ae 4) ag) (bz X) ⟨[v0,v1,v2,some (.bytes msg),some (.ref x),some (.bytes tree),some (.ref c),some au.v,some co.v,v9,v10],h⟩ (.lst (r.map Hd.t)):=λv9 v10 Q k=>pI Iq o.w.hx o.w.hd rfl Iq (IP kn dD o.w (by rw[o.e];exact k))
 refine IS (a:=λy:Hd=>.bytes y.k) (b:=λy:Hd=>.bytes y.v) (l:=r) (λs:Option V×Option V=>⟨[v0,v1,v2,some (.bytes msg),some (.ref x),some (.bytes tree),some (.ref c),some au.v,some co.v,s.1,s.2],h⟩) (λl _=>cy ((bif l.any λy=>iN y.k then none else some (dT.mk tree par au co r msg)).map dT.v) Q X h0) (v9,v10) (λ_ k=>j v9 v10 _ k) q (λs q=>?_) λy l s q u k m=>?_
 ·refine a5 (aG (ar Iq (ar Iq (ar Iq (ar Iq (ar (j _ _) λ_ k=>k))))) (zL kn dD)) (.fr c _ p.at_ ?_)
  show Fin Q (.inst 365 [.bytes tree,if c=c then .lst (par.map .bytes)else .ref c,au.v,co.v,.lst (vO c (par.map .bytes) (r.map Hd.t)),.bytes msg]) _
  rw[if_pos rfl,IT]
  exact .mk (λa b e=>(aE λz=>by rw[z,p.n]at e;cases e).trans (o.s a b e)) q
 ·rw[YT]at q
  refine bP (b:=iN y.k) Iq (λ_ _ k=>k) (λe=>?_) λe=>?_
  ·rw[e]at q;exact eC o.s q
  ·rw[e]at q;exact k (_,_) q
theorem PG(e:gC r dU=false):fL size r=some ([],r):=by
 cases r with
 |nil=>rfl
 |cons a r=>show(bif a.k==dU then _ else _)=_;rw[show(a.k==dU)=false from e];rfl
theorem NS{E R:PT}{Q:V->St->Prop}{X:St->Prop}{loc:List (Option V)}{j m:Nat}{vs:List V}(p:(loc[j]?).join=some (.ref c))(e:h c=some (.list vs))(z:E (λv q=>dR (q.h c) λo=>oc o (fl:=λvs=>vs.length<1000000∧R Q X ⟨q.loc,upd q.h c (some (.list (vs++[v])))⟩)) X ⟨loc,h⟩):ah (fX (av g m aK (ae j) (aa E ag))) R Q X ⟨loc,h⟩:=
 az p (Dk (k:=λe=>aa E ag (λvs y=>iE vs λvs=>e.2 (.ref c::vs) y.h λu h=>R Q X ⟨y.loc,h⟩) X ⟨loc,h⟩) e z)
theorem qe{E R:PT}{Q:V->St->Prop}{X:St->Prop}{st:St}{j:Nat}(y:E (λv q=>R Q X ⟨q.loc.set j (some v),q.h⟩) X st):ah (aD (aj j) E) R Q X st:=y
theorem DA{is:List Nat}{E j R:PT}{Q:V->St->Prop}{X:St->Prop}{st:St}(z:E (λv y=>j (λvs q=>iE vs λvs=>(v::vs).length<=1000000∧is.length=(v::vs).length∧R Q X ⟨vP q.loc is (v::vs).reverse,q.h⟩) X y) X st):ah (bZ is (aa E j)) R Q X st:=z
theorem IU(e:(a.k==dU)=true):fL size (a::r)=(bR size a.v).bind λo=>(fL size r).map λx=>(o::x.1,x.2):=by
 show(bif a.k==dU then _ else _)=_;rw[e];rfl
theorem L3(e:gC r dU=true):fL size r=(bV size dU r).bind λo=>(fL size o.2).map λx=>(o.1::x.1,x.2):=by
 cases r with
 |nil=>cases e
 |cons a r=>
  have e:(a.k==dU)=true:=e
  rw[IU e]
  show _=(Option.bind (bif a.k==dU then some (a.v,r)else none) _).bind _
  rw[e]
  show _=((bR size a.v).map λo=>(o,r)).bind _
  cases bR size a.v <;> rfl
theorem td(e:bV size key r=some (v,q)):r.length=q.length+1:=by
 cases r with
 |nil=>cases e
 |cons a r=>
  unfold bV at e
  have e:(Option.bind (bif a.k==key then some (a.v,r)else none) λp=>(bR size p.1).map λo=>(o,p.2))=some (v,q):=e
  generalize t:(a.k==key)=y;cases y <;> rw[t]at e
  ·cases e
  ·have e:((bR size a.v).map λo=>(o,r))=some (v,q):=e
   generalize u:bR size a.v=y;cases y <;> rw[u]at e <;> cases e
   rfl
theorem WS.put(w:WS h0 x d hs i r h)(p:h0 c=none)(y:c≠d)(nx:c≠x):WS h0 x d hs i r (upd h c (some o)):=⟨⟨(aE (XW nx)).trans w.w.hx,(aE (XW y)).trans w.w.hd,w.w.ne⟩,w.e,λa b q=>(aE λz=>by rw[z,p]at q;cases q).trans (w.s a b q),w.nd,w.b⟩
structure PS(h0:AH)(x d c:Addr)(hs:List Hd)(size:Nat)(F:List (List UInt8)×List Hd->Prop)(X:AH->Prop)(m:Nat)(par:List (List UInt8))(i:Nat)(r:List Hd)(h:AH):Prop where
 o:WS h0 x d hs i r h
 p:PL h0 c x d par h
 n:r.length<=m
 l:par.length+r.length<=hs.length
 q:WY (motive:=λ_=>Prop) (fL size r) (X h0) λy=>F (par++y.1,y.2)
theorem PH(kn:Kn g K)(nx:c≠x)(a:hs.length<900000)(par:List (List UInt8))(i:Nat)(r:List Hd)(h:AH)(s:PS h0 x d c hs size (λy=>cy ((vr tree msg y).map dT.v) Q X h0) X hs.length par i r h):iM g 3 (dC Q) (bz X) ⟨[v0,some (.int size),v2,some (.bytes msg),some (.ref x),some (.bytes tree),some (.ref c),none,none,v9,v10],h⟩:=by
 refine s7 (λs:List (List UInt8)×Nat×List Hd×AH=>⟨[v0,some (.int size),v2,some (.bytes msg),some (.ref x),some (.bytes tree),some (.ref c),none,none,v9,v10],s.2.2.2⟩) (λm s=>PS h0 x d c hs size (λy=>cy ((vr tree msg y).map dT.v) Q X h0) X m s.1 s.2.1 s.2.2.1 s.2.2.2) (λs=>gC s.2.2.1 dU) (λm s i=>cX λQ k=>pI Iq i.o.w.hx i.o.w.hd rfl Iq (pJ kn dD i.o.w (by rw[i.o.e];exact k))) (λs i=>?_) (λm s i e=>?_) (λm s i e J k D=>?_) hs.length (par,i,r,h) s
 ·rw[W7 (YS i.n)];rfl
 ·have q:=i.q
  rw[PG e]at q
  have q:cy ((vr tree msg (s.1++[],s.2.2.1)).map dT.v) Q X h0:=q
  rw[WH]at q
  unfold vr at q
  refine qe (pK kn (Wh _) i.o Iq dD (λe=>?_) λau r1 h1 e o1 f=>?_)
  ·rw[show bC zQ s.2.2.1=none from e]at q;exact q
  rw[show bC zQ s.2.2.1=_ from e]at q
  refine qe (pK kn (Wh _) o1 Iq dD (λe=>?_) λco r2 L e o2 B=>?_)
  ·have q:cy (((bC uK r1).bind λc=>Ks tree s.1 msg au c.1 c.2).map dT.v) Q X h0:=q
   rw[show bC uK r1=none from e]at q;exact q
  ·have q:cy (((bC uK r1).bind λc=>Ks tree s.1 msg au c.1 c.2).map dT.v) Q X h0:=q
   rw[show bC uK r1=_ from e]at q
   exact PF kn o2 ⟨(B c i.p.d).trans ((f c i.p.d).trans i.p.at_),i.p.n,i.p.d⟩ q
 ·have q:=i.q
  rw[L3 e]at q
  refine NS rfl i.p.at_ (tc kn (Wh _) i.o Iq (λ_ _ k=>k) dD (λe=>?_) λv j u e o' fr=>?_)
  ·rw[show bV size dU s.2.2.1=none from e]at q;exact q
  ·rw[show bV size dU s.2.2.1=_ from e]at q
   have b:=td e
   have z:u c=some (.list (s.1.map .bytes)):=(fr c i.p.d).trans i.p.at_
   refine az z (V8 ?_ ?_)
   ·rw[Wd];exact Wp (V4 (Wq _ _) i.l) (Xz a dD)
   refine k (s.1++[v],s.2.1+1,j,upd u c (some (O.list (s.1.map V.bytes++[V.bytes v])))) ⟨o'.put i.p.n i.p.d nx,⟨?_,i.p.n,i.p.d⟩,?_,?_,?_⟩
   ·rw[WE];exact aB _ _ _
   ·exact X7 (V4 (Xp b.symm) i.n)
   ·show(s.1++[v]).length+j.length<=hs.length;rw[V6,WJ];show s.1.length+(1+j.length)<=_;rw[W4 1,←b];exact i.l
   ·revert q
    show(WY (motive:=λ_=>Prop) ((fL size j).map λx=>(v::x.1,x.2)) _ _)->_
    cases fL size j with
    |none=>exact λq=>q
    |some y=>exact λq=>by show cy ((vr tree msg (s.1++[v]++y.1,y.2)).map dT.v) Q X h0;rw[Wn];exact q
theorem BU{E R:PT}{Q:V->St->Prop}{X:St->Prop}{loc:List (Option V)}{i j:Nat}{a b:V}(q:Ev E X ⟨loc,h⟩ (.tup [a,b]))(k:R Q X ⟨(loc.set i (some a)).set j (some b),h⟩):ah (aD (cL 2 [aj i,aj j]) E) R Q X ⟨loc,h⟩:=q _ (V8 rfl k)
theorem vt(e:cV b=some H):∀a∈H.l,a.v.length<=b.length:=by
 unfold cV at e
 generalize t:decide (Tactic.a8 b [0] 0≥0)=q;cases q <;> rw[t]at e
 ·have:=BS _ b [] 0 H e an
  rwa [Xn]at this
 ·cases e
theorem BV:∀(f:Nat) (s:List UInt8) (acc:List Hd) (H:Gf),b5 f s acc=some H->H.l.length<=acc.length+f:=by
 intro w1
 induction w1 with
 |zero=>
  intros;contradiction
 |succ f ih=>
  intro s acc H e
  generalize e1:bh 10 s=zz;cases zz with
  |none=>rw[nz e1]at e;cases e
  |some p=>
   generalize z:Yr p 0=zz;cases zz with
   |true=>rw[tb e1 z]at e;obtain rfl:=WR e;exact Wq _ _
   |false=>
    rw[nA e1 z]at e
    generalize e2:c4 (s.take p) acc=zz;cases zz with
    |none=>rw[e2]at e;cases e
    |some acc'=>
     rw[e2]at e
     refine V4 (ih _ acc' H e) ?_
     rw[W4 f,←WJ]
     have:∃m,∀a∈acc,a.v.length<=m:=⟨acc.foldr (λa m=>a.v.length+m) 0,λa ha=>by
      clear e e2
      induction acc with
      |nil=>cases ha
      |cons b l ih=>
       cases ha with
       |head=>exact Wq _ _
       |tail _ ha=>exact V4 (ih ha) (XU _ _)⟩
     exact this.elim λm hm=>Wv (ta e2 hm).n f
theorem FI(e:cV b=some H):H.l.length<=b.length+1:=by
 unfold cV at e
 generalize t:decide (Tactic.a8 b [0] 0≥0)=q;cases q <;> rw[t]at e
 ·have:=BV _ b [] H e
  rwa [X6,Xn]at this
 ·cases e
theorem DC(kn:Kn g K)(j:2<=n)(hb:∀a∈hs,a.v.length<=800000)(q:∀x d y,WS h x d hs 0 hs y->Q (.ref x) y):bW g n (.ref 330) [.lst (hs.map Hd.t)] Q X h:=
 PC kn j λx d y hx hd w fr=>q x d y ⟨w,rfl,λa b e=>(fr a (λz=>by rw[z,hx]at e;cases e) λz=>by rw[z,hd]at e;cases e).trans e,hd,hb⟩
theorem WS.fresh(o:WS h0 x d hs i r h)(e:h c=none):h0 c=none∧c≠d∧c≠x:=
 ⟨(acu.mpr λb z=>by rw[o.s c b z]at e;cases e),(λz=>by rw[z,o.w.hd]at e;cases e),(λz=>by rw[z,o.w.hx]at e;cases e)⟩
theorem uL(kn:Kn g K)(J:4<=n){b:List UInt8}(hb:b.length<=800000):cU g n 376 [.bytes b,.int size] ((gh size b).map dT.v):=λ{Q X h} q=>by
 refine((aH (n:=3) (kn.H 3) kn.read_commit rfl ?_).call).up J
 have z:cU g 3 292 [.bytes b] _:=Dz kn dD (V4 hb dD)
 unfold gh at q
 generalize e:cV b=u;cases u with
 |none=>rw[e]at q z;exact Dl λU=>xC Iq z (fH q)
 |some H=>
  rw[e]at q z
  have q:cy (((bV size dF H.l).bind λt=>(fL size t.2).bind λp=>vr t.1 H.m p).map dT.v) Q X h:=q
  refine BU (aG Iq z) (qe (DC kn dD (λa ha=>V4 (vt e a ha) hb) λx d L o=>?_))
  refine DA (tc kn (Wh _) o Iq (λ_ _ k=>k) dD (λe=>?_) λt w R B o' S=>?_)
  ·rw[show bV size dF H.l=_ from e]at q;exact q
  ·rw[show bV size dF H.l=_ from B]at q
   have D:=td B
   refine V8 (Wy _) λc hc=>V8 (V5 rfl) (V8 rfl ?_)
   have j:=o'.fresh hc
   refine PH kn j.2.2 (Wp (FI e) (Wp (Wm hb) dD)) [] 1 w _ ⟨o'.put j.1 j.2.1 j.2.2,⟨aB _ _ _,j.1,j.2.1⟩,?_,?_,?_⟩
   ·rw[D];exact Xq _
   ·rw[D,X6,Xn];exact Xq _
   ·have q:cy (((fL size w).bind λp=>vr t H.m p).map dT.v) Q X h:=q
    generalize f:fL size w=u;cases u with
    |none=>rw[f]at q;exact q
    |some y=>rw[f]at q;exact q
end
noncomputable def PJ:List (List UInt8):=[[45,45,45,45,45,66,69,71,73,78,32,80,71,80,32,83,73,71,78,65,84,85,82,69,45,45,45,45,45],[45,45,45,45,45,66,69,71,73,78,32,80,71,80,32,77,69,83,83,65,71,69,45,45,45,45,45],[45,45,45,45,45,66,69,71,73,78,32,83,73,71,78,69,68,32,77,69,83,83,65,71,69,45,45,45,45,45],[45,45,45,45,45,66,69,71,73,78,32,83,83,72,32,83,73,71,78,65,84,85,82,69,45,45,45,45,45]]
noncomputable def jE(b:List UInt8)(a:Nat):Nat:=WY (motive:=λ_=>Nat) (bh 10 (b.drop a)) b.length λp=>a+p+1
noncomputable def zR(b:List UInt8):Nat->Nat->Nat->Nat
 |0,_,d=>d
 |f+1,a,d=>bif decide ((a:Int)<b.length)then zR b f (jE b a) (bif PJ.any λo=>cQ b o a then a else d)else d
noncomputable def nB(b:List UInt8):Nat:=zR b b.length 0 b.length
theorem PK{b:List UInt8}{f a d:Nat}(e:decide ((a:Int)<b.length)=true):zR b (f+1) a d=zR b f (jE b a) (bif PJ.any λo=>cQ b o a then a else d):=by
 show(bif _ then _ else _)=_;rw[e];rfl
theorem PM{b:List UInt8}{f a found:Nat}(e:decide ((a:Int)<b.length)=false):zR b f a found=found:=by
 cases f with
 |zero=>rfl
 |succ f=>show(bif _ then _ else _)=_;rw[e];rfl
section
variable{g:Gl}{K:Frag}{n:Nat}{h h0:AH}
theorem IV(kn:Kn g K)(y:1<=n):cU g n 383 [.bytes b] (some (.int (nB b))):=λ{Q X h} q=>by
 refine((aH (n:=0) (kn.H 0) kn.object_signature_at rfl ?_).call).up y
 refine jA Iq ⟨V5 rfl,rfl⟩ ?_
 refine s7 (λs:(Nat×Nat)×Option V×Option V=>⟨[some (.bytes b),some (.int s.1.2),some (.int s.1.1),s.2.1,s.2.2],h⟩) (λf s=>b.length-s.1.1<=f∧Q (.int (zR b f s.1.1 s.1.2)) h) (λs=>decide ((s.1.1:Int)<b.length)) (λm s i _ k=>k) (λs i=>decide_eq_false (YX.mpr (XS.mpr (Nat.le_of_sub_eq_zero (YS i.1))))) (λm s i e=>?_) (λf s i e c k z=>?_) b.length ((0,b.length),none,none) ⟨Wh _,q⟩
 ·have q:=i.2;rw[PM e]at q;exact a5 Iq (bc q)
 ·have q:=i.2
  rw[PK e]at q
  refine d9 (e:=V.bytes) (l:=PJ) (λt:Nat×Option V=>⟨[some (.bytes b),some (.int t.1),some (.int s.1.1),t.2,s.2.2],h⟩) (λl t=>Q (.int (zR b f (jE b s.1.1) (bif l.any λo=>cQ b o s.1.1 then s.1.1 else t.1))) h) (s.1.2,s.2.1) Iq q (λt q=>?_) λo l t q u d j=>?_
  ·refine aZ (bq (kE Iq rfl Iq λ_ k=>V8 ⟨Ww _,rfl⟩ k) (congrArg V.int (sZ b 10 s.1.1))) ?_
   refine aZ (v:=.int (jE b s.1.1)) ?_ (k ((jE b s.1.1,t.1),_,_) ⟨?_,q⟩)
   ·unfold jE
    cases bh 10 (b.drop s.1.1)with
    |none=>exact kD (b:=true) Iq (λ_ _ k=>k) tf
    |some p=>exact kD (b:=false) (bq Iq (congrArg V.bool nv)) ff λ_ _ k=>k
   ·unfold jE
    cases bh 10 (b.drop s.1.1)with
    |none=>exact V4 (Xp (abO _)) (Wy _)
    |some p=>exact Zz (WA (aaK (Xl.mp (of_decide_eq_true e)) (abd (Wq _ p))) i.1)
  ·rw[YT]at q
   refine Fw (b:=cQ b o s.1.1) (cX (λ_ k=>V8 (Ww _) k)) (λe=>?_) λe=>?_
   ·rw[e]at q
    refine aZ Iq (d (_,_) ?_)
    show Q (.int (zR b f (jE b s.1.1) (bif l.any λo=>cQ b o s.1.1 then s.1.1 else s.1.1))) h
    rw[Bool.cond_self];exact q
   ·rw[e]at q;exact d (t.1,some (.bytes o)) q
end
structure Tg where
 goal:List UInt8
 kind:List UInt8
 name:List UInt8
 by_:Option eH
 msg:List UInt8
 sig:List UInt8
noncomputable def uM(o:Option eH):V:=WY (motive:=λ_=>V) o .none eH.v
noncomputable def Tg.v(t:Tg):V:=.inst 415 [.bytes t.goal,.bytes t.kind,.bytes t.name,uM t.by_,.bytes t.msg,.bytes t.sig]
noncomputable def UG(o:Option eH):List (List UInt8):=WY (motive:=λ_=>List (List UInt8)) o [] λp=>[BQ [116,97,103,103,101,114,32] p.oct]
noncomputable def Tg.parts(t:Tg):List (List UInt8):=zP [111,98,106,101,99,116,32] t.goal::BQ [116,121,112,101,32] t.kind::BQ [116,97,103,32] t.name::(UG t.by_++[[10]++t.msg])
noncomputable def Tg.oct(t:Tg):List UInt8:=t.parts.flatten++t.sig
theorem zS(o:Option eH):ji (uM o):=by cases o <;> exact trivial
section
variable{g:Gl}{K:Frag}{n:Nat}{h h0:AH}
theorem IW(k:Kn g K)(o:3<=n){x:Tg}(hb:∀p,x.by_=some p->p.OK)(f:x.goal.length<=1000)(d:x.parts.flatten.length<=100000):cU g n 405 [x.v] (some (.bytes x.parts.flatten)):=λ{Q X h} q=>by
 refine((aH (n:=2) (k.H 2) k.Tag_signed_part rfl ?_).call).up o
 have j:x.parts.length<=1000:=by
  unfold Tg.parts UG
  cases x.by_ <;> exact V5 rfl
 refine vm (ar (BR k dD (λ_ k=>⟨trivial,k⟩) f (V4 (nk (.head _)) d)) λ_ k=>k) (V5 rfl) λc hc=>?_
 have i:CO h c x.parts [zP [111,98,106,101,99,116,32] x.goal] _ _:=⟨n7.new,rfl⟩
 refine eF (bl (bl (y:=x.kind) Iq (λ_ k=>⟨trivial,k⟩) (bt (cB (i.le d)) dD)) Iq (bt (i.le d) dD)) rfl i.w.at_ (i.len j) ?_
 have i:=i.app
 refine eF (bl (bl (y:=x.name) Iq (λ_ k=>⟨trivial,k⟩) (bt (cB (i.le d)) dD)) Iq (bt (i.le d) dD)) rfl i.w.at_ (i.len j) ?_
 have i:=i.app
 have z:∀{acc h'} ,CO h c x.parts acc [[10]++x.msg] h'->fq g 2 (dC Q) (bz X) ⟨[some x.v,some (.ref c)],h'⟩:=λ{acc h'} i=>by
  refine eF (bl Iq (λ_ k=>⟨trivial,k⟩) (bt (i.le d) dD)) rfl i.w.at_ (i.len j) ?_
  have e:acc++[[10]++x.msg]=x.parts:=i.e
  have i:=i.app
  refine a5 (kE Iq rfl (ar Iq λ_ k=>k) λ_ k=>Ir i.w.at_ (az (dO (λx=>x) _) (V8 ?_ k))) (.mk (i.w.sub hc) ?_)
  ·rw[YQ,fP,e];exact V4 d dD
  ·rw[YQ,fP,e];exact q
 have u:∀{h'},Ev (aS (ae 0) cW) (bz X) ⟨[some x.v,some (.ref c)],h'⟩ (uM x.by_):=λ{h'} _ k=>V8 (zS _) k
 generalize e:x.by_=m;cases m with
 |none=>
  rw[e]at i u
  exact je (bJ u Iq λ_ k=>⟨trivial,k⟩) rfl (z i)
 |some p=>
  rw[e]at i u
  refine Fw (b:=true) (bJ u Iq λ_ k=>⟨trivial,k⟩) (λ_=>?_) tf
  exact eF (bl (bl (y:=p.oct) Iq (l0 u rfl Iq (iu k (Wh _) (hb p e))) (bt (cB (i.le d)) dD)) Iq (bt (i.le d) dD)) rfl i.w.at_ (i.len j) (z i.app)
theorem xP(k:Kn g K)(y:4<=n){x:Tg}(hb:∀p,x.by_=some p->p.OK)(j:x.goal.length<=1000)(d:x.oct.length<=100000):cU g n 412 [x.v] (some (.bytes x.oct)):=λ{Q X h} q=>by
 refine((aH (n:=3) (k.H 3) k.Tag_octets rfl ?_).call).up y
 exact a5 (bl (l0 Iq rfl Iq (IW k (Wh _) hb j (cB d))) (λ_ k=>⟨trivial,k⟩) (bt d dD)) (bc q)
end
noncomputable def pL:List UInt8:=[111,98,106,101,99,116]
noncomputable def g9:List UInt8:=[116,121,112,101]
noncomputable def ef:List UInt8:=[116,97,103]
noncomputable def xQ:List UInt8:=[116,97,103,103,101,114]
noncomputable def eh(k:List UInt8):Bool:=([98,108,111,98]==k)||(([116,114,101,101]==k)||(([99,111,109,109,105,116]==k)||(([116,97,103]==k)||false)))
noncomputable def nE(m:List UInt8):Bool:=(m==[])||decide (a8 m [10] 0≥0)
noncomputable def NT(goal kind name msg:List UInt8)(p:Option eH)(l:List Hd):Option Tg:=bif decide ((l.length:Int)>0)then none else some ⟨goal,kind,name,p,msg.take (nB msg),msg.drop (nB msg)⟩
noncomputable def gD(l:List Hd):Option (Option eH×List Hd):=bif gC l xQ then(bC xQ l).map λp=>(some p.1,p.2)else some (none,l)
noncomputable def DD(goal kind name msg:List UInt8)(l:List Hd):Option Tg:=bif !eh kind then none else bif nE name then none else(gD l).bind λp=>NT goal kind name msg p.1 p.2
noncomputable def nF(size:Nat)(b:List UInt8):Option Tg:=(cV b).bind λH=>(bV size pL H.l).bind λt=>(cH g9 t.2).bind λk=>(cH ef k.2).bind λm=>DD t.1 k.1 m.1 H.m m.2
section
variable{g:Gl}{K:Frag}{n:Nat}{h h0:AH}{x d c:Addr}{hs r:List Hd}{i size:Nat}{Q:V->AH->Prop}{X:AH->Prop}{v0 v1 v2 v3 v8 v9:Option V}{goal kind name msg:List UInt8}
theorem IX{E es:PT}{Q:V->St->Prop}{X:St->Prop}{st:St}(h:E (λv st1=>es (λvs st2=>iE vs λvs=>Q (.lst (v::vs)) st2) X st1) X st):aa E es Q X st:=h
theorem IY(kn:Kn g K)(o:WS h0 x d hs i r h)(q:cy ((NT goal kind name msg p r).map Tg.v) Q X h0):mV g 3 (dC Q) (bz X) ⟨[v0,v1,v2,some (.bytes msg),some (.ref x),some (.bytes goal),some (.bytes kind),some (.bytes name),some (uM p),v9],h⟩:=by
 have er:Ev (av g 3 oH (ae 4) ag) (bz X) ⟨[v0,v1,v2,some (.bytes msg),some (.ref x),some (.bytes goal),some (.bytes kind),some (.bytes name),some (uM p),v9],h⟩ (.lst (r.map Hd.t)):=λQ k=>pI Iq o.w.hx o.w.hd rfl Iq (IP kn dD o.w (by rw[o.e];exact k))
 unfold NT at q
 refine bP (b:=decide (((r.map Hd.t).length:Int)>0)) (bJ (lZ er λ_ k=>k) Iq λ_ k=>k) (λ_ _ k=>k) (λe=>?_) λe=>?_
 ·rw[Wd]at e;rw[e]at q;exact eC o.s q
 ·rw[Wd]at e;rw[e]at q
  refine aZ (aG Iq (IV kn dD)) ?_
  exact a5 (aG (ar Iq (ar Iq (ar Iq (ar Iq (ar (bq Iq (congrArg V.bytes eN)) (ar (bq Iq (congrArg V.bytes dg)) λ_ k=>k)))))) (Pq kn dD)) (.mk o.s q)
theorem PO(kn:Kn g K)(o:WS h0 x d hs i r h)(q:cy ((DD goal kind name msg r).map Tg.v) Q X h0):mW g 3 (dC Q) (bz X) ⟨[v0,v1,v2,some (.bytes msg),some (.ref x),some (.bytes goal),some (.bytes kind),some (.bytes name),v8,v9],h⟩:=by
 unfold DD at q
 refine bP (b:=!eh kind) Iq (λ_ _ k=>k) (λe=>?_) λe=>?_
 ·rw[e]at q;exact eC o.s q
 rw[e]at q
 refine bP (b:=nE name) (cg Iq λ_=>fA Iq) (λ_ _ k=>k) (λe=>?_) λe=>?_
 ·rw[e]at q;exact eC o.s q
 rw[e]at q
 have q:cy (((gD r).bind λp=>NT goal kind name msg p.1 p.2).map Tg.v) Q X h0:=q
 have en:Ev (cu (av g 3 fO (ae 4) (aa (af (.bytes xQ)) ag))) (bz X) ⟨[v0,v1,v2,some (.bytes msg),some (.ref x),some (.bytes goal),some (.bytes kind),some (.bytes name),v8,v9],h⟩ (.bool (gC r xQ)):=cX λQ k=>pI Iq o.w.hx o.w.hd rfl Iq (pJ kn dD o.w (by rw[o.e];exact k))
 unfold gD at q
 refine qe (en _ (Kr (λe=>?_) λe=>?_))
 ·rw[e]at q
  refine pK kn (Wh _) o Iq dD (λe=>?_) λp r' h' e o' f=>?_
  ·have q:cy ((((bC xQ r).map λp=>(some p.1,p.2)).bind λp=>NT goal kind name msg p.1 p.2).map Tg.v) Q X h0:=q
   rw[show bC xQ r=_ from e]at q;exact q
  ·have q:cy ((((bC xQ r).map λp=>(some p.1,p.2)).bind λp=>NT goal kind name msg p.1 p.2).map Tg.v) Q X h0:=q
   rw[show bC xQ r=_ from e]at q
   exact IY kn (p:=some p) o' q
 ·rw[e]at q
  exact IY kn (p:=none) o q
theorem BX(kn:Kn g K)(hn:4<=n){b:List UInt8}(hb:b.length<=800000):cU g n 426 [.bytes b,.int size] ((nF size b).map Tg.v):=λ{Q X h} q=>by
 have ch:cU g 3 292 [.bytes b] _:=Dz kn dD (V4 hb dD)
 refine((aH (n:=3) (kn.H 3) kn.read_tag rfl ?_).call).up hn
 unfold nF at q
 generalize e:cV b=zz;cases zz with
 |none=>rw[e]at q ch;exact Dl λQe=>xC Iq ch (fH q)
 |some H=>
  rw[e]at q ch
  refine BU (aG Iq ch) (qe (DC kn dD (λa ha=>V4 (vt e a ha) hb) λx d h' o=>?_))
  have q:cy (((bV size pL H.l).bind λt=>(cH g9 t.2).bind λk=>(cH ef k.2).bind λm=>DD t.1 k.1 m.1 H.m m.2).map Tg.v) Q X h:=q
  refine DA (tc kn (Wh _) o Iq (λ_ _ k=>k) dD (λe=>?_) λt r1 h1 e o1 f1=>?_)
  ·rw[show bV size pL H.l=_ from e]at q;exact q
  rw[show bV size pL H.l=_ from e]at q
  have q:cy (((cH g9 r1).bind λk=>(cH ef k.2).bind λm=>DD t k.1 m.1 H.m m.2).map Tg.v) Q X h:=q
  refine IX (xO kn dD o1 Iq dD (λe=>?_) λk r2 h2 e _ o2 f2=>?_)
  ·rw[show cH g9 r1=_ from e]at q;exact q
  rw[show cH g9 r1=_ from e]at q
  have q:cy (((cH ef r2).bind λm=>DD t k m.1 H.m m.2).map Tg.v) Q X h:=q
  refine IX (xO kn dD o2 Iq dD (λe=>?_) λm r3 h3 e _ o3 f3=>?_)
  ·rw[show cH ef r2=_ from e]at q;exact q
  ·rw[show cH ef r2=_ from e]at q
   exact V8 (V5 rfl) (V8 rfl (PO kn o3 q))
end
noncomputable def gs(size:Nat)(kind b:List UInt8):Option V:=bif kind==dF then(eP bU size b).map dE else bif kind==[99,111,109,109,105,116]then(gh size b).map dT.v else bif kind==ef then(nF size b).map Tg.v else bif !(kind==[98,108,111,98])then none else some (.bytes b)
noncomputable def FJ(b:List UInt8)(e:Int)(kind:List UInt8)(d:Option Int):Option V:=bif !eh kind then none else d.elim none λw=>bif !(w==b.length-e-1)then none else some (.tup [.bytes kind,.bytes (bY b (some (e+1)) none)])
noncomputable def NU(b:List UInt8)(e k:Int):Option V:=bif decide (e<0)||(decide (k<0)||decide (k>e))then none else FJ b e (bY b none (some k)) (numOf (bY b (some (k+1)) (some e)))
noncomputable def cY(b:List UInt8):Option V:=NU b (a8 b [0] 0) (a8 b [32] 0)
section
variable{g:Gl}{K:Frag}{n:Nat}{h h0:AH}{size:Nat}{Q:V->AH->Prop}{X:AH->Prop}
theorem IZ{E r:PT}{st:St}(q:E (λv d=>Fin Q v d.h) (bz X) st):ah (aN E) r (dC Q) (bz X) st:=q
theorem xR{C A r:PT}{Q:V->St->Prop}{X:St->Prop}{st:St}{b:Bool}(hC:Ev C X st (.bool b))(h1:b=true->∀Q':V->St->Prop,(∀v st',Q (.tup [v]) st'->Q' (.tup [v]) st')->A Q' X st)(d:b=false->r Q X st):ah (bA C A ai) r Q X st:=hC _ (Kr (λe=>h1 e _ λ_ _ q=>q) d)
theorem kS(kn:Kn g K)(y:5<=n)(hb:b.length<=800000):cU g n 433 [.bytes kind,.bytes b,.int size] (gs size kind b):=λ{Q X h} q=>by
 refine((aH (n:=4) (kn.H 4) kn.read_object rfl ?_).call).up y
 have call:∀{a:Addr} {o:Option V} {Q':V->St->Prop} {r:PT},cU g 4 a [.bytes b,.int size] o->cy o Q X h->(∀v st',dC Q (.tup [v]) st'->Q' (.tup [v]) st')->ah (aN (ak g 4 (.ref a) (aa (ae 1) (aa (ae 2) ag)))) r Q' (bz X) ⟨[some (.bytes kind),some (.bytes b),some (.int size)],h⟩:=λ{a o Q' r} c q d=>by
  cases o with
  |none=>exact c (fH q)
  |some v=>exact c (d _ _ (bc q))
 unfold gs at q
 refine xR (b:=kind==dF) Iq (λe Q' d=>?_) λe=>?_
 ·rw[e]at q;exact call (zO kn dD (V4 hb dD)) q d
 rw[e]at q
 refine xR (b:=kind==[99,111,109,109,105,116]) Iq (λe Q' d=>?_) λe=>?_
 ·rw[e]at q;exact call (uL kn dD hb) q d
 rw[e]at q
 refine xR (b:=kind==ef) Iq (λe Q' d=>?_) λe=>?_
 ·rw[e]at q;exact call (BX kn dD hb) q d
 rw[e]at q
 refine bP (b:=!(kind==[98,108,111,98])) Iq (λ_ _ k=>k) (λe=>?_) λe=>?_
 ·rw[e]at q;exact fH q
 ·rw[e]at q;exact a5 Iq (bc q)
theorem DE{m:Nat}(h:m<=1000000):(m:Int).natAbs.log2<1920:=by
 rw[acK]
 by_cases z:m=0
 ·rw[z];decide
 ·exact Xz ((afb (k:=20) z).mpr (Wp h dD)) dD
theorem rh(kn:Kn g K)(i:2<=n){kind b:List UInt8}(d:(kind++[32]++bL b.length++[0]++b).length<=100000):cU g n 440 [.bytes kind,.bytes b] (some (.bytes (kind++[32]++bL b.length++[0]++b))):=λ{Q X h} q=>by
 have j:=cB d
 refine((aH (n:=1) (kn.H 1) kn.object_octets rfl ?_).call).up i
 have y:=cB j
 have ld:(kK b.length).length<=1000000:=by
  have:(bL b.length).length<=100000:=by
   have:=y
   rw[V6]at this
   exact V4 (XU _ _) this
  unfold bL Fx at this
  rw[Wd]at this
  exact V4 this dD
 exact a5 (bl (bl (bl (bl Iq Iq (bt (cB y) dD)) (aG (ar (lZ Iq λ_ k=>⟨DE (V4 (by rw[V6];exact XU _ _) (V4 d dD)),k⟩) λ_ k=>k) (jD kn (Wh _) ld (xD _))) (bt y dD)) Iq (bt j dD)) Iq (bt d dD)) (bc q)
theorem PQ(kn:Kn g K)(q:cy (FJ b e kind d) Q X h):g4 g 2 (dC Q) (bz X) ⟨[some (.bytes b),some (.int e),v2,some (.bytes kind),some (gA d)],h⟩:=by
 unfold FJ at q
 refine bP (b:=!eh kind) Iq (λ_ _ k=>k) (λy=>?_) λy=>?_
 ·rw[y]at q;exact fH q
 rw[y]at q
 cases d with
 |none=>exact d8 (cg (a:=true) (b:=false) (λ_ k=>⟨trivial,k⟩) tf) rfl Iq (fH q)
 |some w=>
  refine bP (b:=!(w==(b.length:Int)-e-1)) (cg (a:=false) (λ_ k=>⟨trivial,k⟩) λ_=>fA Iq) (λ_ _ k=>k) (λz=>?_) λz=>?_
  ·have q:cy (bif !(w==(b.length:Int)-e-1)then none else some _) Q X h:=q
   rw[z]at q;exact fH q
  ·have q:cy (bif !(w==(b.length:Int)-e-1)then none else some _) Q X h:=q
   rw[z]at q;exact a5 (λ_ k=>V8 (V5 rfl) k) (bc q)
theorem te(kn:Kn g K)(d:3<=n):cU g n 447 [.bytes b] (cY b):=λ{Q X h} q=>by
 refine((aH (n:=2) (kn.H 2) kn.split_object rfl ?_).call).up d
 unfold cY NU at q
 refine aZ Iq (aZ Iq (bP (cg Iq λ_=>cg Iq λ_=>fA Iq) (λ_ _ k=>k) (λe=>?_) λe=>?_))
 ·rw[show(decide (a8 b [0] 0<0)||(decide (a8 b [32] 0<0)||decide (a8 b [32] 0>a8 b [0] 0)))=true from e]at q;exact fH q
 ·rw[show(decide (a8 b [0] 0<0)||(decide (a8 b [32] 0<0)||decide (a8 b [32] 0>a8 b [0] 0)))=false from e]at q
  exact jA (ar Iq (ar (aG Iq (qa kn dD)) λ_ k=>k)) ⟨V5 rfl,rfl⟩ (PQ kn q)
end
section
variable{g:Gl}{K:Frag}{n:Nat}{h h0:AH}{size:Nat}
theorem nG(k:Kn g K)(hn:1<=n)(hl:s.length<=1000000)(hs:∀c∈s,c<256):cU g n 452 [.str s] (some (.bytes (Fx s))):=λ{Q X h} q=>by
 refine((aH (n:=0) (k.H 0) k.law_octets rfl ?_).call).up hn
 refine a5 (lZ (eb (f:=λc:Nat=>.int c) Iq hl λc _ _ k=>k) λQ k=>az (jS (λc:Nat=>(c:Int)) s) (V8 (λm hm=>?_) k)) ?_
 ·obtain⟨c,hc,rfl⟩:=WC.mp hm
  exact⟨Ww _,Xl.mpr (hs c hc)⟩
 ·rw[Xy];exact bc q
theorem BY(k:Kn g K)(hn:1<=n)(hb:b.length<=1000000):cU g n 457 [.bytes b] (some (.str (jf b))):=λ{Q X h} q=>by
 refine((aH (n:=0) (k.H 0) k.law_signs_of rfl ?_).call).up hn
 refine a5 (LI Iq rfl (ar (eb (f:=λc:UInt8=>.str [c.toNat]) Iq hb λc _ _ k=>V8 ⟨Ww _,Sv c⟩ k) λ_ k=>k) λ_ k=>az (pD _ _) (V8 ⟨rfl,?_⟩ k)) ?_
 ·rw[vn,Wd];exact V4 hb dD
 ·rw[vn];exact bc q
theorem I0(hE:∀(Q':V->St->Prop) (X':St->Prop),cy o (λv h=>Q' v ⟨loc,h⟩) (λh=>X' ⟨loc,h⟩) h->E Q' X' ⟨loc,h⟩)(k:r Q X ⟨loc.set i (some (o.getD v)),h⟩):ah (vQ (ah (aD (aj i) E) ai) i v) r Q X ⟨loc,h⟩:=
 hE _ _ (by cases o <;> exact k)
noncomputable def TU:V:=.str [98,97,100]
noncomputable def tg(size:Nat)(kind b:List UInt8):V:=(gs size kind b).getD TU
theorem nH(k:Kn g K)(hn:6<=n)(hb:b.length<=800000):cU g n 493 [.bytes kind,.bytes b,.int size] (some (tg size kind b)):=λ{Q X h} q=>by
 refine((aH (n:=5) (k.H 5) k.law_heard rfl ?_).call).up hn
 exact aZ Iq (I0 (λQ' X' q=>kS k dD hb q) (a5 Iq (bc q)))
theorem BZ(e:cY b=some v):∃x y,v=.tup [.bytes x,.bytes y]:=by
 unfold cY NU at e
 revert e
 generalize (decide (a8 b [0] 0<0)||(decide (a8 b [32] 0<0)||decide (a8 b [32] 0>a8 b [0] 0)))=c
 cases c with
 |true=>exact ns
 |false=>
  intro e
  have e:FJ b (a8 b [0] 0) (bY b none (some (a8 b [32] 0))) (numOf (bY b (some (a8 b [32] 0+1)) (some (a8 b [0] 0))))=some v:=e
  unfold FJ at e
  revert e
  generalize numOf (bY b (some (a8 b [32] 0+1)) (some (a8 b [0] 0)))=m
  generalize eh (bY b none (some (a8 b [32] 0)))=d
  cases d with
  |false=>exact ns
  |true=>
   cases m with
   |none=>exact ns
   |some w=>
    show(bif !(w==(b.length:Int)-a8 b [0] 0-1)then none else some _)=some v->_
    cases w==(b.length:Int)-a8 b [0] 0-1 with
    |false=>exact ns
    |true=>exact λe=>⟨_,_,(WR e).symm⟩
theorem nI(k:Kn g K)(hn:4<=n):cU g n 519 [.bytes b] (some ((cY b).getD .none)):=λ{Q X h} q=>by
 refine((aH (n:=3) (k.H 3) k.law_split_told rfl ?_).call).up hn
 refine aZ Iq (I0 (o:=cY b) (λQ' X' q=>?_) (a5 Iq (bc q)))
 have c:cU g 3 447 [.bytes b] _:=te k (Wh _)
 refine c ?_
 generalize e:cY b=zz;cases zz with
 |none=>rw[e]at q;exact q
 |some v=>
  obtain⟨x,y,rfl⟩:=BZ e
  rw[e]at q;exact q
theorem L4{A:PT}{X:St->Prop}{st:St}{vs:List V}(h1:Ev A X st (.lst vs)):Ev (aC .NotEq A (bp ag)) X st (.bool (!vs.isEmpty)):=λ_ k=>h1 _ (V8 (Wy _) (by cases vs <;> exact k))
theorem I1{A:PT}{X:St->Prop}{st:St}{vs:List V}(h1:Ev A X st (.lst vs)):Ev (aC .Eq A (bp ag)) X st (.bool vs.isEmpty):=λ_ k=>h1 _ (V8 (Wy _) (by cases vs <;> exact k))
end
noncomputable def iO(c:UInt8):Bool:=!(decide (48<=(c.toNat:Int))&&decide ((c.toNat:Int)<=57))
theorem I2(c:UInt8):(decide (0<=(c.toNat:Int)-48)&&decide ((c.toNat:Int)-48<10))=!iO c:=by
 unfold iO
 rw[aeo]
 generalize (c.toNat:Int)=x
 congr 1
 ·exact decide_eq_decide.mpr Int.sub_nonneg
 ·exact decide_eq_decide.mpr (by lia)
theorem PR:∀(l:List UInt8) (a:Int),(l.filter iO).isEmpty=false->jC 10 l a=none:=by
 intro w1
 induction w1 with
 |nil=>
  intros;contradiction
 |cons c l ih=>
  intro a h
  rw[pF,I2]
  generalize e:iO c=zz;cases zz with
  |true=>rfl
  |false=>
   rw[abr (by rw[e];decide)]at h
   exact ih _ h
theorem L5(h:iO c=false):jC 10 (c::l) a=jC 10 l (10*a+((c.toNat:Int)-48)):=by rw[pF,I2,h];rfl
theorem SG(c:UInt8):((c.toNat:Int)==48)=(c==48):=by
 rw[XT,beq_iff_eq,beq_iff_eq]
 exact⟨λh=>UInt8.toNat_inj.mp (Yx h),λh=>by rw[h];rfl⟩
theorem DF(b:List UInt8):(b.head?.elim false λc=>(c.toNat:Int)==48)=(b.take 1==[48]):=by
 cases b with
 |nil=>rfl
 |cons c r=>exact(SG c).trans (acw _).symm
noncomputable def pM(b:List UInt8):Bool:=(b==[])||((decide ((b.length:Int)>1)&&(b.take 1==[48]))||!((b.filter iO).map λc=>V.int (c.toNat:Nat)).isEmpty)
theorem DG(b:List UInt8):(b==[])=b.isEmpty:=by cases b <;> rfl
theorem DH(h:pM b=true):numOf b=none:=by
 unfold pM at h
 unfold numOf zD
 rw[DF,←DG]
 generalize e1:(b==[])=zz;cases zz with
 |true=>cases (decide ((b.length:Int)>1)&&(b.take 1==[48])) <;> rfl
 |false=>
  rw[e1]at h
  generalize e2:(decide ((b.length:Int)>1)&&(b.take 1==[48]))=zz;cases zz with
  |true=>rfl
  |false=>
   rw[e2,ac3]at h
   exact PR b 0 (cw h)
theorem L6(h:pM b=false):numOf b=jC 10 b 0∧b.filter iO=[]:=by
 unfold pM at h
 have h1:=X4.mp h
 have h2:=X4.mp h1.2
 unfold numOf zD
 rw[DF,←DG,h1.1,h2.1]
 refine⟨rfl,?_⟩
 have:=h2.2
 rw[ac3]at this
 exact Xa.mp (ni this)
section
variable{g:Gl}{K:Frag}{n:Nat}{h h0:AH}{size:Nat}
theorem xS(k:Kn g K)(hn:1<=n)(hb:b.length<=1000000):cU g n 505 [.bytes b] (some (gA (numOf b))):=λ{Q X h} q=>by
 refine((aH (n:=0) (k.H 0) k.law_number rfl ?_).call).up hn
 refine bI (b:=pM b) (cg Iq λ_=>cg (eE Iq λ_=>lY (bJ (bq Iq (congrArg V.bytes (eN (b:=1)))) Iq λ_ k=>k)) λ_=>fA (L4 (Dn iO (f:=λc:UInt8=>.int (c.toNat:Nat)) Iq hb (λc _=>jB (Dm Iq Iq Iq Iq λ_ _ k=>k)) λc _ _ _ k=>k))) (λ_ _ k=>k) (λe=>?_) λe=>?_
 ·rw[DH e]at q;exact bc q
 ·have f:=L6 e
  rw[f.1]at q
  refine aZ Iq (d9 (e:=λc:UInt8=>.int (c.toNat:Nat)) (λs:Int×Option V=>⟨[some (.bytes b),some (.int s.1),s.2],h⟩) (λl s=>Q (gA (jC 10 l s.1)) h∧l.filter iO=[]) (0,none) Iq ⟨q,f.2⟩ (λs i=>a5 Iq (bc i.1)) λc l s i Qc kn kr=>?_)
  have nd:iO c=false:=by
   generalize z:iO c=zz;cases zz with
   |false=>rfl
   |true=>have:=i.2;rw[abq z]at this;cases this
  have q:=i.1
  have r:=i.2
  rw[L5 nd,←Int.add_sub_assoc]at q
  rw[abr (by rw[nd];decide)]at r
  exact aZ (λ_ k=>V8 (BC dD dD) k) (kn (_,_) ⟨q,r⟩)
end
theorem th(n:x≠c)(e:aL c r=h::t):aL c (x::r)=(x::h)::t:=by
 show(if x=c then[]::aL c r else _)=_
 rw[if_neg n,e]
theorem pN:∀{l:List UInt8},c∉l->aL c l=[l]:=by
 intro zi
 induction zi with
 |nil=>
  intro _
  exact rfl
 |cons x l ih=>
  intro h
  exact th (λe=>h (by rw[e];exact .head _)) (ih λm=>h (.tail _ m))
theorem pO:∀{p:List UInt8},c∉p->aL c (p++c::r)=p::aL c r:=by
 intro zi
 induction zi with
 |nil=>
  intro _
  exact if_pos rfl
 |cons x p ih=>
  intro h
  exact th (λe=>h (by rw[e];exact .head _)) (ih λm=>h (.tail _ m))
theorem gH:aL c l≠[]:=by
 by_cases h:c∈l
 ·obtain⟨p,r,rfl,h1⟩:=YV h
  rw[pO h1];nofun
 ·rw[pN h];nofun
theorem FL:∀{p:List UInt8},c∉p->bh c (p++l)=(bh c l).map (p.length+·):=by
 intro zi
 induction zi with
 |nil=>
  intro _
  rw[aaz]
  cases bh c l with
  |none=>rfl
  |some i=>exact congrArg some (Xn i).symm
 |cons x p ih=>
  intro h
  show(bif x==c then _ else(bh c (p++l)).map (· + 1))=_
  rw[beq_eq_false_iff_ne.mpr λe=>h (by rw[e];exact .head _),ih λm=>h (.tail _ m)]
  show((bh c l).map (p.length+·)).map (· + 1)=_
  cases bh c l with
  |none=>rfl
  |some i=>exact congrArg some (XQ ..)
noncomputable def PU(b:List UInt8)(e:Int)(ws:List (List UInt8)):Option V:=match ws with
 | [k,m]=>FJ b e k (numOf m)
 |_=>none
noncomputable def ti(b:List UInt8):Option V:=(bh 0 b).elim none λp=>PU b p (aL 32 (b.take p))
theorem PV(h:(32:UInt8)∈m):numOf m=none:=by
 refine DH ?_
 unfold pM
 have:(m.filter iO).map (λc=>V.int (c.toNat:Nat))≠[]:=λe=>List.ne_nil_of_mem (abS.mpr ⟨h,rfl⟩) (Zb.mp e)
 rw[List.isEmpty_eq_false_iff.mpr this,Bool.not_false,Y3,Y3]
theorem I3:FJ b e k none=none:=by unfold FJ;cases eh k <;> rfl
theorem I4(b:List UInt8):cY b=ti b:=by
 unfold cY ti
 rw[s9,s9]
 generalize e0:bh 0 b=zz;cases zz with
 |none=>rfl
 |some p=>
  show NU b p (optN (bh 32 b))=PU b p (aL 32 (b.take p))
  obtain⟨t,r,rfl,ht,rfl⟩:=fQ e0
  rw[YU]
  by_cases h:(32:UInt8)∈t
  ·obtain⟨t1,t2,rfl,h1⟩:=YV h
   have e1:bh 32 (t1++32::t2++0::r)=some t1.length:=by rw[Wn];exact ir h1
   rw[e1,pO h1]
   have c1:bY (t1++32::t2++0::r) none (some (t1.length:Int))=t1:=by rw[eN,Wn,YU]
   have c2:bY (t1++32::t2++0::r) (some ((t1.length:Int)+1)) (some ((t1++32::t2).length:Int))=t2:=by
    have:=gc (l:=t1++32::t2++0::r) (a:=t1.length+1) (p:=t2.length)
    rw[V6,WM,show t1.length+(t2.length+1)=t1.length+1+t2.length by rw[WJ,W4 1]]
    refine this.trans ?_
    rw[Wn,←Xc,Zd]
    exact YU
   have lt:decide ((t1.length:Int)>((t1++32::t2).length:Int))=false:=decide_eq_false (YX.mpr (XS.mpr (by rw[V6];exact Wq _ _)))
   show(bif decide (((t1++32::t2).length:Int)<0)||(decide ((t1.length:Int)<0)||decide ((t1.length:Int)>((t1++32::t2).length:Int)))then none else FJ _ _ (bY _ none (some (t1.length:Int))) (numOf (bY _ (some ((t1.length:Int)+1)) (some ((t1++32::t2).length:Int)))))=_
   rw[nv,nv,lt,c1,c2]
   show FJ _ _ t1 (numOf t2)=_
   by_cases h2:(32:UInt8)∈t2
   ·obtain⟨u1,u2,rfl,h3⟩:=YV h2
    rw[PV h2,I3,pO h3]
    generalize e9:aL 32 u2=zz;cases zz with
    |nil=>exact absurd e9 gH
    |cons=>rfl
   ·rw[pN h2];rfl
  ·rw[pN h]
   show NU (t++0::r) t.length (optN (bh 32 (t++0::r)))=none
   rw[FL h]
   show NU _ _ (optN (((bh 32 r).map (· + 1)).map (t.length+·)))=none
   unfold NU
   cases bh 32 r with
   |none=>
    rw[Y3];rfl
   |some j=>
    rw[show decide (((t.length+(j+1):Nat):Int)>t.length)=true from decide_eq_true (Xl.mpr (Yi (Xs j))),Y3,Y3];rfl
section
variable{g:Gl}{K:Frag}{n:Nat}{h h0:AH}{size:Nat}
theorem SH{es:PT}{X:St->Prop}{st:St}{vs:List V}(h1:Ev es X st (.lst vs))(l:vs.length<=1000000):Ev (c8 es) X st (.tup vs):=λ_ k=>h1 _ (V8 l k)
theorem kU:∀(l m:List UInt8),m∈aL c l->m.length<=l.length:=by
 intro zi
 induction zi with
 |nil=>
  intro m h
  rw[Wr.mp h];exact Wh _
 |cons x r ih=>
  intro m h
  by_cases e:x=c
  ·rw[show aL c (x::r)=[]::aL c r from if_pos e]at h
   cases h with
   |head=>exact Wy _
   |tail _ h=>exact Yq (ih m h)
  ·generalize e2:aL c r=zz;cases zz with
   |nil=>exact absurd e2 gH
   |cons y t=>
    rw[th e e2]at h
    cases h with
    |head=>exact Wm (ih y (by rw[e2];exact .head _))
    |tail _ h=>exact Yq (ih m (by rw[e2];exact .tail _ h))
theorem I5(n:Nat):(((n+1+1+1:Nat):Int)==2)=false:=beq_eq_false_iff_ne.mpr λe=>absurd (Yx e) (λz=>nomatch Xr (Xr z))
theorem PX(kn:Kn g K){b k m:List UInt8}{e:Int}{Q:V->AH->Prop}{X:AH->Prop}(hm:m.length<=1000000)(q:Q ((FJ b e k (numOf m)).getD .none) h):kO g 1 (dC Q) (bz X) ⟨[some (.bytes b),some (.int e),some (.lst [.bytes k,.bytes m])],h⟩:=by
 unfold FJ at q
 refine bI (b:=!eh k) (cg (a:=false) Iq λ_=>fA (bJ (BP (i:=0) Iq Iq rfl) (λ_ k=>V8 (V5 rfl) k) λ_ k=>k)) (λ_ _ k=>k) (λy=>?_) λy=>?_
 ·rw[y]at q;exact bc q
 rw[y]at q
 have en:Ev (ak g 1 (.ref 505) (aa (aQ (ae 2) (af (.int 1))) ag)) (bz X) ⟨[some (.bytes b),some (.int e),some (.lst [.bytes k,.bytes m])],h⟩ (gA (numOf m)):=aG (ar (BP (i:=1) Iq Iq rfl) λ_ k=>k) (xS kn (Wh _) hm)
 revert q en
 generalize numOf m=o
 intro q en
 cases o with
 |none=>exact a5 (kD (b:=false) (bJ en Iq λ_ k=>k) ff λ_ _ k=>k) (bc q)
 |some w=>
  have q:Q ((bif !(w==(b.length:Int)-e-1)then none else some (V.tup [.bytes k,.bytes (bY b (some (e+1)) none)])).getD .none) h:=q
  refine a5 (v:=(bif !(w==(b.length:Int)-e-1)then none else some (V.tup [.bytes k,.bytes (bY b (some (e+1)) none)])).getD .none) (kD (b:=w==(b.length:Int)-e-1) (bJ en Iq λ_ k=>k) (λz=>?_) λz=>?_) (bc q)
  ·rw[z];exact SH (ar (BP (i:=0) Iq Iq rfl) (ar Iq λ_ k=>k)) (V5 rfl)
  ·rw[z];exact λ_ k=>k
theorem zT(kn:Kn g K)(hn:2<=n)(hb:b.length<=900000):cU g n 512 [.bytes b] (some ((cY b).getD .none)):=λ{Q X h} q=>by
 refine((aH (n:=1) (kn.H 1) kn.law_split rfl ?_).call).up hn
 rw[I4]at q
 unfold ti at q
 refine aZ (bq Iq (congrArg V.int (s9 b 0))) ?_
 generalize e0:bh 0 b=zz;cases zz with
 |none=>
  rw[e0]at q
  exact aZ (kD (b:=false) Iq ff λ_ _ k=>V8 (Wy _) k) (bI (cg (a:=true) (b:=false) Iq tf) (λ_ _ k=>k) (λ_=>bc q) tf)
 |some p=>
  rw[e0]at q
  have q:Q ((PU b p (aL 32 (b.take p))).getD .none) h:=q
  have lt:(b.take p).length<=b.length:=by rw[Xi];exact YC _ _
  have hm:=kU (c:=32) (b.take p)
  refine aZ (kD (b:=true) (bq Iq (congrArg V.bool (decide_eq_true (Ww p)))) (λ_=>kE (bq Iq (congrArg V.bytes eN)) rfl Iq λ_ k=>V8 (V4 lt hb) k) tf) ?_
  revert q hm
  generalize aL 32 (b.take p)=ws
  intro q hm
  match ws,q,hm with
  | [k,m],q,hm=>exact PX kn (V4 (hm m (.tail _ (.head _))) (V4 lt (V4 hb dD))) q
  | [],q,_=>exact bI (cg (a:=true) (b:=false) Iq tf) (λ_ _ k=>k) (λ_=>bc q) tf
  | [_],q,_=>exact bI (cg (a:=true) (b:=false) Iq tf) (λ_ _ k=>k) (λ_=>bc q) tf
  |a::b'::c::r,q,_=>exact bI (cg (a:=true) (b:=false) (bq Iq (congrArg V.bool (show(!((((a::b'::c::r).map V.bytes).length:Int)==2))=true by rw[Wd];exact congrArg not (I5 r.length)))) tf) (λ_ _ k=>k) (λ_=>bc q) tf
end
noncomputable abbrev I6:Str:=⟨#[99,101,108,108,115]⟩
noncomputable abbrev I7:Str:=⟨#[109,105,120,101,100]⟩
noncomputable abbrev DI:Str:=⟨#[116,117,114,110]⟩
noncomputable def dS(C:Addr)(x t:Int):List (DK.K .s×V):=[(I6,.ref C),(I7,.int x),(DI,.int t)]
theorem zU:atKey (dS C x t) I6=some (.ref C):=rfl
theorem I8:atKey (dS C x t) I7=some (.int x):=rfl
theorem xT:atKey (dS C x t) DI=some (.int t):=rfl
theorem UH:fE (dS C x t) DI (.int u)=dS C x u:=rfl
structure cN(D C:Addr)(T:Nat)(h:AH):Prop where
 ne:D≠C
 d:∃(x:Int) (t:Nat),t<=T∧h D=some (.dict .s (dS C x t))
 c:∃l:List Int,l.length<=8∧h C=some (.list (l.map .int))
theorem nJ(h:j.natAbs<2^30):aar i j=false:=by
 unfold aar
 refine Bool.and_eq_false_iff.mpr (.inl (decide_eq_false (Xh.mpr ?_)))
 show(if(j==0)=true then 0 else j.natAbs.log2/30+1)<=300
 by_cases z:(j==0)=true
 ·rw[if_pos z];exact Wy _
 ·rw[if_neg z]
  have d:j.natAbs≠0:=λe=>z (by rw[Int.natAbs_eq_zero.mp e];rfl)
  rw[Nat.div_eq_of_lt ((afb d).mpr h)];decide
theorem I9{x:Int}{m:Nat}(h:0<m):0<=x.fmod m:=Int.fmod_nonneg_of_pos _ (Xl.mpr h)
theorem Ja{x:Int}{m:Nat}(h:0<m):x.fmod m<m:=Int.fmod_lt_of_pos _ (Xl.mpr h)
theorem Jb{m:Nat}(h:0<m):(m:Int)≠0:=λe=>YD h (Yx e)
section
theorem zV{v0 j:Option V}{f:Int}(hb:0<below)(q:∀k:Nat,k<below->Q (.int k) h):h9 g n (dC Q) (bz X) ⟨[v0,some (.int below),some (.int f),j],h⟩:=by
 have n1:(2147483629:Int)≠0:=dD
 have n2:(2147483647:Int)≠0:=dD
 have d:(2147483587:Int)≠0:=dD
 have u:(2147483579:Int)≠0:=dD
 have lo:=I9 (x:=(f.fmod 2147483629*40692)) (m:=2147483647) dD
 refine aZ (λ_ k=>V8 n1 (V8 (zE dD dD) (V8 n2 k))) ?_
 have i:=Ja (x:=(f.fmod 2147483629*40692)) (m:=2147483647) dD
 refine aZ (λ_ k=>V8 (BC (Int.lt_of_lt_of_le dD lo) (Int.lt_trans i dD)) (V8 d k)) ?_
 generalize (((f.fmod 2147483629*40692).fmod 2147483647*(f.fmod 2147483629*40692).fmod 2147483647+404).fmod 2147483587)=y
 have z:=I9 (x:=((y*39373).fmod 2147483579).fdiv 64) hb
 have e:=YJ z
 refine a5 (v:=.int ((((y*39373).fmod 2147483579).fdiv 64).fmod below)) (λ_ k=>V8 (zE dD dD) (V8 u (V8 ⟨dD,nJ dD⟩ (V8 (Jb hb) k)))) (bc ?_)
 have:=q _ (Xl.mp (e▸Ja hb:_<(below:Int)))
 rw[e]at this
 exact this
theorem FN{loc:List (Option V)}{X:St->Prop}{s:List Nat}{v:V}{x t:Int}(h0:(loc[0]?).join=some (.ref D))(d:h D=some (.dict .s (dS C x t)))(e:atKey (dS C x t) (⟨s.toArray⟩:Str)=some v):Ev (aQ (ae 0) (af (.str s))) X ⟨loc,h⟩ v:=λQ k=>az h0 (by
 show gm (.ref D) (.str s) h _
 unfold gm
 rw[nr d]
 exact az d (show dR (DK.key .s (.str s)) (λq=>dR (atKey (dS C x t) q) λv=>Q v ⟨loc,h⟩)from az (a:=(⟨s.toArray⟩:Str)) rfl (az e k)))
theorem PY{O E r:PT}{Q:V->St->Prop}{X:St->Prop}{loc:List (Option V)}{c:Addr}{vs:List V}{v:V}(q:Ev O X ⟨loc,h⟩ (.ref c))(y:Ev E X ⟨loc,h⟩ v)(e:h c=some (.list vs))(l:vs.length<1000000)(k:r Q X ⟨loc,upd h c (some (.list (vs++[v])))⟩):ah (fX (av g n aK O (aa E ag))) r Q X ⟨loc,h⟩:=
 q _ (Dk (k:=λe=>aa E ag (λvs d=>iE vs λvs=>e.2 (.ref c::vs) d.h λu h=>r Q X ⟨d.loc,h⟩) X ⟨loc,h⟩) e (y _ (az e ⟨l,k⟩)))
structure Drawn(D C:Addr)(T:Nat)(h h':AH):Prop where
 d:cN D C T h'
 f:∀a,a≠D->a≠C->h' a=h a
theorem Jc{cell f:Int}{l:List Int}{h1:AH}{x:Int}{t:Nat}(hb:0<below)(y:below<2^30)(ne:D≠C)(i:h1 D=some (.dict .s (dS C x t)))(z:t<=T)(hC:h1 C=some (.list (l.map .int)))(j:l.length<=7)(fr:∀a,a≠D->a≠C->h1 a=h a)(q:∀(k:Nat) u,k<below->Drawn D C T h u->Q (.int k) u) :
 mX g n (λfl d=>br (isNone fl) (h9 g n (dC Q) (bz X) d) (dC Q fl d)) (bz X) ⟨[some (.ref D),some (.int below),some (.int f),some (.int cell)],h1⟩:=by
 have o:(2147483563:Int)≠0:=dD
 have w:Ev (aQ (ae 0) (af (.str [99,101,108,108,115]))) (bz X) ⟨[some (.ref D),some (.int below),some (.int f),some (.int cell)],h1⟩ (.ref C):=FN rfl i zU
 refine xR (b:=decide (cell≥1000000)) Iq (λe Q' c=>?_) λe=>?_
 ·refine PY w (v:=.int (cell.fdiv below)) (λ_ k=>V8 ⟨Jb hb,nJ (by rw[acK];exact y)⟩ k) hC (by rw[Wd];exact Wp j dD) ?_
  ·have m:=I9 (x:=cell) hb
   have e:=YJ m
   refine a5 (v:=.int (cell.fmod below)) (λ_ k=>V8 (Jb hb) k) (c _ _ (bc (v:=.int (cell.fmod below)) ?_))
   have:=q (cell.fmod below).toNat (upd h1 C (some (.list (l.map .int++[.int (cell.fdiv below)])))) (Xl.mp (e▸Ja hb:_<(below:Int))) ⟨⟨ne,⟨x,t,z,(aE ne).trans i⟩,⟨l++[cell.fdiv below],by rw[V6];exact Wm j,by rw[WE];exact aB _ _ _⟩⟩,λa n1 n2=>(aE n2).trans (fr a n1 n2)⟩
   rw[e]at this
   exact this
 ·exact aZ (v:=.int (f+cell.fmod 2147483563)) (λ_ k=>V8 o k) (zV (n:=n) hb λk p=>q k h1 p ⟨⟨ne,⟨x,t,z,i⟩,⟨l,Yq j,hC⟩⟩,fr⟩)
end
section
variable{g:Gl}{K:Frag}{n:Nat}{h h0:AH}{Q:V->AH->Prop}{X:AH->Prop}{D C:Addr}{T below:Nat}
theorem P0{E r:PT}{Q:V->St->Prop}{X:St->Prop}{loc:List (Option V)}{x t u:Int}(d:Ev E X ⟨loc,h⟩ (.int u))(q:(loc[0]?).join=some (.ref D))(y:h D=some (.dict .s (dS C x t)))(k:r Q X ⟨loc,upd h D (some (.dict .s (dS C x u)))⟩):ah (aD (fV (ae 0) (af (.str [116,117,114,110]))) E) r Q X ⟨loc,h⟩:=
 d _ (az q (az y (show dR (DK.key .s (.str [116,117,114,110])) (λj=>(dS C x t).length<1000000∧r Q X ⟨loc,upd h D (some (.dict .s (fE (dS C x t) j (.int u))))⟩)from az (a:=DI) rfl (V8 (V5 rfl) k))))
theorem P1{O r:PT}{Q:V->St->Prop}{X:St->Prop}{loc:List (Option V)}{c:Addr}{i:Nat}{vs:List V}{v:V}(q:Ev O X ⟨loc,h⟩ (.ref c))(e:h c=some (.list vs))(y:vs.getLast? = some v)(k:r Q X ⟨loc.set i (some v),upd h c (some (.list vs.dropLast))⟩):ah (aD (aj i) (av g n Dd O ag)) r Q X ⟨loc,h⟩:=
 q _ (Dk (k:=λe=>ag (λvs d=>iE vs λvs=>e.2 (.ref c::vs) d.h λu h=>r Q X ⟨d.loc.set i (some u),h⟩) X ⟨loc,h⟩) e (az (o:=Dd.l) rfl (show dR (h c) _ from az e (show dR vs.getLast? _ from az y k))))
theorem SJ{O:PT}{X:St->Prop}{loc:List (Option V)}{c:Addr}{vs:List V}(d:Ev O X ⟨loc,h⟩ (.ref c))(e:h c=some (.list vs)):Ev (aC .NotEq O (bp ag)) X ⟨loc,h⟩ (.bool (!vs.isEmpty)):=λQ k=>d _ (V8 (Wy _) (by
 show dR (eqT (res h (.ref c)) (.lst [])) _
 rw[d7 e]
 cases vs <;> exact k))
theorem P2(kn:Kn g K)(S:1<=n)(hb:0<below)(i:below<2^30)(d:cN D C T h)(hT:T<=1000000)(q:∀(k:Nat) B,k<below->Drawn D C (T+1) h B->Q (.int k) B):bW g n (.ref 469) [.ref D,.int below] Q X h:=by
 refine((aH (n:=0) (kn.H 0) kn.law_draw rfl ?_).call).up S
 refine Wo λno=>?_
 obtain⟨x,t,p,o⟩:=d.d
 obtain⟨l,m,hC⟩:=d.c
 refine no ?_
 refine P0 (u:=(t+1:Nat)) (ea (FN rfl o xT) Iq λ_ k=>k) rfl o ?_
 have y:upd h D (some (.dict .s (dS C x (t+1:Nat)))) D=some (.dict .s (dS C x (t+1:Nat))):=aB _ _ _
 have j:upd h D (some (.dict .s (dS C x (t+1:Nat)))) C=some (.list (l.map .int)):=(aE (XW d.ne)).trans hC
 have fr:∀a,a≠D->a≠C->upd h D (some (.dict .s (dS C x (t+1:Nat)))) a=h a:=λa n1 _=>aE n1
 have tl:((t+1:Nat):Int)<2^64:=Z2 (XS.mpr (Wm (V4 p hT))) dD
 have U:-(2^64)<((t+1:Nat):Int):=Int.lt_of_lt_of_le dD (Ww _)
 have J:∀f w,Ev (aQ (ae 0) (af (.str [99,101,108,108,115]))) (bz X) ⟨[some (.ref D),some (.int below),some (.int f),w],upd h D (some (.dict .s (dS C x (t+1:Nat))))⟩ (.ref C):=λf w=>FN rfl y zU
 refine aZ (ea (FN rfl y I8) (ea (ea Iq (FN rfl y xT) λ_ k=>V8 (BC dD dD) k) (FN rfl y xT) λ_ k=>V8 (zE U tl) k) λ_ k=>k) ?_
 refine Fw (b:=!(l.map V.int).isEmpty) (SJ (J _ _) j) (λe=>?_) λe=>?_
 ·have ne:l≠[]:=λz=>by rw[z]at e;cases e
  obtain⟨l2,c,Z⟩:∃l2 c,l=l2++[c]:=⟨l.dropLast,l.getLast ne,(adk ne).symm⟩
  subst Z
  have R:((l2++[c]).map V.int).getLast? = some (.int c):=by rw[WE,ae1];rfl
  have Y:((l2++[c]).map V.int).dropLast=l2.map V.int:=by rw[WE];exact ab6
  refine P1 (J _ _) j R ?_
  rw[Y]
  refine Jc (l:=l2) hb i d.ne ((aE d.ne).trans y) (Wm p) (aB _ _ _) ?_ (λa n1 n2=>(aE n2).trans (fr a n1 n2)) q
  rw[V6]at m
  exact X7 m
 ·exact zV (n:=0) hb λk L=>q k _ L ⟨⟨d.ne,⟨x,t+1,Wm p,y⟩,⟨l,m,j⟩⟩,fr⟩
end
section
variable{g:Gl}{K:Frag}{n:Nat}{h h0:AH}{Q:V->AH->Prop}{X:AH->Prop}{D C:Addr}{T below:Nat}
theorem P4(kn:Kn g K)(hn:1<=n){s:List Int}(q:∀D C h',h D=none->h C=none->cN D C 0 h'->(∀a,a≠D->a≠C->h' a=h a)->Q (.ref D) h'):bW g n (.ref 462) [.lst (s.map .int)] Q X h:=by
 refine((aH (n:=0) (kn.H 0) kn.law_deck rfl ?_).call).up hn
 have lt:(s.take 8).length<=8:=by rw[Xi];exact abU _ _
 have n1:(2147483629:Int)≠0:=dD
 have n2:(2147483587:Int)≠0:=dD
 refine jA (ar (eb (e:=V.int) (f:=V.int) (l:=s.take 8) (λQ k=>?_) (V4 lt dD) λc _ _ k=>k) λ_ k=>k) ⟨V5 rfl,rfl⟩ ?_
 ·rw[abf,←eN]at k;exact k
 refine d9 (e:=V.int) (l:=s.take 8) (λz:Int×Option V=>⟨[some (.lst (s.map .int)),some (.lst ((s.take 8).map V.int)),some (.int z.1),z.2],h⟩) (λ_ _=>True) (404,none) Iq trivial (λz _=>?_) λc r z _ Qc k kr=>?_
 ·show ∀D,h D=none->∀C,upd h D (some (.dict .s [])) C=none->_
  intro D hD C hC
  have ne:D≠C:=λe=>by rw[←e,aB]at hC;cases hC
  have hC':h C=none:=(aE (XW ne)).symm.trans hC
  have hp:jl .s [] [.str [99,101,108,108,115],.ref C,.str [109,105,120,101,100],.int z.1,.str [116,117,114,110],.int 0]=some (dS C z.1 0):=rfl
  have hW:∀h',Ev (aa (af (.str [109,105,120,101,100])) (aa (ae 2) (aa (af (.str [116,117,114,110])) (aa (af (.int 0)) ag)))) (bz X) ⟨[some (.lst (s.map .int)),some (.lst ((s.take 8).map V.int)),some (.int z.1),z.2],h'⟩ (.lst [.str [109,105,120,101,100],.int z.1,.str [116,117,114,110],.int 0]):=λh' _ k=>k
  refine hW _ _ ?_
  dsimp only[iE,vc]
  refine az hp ?_
  refine V8 ⟨V5 rfl,(aE ne).trans (aB _ _ _)⟩ (bc (q D C _ hD hC' ⟨ne,⟨z.1,0,Wh _,aB _ _ _⟩,⟨(s.take 8).reverse,by rw[Ys];exact lt,?_⟩⟩ λa n1 n2=>(aE n1).trans ((aE n2).trans (aE n1))))
  rw[List.map_reverse]
  exact(aE (XW ne)).trans (aB _ _ _)
 ·exact aZ (λ_ k=>V8 (zE dD dD) (V8 n1 (V8 n2 k))) (k (_,_) trivial)
end
theorem cN.up(d:cN D C T h)(l:T<=q):cN D C q h:=⟨d.ne,d.d.elim λx z=>z.elim λt z=>⟨x,t,V4 z.1 l,z.2⟩,d.c⟩
theorem Drawn.rfl(d:cN D C T h):Drawn D C T h h:=⟨d,λ_ _ _=>.refl _⟩
theorem Drawn.then_(a:Drawn D C (T+k) h h1)(b:Drawn D C (T+k+l) h1 q):Drawn D C (T+(k+l)) h q:=⟨WJ T k l▸b.d,λx n m=>(b.f x n m).trans (a.f x n m)⟩
theorem dW(h:T+(k+l)<=1000000):T+k<=1000000∧T+k+l<=1000000:=⟨V4 (Wu (Wq k l) T) h,by rw[WJ];exact h⟩
def Dr(g:Gl)(n:Nat)(a:Addr)(D C:Addr)(k:Nat)(vs:List V)(P:V->Prop):Prop:=∀(T:Nat) (h:AH) (Q:V->AH->Prop) (X:AH->Prop),cN D C T h->T+k<=1000000->(∀v q,P v->Drawn D C (T+k) h q->Q v q)->bW g n (.ref a) vs Q X h
def XD(D C:Addr)(k:Nat)(E:PT)(loc:List (Option V))(P:V->Prop):Prop:=∀(T:Nat) (h:AH) (Q:V->St->Prop) (X:St->Prop),cN D C T h->T+k<=1000000->(∀v q,P v->Drawn D C (T+k) h q->Q v ⟨loc,q⟩)->E Q X ⟨loc,h⟩
def SD(D C:Addr)(k:Nat)(W:PT)(loc:List (Option V))(P:V->Prop):Prop:=∀(T:Nat) (h:AH) (Q:V->AH->Prop) (X:AH->Prop),cN D C T h->T+k<=1000000->(∀v q,P v->Drawn D C (T+k) h q->Q v q)->W (dC Q) (bz X) ⟨loc,h⟩
section
variable{g:Gl}{K:Frag}{n m i k l a:Nat}{D C:Addr}{loc:List (Option V)}{P R S:V->Prop}{E F A B r:PT}{v:V}{vs:List V}{d:Df}{W:Gl->Nat->PT}
theorem dj(kn:Kn g K)(o:aR K d W)(y:vs.length=d.params.length)(j:n+1<=m)(w:SD D C k (W g n) (vs.map some++WZ (d.names.length-d.params.length) none) P):Dr g m d.a D C k vs P:=λT h Q X dk hT q=>
 ((aH (n:=n) (kn.H n) o y (w _ _ _ _ dk hT q)).call).up j
theorem l4(e:∀h X,Ev E X ⟨loc,h⟩ v)(p:P v):XD D C 0 E loc P:=λ_ _ _ _ dk _ q=>e _ _ _ (q v _ p (.rfl dk))
theorem cj(e:∀h X,Ev y X ⟨loc,h⟩ (.lst vs))(c:Dr g n a D C k vs P):XD D C k (ak g n (.ref a) y) loc P:=λ_ _ _ _ dk hT q=>e _ _ _ (c _ _ _ _ dk hT q)
theorem XD.imp(x:XD D C k E loc P)(i:∀v,P v->R v):XD D C k E loc R:=λ_ _ _ _ dk hT q=>x _ _ _ _ dk hT λv y p d=>q v y (i v p) d
theorem SK(x:XD D C k A loc P)(y:XD D C l B loc R)(w:∀u v,P u->R v->∃r,S r∧∀h (Qv:V->Prop),Qv r->El op u v h Qv):XD D C (k+l) (ao op A B) loc S:=λ_ _ _ _ dk hT q=>
 x _ _ _ _ dk (dW hT).1 λu h1 p d1=>y _ _ _ _ d1.d (dW hT).2 λv c j d2=>(w u v p j).elim λr z=>z.2 _ _ (q r c z.1 (d1.then_ d2))
theorem Vf(x:XD D C k A loc P)(y:XD D C l B loc R)(w:∀u v,P u->R v->∃b,S (.bool b)∧∀h (Qv:Bool->Prop),Qv b->tN op u v h Qv):XD D C (k+l) (aC op A B) loc S:=λ_ _ _ _ dk hT q=>
 x _ _ _ _ dk (dW hT).1 λu h1 p d1=>y _ _ _ _ d1.d (dW hT).2 λv c j d2=>(w u v p j).elim λr z=>z.2 _ _ (q _ c z.1 (d1.then_ d2))
theorem UI(x:XD D C k A loc P)(y:XD D C l B loc R)(w:∀u v,P u->R v->∃r,S r∧∀h (Qv:V->Prop),Qv r->gm u v h Qv):XD D C (k+l) (aQ A B) loc S:=λ_ _ _ _ dk hT q=>
 x _ _ _ _ dk (dW hT).1 λu h1 p d1=>y _ _ _ _ d1.d (dW hT).2 λv c j d2=>(w u v p j).elim λr z=>z.2 _ _ (q r c z.1 (d1.then_ d2))
theorem DJ{j:PT}{S:List V->Prop}{R:List V->Prop}(x:XD D C k A loc P)(y:XD D C l j loc λv=>∃vs,v=.lst vs∧R vs)(w:∀u vs,P u->R vs->S (u::vs)):XD D C (k+l) (aa A j) loc λv=>∃vs,v=.lst vs∧S vs:=λ_ _ _ _ dk hT q=>
 x _ _ _ _ dk (dW hT).1 λu h1 p d1=>y _ _ _ _ d1.d (dW hT).2 λv b c d2=>c.elim λvs z=>by
  obtain⟨rfl,z⟩:=z
  exact q _ b ⟨_,rfl,w u vs p z⟩ (d1.then_ d2)
theorem SM{S:List V->Prop}(s:S []):XD D C 0 ag loc λv=>∃vs,v=.lst vs∧S vs:=l4 (λ_ _ _ k=>k) ⟨[],rfl,s⟩
theorem L7{y:PT}{a:Addr}{S:List V->Prop}(x:XD D C k y loc λv=>∃vs,v=.lst vs∧S vs)(c:∀vs,S vs->Dr g n a D C l vs P):XD D C (k+l) (ak g n (.ref a) y) loc P:=λ_ _ _ _ dk hT q=>
 x _ _ _ _ dk (dW hT).1 λu h1 p d1=>p.elim λvs z=>by
  obtain⟨rfl,z⟩:=z
  exact c vs z _ _ _ _ d1.d (dW hT).2 λv b j d2=>q v b j (d1.then_ d2)
theorem P5(x:XD D C k A loc P)(y:∀u,P u->∃r,S r∧∀h (Qv:VP),Qv r h->w u h Qv):XD D C k (dn (b1 w) (aa A ag)) loc S:=λ_ _ _ _ dk hT q=>
 x _ _ _ _ dk hT λu h1 p d1=>(y u p).elim λr z=>z.2 _ _ (q r h1 z.1 d1)
end
theorem Drawn.up(d:Drawn D C T h q)(l:T<=y):Drawn D C y h q:=⟨d.d.up l,d.f⟩
theorem all_map{d q:Type}{f:d->q}{p:d->Prop}:∀{us:List q},(∀u∈us,∃a,p a∧u=f a)->∃l:List d,us=l.map f∧∀a∈l,p a:=by
 intro w
 induction w with
 |nil=>
  intro _
  exact⟨[],rfl,an⟩
 |cons u us x=>
  intro h
  exact(h u (.head _)).elim λa z=>(x λv c=>h v (.tail _ c)).elim λl y=>⟨a::l,by rw[z.2,y.1];rfl,λb hb=>by
  cases hb with
  |head=>exact z.1
  |tail _ hb=>exact y.2 b hb⟩
section
variable{g:Gl}{K:Frag}{n m i j k l a:Nat}{D C:Addr}{loc cap:List (Option V)}{P R S:V->Prop}{E F A B W r:PT}{u v:V}{vs:List V}
theorem jF(x:XD D C k E loc P):SD D C k (ah (aN E) r) loc P:=λ_ _ _ _ dk hT q=>x _ _ _ _ dk hT λv y p d=>bc (q v y p d)
theorem fh(x:XD D C k E loc P)(y:∀v,P v->SD D C l r (loc.set i (some v)) R):SD D C (k+l) (ah (aD (aj i) E) r) loc R:=λ_ _ _ _ dk hT q=>
 x _ _ _ _ dk (dW hT).1 λv h1 p d1=>y v p _ _ _ _ d1.d (dW hT).2 λv c z d2=>q v c z (d1.then_ d2)
theorem dQ(e:∀h X,Ev E X ⟨loc,h⟩ v)(y:SD D C l r (loc.set i (some v)) R):SD D C l (ah (aD (aj i) E) r) loc R:=λ_ _ _ _ dk hT q=>e _ _ _ (y _ _ _ _ dk hT q)
theorem iv(x:XD D C k A loc P)(y:XD D C l B loc R)(z:∀u v,P u->R v->SD D C m r ((loc.set i (some v)).set j (some u)) S):SD D C (k+(l+m)) (ah (bZ [i,j] (aa A (aa B ag))) r) loc S:=λ_ _ _ _ dk hT q=>
 x _ _ _ _ dk (dW hT).1 λu h1 p d1=>y _ _ _ _ d1.d (dW (dW hT).2).1 λv e c d2=>V8 (V5 rfl) (V8 rfl (z u v p c _ _ _ _ d2.d (dW (dW hT).2).2 λw o f b=>q w o f (d1.then_ (d2.then_ b))))
theorem xU(hC:∀h X,Ev y X ⟨loc,h⟩ (.bool b))(h1:b=true->XD D C k E loc R)(c:b=false->SD D C k r loc R):SD D C k (ah (bA y (ah (aN E) ai) ai) r) loc R:=λ_ _ _ _ dk hT q=>
 hC _ _ _ (Kr (λe=>h1 e _ _ _ _ dk hT λv z p d=>bc (q v z p d)) λe=>c e _ _ _ _ dk hT q)
theorem tj(e:∀h X,Ev A X ⟨loc,h⟩ u)(y:XD D C l B loc R)(w:∀v,R v->∃r,S r∧∀h (Qv:V->Prop),Qv r->El op u v h Qv):XD D C l (ao op A B) loc S:=λ_ _ _ _ dk hT q=>
 e _ _ _ (y _ _ _ _ dk hT λv c d d2=>(w v d).elim λr z=>z.2 _ _ (q r c z.1 d2))
theorem P6(x:XD D C k A loc P)(e:∀h X,Ev B X ⟨loc,h⟩ v)(w:∀u,P u->∃r,S r∧∀h (Qv:V->Prop),Qv r->El op u v h Qv):XD D C k (ao op A B) loc S:=λ_ _ _ _ dk hT q=>
 x _ _ _ _ dk hT λu h1 p d1=>e _ _ _ ((w u p).elim λr z=>z.2 _ _ (q r h1 z.1 d1))
theorem DL(e:∀h X,Ev A X ⟨loc,h⟩ u)(y:XD D C l B loc R)(w:∀v,R v->∃r,S r∧∀h (Qv:V->Prop),Qv r->gm u v h Qv):XD D C l (aQ A B) loc S:=λ_ _ _ _ dk hT q=>
 e _ _ _ (y _ _ _ _ dk hT λv c d d2=>(w v d).elim λr z=>z.2 _ _ (q r c z.1 d2))
theorem B0(x:XD D C k A loc P)(e:∀h X,Ev B X ⟨loc,h⟩ v)(w:∀u,P u->∃b,S (.bool b)∧∀h (Qv:Bool->Prop),Qv b->tN op u v h Qv):XD D C k (aC op A B) loc S:=λ_ _ _ _ dk hT q=>
 x _ _ _ _ dk hT λu h1 p d1=>e _ _ _ ((w u p).elim λr z=>z.2 _ _ (q _ h1 z.1 d1))
theorem xV(x:XD D C k A loc P)(s:∀u,P u->S (.lst [u])):XD D C k (bp (aa A ag)) loc S:=λ_ _ _ _ dk hT q=>
 x _ _ _ _ dk hT λu h1 p d1=>V8 (V5 rfl) (q _ h1 (s u p) d1)
theorem SO(x:XD D C k f loc λv=>∃b,v=.bool b)(y:XD D C l A loc R)(z:XD D C l B loc R):XD D C (k+l) (bA f A B) loc R:=λ_ _ _ _ dk hT q=>
 x _ _ _ _ dk (dW hT).1 λu h1 p d1=>p.elim λb e=>by
  subst e
  exact Kr (λ_=>y _ _ _ _ d1.d (dW hT).2 λv w c d2=>q v w c (d1.then_ d2)) λ_=>z _ _ _ _ d1.d (dW hT).2 λv w c d2=>q v w c (d1.then_ d2)
theorem DM{I:AH->Prop}(f:∀T h c,I h->Drawn D C T h c->I c)(e:∀a T h (Q:V->St->Prop) X,I h->cN D C T h->T+k<=1000000->(∀v c,P v->Drawn D C (T+k) h c->Q v ⟨none::some a::cap,c⟩)->E Q X ⟨none::some a::cap,h⟩):∀(items z:List V) (x:Option V) (T:Nat) (h:AH) (Q:List V->St->Prop),I h->cN D C T h->T+items.length*k<=1000000->(∀us x c,us.length=items.length->(∀u∈us,P u)->Drawn D C (T+items.length*k) h c->Q (z++us) ⟨none::x::cap,c⟩)->iF (aj 1) j0 E items z Q ⟨none::x::cap,h⟩:=by
 intro o
 induction o with
 |nil=>
  intro z x T h Q _ dk hT q
  have:=q [] x h rfl an (by rw[X6,Nat.zero_mul];exact .rfl dk);rwa [WH]at this
 |cons a r L=>
  intro z x T h Q i dk hT q
  rw[WM,aac,W4 (r.length*k)]at hT q
  exact e a T h _ uS i dk (dW hT).1 λv h1 p d1=>L (z++[v]) _ _ h1 Q (f _ _ _ i d1) d1.d (dW hT).2 λus y J l w d2=>by
   rw[Wn]
   exact q (v::us) y J (congrArg (· + 1) l) (λu b=>by
    cases b with
    |head=>exact p
    |tail _ b=>exact w u b) (d1.then_ d2)
theorem P7(z:∀a,XD D C k E (none::some a::cap) P)(items d:List V)(x:Option V)(T:Nat)(h:AH)(Q:List V->St->Prop)(dk:cN D C T h)(hT:T+items.length*k<=1000000)(q:∀us x y,us.length=items.length->(∀u∈us,P u)->Drawn D C (T+items.length*k) h y->Q (d++us) ⟨none::x::cap,y⟩):iF (aj 1) j0 E items d Q ⟨none::x::cap,h⟩:=
 DM (I:=λ_=>True) (λ_ _ _ _ _=>trivial) (λa T h Q X _=>z a T h Q X) items d x T h Q trivial dk hT q
theorem xW{is:List Nat}{It:PT}{G:List V->Prop}(w:m<=1000000)(f:XD D C j It loc λv=>∃items,v=.lst items∧items.length<=m∧G items)(o:∀a,XD D C k E (none::some a::eI is loc) P):XD D C (j+m*k) (a7 2 is (hV (aj 1) j0 E) It) loc λv=>∃us items,v=.lst us∧us.length=(items:List V).length∧G items∧∀u∈us,P u:=λT _ Q X dk hT q=>
 f _ _ _ _ dk (dW hT).1 λv h1 p d1=>p.elim λitems z=>by
  obtain⟨rfl,c,b⟩:=z
  have le:=aaw k c
  refine V8 (by rw[X6,Xn];exact V4 c w) (P7 o items [] _ _ h1 _ d1.d (V4 (Wu le _) (dW hT).2) λus y e l x d2=>q (.lst us) e ⟨us,items,rfl,l,b,x⟩ (d1.then_ (d2.up (Wu le _))))
theorem fR:∀(m:Nat) (x:Int),(eA d m x).length=m:=by
 intro zi
 induction zi with
 |zero=>
  intro _
  exact rfl
 |succ m ih=>
  intro x
  exact congrArg (· + 1) (ih _)
theorem nL{X:St->Prop}{st:St}{N:Nat}(hA:Ev A X st (.int N))(l:N<=1000000):Ev (da (aa A ag)) X st (.lst (eA 1 N 0)):=λQ k=>hA _ (V8 ⟨aaQ dD (Ww N),XS.mpr l⟩ k)
theorem b7(kn:Kn g K)(z:1<=n){below:Nat}(hb:0<below)(y:below<2^30):Dr g n 469 D C 1 [.ref D,.int below] λv=>∃k:Nat,k<below∧v=.int k:=λ_ _ _ _ dk hT q=>
 P2 kn z hb y dk (X9 hT) λk c l d=>q _ c ⟨k,l,rfl⟩ d
theorem rE(kn:Kn g K)(q:2<=n){vs:List V}(h0:0<vs.length)(d:vs.length<2^30):Dr g n 476 D C 1 [.ref D,.lst vs] λv=>v∈vs:=
 dj (n:=1) kn kn.law_pick rfl q (jF (DL (λ_ _ _ k=>k) (cj (λ_ _ _ k=>k) (b7 kn (Wh _) h0 d)) λv p=>p.elim λi z=>by
  obtain⟨lt,rfl⟩:=z
  exact⟨vs[i],ZJ lt,λh Qv k=>by
   show Gw vs i Qv
   unfold Gw
   rw[if_neg xM]
   exact V8 (Ww i) (az (Xb lt) k)⟩))
theorem zW(kn:Kn g K)(q:2<=n){b:List UInt8}(h0:0<b.length)(d:b.length<2^30):Dr g n 476 D C 1 [.ref D,.bytes b] λv=>∃c∈b,v=.int (c.toNat:Nat):=
 dj (n:=1) kn kn.law_pick rfl q (jF (DL (λ_ _ _ k=>k) (cj (λ_ _ _ k=>k) (b7 kn (Wh _) h0 d)) λv p=>p.elim λi z=>by
  obtain⟨lt,rfl⟩:=z
  exact⟨.int (b[i].toNat:Nat),⟨b[i],ZJ lt,rfl⟩,λh Qv k=>V8 (Ww i) (az (Xb lt) k)⟩))
theorem iw{l:List Nat}(d:∀x∈l,x<256){h:AH}{Qv:VP}(k:Qv (.bytes (Fx l)) h):du (.lst (l.map λx:Nat=>.int x)) h Qv:=az (jS (λc:Nat=>(c:Int)) l) (V8 (λm q=>by
 obtain⟨c,hc,rfl⟩:=WC.mp q
 exact⟨Ww _,Xl.mpr (d c hc)⟩) (by rw[Xy];exact k))
structure eY(size:Nat)(b:List UInt8):Prop where
 l:b.length=size
 h:b.head? = some 171
 z:∀c∈b,c≠0
theorem Jd(h0:0<x)(h1:x<256):x.toUInt8≠0:=λe=>by
 have:=congrArg acV e
 rw[adf,acp,abu h1]at this
 exact YD h0 this
theorem tm(kn:Kn g K)(w:2<=n){size:Nat}(h0:0<size)(hs:size<=4):Dr g n 486 D C 4 [.ref D,.int size] λv=>∃b,v=.bytes b∧eY size b:=by
 obtain⟨s,rfl⟩:∃s,size=s+1:=⟨size-1,(aa3 h0).symm⟩
 refine dj (n:=1) kn kn.law_oid rfl w (jF (P5 (P:=λv=>∃l:List Nat,v=.lst ((171::l).map λx:Nat=>.int x)∧l.length=s∧∀x∈l,0<x∧x<256) (tj (u:=.lst [.int 171]) (λ_ _ _ k=>V8 (V5 rfl) k) (xW (m:=4) (k:=1) (j:=0) (P:=λv=>∃d:Nat,d<255∧v=.int (1+d:Nat)) (G:=λl=>l.length=s) dD ?_ λa=>?_) ?_) ?_))
 ·exact l4 (v:=.lst (eA 1 s 0)) (λh X=>nL (N:=s) (bq Iq (congrArg V.int (Z3 (s:Int) 1))) (V4 (X9 hs) dD)) ⟨_,rfl,by rw[fR];exact X9 hs,fR s 0⟩
 ·exact tj (u:=.int 1) (λ_ _ _ k=>k) (cj (λ_ _ _ k=>k) (b7 kn (Wh _) dD dD)) λv p=>p.elim λd z=>⟨.int (1+d:Nat),⟨d,z.1,rfl⟩,λh Qv k=>by rw[z.2];exact k⟩
 ·rintro v ⟨us,items,rfl,y,l2,p⟩
  obtain⟨l,rfl,q⟩:=all_map (f:=λd:Nat=>V.int (1+d:Nat)) p
  rw[Wd]at y
  refine⟨.lst ((171::l.map (1+·)).map λx:Nat=>.int x),⟨l.map (1+·),rfl,by rw[Wd,y,l2],λx hx=>?_⟩,λh Qv k=>?_⟩
  ·obtain⟨d,hd,rfl⟩:=WC.mp hx
   exact⟨WA adB (Wq 1 d),by rw[W4];exact Nat.succ_lt_succ (q d hd)⟩
  ·refine V8 ?_ ?_
   ·rw[Wd,y,l2];exact V4 (Wu (X9 hs) 1) dD
   ·rw[WO,Xy]at k;exact k
 ·rintro u ⟨l,rfl,q,p⟩
  have lt:∀x∈171::l,x<256:=λx hx=>by
   cases hx with
   |head=>decide
   |tail _ hx=>exact(p x hx).2
  refine⟨.bytes (Fx (171::l)),⟨_,rfl,⟨by unfold Fx;rw[Wd,WM,q],rfl,λc hc=>?_⟩⟩,λh Qv k=>iw lt k⟩
  obtain⟨x,hx,rfl⟩:=WC.mp hc
  cases hx with
  |head=>decide
  |tail _ hx=>exact Jd (p x hx).1 (p x hx).2
end
theorem UJ:∀n:Nat,n<256->((0<=(n:Int).fdiv 16*(1-0)+(n:Int).fmod 16*0∧ny[((n:Int).fdiv 16*(1-0)+(n:Int).fmod 16*0).toNat]? = some (ez.getD (n/16) 0).toUInt8)∧((0<=(n:Int).fdiv 16*(1-1)+(n:Int).fmod 16*1∧ny[((n:Int).fdiv 16*(1-1)+(n:Int).fmod 16*1).toNat]? = some (ez.getD (n%16) 0).toUInt8))):=dD
theorem B1(h:m<256):(m.toUInt8).toNat=m:=by rw[adf,acp,abu h]
inductive uN(b b':List UInt8):Prop
 |mk (p m1 m2 r:List UInt8) (e1:b=p++(m1++r)) (e2:b'=p++(m2++r)) (l1:m1.length<=1) (l2:m2.length<=1)
section
variable{g:Gl}{K:Frag}{n m i j k l a:Nat}{D C:Addr}{loc cap:List (Option V)}{P R S:V->Prop}{E F A B W r:PT}{u v:V}{vs:List V}{h:AH}
noncomputable abbrev NV:PT:=aQ (ae 3) (ao .Add (ao .Mult (ao .FloorDiv (ae 1) (af (.int 16))) (ao .Sub (af (.int 1)) (ae 2))) (ao .Mult (ao .Mod (ae 1) (af (.int 16))) (ae 2)))
theorem Je{c k:Int}{d:UInt8}(h1:ady (c.fdiv 16) (1-k))(h2:ady (c.fmod 16) k)(e:0<=c.fdiv 16*(1-k)+c.fmod 16*k∧ny[(c.fdiv 16*(1-k)+c.fmod 16*k).toNat]? = some d):Ev NV uS ⟨[none,some (.int c),some (.int k),some (.bytes ny)],h⟩ (.int (d.toNat:Nat)):=λQ q=>
 V8 ⟨by decide,rfl⟩ (V8 h1 (V8 (show(16:Int)≠0 by decide) (V8 h2 (V8 e.1 (az e.2 q)))))
theorem Jf:∀(b:List UInt8) (acc:List V) (x y:Option V) (Q:List V->St->Prop),acc.length+2*b.length<=900000->(∀x y,Q (acc++(cz b).map λc:Nat=>.int c) ⟨[none,x,y,some (.bytes ny)],h⟩)->fU (aj 1) (aj 2) (a6 (c8 (aa (af (.int 0)) (aa (af (.int 1)) ag)))) NV (b.map λc:UInt8=>.int (c.toNat:Nat)) acc Q ⟨[none,x,y,some (.bytes ny)],h⟩:=by
 intro zi
 induction zi with
 |nil=>
  intro acc x y Q _ q
  have:=q x y;rwa [show(cz []).map (λc:Nat=>V.int c)=[]from rfl,WH]at this
 |cons c b ih=>
  intro acc x y Q l q
  have nb:=UJ c.toNat c.toNat_lt
  have e1:=B1 (rD (c.toNat/16))
  have e2:=B1 (rD (c.toNat%16))
  rw[WM,abP,W4 (2*b.length),←WJ]at l
  refine V8 (V5 rfl) (V8 (V4 (Wq _ _) l) (Je (k:=0) (zE dD dD) (zE dD dD) nb.1 _ (Je (k:=1) (zE dD dD) (zE dD dD) nb.2 _ ?_)))
  refine ih _ _ _ Q (by rw[V6,V6];exact l) λx y=>?_
  have:=q x y
  rw[e1,e2,Wn,Wn]
  exact this
theorem pP(kn:Kn g K)(hn:1<=n)(hb:b.length<=400000):cU g n 481 [.bytes b] (some (.bytes (bg b))):=λ{Q X h} q=>by
 refine((aH (n:=0) (kn.H 0) kn.law_hex rfl ?_).call).up hn
 refine aZ Iq (a5 (v:=.bytes (bg b)) (λQe k=>?_) (bc q))
 exact Jf b [] none none _ (by rw[X6,Xn];exact V4 (WX 2 hb) dD) λx y=>iw (l:=cz b) (Qv:=λv h'=>Qe v ⟨_,h'⟩) xN k
theorem zX(h:uN b b'):b'.length<=b.length+1:=by
 obtain⟨p,m1,m2,r,rfl,rfl,l1,l2⟩:=h
 rw[V6,V6,V6,V6]
 exact V4 (Wu (Wv l2 _) _) (by rw[W4 1,WJ];exact Wm (Wu (XU _ _) _))
theorem UK{b:List UInt8}{i:Nat}:b=b.take i++((b.drop i).take 1++b.drop (i+1)):=by
 rw[←Xc,Yz,Yz]
theorem xX{b:List UInt8}{i:Nat}{m2:List UInt8}(l:m2.length<=1):uN b (b.take i++m2++b.drop (i+1)):=⟨_,_,m2,_,UK,Wn ..,by rw[Xi];exact abU _ _,l⟩
theorem Jg(l:m2.length<=1):uN b (b.take i++m2++b.drop i):=⟨_,[],m2,_,(Yz i b).symm,Wn ..,Wy _,l⟩
theorem zY(hb:b.length<=100000)(h:uN b b'):b'.length<=100001:=V4 (zX h) (Wm hb)
theorem DO(kn:Kn g K)(hn:3<=n){b:List UInt8}{most:Nat}(h0:0<most)(h1:most<2^30)(hb:b.length<=100000):Dr g n 500 D C (1+(1+(1+1+0))) [.ref D,.bytes b,.int most] λv=>∃b',v=.bytes b'∧uN b b':=by
 refine dj (n:=2) kn kn.law_bent rfl hn (iv (cj (λ_ _ _ k=>k) (b7 kn dD h0 h1)) (cj (λ_ _ _ k=>k) (b7 kn dD dD dD)) ?_)
 rintro u v ⟨i,_,rfl⟩ ⟨w,_,rfl⟩
 refine fh (P:=λv=>∃c:UInt8,v=.bytes [c]) (P5 (P:=λv=>∃d:Nat,d<256∧v=.lst [.int d]) (xV (P:=λv=>∃d:Nat,d<256∧v=.int d) (SO (B0 (v:=.int 0) (P:=λv=>∃k:Nat,k<3∧v=.int k) (cj (n:=2) (vs:=[.ref D,.int 3]) (λ_ _ _ k=>k) (b7 (below:=3) kn dD dD dD)) (λ_ _ _ k=>k) λu p=>?_) ?_ ?_) λu p=>p.elim λd z=>⟨d,z.1,by rw[z.2]⟩) λu p=>?_) ?_
 ·obtain⟨d,_,rfl⟩:=p
  exact⟨decide ((d:Int)>0),⟨_,rfl⟩,λ_ _ k=>k⟩
 ·exact(cj (vs:=[.ref D,.bytes [0,32,47,48,49,52,57,97,98,103,46,10,65,71]]) (λ_ _ _ k=>k) (zW kn dD dD dD)).imp λv p=>p.elim λc z=>⟨c.toNat,c.toNat_lt,z.2⟩
 ·exact cj (vs:=[.ref D,.int 256]) (λ_ _ _ k=>k) (b7 (below:=256) kn dD dD dD)
 ·obtain⟨d,hd,rfl⟩:=p
  exact⟨.bytes (Fx [d]),⟨d.toUInt8,rfl⟩,λh Qv k=>iw (l:=[d]) (λx hx=>by rw[Wr.mp hx];exact hd) k⟩
 rintro v ⟨c,rfl⟩
 have s1:([c]:List UInt8).length<=1:=Wh _
 have la:∀{x y:List UInt8},uN b (x++y)->Aw (x.length+y.length):=λh=>bt (zY hb h) dD
 have lb:Aw ((b.take i).length+1):=V4 (Wv (by rw[Xi];exact V4 (YC _ _) hb) 1) dD
 refine xU (b:=(w:Int)==0) (λ_ _ _ k=>k) (λ_=>l4 (λ_ _=>bl (bl (bq Iq (congrArg V.bytes eN)) Iq lb) (bq Iq (congrArg V.bytes (dg (a:=i+1)))) (la (xX s1))) ⟨_,rfl,xX s1⟩) λ_=>?_
 refine jF (l4 (v:=bif (w:Int)==1 then .bytes (b.take i++b.drop (i+1))else .bytes (b.take i++[c]++b.drop i)) (λ_ _=>kD (b:=(w:Int)==1) Iq (λe=>?_) λe=>?_) ?_)
 ·have:=xX (b:=b) (i:=i) (m2:=[]) (Wy _)
  rw[WH]at this
  rw[e];exact bl (bq Iq (congrArg V.bytes eN)) (bq Iq (congrArg V.bytes (dg (a:=i+1)))) (la this)
 ·rw[e];exact bl (bl (bq Iq (congrArg V.bytes eN)) Iq lb) (bq Iq (congrArg V.bytes dg)) (la (Jg s1))
 ·cases (w:Int)==1 with
  |true=>exact⟨_,rfl,by have:=xX (b:=b) (i:=i) (m2:=[]) (Wy _);rwa [WH]at this⟩
  |false=>exact⟨_,rfl,Jg s1⟩
end
noncomputable def LM:List (List UInt8×Nat):=[([49,48,48,54,52,52],33188),([49,48,48,55,53,53],33261),([49,50,48,48,48,48],40960),([52,48,48,48,48],16384),([49,54,48,48,48,48],57344),([49,48,48,54,54,52],33204)]
noncomputable def bD(b:List UInt8):Option Nat:=(LM.find? λp=>decide (p.1=b)).map (·.2)
noncomputable def L8:DB:=LM.map λp=>(p.1,.int p.2)
noncomputable def a9.t(e:a9):V:=.tup [.int e.m,.bytes e.x,.bytes e.o]
noncomputable def vu(o:Option (List a9)):V:=WY (motive:=λ_=>V) o .none λl=>.lst (l.map a9.t)
theorem NW(b:List UInt8):atKey L8 b=(bD b).map λm:Nat=>V.int m:=by
 unfold atKey L8 bD
 rw[List.find?_map,Z5,Z5];rfl
section
variable{g:Gl}{K:Frag}{n:Nat}{h h0:AH}{size:Nat}
theorem P8(q:bh 32 s=some p)(d:bh 0 (s.drop (p+1))=none):rf md size s=none:=by
 unfold rf;rw[q];show(md (s.take p)).bind _=none;rw[d];cases md (s.take p) <;> rfl
theorem P9(e:bh 32 s=some p):bh 0 (s.drop p)=(bh 0 (s.drop (p+1))).map (· + 1):=by
 obtain⟨a,r,rfl,_,rfl⟩:=fQ e
 rw[Zd,List.drop_append,aei,Zl (Xq _)];rfl
structure LR(b:List UInt8)(size:Nat)(h:AH)(c d:Addr)(Q:V->AH->Prop)(f:Nat)(acc:List a9)(at_:Nat)(h':AH):Prop where
 w:sX h c d (.list (acc.map a9.t)) (.dict .b L8) h'
 n:(b.drop at_).length<=f
 m:acc.length<=at_
 q:Q (vu ((gf bD size f (b.drop at_)).map λr=>acc++r)) h
theorem L9(q:Ev E X ⟨loc,h⟩ (.bytes x))(y:(loc[i]?).join=some (.ref d))(e:h d=some (.dict .b L8)):Ev (aC .NotIn E (ae i)) X ⟨loc,h⟩ (.bool (!(bD x).isSome)):=bJ q (λ_ k=>az y k) λP k=>in_dict (P:=λc=>P (!c)) e (by unfold known;rw[NW,ae8];exact k)
theorem Qa(z:(loc[i]?).join=some (.ref d))(j:Ev E X ⟨loc,h⟩ (.bytes x))(e:h d=some (.dict .b L8))(y:bD x=some m):Ev (aQ (ae i) E) X ⟨loc,h⟩ (.int m):=λQ k=>az z (j _ (by
 show gm (.ref d) (.bytes x) h _
 unfold gm
 rw[nr e]
 exact az e (show dR (DK.key .b (.bytes x)) (λq=>dR (atKey L8 q) λv=>Q v ⟨loc,h⟩)from az (a:=x) rfl (az (by rw[NW,y];rfl) k))))
theorem Qb:(((a+(r+1):Nat):Int)==(a:Int)+1)=Yr r 0:=by
 have:=IK (a:=a) (q:=r)
 rwa [WJ,W4 1]at this
theorem UL{L a q size:Nat}(h:q<L-(a+1)):decide (((a+(q+1):Nat):Int)+1+size>L)=decide (L-(a+1)<q+1+size):=by
 rw[←IJ h,WJ a 1,W4 1]
theorem Qd(hp:jl k [] vs=some out)(y:∀q,Ev W X ⟨loc,q⟩ (.lst vs))(l:vs.length<=100)(j:∀d,h d=none->r Q X ⟨loc.set i (some (.ref d)),upd (upd h d (some (.dict k []))) d (some (.dict k out))⟩):ah (aD (aj i) (p8 k W)) r Q X ⟨loc,h⟩:=λd hd=>y _ _ (az hp (V8 ⟨l,aB _ _ _⟩ (j d hd)))
theorem tn(kn:Kn g K)(hn:1<=n){b:List UInt8}(hb:b.length<=900000):cU g n 538 [.bytes b,.int size] (some (vu (eP bD size b))):=λ{Q X h} q=>by
 refine((aH (n:=0) (kn.H 0) kn.law_rows rfl ?_).call).up hn
 have hp:jl .b [] [.bytes [49,48,48,54,52,52],.int 33188,.bytes [49,48,48,55,53,53],.int 33261,.bytes [49,50,48,48,48,48],.int 40960,.bytes [52,48,48,48,48],.int 16384,.bytes [49,54,48,48,48,48],.int 57344]=some ((LM.take 5).map λp=>(p.1,V.int p.2)):=by kernel_rfl
 have hk:fE ((LM.take 5).map λp=>(p.1,V.int p.2)) [49,48,48,54,54,52] (.int (33204:Nat))=L8:=by kernel_rfl
 refine Qd hp (λ_ _ k=>k) (V5 rfl) λd hd=>?_
 refine NR (v:=.int (33204:Nat)) Iq rfl Iq (aB _ _ _) (V5 rfl) ?_
 rw[hk]
 refine(λ(k:∀H:AH,H d=some (.dict .b L8)->(∀a,a≠d->H a=h a)->m9 g 0 (dC Q) (bz X) ⟨[some (.bytes b),some (.int size),some (.ref d),none,none,none,none],H⟩)=>k _ (aB _ _ _) λa n=>(aE n).trans ((aE n).trans (aE n))) λH eD I=>?_
 refine BN (λc hc=>?_) rfl
 have j:c≠d:=λz=>by rw[z,eD]at hc;cases hc
 have B:h c=none:=(I c j).symm.trans hc
 have fr:∀{U:List a9} {h'} ,sX h c d (.list (U.map a9.t)) (.dict .b L8) h'->Sub h h':=λw=>w.sub B hd
 refine s7 (λs:(List a9×Nat)×Option V×Option V×AH=>⟨[some (.bytes b),some (.int size),some (.ref d),some (.ref c),some (.int s.1.2),s.2.1,s.2.2.1],s.2.2.2⟩) (λf s=>LR b size h c d Q f s.1.1 s.1.2 s.2.2.2) (λs=>decide ((s.1.2:Int)<b.length)) (λm s i _ k=>k) (λs i=>?_) (λm s i e=>?_) (λf s i G Qc kn L=>?_) b.length (([],0),none,none,upd H c (some (.list []))) ⟨⟨j,aB _ _ _,(aE (XW j)).trans eD,λa n1 n2=>(aE n1).trans (I a n2)⟩,Wh _,Wh _,?_⟩
 ·rw[g7,Xa.mpr (W7 (YS i.n))];rfl
 ·have q:=i.q
  rw[BL (ni ((g7 (b:=b)).symm.trans e))]at q
  have q:Q (.lst ((s.1.1++[]).map a9.t)) h:=q
  rw[WH]at q
  refine a5 Iq (.fr c _ i.w.at_ ?_)
  show Fin Q (if c=c then .lst (s.1.1.map a9.t)else .ref c) _
  rw[if_pos rfl]
  exact .mk (λa o z=>(aE (λy=>by rw[y,B]at z;cases z)).trans (fr i.w a o z)) q
 ·have q:=i.q
  rw[BK (cw ((g7 (b:=b)).symm.trans G))]at q
  refine aZ (bq (kE Iq rfl Iq λ_ k=>V8 ⟨Ww _,rfl⟩ k) (congrArg V.int (sZ b 32 s.1.2))) ?_
  generalize J:bh 32 (b.drop s.1.2)=D;cases D with
  |none=>
   rw[BH J]at q
   exact aZ (v:=.int (-1)) (kD (b:=false) Iq ff λ_ _ k=>k) (bI (cg (a:=true) (b:=false) Iq tf) (λ_ _ k=>k) (λ_=>L _ _ (.mk (fr i.w) q)) tf)
  |some p=>
   have Z:=sZ b 0 (s.1.2+p)
   rw[←Xc,P9 J,Xc,←WJ]at Z
   refine aZ (v:=.int (a8 b [0] (s.1.2+p))) (kD (b:=true) (bq Iq (congrArg V.bool (decide_eq_true (Ww _)))) (λ_=>kE Iq rfl Iq λ_ k=>V8 ⟨Ww _,rfl⟩ k) tf) ?_
   rw[Z]
   generalize S:bh 0 (b.drop (s.1.2+p+1))=D;cases D with
   |none=>
    rw[P8 J (by rw[Xc,←WJ];exact S)]at q
    exact bI (cg (a:=true) (b:=false) Iq tf) (λ_ _ k=>k) (λ_=>L _ _ (.mk (fr i.w) q)) tf
   |some r=>
    have Y:=rC S
    rw[WV]at Y
    show ah (bA (cF (aC .Lt (ae 6) (af (.int 0))) _) _ _) _ _ _ ⟨[some (.bytes b),some (.int size),some (.ref d),some (.ref c),some (.int s.1.2),some (.int (s.1.2+p:Nat)),some (.int (s.1.2+p+(r+1):Nat))],s.2.2.2⟩
    have R:=L9 (h:=s.2.2.2) (i:=2) (X:=bz X) (loc:=[some (.bytes b),some (.int size),some (.ref d),some (.ref c),some (.int s.1.2),some (.int (s.1.2+p:Nat)),some (.int (s.1.2+p+(r+1):Nat))]) (E:=bb (ae 0) (ae 4) (ae 5)) (bq Iq (congrArg V.bytes gc)) rfl i.w.dt
    generalize u:bD ((b.drop s.1.2).take p)=D;cases D with
    |none=>
     rw[BI J u]at q
     rw[u]at R
     exact bI (cg (a:=false) (b:=true) (bq Iq (congrArg V.bool nv)) λ_=>cg (a:=true) (b:=false) R tf) (λ_ _ k=>k) (λ_=>L _ _ (.mk (fr i.w) q)) tf
    |some m=>
     have d1:(b.drop s.1.2).drop (p+1)=b.drop (s.1.2+p+1):=Xc ..
     rw[BJ J u,d1,S]at q
     rw[u]at R
     have q:Q (vu (((FG m size p r (b.drop (s.1.2+p+1))).bind λx=>(gf bD size f ((b.drop s.1.2).drop x.2)).map (x.1::·)).map λr=>s.1.1++r)) h:=q
     unfold FG at q
     rw[WV,←UL Y]at q
     refine bI (b:=Yr r 0||decide (((s.1.2+p+(r+1):Nat):Int)+1+size>b.length)) (cg (a:=false) (bq Iq (congrArg V.bool nv)) λ_=>cg (a:=false) R λ_=>cg (bq Iq (congrArg V.bool Qb)) λ_=>fA Iq) (λ_ _ k=>k) (λe=>L _ _ (.mk (fr i.w) ?_)) λe=>?_
     ·revert q e
      generalize Yr r 0=x
      generalize decide (((s.1.2+p+(r+1):Nat):Int)+1+size>b.length)=y
      intro q e
      cases y with
      |true=>exact q
      |false=>cases x with
       |true=>exact q
       |false=>cases e
     ·have e:=X4.mp e
      rw[e.1,e.2]at q
      have d2:b.drop (s.1.2+p+(r+1)+1)=(b.drop (s.1.2+p+1)).drop (r+1):=by rw[Xc];exact congrArg (b.drop ·) (XQ _ (r+1) 1)
      have q:Q (vu (((gf bD size f ((b.drop s.1.2).drop (p+1+(r+1)+size))).map (a9.mk m ((b.drop (s.1.2+p+1)).take r) (((b.drop (s.1.2+p+1)).drop (r+1)).take size)::·)).map λr=>s.1.1++r)) h:=q
      rw[Z5,←d2,Xc]at q
      have la:=Xl.mp (of_decide_eq_true G)
      have pos:0<p+1+(r+1)+size:=WA (Xs (p+1+r)) (Wq _ _)
      refine eF (v:=a9.t ⟨m,(b.drop (s.1.2+p+1)).take r,(b.drop (s.1.2+p+(r+1)+1)).take size⟩) (λQ k=>ar (Qa rfl (bq Iq (congrArg V.bytes gc)) i.w.dt u) (ar (bq Iq (congrArg V.bytes ((show bY b (some ((s.1.2+p:Nat)+1:Int)) (some ((s.1.2+p+(r+1):Nat):Int))=bY b (some ((s.1.2+p+1:Nat):Int)) (some ((s.1.2+p+1+r:Nat):Int)) by rw[WJ (s.1.2+p) 1 r,W4 1 r];rfl).trans gc))) (ar (bq Iq (congrArg V.bytes (gc (a:=s.1.2+p+(r+1)+1) (p:=size)))) λ_ k=>k)) _ (V8 (V5 rfl) k)) rfl i.w.at_ ?_ ?_
      ·rw[Wd];exact Wp i.m (WA la (V4 hb dD))
      ·refine aZ (v:=.int ((s.1.2+(p+1+(r+1)+size):Nat):Int)) (bq Iq (congrArg (λx:Nat=>V.int x) (show s.1.2+p+(r+1)+1+size=s.1.2+(p+1+(r+1)+size) by simp only[WJ,abe,W4]))) (kn ((s.1.1++[⟨m,(b.drop (s.1.2+p+1)).take r,(b.drop (s.1.2+p+(r+1)+1)).take size⟩],s.1.2+(p+1+(r+1)+size)),_,_,upd s.2.2.2 c (some (.list (s.1.1.map a9.t++[a9.t ⟨m,(b.drop (s.1.2+p+1)).take r,(b.drop (s.1.2+p+(r+1)+1)).take size⟩])))) ⟨?_,?_,?_,?_⟩)
       ·rw[WE];exact i.w.put
       ·rw[WV]
        have:=i.n
        rw[WV]at this
        exact Zz (WA (aaK la (Yi pos)) this)
       ·rw[V6];exact Wx i.m pos
       ·rw[show ∀x:a9,(λr=>(s.1.1++[x])++r)=(λr=>s.1.1++r)∘(x::·)from λx=>funext λr=>by rw[Wn];rfl]
        exact q
 ·have q:Q (vu (gf bD size b.length b)) h:=q
  rw[←Option.map_id' (x:=gf bD size b.length b)]at q
  exact q
end
theorem Jh(h:∀v∈vs,f v v=some true):M7 f vs vs=some true:=by
 unfold M7
 induction vs with
 |nil=>rfl
 |cons v r q=>
  rw[aej,adj,q λu d=>h u (.tail _ d),h v (.head _)];rfl
theorem pQ(h:∀v∈vs,f v v=some true):jZ o f vs vs=some true:=by unfold jZ;rw[if_pos rfl,Jh h]
theorem eq_int:jh (n+1) (.int i) (.int i)=some true:=congrArg some (beq_self_eq_true i)
theorem eq_bytes:jh (n+1) (.bytes b) (.bytes b)=some true:=congrArg some (beq_self_eq_true b)
theorem B3(h:∀v∈vs,jh n v v=some true):jh (n+1) (.tup vs) (.tup vs)=some true:=pQ h
theorem pR(h:∀v∈vs,jh n v v=some true):jh (n+1) (.lst vs) (.lst vs)=some true:=pQ h
theorem Qf{P:V->Prop}{a b c:V}(h1:P a)(q:P b)(d:P c):∀v∈[a,b,c],P v:=λv h=>by
 rcases Wf.mp h with rfl|h
 ·exact h1
 rcases Wf.mp h with rfl|h
 ·exact q
 rw[Wr.mp h];exact d
theorem xY{es:List a9}:jh 4 (.lst (es.map a9.t)) (.lst (es.map a9.t))=some true:=pR λv h=>by
 obtain⟨e,_,rfl⟩:=WC.mp h
 exact B3 (Qf eq_int eq_bytes eq_bytes)
noncomputable def ri(x:List UInt8):Bool:=x.contains 47||(([46]==x)||([46,46]==x)||(x.map ZS==[46,103,105,116]))
noncomputable def a9.key(e:a9):List UInt8:=sT e.m e.x
structure SP(es:List a9):Prop where
 nd:(es.map a9.x).Nodup
 so:(es.map a9.key).Pairwise λa b=>(abl a b != .gt)=true
 no:∀e∈es,ri e.x=false
 md:∀e∈es,e.m≠33204
noncomputable def uO(es:List a9):Bool:=@decide (SP es) (W5 _)
structure B4(b:List UInt8)(es:List a9):Prop where
 b:cv es=b
 m:∀e∈es,sW e.m
 f:(fg es [] none []).isEmpty=uO es
 s:uO es=true->∀e∈es,nt es e.x=e.v
 n:uO es=true->nt es [110,111,116,104,105,110,103]=.none
 l:es.length<=10000
 x:∀e∈es,e.x.length<=1000000
section
variable{g:Gl}{K:Frag}{n i:Nat}{h h0:AH}{size:Nat}{Q:V->AH->Prop}{X:AH->Prop}{loc:List (Option V)}{E r A B:PT}{o:Option V}{v:V}{b:List UInt8}{es:List a9}{v4 v5 v6:Option V}
theorem Qg{Q:V->St->Prop}{X:St->Prop}(q:∀(Q':V->St->Prop) (d:St->Prop),cy o (λv h=>Q' v ⟨loc,h⟩) (λh=>d ⟨loc,h⟩) h->E Q' d ⟨loc,h⟩)(k:r Q X ⟨WY (motive:=λ_=>List (Option V)) o (loc.set i (some v)) λ_=>loc,h⟩):ah (vQ (ah (fX E) ai) i v) r Q X ⟨loc,h⟩:=
 q _ _ (by cases o <;> exact k)
theorem dh{X:St->Prop}{st:St}{u w:V}(h1:Ev A X st u)(d:Ev B X st w)(e:eqT (res st.h u) (res st.h w)=some true):Ev (aC .NotEq A B) X st (.bool false):=bJ h1 d λ_ k=>az e k
theorem NX{X:St->Prop}{st:St}{u w:V}(h1:Ev A X st u)(d:Ev B X st w)(e:eqT (res st.h u) (res st.h w)=some true):Ev (aC .Eq A B) X st (.bool true):=bJ h1 d λ_ k=>az e k
theorem Vg{X:St->Prop}{st:St}(h1:Ev A X st (.bool false))(d:Ev B X st (.bool false)):Ev (cF A (cF B (af (.bool .false)))) X st (.bool false):=cg (a:=false) h1 λ_=>cg (a:=false) d λ_ _ k=>k
theorem Ji{X:St->Prop}{e:a9}{loc:List (Option V)}:Ev (c8 (aa (aS (ae 1) fG) (aa (aS (ae 1) bH) (aa (aS (ae 1) jt) ag)))) X ⟨none::some e.v::loc,h⟩ e.t:=λ_ k=>V8 trivial (V8 trivial (V8 trivial (V8 (V5 rfl) k)))
theorem Qh(kn:Kn g K)(j:es.length<=1000000)(hs:∀e∈es,nt es e.x=e.v)(d:nt es [110,111,116,104,105,110,103]=.none)(q:Q (.bool true) h):f7 g 9 (dC Q) (bz X) ⟨[v0,z,some (.lst (es.map a9.t)),some (dE es),v4,v5,v6],h⟩:=by
 refine aZ (eb (e:=a9.t) (f:=a9.v) Iq j λe y=>?_) (a5 (v:=.bool true) ?_ (bc q))
 ·exact bq (l0 Iq rfl (ar (dy Iq Iq λ_ k=>V8 dD k) λ_ k=>k) (qd kn dD)) (hs e y)
 ·refine eE (a:=true) (b:=true) (bJ (l0 Iq rfl Iq (qd kn dD)) Iq λ_ k=>by rw[d];exact⟨trivial,k⟩) λ_=>NX (eb (e:=a9.v) (f:=a9.t) Iq j λe y=>Ji) Iq xY
end
abbrev uP(g:Gl):Prop:=∀{es:List a9},es.length<=60->(∀e∈es,e.x.length<=1000000)->cU g 9 550 [.lst (es.map a9.t)] (some (.bool (uO es)))
section
variable{g:Gl}{K:Frag}{n i:Nat}{h h0:AH}{size:Nat}{Q:V->AH->Prop}{X:AH->Prop}{loc:List (Option V)}{E r A B:PT}{o:Option V}{v:V}{b:List UInt8}{es:List a9}{v4 v5 v6:Option V}
theorem nM{X:St->Prop}{st:St}(h1:Ev A X st (.bool false))(d:Ev B X st (.bool false)):Ev (cF A (cF B (af (.bool .false)))) X st (.bool false):=cg (a:=false) (b:=false) h1 λ_=>cg (a:=false) (b:=false) d λ_ _ k=>k
theorem Qi(kn:Kn g K)(fc:uP g)(y:es.length<=60)(hb:b.length<=1000000)(ok:B4 b es){j:Option V}(q:Q (.bool true) h):gb g 9 (dC Q) (bz X) ⟨[some (.bytes b),j,some (.lst (es.map a9.t)),some (dE es),v4,v5,v6],h⟩:=by
 have d:es.length<=1000000:=V4 y dD
 have lt:es.length<1000000:=Wp y dD
 have key:∀a:Bool,a=uO es->f9 g 9 (dC Q) (bz X) ⟨[some (.bytes b),j,some (.lst (es.map a9.t)),some (dE es),some (dE es),some (.bool a),v6],h⟩:=λa e=>by
  refine je (nM (dh (l0 Iq rfl Iq (kQ kn dD ok.m lt (by rw[ok.b];exact hb))) Iq (by rw[ok.b];exact eq_bytes (n:=3))) (dh Iq (aG Iq (fc y ok.x)) (by rw[e];exact congrArg some (beq_self_eq_true _)))) rfl ?_
  refine bI (b:=!a) (jB (cX Iq)) (λ_ _ k=>k) (λ_=>bc q) λz=>?_
  have z:=e.symm.trans (ni z)
  exact Qh kn d (ok.s z) (ok.n z) q
 refine jA (ar (v:=dE es) (aG (ar (eb (e:=a9.t) (f:=a9.v) Iq d λe _=>aG (ar (dy Iq Iq λ_ k=>V8 dD k) (ar (dy Iq Iq λ_ k=>V8 dD k) (ar (dy Iq Iq λ_ k=>V8 dD k) λ_ k=>k))) (Du kn dD)) λ_ k=>k) (IB kn dD)) λ_ k=>k) ⟨V5 rfl,rfl⟩ ?_
 refine Qg (o:=bif (fg es [] none []).isEmpty then some .none else none) (λQ' u q=>xI kn dD ok.l ok.x q) ?_
 have f:=ok.f
 revert f
 cases (fg es [] none []).isEmpty with
 |true=>exact λf=>key true f
 |false=>exact λf=>key false f
theorem nN(kn:Kn g K)(fc:uP g)(d:10<=n)(hb:b.length<=1000)(e:eP bD size b=eP bU size b)(ok:∀es,eP bU size b=some es->es.length<=60∧B4 b es):cU g n 555 [.bytes b,.int size] (some (.bool true)):=λ{Q X h} q=>by
 refine((aH (n:=9) (kn.H 9) kn.law_tree_right rfl ?_).call).up d
 refine BU (a:=vu (eP bD size b)) (b:=tg size dF b) (λQ k=>ar (aG Iq (tn kn dD (V4 hb dD))) (ar (aG Iq (nH kn dD (V4 hb dD))) λ_ k=>k) _ (V8 (V5 rfl) k)) ?_
 rw[e,show tg size dF b=((eP bU size b).map dE).getD TU from rfl]
 generalize y:eP bU size b=j;cases j with
 |none=>exact bI (b:=true) (v:=.bool true) (cg (a:=true) (b:=false) (bJ Iq Iq λ_ k=>⟨trivial,k⟩) tf) (λ_=>eE (a:=true) (b:=true) (bJ Iq Iq λ_ k=>⟨trivial,k⟩) λ_ _ k=>k) (λ_=>bc q) tf
 |some es=>
  have ok:=ok es y
  have o:=ok.2
  refine je (nM (bJ Iq Iq λ_ k=>⟨trivial,k⟩) λ_ k=>k) rfl ?_
  refine je (nM (dh (eb (e:=a9.v) (f:=a9.t) (λ_ k=>V8 trivial k) (V4 ok.1 dD) λe _=>Ji) Iq xY) (dh (l0 Iq rfl Iq (kQ kn dD o.m (Wp ok.1 dD) (by rw[o.b];exact V4 hb dD))) Iq (by rw[o.b];exact eq_bytes (n:=3)))) rfl ?_
  exact Qi kn fc ok.1 (V4 hb dD) o q
end
structure DS(D C:Addr)(T:Nat)(h0 h:AH):Prop where
 dk:cN D C T h
 s:∀a o,h0 a=some o->a≠D->a≠C->h a=some o
structure nO(D C:Addr)(h0:AH)(c:Addr):Prop where
 n:h0 c=none
 d:c≠D
 c:c≠C
theorem DS.rfl(d:cN D C T h):DS D C T h h:=⟨d,λ_ _ e _ _=>e⟩
theorem DS.draw(x:DS D C T h0 h)(d:Drawn D C y h q):DS D C y h0 q:=⟨d.d,λa o e n m=>(d.f a n m).trans (x.s a o e n m)⟩
theorem DS.fresh(x:DS D C T h0 h)(e:h c=none):nO D C h0 c:=by
 have d:c≠D:=λz=>by obtain⟨_,_,_,w⟩:=x.dk.d;rw[←z,e]at w;cases w
 have f:c≠C:=λz=>by obtain⟨_,_,w⟩:=x.dk.c;rw[←z,e]at w;cases w
 refine⟨acu.mpr λo z=>?_,d,f⟩
 rw[x.s c o z d f]at e;cases e
theorem DS.put(x:DS D C T h0 h)(m:nO D C h0 c):DS D C T h0 (upd h c o):=
 ⟨⟨x.dk.ne,x.dk.d.imp λ_=>XF λ_ z=>⟨z.1,(aE (XW m.d)).trans z.2⟩,x.dk.c.imp λ_ z=>⟨z.1,(aE (XW m.c)).trans z.2⟩⟩,λa p e n k=>(aE λz=>by rw[z,m.n]at e;cases e).trans (x.s a p e n k)⟩
theorem B5(x:DS D C T h0 h)(q:∀p,Drawn D C T h0 p->Q v p):Fin Q v h:=by
 refine .mk (h1:=λa=>if a=D∨a=C then h a else h0 a) (λa o e=>?_) (q _ ⟨⟨x.dk.ne,?_,?_⟩,λa n m=>if_neg (not_or.mpr ⟨n,m⟩)⟩)
 ·have e:(if a=D∨a=C then h a else h0 a)=some o:=e
  by_cases z:a=D∨a=C
  ·rw[if_pos z]at e;exact e
  ·rw[if_neg z]at e;exact x.s a o e (not_or.mp z).1 (not_or.mp z).2
 ·obtain⟨y,t,l,w⟩:=x.dk.d
  exact⟨y,t,l,(if_pos (.inl (.refl _))).trans w⟩
 ·obtain⟨y,l,w⟩:=x.dk.c
  exact⟨y,l,(if_pos (.inr (.refl _))).trans w⟩
section
variable{g:Gl}{K:Frag}{n m i j k l:Nat}{D C c:Addr}{loc:List (Option V)}{P R S:V->Prop}{E F A B W r It:PT}{u v:V}{vs:List V}{h h0:AH}{Q:V->St->Prop}{X:St->Prop}{T size:Nat}
theorem Jj(x:XD D C k E loc P)(d:DS D C T h0 h)(hT:T+k<=1000000)(y:∀v q,P v->Drawn D C (T+k) h q->DS D C (T+k) h0 q->r Q X ⟨loc.set i (some v),q⟩):ah (aD (aj i) E) r Q X ⟨loc,h⟩:=
 x _ _ _ _ d.dk hT λv q p z=>y v q p z (d.draw z)
theorem Jk(x:XD D C k E loc P)(d:DS D C T h0 h)(hT:T+k<=1000000)(b:(loc[i]?).join=some (.ref c))(e:h c=some (.list vs))(m:nO D C h0 c)(l:vs.length<1000000)(y:∀v q,P v->Drawn D C (T+k) h q->DS D C (T+k) h0 (upd q c (some (.list (vs++[v]))))->r Q X ⟨loc,upd q c (some (.list (vs++[v])))⟩):ah (fX (av g n aK (ae i) (aa E ag))) r Q X ⟨loc,h⟩:=
 NS b e (x _ _ _ _ d.dk hT λv q p z=>az ((z.f c m.d m.c).trans e) (V8 l (y v q p z ((d.draw z).put m))))
theorem Qj(y:∀h X,Ev A X ⟨loc,h⟩ u)(z:∀h X,Ev B X ⟨loc,h⟩ v)(x:XD D C k E loc P)(s:∀w,P w->S (.tup [u,v,w])):XD D C k (c8 (aa A (aa B (aa E ag)))) loc S:=λ_ _ _ _ dk hT q=>
 y _ _ _ (z _ _ _ (x _ _ _ _ dk hT λw b p d=>V8 (V5 (.refl _)) (q _ b (s w p) d)))
theorem vv(kn:Kn g K)(p:1<=n){e:a9}(y:e.x.length<=1000000):cU g n 545 [e.t] (some (.bytes e.key)):=λ{Q X h} q=>by
 refine((aH (n:=0) (kn.H 0) kn.law_key rfl ?_).call).up p
 unfold a9.key sT at q
 have d:∀X,Ev (aQ (ae 0) (af (.int 1))) X ⟨[some e.t],h⟩ (.bytes e.x):=λX=>dy Iq Iq λ_ k=>V8 dD k
 refine a5 (v:=bif (e.m:Int)==16384 then .bytes (e.x++[47])else .bytes e.x) (kD (b:=(e.m:Int)==16384) (bJ (dy Iq Iq λ_ k=>V8 dD k) Iq λ_ k=>k) (λz=>?_) λz=>?_) (bc ?_)
 ·rw[z];exact bl (d _) Iq (V4 (Wm y) dD)
 ·rw[z];exact d _
 ·generalize h:((e.m:Int)==16384)=w;cases w <;> rw[h]at q <;> exact q
theorem Qk{y:Type}{e:y->V}{l:List y}{is:List Nat}{b d:PT}(z:(loc[i]?).join=some (.ref c))(hc:h c=some (.list (l.map e)))(p:l.length<=1000000)(hC:∀a∈l,Ev d uS ⟨none::some (e a)::eI is (loc.map (Ym (b9 c (l.map e)))),upd h c none⟩ (.bool false))(q:Q (.bool true) ⟨loc.map (Ym (b9 c (l.map e))),upd h c none⟩):aC .Eq (a7 2 is (hV (aj 1) d b) (a6 (ae i))) (bp ag) Q X ⟨loc,h⟩:=
 az z (az hc (V8 (g5 p) (Dj (f:=λ_=>.none) (λ_=>false) (λs=>∃x,s=⟨none::x::eI is (loc.map (Ym (b9 c (l.map e)))),upd h c none⟩) (aj 1) (λa ha s i=>by
  obtain⟨x,rfl⟩:=i
  exact⟨⟨none::some (e a)::eI is (loc.map (Ym (b9 c (l.map e)))),upd h c none⟩,⟨_,.refl _⟩,λ_ q=>q,hC a ha,ff⟩) ⟨_,.refl _⟩ λs i=>by
   obtain⟨x,rfl⟩:=i
   rw[Zk.mpr λ_ _=>W0]
   exact V8 (Wy _) q)))
end
noncomputable def DP:List (List UInt8):=[[97],[97,46,98],[97,45],[97,98],[98],[97,48],[255],[99,32,100],[46,46,46],[46,71,105,116]]
structure eQ(size:Nat)(e:a9):Prop where
 m:e.m∈g6
 x:e.x∈DP
 o:eY size e.o
structure zZ(size:Nat)(b:List UInt8):Prop where
 l:b.length<=1000
 e:eP bD size b=eP bU size b
 k:∀es,eP bU size b=some es->es.length<=60∧B4 b es
abbrev tp(size:Nat):Prop:=∀es:List a9,(∀e∈es,eQ size e)->es.length<=3->∀b,(b=cv es∨uN (cv es) b)->zZ size b
noncomputable def Jl(b:Bool):List Nat:=[33188,16384,16384,33261,40960,57344,bif b then 33204 else 33188]
noncomputable def Jm(b:Bool):List (List UInt8):=[[97],[97,46,98],[97,45],[97,98],[98],[97,48],[255],[99,32,100],bif b then[46,46,46]else[46,71,105,116]]
theorem Jo(b:Bool):∀m∈Jl b,m∈g6:=by cases b <;> decide +kernel
theorem Jp(b:Bool):∀m∈Jm b,m∈DP:=by cases b <;> decide +kernel
noncomputable def SQ:List (Int×List UInt8):=[(16384,[52,48,48,48,48]),(40960,[49,50,48,48,48,48]),(57344,[49,54,48,48,48,48]),(33261,[49,48,48,55,53,53]),(33204,[49,48,48,54,54,52])]
noncomputable def Ql:List (DK.K .i×V):=SQ.map λp=>(p.1,V.bytes p.2)
noncomputable def txt(m:Nat):List UInt8:=((SQ.find? λp=>decide (p.1=(m:Int))).map (·.2)).getD [49,48,48,54,52,52]
theorem SR(m:Nat):(atKey Ql (m:Int)).getD (.bytes [49,48,48,54,52,52])=.bytes (txt m):=by
 unfold atKey Ql txt
 rw[List.find?_map,Z5]
 generalize h:SQ.find? ((λq:Int×V=>decide (q.1=(m:Int)))∘λp=>(p.1,V.bytes p.2))=y;cases y with
 |none=>rw[show(SQ.find? λp=>decide (p.1=(m:Int)))=none from h];rfl
 |some p=>rw[show(SQ.find? λp=>decide (p.1=(m:Int)))=some p from h];rfl
theorem NY:∀m∈g6,txt m=m8 m:=dD
theorem jU:∀x∈DP,x.length<=4∧x≠[]∧∀c∈x,c≠0:=dD
theorem Qm:∀m∈g6,(m8 m).length<=6:=dD
section
variable{g:Gl}{K:Frag}{n m i j k l:Nat}{D C c d:Addr}{loc:List (Option V)}{E F A B W r It:PT}{u v:V}{vs:List V}{h h0:AH}{Q:V->AH->Prop}{X:AH->Prop}{T size:Nat}{v0 v1 v2 v3 v4 v5 v6 v8 v9:Option V}{b:List UInt8}{es:List a9}
theorem eQ.len(e:a9)(o:eQ size e)(hs:size<=4):e.oct.length<=16:=by
 unfold a9.oct
 rw[V6,V6,V6,V6,o.o.l]
 exact Wx (Wx (Wx (Wx (Qm _ o.m) (Wh 1)) (jU _ o.x).1) (Wh 1)) hs
structure VM(D C c:Addr)(T:Nat)(h0:AH)(b:List UInt8)(m:Nat)(acc:List (List UInt8))(T':Nat)(h:AH):Prop where
 ds:DS D C T' h0 h
 c:h c=some (.list (acc.map .bytes))
 a:∀x∈acc,x=b∨uN b x
 t:T'+m*4<=T+8
 n:acc.length+m<=3
 p:0<m->0<b.length
theorem Ma(kn:Kn g K)(fc:uP g)(L:∀x,(x=b∨uN b x)->zZ size x)(hT:T+8<=1000000)(ds:DS D C T h0 h)(q:∀w,Drawn D C (T+8) h0 w->Q (.bool true) w):dv g 10 (dC Q) (bz X) ⟨[some (.ref D),some (.int size),v2,v3,v4,v5,v6,some (.bytes b),v8,v9],h⟩:=by
 have hb:b.length<=1000:=(L b (.inl rfl)).l
 refine vm Iq (V5 rfl) λc hc=>?_
 have mc:=ds.fresh hc
 have S:Ev (bA (aC .NotEq (ae 7) (af (.bytes []))) (af (.int 2)) (af (.int 0))) (bz X) ⟨[some (.ref D),some (.int size),v2,v3,v4,v5,v6,some (.bytes b),v8,some (.ref c)],upd h c (some (.list [.bytes b]))⟩ (.int ((bif b==[]then 0 else 2:Nat):Int)):=
  kD (b:=!(b==[])) Iq (λe _ k=>by rw[cw e]at k;exact k) λe _ k=>by rw[ni e]at k;exact k
 refine xB (λs:List (List UInt8)×Nat×Option V×AH=>⟨[some (.ref D),some (.int size),v2,v3,s.2.2.1,v5,v6,some (.bytes b),v8,some (.ref c)],s.2.2.2⟩) (λm _ s=>VM D C c T h0 b m s.1 s.2.1 s.2.2.2) ([b],T,v4,upd h c (some (.list [.bytes b]))) (nL S (by cases b==[] <;> decide)) ⟨ds.put mc,aB _ _ _,λx hx=>.inl (Wr.mp hx),?_,?_,λl=>?_⟩ (λ_ s i=>?_) λm _ s i Y J U=>?_
 ·exact Wu (by cases b==[] <;> decide) T
 ·cases b==[] <;> exact V5 rfl
 ·cases b with
  |nil=>cases l
  |cons=>exact Xs _
 ·refine IZ (Qk (e:=V.bytes) (l:=s.1) rfl i.c (V4 i.n dD) (λa ha=>?_) (B5 (i.ds.put mc) λw d=>q w (d.up i.t)))
  have f:=L a (i.a a ha)
  exact jB (a:=true) (cX (aG Iq (nN kn fc (Wh _) f.l f.e f.k)))
 ·have R:s.2.1+4<=T+8:=V4 (Wu (by rw[aac];exact XU _ _) _) i.t
  refine Jk (cj (vs:=[.ref D,.bytes b,.int b.length]) (λ_ _ _ k=>k) (DO kn dD (i.p (Xs m)) (Wp hb dD) (V4 hb dD))) i.ds (V4 R hT) rfl i.c mc ?_ λv w p _ o=>?_
  ·rw[Wd];exact Wp (V4 (Wq _ _) i.n) dD
  ·obtain⟨x,rfl,hx⟩:=p
   refine J (s.1++[x],s.2.1+4,_,_) ⟨o,?_,λy z=>?_,?_,?_,λ_=>i.p (Xs m)⟩
   ·rw[WE];exact aB _ _ _
   ·rcases WD.mp z with z|z
    ·exact i.a y z
    ·rw[Wr.mp z];exact .inr hx
   ·rw[WJ,W4 4,←aac];exact i.t
   ·rw[V6,WJ];show s.1.length+(1+m)<=3;rw[W4 1];exact i.n
theorem Qn{m:MT}{c:Addr}{y:DK}{l:List (y.K×V)}{p:String×BW}{k:String×BW->Prop}{z:Addr->Prop}(e:h c=some (.dict y l))(w:m.d=some p)(q:k p):pick m (.ref c) h k z:=by unfold pick;rw[nr e];exact az e (az w q)
theorem Qo{x w:Type}{e:x->V}{l:List x}{Q:V->St->Prop}{X:St->Prop}{st:St}(f:w->St)(I:List x->w->Prop)(s:w)(L:∀Q':V->St->Prop,Q' (.lst (l.map e)) (f s)->It Q' X st)(o:I l s)(h0:∀s,I [] s->r Q X (f s))
 (h1:∀a l s,I (a::l) s->∀y:V->St->Prop,(∀p,I l p->y .none (f p))->(∀v st',Q (.tup [v]) st'->y (.tup [v]) st')->W y X ⟨(f s).loc.set i (some (e a)),(f s).h⟩):ah (dq (aj i) It W) r Q X st:=
 L _ (show fT (aj i) W (l.map e) (λf q=>br (isNone f) (r Q X q) (Q f q)) X (f s)from NN (Q:=λf q=>br (isNone f) (r Q X q) (Q f q)) (λl st=>∃s,st=f s∧I l s) (λst z=>z.elim λs z=>z.1▸h0 s z.2) (λa l st z y k J=>z.elim λs z=>z.1▸h1 a l s z.2 y (λp R=>k _ ⟨p,rfl,R⟩) J) ⟨s,rfl,o⟩)
theorem DQ(kn:Kn g K)(fc:uP g)(pl:tp size)(hs:size<=4)(f:∀e∈es,eQ size e)(L:es.length<=3)(hd:h d=some (.dict .i Ql))(hT:T+8<=1000000)(ds:DS D C T h0 h)(q:∀R,Drawn D C (T+8) h0 R->Q (.bool true) R){st:St}
 (Z:∀Q':V->St->Prop,Q' (.lst (es.map a9.t)) ⟨[some (.ref D),some (.int size),v2,some (.ref d),v4,v5,v6,some (.bytes []),v8,v9],h⟩->It Q' (bz X) st):ah (dq (aj 8) It (fw g 10)) (dv g 10) (dC Q) (bz X) st:=by
 refine Qo (e:=a9.t) (l:=es) (λs:List a9×Option V=>⟨[some (.ref D),some (.int size),v2,some (.ref d),v4,v5,v6,some (.bytes (cv s.1)),s.2,v9],h⟩) (λl s=>s.1++l=es) ([],v8) Z rfl (λs i=>?_) λe l s i Qc z I=>?_
 ·have i:s.1=es:=(WH _).symm.trans i
  exact Ma kn fc (λx hx=>pl s.1 (i▸f) (i▸L) x hx) hT ds q
 ·have w:=f e (by rw[←i];exact WK _ (.head _))
  have le:(cv s.1).length<=1000:=(pl s.1 (λa ha=>f a (by rw[←i];exact Yg _ ha)) (V4 (by rw[←i,V6];exact Wq _ _) L) _ (.inl rfl)).l
  have lo:=eQ.len e w hs
  have y:(cv s.1++txt e.m++[32]++e.x++[0]++e.o).length<=1016:=by
   rw[NY _ w.m,Wn,Wn,Wn,Wn,←Wn (m8 e.m),←Wn (m8 e.m++[32]),←Wn (m8 e.m++[32]++e.x)]
   rw[V6];exact Wx le lo
  have S:=cB y
  have J:=cB S
  have l2:=cB J
  have t:1016<=16777216:=dD
  have H:Ev (av g 10 Ih (ae 3) (aa (aQ (ae 8) (af (.int 0))) (aa (af (.bytes [49,48,48,54,52,52])) ag))) (bz X) ⟨[some (.ref D),some (.int size),v2,some (.ref d),v4,v5,v6,some (.bytes (cv s.1)),some e.t,v9],h⟩ (.bytes (txt e.m)):=λU k=>by
   refine Qn (p:=("dict.get",G6)) hd rfl (V8 (aax 0) ?_)
   show dR (h d) λo=>oc o (fd:=λY l=>dR (Y.key (.int e.m)) λG=>U ((atKey l G).getD (.bytes [49,48,48,54,52,52])) ⟨[some (.ref D),some (.int size),v2,some (.ref d),v4,v5,v6,some (.bytes (cv s.1)),some e.t,v9],h⟩)
   rw[hd]
   show U ((atKey Ql (e.m:Int)).getD (.bytes [49,48,48,54,52,52])) _
   rw[SR];exact k
  have key:cv s.1++txt e.m++[32]++e.x++[0]++e.o=cv (s.1++[e]):=by
   unfold cv a9.oct
   rw[WE,ZN,aaW,abC,NY _ w.m]
   simp only[Wn]
  refine aZ (v:=.bytes (cv s.1++txt e.m++[32]++e.x++[0]++e.o)) (bl (bl (bl (bl (bl Iq H (bt (cB l2) t)) Iq (bt l2 t)) (dy Iq Iq λ_ k=>V8 dD k) (bt J t)) Iq (bt S t)) (dy Iq Iq λ_ k=>V8 dD k) (bt y t)) ?_
  rw[key]
  exact z (s.1++[e],some e.t) (by rw[Wn];exact i)
end
section
variable{g:Gl}{K:Frag}{n m i j k l:Nat}{D C c d:Addr}{loc:List (Option V)}{E F A B W r It:PT}{u v:V}{vs:List V}{h h0:AH}{Q:V->AH->Prop}{X:AH->Prop}{T size:Nat}{v0 v1 v2 v3 v4 v5 v6 v7 v8 v9:Option V}{b:List UInt8}{es:List a9}
theorem SS{X:St->Prop}{st:St}(q:Ev E X st (.lst vs)):∀pre:List V,Ev (pre.foldr (λa e=>aa (af a) e) E) X st (.lst (pre++vs)):=by
 intro y
 induction y with
 |nil=>
  intro _ k
  exact q _ k
 |cons a pre z=>
  intro _ k
  exact z _ k
theorem Jq{X:St->Prop}{st:St}(q:Ev E X st (.lst vs))(pre:List V)(l:Zp (pre++vs).length 1000000=true):Ev (bp (pre.foldr (λa e=>aa (af a) e) E)) X st (.lst (pre++vs)):=λ_ k=>SS q pre _ (V8 (V5 l) k)
theorem DR{a:Addr}(ne:D≠c):Ym (b9 c vs) (some (.ref D))=some (.ref D):=congrArg some (if_neg ne)
theorem Mb(e:a9):e.key.length<=e.x.length+1:=by
 unfold a9.key sT
 cases (e.m:Int)==16384 with
 |true=>rw[cond_true,V6];exact Wh _
 |false=>exact Xq _
structure UM(D C c d:Addr)(T size:Nat)(h0:AH)(m:Nat)(acc:List a9)(T':Nat)(h:AH):Prop where
 ds:DS D C T' h0 h
 c:h c=some (.list (acc.map a9.t))
 d:h d=some (.dict .i Ql)
 a:∀e∈acc,eQ size e
 t:T'+m*6<=T+18
 n:acc.length+m<=3
theorem Jr(kn:Kn g K)(fc:uP g)(pl:tp size)(hs:size<=4)(U:∀e∈es,eQ size e)(R:es.length<=3)(mc:nO D C h0 c)(md:nO D C h0 d)(H:c≠d)(hc:h c=some (.list (es.map a9.t)))(hd:h d=some (.dict .i Ql))(hT:T+1+8<=1000000)(ds:DS D C T h0 h)(q:∀y,Drawn D C (T+1+8) h0 y->Q (.bool true) y):eX g 10 (dC Q) (bz X) ⟨[some (.ref D),some (.int size),some (.ref c),some (.ref d),v4,v5,v6,v7,v8,v9],h⟩:=by
 have I:XD D C 1 (aC .Gt (ak g 10 (.ref 469) (aa (ae 0) (aa (af (.int 5)) ag))) (af (.int 0))) [some (.ref D),some (.int size),some (.ref c),some (.ref d),v4,v5,v6,v7,v8,v9] λv=>∃b,v=.bool b:=by
  refine B0 (v:=.int 0) (cj (vs:=[.ref D,.int 5]) (λ_ _ _ k=>k) (b7 (below:=5) kn dD dD dD)) (λ_ _ _ k=>k) λu p=>?_
  obtain⟨d,_,rfl⟩:=p
  exact⟨decide ((d:Int)>0),⟨_,rfl⟩,λ_ _ k=>k⟩
 refine qe (I _ _ _ _ ds.dk (V4 (Wq _ 8) hT) λv y p z=>?_)
 obtain⟨b,rfl⟩:=p
 have o:=ds.draw z
 have J:=(z.f c mc.d mc.c).trans hc
 have w:=(z.f d md.d md.c).trans hd
 refine Kr (λ_=>?_) λ_=>?_
 ·refine Ir J (V8 ⟨dD,by rw[Wd];exact Wp R dD,λu L=>?_⟩ λl Z=>?_)
  ·obtain⟨e,S,rfl⟩:=WC.mp L
   have Y:=(jU _ (U e S).x).1
   exact⟨e.key,V4 (Mb e) (V4 (Wm Y) dD),vv kn dD (V4 Y dD) ⟨rfl,rfl⟩⟩
  ·obtain⟨es',rfl,S⟩:=all_map (f:=a9.t) (p:=(·∈es)) λu L=>by
    obtain⟨e,h1,h2⟩:=WC.mp (Z.mem_iff.mp L)
    exact⟨e,h1,h2.symm⟩
   have G:=Z.length_eq
   rw[Wd,Wd]at G
   exact aZ (v:=.bytes []) Iq (DQ (It:=a6 (ae 2)) kn fc pl hs (λe h=>U e (S e h)) (G▸R) w hT o q λQ' k=>k)
 ·refine(λk:ah (aD (aj 7) (af (.bytes []))) (fx g 10) (dC Q) (bz X) ⟨[some (.ref D),some (.int size),some (.ref c),some (.ref d),v4,v5,v6,v7,v8,v9],y⟩=>k) ?_
  refine aZ (v:=.bytes []) Iq ?_
  have e1:=DR (vs:=es.map a9.t) (a:=c) (XW mc.d)
  have e2:=DR (vs:=es.map a9.t) (a:=c) (XW H)
  have e3:Ym (b9 c (es.map a9.t)) (some (.ref c))=some (.lst (es.map a9.t)):=congrArg some (if_pos rfl)
  refine DQ (It:=a6 (ae 2)) (h:=upd y c none) (v2:=some (.lst (es.map a9.t))) (v4:=Ym (b9 c (es.map a9.t)) v4) (v5:=Ym (b9 c (es.map a9.t)) v5) (v6:=Ym (b9 c (es.map a9.t)) v6) (v8:=Ym (b9 c (es.map a9.t)) v8) (v9:=Ym (b9 c (es.map a9.t)) v9) kn fc pl hs U R ((aE (XW H)).trans w) hT (o.put mc) q λQ' k=>az J ?_
  show Q' (.lst (es.map a9.t)) ⟨[Ym (b9 c (es.map a9.t)) (some (.ref D)),_,Ym (b9 c (es.map a9.t)) (some (.ref c)),Ym (b9 c (es.map a9.t)) (some (.ref d)),_,_,_,_,_,_],upd y c none⟩
  rw[e1,e2,e3]
  exact k
theorem Mc(kn:Kn g K)(h2:0<size)(hs:size<=4)(hT:T+18<=1000000)(mc:nO D C h0 c)(i:UM D C c d T size h0 (m+1) q y h)(md:nO D C h0 d)(cd:c≠d)(k:∀q y h v5 v6,UM D C c d T size h0 m q y h->Qc .none ⟨[some (.ref D),some (.int size),some (.ref c),some (.ref d),some (.int x),v5,v6,v7,v8,v9],h⟩):fv g 10 Qc (bz X) ⟨[some (.ref D),some (.int size),some (.ref c),some (.ref d),some (.int x),v5,v6,v7,v8,v9],h⟩:=by
 have H:y+1+1+4<=T+18:=V4 (Wu (show 6<=(m+1)*6 by rw[aac];exact XU _ _) y) i.t
 have Z:y+1+1<=T+18:=V4 (Wq _ 4) H
 have lm:∀h X,Ev (bA (aC .Eq (ae 4) (af (.int 2))) (af (.int 33204)) (af (.int 33188))) X ⟨[some (.ref D),some (.int size),some (.ref c),some (.ref d),some (.int x),v5,v6,v7,v8,v9],h⟩ (.int ((bif x==2 then 33204 else 33188:Nat):Int)):=λh X=>kD (b:=x==2) Iq (λe _ k=>by rw[e]at k;exact k) λe _ k=>by rw[e]at k;exact k
 refine Jj (P:=λv=>∃m,m∈g6∧v=.int (m:Nat)) ((cj (vs:=[.ref D,.lst ((Jl (x==2)).map λm:Nat=>.int m)]) (λh X=>ar Iq (ar (Jq (ar (lm h X) λ_ k=>k) [.int 33188,.int 16384,.int 16384,.int 33261,.int 40960,.int 57344] rfl) λ_ k=>k)) (rE kn dD (show 0<7 by decide) (show 7<2^30 by decide))).imp λv p=>?_) i.ds (V4 (V4 (Xq _) Z) hT) λv h1 p G d1=>?_
 ·obtain⟨m,S,rfl⟩:=WC.mp p
  exact⟨m,Jo _ m S,rfl⟩
 obtain⟨U,R,rfl⟩:=p
 have ln:∀h X,Ev (bA (aC .Gt (ae 4) (af (.int 0))) (af (.bytes [46,46,46])) (af (.bytes [46,71,105,116]))) X ⟨[some (.ref D),some (.int size),some (.ref c),some (.ref d),some (.int x),some (.int U),v6,v7,v8,v9],h⟩ (.bytes (bif decide (x>0)then[46,46,46]else[46,71,105,116])):=λh X=>kD (b:=decide (x>0)) Iq (λe _ k=>by rw[e]at k;exact k) λe _ k=>by rw[e]at k;exact k
 refine Jj (P:=λv=>∃m,m∈DP∧v=.bytes m) ((cj (vs:=[.ref D,.lst ((Jm (decide (x>0))).map .bytes)]) (λh X=>ar Iq (ar (Jq (ar (ln h X) λ_ k=>k) [.bytes [97],.bytes [97,46,98],.bytes [97,45],.bytes [97,98],.bytes [98],.bytes [97,48],.bytes [255],.bytes [99,32,100]] rfl) λ_ k=>k)) (rE kn dD (show 0<9 by decide) (show 9<2^30 by decide))).imp λv p=>?_) d1 (V4 Z hT) λv h2' p I d2=>?_
 ·obtain⟨m,S,rfl⟩:=WC.mp p
  exact⟨m,Jp _ m S,rfl⟩
 obtain⟨Y,L,rfl⟩:=p
 refine Jk (P:=λv=>∃o,eY size o∧v=.tup [.int U,.bytes Y,.bytes o]) (Qj (λ_ _ _ k=>k) (λ_ _ _ k=>k) (cj (vs:=[.ref D,.int size]) (λ_ _ _ k=>k) (tm kn dD h2 hs)) λw p=>p.elim λo z=>⟨o,z.2,by rw[z.1]⟩) d2 (V4 H hT) rfl ((I.f c mc.d mc.c).trans ((G.f c mc.d mc.c).trans i.c)) mc (by rw[Wd];exact Wp (V4 (Wq _ _) i.n) dD) λv h3 p z3 d3=>?_
 obtain⟨o,ho,rfl⟩:=p
 refine k (q++[⟨U,Y,o⟩]) (y+1+1+4) _ _ _ ⟨d3,?_,?_,λe J=>?_,?_,?_⟩
 ·rw[WE];exact aB _ _ _
 ·exact(aE (XW cd)).trans ((z3.f d md.d md.c).trans ((I.f d md.d md.c).trans ((G.f d md.d md.c).trans i.d)))
 ·rcases WD.mp J with J|J
  ·exact i.a e J
  ·rw[Wr.mp J];exact⟨R,L,ho⟩
 ·show y+6+m*6<=T+18
  rw[WJ,W4 6,←aac];exact i.t
 ·rw[V6,WJ];show q.length+(1+m)<=3;rw[W4 1];exact i.n
end
section
variable{g:Gl}{K:Frag}{n m i j k l M:Nat}{D C c d:Addr}{loc:List (Option V)}{E F A B W r It:PT}{u v:V}{vs:List V}{h h0:AH}{T size:Nat}{v0 v1 v2 v3 v4 v5 v6 v7 v8 v9:Option V}{b:List UInt8}{es:List a9}
theorem B6(hp:jl y [] vs=some out)(x:∀q,Ev W X ⟨loc,q⟩ (.lst vs))(p:vs.length<=100)(l:is.length=2)(w:∀c d q,h c=none->c≠d->h d=none->q c=some (.list [])->q d=some (.dict y out)->(∀a,a≠c->a≠d->q a=h a)->r Q X ⟨vP loc is [.ref d,.ref c],q⟩):ah (bZ is (aa (gx ag) (aa (p8 y W) ag))) r Q X ⟨loc,h⟩:=
 V8 (Wy _) λc hc d hd=>by
  have hd:upd h c (some (.list [])) d=none:=hd
  have ne:c≠d:=λz=>by rw[←z,aB]at hd;cases hd
  exact x _ _ (az hp (V8 ⟨p,aB _ _ _⟩ (V8 (V5 rfl) (V8 l (w c d _ hc ne ((aE (XW ne)).symm.trans hd) ((aE ne).trans ((aE ne).trans (aB _ _ _))) (aB _ _ _) λa n1 n2=>(aE n2).trans ((aE n2).trans (aE n1)))))))
theorem DT(y:M<=1000000)(x:XD D C k E loc λv=>∃m:Nat,m<=M∧v=.int m):XD D C k (da (aa E ag)) loc λv=>∃m,m<=M∧v=.lst (eA 1 m 0):=λ_ _ _ _ dk hT q=>
 x _ _ _ _ dk hT λu h1 p d1=>p.elim λm z=>by
  obtain⟨l,rfl⟩:=z
  exact V8 ⟨aaQ dD (Ww m),XS.mpr (V4 l y)⟩ (q _ h1 ⟨m,l,rfl⟩ d1)
theorem Qp(x:XD D C k It loc λv=>∃m,m<=M∧v=.lst (eA 1 m 0))(dk:cN D C T h)(hT:T+k<=1000000)(o:∀m w,m<=M->Drawn D C (T+k) h w->fT (aj i) W (eA 1 m 0) (λf q=>br (isNone f) (r Q X q) (Q f q)) X ⟨loc,w⟩):ah (dq (aj i) It W) r Q X ⟨loc,h⟩:=
 x _ _ _ _ dk hT λv w p z=>p.elim λm y=>by
  obtain⟨l,rfl⟩:=y
  exact o m w l z
theorem z0(kn:Kn g K)(y:1<=n)(q:below+1<2^30)(e:∀h X,Ev E X ⟨loc,h⟩ (.lst [.ref D,.int (below+1:Nat)])):XD D C 1 (ak g n (.ref 469) E) loc λv=>∃m:Nat,m<=below∧v=.int m:=
 (cj e (b7 kn y (Xs below) q)).imp λv p=>p.imp λm z=>⟨Zz z.1,z.2⟩
theorem Js(kn:Kn g K)(fc:uP g)(pl:tp size)(hn:11<=n)(I:0<size)(hs:size<=4):Dr g n 560 D C 28 [.ref D,.int size] λv=>v=.bool true:=by
 refine dj (n:=10) kn kn.law_trees_right rfl hn λT h Q X dk hT q=>?_
 have hp:jl .i [] [.int 16384,.bytes [52,48,48,48,48],.int 40960,.bytes [49,50,48,48,48,48],.int 57344,.bytes [49,54,48,48,48,48],.int 33261,.bytes [49,48,48,55,53,53],.int 33204,.bytes [49,48,48,54,54,52]]=some Ql:=by kernel_rfl
 refine B6 hp (λ_ _ k=>k) (V5 rfl) rfl λc d h1 S Z nd H ed fr=>?_
 have p:=DS.rfl dk
 have mc:=p.fresh S
 have md:=p.fresh nd
 have ds:DS D C T h h1:=⟨⟨dk.ne,dk.d.imp λ_=>XF λ_ z=>⟨z.1,(fr _ (XW mc.d) (XW md.d)).trans z.2⟩,dk.c.imp λ_ z=>⟨z.1,(fr _ (XW mc.c) (XW md.c)).trans z.2⟩⟩,λa o e _ _=>(fr a (λz=>by rw[z,S]at e;cases e) λz=>by rw[z,nd]at e;cases e).trans e⟩
 have y:T+1+18<=1000000:=V4 (Wq _ 9) hT
 refine Qp (DT dD (z0 (below:=3) kn dD dD λ_ _ _ k=>k)) ds.dk (V4 (Wq _ 18) y) λm J U z=>?_
 refine Iu (λs:(List a9×Nat)×Option V×Option V×Option V×AH=>⟨[some (.ref D),some (.int size),some (.ref c),some (.ref d),s.2.1,s.2.2.1,s.2.2.2.1,none,none,none],s.2.2.2.2⟩) (λm _ s=>UM D C c d (T+1) size h m s.1.1 s.1.2 s.2.2.2.2) (λ_ s i=>?_) (λm x s i Qc w kr=>?_) m 0 (([],T+1),none,none,none,J) ⟨ds.draw z,(z.f c mc.d mc.c).trans H,(z.f d md.d md.c).trans ed,an,Wu (aaw 6 U) _,by rw[X6,Xn];exact U⟩
 ·have G:s.1.2<=T+1+18:=i.t
  have Y:s.1.2+1+8<=T+28:=Wv G 9
  exact Jr kn fc pl hs i.a i.n mc md Z i.c i.d (V4 Y hT) i.ds λR dr=>q _ R rfl (dr.up Y)
 ·exact Mc kn I hs y mc i md Z λL T' R v5 v6 i'=>w ((L,T'),some (.int x),v5,v6,R) i'
end
theorem xZ:ee (a::b::r)=(bF a).bind λx=>(bF b).bind λy=>(ee r).map λl=>(16*x+y).toNat.toUInt8::l:=rfl
theorem nQ:∀i:Nat,i<16->bF (ez.getD i 0)=some (i:Int)∧bF (XO (ez.getD i 0))=some (i:Int):=dD
theorem Jt(c:UInt8):c.toNat/16<16:=Nat.div_lt_of_lt_mul c.toNat_lt
theorem Ju(c:UInt8):c.toNat%16<16:=abQ _ dD
theorem DU(c:UInt8):((16*((c.toNat/16:Nat):Int)+((c.toNat%16:Nat):Int)).toNat).toUInt8=c:=by
 have:((16*((c.toNat/16:Nat):Int)+((c.toNat%16:Nat):Int)))=(c.toNat:Int):=by exact congrArg (λn:Nat=>(n:Int)) (Nat.div_add_mod c.toNat 16)
 rw[this];exact BD c
theorem Jv:∀b:List UInt8,ee (cz b)=some b:=by
 intro zi
 induction zi with
 |nil=>
  exact rfl
 |cons c r ih=>
  show ee (kP c::qb c::cz r)=_
  rw[xZ,ih,show bF (kP c)=_ from(nQ _ (Jt c)).1,show bF (qb c)=_ from(nQ _ (Ju c)).1]
  exact congrArg (λx=>some (x::r)) (DU c)
theorem Qq:∀b:List UInt8,ee ((cz b).map XO)=some b:=by
 intro zi
 induction zi with
 |nil=>
  exact rfl
 |cons c r ih=>
  show ee (XO (kP c)::XO (qb c)::(cz r).map XO)=_
  rw[xZ,ih,show bF (XO (kP c))=_ from(nQ _ (Jt c)).2,show bF (XO (qb c))=_ from(nQ _ (Ju c)).2]
  exact congrArg (λx=>some (x::r)) (DU c)
theorem Md:∀(m:Nat) (s:List Nat) (d:Nat),s.length<=m->d∈s->bF d=none->ee s=none:=by
 intro w1
 induction w1 with
 |zero=>
  intro s d l h _
  rw[W7 (YS l)]at h;cases h
 |succ m ih=>
  intro w2
  cases w2 with
  |nil=>
   intros;contradiction
  |cons a w3=>
   cases w3 with
   |nil=>
    intro _ _ _ _
    exact rfl
   |cons b r=>
    intro d l h e
    rw[xZ]
    rcases Wf.mp h with rfl|h
    ·rw[e];rfl
    rcases Wf.mp h with rfl|h
    ·rw[e];cases bF a <;> rfl
    ·rw[ih r d (V4 (Xq _) (X7 l)) h e]
     cases bF a with
     |none=>rfl
     |some=>cases bF b <;> rfl
theorem z4:jf (bg b)=cz b:=by
 unfold jf bg Fx
 rw[Xy]
 exact(acn (g:=id) λc hc=>B1 (xN c hc)).trans (List.map_id _)
theorem z5(i:Nat):ez.getD i 0<128:=by
 unfold List.getD
 generalize e:ez[i]? = zz;cases zz with
 |none=>exact(by decide:0<128)
 |some c=>exact of_decide_eq_true (WQ.mp (show ez.all (λc=>decide (c<128))=true from rfl) c (Xx e))
theorem Jw:∀c∈cz b,c<128:=λc hc=>by
 obtain⟨d,_,h⟩:=ZI.mp hc
 rcases Wf.mp h with rfl|h
 ·exact z5 _
 ·rw[Wr.mp h];exact z5 _
theorem Qt(n:Nat):∀c∈bL n,c≠0:=ry (λ_ l=>∀c∈l,c≠0) (λn h c hc=>by
 rw[Wr.mp hc];exact Jd (WA dD (Wq 48 n)) (Xz (aaL h 48) dD)) (λn l d _ h ih c hc=>by
 rcases WD.mp hc with hc|hc
 ·exact ih c hc
 ·rw[Wr.mp hc];exact Jd (WA dD (Wq 48 d)) (Xz (aaL h 48) dD)) n
theorem B7(hk:eh k=true)(h0:(0:UInt8)∉k)(h32:(32:UInt8)∉k)(hn:c.length=n):cY (k++[32]++bL n++[0]++c)=some (.tup [.bytes k,.bytes c]):=by
 have e:k++[32]++bL n++[0]++c=(k++32::bL n)++0::c:=by simp only[Wn,Yh,aaz]
 have e2:(k++32::bL n)++0::c=k++32::(bL n++0::c):=by simp only[Wn,Yh]
 have i0:bh 0 ((k++32::bL n)++0::c)=some (k++32::bL n).length:=ir λh=>by
  rcases WD.mp h with h|h
  ·exact h0 h
  rcases Wf.mp h with h|h
  ·exact absurd h dD
  ·exact Qt n 0 h rfl
 rw[e]
 have i1:bh 32 ((k++32::bL n)++0::c)=some k.length:=by rw[e2];exact ir h32
 unfold cY NU
 rw[s9,s9,i0,i1]
 have l1:k.length<=(k++32::bL n).length:=by rw[V6];exact Wq _ _
 show(bif decide (((k++32::bL n).length:Int)<0)||(decide ((k.length:Int)<0)||decide ((k.length:Int)>((k++32::bL n).length:Int)))then none else _)=_
 rw[nv,nv,decide_eq_false (YX.mpr (XS.mpr l1))]
 have c1:bY ((k++32::bL n)++0::c) none (some (k.length:Int))=k:=by rw[eN,e2,YU]
 have c2:bY ((k++32::bL n)++0::c) (some ((k.length:Int)+1)) (some ((k++32::bL n).length:Int))=bL n:=by
  have:=gc (l:=(k++32::bL n)++0::c) (a:=k.length+1) (p:=(bL n).length)
  rw[show k.length+1+(bL n).length=(k++32::bL n).length by rw[V6,WM,WJ,W4 1]]at this
  refine Eq.trans this ?_
  rw[e2,←Xc,Zd]
  exact YU
 have c3:bY ((k++32::bL n)++0::c) (some (((k++32::bL n).length:Int)+1)) none=c:=by
  refine(dg (a:=(k++32::bL n).length+1)).trans ?_
  rw[←Xc,Zd];rfl
 rw[c1,c2,Fy]
 unfold FJ
 rw[hk]
 have lw:((n:Int)==(((k++32::bL n)++0::c).length:Int)-((k++32::bL n).length:Int)-1)=true:=by
  rw[V6 (as:=k++32::bL n),WM,hn]
  exact beq_iff_eq.mpr (by lia)
 refine Eq.trans (b:=bif !((n:Int)==(((k++32::bL n)++0::c).length:Int)-((k++32::bL n).length:Int)-1)then none else some (V.tup [.bytes k,.bytes (bY ((k++32::bL n)++0::c) (some (((k++32::bL n).length:Int)+1)) none)])) rfl ?_
 rw[lw,c3];rfl
noncomputable def NZ:List (List UInt8):=[[98,108,111,98],[116,114,101,101],[99,111,109,109,105,116],[116,97,103]]
theorem Jx:∀k∈NZ,(eh k=true∧k.length<=6)∧(0:UInt8)∉k∧(32:UInt8)∉k:=dD
noncomputable def N0:List Nat:=[0,1,3,9,10,12]
theorem Jy:∀s∈N0,s<=12:=dD
section
variable{g:Gl}{K:Frag}{n m i j k l a:Nat}{D C:Addr}{loc cap:List (Option V)}{P R S:V->Prop}{E F A B W r Cd:PT}{u v:V}{vs:List V}{T size:Nat}{h:AH}
theorem vw(hC:∀h X,Ev Cd X ⟨loc,h⟩ (.bool false))(y:SD D C l r loc R):SD D C l (ah (bA Cd A ai) r) loc R:=λ_ _ _ _ dk hT q=>hC _ _ _ (y _ _ _ _ dk hT q)
theorem dm(kn:Kn g K)(q:2<=n)(l:List (List UInt8))(h0:0<l.length)(d:l.length<1000000)(e:∀h X,Ev E X ⟨loc,h⟩ (.lst [.ref D,.lst (l.map .bytes)])):XD D C 1 (ak g n (.ref 476) E) loc λv=>∃b∈l,v=.bytes b:=
 (cj e (rE kn q (by rw[Wd];exact h0) (by rw[Wd];exact Xz d dD))).imp λv p=>(WC.mp p).imp λb z=>⟨z.1,z.2.symm⟩
theorem x5(kn:Kn g K)(q:2<=n)(l:List Nat)(h0:0<l.length)(d:l.length<1000000)(e:∀h X,Ev E X ⟨loc,h⟩ (.lst [.ref D,.lst (l.map λm:Nat=>.int m)])):XD D C 1 (ak g n (.ref 476) E) loc λv=>∃b∈l,v=.int (b:Nat):=
 (cj e (rE kn q (by rw[Wd];exact h0) (by rw[Wd];exact Xz d dD))).imp λv p=>(WC.mp p).imp λb z=>⟨z.1,z.2.symm⟩
theorem tu(b:List UInt8):eqT ((cY b).getD .none) ((cY b).getD .none)=some true:=by
 generalize e:cY b=q;cases q with
 |none=>rfl
 |some v=>
  obtain⟨x,y,rfl⟩:=BZ e
  show jZ none (jh 3) [.bytes x,.bytes y] [.bytes x,.bytes y]=_
  exact pQ λv d=>by
   rcases Wf.mp d with rfl|d
   ·exact eq_bytes
   ·rw[Wr.mp d];exact eq_bytes
theorem Me(kn:Kn g K){k c o:List UInt8}{s:Nat}{v6 Y:Option V}(hs:s<=o.length)(U:o.length<=100000):SD D C 8 (fu g 6) [some (.ref D),some (.int size),some (.bytes k),some (.int s),some (.bytes c),some (.bytes o),v6,Y] λv=>v=.bool true:=λT h Q X dk hT q=>by
 refine xB (λb:Nat×Option V×Option V×AH=>⟨[some (.ref D),some (.int size),some (.bytes k),some (.int s),some (.bytes c),some (.bytes o),b.2.1,b.2.2.1],b.2.2.2⟩) (λm _ b=>Drawn D C b.1 h b.2.2.2∧b.1+m*4<=T+8) (T,v6,Y,h) (nL (N:=2) Iq dD) ⟨.rfl dk,Wh _⟩ (λ_ b i=>a5 (v:=.bool true) Iq (bc (q _ _ rfl (i.1.up i.2)))) λm x b i Qc J kr=>?_
 have Z:b.1+4<=T+8:=V4 (Wu (by rw[aac];exact XU _ _) _) i.2
 have H:((o.length:Int)-s+1)=((o.length-s+1:Nat):Int):=by rw[adC,Int.ofNat_sub hs];rfl
 refine Jj (cj (n:=6) (vs:=[.ref D,.bytes o,.int (o.length-s+1:Nat)]) (λh X=>ar Iq (ar Iq (ar (bq Iq (congrArg V.int H)) λ_ k=>k))) (DO kn dD (Xs _) (Wp (Wm (V4 (YW _ _) U)) dD) U)) (DS.rfl i.1.d) (V4 Z hT) λv L p z _=>?_
 obtain⟨w,rfl,hb⟩:=p
 have G:w.length<=900000:=V4 (zY U hb) dD
 exact je (dh (aG Iq (nI kn dD)) (aG Iq (zT kn dD G)) (by
  show eqT (res L ((cY w).getD .none)) (res L ((cY w).getD .none))=_
  have e:=tu w
  revert e
  generalize z:cY w=I;cases I with
  |none=>exact λe=>e
  |some v=>obtain⟨x,y,rfl⟩:=BZ z;exact λe=>e)) rfl (J (b.1+4,_,_,L) ⟨⟨z.d,λa n m=>(z.f a n m).trans (i.1.f a n m)⟩,by rw[WJ,W4 4,←aac];exact i.2⟩)
theorem Qu:gs size [98,108,111,98] b=some (.bytes b):=rfl
theorem Jz(kn:Kn g K)(L:7<=n):Dr g n 524 D C (1+(1+((0+12*1)+8))) [.ref D,.int size] λv=>v=.bool true:=by
 refine dj (n:=6) kn kn.law_heads_right rfl L (iv (dm kn dD NZ dD dD λ_ _ _ k=>V8 (V5 rfl) k) (x5 kn dD N0 dD dD λ_ _ _ k=>V8 (V5 rfl) k) ?_)
 rintro u v ⟨k,y,rfl⟩ ⟨s,hs,rfl⟩
 have y:=Jx k y
 have d:=Jy s hs
 refine fh (P:=λv=>∃c,v=.bytes c∧c.length=s) (P5 (xW (m:=12) (k:=1) (j:=0) (P:=λv=>∃c:UInt8,True∧v=.int (c.toNat:Nat)) (G:=λl=>l.length=s) dD (l4 (v:=.lst (eA 1 s 0)) (λh X=>nL Iq (V4 d dD)) ⟨_,rfl,by rw[fR];exact d,fR s 0⟩) λa=>(cj (n:=6) (vs:=[.ref D,.bytes [0,97,32,49]]) (λ_ _ _ k=>k) (zW kn dD dD dD)).imp λv p=>p.elim λc z=>⟨c,trivial,z.2⟩) ?_) ?_
 ·rintro v ⟨us,items,rfl,U,l2,p⟩
  obtain⟨l,rfl,_⟩:=all_map (f:=λc:UInt8=>V.int (c.toNat:Nat)) p
  refine⟨.bytes (Fx (jf l)),⟨_,rfl,by rw[Wd,Wd,←l2,←U,Wd]⟩,λh Qv k=>?_⟩
  have:=iw (l:=jf l) (λx hx=>by obtain⟨c,_,rfl⟩:=WC.mp hx;exact c.toNat_lt) k
  unfold jf at this
  rw[Xy]at this
  exact this
 rintro v ⟨c,rfl,hc⟩
 have ld:(bL s).length<=2:=by rw[Wd];exact xE (k:=1) (Wp d dD)
 have b:(k++[32]++bL s++[0]++c).length<=100:=by
  rw[V6,V6,V6,V6,hc]
  exact V4 (Wx (Wx (Wx (Wx y.1.2 (Wh 1)) ld) (Wh 1)) d) dD
 have e:=cB b
 have o:=cB e
 have t:100<=16777216:=dD
 have lo:s<=(k++[32]++bL s++[0]++c).length:=by rw[V6,hc];exact XU _ _
 have w:=B7 y.1.1 y.2.1 y.2.2 hc
 refine dQ (v:=.bytes (k++[32]++bL s++[0]++c)) (λh X=>bl (bl (bl (bl Iq Iq (bt (cB o) t)) (aG (ar (lZ Iq λ_ k=>⟨DE (V4 d dD),k⟩) λ_ k=>k) (nG kn dD (V4 (xE (k:=1) (Wp d dD)) dD) (xD s))) (bt o t)) Iq (bt e t)) Iq (bt b t)) ?_
 refine vw (λh X=>nM (dh (aG Iq (rh kn dD (by rw[hc];exact V4 b dD))) Iq (by rw[hc];exact eq_bytes (n:=3))) (dh (aG Iq (nI kn dD)) (λ_ k=>V8 (V5 rfl) k) (by rw[w];have:=tu (k++[32]++bL s++[0]++c);rw[w]at this;exact this))) ?_
 have J:cU g 6 433 [.bytes [98,108,111,98],.bytes c,.int size] (some (.bytes c)):=λ{Q X h} q=>kS (size:=size) (kind:=[98,108,111,98]) kn dD (by rw[hc];exact V4 d dD) q
 refine vw (λh X=>nM (dh (aG Iq J) Iq (eq_bytes (n:=3))) (dh (aG Iq (nH kn dD (by rw[hc];exact V4 d dD))) Iq rfl)) ?_
 exact Me kn lo (V4 b dD)
end
section
variable{g:Gl}{K:Frag}{n m i j k l a:Nat}{D C:Addr}{loc cap:List (Option V)}{P R S:V->Prop}{E F A B W r Cd:PT}{u v:V}{vs:List V}{T size:Nat}{h:AH}{X:St->Prop}{st:St}{x y:List Nat}
theorem Mf(h1:Ev A X st (.str x))(d:Ev B X st (.str y))(l:Aw (x.length+y.length)):Ev (ao .Add A B) X st (.str (x++y)):=λ_ k=>h1 _ (d _ (V8 l k))
theorem SU(h1:Ev A X st (.str x))(d:Ev B X st (.int i))(l:i<=x.length):Ev (bb A (af .none) B) X st (.str (x.take i)):=λ_ k=>h1 _ (d _ ⟨0,i,.inl ⟨rfl,rfl⟩,.inr rfl,Wy _,l,k⟩)
theorem Mg(h1:Ev A X st (.str x))(d:Ev B X st (.int i))(l:i<=x.length):Ev (bb A B (af .none)) X st (.str (x.drop i)):=λQ k=>h1 _ (d _ ⟨i,x.length,.inr rfl,.inl ⟨rfl,rfl⟩,l,Wh _,by
 show Q (.str ((x.drop i).take (x.length-i))) st
 rw[Zj (by rw[WV];exact Wh _)];exact k⟩)
theorem SV(h1:Ev A X st u)(q:Ev B X st v)(d:Ev E X st w):Ev (a6 (c8 (aa A (aa B (aa E ag))))) X st (.lst [u,v,w]):=λ_ k=>h1 _ (q _ (d _ (V8 (V5 rfl) k)))
theorem Mh(kn:Kn g K)(hb:b.length<=1000)(p:i<(cz b).length):SD D C 0 (gr g 3) [some (.ref D),some (.bytes b),some (.str (cz b)),some (.int i),v4,v5] λv=>v=.bool true:=λT h Q X dk hT q=>by
 have w:=g8 b
 have d:(cz b).length<=2000:=by rw[w];exact WX 2 hb
 have c:((cz b).take i).length<=2000:=by rw[Xi];exact V4 (YC _ _) d
 have l2:((cz b).drop (i+1)).length<=2000:=by rw[WV];exact V4 (YW _ _) d
 have f:∀{X v4},Ev (bb (ae 2) (af .none) (ae 3)) X ⟨[some (.ref D),some (.bytes b),some (.str (cz b)),some (.int i),v4,v5],h⟩ (.str ((cz b).take i)):=λ{X v4}=>SU Iq Iq (Xo p)
 have J:∀{X v4},Ev (bb (ae 2) (ao .Add (ae 3) (af (.int 1))) (af .none)) X ⟨[some (.ref D),some (.bytes b),some (.str (cz b)),some (.int i),v4,v5],h⟩ (.str ((cz b).drop (i+1))):=λ{X v4}=>Mg Iq Iq p
 have eq:(cz b).take i++(cz b).drop (i+1)=(cz b).eraseIdx i:=(acU ..).symm
 refine d9 (e:=V.str) (l:=[(cz b).take i++(cz b).drop (i+1),(cz b).take i++[103]++(cz b).drop (i+1),cz b++[45]]) (λs:Option V×Option V=>⟨[some (.ref D),some (.bytes b),some (.str (cz b)),some (.int i),s.1,s.2],h⟩) (λl _=>∀s∈l,ee s=none∧s.length<=800000) (v4,v5) (SV (Mf f J (V4 (Wx c l2) dD)) (Mf (Mf f Iq (V4 (Wv c 1) dD)) J (by rw[V6];exact V4 (Wx (Wv c 1) l2) dD)) (Mf Iq Iq (V4 (Wv d 1) dD))) ?_ (λs i=>a5 (v:=.bool true) Iq (bc (q _ _ rfl (.rfl dk)))) λs r z o H Y G=>?_
 ·obtain⟨m,L⟩:∃m,b.length=m+1:=by
   cases b with
   |nil=>exact absurd p (abT i)
   |cons a r=>exact⟨r.length,rfl⟩
  intro s hs
  rcases Wf.mp hs with rfl|hs
  ·refine⟨pG m _ ?_,by rw[V6];exact V4 (Wx c l2) dD⟩
   rw[eq,ZE p,w,L];rfl
  rcases Wf.mp hs with rfl|hs
  ·exact⟨Md _ _ 103 (Wh _) (Yg _ (WK _ (.head _))) dD,by rw[V6,V6];exact V4 (Wx (Wv c 1) l2) dD⟩
  ·rw[Wr.mp hs]
   exact⟨pG b.length _ (by rw[V6,w];rfl),by rw[V6];exact V4 (Wv d 1) dD⟩
 ·have os:=o s (.head _)
  refine aZ Iq (I0 (o:=none) (λQ' Z q=>dH kn dD os.2 (by rw[os.1];exact q)) (je (b:=false) (bJ Iq Iq λ_ k=>⟨trivial,k⟩) rfl (Y (_,_) λt U=>o t (.tail _ U))))
theorem B8(h1:Ev A X st (.bool false))(q:Ev B X st (.bool false))(d:Ev F X st (.bool false)):Ev (cF A (cF B (cF F (af (.bool .false))))) X st (.bool false):=cg (a:=false) (b:=false) h1 λ_=>nM q d
theorem Qw(kn:Kn g K)(f:4<=n)(hb:b.length<=1000)(h0:0<b.length):Dr g n 531 D C 1 [.ref D,.bytes b] λv=>v=.bool true:=by
 have c:b.length<=400000:=V4 hb dD
 have d:=g8 b
 have e:(bg b).length<=2000:=by rw[Wd,d];exact WX 2 hb
 have J:cU g 3 457 [.bytes (bg b)] (some (.str (cz b))):=λ{Q X h} q=>BY kn dD (V4 e dD) (by rw[z4];exact q)
 have z:(cz b).length<=800000:=by rw[d];exact V4 (WX 2 hb) dD
 have w:cU g 3 85 [.str (cz b)] (some (.bytes b)):=λ{Q X h} q=>dH kn dD z (by rw[Jv];exact q)
 have p:cU g 3 85 [.str ((cz b).map XO)] (some (.bytes b)):=λ{Q X h} q=>dH kn dD (by rw[Wd];exact z) (by rw[Qq];exact q)
 refine dj (n:=3) kn kn.law_hex_right rfl f (dQ (v:=.str (cz b)) (λh X=>aG (ar (aG Iq (pP kn dD c)) λ_ k=>k) J) ?_)
 refine vw (λh X=>B8 (dh (aG Iq (zG kn dD c)) Iq (congrArg some (beq_self_eq_true (cz b)))) (dh (aG Iq w) Iq (eq_bytes (n:=3))) (dh (aG (ar (LI Iq rfl Iq λ_ k=>V8 Jw k) λ_ k=>k) p) Iq (eq_bytes (n:=3)))) ?_
 refine fh (k:=1) (l:=0) (cj (vs:=[.ref D,.int (cz b).length]) (λ_ _ _ k=>k) (b7 kn dD (by rw[d];exact adg dD h0) (Wp z dD))) ?_
 rintro v ⟨i,o,rfl⟩
 exact Mh kn hb o
end
noncomputable def eH.t(p:eH):V:=.tup [.bytes p.m,.bytes p.e,.int p.w,.bytes p.z]
noncomputable def PN:List (List UInt8):=[[65],[65,110,110,32,66,46,32,67,101,101],[195,169],[]]
noncomputable def PE:List (List UInt8):=[[97,64,98],[120,32,121],[97,110,110,64,99,46,100]]
noncomputable def PW:List Nat:=[0,1,1234567890,1000000000000]
noncomputable def PZ:List (List UInt8):=[[43,48,48,48,48],[45,48,49,51,48],[43,49,50,52,53]]
noncomputable def l5:List eH:=PN.flatMap λm=>PE.flatMap λe=>PW.flatMap λw:Nat=>PZ.map λz=>⟨m,e,(w:Int),z⟩
noncomputable def SW(p:eH):Bool:=decide (0<=p.w)&&decide (p.w.natAbs<2^50)&&decide (p.oct.length<=50)
theorem Mj:∀p∈l5,SW p=true:=dD
structure N1(p:eH):Prop where
 ok:p.OK
 l:p.oct.length<=50
 w:∃n:Nat,p.w=n∧n<10^16
theorem pS(h:p∈l5):N1 p:=by
 have h:=aJ (Mj p h)
 have h1:=aJ h.1
 have e:=YJ (of_decide_eq_true h1.1)
 have l:p.w.natAbs<2^50:=of_decide_eq_true h1.2
 refine⟨⟨of_decide_eq_true h1.1,?_,V4 (of_decide_eq_true h.2) dD⟩,of_decide_eq_true h.2,p.w.toNat,e.symm,?_⟩
 ·by_cases z:p.w.natAbs=0
  ·rw[z];decide
  ·exact Xz ((afb z).mpr l) dD
 ·rw[←e,acK]at l;exact Xz l dD
noncomputable def l6:List (List UInt8):=[[65,32,97,64,98,62,32,49,32,43,48,48,48,48],[65,32,60,97,64,98,32,49,32,43,48,48,48,48],[65,32,60,97,64,98,62,32,43,48,48,48,48],[65,32,60,97,64,98,62,32,120,32,43,48,48,48,48],[65,32,60,97,64,98,62,32,45,49,32,43,48,48,48,48],[65,32,60,97,64,98,62,32,48,49,32,43,48,48,48,48],[65,32,60,97,64,98,62,32,49,32,48,48,48,48],[65,32,60,97,64,98,62,32,49,32,43,48,48,48],[65,32,60,97,64,98,62,32,49,32,43,48,48,48,48,48],[65,32,60,97,64,98,62,32,49,32,43,48,97,48,48],[65,32,60,97,64,98,62,32,49],[65,32,60,97,0,98,62,32,49,32,43,48,48,48,48]]
noncomputable def dz(p:List UInt8)(i:Nat):List (List UInt8):=[p.take i++p.drop (i+1),p++[48],p.map ZR,p.take i++[103]++p.drop (i+1),[32]++p,[]]
section
variable{g:Gl}{K:Frag}{n m i j k l a:Nat}{D C c:Addr}{loc cap:List (Option V)}{P R S:V->Prop}{E F A B W r Cd:PT}{u v w:V}{vs:List V}{T size:Nat}{h:AH}{X:St->Prop}{st:St}{x y:List UInt8}{p:eH}
theorem JA{m e z:List UInt8}{w:Nat}(h1:m∈PN)(b:e∈PE)(d:w∈PW)(q:z∈PZ):(⟨m,e,w,z⟩:eH)∈l5:=
 ZI.mpr ⟨m,h1,ZI.mpr ⟨e,b,ZI.mpr ⟨w,d,XY q⟩⟩⟩
theorem Qx(b:∀h X,Ev A X ⟨loc,h⟩ u)(e:∀h X,Ev B X ⟨loc,h⟩ v)(o:∀h X,Ev F X ⟨loc,h⟩ z)(x:XD D C k E loc P)(s:∀w,P w->S (.tup [u,v,z,w])):XD D C k (c8 (aa A (aa B (aa F (aa E ag))))) loc S:=λ_ _ _ _ dk hT q=>
 b _ _ _ (e _ _ _ (o _ _ _ (x _ _ _ _ dk hT λw f p d=>V8 (V5 (.refl _)) (q _ f (s w p) d))))
theorem pT(kn:Kn g K)(b:3<=n):Dr g n 567 D C (1+(1+(1+1))) [.ref D] λv=>∃p∈l5,v=p.t:=by
 refine dj (n:=2) kn kn.law_person rfl b (iv (dm kn dD PN dD dD λ_ _ _ k=>V8 (V5 rfl) k) (dm kn dD PE dD dD λ_ _ _ k=>V8 (V5 rfl) k) ?_)
 rintro u v ⟨m,d,rfl⟩ ⟨e,f,rfl⟩
 refine fh (x5 kn dD PW dD dD λ_ _ _ k=>V8 ⟨dD,dD,dD⟩ (V8 (V5 rfl) k)) ?_
 rintro v ⟨w,q,rfl⟩
 exact jF (Qx (λ_ _ _ k=>k) (λ_ _ _ k=>k) (λ_ _ _ k=>k) (dm kn dD PZ dD dD λ_ _ _ k=>V8 (V5 rfl) k) λv p=>p.elim λz y=>⟨⟨m,e,w,z⟩,JA d f q y.1,by rw[y.2];rfl⟩)
theorem tv(h1:Ev A X st (.tup vs))(i:Nat)(e:vs[i]? = some v):Ev (aQ A (af (.int i))) X st v:=dy h1 Iq λ_ k=>V8 (Ww i) (az e k)
theorem x6(kn:Kn g K)(G:2<=n)(ok:N1 p):cU g n 574 [p.t] (some (.bytes p.oct)):=λ{Q X h} q=>by
 obtain⟨w,f,Z⟩:=ok.w
 refine((aH (n:=1) (kn.H 1) kn.law_person_row rfl ?_).call).up G
 have Y:p.oct=p.m++[32,60]++p.e++[62,32]++bL w++[32]++p.z:=by unfold eH.oct rz;rw[f];rfl
 have d:=ok.l
 rw[Y]at d q
 have J:=cB d
 have U:=cB J
 have o:=cB U
 have l2:=cB o
 have t:50<=16777216:=dD
 have L:=ok.ok.b
 rw[f]at L
 exact a5 (bl (bl (bl (bl (bl (bl (tv Iq 0 rfl) Iq (bt (cB l2) t)) (tv Iq 1 rfl) (bt l2 t)) Iq (bt o t)) (aG (ar (lZ (tv (v:=.int w) Iq 2 (by rw[f];rfl)) λ_ k=>⟨L,k⟩) λ_ k=>k) (nG kn dD (V4 (xE (k:=15) Z) dD) (xD w))) (bt U t)) Iq (bt J t)) (tv Iq 3 rfl) (bt d t)) (bc q)
theorem x7(kn:Kn g K)(d:1<=n):cU g n 581 [p.v] (some p.t):=λ{Q X h} q=>by
 refine((aH (n:=0) (kn.H 0) kn.law_parts rfl ?_).call).up d
 exact a5 (v:=p.t) (λ_ k=>V8 trivial (V8 trivial (V8 trivial (V8 trivial (V8 (V5 rfl) k))))) (bc q)
theorem B9(kn:Kn g K)(d:3<=n):cU g n 588 [p.t] (some p.v):=λ{Q X h} q=>by
 refine((aH (n:=2) (kn.H 2) kn.law_made rfl ?_).call).up d
 exact a5 (aG (ar (tv Iq 0 rfl) (ar (tv Iq 1 rfl) (ar (tv Iq 2 rfl) (ar (tv Iq 3 rfl) λ_ k=>k)))) (zK kn dD)) (bc q)
theorem gE(kn:Kn g K)(d:3<=n):Dr g n 595 D C 1 [.ref D] λv=>∃b∈l6,v=.bytes b:=
 dj (n:=2) kn kn.law_odd_person rfl d (dQ (v:=.lst ((l6.take 5).map .bytes)) (λ_ _ _ k=>V8 (V5 rfl) k) (dQ (v:=.lst ((l6.take 10).map .bytes)) (λ_ _ _ k=>V8 (V5 rfl) (V8 (V5 rfl) k)) (dQ (v:=.lst (l6.map .bytes)) (λ_ _ _ k=>V8 (V5 rfl) (V8 (V5 rfl) k)) (jF (dm kn dD l6 dD dD λ_ _ _ k=>k)))))
end
section
variable{g:Gl}{K:Frag}{n m i j k l a:Nat}{D C c:Addr}{loc cap:List (Option V)}{P R S:V->Prop}{E F A B W r Cd:PT}{u v w:V}{vs ws:List V}{T size:Nat}{h:AH}{X:St->Prop}{st:St}{x y:List UInt8}{p:eH}
theorem uQ(h1:Ev A X st (.lst vs))(h2:Ev B X st (.lst ws))(l:vs.length+ws.length<=1000000):Ev (ao .Add A B) X st (.lst (vs++ws)):=λ_ k=>h1 _ (h2 _ (V8 l k))
theorem SX(h1:Ev A X st (.bytes x))(h2:Ev B X st (.int i)):Ev (bb A (af .none) B) X st (.bytes (x.take i)):=λ_ k=>h1 _ (h2 _ (by rw[←eN]at k;exact k))
theorem Mk(h1:Ev A X st (.bytes x))(h2:Ev B X st (.int i)):Ev (bb A B (af .none)) X st (.bytes (x.drop i)):=λ_ k=>h1 _ (h2 _ (by rw[←dg]at k;exact k))
theorem DV(h1:Ev A X st (.lst vs))(h2:Ev B X st (.int i)):Ev (bb A (af .none) B) X st (.lst (vs.take i)):=λ_ k=>h1 _ (h2 _ (by rw[←eN]at k;exact k))
theorem gu(h1:Ev E X st (.lst vs))(l:vs.length<=1000000):Ev (bp E) X st (.lst vs):=λ_ k=>h1 _ (V8 l k)
theorem vx(kn:Kn g K)(hn:3<=n)(h0:0<o.length)(hl:o.length<=1000):Dr g n 602 D C (1+1) [.ref D,.bytes o] λv=>∃b,v=.bytes b∧∃i,i<(bg o).length∧b∈dz (bg o) i:=by
 have lx:(bg o).length=2*o.length:=by rw[Wd,g8]
 have lh:(bg o).length<=2000:=by rw[lx];exact WX 2 hl
 refine dj (n:=2) kn kn.law_odd_id rfl hn (dQ (v:=.bytes (bg o)) (λh X=>aG Iq (pP kn dD (V4 hl dD))) (fh (cj (vs:=[.ref D,.int (bg o).length]) (λ_ _ _ k=>k) (b7 kn dD (by rw[lx];exact adg dD h0) (Wp lh dD))) ?_))
 rintro v ⟨i,hi,rfl⟩
 have l1:((bg o).take i).length<=2000:=by rw[Xi];exact V4 (YC _ _) lh
 have l2:((bg o).drop (i+1)).length<=2000:=by rw[WV];exact V4 (YW _ _) lh
 have e1:∀h (X:St->Prop),Ev (bb (ae 2) (af .none) (ae 3)) X ⟨[some (.ref D),some (.bytes o),some (.bytes (bg o)),some (.int i),none],h⟩ (.bytes ((bg o).take i)):=λh X=>SX Iq λ_ k=>k
 have e2:∀h (X:St->Prop),Ev (bb (ae 2) (ao .Add (ae 3) (af (.int 1))) (af .none)) X ⟨[some (.ref D),some (.bytes o),some (.bytes (bg o)),some (.int i),none],h⟩ (.bytes ((bg o).drop (i+1))):=λh X=>Mk Iq λ_ k=>k
 refine dQ (v:=.lst ((dz (bg o) i).map .bytes)) (λh X=>gu (ar (bl (e1 h X) (e2 h X) (V4 (Wx l1 l2) dD)) (ar (bl Iq Iq (V4 (Wv lh 1) dD)) (ar (kE Iq rfl Iq λ_ k=>k) (ar (bl (bl (e1 h X) Iq (V4 (Wv l1 1) dD)) (e2 h X) (by rw[V6];exact V4 (Wx (Wv l1 1) l2) dD)) (ar (bl Iq Iq (V4 (Wu lh 1) dD)) (ar Iq λ_ k=>k)))))) (V5 rfl)) (jF ((dm kn dD (dz (bg o) i) (show 0<6 by decide) (show 6<1000000 by decide) λ_ _ _ k=>k).imp λv p=>p.elim λb z=>⟨b,z.2,i,hi,z.1⟩))
noncomputable def gF(a b c:List UInt8):List (List (List UInt8)):=[[b,c],[a,c],[a,b],[a,a,b,c],[a,b,b,c],[a,b,c,c],[b,a,c],[a,c,b],[c,b,a]]
theorem Qy{a b c:List UInt8}(i:Nat)(h:i<3):([a,b,c].take i++[a,b,c].drop (i+1)∈gF a b c)∧([a,b,c].take (i+1)++[a,b,c].drop i∈gF a b c):=
 U0 h ⟨.head _,.tail _ (.tail _ (.tail _ (.head _)))⟩ ⟨.tail _ (.head _),.tail _ (.tail _ (.tail _ (.tail _ (.head _))))⟩ ⟨.tail _ (.tail _ (.head _)),.tail _ (.tail _ (.tail _ (.tail _ (.tail _ (.head _)))))⟩
theorem SY{xs:List (List UInt8)}{x:List UInt8}(h1:Ev A X st (.lst (xs.map .bytes)))(h2:Ev B X st (.int i))(e:xs[i]? = some x):Ev (aQ A B) X st (.bytes x):=BP h1 h2 (by rw[YF,e];rfl)
theorem JB{xs:List (List UInt8)}{x:List UInt8}{Q:St->Prop}(e:h c=some (.list (xs.map .bytes)))(l:i<xs.length)(k:Q ⟨loc,upd h c (some (.list ((xs.set i x).map .bytes)))⟩):Om (.ref c) (.int i) (.bytes x) Q ⟨loc,h⟩:=az e (by
 show if(i:Int)=-1 then xs.map V.bytes≠[]∧Q ⟨loc,upd h c (some (.list ((xs.map V.bytes).set ((xs.map V.bytes).length-1) (.bytes x))))⟩else(0<=(i:Int)∧(i:Int)<(xs.map V.bytes).length)∧Q ⟨loc,upd h c (some (.list ((xs.map V.bytes).set i (.bytes x))))⟩
 rw[if_neg xM,←List.map_set,Wd]
 exact⟨⟨Ww i,Xl.mpr l⟩,k⟩)
theorem x8{Q:V->AH->Prop}{X:AH->Prop}{xs:List (List UInt8)}{xi xj:List UInt8}{v0 v4 v5 v6:Option V}(hi:xs[i]? = some xi)(hj:xs[j]? = some xj)(ej:((i:Int)+1).fmod 3=j)(li:i<xs.length)(lj:j<xs.length)(key:∀c' h',h c'=none->h' c'=some (.list (((xs.set i xj).set j xi).map .bytes))->(∀z,z≠c'->h' z=h z)->Fin Q (.ref c') h'):jz g 1 (dC Q) (bz X) ⟨[v0,some (.lst (xs.map .bytes)),some (.int 3),some (.int i),v4,v5,v6],h⟩:=by
 refine aZ (v:=.int j) (λ_ k=>V8 (show(3:Int)≠0 by decide) (by rw[ej];exact k)) ?_
 refine qe (.inr λc' hc=>?_)
 refine zC (st':=⟨[v0,some (.lst (xs.map .bytes)),some (.int 3),some (.int i),v4,some (.int j),some (.ref c')],upd (upd (upd h c' (some (.list (xs.map .bytes)))) c' (some (.list ((xs.set i xj).map .bytes)))) c' (some (.list (((xs.set i xj).set j xi).map .bytes)))⟩) (λQc k=>?_) ?_
 ·refine SY Iq Iq hj _ (SY Iq Iq hi _ (V8 (V5 rfl) (V8 rfl ?_)))
  exact JB (aB _ _ _) li (JB (aB _ _ _) (by rw[aaA];exact lj) k)
 ·exact a5 Iq (key c' _ hc (aB _ _ _) λz n=>(aE n).trans ((aE n).trans (aE n)))
theorem vy(kn:Kn g K)(hn:2<=n){a b c:List UInt8}:Dr g n 609 D C (1+(1+0)) [.ref D,.lst ([a,b,c].map .bytes),.int 3] λv=>∃l∈gF a b c,v=.lst (l.map .bytes):=by
 refine dj (n:=1) kn kn.law_spoilt rfl hn (fh (cj (vs:=[.ref D,.int 3]) (λ_ _ _ k=>k) (b7 (below:=3) kn dD dD dD)) ?_)
 rintro v ⟨i,hi,rfl⟩
 refine fh (cj (vs:=[.ref D,.int 3]) (λ_ _ _ k=>k) (b7 (below:=3) kn dD dD dD)) ?_
 rintro v ⟨w,_,rfl⟩
 have sp:=Qy (a:=a) (b:=b) (c:=c) i hi
 have lt:∀{k:Nat},(([a,b,c].map V.bytes).take k).length<=3:=λ{k}=>by rw[Xi];exact YC _ _
 have ld:∀{k:Nat},(([a,b,c].map V.bytes).drop k).length<=3:=λ{k}=>by rw[WV];exact YW _ _
 refine xU (b:=(w:Int)==0) (λ_ _ _ k=>k) (λ_=>l4 (v:=.lst (([a,b,c].map V.bytes).take i++([a,b,c].map V.bytes).drop (i+1))) (λh X=>uQ (DV Iq λ_ k=>k) (s8 Iq λ_ k=>k) (V4 (Wx lt ld) dD)) ⟨_,sp.1,by rw[WE,abf,abg]⟩) λ_=>?_
 refine xU (b:=(w:Int)==1) (λ_ _ _ k=>k) (λ_=>l4 (v:=.lst (([a,b,c].map V.bytes).take (i+1)++([a,b,c].map V.bytes).drop i)) (λh X=>uQ (DV Iq λ_ k=>k) (s8 Iq λ_ k=>k) (V4 (Wx lt ld) dD)) ⟨_,sp.2,by rw[WE,abf,abg]⟩) λ_=>λT h Q X dk hT q=>?_
 have key:∀l∈gF a b c,∀c' h',h c'=none->h' c'=some (.list (l.map .bytes))->(∀z,z≠c'->h' z=h z)->Fin Q (.ref c') h':=λl hl c' h' n e f=>by
  refine .fr c' _ e ?_
  show Fin Q (if c'=c' then .lst (l.map .bytes)else .ref c') _
  rw[if_pos rfl,show upd h' c' none=h from funext λz=>(Yj (z=c')).elim (λy=>by rw[y,aB,n]) λy=>(aE y).trans (f z y)]
  exact bc (q _ h ⟨l,hl,rfl⟩ (.rfl dk))
 unfold gF at key
 refine U0 hi ?_ ?_ ?_
 ·exact x8 (xs:=[a,b,c]) (i:=0) (j:=1) rfl rfl dD (V5 rfl) (V5 rfl) (key [b,a,c] (.tail _ (.tail _ (.tail _ (.tail _ (.tail _ (.tail _ (.head _))))))))
 ·exact x8 (xs:=[a,b,c]) (i:=1) (j:=2) rfl rfl dD (V5 rfl) (V5 rfl) (key [a,c,b] (.tail _ (.tail _ (.tail _ (.tail _ (.tail _ (.tail _ (.tail _ (.head _)))))))))
 ·exact x8 (xs:=[a,b,c]) (i:=2) (j:=0) rfl rfl dD (V5 rfl) (V5 rfl) (key [c,b,a] (.tail _ (.tail _ (.tail _ (.tail _ (.tail _ (.tail _ (.tail _ (.tail _ (.head _))))))))))
end
theorem S0{P:V->Prop}{a b c d:V}(h1:P a)(f:P b)(q:P c)(z:P d):∀v∈[a,b,c,d],P v:=λv h=>by
 rcases Wf.mp h with rfl|h
 ·exact h1
 ·exact Qf f q z v h
theorem Ca{n:Nat}{p:eH}:jh (n+2) p.t p.t=some true:=B3 (S0 eq_bytes eq_bytes eq_int eq_bytes)
theorem S1{n:Nat}{l:List (List UInt8)}:jh (n+2) (.lst (l.map .bytes)) (.lst (l.map .bytes))=some true:=pR λv h=>by
 obtain⟨b,_,rfl⟩:=WC.mp h
 exact eq_bytes
theorem Qz{n:Nat}{l:List Hd}:jh (n+3) (.lst (l.map Hd.t)) (.lst (l.map Hd.t))=some true:=pR λv h=>by
 obtain⟨b,_,rfl⟩:=WC.mp h
 exact B3 λv d=>by
  rcases Wf.mp d with rfl|d
  ·exact eq_bytes
  ·rw[Wr.mp d];exact eq_bytes
noncomputable def cT:List UInt8:=[116,114,101,101,32]
noncomputable def cP:List UInt8:=[112,97,114,101,110,116,32]
noncomputable def cA:List UInt8:=[97,117,116,104,111,114,32]
noncomputable def cC:List UInt8:=[99,111,109,109,105,116,116,101,114,32]
noncomputable def cE:List UInt8:=[99,111,109,109,105,116]
noncomputable def dT.fix(c:dT):List (List UInt8):=[cT++bg c.tree,cA++c.au.oct,cC++c.co.oct]
noncomputable def dT.mid(c:dT):List (List UInt8):=c.par.map λo=>cP++bg o
noncomputable def jG(x:Hd):List UInt8:=x.k++[32]++aP [10,32] (aL 10 x.v)
noncomputable def dT.tl(c:dT):List (List UInt8):=c.ex.map jG
noncomputable def dT.txt(c:dT):List UInt8:=aP [10] (c.fix.take 1++c.mid++c.fix.drop 1++c.tl)++[10,10]++c.msg
structure z6(size:Nat)(c:dT):Prop where
 t:eY size c.tree
 p:∀o∈c.par,eY size o
 pl:c.par.length<=2
 pa:c.au∈l5
 pc:c.co∈l5
 x:c.ex.length<=2∧∀a∈c.ex,a.v.length<=100∧a.k.length<=100
 m:c.msg.length<=100
 r:gh size c.txt=some c
 o:c.oct=c.txt
 l:c.txt.length<=1000
section
variable{g:Gl}{K:Frag}{n m i j k l a:Nat}{D C:Addr}{loc cap:List (Option V)}{P R S:V->Prop}{E F A B W r Cd:PT}{u v w:V}{vs ws:List V}{T size:Nat}{h:AH}{X:St->Prop}{st:St}{x y:List UInt8}{p:eH}{c:dT}{v13 v14:Option V}
theorem Ml{z:Type}{a b f:z->V}{l:List z}{is:List Nat}{It d:PT}(o:Ev It X st (.lst (l.map λx=>.tup [a x,b x])))(J:l.length<=1000000)(L:∀x∈l,Ev d uS ⟨none::some (a x)::some (b x)::eI is st.loc,st.h⟩ (f x)):Ev (a7 3 is (hV (cL 2 [aj 1,aj 2]) j0 d) It) X st (.lst (l.map f)):=
 λ_ k=>o _ ⟨g5 J,NO (e:=λx=>.tup [a x,b x]) (λs=>∃x y,s=⟨none::x::y::eI is st.loc,st.h⟩) f (λx hx s _ i q=>by obtain⟨u,w,rfl⟩:=i;exact V8 rfl (L x hx _ (q _ ⟨_,_,rfl⟩))) ⟨_,_,rfl⟩ λs i=>by obtain⟨u,w,rfl⟩:=i;exact k⟩
noncomputable abbrev FO(D:Addr)(size:Nat)(c:dT)(d v13 v14:Option V):List (Option V):=[some (.ref D),some (.int size),some (.bytes c.tree),some (.lst (c.par.map .bytes)),some c.au.t,some c.co.t,some (.lst (c.ex.map Hd.t)),some (.bytes c.msg),some (.lst (c.fix.map .bytes)),some (.lst (c.mid.map .bytes)),some (.lst (c.tl.map .bytes)),some (.bytes c.txt),d,v13,v14]
theorem DW(kn:Kn g K)(ok:z6 size c)(hs:size<=4)(d:3<=n):cU g n 355 [c.v] (some (.bytes c.txt)):=λ{Q X h} q=>
 rg kn d (pS ok.pa).ok (pS ok.pc).ok (by rw[ok.t.l];exact V4 hs dD) (λp hp=>by rw[(ok.p p hp).l];exact V4 hs dD) (λa ha=>V4 (ok.x.2 a ha).1 dD) (by rw[ok.o];exact V4 ok.l dD) (by
  rw[WM,V6,WM,WM,V6,Wd,Wd]
  exact V4 (Wm (Wx ok.pl (Wm (Wm (Wx ok.x.1 (Wh 1)))))) dD) (by rw[ok.o];exact q)
theorem FP(kn:Kn g K)(hs:size<=4)(ok:z6 size c)(y:SD D C l (bT g 6) (FO D size c (some c.v) v13 v14) R):SD D C l (d6 g 6) (FO D size c none v13 v14) R:=by
 refine dQ (v:=tg size cE c.txt) (λh X=>aG Iq (nH kn dD (V4 ok.l dD))) ?_
 rw[show tg size cE c.txt=((gh size c.txt).map dT.v).getD TU from rfl,ok.r]
 refine vw (λh X=>B8 (bJ Iq Iq λ_ k=>k) (dh (l0 Iq rfl Iq (DW kn ok hs dD)) Iq (eq_bytes (n:=3))) (dh (gu (ar (λ_ k=>V8 trivial k) (ar (lZ (λ_ k=>V8 trivial k) λ_ k=>.inl k) (ar (λ_ k=>V8 trivial k) λ_ k=>k))) (V5 rfl)) (gu Iq (V5 rfl)) (pR (n:=3) (Qf eq_bytes S1 eq_bytes)))) ?_
 refine vw (λh X=>nM (dh (gu (ar (aG (ar (λ_ k=>V8 trivial k) λ_ k=>k) (x7 kn dD)) (ar (aG (ar (λ_ k=>V8 trivial k) λ_ k=>k) (x7 kn dD)) λ_ k=>k)) (V5 rfl)) (gu Iq (V5 rfl)) (pR (n:=3) λv d=>by
  rcases Wf.mp d with rfl|d
  ·exact Ca
  ·rw[Wr.mp d];exact Ca)) (dh (eb (e:=Hd.t) (f:=Hd.t) (λ_ k=>V8 trivial k) (V4 ok.x.1 dD) λa ha _ k=>k) Iq (Qz (n:=1)))) ?_
 exact vw (λh X=>dh (l0 (aG (ar Iq (ar Iq (ar (aG Iq (B9 kn dD)) (ar (aG Iq (B9 kn dD)) λ_ k=>k)))) (zL kn dD)) rfl Iq (DW kn ok hs dD)) Iq (eq_bytes (n:=3))) y
end
noncomputable def Gg:Hd:=⟨[101,110,99,111,100,105,110,103],[108,97,116,105,110,49]⟩
noncomputable def QA:Hd:=⟨[110,111,116,101,45,120],[111,110,101,10,116,119,111,10,10,102,111,117,114]⟩
noncomputable def Mm:List (List Hd):=[[],[QA],[Gg],[Gg,QA]]
noncomputable def JC:List (List UInt8):=[[],[111,110,101,10],[111,110,101,10,10,116,119,111,32,116,104,114,101,101],[10],[97,10,98,10,10]]
theorem JD:∀l∈Mm,l.length<=2∧l.all (λx=>decide (x.v.length<=100)&&decide (x.k.length<=100)&&decide ((jG x).length<=100)&&decide ((aP [10,32] (aL 10 x.v)).length<=100))=true:=λl d=>by
 rcases Wf.mp d with rfl|d
 ·exact⟨Wy _,rfl⟩
 rcases Wf.mp d with rfl|d
 ·exact⟨V5 rfl,by kernel_rfl⟩
 rcases Wf.mp d with rfl|d
 ·exact⟨V5 rfl,by kernel_rfl⟩
 rw[Wr.mp d]
 exact⟨V5 rfl,by kernel_rfl⟩
structure pU(size:Nat)(c:dT):Prop where
 t:eY size c.tree
 p:∀o∈c.par,eY size o
 pl:c.par.length<=2
 pa:c.au∈l5
 pc:c.co∈l5
 x:c.ex∈Mm
 m:c.msg∈JC
section
variable{g:Gl}{K:Frag}{n m i j k l a:Nat}{D C:Addr}{loc cap:List (Option V)}{P R S:V->Prop}{E F A B W r Cd:PT}{u v w:V}{vs ws:List V}{T size:Nat}{h:AH}{X:St->Prop}{st:St}{x y:List UInt8}{p:eH}{c:dT}{v9 v10 v11 v12 v13 v14:Option V}
theorem iy(h:eY size o)(hs:size<=4):o.length<=400000∧(bg o).length<=8:=by
 rw[h.l]
 refine⟨V4 hs dD,?_⟩
 rw[Wd,g8,h.l]
 exact WX 2 hs
theorem x9(kn:Kn g K)(q:1<=n){a o:List UInt8}(e:Ev E X st (.bytes o))(d:eY size o)(hs:size<=4)(ha:a.length<=100):Ev (ao .Add (af (.bytes a)) (ak g n (.ref 481) (aa E ag))) X st (.bytes (a++bg o)):=
 bl Iq (aG (ar e λ_ k=>k) (pP kn q (iy d hs).1)) (V4 (Wx ha (iy d hs).2) dD)
theorem Cb(kn:Kn g K)(d:2<=n){a:List UInt8}(e:Ev E X st p.t)(hp:p∈l5)(ha:a.length<=100):Ev (ao .Add (af (.bytes a)) (ak g n (.ref 574) (aa E ag))) X st (.bytes (a++p.oct)):=
 bl Iq (aG (ar e λ_ k=>k) (x6 kn d (pS hp))) (V4 (Wx ha (pS hp).l) dD)
theorem Mn(kn:Kn g K)(hs:size<=4)(d:pU size c)(ok:z6 size c)(y:SD D C l (bT g 6) (FO D size c (some c.v) none none) R):SD D C l (cM g 6) [some (.ref D),some (.int size),some (.bytes c.tree),some (.lst (c.par.map .bytes)),some c.au.t,some c.co.t,some (.lst (c.ex.map Hd.t)),some (.bytes c.msg),none,none,none,none,none,none,none] R:=by
 have ex:=JD _ d.x
 have I:c.par.length<=1000000:=V4 d.pl dD
 refine dQ (v:=.lst (c.fix.map .bytes)) (λh X=>gu (ar (x9 kn dD Iq d.t hs (V5 rfl)) (ar (Cb kn dD Iq d.pa (V5 rfl)) (ar (Cb kn dD Iq d.pc (V5 rfl)) λ_ k=>k))) (V5 rfl)) ?_
 refine dQ (v:=.lst (c.mid.map .bytes)) (λh X=>bq (eb (e:=.bytes) (f:=λo=>.bytes (cP++bg o)) Iq I λo Q=>x9 kn dD Iq (d.p o Q) hs (V5 rfl)) (by unfold dT.mid;rw[Xy];rfl)) ?_
 refine dQ (v:=.lst (c.tl.map .bytes)) (λh X=>bq (Ml (a:=λx:Hd=>.bytes x.k) (b:=λx:Hd=>.bytes x.v) (f:=λx:Hd=>.bytes (jG x)) Iq (V4 ex.1 dD) λx hx=>?_) (by unfold dT.tl;rw[Xy];rfl)) ?_
 ·have z:=aJ (WQ.mp ex.2 x hx)
  have H:=aJ z.1
  have Y:=aJ H.1
  have G:(aP [10,32] (aL 10 x.v)).length<=100:=of_decide_eq_true z.2
  have Z:x.k.length<=100:=of_decide_eq_true Y.2
  have U:x.v.length<=100:=of_decide_eq_true Y.1
  exact bl (bl Iq Iq (V4 (Wv Z 1) dD)) (kE Iq rfl Iq λ_ k=>V8 ⟨V4 (Wx U (aaw 2 U)) dD,V4 G dD⟩ k) (by rw[V6];exact V4 (Wx (Wv Z 1) G) dD)
 have J:=cB ok.l
 have q:(c.mid.map V.bytes).length<=2:=by unfold dT.mid;rw[Wd,Wd];exact d.pl
 have lt:(c.tl.map V.bytes).length<=2:=by unfold dT.tl;rw[Wd,Wd];exact ex.1
 have L:((c.fix.map V.bytes).take 1++c.mid.map V.bytes).length<=3:=by rw[V6];exact Wu q 1
 refine dQ (v:=.bytes c.txt) (λh X=>bl (bl (fK Iq (bq (uQ (uQ (uQ (DV (i:=1) Iq λ_ k=>k) Iq ?_) (s8 (i:=1) Iq λ_ k=>k) ?_) Iq ?_) (by simp only[WE,abf,abg])) (V4 (cB J) dD)) Iq (bt J dD)) Iq (bt ok.l dD)) (FP kn hs ok y)
 ·exact V4 (Wu q 1) dD
 ·exact V4 (Wv L 2) dD
 ·rw[V6];exact V4 (Wx (Wv L 2) lt) dD
noncomputable def Vh(l:List (List Hd))(v:V):Prop:=∃e∈l,v=.lst (e.map Hd.t)
theorem JE(kn:Kn g K)(d:1<=n){x:Hd}(e:∀h X,Ev A X ⟨loc,h⟩ (.lst [x.t]))(q:∀h X,Ev B X ⟨loc,h⟩ (.lst [.ref D,.int 2])):XD D C 1 (ao .Mult A (ak g n (.ref 469) B)) loc (Vh [[],[x]]):=
 tj e (cj q (b7 (below:=2) kn d dD dD)) λv p=>p.elim λk z=>z.2▸UZ z.1
  ⟨.lst [],⟨[],.head _,rfl⟩,λh Qv k=>V8 ⟨dD,dD,V5 rfl⟩ k⟩
  ⟨.lst [x.t],⟨[x],.tail _ (.head _),rfl⟩,λh Qv k=>V8 ⟨dD,dD,V5 rfl⟩ k⟩
theorem Mo:∀a∈[[],[Gg]],∀b∈[[],[QA]],a++b∈Mm:=λa ha b hb=>by
 unfold Mm
 rcases Wf.mp ha with rfl|ha <;> rcases Wf.mp hb with rfl|hb
 ·exact .head _
 ·rw[Wr.mp hb];exact .tail _ (.head _)
 ·rw[Wr.mp ha];exact .tail _ (.tail _ (.head _))
 ·rw[Wr.mp ha,Wr.mp hb];exact .tail _ (.tail _ (.tail _ (.head _)))
theorem JF{x:Hd}:∀a∈[([]:List Hd),[x]],a.length<=1:=λa ha=>by
 rcases Wf.mp ha with rfl|ha
 ·exact Wy _
 ·rw[Wr.mp ha];exact Wh _
theorem JG(kn:Kn g K)(h0:0<size)(hs:size<=4)(y:∀c,pU size c->SD D C l (cM g 6) [some (.ref D),some (.int size),some (.bytes c.tree),some (.lst (c.par.map .bytes)),some c.au.t,some c.co.t,some (.lst (c.ex.map Hd.t)),some (.bytes c.msg),none,none,none,none,none,none,none] R):SD D C (4+((1+2*4)+((1+(1+(1+1)))+((1+(1+(1+1)))+((1+1)+(1+l)))))) (fy g 6) [some (.ref D),some (.int size),none,none,none,none,none,none,none,none,none,none,none,none,none] R:=by
 refine iv (cj (vs:=[.ref D,.int size]) (λ_ _ _ k=>k) (tm kn dD h0 hs)) (xW (m:=2) (G:=λl=>l.length<=2) (P:=λv=>∃b,eY size b∧v=.bytes b) dD ((DT (M:=2) dD (z0 (below:=2) kn dD dD λ_ _ _ k=>k)).imp λv p=>p.elim λm z=>⟨_,z.2,by rw[fR];exact z.1,by rw[fR];exact z.1⟩) λa=>(cj (n:=6) (vs:=[.ref D,.int size]) (λ_ _ _ k=>k) (tm kn dD h0 hs)).imp λv p=>p.imp λb z=>⟨z.2,z.1⟩) ?_
 rintro u v ⟨tree,rfl,e⟩ ⟨us,items,rfl,d,l2,hp⟩
 obtain⟨par,rfl,J⟩:=all_map (f:=V.bytes) hp
 rw[Wd]at d
 refine iv (cj (vs:=[.ref D]) (λ_ _ _ k=>k) (pT kn dD)) (cj (vs:=[.ref D]) (λ_ _ _ k=>k) (pT kn dD)) ?_
 rintro u v ⟨au,ha,rfl⟩ ⟨co,hc,rfl⟩
 refine fh (P:=Vh Mm) (SK (JE (x:=Gg) kn dD (λ_ _ _ k=>V8 (V5 rfl) (V8 (V5 rfl) k)) λ_ _ _ k=>k) (JE (x:=QA) kn dD (λ_ _ _ k=>V8 (V5 rfl) (V8 (V5 rfl) k)) λ_ _ _ k=>k) ?_) ?_
 ·rintro u v ⟨a,h1,rfl⟩ ⟨b,q,rfl⟩
  exact⟨.lst ((a++b).map Hd.t),⟨_,Mo a h1 b q,rfl⟩,λh Qv k=>by rw[WE]at k;exact V8 (by rw[Wd,Wd];exact V4 (Wx (JF a h1) (JF b q)) dD) k⟩
 rintro v ⟨ex,hx,rfl⟩
 refine fh (dm kn dD JC dD dD λ_ _ _ k=>V8 (V5 rfl) k) ?_
 rintro v ⟨msg,o,rfl⟩
 exact y ⟨tree,par,au,co,ex,msg⟩ ⟨e,J,d▸l2,ha,hc,hx,o⟩
end
structure CB(size:Nat)(kind b:List UInt8):Prop where
 l:b.length<=5000
 r:gs size kind b=none
section
variable{g:Gl}{K:Frag}{n m i j k l a:Nat}{D C c:Addr}{loc cap:List (Option V)}{P R S:V->Prop}{E F A B W r Cd:PT}{u v w:V}{vs ws:List V}{T size:Nat}{h h0:AH}{Q:V->St->Prop}{X:St->Prop}{st:St}{x y kind:List UInt8}{α:Type}{PB:α->Prop}{f:α->List (List UInt8)}{l2:List (List UInt8)}
theorem tw{pre:List UInt8}{PB:List UInt8->Prop}(x:XD D C k E loc λv=>∃b,PB b∧v=.bytes b)(d:∀b,PB b->Aw (pre.length+b.length)):XD D C k (bp (aa (ao .Add (af (.bytes pre)) E) ag)) loc λv=>∃b,PB b∧v=.lst ([pre++b].map .bytes):=
 xV (P:=λv=>∃b,PB b∧v=.bytes (pre++b)) (tj (λ_ _ _ k=>k) x λv p=>p.elim λb z=>⟨.bytes (pre++b),⟨b,z.1,rfl⟩,λh Qv k=>by rw[z.2];exact V8 (d b z.1) k⟩) λu p=>p.elim λb z=>⟨b,z.1,by rw[z.2];rfl⟩
theorem tz(x:XD D C k A loc λv=>∃b,PB b∧v=.lst ((f b).map .bytes))(e:∀h X,Ev B X ⟨loc,h⟩ (.lst (l2.map .bytes)))(d:∀b,PB b->(f b).length+l2.length<=1000):XD D C k (ao .Add A B) loc λv=>∃b,PB b∧v=.lst ((f b++l2).map .bytes):=
 P6 x e λu p=>p.elim λb z=>⟨.lst ((f b++l2).map .bytes),⟨b,z.1,rfl⟩,λh Qv k=>by rw[z.2];rw[WE]at k;exact V8 (by rw[Wd,Wd];exact V4 (d b z.1) dD) k⟩
theorem pV(e:∀h X,Ev A X ⟨loc,h⟩ (.lst (l2.map .bytes)))(x:XD D C k B loc λv=>∃b,PB b∧v=.lst ((f b).map .bytes))(d:∀b,PB b->l2.length+(f b).length<=1000):XD D C k (ao .Add A B) loc λv=>∃b,PB b∧v=.lst ((l2++f b).map .bytes):=
 tj e x λu p=>p.elim λb z=>⟨.lst ((l2++f b).map .bytes),⟨b,z.1,rfl⟩,λh Qv k=>by rw[z.2];rw[WE]at k;exact V8 (by rw[Wd,Wd];exact V4 (d b z.1) dD) k⟩
theorem et(x:XD D C k A loc λv=>∃b,PB b∧v=.lst ((f b).map .bytes))(e:∀h X,Ev F X ⟨loc,h⟩ (.bytes d))(L:∀b,PB b->CB size kind (aP [10] (f b)++d)):XD D C k (ao .Add (av g n bB (af (.bytes [10])) (aa A ag)) F) loc λv=>∃o,CB size kind o∧v=.bytes o:=λT h Q X dk hT q=>
 x _ _ _ _ dk hT λv U p z=>p.elim λb y=>by
  obtain⟨J,rfl⟩:=y
  have l:=(L b J).l
  refine az (dO (λx=>x) (f b)) ?_
  rw[YQ]
  exact V8 (V4 (cB l) dD) (e _ _ _ (V8 (bt l dD) (q _ U ⟨_,L b J,rfl⟩ z)))
theorem QB(x:XD D C k E loc P)(hp:∀v,P v->∃us,v=.lst us):XD D C k (a6 E) loc P:=λ_ _ _ _ dk hT q=>x _ _ _ _ dk hT λv d p z=>(hp v p).elim λus e=>by
 subst e;exact q _ d p z
theorem QC(x:XD D C k E loc λv=>∃l:List α,v=.lst (l.map e)∧l.length<=1000∧∀a∈l,PB a)(hC:∀a,PB a->∀h,Ev o uS ⟨none::some (e a)::eI is loc,h⟩ (.bool false)):XD D C k (aC .Eq (a7 2 is (hV (aj 1) o J) (a6 E)) (bp ag)) loc λv=>v=.bool true:=λ_ _ _ _ dk hT q=>x _ _ _ _ dk hT λv d p z=>p.elim λl y=>by
 obtain⟨rfl,b,hp⟩:=y
 exact V8 (g5 (V4 b dD)) (Dj (f:=λ_=>.none) (λ_=>false) (λs=>∃x,s=⟨none::x::eI is loc,d⟩) (aj 1) (λa ha s i=>by
  obtain⟨x,rfl⟩:=i
  exact⟨⟨none::some (e a)::eI is loc,d⟩,⟨_,.refl _⟩,λ_ q=>q,hC a (hp a ha) d,ff⟩) ⟨_,.refl _⟩ λs i=>by
   obtain⟨x,rfl⟩:=i
   rw[Zk.mpr λ_ _=>W0]
   exact V8 (Wy _) (q _ d rfl z))
theorem JH(x:XD D C k A loc P)(b:∀h X,Ev B X ⟨loc,h⟩ u)(o:∀h X,Ev E X ⟨loc,h⟩ w)(d:DS D C T h0 h)(hT:T+k<=1000000)(y:∀v q c,P v->nO D C h0 c->DS D C (T+k) h0 (upd q c (some (.list [v,u,w])))->r Q X ⟨loc.set i (some (.ref c)),upd q c (some (.list [v,u,w]))⟩):ah (aD (aj i) (gx (aa A (aa B (aa E ag))))) r Q X ⟨loc,h⟩:=
 x _ _ _ _ d.dk hT λv q p z=>b _ _ _ (o _ _ _ (V8 (V5 rfl) λc hc=>(d.draw z).fresh hc |> λmc=>y v q c p mc ((d.draw z).put mc)))
structure OL(D C c:Addr)(size:Nat)(kind:List UInt8)(T N:Nat)(h0:AH)(os:List (List UInt8))(h:AH):Prop where
 ds:DS D C T h0 h
 mc:nO D C h0 c
 c:h c=some (.list (os.map .bytes))
 a:∀o∈os,CB size kind o
 n:os.length<=N
 p:0<os.length
theorem iz{N:Nat}{os:List (List UInt8)}(x:XD D C k E loc λv=>∃o,CB size kind o∧v=.bytes o)(o:OL D C c size kind T N h0 os h)(hT:T+k<=1000000)(J:N<1000)(e:(loc[i]?).join=some (.ref c))(y:∀os d,OL D C c size kind (T+k) (N+1) h0 os d->r Q X ⟨loc,d⟩):ah (fX (av g n aK (ae i) (aa E ag))) r Q X ⟨loc,h⟩:=
 Jk x o.ds hT e o.c o.mc (by rw[Wd];exact Wp o.n (Xz J dD)) λv d p z ds=>p.elim λb q=>by
  obtain⟨L,rfl⟩:=q
  refine y (os++[b]) _ ⟨ds,o.mc,by rw[WE];exact aB _ _ _,λa ha=>?_,by rw[V6];exact Wm o.n,by rw[V6];exact Xs _⟩
  rcases WD.mp ha with ha|ha
  ·exact o.a a ha
  ·rw[Wr.mp ha];exact L
end
noncomputable def dT.end_(c:dT):List UInt8:=[10,10]++c.msg
noncomputable abbrev dT.T(c:dT):List UInt8:=cT++bg c.tree
noncomputable abbrev dT.A(c:dT):List UInt8:=cA++c.au.oct
noncomputable abbrev dT.C(c:dT):List UInt8:=cC++c.co.oct
structure Cc(size:Nat)(c:dT):Prop where
 o1:∀l∈gF c.T c.A c.C,CB size cE (aP [10] l++c.end_)
 o2:CB size cE (aP [10] [c.T,c.A,c.C])
 o2':CB size cE (aP [10] [c.T,c.A,c.C]++[10])
 o3:∀b,(∃i,i<(bg c.tree).length∧b∈dz (bg c.tree) i)->CB size cE (aP [10] ([cT++b]++[c.A,c.C])++c.end_)
 o4:∀b,(∃i,i<(bg c.tree).length∧b∈dz (bg c.tree) i)->CB size cE (aP [10] ([c.T]++c.mid++[cP++b]++[c.A,c.C])++c.end_)
 o5:∀b∈l6,CB size cE (aP [10] ([c.T]++[cA++b]++[c.C])++c.end_)
 o6:∀b∈l6,CB size cE (aP [10] ([c.T,c.A]++[cC++b])++c.end_)
 o7:CB size cE (aP [10] ([c.T,c.A]++[cP++bg c.tree]++[c.C])++c.end_)
 o8:∀b∈[c.T,c.A,c.C],CB size cE (aP [10] ([c.T,c.A,c.C]++[b])++c.end_)
 o9:CB size cE (aP [10] ([c.T,c.A,c.C]++[[32,109,111,114,101]])++c.end_)
 o10:CB size cE (aP [10] [c.T,c.A,c.C]++[10,10,97,0,98])
 o11:CB size cE []
 o12:CB size cE c.msg
theorem jV(h:b∈dz p i):b.length<=2*p.length+1:=by
 have q:(p.take i).length<=p.length:=by rw[Xi];exact YC _ _
 have l2:(p.drop (i+1)).length<=p.length:=by rw[WV];exact YW _ _
 unfold dz at h
 rcases Wf.mp h with rfl|h
 ·rw[V6,acg];exact Yq (Wx q l2)
 rcases Wf.mp h with rfl|h
 ·rw[V6,acg];exact Wm (Wq _ _)
 rcases Wf.mp h with rfl|h
 ·rw[Wd,acg];exact Yq (Wq _ _)
 rcases Wf.mp h with rfl|h
 ·rw[V6,V6,acg];show _+1+_<=_;rw[XQ];exact Wm (Wx q l2)
 rcases Wf.mp h with rfl|h
 ·rw[acg];exact Wm (Wq _ _)
 ·rw[Wr.mp h];exact Wy _
theorem jH:∀b∈l6,b.length<=30:=dD
section
variable{g:Gl}{K:Frag}{n m i j k l a:Nat}{D C d:Addr}{loc cap:List (Option V)}{P R S:V->Prop}{E F A B W r Cd:PT}{u v w:V}{vs ws:List V}{T size:Nat}{h h0:AH}{X:AH->Prop}{Q:V->AH->Prop}{st:St}{x y kind:List UInt8}{c:dT}{it:Option V}
theorem Mp{os:List (List UInt8)}(kn:Kn g K)(J:2<=n){is:List Nat}(h0:0<os.length)(U:os.length<1000000)(Y:∀o∈os,CB size kind o)(e:∀a h X,Ev E X ⟨none::some a::eI is loc,h⟩ (.lst [.ref D,.lst (os.map .bytes)])):XD D C (0+3*1) (a7 2 is (hV (aj 1) j0 (ak g n (.ref 476) E)) (da (aa (af (.int 3)) ag))) loc λv=>∃l:List (List UInt8),v=.lst (l.map .bytes)∧l.length<=1000∧∀a∈l,CB size kind a:=
 (xW (m:=3) (k:=1) (j:=0) (G:=λl=>l.length<=3) (P:=λv=>∃o,CB size kind o∧v=.bytes o) dD (l4 (v:=.lst (eA 1 3 0)) (λ_ _ _ k=>V8 ⟨dD,dD⟩ k) ⟨_,rfl,V5 rfl,V5 rfl⟩) λa=>(dm kn J os h0 U λh X=>e a h X).imp λv p=>p.imp λb z=>⟨Y b z.1,z.2⟩).imp λv p=>by
  obtain⟨us,items,rfl,q,l2,hp⟩:=p
  obtain⟨l,rfl,L⟩:=all_map (f:=V.bytes) hp
  rw[Wd]at q
  exact⟨l,rfl,q▸V4 l2 dD,L⟩
theorem qf(kn:Kn g K)(p:6<=n)(z:CB size kind b):cU g n 493 [.bytes kind,.bytes b,.int size] (some TU):=λ{Q X h} q=>nH kn p (V4 z.l dD) (by unfold tg;rw[z.r];exact q)
theorem S3(x:XD D C k E loc λv=>v=.bool true)(ds:DS D C T h0 h)(hT:T+k<=1000000)(q:∀b,Drawn D C (T+k) h0 b->Q (.bool true) b):ah (aN E) r (dC Q) (bz X) ⟨loc,h⟩:=x _ _ _ _ ds.dk hT λv b p z=>B5 (ds.draw z) λf d2=>by rw[p];exact q f d2
theorem Mq{os:List (List UInt8)}{z:Option V}(kn:Kn g K)(p:0<os.length)(L:os.length<1000000)(U:∀o∈os,CB size cE o)(ds:DS D C T h0 h)(hT:T+(0+3*1)<=1000000)(q:∀f,Drawn D C (T+(0+3*1)) h0 f->Q (.bool true) f):eB g 6 (dC Q) (bz X) ⟨FO D size c it z (some (.lst (os.map .bytes))),h⟩:=
 S3 (QC (e:=V.bytes) (PB:=CB size cE) (Mp (is:=[0,14]) kn dD p L U λ_ _ _ _ k=>k) λb J h=>dh (aG Iq (qf kn dD J)) Iq rfl) ds hT q
theorem JI{os ns:List (List UInt8)}{E:PT}{X:St->Prop}{c:Addr}(z:(loc[i]?).join=some (.ref c))(e:h c=some (.list (os.map .bytes)))(q:Ev E X ⟨loc,h⟩ (.lst (ns.map .bytes)))(l:os.length+ns.length<=1000000):Ev (ao .Add (ae i) E) X ⟨loc,h⟩ (.lst ((os++ns).map .bytes)):=λQ k=>az z (q _ (by
 show Kw (.ref c) (.lst (ns.map .bytes)) h λv=>Q v ⟨loc,h⟩
 unfold Kw
 rw[d7 e]
 refine V8 (by rw[Wd,Wd];exact l) ?_
 rw[WE]at k
 exact k))
theorem jW{X:St->Prop}(xs:List (List UInt8))(i:Nat)(q:Ev A X st (.lst (xs.map .bytes))):Ev (bb A (af (.int i)) (af .none)) X st (.lst ((xs.drop i).map .bytes)):=by rw[abg];exact s8 q λ_ k=>k
theorem nR{X:St->Prop}(xs:List (List UInt8))(i:Nat)(q:Ev A X st (.lst (xs.map .bytes))):Ev (bb A (af .none) (af (.int i))) X st (.lst ((xs.take i).map .bytes)):=by rw[abf];exact DV q λ_ k=>k
theorem QD(kn:Kn g K)(hs:size<=4)(ok:pU size c)(J:Cc size c):SD D C 12 (bT g 6) (FO D size c it none none) λv=>v=.bool true:=λT h Q X dk hT q=>by
 have Z:∀{k},k<=12->T+k<=1000000:=λl=>V4 (Wu l T) hT
 have lo:∀b,(∃i,i<(bg c.tree).length∧b∈dz (bg c.tree) i)->b.length<=17:=λb z=>z.elim λi z=>V4 (jV z.2) (Wm (WX 2 (iy ok.t hs).2))
 have t0:0<c.tree.length:=by
  have:=ok.t.h
  generalize h:c.tree=zz;cases zz with
  |nil=>rw[h]at this;cases this
  |cons=>exact Xs _
 have tl:c.tree.length<=1000:=by rw[ok.t.l];exact V4 hs dD
 have el:∀h X,Ev (ae 13) X ⟨FO D size c it (some (.bytes c.end_)) none,h⟩ (.bytes c.end_):=λ_ _ _ k=>k
 have lm:Aw (2+c.msg.length):=bt (a:=[10,10]) (m:=5002) (by have:=J.o12.l;rw[V6];exact Wu this 2) dD
 refine aZ (v:=.bytes c.end_) (bl Iq Iq lm) ?_
 refine JH (u:=.bytes (aP [10] [c.T,c.A,c.C])) (w:=.bytes (aP [10] [c.T,c.A,c.C]++[10])) (et (PB:=(·∈gF c.T c.A c.C)) (f:=λl=>l) (kind:=cE) (size:=size) ((cj (vs:=[.ref D,.lst ([c.T,c.A,c.C].map .bytes),.int 3]) (λ_ _ _ k=>k) (vy kn dD)).imp λv p=>p) (λ_ _ _ k=>k) J.o1) (λh X=>fK Iq Iq (V4 J.o2.l dD)) (λh X=>bl (fK Iq Iq (V4 J.o2.l dD)) Iq (bt J.o2'.l dD)) (.rfl dk) (Z dD) λv h1 c1 p mc ds=>?_
 obtain⟨o1,cb1,rfl⟩:=p
 have L:OL D C c1 size cE (T+(1+(1+0))) 3 h [o1,aP [10] [c.T,c.A,c.C],aP [10] [c.T,c.A,c.C]++[10]] (upd h1 c1 (some (.list [.bytes o1,.bytes (aP [10] [c.T,c.A,c.C]),.bytes (aP [10] [c.T,c.A,c.C]++[10])]))):=⟨ds,mc,aB _ _ _,λo U=>by
  rcases Wf.mp U with rfl|U
  ·exact cb1
  rcases Wf.mp U with rfl|U
  ·exact J.o2
  ·rw[Wr.mp U];exact J.o2',Wh _,Xs _⟩
 have H:∀{loc},(∀h (X:St->Prop),Ev (aa (ae 0) (aa (ae 2) ag)) X ⟨loc,h⟩ (.lst [.ref D,.bytes c.tree]))->XD D C (1+1) (ak g 6 (.ref 602) (aa (ae 0) (aa (ae 2) ag))) loc λv=>∃b,(∃i,i<(bg c.tree).length∧b∈dz (bg c.tree) i)∧v=.bytes b:=λe=>(cj e (vx kn dD t0 tl)).imp λv p=>p.imp λb z=>⟨z.2,z.1⟩
 have Y:c.mid.length<=2:=by unfold dT.mid;rw[Wd];exact ok.pl
 have I:∀{pre b:List UInt8},Zp pre.length 100=true->b.length<=30->Aw (pre.length+b.length):=λh1 G=>V4 (Wx (V5 h1) G) dD
 refine iz (N:=3) (et (tz (l2:=[c.A,c.C]) (tw (pre:=cT) (H λ_ _ _ k=>k) λb z=>I rfl (V4 (lo b z) dD)) (λ_ _=>jW [c.T,c.A,c.C] 1 λ_ k=>k) λ_ _=>V5 rfl) (λ_ _ _ k=>k) J.o3) L (Z (k:=4) dD) dD rfl λos G L=>?_
 refine iz (N:=4) (et (tz (l2:=[c.A,c.C]) (pV (l2:=[c.T]++c.mid) (λ_ _=>bq (uQ (nR [c.T,c.A,c.C] 1 λ_ k=>k) Iq ?_) (by rw[WE];rfl)) (tw (pre:=cP) (H λ_ _ _ k=>k) λb z=>I rfl (V4 (lo b z) dD)) λ_ _=>?_) (λ_ _=>jW [c.T,c.A,c.C] 1 λ_ k=>k) λ_ _=>?_) (λ_ _ _ k=>k) J.o4) L (Z (k:=6) dD) dD rfl λos G L=>?_
 ·exact V4 (Wu (by rw[Wd];exact Y) 1) dD
 ·rw[V6];exact V4 (Wv (Wu Y 1) 1) dD
 ·rw[V6,V6];exact V4 (Wv (Wv (Wu Y 1) 1) 2) dD
 refine iz (N:=5) (et (tz (l2:=[c.C]) (pV (l2:=[c.T]) (λ_ _=>nR [c.T,c.A,c.C] 1 λ_ k=>k) (tw (pre:=cA) (PB:=(·∈l6)) ((cj (vs:=[.ref D]) (λ_ _ _ k=>k) (gE kn dD)).imp λv p=>p) λb z=>I rfl (jH b z)) λ_ _=>V5 rfl) (λ_ _=>jW [c.T,c.A,c.C] 2 λ_ k=>k) λ_ _=>V5 rfl) (λ_ _ _ k=>k) J.o5) L (Z (k:=7) dD) dD rfl λos G L=>?_
 refine iz (N:=6) (et (pV (l2:=[c.T,c.A]) (λ_ _=>nR [c.T,c.A,c.C] 2 λ_ k=>k) (tw (pre:=cC) (PB:=(·∈l6)) ((cj (vs:=[.ref D]) (λ_ _ _ k=>k) (gE kn dD)).imp λv p=>p) λb z=>I rfl (jH b z)) λ_ _=>V5 rfl) (λ_ _ _ k=>k) J.o6) L (Z (k:=8) dD) dD rfl λos G L=>?_
 refine iz (N:=7) (et (PB:=λ_:Unit=>True) (f:=λ_=>[c.T,c.A]++[cP++bg c.tree]++[c.C]) (l4 (v:=.lst (([c.T,c.A]++[cP++bg c.tree]++[c.C]).map .bytes)) (λh X=>bq (uQ (uQ (nR [c.T,c.A,c.C] 2 λ_ k=>k) (gu (ar (x9 (n:=6) (a:=cP) kn dD Iq ok.t hs (V5 rfl)) λ_ k=>k) (V5 rfl)) (V5 rfl)) (jW [c.T,c.A,c.C] 2 λ_ k=>k) (V5 rfl)) rfl) ⟨(),trivial,rfl⟩) (λ_ _ _ k=>k) λ_ _=>J.o7) L (Z (k:=8) dD) dD rfl λos G L=>?_
 refine iz (N:=8) (et (PB:=(·∈[c.T,c.A,c.C])) (f:=λb=>[c.T,c.A,c.C]++[b]) (pV (l2:=[c.T,c.A,c.C]) (f:=λb=>[b]) (λ_ _ _ k=>k) (xV (P:=λv=>∃b,b∈[c.T,c.A,c.C]∧v=.bytes b) (dm kn dD [c.T,c.A,c.C] (show 0<3 by decide) (show 3<1000000 by decide) λ_ _ _ k=>k) λu p=>p.elim λb z=>⟨b,z.1,by rw[z.2];rfl⟩) λ_ _=>V5 rfl) (λ_ _ _ k=>k) J.o8) L (Z (k:=9) dD) dD rfl λos G L=>?_
 refine aZ (v:=.lst ((os++[aP [10] ([c.T,c.A,c.C]++[[32,109,111,114,101]])++c.end_,aP [10] [c.T,c.A,c.C]++[10,10,97,0,98],[],c.msg]).map .bytes)) (JI rfl L.c (gu (ar (bl (fK Iq (bq (uQ (vs:=[c.T,c.A,c.C].map .bytes) Iq (gu Iq (V5 rfl)) (V5 rfl)) rfl) (V4 (cB J.o9.l) dD)) Iq (bt J.o9.l dD)) (ar (bl (fK Iq Iq (V4 J.o2.l dD)) Iq (bt J.o10.l dD)) λ_ k=>k)) (V5 rfl)) (V4 (Wv L.n 4) dD)) ?_
 refine Mq (T:=T+(1+(1+0))+(1+1)+(1+1)+1+1+0+1) kn ?_ ?_ ?_ L.ds (Z (k:=12) dD) λh' d=>q _ h' rfl d
 ·rw[V6];exact WA L.p (Wq _ _)
 ·rw[V6];exact Wp (Wv L.n 4) dD
 ·intro o U
  rcases WD.mp U with U|U
  ·exact L.a o U
  rcases Wf.mp U with rfl|U
  ·exact J.o9
  rcases Wf.mp U with rfl|U
  ·exact J.o10
  rcases Wf.mp U with rfl|U
  ·exact J.o11
  ·rw[Wr.mp U];exact J.o12
end
abbrev N5(size:Nat):Prop:=∀c,pU size c->z6 size c∧Cc size c
theorem Ce{g:Gl}{K:Frag}{n size:Nat}{D C:Addr}(kn:Kn g K)(pc:N5 size)(z:7<=n)(h0:0<size)(hs:size<=4):Dr g n 614 D C (4+((1+2*4)+((1+(1+(1+1)))+((1+(1+(1+1)))+((1+1)+(1+12)))))) [.ref D,.int size] λv=>v=.bool true:=
 dj (n:=6) kn kn.law_commits_right rfl z (JG kn h0 hs λc q=>Mn kn hs q (pc c q).1 (QD kn hs q (pc c q).2))
noncomputable def TV:List UInt8:=[111,98,106,101,99,116,32]
noncomputable def TX:List UInt8:=[116,121,112,101,32]
noncomputable def Vi:List UInt8:=[116,97,103,32]
noncomputable def S4:List UInt8:=[116,97,103,103,101,114,32]
noncomputable abbrev Tg.O(t:Tg):List UInt8:=TV++bg t.goal
noncomputable abbrev Tg.K(t:Tg):List UInt8:=TX++t.kind
noncomputable abbrev Tg.N(t:Tg):List UInt8:=Vi++t.name
noncomputable def Tg.by8(t:Tg):List (List UInt8):=WY (motive:=λ_=>List (List UInt8)) t.by_ [] λp=>[S4++p.oct]
noncomputable def Tg.txt(t:Tg):List UInt8:=aP [10] ([t.O,t.K,t.N]++t.by8)++[10,10]++t.msg
noncomputable def ya:List (List UInt8):=[[99,111,109,109,105,116],[116,114,101,101],[98,108,111,98],[116,97,103]]
noncomputable def yb:List (List UInt8):=[[118,49],[97,47,98]]
noncomputable def JJ:List (List UInt8):=[[],[111,110,101,10],[111,110,101,10,10,116,119,111]]
noncomputable def JK:List (List UInt8):=[[116,104,105,110,103],[],[67,111,109,109,105,116]]
structure vz(size:Nat)(t:Tg):Prop where
 g:eY size t.goal
 k:t.kind∈ya
 n:t.name∈yb
 b:∀p,t.by_=some p->p∈l5
 m:t.msg∈JJ
 s:t.sig=[]
structure Mr(size:Nat)(t:Tg):Prop where
 r:nF size t.txt=some t
 o:t.oct=t.txt
 l:t.txt.length<=1000
section
variable{g:Gl}{K:Frag}{n m i j k l a:Nat}{D C d:Addr}{loc cap:List (Option V)}{P R S:V->Prop}{E F A B W r Cd:PT}{u v w:V}{vs ws:List V}{T size:Nat}{h h0:AH}{X:AH->Prop}{Q:V->St->Prop}{st:St}{x y kind:List UInt8}{t:Tg}{p:eH}{v9 v10 v11 v12 v13:Option V}
noncomputable abbrev Cf(D:Addr)(size:Nat)(t:Tg)(p:eH)(b v9 v10 v11 v12 v13:Option V):List (Option V):=[some (.ref D),some (.int size),some (.bytes t.goal),some (.bytes t.kind),some (.bytes t.name),some p.t,some (.bytes t.msg),some (.lst ([t.O,t.K,t.N].map .bytes)),b,v9,v10,v11,v12,v13]
theorem JL(kn:Kn g K)(lt:vz size t)(ok:Mr size t)(hs:size<=4)(z:4<=n):cU g n 412 [t.v] (some (.bytes t.txt)):=λ{Q X h} q=>
 xP kn z (λp e=>(pS (lt.b p e)).ok) (by rw[lt.g.l];exact V4 hs dD) (by rw[ok.o];exact V4 ok.l dD) (by rw[ok.o];exact q)
theorem Ms(kn:Kn g K)(hs:size<=4)(lt:vz size t)(ok:Mr size t)(hp:p∈l5)(b:Bool)(hb:t.by_=bif b then some p else none)(k:∀v9 v10 v11 v12,Q .none ⟨Cf D size t p (some (.bool b)) v9 v10 v11 v12 v13,h⟩):dN g 6 Q (bz X) ⟨Cf D size t p (some (.bool b)) v9 v10 v11 v12 v13,h⟩:=by
 have f:t.by8=bif b then[S4++p.oct]else[]:=by unfold Tg.by8;rw[hb];cases b <;> rfl
 have z:uM t.by_=bif b then p.v else .none:=by rw[hb];cases b <;> rfl
 have c:=cB ok.l
 refine aZ (v:=.lst (([t.O,t.K,t.N]++t.by8).map .bytes)) (bq (uQ (ws:=t.by8.map .bytes) Iq (ea (x:=.lst [.bytes (S4++p.oct)]) (y:=.int (if b then 1 else 0)) (gu (ar (Cb kn dD Iq hp (V5 rfl)) λ_ k=>k) (V5 rfl)) Iq λQv k=>?_) ?_) (congrArg V.lst (WE).symm)) ?_
 ·rw[f]at k
  cases b with
  |true=>exact V8 ⟨dD,dD,V5 rfl⟩ k
  |false=>exact V8 ⟨dD,dD,V5 rfl⟩ k
 ·rw[f];cases b <;> exact V5 rfl
 have o:V.inst 415 [.bytes t.goal,.bytes t.kind,.bytes t.name,uM t.by_,.bytes t.msg,.bytes []]=t.v:=by unfold Tg.v;rw[lt.s]
 refine aZ (v:=.bytes t.txt) (bl (bl (fK Iq Iq (V4 (cB c) dD)) Iq (bt c dD)) Iq (bt ok.l dD)) ?_
 refine aZ (v:=t.v) (bq (aG Iq (nH (size:=size) kn dD (V4 ok.l dD))) (by unfold tg;rw[show gs size [116,97,103] t.txt=(nF size t.txt).map Tg.v from rfl,ok.r];rfl)) ?_
 refine je (B8 (bJ Iq Iq λ_ k=>k) (dh (l0 Iq rfl Iq (JL kn lt ok hs dD)) Iq (eq_bytes (n:=3))) (dh (gu (ar (λ_ k=>V8 trivial k) (ar (λ_ k=>V8 trivial k) (ar (λ_ k=>V8 trivial k) (ar (λ_ k=>V8 trivial k) λ_ k=>k)))) (V5 rfl)) (gu Iq (V5 rfl)) (pR (n:=3) (S0 eq_bytes eq_bytes eq_bytes eq_bytes)))) rfl ?_
 refine aZ (v:=uM t.by_) (by rw[z];exact kD (b:=b) (cX Iq) (λe=>by rw[e];exact aG Iq (B9 kn dD)) λe=>by rw[e];exact λ_ k=>k) ?_
 refine je (dh (l0 (us:=[.bytes t.goal,.bytes t.kind,.bytes t.name,uM t.by_,.bytes t.msg,.bytes t.sig]) (bq (aG Iq (Pr kn dD)) o) rfl Iq (JL kn lt ok hs dD)) Iq (eq_bytes (n:=3))) rfl ?_
 have q:∀{X:St->Prop} {v9 v10 v12},Ev (aS (ae 11) cW) X ⟨Cf D size t p (some (.bool b)) v9 v10 (some t.v) v12 v13,h⟩ (uM t.by_):=λ{X v9 v10 v12} _ k=>V8 (zS _) k
 rw[z]at q
 refine je (b:=false) ?_ rfl (k _ _ _ _)
 cases b with
 |true=>exact nM (eE (a:=true) (b:=false) (cX Iq) λ_=>lY (dh (aG (ar q λ_ k=>k) (x7 kn dD)) Iq (Ca (n:=2)))) (eE (a:=false) (b:=false) (jB (a:=true) (cX Iq)) ff)
 |false=>exact nM (eE (a:=false) (b:=false) (cX Iq) ff) (eE (a:=true) (b:=false) (jB (a:=false) (cX Iq)) λ_=>lY (bJ q Iq λ_ k=>⟨trivial,k⟩))
end
noncomputable abbrev eM:List UInt8:=[10,10,109]
structure JM(size:Nat)(t:Tg):Prop where
 o1:∀l∈gF t.O t.K t.N,CB size ef (aP [10] l++eM)
 o2:CB size ef (aP [10] [t.O,t.K,t.N])
 o2':CB size ef (aP [10] [t.O,t.K,t.N]++[10,10,109,0])
 o3:∀b,(∃i,i<(bg t.goal).length∧b∈dz (bg t.goal) i)->CB size ef (aP [10] ([TV++b]++[t.K,t.N])++eM)
 o4:∀b∈JK,CB size ef (aP [10] ([t.O]++[TX++b]++[t.N])++eM)
 o5:∀b∈l6,CB size ef (aP [10] ([t.O,t.K,t.N]++[S4++b])++eM)
theorem JN:∀b∈JK,b.length<=30:=dD
theorem Cg:∀b∈ya,b.length<=30:=dD
theorem Ci:∀b∈yb,b.length<=30:=dD
section
variable{g:Gl}{K:Frag}{n m i j k l a:Nat}{D C d:Addr}{loc cap:List (Option V)}{P R S:V->Prop}{E F A B W r Cd:PT}{u v w:V}{vs ws:List V}{T size:Nat}{h h0:AH}{X:AH->Prop}{Q:V->AH->Prop}{st:St}{x y kind:List UInt8}{t:Tg}{p:eH}{b8 v9 v10 v11 v12 v13:Option V}
theorem yc{Q:V->St->Prop}{X:St->Prop}{st:St}{a:Addr}(h1:Ev E X st (.lst vs))(hc:bW g n (.ref a) vs (λv h=>Q v ⟨st.loc,h⟩) (λh=>X ⟨st.loc,h⟩) st.h):ak g n (.ref a) E Q X st:=h1 _ hc
theorem Mt{Q:V->St->Prop}{X:St->Prop}{st:St}(h1:Ev A X st u)(z:B (λb q=>gm u b q.h λv=>Q v q) X st):aQ A B Q X st:=h1 _ z
theorem Mu{c:Addr}{Q:V->AH->Prop}{X:AH->Prop}(kn:Kn g K)(L:2<=n)(dk:cN D C T h)(hT:T+1<=1000000)(J:c≠D)(U:c≠C)(e:h c=some (.list vs))(h0:0<vs.length)(Y:vs.length<2^30)(q:∀v b,v∈vs->Drawn D C (T+1) h b->Q v b):bW g n (.ref 476) [.ref D,.ref c] Q X h:=by
 refine((aH (n:=1) (kn.H 1) kn.law_pick rfl ?_).call).up L
 refine IZ (Mt Iq (yc (ar Iq (ar (lZ (v:=.int vs.length) Iq λ_ k=>by unfold c5;rw[d7 e];exact k) λ_ k=>k)) (b7 (below:=vs.length) kn (Wh 1) h0 Y T h _ _ dk hT λv b p z=>p.elim λk y=>?_)))
 obtain⟨o,rfl⟩:=y
 show gm (.ref c) (.int k) b _
 unfold gm
 rw[d7 ((z.f c J U).trans e)]
 show Gw vs k _
 unfold Gw
 rw[if_neg xM]
 exact V8 (Ww k) (az (Xb o) (bc (q _ b (ZJ o) z)))
theorem Mv{b:Type}{PB:b->Prop}{e:b->V}{is:List Nat}{L o:PT}{Q:V->St->Prop}{X:St->Prop}(x:∀Q':V->St->Prop,(∀(l:List b) c,l.length<=1000->(∀a∈l,PB a)->Drawn D C (T+k) h c->Q' (.lst (l.map e)) ⟨loc,c⟩)->E Q' X ⟨loc,h⟩)(hC:∀a,PB a->∀h,Ev o uS ⟨none::some (e a)::eI is loc,h⟩ (.bool false))(q:∀c,Drawn D C (T+k) h c->Q (.bool true) ⟨loc,c⟩):aC .Eq (a7 2 is (hV (aj 1) o L) (a6 E)) (bp ag) Q X ⟨loc,h⟩:=x _ λl c J hp z=>
 V8 (g5 (V4 J dD)) (Dj (f:=λ_=>.none) (λ_=>false) (λs=>∃x,s=⟨none::x::eI is loc,c⟩) (aj 1) (λa ha s i=>by
  obtain⟨x,rfl⟩:=i
  exact⟨⟨none::some (e a)::eI is loc,c⟩,⟨_,.refl _⟩,λ_ q=>q,hC a (hp a ha) c,ff⟩) ⟨_,.refl _⟩ λs i=>by
   obtain⟨x,rfl⟩:=i
   rw[Zk.mpr λ_ _=>W0]
   exact V8 (Wy _) (q c z))
theorem QE{Q':V->St->Prop}{os:List (List UInt8)}{c:Addr}{is:List Nat}{X:St->Prop}(kn:Kn g K)(Y:2<=n)(J:c≠D)(L:c≠C)(e:h c=some (.list (os.map .bytes)))(h0:0<os.length)(G:os.length<1000000)(dk:cN D C T h)(hT:T+3*1<=1000000)(H:∀a h X,Ev E X ⟨none::some a::eI is loc,h⟩ (.lst [.ref D,.ref c]))(q:∀(l:List (List UInt8)) o,l.length<=1000->(∀a∈l,a∈os)->Drawn D C (T+3*1) h o->Q' (.lst (l.map .bytes)) ⟨loc,o⟩):a7 2 is (hV (aj 1) j0 (ak g n (.ref 476) E)) (da (aa (af (.int 3)) ag)) Q' X ⟨loc,h⟩:=
 V8 ⟨dD,dD⟩ (V8 (V5 rfl) (DM (D:=D) (C:=C) (k:=1) (P:=λv=>∃b∈os,v=.bytes b) (I:=λh=>h c=some (.list (os.map .bytes))) (λ_ _ _ i d=>(d.f c J L).trans i) (λa T h Q X i dk hT q=>yc (H a h X) (Mu kn Y dk hT J L i (by rw[Wd];exact h0) (by rw[Wd];exact Xz G dD) λv o m z=>q v o ((WC.mp m).imp λb y=>⟨y.1,y.2.symm⟩) z)) [.int 0,.int 1,.int 2] [] none T h _ e dk hT λus x o l p z=>by
  obtain⟨U,rfl,Z⟩:=all_map (f:=V.bytes) p
  rw[Wd]at l
  exact q U o (l▸dD) Z z))
theorem QF(kn:Kn g K)(hs:size<=4)(ok:eY size t.goal)(L:JM size t):SD D C 9 (dw g 6) (Cf D size t p b8 v9 v10 v11 v12 none) λv=>v=.bool true:=λT h Q X dk hT q=>by
 have Y:∀{k},k<=9->T+k<=1000000:=λl=>V4 (Wu l T) hT
 have lo:∀b,(∃i,i<(bg t.goal).length∧b∈dz (bg t.goal) i)->b.length<=17:=λb z=>z.elim λi z=>V4 (jV z.2) (Wm (WX 2 (iy ok hs).2))
 have t0:0<t.goal.length:=by
  have:=ok.h
  generalize h:t.goal=zz;cases zz with
  |nil=>rw[h]at this;cases this
  |cons=>exact Xs _
 have tl:t.goal.length<=1000:=by rw[ok.l];exact V4 hs dD
 refine JH (u:=.bytes (aP [10] [t.O,t.K,t.N])) (w:=.bytes (aP [10] [t.O,t.K,t.N]++[10,10,109,0])) (et (PB:=(·∈gF t.O t.K t.N)) (f:=λl=>l) (kind:=ef) (size:=size) ((cj (vs:=[.ref D,.lst ([t.O,t.K,t.N].map .bytes),.int 3]) (λ_ _ _ k=>k) (vy kn dD)).imp λv p=>p) (λ_ _ _ k=>k) L.o1) (λh X=>fK Iq Iq (V4 L.o2.l dD)) (λh X=>bl (fK Iq Iq (V4 L.o2.l dD)) Iq (bt L.o2'.l dD)) (.rfl dk) (Y (k:=2) dD) λv h1 I p mc ds=>?_
 obtain⟨o1,G,rfl⟩:=p
 have J:OL D C I size ef (T+(1+(1+0))) 3 h [o1,aP [10] [t.O,t.K,t.N],aP [10] [t.O,t.K,t.N]++[10,10,109,0]] (upd h1 I (some (.list [.bytes o1,.bytes (aP [10] [t.O,t.K,t.N]),.bytes (aP [10] [t.O,t.K,t.N]++[10,10,109,0])]))):=⟨ds,mc,aB _ _ _,λo Z=>by
  rcases Wf.mp Z with rfl|Z
  ·exact G
  rcases Wf.mp Z with rfl|Z
  ·exact L.o2
  ·rw[Wr.mp Z];exact L.o2',Wh _,Xs _⟩
 have H:∀{pre b:List UInt8},Zp pre.length 100=true->b.length<=30->Aw (pre.length+b.length):=λh1 U=>V4 (Wx (V5 h1) U) dD
 refine iz (N:=3) (et (tz (l2:=[t.K,t.N]) (tw (pre:=TV) ((cj (n:=6) (vs:=[.ref D,.bytes t.goal]) (λ_ _ _ k=>k) (vx kn dD t0 tl)).imp λv p=>p.imp λb z=>⟨z.2,z.1⟩) λb z=>H rfl (V4 (lo b z) dD)) (λ_ _=>jW [t.O,t.K,t.N] 1 λ_ k=>k) λ_ _=>V5 rfl) (λ_ _ _ k=>k) L.o3) J (Y (k:=4) dD) dD rfl λos U J=>?_
 refine iz (N:=4) (et (tz (l2:=[t.N]) (pV (l2:=[t.O]) (λ_ _=>nR [t.O,t.K,t.N] 1 λ_ k=>k) (tw (pre:=TX) (PB:=(·∈JK)) (dm kn dD JK dD dD λ_ _ _ k=>V8 (V5 rfl) k) λb z=>H rfl (JN b z)) λ_ _=>V5 rfl) (λ_ _=>jW [t.O,t.K,t.N] 2 λ_ k=>k) λ_ _=>V5 rfl) (λ_ _ _ k=>k) L.o4) J (Y (k:=5) dD) dD rfl λos U J=>?_
 refine iz (N:=5) (et (pV (l2:=[t.O,t.K,t.N]) (λ_ _ _ k=>k) (tw (pre:=S4) (PB:=(·∈l6)) ((cj (vs:=[.ref D]) (λ_ _ _ k=>k) (gE kn dD)).imp λv p=>p) λb z=>H rfl (jH b z)) λ_ _=>V5 rfl) (λ_ _ _ k=>k) L.o5) J (Y (k:=6) dD) dD rfl λos U J=>?_
 have n0:=J.p
 have ln:os.length<=6:=J.n
 refine IZ ?_
 refine Mv (e:=V.bytes) (PB:=CB size ef) (k:=3*1) (λQ' q'=>?_) (λb cb h=>dh (aG Iq (qf kn dD cb)) Iq rfl) λh' z=>B5 (J.ds.draw z) λU d2=>q _ U rfl d2
 exact QE kn dD J.mc.d J.mc.c J.c n0 (Wp ln dD) J.ds.dk (Y (k:=9) dD) (λ_ _ _ _ k=>k) λl h' h1 U=>q' l h' h1 λa ha=>J.a a (U a ha)
end
abbrev JO(size:Nat):Prop:=∀t,vz size t->Mr size t∧JM size t
section
variable{g:Gl}{K:Frag}{n m i j k l a:Nat}{D C d:Addr}{loc cap:List (Option V)}{P R S:V->Prop}{E F A B W r Cd:PT}{u v w:V}{vs ws:List V}{T size:Nat}{h h0:AH}{X:AH->Prop}{Q:V->AH->Prop}{st:St}{x y kind:List UInt8}{t:Tg}{p:eH}{b8 v9 v10 v11 v12 v13:Option V}
theorem QG{Q:V->St->Prop}{X:St->Prop}{s:gG}{It:PT}(x:XD D C k It loc P)(dk:cN D C T h)(hT:T+k<=1000000)(y:∀v h1,P v->Drawn D C (T+k) h h1->iE v λvs=>fT s W vs (λf q=>br (isNone f) (r Q X q) (Q f q)) X ⟨loc,h1⟩):ah (dq s It W) r Q X ⟨loc,h⟩:=x _ _ _ _ dk hT y
theorem QH(kn:Kn g K)(hs:size<=4)(J:JO size)(L:∀o,(∀p,o=some p->p∈l5)->vz size { t with by_:=o})(hp:p∈l5):SD D C (1+9) (fz g 6) (Cf D size t p none none none none none none) λv=>v=.bool true:=λT h Q X dk hT q=>by
 have U:XD D C 1 (a6 (bp (aa (aC .Eq (ak g 6 (.ref 469) (aa (ae 0) (aa (af (.int 2)) ag))) (af (.int 0))) ag))) (Cf D size t p none none none none none none) λv=>∃b,v=.lst [.bool b]:=
  QB (xV (P:=λv=>∃b,v=.bool b) (B0 (v:=.int 0) (cj (vs:=[.ref D,.int 2]) (λ_ _ _ k=>k) (b7 (below:=2) kn dD dD dD)) (λ_ _ _ k=>k) λu p=>p.elim λd z=>⟨(d:Int)==0,⟨_,rfl⟩,λh Qv k=>by rw[z.2];exact k⟩) λu p=>p.elim λb z=>⟨b,by rw[z]⟩) λv p=>p.elim λb z=>⟨_,z⟩
 refine QG U dk (dW hT).1 λv h1 Z d1=>Z.elim λb z=>?_
 subst z
 have lt:=L (bif b then some p else none) λG e=>by
  cases b with
  |true=>exact WR e▸hp
  |false=>cases e
 refine(Ss ?_:fT (aj 8) (dN g 6) [.bool b] (λf c=>br (isNone f) (dw g 6 (dC Q) (bz X) c) (dC Q f c)) (bz X) ⟨Cf D size t p none none none none none none,h1⟩)
 exact Ms (t:={t with by_:=bif b then some p else none}) kn hs lt (J _ lt).1 hp b rfl λv9 v10 v11 v12=>QF (t:={t with by_:=bif b then some p else none}) kn hs lt.g (J _ lt).2 _ _ _ _ d1.d (dW hT).2 λv Y e d2=>q v Y e (d1.then_ d2)
theorem Mw(kn:Kn g K)(f:JO size)(q:7<=n)(h0:0<size)(hs:size<=4):Dr g n 619 D C (4+(1+(1+((1+(1+(1+1)))+(1+(1+9)))))) [.ref D,.int size] λv=>v=.bool true:=by
 refine dj (n:=6) kn kn.law_tags_right rfl q (iv (cj (vs:=[.ref D,.int size]) (λ_ _ _ k=>k) (tm kn dD h0 hs)) (dm kn dD ya dD dD λ_ _ _ k=>V8 (V5 rfl) k) ?_)
 rintro u v ⟨goal,rfl,hg⟩ ⟨kind,z,rfl⟩
 refine iv (dm kn dD yb dD dD λ_ _ _ k=>V8 (V5 rfl) k) (cj (vs:=[.ref D]) (λ_ _ _ k=>k) (pT kn dD)) ?_
 rintro u v ⟨name,q,rfl⟩ ⟨p,hp,rfl⟩
 refine fh (dm kn dD JJ dD dD λ_ _ _ k=>V8 (V5 rfl) k) ?_
 rintro v ⟨msg,b,rfl⟩
 have e:=Cg kind z
 have c:=Ci name q
 refine dQ (v:=.lst ([TV++bg goal,TX++kind,Vi++name].map .bytes)) (λh X=>gu (ar (x9 kn dD Iq hg hs (V5 rfl)) (ar (bl Iq Iq (V4 (Wu e 5) dD)) (ar (bl Iq Iq (V4 (Wu c 4) dD)) λ_ k=>k))) (V5 rfl)) ?_
 exact QH (t:=⟨goal,kind,name,none,msg,[]⟩) kn hs f (λo J=>⟨hg,z,q,J,b,rfl⟩) hp
end
noncomputable def E3(size:Nat):List a9:=[⟨33188,[97],(WZ size [1]).flatten⟩,⟨33188,[97,46,98],(WZ size [2]).flatten⟩,⟨16384,[97],(WZ size [3]).flatten⟩]
noncomputable def O3(size:Nat):List UInt8:=[49,48,48,54,52,52,32,97,0]++(WZ size [1]).flatten++[49,48,48,54,52,52,32,97,46,98,0]++(WZ size [2]).flatten++[52,48,48,48,48,32,97,0]++(WZ size [3]).flatten
structure tA(size:Nat):Prop where
 t:tp size
 c:N5 size
 g:JO size
 r:eP bD size (O3 size)=some (E3 size)
 f:zZ size (O3 size)
section
variable{g:Gl}{K:Frag}{n m i j k l a:Nat}{D C d:Addr}{loc cap:List (Option V)}{P R S:V->Prop}{E F A B W r Cd:PT}{u v w:V}{vs ws:List V}{T size:Nat}{h h0:AH}{X:AH->Prop}{Q:V->AH->Prop}{st:St}{x y kind:List UInt8}
theorem JP(x:XD D C k Cd loc λv=>v=.bool false)(y:SD D C l r loc R):SD D C (k+l) (ah (bA Cd A ai) r) loc R:=λ_ _ _ _ dk hT q=>x _ _ _ _ dk (dW hT).1 λv h1 p d1=>by
 subst p
 exact y _ _ _ _ d1.d (dW hT).2 λu c z d2=>q u c z (d1.then_ d2)
theorem tB(x:XD D C k E loc λv=>v=.bool true):XD D C k (gw (cu E)) loc λv=>v=.bool false:=λ_ _ _ _ dk hT q=>x _ _ _ _ dk hT λv h1 p d1=>by
 subst p
 exact q _ h1 rfl d1
theorem vA(x:XD D C k A loc λv=>v=.bool false)(y:XD D C l B loc λv=>v=.bool false):XD D C (k+l) (cF A B) loc λv=>v=.bool false:=λ_ _ _ _ dk hT q=>x _ _ _ _ dk (dW hT).1 λv h1 p d1=>by
 subst p
 exact y _ _ _ _ d1.d (dW hT).2 λu c z d2=>by
  subst z
  exact q _ c rfl (d1.then_ d2)
theorem JQ(e:∀h X,Ev A X ⟨loc,h⟩ (.bool true))(y:XD D C l B loc λv=>v=.bool false):XD D C l (di A (di B (af (.bool .true)))) loc λv=>v=.bool false:=λ_ _ _ _ dk hT q=>e _ _ _ (y _ _ _ _ dk hT λu c z d2=>by
 subst z
 exact q _ c rfl d2)
theorem XD.le(x:XD D C k E loc P)(l:k<=z):XD D C z E loc P:=λT _ _ _ dk hT q=>x _ _ _ _ dk (V4 (Wu l T) hT) λv h1 p d1=>q v h1 p (d1.up (Wu l T))
theorem Mx(kn:Kn g K)(fc:uP g)(pc:tA size)(hs:size<=4):SD D C 0 (Dh g 11) [v0,some (.ref D),some (.int size),Y,v4,v5] λv=>v=.bool true:=by
 have z:∀{h} {X:St->Prop} {loc:List (Option V)} (c:UInt8),Ev (ao .Mult (af (.bytes [c])) (ae 2)) X ⟨v0::some (.ref D)::some (.int size)::loc,h⟩ (.bytes (WZ size [c]).flatten):=λc _ k=>V8 ⟨WB _ _,V5 rfl,aaQ dD (Ww size),XS.mpr (V4 hs dD)⟩ k
 have q:(O3 size).length<=1000:=pc.f.l
 have J:=cB q
 have U:=cB J
 have L:=cB U
 have l2:=cB L
 have t:1000<=16777216:=dD
 have p:∀{h} {X:St->Prop} {v5:Option V} (i:Nat) (e:a9),(E3 size)[i]? = some e->Ev (aQ (aQ (ae 4) (af (.int i))) (af (.int (2:Nat)))) X ⟨[v0,some (.ref D),some (.int size),Y,some (.lst ((E3 size).map a9.t)),v5],h⟩ (.bytes e.o):=λi e h=>tv (BP (v:=e.t) Iq Iq (by rw[YF,h];rfl)) 2 rfl
 refine dQ (v:=.lst ((E3 size).map a9.t)) (λh X=>gu (ar (λQ k=>ar Iq (ar Iq (ar (z 1) λ_ k=>k)) _ (V8 (V5 rfl) k)) (ar (λQ k=>ar Iq (ar Iq (ar (z 2) λ_ k=>k)) _ (V8 (V5 rfl) k)) (ar (λQ k=>ar Iq (ar Iq (ar (z 3) λ_ k=>k)) _ (V8 (V5 rfl) k)) λ_ k=>k))) (V5 rfl)) ?_
 refine dQ (v:=.bytes (O3 size)) (λh X=>bl (bl (bl (bl (bl Iq (p 0 _ rfl) (bt l2 t)) Iq (bt L t)) (p 1 _ rfl) (bt U t)) Iq (bt J t)) (p 2 _ rfl) (bt q t)) ?_
 refine jF (l4 (v:=.bool true) (λh X=>eE (a:=true) (b:=true) (NX (aG Iq (tn kn dD (V4 q dD))) Iq (by rw[pc.r];exact xY)) λ_=>aG Iq (nN kn fc dD q pc.f.e pc.f.k)) rfl)
theorem QI(kn:Kn g K)(pc:tA size)(h0:0<size)(hs:size<=4){OU:Nat}(q:OU<2){v0 v4 v5:Option V}:XD D C 40 (cF (di (aC .Eq (ae 3) (af (.int 0))) (di (gw (cu (ak g 11 (.ref 614) (aa (ae 1) (aa (ae 2) ag))))) (af (.bool .true)))) (cF (di (aC .Eq (ae 3) (af (.int 1))) (di (gw (cu (ak g 11 (.ref 619) (aa (ae 1) (aa (ae 2) ag))))) (af (.bool .true)))) (af (.bool .false)))) [v0,some (.ref D),some (.int size),some (.int OU),v4,v5] λv=>v=.bool false:=by
 match OU,q with
 |0,_=>exact XD.le (vA (JQ (λ_ _ _ k=>k) (tB (cj (vs:=[.ref D,.int size]) (λ_ _ _ k=>k) (Ce kn pc.c dD h0 hs)))) (l4 (v:=.bool false) (λ_ _=>fA (a:=false) (eE (a:=false) (b:=false) Iq ff)) rfl)) dD
 |1,_=>exact XD.le (vA (l4 (v:=.bool false) (λ_ _=>eE (a:=false) (b:=false) Iq ff) rfl) (vA (JQ (λ_ _ _ k=>k) (tB (cj (vs:=[.ref D,.int size]) (λ_ _ _ k=>k) (Mw kn pc.g dD h0 hs)))) (l4 (λ_ _ _ k=>k) rfl))) dD
theorem My(kn:Kn g K)(fc:uP g)(pc:∀s∈[2,2,4],tA s){v0:V}:∃k,SD D C k (Di g 11) [some v0,some (.ref D),none,none,none,none] (λv=>v=.bool true)∧k<=1000:=by
 refine⟨1+((28+((1+(1+((0+12*1)+8)))+(((0+(4+0))+1)+0)))+(1+(40+0))),fh (x5 kn dD [2,2,4] dD dD λ_ _ _ k=>V8 (V5 rfl) k) ?_,dD⟩
 rintro v ⟨size,z,rfl⟩
 have pc:=pc size z
 have q:0<size∧size<=4:=(by decide:∀s∈[2,2,4],0<s∧s<=4) size z
 refine JP (vA (tB (cj (vs:=[.ref D,.int size]) (λ_ _ _ k=>k) (Js kn fc pc.t dD q.1 q.2))) (vA (tB (cj (vs:=[.ref D,.int size]) (λ_ _ _ k=>k) (Jz kn dD))) (vA (tB (L7 (S:=λvs=>∃b,vs=[.ref D,.bytes b]∧eY size b) (DJ (R:=λvs=>∃b,vs=[.bytes b]∧eY size b) (P:=(· = .ref D)) (l4 (λ_ _ _ k=>k) rfl) (DJ (R:=(· = [])) (cj (vs:=[.ref D,.int size]) (λ_ _ _ k=>k) (tm kn dD q.1 q.2)) (SM rfl) λu vs p r=>?_) λu vs p r=>?_) λvs p=>?_)) (l4 (λ_ _ _ k=>k) rfl)))) ?_
 ·obtain⟨b,rfl,hb⟩:=p
  exact⟨b,by rw[r],hb⟩
 ·obtain⟨b,rfl,hb⟩:=r
  exact⟨b,by rw[p],hb⟩
 ·obtain⟨b,rfl,hb⟩:=p
  exact Qw kn dD (by rw[hb.l];exact V4 q.2 dD) (by rw[hb.l];exact q.1)
 refine fh (cj (vs:=[.ref D,.int 2]) (λ_ _ _ k=>k) (b7 (below:=2) kn dD dD dD)) ?_
 rintro v ⟨OU,c,rfl⟩
 exact JP (QI kn pc q.1 q.2 c) (Mx kn fc pc q.2)
theorem bW.sub(c:bW g n f vs (λv o=>∃h1,Sub h1 o∧Q v h1) X h):bW g n f vs Q X h:=by
 unfold bW at *
 exact λl p R b=>be (c l p R b) (λx J u=>u.casesOn λR q=>q.2.elim λh1 z=>⟨R.forget z.1,q.1,z.2⟩) λ_ _ e=>e
theorem S5(kn:Kn g K)(fc:uP g)(pc:∀s∈[2,2,4],tA s){s:List Int}:NM g 11 (dC λv _=>v=.bool true) (bz X) ⟨[V.lst (s.map .int)].map some++WZ (sQ.names.length-sQ.params.length) none,h⟩:=by
 refine qe (yc Iq (P4 kn dD λD C z p b dk fr=>?_))
 obtain⟨k,q,c⟩:=My (D:=D) (C:=C) kn fc pc (v0:=.lst (s.map .int))
 exact q 0 z _ X dk (by rw[Xn];exact V4 c dD) λv f e d=>e
end
theorem JR:∀(l:List UInt8) (a:Int),kG (l++[c]) a=8*kG l a+(c.toNat:Nat)-48:=by
 intro q
 induction q with
 |nil=>
  intro _
  exact rfl
 |cons d l y=>
  intro a
  exact y _
theorem JS:∀c∈IH,48<=c.toNat∧c.toNat<56:=dD
theorem JT:∀l:List UInt8,(∀c∈l,c∈IH)->∃v:Nat,kG l.reverse 0=v∧l=kF l.length v:=by
 intro q
 induction q with
 |nil=>
  intro _
  exact⟨0,rfl,rfl⟩
 |cons c l j=>
  intro h
  obtain⟨v,h1,y⟩:=j λd hd=>h d (.tail _ hd)
  have hc:=JS c (h c (.head _))
  obtain⟨d,hd⟩:∃d,c.toNat=48+d:=⟨c.toNat-48,(acv hc.1).symm⟩
  have ld:d<8:=by have:=hc.2;rw[hd]at this;exact Nat.lt_of_add_lt_add_left this
  refine⟨8*v+d,?_,?_⟩
  ·rw[abc,JR,h1,hd];lia
  ·show c::l=((48+(8*v+d)%8).toUInt8)::kF l.length ((8*v+d)/8)
   rw(config:={}) [Nat.mul_add_mod,abu ld,Nat.mul_add_div dD,Nat.div_eq_of_lt ld,aeL,←y,←hd]
   exact congrArg (·::l) (BD c).symm
theorem FQ:∀m∈g6,∀L,L<7->bU (kF L m).reverse=some m->bD (kF L m).reverse=some m∧(kF L m).reverse=m8 m:=dD
theorem Mz:∀p∈LM,bU p.1=some p.2:=dD
structure QJ(b:List UInt8)(m:Nat):Prop where
 i:m∈g6
 l:bD b=some m
 e:b=m8 m
theorem DX(h:bU b=some m):QJ b m:=by
 cases b with
 |nil=>cases h
 |cons c r=>
  have h0:=h
  rw[s6]at h
  generalize hb:nu c r=y;cases y with
  |true=>rw[hb]at h;cases h
  |false=>
   rw[hb]at h
   have h:(bif vq (kG (c::r) 0)then some (kG (c::r) 0).toNat else none)=some m:=h
   generalize j:vq (kG (c::r) 0)=y;cases y with
   |false=>rw[j]at h;cases h
   |true=>
    rw[j]at h
    obtain rfl:(kG (c::r) 0).toNat=m:=WR h
    have z:=X4.mp hb
    have p:=X4.mp z.2
    have all:=WQ.mp (ni z.1)
    have len:(c::r).length<7:=abd (XS.mp (YX.mp (of_decide_eq_false p.2)))
    obtain⟨v,h1,i⟩:=JT (c::r).reverse λd hd=>WI.mp (all d (aam.mp hd))
    rw[aeW]at h1
    rw[Ys]at i
    have u:(kG (c::r) 0).toNat=v:=by rw[h1];rfl
    rw[u]at h0 ⊢
    have q:v∈g6:=by
     obtain⟨k,q,e⟩:=ZK.mp j
     have e:=eq_of_beq e
     rw[h1]at e
     exact Yx e▸q
    have e:c::r=(kF (c::r).length v).reverse:=by rw[←i,aeW]
    have f:=FQ v q _ len (by rw[←e];exact h0)
    rw[←e]at f
    exact⟨q,f.1,f.2⟩
theorem MA:bD=bU:=funext λb=>by
 generalize h:bU b=d;cases d with
 |some m=>exact(DX h).l
 |none=>
  generalize q:bD b=d;cases d with
  |none=>rfl
  |some m=>
   unfold bD at q
   obtain⟨p,hp,e⟩:=Yl.mp q
   have y:=List.find?_some hp
   have:=Mz p (List.mem_of_find?_eq_some hp)
   rw[show p.1=b from of_decide_eq_true y,h]at this
   cases this
structure EP(size:Nat)(e:a9):Prop where
 m:e.m∈g6
 x:e.x≠[]
 z:(0:UInt8)∉e.x
 o:e.o.length=size
inductive S6(size:Nat)(s:List UInt8)(e:a9)(k:Nat):Prop
 |mk (r:List UInt8) (h:s=e.oct++r) (l:s.drop k=r) (ep:EP size e)
theorem QK(h:rf bU size s=some (e,k)):S6 size s e k:=by
 generalize j:bh 32 s=d;cases d with
 |none=>rw[BH j]at h;cases h
 |some p=>
  generalize y:bU (s.take p)=d;cases d with
  |none=>rw[BI j y]at h;cases h
  |some m=>
   rw[BJ j y]at h
   obtain⟨a,t,rfl,_,rfl⟩:=fQ j
   have d1:(a++32::t).drop (a.length+1)=t:=by rw[←Xc,Zd];rfl
   rw[d1]at h
   generalize c:bh 0 t=d;cases d with
   |none=>rw[c]at h;cases h
   |some q=>
    rw[c]at h
    obtain⟨x,u,rfl,hx,rfl⟩:=fQ c
    rw[YU]at y
    have b:=DX y
    have h:(bif decide ((x++0::u).length<x.length+1+size)then none else bif Yr x.length 0 then none else some (⟨m,(x++0::u).take x.length,((x++0::u).drop (x.length+1)).take size⟩,a.length+1+(x.length+1)+size))=some (e,k):=h
    have d2:(x++0::u).drop (x.length+1)=u:=by rw[←Xc,Zd];rfl
    rw[YU,d2]at h
    generalize b1:(decide ((x++0::u).length<x.length+1+size))=d;cases d with
    |true=>rw[b1]at h;cases h
    |false=>
     rw[b1]at h
     generalize b2:Yr x.length 0=d;cases d with
     |true=>rw[b2]at h;cases h
     |false=>
      rw[b2]at h
      cases h
      have w:size<=u.length:=by
       have:=Xh.mp (of_decide_eq_false b1)
       rw[V6,WM,WJ,W4 1]at this
       exact X7 (Nat.le_of_add_le_add_left this)
      refine⟨u.drop size,?_,?_,⟨b.i,λz=>?_,hx,?_⟩⟩
      ·unfold a9.oct
       rw[←b.e,Wn,Yz]
       simp only[Wn,Yh,aaz]
      ·rw[←Xc,←Xc,d1,d2]
      ·rw[show x=[]from z]at b2;cases b2
      ·show(u.take size).length=size;rw[Xi];exact ZZ w
theorem JU:∀(f:Nat) (s:List UInt8) (es:List a9),s.length<=f->gf bU size f s=some es->s=cv es∧∀e∈es,EP size e:=by
 intro zi
 induction zi with
 |zero=>
  intro s es l h
  obtain rfl:=W7 (YS l)
  cases h
  exact⟨rfl,an⟩
 |succ f ih=>
  intro s es l h
  generalize e:s.isEmpty=zz;cases zz with
  |true=>
   rw[BL e]at h
   cases h
   exact⟨Xa.mp e,an⟩
  |false=>
   rw[BK e]at h
   generalize e1:rf bU size s=zz;cases zz with
   |none=>rw[e1]at h;cases h
   |some x=>
    rw[e1]at h
    obtain⟨a,k⟩:=x
    obtain⟨r,hs,hk,ep⟩:=QK e1
    have h:(gf bU size f (s.drop k)).map (a::·)=some es:=h
    rw[hk]at h
    obtain⟨l',h2,rfl⟩:=Yl.mp h
    have pos:0<a.oct.length:=by unfold a9.oct;simp only[V6,aai];lia
    have lr:r.length<=f:=by rw[hs,V6]at l;omega
    have ih:=ih r l' lr h2
    refine⟨by rw[hs,ih.1];rfl,λb hb=>?_⟩
    cases hb with
    |head=>exact ep
    |tail _ hb=>exact ih.2 b hb
noncomputable def yd(o:List UInt8):Bool:=!(o.all λc=>[0].contains c)
noncomputable def Pa(e:a9):Bool:=fJ e.m&&(isNone (dP e.x)&&yd e.o)
noncomputable def QL:List a9->DB->Option (List UInt8)->Bool
 | [],_,_=>true
 |e::r,l,a=>fJ e.m&&(isNone (dP e.x)&&(!known l e.x&&(!uH a e.key&&(yd e.o&&QL r (fE l e.x (.bool .true)) (some e.key)))))
theorem DY:(rd b v).isEmpty=!b:=by cases b <;> rfl
theorem S7:(bif b then[v]else rd d w).isEmpty=(!b&&!d):=by
 cases b with
 |true=>rfl
 |false=>exact DY
theorem rF(a b:List d):(a++b).isEmpty=(a.isEmpty&&b.isEmpty):=by cases a <;> rfl
theorem JV:∀l:List y,(l.find? p).isSome=l.any p:=by
 intro d
 induction d with
 |nil=>
  exact rfl
 |cons a l q=>
  rw[Zr,YT]
  cases p a with
  |true=>rfl
  |false=>exact q
theorem JW:(sY e l a d).isEmpty=((((d.isEmpty&&fJ e.m)&&isNone (dP e.x))&&(!known l e.x&&!uH a e.key))&&yd e.o):=by
 unfold sY yd a9.key
 rw[rF,rF,rF,rF,DY,DY,DY,S7,aeo,aeo]
theorem JX:∀(q:List a9) (l:DB) (a:Option (List UInt8)) (d:List V),(fg q l a d).isEmpty=(d.isEmpty&&QL q l a):=by
 intro y
 induction y with
 |nil=>
  intro _ _ d
  exact(acw _).symm
 |cons e r j=>
  intro l a d
  show(fg r (fE l e.x (.bool .true)) (some e.key) (sY e l a d)).isEmpty=_
  rw[j,JW]
  show _=(d.isEmpty&&(fJ e.m&&(isNone (dP e.x)&&(!known l e.x&&(!uH a e.key&&(yd e.o&&QL r (fE l e.x (.bool .true)) (some e.key)))))))
  rw[aaY,aaY,aaY,aaY,aaY]
theorem vB:known l x=l.any λd=>decide (d.1=x):=by
 unfold known atKey
 rw[ae8,JV]
theorem vC:known (fE l x v) y=(known l y||decide (x=y)):=by
 rw[vB,vB]
 unfold fE
 generalize h:(l.any λd=>decide (d.1=x))=zz;cases zz with
 |false=>rw[if_neg W0,List.any_append];exact congrArg _ (Zs _)
 |true=>
  rw[if_pos rfl,List.any_map]
  have e:((λd:List UInt8×V=>decide (d.1=y))∘λd=>if d.1=x then(d.1,v)else d)=λd=>decide (d.1=y):=funext λd=>by
   show decide ((if d.1=x then(d.1,v)else d).1=y)=_
   by_cases q:d.1=x
   ·rw[if_pos q]
   ·rw[if_neg q]
  rw[e]
  by_cases q:x=y
  ·rw[←q,h];rfl
  ·rw[decide_eq_false q,Zs]
noncomputable def S8:Option (List UInt8)->List (List UInt8)->Prop
 |_,[]=>True
 |a,k::r=>uH a k=false∧S8 (some k) r
structure S9(es:List a9)(l:DB)(a:Option (List UInt8)):Prop where
 o:∀e∈es,Pa e=true
 n:(es.map a9.x).Nodup
 k:∀e∈es,known l e.x=false
 c:S8 a (es.map a9.key)
theorem MB:∀(p:List a9) (l:DB) (a:Option (List UInt8)),QL p l a=true↔S9 p l a:=by
 intro w
 induction w with
 |nil=>
  intro _ _
  exact⟨λ_=>⟨an,.nil,an,trivial⟩,λ_=>rfl⟩
 |cons e r d=>
  intro l a
  have d:=d (fE l e.x (.bool .true)) (some e.key)
  show(fJ e.m&&(isNone (dP e.x)&&(!known l e.x&&(!uH a e.key&&(yd e.o&&QL r (fE l e.x (.bool .true)) (some e.key))))))=true↔_
  constructor
  ·intro h
   have g:=aJ h
   have y:=aJ g.2
   have h1:=aJ y.2
   have j:=aJ h1.2
   have u:=aJ j.2
   have h:Pa e=true:=by unfold Pa;rw[g.1,y.1,u.1];rfl
   have f:=d.mp u.2
   have i:∀b∈r,known l b.x=false∧e.x≠b.x:=λb hb=>by
    have:=f.k b hb
    rw[vC]at this
    have:=X4.mp this
    exact⟨this.1,of_decide_eq_false this.2⟩
   refine⟨λb hb=>?_,XG.mpr ⟨λz=>?_,f.n⟩,λb hb=>?_,cw j.1,f.c⟩
   ·cases hb with
    |head=>exact h
    |tail _ hb=>exact f.o b hb
   ·obtain⟨b,hb,q⟩:=WC.mp z
    exact(i b hb).2 q.symm
   ·cases hb with
    |head=>exact cw h1.1
    |tail _ hb=>exact(i b hb).1
  ·intro f
   have n:=XG.mp f.n
   have g:S9 r (fE l e.x (.bool .true)) (some e.key):=⟨λb hb=>f.o b (.tail _ hb),n.2,λb hb=>by
    rw[vC,f.k b (.tail _ hb)]
    exact decide_eq_false λq=>n.1 (q▸XY hb),f.c.2⟩
   have o:=aJ (f.o e (.head _))
   have o2:=aJ o.2
   rw[o.1,o2.1,o2.2,f.k e (.head _),show uH a e.key=false from f.c.1,d.mpr g];rfl
theorem DZ:uH (some y) k=!rq y k:=CY k y
theorem QM:∀{ks:List (List UInt8)} {y:List UInt8},S8 (some y) ks->(y::ks).Pairwise λa b=>rq a b=true:=by
 intro j
 induction j with
 |nil=>
  intro y _
  exact ad5 _ _
 |cons k r d=>
  intro y h
  have h1:rq y k=true:=by have:=h.1;rw[DZ]at this;exact ni this
  have d:=d h.2
  refine acy.mpr ⟨λz q=>?_,d⟩
  rcases Wf.mp q with rfl|q
  ·exact h1
  ·exact oG h1 ((acy.mp d).1 z q)
theorem QN:∀{ks:List (List UInt8)} {y:List UInt8},(y::ks).Pairwise (λa b=>rq a b=true)->S8 (some y) ks:=by
 intro d
 induction d with
 |nil=>
  intro _ _
  exact trivial
 |cons k r q=>
  intro y h
  have h:=acy.mp h
  exact⟨by rw[DZ,h.1 k (.head _)];rfl,q h.2⟩
theorem D0:S8 none ks↔ks.Pairwise λa b=>rq a b=true:=by
 cases ks with
 |nil=>exact⟨λ_=>.nil,λ_=>trivial⟩
 |cons k r=>exact⟨λh=>QM h.2,λh=>⟨rfl,QN h⟩⟩
theorem tC:decide (a8 x [c] 0≥0)=x.contains c:=by
 rw[s9]
 generalize e:bh c x=d;cases d with
 |none=>rw[show x.contains c=false from YH.mpr λh=>FC e (WI.mp h)];rfl
 |some i=>
  obtain⟨p,r,h,_,_⟩:=fQ e
  rw[show x.contains c=true from WI.mpr (by rw[h];exact WK _ (.head _))]
  exact decide_eq_true (Ww i)
theorem D1(h:x≠[])(z:(0:UInt8)∉x):isNone (dP x)=!ri x:=by
 have y:(x==[])=false:=beq_eq_false_iff_ne.mpr h
 have q:IC x [47,0]=x.contains 47:=by
  show(decide (a8 x [47] 0≥0)||(decide (a8 x [0] 0≥0)||false))=_
  rw[tC,tC,show x.contains 0=false from YH.mpr λh=>z (WI.mp h),Zs,Zs]
 unfold dP ri
 rw[NQ y,q]
 generalize ([46]==x)=a
 generalize ([46,46]==x)=b
 generalize (x.map ZS==[46,103,105,116])=c
 generalize x.contains 47=d
 cases a with
 |true=>cases d <;> rfl
 |false=>cases b with
  |true=>cases d <;> rfl
  |false=>cases c <;> cases d <;> rfl
theorem N6(h:ri x=false):(47:UInt8)∉x:=λm=>by
 have:=(X4.mp h).1
 rw[WI.mpr m]at this
 cases this
theorem MC{a b:a9}(ha:(47:UInt8)∉a.x)(hb:(47:UInt8)∉b.x)(h:a.key=b.key):a.x=b.x:=by
 unfold a9.key sT at h
 generalize q:((a.m:Int)==16384)=j;generalize d:((b.m:Int)==16384)=y;cases j <;> cases y <;> rw[q,d]at h
 ·exact h
 ·exact absurd (by rw[show a.x=b.x++[47]from h];exact WK _ (.head _)) ha
 ·exact absurd (by rw[←show a.x++[47]=b.x from h];exact WK _ (.head _)) hb
 ·exact List.append_cancel_right h
theorem z7:∀m∈g6,fJ (m:Int)=!(m==33204):=dD
theorem Ta(h:rq a b=true):wk a b:=mr.mpr (by
 generalize e:rq b a=d;cases d with
 |false=>rfl
 |true=>have:=oG h e;rw[CZ]at this;cases this)
theorem MD{size:Nat}{y:List a9}(q:∀e∈y,EP size e)(u:∀e∈y,yd e.o=true):QL y [] none=true↔SP y:=by
 rw[MB]
 constructor
 ·intro f
  have o:∀e∈y,ri e.x=false∧e.m≠33204:=λe d=>by
   have h:=aJ (f.o e d)
   have j:=(aJ h.2).1
   rw[D1 (q e d).x (q e d).z]at j
   refine⟨cw j,λz=>?_⟩
   have h1:=h.1
   rw[z7 _ (q e d).m,z]at h1
   cases h1
  exact⟨f.n,(D0.mp f.c).imp Ta,λe d=>(o e d).1,λe d=>(o e d).2⟩
 ·intro f
  refine⟨λe d=>?_,f.nd,λe d=>rfl,D0.mpr ?_⟩
  ·unfold Pa
   rw[D1 (q e d).x (q e d).z,f.no e d,z7 _ (q e d).m,u e d,beq_eq_false_iff_ne.mpr (f.md e d)];rfl
  ·have h1:=Zx.mp f.so
   have j:=Zx.mp f.nd
   refine Zx.mpr ((h1.and j).imp_of_mem λ{a b} ha hb h=>?_)
   generalize e:rq a.key b.key=i;cases i with
   |true=>rfl
   |false=>exact absurd (MC (N6 (f.no a ha)) (N6 (f.no b hb)) (wm e (mr.mp h.1))) h.2
noncomputable abbrev QO:List UInt8:=[110,111,116,104,105,110,103]
theorem JY(h:e∈d):∃p r,cv d=p++(m8 e.m++[32]++e.x++[0]++e.o)++r:=by
 obtain⟨a,b,rfl⟩:=List.append_of_mem h
 exact⟨cv a,cv b,by unfold cv;rw(config:={}) [WE,ZN,WO,YG,Wn];rfl⟩
theorem Tb:∀d:List a9,2*d.length<=(cv d).length:=by
 intro q
 induction q with
 |nil=>
  exact Wh _
 |cons e r y=>
  have:=y
  show 2*(r.length+1)<=(e.oct++cv r).length
  rw[V6]
  unfold a9.oct
  simp only[V6,aai]
  lia
theorem JZ:∀m∈g6,sW m:=λm h=>by
 rcases Wf.mp h with rfl|h
 ·exact .six ⟨dD,dD,dD,dD,dD,dD,rfl⟩ dD
 rcases Wf.mp h with rfl|h
 ·exact .six ⟨dD,dD,dD,dD,dD,dD,rfl⟩ dD
 rcases Wf.mp h with rfl|h
 ·exact .six ⟨dD,dD,dD,dD,dD,dD,rfl⟩ dD
 rcases Wf.mp h with rfl|h
 ·exact .five
 rcases Wf.mp h with rfl|h
 ·exact .six ⟨dD,dD,dD,dD,dD,dD,rfl⟩ dD
 rw[Wr.mp h]
 exact .six ⟨dD,dD,dD,dD,dD,dD,rfl⟩ dD
theorem ME:∀d:List a9,(d.map a9.x).Nodup->e∈d->d.find? (λa=>a.x==e.x)=some e:=by
 intro q
 induction q with
 |nil=>
  intros;contradiction
 |cons a r y=>
  intro n h
  have n:=XG.mp n
  rw[Zr]
  rcases Wf.mp h with rfl|h
  ·rw[beq_self_eq_true]
  ·rw[beq_eq_false_iff_ne.mpr λz:a.x=e.x=>n.1 (by rw[z];exact XY h)]
   exact y n.2 h
theorem UN(hs:2<=size)(k:b.length<=100)(B:∀p r,b≠p++0::0::0::r)(no:∀p r,b≠p++QO++r):zZ size b:=by
 refine⟨V4 k dD,by rw[MA],λj h=>?_⟩
 obtain⟨hb,u⟩:=JU _ b j (Wh _) h
 have le:=Tb j
 rw[←hb]at le
 have g:∀e∈j,yd e.o=true:=λe y=>by
  generalize h:yd e.o=w;cases w with
  |true=>rfl
  |false=>
   have i:=WQ.mp (ni h)
   obtain⟨p,r,q⟩:=JY y
   have lo:=(u e y).o
   match e.o,i,lo,q with
   | [],_,lo,_=>exact absurd hs (by rw[←show 0=size from lo];decide)
   | [_],_,lo,_=>exact absurd hs (by rw[←show 1=size from lo];decide)
   |c::d::o,i,_,q=>
    have D:=Wr.mp (WI.mp (i c (.head _)))
    have a:=Wr.mp (WI.mp (i d (.tail _ (.head _))))
    rw[D,a,←hb]at q
    exact absurd (q.trans (by simp only[Wn,Yh,aaz])) (B (p++m8 e.m++[32]++e.x) (o++r))
 have fi:=MD u g
 have ff:(fg j [] none []).isEmpty=uO j:=by
  rw[JX]
  show QL j [] none=_
  rw[XT,fi]
  exact(@decide_eq_true_iff _ (W5 _)).symm
 refine⟨by omega,⟨hb.symm,λe y=>JZ _ (u e y).m,ff,λf e y=>?_,λf=>?_,by omega,λe y=>?_⟩⟩
 ·have f:=@of_decide_eq_true _ (W5 _) f
  unfold nt
  rw[ME j f.nd y]
 ·unfold nt
  rw(config:={}) [List.find?_eq_none.mpr λe y z=>?_]
  obtain⟨p,r,q⟩:=JY y
  rw[eq_of_beq z,←hb]at q
  exact no (p++m8 e.m++[32]) ([0]++e.o++r) (q.trans (by simp only[Wn]))
 ·have:=nk (XY (f:=a9.oct) y)
  rw[show(j.map a9.oct).flatten=b from hb.symm]at this
  refine V4 (V4 ?_ this) (V4 k dD)
  unfold a9.oct
  simp only[V6,aai]
  lia
section
noncomputable def r1(bad:UInt8->Bool):List UInt8->Nat
 | []=>0
 |c::r=>bif bad c then r1 bad r+1 else 0
noncomputable def r2(bad:UInt8->Bool):List UInt8->Nat
 | []=>1
 |c::r=>bif bad c then r2 bad r+1 else r1 bad r+1
noncomputable def z8(bad:UInt8->Bool)(w:Nat):List UInt8->Bool
 | []=>true
 |c::r=>Zp (r1 bad (c::r)) w&&z8 bad w r
noncomputable def Cj(bad:UInt8->Bool)(w:Nat):List UInt8->Prop
 | []=>True
 |c::r=>r2 bad (c::r)<=w∧Cj bad w r
theorem J0(c:UInt8)(r:List UInt8):r1 bad (c::r)<=r1 bad r+1:=by
 show(bif bad c then _ else _)<=_
 cases bad c with
 |true=>exact Wh _
 |false=>exact Wy _
theorem TY:∀r:List UInt8,r1 bad r+1<=r2 bad r:=by
 intro d
 induction d with
 |nil=>
  exact Wh _
 |cons c r q=>
  show(bif bad c then r1 bad r+1 else 0)+1<=bif bad c then r2 bad r+1 else r1 bad r+1
  cases bad c with
  |true=>exact Wm (q)
  |false=>exact Wm (Wy _)
theorem Tc(c:UInt8)(r:List UInt8):r1 bad r+1<=r2 bad (c::r):=by
 show _<=bif bad c then r2 bad r+1 else r1 bad r+1
 cases bad c with
 |true=>exact Yq (TY r)
 |false=>exact Wh _
theorem QP(l:m1.length<=1):r1 bad r+1<=r2 bad (m1++r):=by
 cases m1 with
 |nil=>exact TY r
 |cons c t=>
  rw[W7 (Nat.le_zero.mp (X7 l))]
  exact Tc c r
theorem QQ(l:m2.length<=1):r1 bad (m2++r)<=r1 bad r+1:=by
 match m2,l with
 | [],_=>exact Xq _
 | [c],_=>exact J0 c r
theorem QR(q:m1.length<=1)(l2:m2.length<=1):∀p:List UInt8,r1 bad (p++(m2++r))<=r2 bad (p++(m1++r)):=by
 intro d
 induction d with
 |nil=>
  exact V4 (QQ (m2:=m2) l2) (QP (m1:=m1) q)
 |cons c p y=>
  show(bif bad c then r1 bad (p++(m2++r))+1 else 0)<=bif bad c then r2 bad (p++(m1++r))+1 else _
  cases bad c with
  |true=>exact Wm (y)
  |false=>exact Wy _
theorem N7:∀{r:List UInt8},Cj bad w r->z8 bad w r=true:=by
 intro d
 induction d with
 |nil=>
  intro _
  exact rfl
 |cons c r q=>
  intro h
  exact X5.mpr ⟨aat.mpr (V4 (X9 (TY (c::r))) h.1),q h.2⟩
theorem D2:∀{p r:List UInt8},Cj bad w (p++r)->Cj bad w r
 | [],_,h=>h
 |_::p,_,h=>D2 (p:=p) h.2
theorem QS(d:1<=w):∀{r:List UInt8},Cj bad w r->r2 bad r<=w:=by
 intro q
 induction q with
 |nil=>
  intro _
  exact d
 |cons _ _ y=>
  intro h
  exact h.1
theorem z9(y:1<=w)(j:m1.length<=1)(l2:m2.length<=1):∀{p:List UInt8},Cj bad w (p++(m1++r))->z8 bad w (p++(m2++r))=true:=by
 intro i
 induction i with
 |nil=>
  intro h
  have q:=D2 (p:=m1) h
  match m2,l2 with
  | [],_=>exact N7 q
  | [d],_=>exact X5.mpr ⟨aat.mpr (V4 (J0 d r) (V4 (TY r) (QS y q))),N7 q⟩
 |cons c p z=>
  intro h
  exact X5.mpr ⟨aat.mpr (V4 (QR j l2 (c::p)) h.1),z h.2⟩
theorem QT:∀{u:List UInt8},(u.all bad)=true->u.length<=r1 bad (u++y):=by
 intro d
 induction d with
 |nil=>
  intro _
  exact Wy _
 |cons c u q=>
  intro h
  have h:=aJ h
  show u.length+1<=bif bad c then r1 bad (u++y)+1 else 0
  rw[h.1];exact Wm (q h.2)
theorem Ck(d:u.all bad=true)(h0:u≠[]):∀{x:List UInt8},z8 bad w (x++(u++y))=true->u.length<=w
 | [],h=>by
  have l:=QT (y:=y) d
  cases u with
  |nil=>exact absurd rfl h0
  |cons c u=>exact V4 l (aat.mp (aJ h).1)
 |_::x,h=>Ck d h0 (x:=x) (aJ h).2
structure Jn(bad:UInt8->Bool)(w i j:Nat)(b:List UInt8):Prop where
 ha:r1 bad b<=i
 hb:r2 bad b<=j
 hc:Cj bad w b
theorem Jn.any(h:Jn bad w i j b)(y:i<=j):∀l:List UInt8,j+l.length<=w->Jn bad w (i+l.length) (j+l.length) (l++b)
 | [],_=>h
 |c::l,q=>by
  have d:=h.any y l (X9 q)
  have hb:r2 bad (c::(l++b))<=j+l.length+1:=by
   show(bif bad c then r2 bad (l++b)+1 else r1 bad (l++b)+1)<=_
   cases bad c with
   |true=>exact Wm d.hb
   |false=>exact Wm (V4 d.ha (Wv y _))
  exact⟨V4 (J0 c _) (Wm d.ha),hb,V4 hb q,d.hc⟩
theorem Jn.good(h:Jn bad w i j b)(hc:bad c=false)(l:i+1<=w):Jn bad w 0 (i+1) (c::b):=by
 have q:r1 bad (c::b)=0:=by show(bif bad c then _ else _)=_;rw[hc];rfl
 have d:r2 bad (c::b)=r1 bad b+1:=by show(bif bad c then _ else _)=_;rw[hc];rfl
 exact⟨Xp q,by rw[d];exact Wm h.ha,by rw[d];exact V4 (Wm h.ha) l,h.hc⟩
theorem Jn.up(h:Jn bad w i j b)(d:i<=y)(l2:j<=q):Jn bad w y q b:=⟨V4 h.ha d,V4 h.hb l2,h.hc⟩
theorem Jn.goods(h:Jn bad w i j b)(l:i+1<=w):∀g:List UInt8,(∀c∈g,bad c=false)->2<=g.length->Jn bad w 0 1 (g++b)
 | [_],_,q=>absurd q (afa 1)
 | [c,d],hg,_=>(h.good (hg d (.tail _ (.head _))) l).good (hg c (.head _)) (V4 (Wm (Wy i)) l)
 |c::d::e::g,hg,_=>(h.goods l (d::e::g) (λx hx=>hg x (.tail _ hx)) (Wm (Wm (Wy _)))).good (hg c (.head _)) (V4 (Wm (Wy i)) l)
end
noncomputable def Aa(c:UInt8):Bool:=c==0
noncomputable def nU(c:UInt8):Bool:=QO.contains c
theorem rG:∀m∈g6,(∀c∈m8 m,Aa c=false∧nU c=false)∧2<=(m8 m).length:=dD
theorem Vj:Jn bad w 0 1 []:=⟨Wh _,Wh _,trivial⟩
theorem Ab(e:a9)(b:List UInt8):e.oct++b=m8 e.m++(32::(e.x++(0::(e.o++b)))):=by
 unfold a9.oct
 simp only[Wn,Yh,aaz]
theorem MF(hs:2<=size)(le:eQ size e)(h:Jn Aa 2 0 1 b):Jn Aa 2 0 1 (e.oct++b):=by
 rw[Ab]
 have nx:=jU _ le.x
 have h1:=h.goods dD e.o (λc hc=>beq_eq_false_iff_ne.mpr (le.o.z c hc)) (by rw[le.o.l];exact hs)
 have q:=h1.any dD [0] dD
 have j:Jn Aa 2 0 2 (e.x++([0]++(e.o++b))):=by
  have hx:=nx.2.2
  match e.x,nx.2.1,hx with
  | [c],_,hx=>exact q.good (beq_eq_false_iff_ne.mpr (hx c (.head _))) dD
  |c::d::x,_,hx=>exact(q.goods dD (c::d::x) (λy i=>beq_eq_false_iff_ne.mpr (hx y i)) (Wm (Wm (Wy _)))).up (Wh _) dD
 exact(j.good (c:=32) dD dD).goods dD (m8 e.m) (λc hc=>((rG _ le.m).1 c hc).1) (rG _ le.m).2
theorem MG(hs:size<=4)(le:eQ size e)(h:Jn nU 6 0 1 b):Jn nU 6 0 1 (e.oct++b):=by
 rw[Ab]
 have nx:=jU _ le.x
 obtain⟨o,d⟩:∃o,e.o=171::o:=by
  have:=le.o.h
  generalize h:e.o=q;cases q with
  |nil=>rw[h]at this;cases this
  |cons c o=>rw[h]at this;exact⟨o,by rw[WR this]⟩
 have lo:o.length<=3:=by
  have:=le.o.l
  rw[d]at this
  exact X7 (V4 (Xp this) hs)
 rw[d]
 have h1:Jn nU 6 3 4 (o++b):=(h.any dD o (V4 (Wu lo 1) dD)).up (by rw[Xn];exact lo) (Wu lo 1)
 have j:=h1.good (c:=171) dD dD
 have i:=j.good (c:=0) dD dD
 have y:Jn nU 6 4 5 (e.x++(0::171::(o++b))):=(i.any dD e.x (V4 (Wu nx.1 1) dD)).up (by rw[Xn];exact nx.1) (Wu nx.1 1)
 exact(y.good (c:=32) dD dD).goods dD (m8 e.m) (λc hc=>((rG _ le.m).1 c hc).2) (rG _ le.m).2
theorem J2(hs:2<=size):∀d:List a9,(∀e∈d,eQ size e)->Jn Aa 2 0 1 (cv d):=by
 intro q
 induction q with
 |nil=>
  intro _
  exact Vj
 |cons e r y=>
  intro h
  exact MF hs (h e (.head _)) (y λa ha=>h a (.tail _ ha))
theorem J3(hs:size<=4):∀d:List a9,(∀e∈d,eQ size e)->Jn nU 6 0 1 (cv d):=by
 intro q
 induction q with
 |nil=>
  intro _
  exact Vj
 |cons e r y=>
  intro h
  exact MG hs (h e (.head _)) (y λa ha=>h a (.tail _ ha))
theorem J4(hs:size<=4):∀d:List a9,(∀e∈d,eQ size e)->(cv d).length<=16*d.length:=by
 intro q
 induction q with
 |nil=>
  intro _
  exact Wh _
 |cons e r y=>
  intro h
  show(e.oct++cv r).length<=16*(r.length+1)
  rw[V6,abP,W4]
  exact Wx (y λa ha=>h a (.tail _ ha)) (eQ.len e (h e (.head _)) hs)
theorem Ac(hs:2<=size)(d:b.length<=100)(j:z8 Aa 2 b=true)(q:z8 nU 6 b=true):zZ size b:=
 UN hs d (λp r e=>absurd (Ck (bad:=Aa) (w:=2) (u:=[0,0,0]) (y:=r) (x:=p) rfl (WB _ _) (by rw[←show b=p++([0,0,0]++r)from e];exact j)) dD) λp r e=>absurd (Ck (bad:=nU) (w:=6) (u:=QO) (y:=r) (x:=p) dD (WB _ _) (by rw[←Wn,←e];exact q)) dD
theorem MH(u:2<=size)(hs:size<=4):tp size:=λd q k b hb=>by
 have y:uN (cv d) b:=hb.elim (λe=>⟨[],[],[],cv d,rfl,e,Wy _,Wy _⟩) id
 have tl:(cv d).length<=48:=V4 (J4 hs d q) (WX 16 k)
 have i:=(J2 u d q).hc
 have z:=(J3 hs d q).hc
 have l:=zX y
 obtain⟨p,m1,m2,r,m,c,j,l2⟩:=y
 rw[m]at i z
 exact Ac u (V4 l (V4 (Wm tl) dD)) (by rw[c];exact z9 dD j l2 i) (by rw[c];exact z9 dD j l2 z)
theorem Td:∀s∈[2,2,4],((O3 s).length<=100∧z8 Aa 2 (O3 s)=true∧z8 nU 6 (O3 s)=true):=dD
theorem ye:eP bD 2 (O3 2)=some (E3 2)∧eP bD 4 (O3 4)=some (E3 4):=⟨by kernel_rfl,by kernel_rfl⟩
noncomputable def bX(rs:List (List UInt8)):List UInt8:=(rs.map (·++[10])).flatten
theorem ew(r:List UInt8)(rs:List (List UInt8)):bX (r::rs)=r++10::bX rs:=by
 unfold bX
 rw[WO,YG,Wn];rfl
theorem vD(a b:List (List UInt8)):bX (a++b)=bX a++bX b:=by unfold bX;rw[WE,ZN]
theorem l7:∀{rs:List (List UInt8)},rs≠[]->aP [10] rs++[10]=bX rs:=by
 intro d
 induction d with
 |nil=>
  intro h
  exact absurd rfl h
 |cons a y q=>
  cases y with
  |nil=>
   intro _
   exact(ew a []).symm
  |cons b r=>
   intro _
   show a++[10]++aP [10] (b::r)++[10]=_
   rw[ew,Wn,q (WB b r),Wn];rfl
theorem nV(h:rs≠[])(m:List UInt8):aP [10] rs++([10,10]++m)=bX rs++10::m:=by
 rw[←l7 h,Wn];rfl
noncomputable def cZ:List (List UInt8)->List Hd->Option (List Hd)
 | [],d=>some d
 |r::rs,d=>(c4 r d).bind λq=>cZ rs q
theorem jI:cZ (r::rs) q=(c4 r q).bind λd=>cZ rs d:=rfl
theorem l8:∀{a b:List (List UInt8)} {q:List Hd},cZ (a++b) q=(cZ a q).bind λd=>cZ b d
 | [],_,_=>rfl
 |r::a,b,q=>by
  show(c4 r q).bind (λd=>cZ (a++b) d)=((c4 r q).bind λd=>cZ a d).bind _
  cases c4 r q with
  |none=>rfl
  |some x=>exact l8 (a:=a)
structure kH(r:List UInt8):Prop where
 ne:r≠[]
 n:(10:UInt8)∉r
 l:r.length<=100
theorem Cm(h:kH r):b5 (f+1) (r++10::s) q=(c4 r q).bind λd=>b5 f s d:=by
 rw[nA (ir h.n) (by cases r with|nil=>exact absurd rfl h.ne|cons=>rfl),YU,←Xc,Zd];rfl
theorem yf:∀{rs:List (List UInt8)} {d:List Hd},(∀r∈rs,kH r)->b5 (rs.length+k) (bX rs++t) d=(cZ rs d).bind λq=>b5 k t q:=by
 intro y
 induction y with
 |nil=>
  intro d _
  rw[X6,Xn];rfl
 |cons r rs j=>
  intro d h
  rw[WM,XQ,ew,Wn,Yh,Cm (h r (.head _)),jI]
  cases c4 r d with
  |none=>rfl
  |some x=>exact j λa ha=>h a (.tail _ ha)
theorem FR:∀rs:List (List UInt8),rs.length<=(bX rs).length:=by
 intro d
 induction d with
 |nil=>
  exact Wh _
 |cons r rs q=>
  rw[ew,V6,WM,WM]
  exact V4 (Wm (q)) (XU _ _)
theorem Ad:∀{rs:List (List UInt8)},(∀r∈rs,kH r)->(bX rs).length<=101*rs.length:=by
 intro d
 induction d with
 |nil=>
  intro _
  exact Wh _
 |cons r rs q=>
  intro h
  rw[ew,V6,WM,WM,abP,W4,XQ,WJ]
  exact Wx (q λa ha=>h a (.tail _ ha)) (Wm (h r (.head _)).l)
theorem D3(b:List UInt8):cV b=bif b.contains 0 then none else b5 (b.length+1) b []:=by unfold cV;rw[tC]
theorem eZ(h:∀r∈rs,kH r):∃k,cV (bX rs++t)=bif (bX rs++t).contains 0 then none else(cZ rs []).bind λd=>b5 (k+1) t d:=by
 have l:rs.length<=(bX rs++t).length:=by rw[V6];exact V4 (FR rs) (Wq _ _)
 refine⟨(bX rs++t).length-rs.length,?_⟩
 rw[D3,←yf h,←WJ,acv l]
theorem QU:b5 (k+1) (10::m) d=some ⟨d,m⟩:=rfl
theorem FT(h:(10:UInt8)∉t):b5 (k+1) t d=none:=nz (Dx h)
noncomputable def dX(x:Hd):List UInt8:=x.k++32::x.v
structure qg(x:Hd):Prop where
 r:kH (dX x)
 k:x.k≠[]
 n:(32:UInt8)∉x.k
theorem pW(h:qg x):c4 (dX x) d=some (d++[x]):=by
 obtain⟨k,v⟩:=x
 unfold c4
 have q:bh 32 (k++32::v)=some k.length:=ir h.n
 rw[q]
 cases k with
 |nil=>exact absurd rfl h.k
 |cons c k=>
  rw[show((c::k++32::v).take 1==[32])=false from beq_eq_false_iff_ne.mpr λe=>h.n (by rw[show c=32 from(Zg e).1];exact .head _)]
  show some (d++[⟨((c::k)++32::v).take (c::k).length,((c::k)++32::v).drop ((c::k).length+1)⟩])=_
  rw[YU,←Xc,Zd];rfl
theorem gv:∀{hs:List Hd} {d:List Hd},(∀x∈hs,qg x)->cZ (hs.map dX) d=some (d++hs):=by
 intro q
 induction q with
 |nil=>
  intro d _
  exact congrArg some (WH d).symm
 |cons x hs i=>
  intro d h
  rw[WO,jI,pW (h x (.head _))]
  show cZ (hs.map dX) (d++[x])=_
  rw[i λy j=>h y (.tail _ j),Wn];rfl
theorem pX{hs:List Hd}(h:∀x∈hs,qg x):∀r∈hs.map dX,kH r:=λr d=>by
 obtain⟨x,hx,rfl⟩:=WC.mp d
 exact(h x hx).r
theorem J5:bump (d++[a]) t=some (d++[⟨a.k,a.v++[10]++t⟩]):=by
 unfold bump
 rw[ae1,V6]
 show some ((d++[a]).set (d.length+1-1) _)=_
 rw[Nat.add_sub_cancel,List.set_append_right _ _ (Wh _),abO];rfl
theorem vE{d:Type}{f:Gf->Option d}{hs:List Hd}{m:List UInt8}(h0:hs≠[])(h:∀x∈hs,qg x)(e:f ⟨hs,m⟩=none):(cV (aP [10] (hs.map dX)++([10,10]++m))).bind f=none:=by
 rw[nV (by cases hs with|nil=>exact absurd rfl h0|cons=>exact WB _ _)]
 obtain⟨k,q⟩:=eZ (t:=10::m) (pX h)
 rw[q,gv h]
 cases (bX (hs.map dX)++10::m).contains 0 with
 |true=>rfl
 |false=>exact e
theorem jJ(h:∀r∈rs,kH r)(n:rs.length<=20):(aP [10] rs).length<=2020:=by
 cases rs with
 |nil=>exact Wy _
 |cons a r=>
  have:=Ad h
  rw[←l7 (WB a r),V6]at this
  exact V4 (Wq _ 1) (V4 this (WX 101 n))
theorem Ae:∀i,i<16->ny.contains (ez.getD i 0).toUInt8=true:=dD
theorem nW:∀c∈bg o,c∈ny:=λc hc=>by
 obtain⟨x,hx,rfl⟩:=WC.mp hc
 obtain⟨d,_,h⟩:=ZI.mp hx
 refine WI.mp ?_
 rcases Wf.mp h with rfl|h
 ·exact Ae _ (Jt d)
 ·rw[Wr.mp h];exact Ae _ (Ju d)
theorem Af:(bg o).length=2*o.length:=by rw[Wd,g8]
theorem iB(h:b.length≠2*size):bR size b=none:=by
 unfold bR
 rw[show((b.length:Int)==2*size)=false from beq_eq_false_iff_ne.mpr λe=>h (Yx e)];rfl
theorem tD(hc:c∈b)(h:ny.contains c=false):bR size b=none:=by
 unfold bR
 rw[show(b.all λc=>ny.contains c)=false from YH.mpr λe=>(by rw[WQ.mp e c hc]at h;cases h),Bool.not_false,Y3];rfl
theorem l9(h:o.length=size):bR size (bg o)=some o:=by
 unfold bR
 rw[show(((bg o).length:Int)==2*size)=true from beq_iff_eq.mpr (by rw[Af,h];rfl),WQ.mpr λc hc=>WI.mpr (nW c hc),z4,Jv];rfl
theorem J6:ny.contains (ZR (kP 171).toUInt8)=false:=dD
theorem tE(ho:eY size o)(h0:0<size)(hi:i<(bg o).length)(h:b∈dz (bg o) i):bR size b=none:=by
 have lp:(bg o).length=2*size:=by rw[Af,ho.l]
 unfold dz at h
 rcases Wf.mp h with rfl|h
 ·refine iB ?_
  rw[←acU,ZE hi,lp]
  exact WW (Nat.sub_lt (adg dD h0) adB)
 rcases Wf.mp h with rfl|h
 ·exact iB (by rw[V6,lp];exact YD (XX _))
 rcases Wf.mp h with rfl|h
 ·obtain⟨c,r,e⟩:∃c r,o=c::r:=by
   cases o with
   |nil=>have:=ho.h;cases this
   |cons c r=>exact⟨c,r,rfl⟩
  have ec:c=171:=by have:=ho.h;rw[e]at this;exact WR this
  refine tD (c:=ZR (kP 171).toUInt8) (XY ?_) J6
  rw[e,ec];exact .head _
 rcases Wf.mp h with rfl|h
 ·exact tD (c:=103) (Yg _ (WK _ (.head _))) dD
 rcases Wf.mp h with rfl|h
 ·exact iB (by show(bg o).length+1≠_;rw[lp];exact YD (XX _))
 ·rw[Wr.mp h]
  exact iB (WW (adg dD h0))
theorem D4:∀c∈ny,c≠10∧ZR c≠10:=dD
theorem gi:(10:UInt8)∉bg o:=λh=>(D4 _ (nW _ h)).1 rfl
theorem J7(h:b∈dz (bg o) i):(10:UInt8)∉b:=by
 have t:(10:UInt8)∉(bg o).take i:=λz=>gi (aau z)
 have d:(10:UInt8)∉(bg o).drop (i+1):=λz=>gi (aav z)
 unfold dz at h
 rcases Wf.mp h with rfl|h
 ·exact λz=>(WD.mp z).elim t d
 rcases Wf.mp h with rfl|h
 ·exact λz=>(WD.mp z).elim gi λz=>absurd (Wr.mp z) dD
 rcases Wf.mp h with rfl|h
 ·exact λz=>by obtain⟨c,hc,e⟩:=WC.mp z;exact(D4 c (nW c hc)).2 e
 rcases Wf.mp h with rfl|h
 ·exact λz=>(WD.mp z).elim (λz=>(WD.mp z).elim t λz=>absurd (Wr.mp z) dD) d
 rcases Wf.mp h with rfl|h
 ·exact λz=>(Wf.mp z).elim (λz=>absurd z dD) gi
 ·rw[Wr.mp h];exact abp
noncomputable def Te(o:Option eH)(p:eH):Bool:=WY (motive:=λ_=>Bool) o false λq=>q.m==p.m&&(q.e==p.e&&(q.w==p.w&&q.z==p.z))
theorem MI(h:Te o p=true):o=some p:=by
 cases o with
 |none=>cases h
 |some q=>
  have h1:=aJ h
  have h2:=aJ h1.2
  have h3:=aJ h2.2
  obtain⟨a,b,c,d⟩:=q
  obtain⟨a',b',c',d'⟩:=p
  obtain rfl:a=a':=eq_of_beq h1.1
  obtain rfl:b=b':=eq_of_beq h2.1
  obtain rfl:c=c':=eq_of_beq h3.1
  obtain rfl:d=d':=eq_of_beq h3.2
  rfl
theorem FU:∀p∈l5,(Te (aY p.oct) p&&(!p.oct.contains 10&&(!p.oct.contains 0&&(aY (p.oct++[10]++[109,111,114,101])).isNone)))=true:=dD
structure UO(p:eH):Prop where
 r:aY p.oct=some p
 n:(10:UInt8)∉p.oct
 z:p.oct.contains 0=false
 m:aY (p.oct++[10]++[109,111,114,101])=none
 l:p.oct.length<=50
theorem Ag(h:p∈l5):UO p:=by
 have h1:=aJ (FU p h)
 have h2:=aJ h1.2
 have h3:=aJ h2.2
 exact⟨MI h1.1,λz=>(by have:=cw h2.1;rw[WI.mpr z]at this;cases this),cw h3.1,YY.mp h3.2,(pS h).l⟩
theorem FV:∀b∈l6,((aY b).isNone&&!b.contains 10)=true:=dD
theorem D5(h:b∈l6):aY b=none∧(10:UInt8)∉b:=by
 have h:=aJ (FV b h)
 exact⟨YY.mp h.1,λz=>by have:=cw h.2;rw[WI.mpr z]at this;cases this⟩
noncomputable def e5(size:Nat)(H:Gf):Option dT:=(bV size dF H.l).bind λt=>(fL size t.2).bind λp=>vr t.1 H.m p
theorem ey(h:(a.k==key)=false):cH key (a::r)=none:=by show(bif a.k==key then _ else _)=_;rw[h];rfl
theorem nX:cH key (⟨key,v⟩::r)=some (v,r):=by show(bif key==key then _ else _)=_;rw[beq_self_eq_true];rfl
theorem jX:bV size key (⟨key,v⟩::r)=(bR size v).map λo=>(o,r):=by unfold bV;rw[nX];rfl
theorem eR:bC key (⟨key,v⟩::r)=(aY v).map λo=>(o,r):=by unfold bC;rw[nX];rfl
theorem tF(h:cH key l=none):bC key l=none:=by unfold bC;rw[h];rfl
theorem J8:fL size (⟨dU,v⟩::r)=(bR size v).bind λo=>(fL size r).map λx=>(o::x.1,x.2):=IU (beq_self_eq_true dU)
section
variable{size:Nat}{m o v:List UInt8}{a:Hd}{r:List Hd}{p q:eH}{par:List (List UInt8)}
theorem UP(h:(a.k==dF)=false):e5 size ⟨a::r,m⟩=none:=by
 unfold e5
 rw[show bV size dF (a::r)=none by unfold bV;rw[ey h];rfl];rfl
theorem VN(h:bR size v=none):e5 size ⟨⟨dF,v⟩::r,m⟩=none:=by
 unfold e5
 rw[jX,h];rfl
theorem UQ(h:o.length=size):e5 size ⟨⟨dF,bg o⟩::r,m⟩=(fL size r).bind λp=>vr o m p:=by
 unfold e5
 rw[jX,l9 h];rfl
theorem UR{f:List (List UInt8)×List Hd->Option dT}:∀(ps:List (List UInt8)) (d:List (List UInt8)),(∀x∈ps,x.length=size)->((fL size (ps.map (λx=>⟨dU,bg x⟩)++r)).bind λy=>f (d++y.1,y.2))=(fL size r).bind λy=>f (d++ps++y.1,y.2)
 | [],d,_=>by rw[WH];rfl
 |x::ps,d,h=>by
  have j:=UR (f:=f) ps (d++[x]) λy i=>h y (.tail _ i)
  show((fL size (⟨dU,bg x⟩::(ps.map (λx=>⟨dU,bg x⟩)++r))).bind _)=_
  rw[J8,l9 (h x (.head _))]
  rw[Wn,List.singleton_append]at j
  rw[←j]
  show(((fL size (ps.map (λx=>⟨dU,bg x⟩)++r)).map λy=>(x::y.1,y.2)).bind _)=_
  cases fL size (ps.map (λx=>⟨dU,bg x⟩)++r)with
  |none=>rfl
  |some y=>show f (d++x::y.1,y.2)=f (d++[x]++y.1,y.2);rw[Wn];rfl
theorem D6(h:(a.k==dU)=false):fL size (a::r)=some ([],a::r):=by show(bif a.k==dU then _ else _)=_;rw[h];rfl
theorem Vk(h:aY v=some p):vr o m (par,⟨zQ,v⟩::r)=(bC uK r).bind λc=>Ks o par m p c.1 c.2:=by
 unfold vr
 rw[eR,h];rfl
theorem J9(h:(a.k==zQ)=false):vr o m (par,a::r)=none:=by
 unfold vr
 rw[tF (ey h)];rfl
theorem VO(h:aY v=none):vr o m (par,⟨zQ,v⟩::r)=none:=by
 unfold vr
 rw[eR,h];rfl
theorem QV(h:(r.any λy=>iN y.k)=true):Ks o par m p q r=none:=by unfold Ks;rw[h];rfl
theorem Vl(h:aY v=some q):(bC uK (⟨uK,v⟩::r)).bind f=f (q,r):=by rw[eR,h];rfl
end
theorem MJ(size:Nat)(b:List UInt8):gs size cE b=((cV b).bind (e5 size)).map dT.v:=rfl
theorem vF(l:b.length<=5000)(h:(cV b).bind (e5 size)=none):CB size cE b:=⟨l,by rw[MJ,h];rfl⟩
theorem iD(h0:hs≠[])(h:∀x∈hs,qg x)(n:hs.length<=20)(d:m.length<=100)(e:e5 size ⟨hs,m⟩=none):CB size cE (aP [10] (hs.map dX)++([10,10]++m)):=
 vF (by
  have l2:([10,10]++m).length<=102:=by rw[V6];exact Wu d 2
  rw[V6]
  exact V4 (Wx (jJ (pX h) (by rw[Wd];exact n)) l2) dD) (vE h0 h e)
noncomputable def hT(o:List UInt8):Hd:=⟨dF,bg o⟩
noncomputable def hP(o:List UInt8):Hd:=⟨dU,bg o⟩
noncomputable def hA(p:eH):Hd:=⟨zQ,p.oct⟩
noncomputable def hC(p:eH):Hd:=⟨uK,p.oct⟩
theorem pY(y:(k.all λc=>!(c==10)&&!(c==32))=true)(d:k≠[])(u:k.length<=20)(j:(10:UInt8)∉v)(i:v.length<=70):qg ⟨k,v⟩:=by
 have z:=WQ.mp y
 refine⟨⟨?_,λh=>?_,?_⟩,d,λh=>?_⟩
 ·show k++32::v≠[]
  cases k with
  |nil=>exact absurd rfl d
  |cons=>exact WB _ _
 ·rcases WD.mp (show(10:UInt8)∈k++32::v from h)with h|h
  ·exact absurd (cw (aJ (z 10 h)).1) dD
  ·exact(Wf.mp h).elim (λe=>absurd e dD) j
 ·show(k++32::v).length<=100
  rw[V6,WM]
  exact V4 (Wx u (Wm i)) dD
 ·exact absurd (cw (aJ (z 32 h)).2) dD
theorem aw{d:Type}{P:d->Prop}{a:d}{l:List d}(h:P a)(t:∀x∈l,P x):∀x∈a::l,P x:=List.forall_mem_cons.mpr ⟨h,t⟩
theorem bx{d:Type}{P:d->Prop}:∀x∈([]:List d),P x:=an
theorem FW(h0:rs≠[])(h:∀r∈rs,kH r)(st:cZ rs []=some hs)(e:f ⟨hs,m⟩=none):(cV (aP [10] rs++([10,10]++m))).bind f=none:=by
 rw[nV h0]
 obtain⟨k,q⟩:=eZ (t:=10::m) h
 rw[q,st]
 cases (bX rs++10::m).contains 0 with
 |true=>rfl
 |false=>exact e
theorem vG(h:(0:UInt8)∈b):cV b=none:=by rw[D3,WI.mpr h];rfl
theorem jK(h:∀r∈rs,kH r)(d:(10:UInt8)∉t):cV (bX rs++t)=none:=by
 obtain⟨k,q⟩:=eZ (t:=t) h
 rw[q]
 cases (bX rs++t).contains 0 with
 |true=>rfl
 |false=>cases cZ rs []with
  |none=>rfl
  |some y=>exact FT d
theorem vH:∀{rs:List (List UInt8)},aP [10] (rs++[t])=bX rs++t:=by
 intro d
 induction d with
 |nil=>
  exact rfl
 |cons a j y=>
  cases j with
  |nil=>
   rw[ew,Wn];show a++[10]++t=_;rw[Wn];rfl
  |cons b r=>
   show a++[10]++aP [10] (b::(r++[t]))=_
   rw(config:={}) [ew,show b::(r++[t])=(b::r)++[t]from rfl,y,Wn,Wn];rfl
theorem Vm:(zQ==dF)=false:=dD
theorem VQ:(uK==dF)=false:=dD
theorem US:(zQ==dU)=false:=dD
theorem Vn:(uK==dU)=false:=dD
theorem VS:(dF==dU)=false:=dD
theorem Vo:(uK==zQ)=false:=dD
theorem VT:(dF==zQ)=false:=dD
theorem VU:(zQ==uK)=false:=dD
theorem VV:(dU==uK)=false:=dD
theorem iT:iN dF=true:=dD
theorem iA:iN zQ=true:=dD
theorem iC:iN uK=true:=dD
noncomputable def Ah(a b c:Hd):List (List Hd):=[[b,c],[a,c],[a,b],[a,a,b,c],[a,b,b,c],[a,b,c,c],[b,a,c],[a,c,b],[c,b,a]]
theorem D7(h:l∈gF (dX a) (dX b) (dX c)):∃d∈Ah a b c,l=d.map dX:=(WC.mp (show l∈(Ah a b c).map (List.map dX)from h)).imp λ_ z=>⟨z.1,z.2.symm⟩
section
variable{size:Nat}{m o v:List UInt8}{a:Hd}{r:List Hd}{p q:eH}{par:List (List UInt8)}
theorem Ka(h:o.length=size)(ha:(a.k==dU)=false):e5 size ⟨hT o::a::r,m⟩=vr o m ([],a::r):=(UQ h).trans (by rw[D6 ha];rfl)
theorem MK(h:o.length=size)(hp:aY p.oct=some p):e5 size ⟨hT o::hA p::r,m⟩=(bC uK r).bind λc=>Ks o [] m p c.1 c.2:=(Ka (a:=hA p) h US).trans (Vk hp)
theorem UT(h:o.length=size)(hp:aY p.oct=some p)(d:cH uK r=none):e5 size ⟨hT o::hA p::r,m⟩=none:=(MK h hp).trans (by rw[tF d];rfl)
theorem Vp(h:o.length=size)(hp:aY p.oct=some p)(d:aY q.oct=some q)(j:(r.any λy=>iN y.k)=true):e5 size ⟨hT o::hA p::hC q::r,m⟩=none:=(MK h hp).trans ((Vl d).trans (QV j))
theorem N8(h:iN a.k=true):((a::r).any λy=>iN y.k)=true:=by rw[YT,h];rfl
theorem ML(t:o.length=size)(hp:aY p.oct=some p)(d:aY q.oct=some q):∀l∈Ah (hT o) (hA p) (hC q),e5 size ⟨l,m⟩=none:=by
 unfold Ah
 exact aw (UP (a:=hA p) Vm) (aw ((Ka (a:=hC q) t Vn).trans (J9 (a:=hC q) Vo)) (aw (UT t hp rfl) (aw ((Ka (a:=hT o) t VS).trans (J9 (a:=hT o) VT)) (aw (UT t hp (ey (a:=hA p) VU)) (aw (Vp t hp d (N8 (a:=hC q) iC)) (aw (UP (a:=hA p) Vm) (aw ((Ka (a:=hC q) t Vn).trans (J9 (a:=hC q) Vo)) (aw (UP (a:=hC q) VQ) bx))))))))
end
theorem D8{P:Hd->Prop}{a b c:Hd}(ha:P a)(hb:P b)(hc:P c):∀l∈Ah a b c,(l≠[]∧l.length<=20)∧∀x∈l,P x:=by
 unfold Ah
 have n:∀{a:Hd} {l:List Hd},Zp (l.length+1) 20=true->a::l≠[]∧(a::l).length<=20:=λh=>⟨WB _ _,V5 h⟩
 exact aw ⟨n rfl,aw hb (aw hc bx)⟩ (aw ⟨n rfl,aw ha (aw hc bx)⟩ (aw ⟨n rfl,aw ha (aw hb bx)⟩ (aw ⟨n rfl,aw ha (aw ha (aw hb (aw hc bx)))⟩ (aw ⟨n rfl,aw ha (aw hb (aw hb (aw hc bx)))⟩ (aw ⟨n rfl,aw ha (aw hb (aw hc (aw hc bx)))⟩ (aw ⟨n rfl,aw hb (aw ha (aw hc bx))⟩ (aw ⟨n rfl,aw ha (aw hc (aw hb bx))⟩ (aw ⟨n rfl,aw hc (aw hb (aw ha bx))⟩ bx))))))))
theorem D9:∀m∈JC,m.length<=20∧m.contains 0=false:=dD
theorem FY{size:Nat}:∀m∈JC,(cV m).bind (e5 size)=none:=by
 unfold JC
 exact aw (by kernel_rfl) (aw (by kernel_rfl) (aw (by kernel_rfl) (aw (by kernel_rfl) (aw (by kernel_rfl) bx))))
theorem jL(h:eY size x)(hs:size<=4):(bg x).length<=70:=V4 (iy h hs).2 dD
theorem MM{size:Nat}{c:dT}(h0:0<size)(hs:size<=4)(d:pU size c):Cc size c:=by
 have pa:=Ag d.pa
 have pc:=Ag d.pc
 have t:=d.t.l
 have S:=D9 _ d.m
 have w:c.msg.length<=100:=V4 S.1 dD
 have y:qg (hT c.tree):=pY rfl (WB _ _) (V5 rfl) gi (jL d.t hs)
 have j:qg (hA c.au):=pY rfl (WB _ _) (V5 rfl) pa.n (V4 pa.l dD)
 have u:qg (hC c.co):=pY rfl (WB _ _) (V5 rfl) pc.n (V4 pc.l dD)
 have J:∀r∈[c.T,c.A,c.C],kH r:=aw y.r (aw j.r (aw u.r bx))
 have B:=jJ J (V5 rfl)
 have L:∀r∈[c.T,c.A,c.C]++[[32,109,111,114,101]],kH r:=aw y.r (aw j.r (aw u.r (aw ⟨WB _ _,dD,dD⟩ bx)))
 have lo:∀b,(∃i,i<(bg c.tree).length∧b∈dz (bg c.tree) i)->(bR size b=none∧(10:UInt8)∉b)∧b.length<=70:=λb z=>z.elim λi z=>⟨⟨tE d.t h0 z.1 z.2,J7 z.2⟩,V4 (jV z.2) (V4 (Wm (WX 2 (iy d.t hs).2)) dD)⟩
 have R:∀b∈l6,∀k:List UInt8,(k.all λc=>!(c==10)&&!(c==32))=true->k≠[]->k.length<=20->qg ⟨k,b⟩:=λb hb k h1 Z X=>pY h1 Z X (D5 hb).2 (V4 (jH b hb) dD)
 refine⟨λl Y=>?_,?_,?_,λb hb=>?_,λb hb=>?_,λb hb=>?_,λb hb=>?_,?_,?_,?_,?_,⟨Wy _,by kernel_rfl⟩,?_⟩
 ·obtain⟨D,g,rfl⟩:=D7 (a:=hT c.tree) (b:=hA c.au) (c:=hC c.co) Y
  have z:=D8 y j u D g
  exact iD z.1.1 z.2 z.1.2 w (ML t pa.r pc.r D g)
 ·refine vF (V4 B dD) ?_
  rw[show[c.T,c.A,c.C]=[c.T,c.A]++[c.C]from rfl,vH,jK (rs:=[c.T,c.A]) (t:=c.C) (aw y.r (aw j.r bx)) u.r.n];rfl
 ·refine vF (by rw[V6];exact V4 (Wv B 1) dD) ?_
  rw[l7 (WB _ _),←WH (bX _),jK J abp];rfl
 ·have z:=lo b hb
  exact iD (hs:=[⟨dF,b⟩,hA c.au,hC c.co]) (WB _ _) (aw (pY rfl (WB _ _) (V5 rfl) z.1.2 z.2) (aw j (aw u bx))) (V5 rfl) w (VN z.1.1)
 ·have z:=lo b hb
  have e:[c.T]++c.mid++[cP++b]++[c.A,c.C]=(hT c.tree::(c.par.map hP++[⟨dU,b⟩,hA c.au,hC c.co])).map dX:=by
   rw[WO,WE,Xy,Wn,Wn];rfl
  rw[e]
  refine iD (WB _ _) (aw y λx hx=>?_) ?_ w ?_
  ·rcases WD.mp hx with hx|hx
   ·obtain⟨o,E,rfl⟩:=WC.mp hx
    exact pY rfl (WB _ _) (V5 rfl) gi (jL (d.p o E) hs)
   ·exact aw (pY rfl (WB _ _) (V5 rfl) z.1.2 z.2) (aw j (aw u bx)) x hx
  ·rw[WM,V6,Wd];exact Wm (V4 (Wv d.pl 3) dD)
  ·refine(UQ t).trans ((UR (f:=vr c.tree c.msg) c.par [] λx hx=>(d.p x hx).l).trans ?_)
   rw[J8,z.1.1];rfl
 ·exact iD (hs:=[hT c.tree,⟨zQ,b⟩,hC c.co]) (WB _ _) (aw y (aw (R b hb zQ rfl (WB _ _) (V5 rfl)) (aw u bx))) (V5 rfl) w ((Ka (a:=⟨zQ,b⟩) t US).trans (VO (D5 hb).1))
 ·exact iD (hs:=[hT c.tree,hA c.au,⟨uK,b⟩]) (WB _ _) (aw y (aw j (aw (R b hb uK rfl (WB _ _) (V5 rfl)) bx))) (V5 rfl) w ((MK t pa.r).trans (by rw[eR,(D5 hb).1];rfl))
 ·exact iD (hs:=[hT c.tree,hA c.au,hP c.tree,hC c.co]) (WB _ _) (aw y (aw j (aw (pY rfl (WB _ _) (V5 rfl) gi (jL d.t hs)) (aw u bx)))) (V5 rfl) w (UT t pa.r (ey (a:=hP c.tree) VV))
 ·have key:∀x,qg x->iN x.k=true->CB size cE (aP [10] ([c.T,c.A,c.C]++[dX x])++c.end_):=λx hx U=>iD (hs:=[hT c.tree,hA c.au,hC c.co,x]) (WB _ _) (aw y (aw j (aw u (aw hx bx)))) (V5 rfl) w (Vp t pa.r pc.r (N8 U))
  exact aw (P:=λb=>CB size cE (aP [10] ([c.T,c.A,c.C]++[b])++c.end_)) (key (hT c.tree) y iT) (aw (key (hA c.au) j iA) (aw (key (hC c.co) u iC) bx))
 ·refine vF ?_ (FW (hs:=[hT c.tree,hA c.au,⟨uK,c.co.oct++[10]++[109,111,114,101]⟩]) (WB _ _) ?_ ?_ ((MK t pa.r).trans (by rw[eR,pc.m];rfl)))
  ·rw[V6]
   have l2:c.end_.length<=102:=by unfold dT.end_;rw[V6];exact Wu w 2
   exact V4 (Wx (jJ L (V5 rfl)) l2) dD
  ·exact L
  ·rw[l8,show[c.T,c.A,c.C]=[hT c.tree,hA c.au,hC c.co].map dX from rfl,gv (aw y (aw j (aw u bx)))];rfl
 ·refine vF (by rw[V6];exact V4 (Wv B 5) dD) ?_
  rw[vG (WK _ (.tail _ (.tail _ (.tail _ (.head _)))))];rfl
 ·exact vF (V4 w dD) (FY _ d.m)
theorem F0:∀{rs:List (List UInt8)},(∀r∈rs,r.length<=100)->(bX rs).length<=101*rs.length:=by
 intro d
 induction d with
 |nil=>
  intro _
  exact Wh _
 |cons r rs q=>
  intro h
  rw[ew,V6,WM,WM,abP,W4,XQ,WJ]
  exact Wx (q λa ha=>h a (.tail _ ha)) (Wm (h r (.head _)))
theorem Ea:∀{rs:List (List UInt8)},(∀r∈rs,(0:UInt8)∉r)->(0:UInt8)∉bX rs:=by
 intro d
 induction d with
 |nil=>
  intro _
  exact abp
 |cons r rs q=>
  intro h
  exact λz=>by
   rw[ew]at z
   rcases WD.mp z with z|z
   ·exact h r (.head _) z
   ·exact(Wf.mp z).elim (λe=>absurd e dD) (q λa ha=>h a (.tail _ ha))
structure XR(ex:List Hd)(eP:List (List UInt8)):Prop where
 l:bX (ex.map jG)=bX eP
 r:∀r∈eP,kH r
 z:∀r∈eP,(0:UInt8)∉r
 s:∀acc,cZ eP acc=some (acc++ex)
noncomputable def XA:List UInt8:=[110,111,116,101,45,120]
noncomputable def XB:List (List UInt8):=[XA++32::[111,110,101],32::[116,119,111],32::[],32::[102,111,117,114]]
theorem rH(h:(!r.isEmpty&&(!r.contains 10&&(!r.contains 0&&Zp r.length 100)))=true):kH r∧(0:UInt8)∉r:=by
 have h1:=aJ h
 have q:=aJ h1.2
 have d:=aJ q.2
 refine⟨⟨λe=>?_,λz=>?_,aat.mp d.2⟩,λz=>?_⟩
 ·have:=cw h1.1;rw[e]at this;cases this
 ·have:=cw q.1;rw[WI.mpr z]at this;cases this
 ·have:=cw d.1;rw[WI.mpr z]at this;cases this
theorem Eb:∀r∈jG Gg::XB,(!r.isEmpty&&(!r.contains 10&&(!r.contains 0&&Zp r.length 100)))=true:=dD
theorem Cn:c4 (32::t) (d++[a])=some (d++[⟨a.k,a.v++[10]++t⟩]):=by
 rw[←J5];rfl
theorem Ec(d:List Hd):cZ XB d=some (d++[QA]):=by
 unfold XB
 rw[jI,show c4 (XA++32::[111,110,101]) d=some (d++[⟨XA,[111,110,101]⟩])from pW (x:=⟨XA,[111,110,101]⟩) ⟨(rH (Eb _ (.tail _ (.head _)))).1,WB _ _,dD⟩]
 show(c4 (32::[116,119,111]) (d++[⟨XA,[111,110,101]⟩])).bind _=_
 rw[Cn]
 show(c4 (32::[]) (d++[_])).bind _=_
 rw[Cn]
 show(c4 (32::[102,111,117,114]) (d++[_])).bind _=_
 rw[Cn];rfl
theorem Ed(d:List Hd):c4 (jG Gg) d=some (d++[Gg]):=pW (x:=Gg) ⟨(rH (Eb _ (.head _))).1,WB _ _,dD⟩
theorem MN:∀ex∈Mm,∃eP,XR ex eP:=by
 have r1:=rH (Eb _ (.head _))
 have q:∀r∈XB,kH r∧(0:UInt8)∉r:=λr h=>rH (Eb r (.tail _ h))
 have y:bX (([QA]:List Hd).map jG)=bX XB:=by kernel_rfl
 unfold Mm
 refine aw ⟨[],rfl,an,an,λd=>congrArg some (WH d).symm⟩ (aw ⟨XB,y,λr h=>(q r h).1,λr h=>(q r h).2,Ec⟩ (aw ⟨[jG Gg],rfl,aw r1.1 bx,aw r1.2 bx,λd=>?_⟩ (aw ⟨jG Gg::XB,?_,aw r1.1 λr h=>(q r h).1,aw r1.2 λr h=>(q r h).2,λd=>?_⟩ bx)))
 ·rw[jI,Ed];rfl
 ·rw(config:={}) [ew]
  show bX (jG Gg::([QA]:List Hd).map jG)=_
  rw[ew,y]
 ·rw[jI,Ed]
  show cZ XB (d++[Gg])=_
  rw(config:={}) [Ec,Wn];rfl
theorem MO:∀ex∈Mm,(ex.any λy=>iN y.k)=false:=by
 unfold Mm
 exact aw rfl (aw (by kernel_rfl) (aw (by kernel_rfl) (aw (by kernel_rfl) bx)))
theorem Kb:(0:UInt8)∉bg o:=λh=>absurd (nW _ h) dD
theorem vI{a b:List UInt8}(h1:(a.contains 0)=false)(d:(0:UInt8)∉b):(0:UInt8)∉a++b:=λz=>(WD.mp z).elim (λz=>by rw[WI.mpr z]at h1;cases h1) d
theorem QW{size:Nat}{c:dT}(hs:size<=4)(y:pU size c):z6 size c:=by
 have pa:=Ag y.pa
 have pc:=Ag y.pc
 have w:=D9 _ y.m
 have ex:=JD _ y.x
 have rs:c.fix.take 1++c.mid++c.fix.drop 1++c.tl=c.T::(c.mid++(c.A::c.C::c.tl)):=by
  rw[Wn,Wn];rfl
 have g:c.txt=bX (c.T::(c.mid++(c.A::c.C::c.tl)))++10::c.msg:=by
  unfold dT.txt
  rw[rs,Wn,nV (WB _ _)]
 have X:c.parts=(c.T::(c.mid++(c.A::c.C::c.tl))).map (·++[10])++[[10]++c.msg]:=by
  rw[WO,WE,WO,WO,Xy,Xy,Yh,Wn (List.map ((λx=>x++[10])∘λo=>cP++bg o) c.par)];rfl
 have Z:c.oct=c.txt:=by
  rw[g]
  unfold dT.oct
  rw[X,ZN,abC];rfl
 have L:∀{o a:List UInt8},eY size o->a.length<=20->(a++bg o).length<=100:=λj ha=>by rw[V6];exact V4 (Wx ha (jL j hs)) dD
 have U:c.txt.length<=1000:=by
  rw[g,V6]
  have:=F0 (rs:=c.T::(c.mid++(c.A::c.C::c.tl))) (aw (L y.t (V5 rfl)) λr d=>?_)
  ·have n:(c.T::(c.mid++(c.A::c.C::c.tl))).length<=7:=by
    rw[WM,V6,WM,WM]
    rw[Wd,Wd]
    exact Wm (Wx y.pl (Wm (Wm ex.1)))
   exact V4 (Wx (V4 this (WX 101 n)) (Wm w.1)) dD
  ·rcases WD.mp d with d|d
   ·obtain⟨o,j,rfl⟩:=WC.mp d
    exact L (y.p o j) (V5 rfl)
   ·refine aw (P:=λr:List UInt8=>r.length<=100) ?_ (aw ?_ λr d=>?_) r d
    ·rw[V6];exact V4 (Wu pa.l 7) dD
    ·rw[V6];exact V4 (Wu pc.l 10) dD
    ·obtain⟨x,hx,rfl⟩:=WC.mp d
     exact of_decide_eq_true (aJ (aJ (WQ.mp ex.2 x hx)).1).2
 refine⟨y.t,y.p,y.pl,y.pa,y.pc,⟨ex.1,λa ha=>?_⟩,V4 w.1 dD,?_,Z,U⟩
 ·have z:=aJ (aJ (aJ (WQ.mp ex.2 a ha)).1).1
  exact⟨of_decide_eq_true z.1,of_decide_eq_true z.2⟩
 ·obtain⟨eP,i⟩:=MN _ y.x
  have E:qg (hT c.tree):=pY rfl (WB _ _) (V5 rfl) gi (jL y.t hs)
  have R:qg (hA c.au):=pY rfl (WB _ _) (V5 rfl) pa.n (V4 pa.l dD)
  have S:qg (hC c.co):=pY rfl (WB _ _) (V5 rfl) pc.n (V4 pc.l dD)
  have D:∀x∈hT c.tree::(c.par.map hP++[hA c.au,hC c.co]),qg x:=aw E λx hx=>by
   rcases WD.mp hx with hx|hx
   ·obtain⟨o,j,rfl⟩:=WC.mp hx
    exact pY rfl (WB _ _) (V5 rfl) gi (jL (y.p o j) hs)
   ·exact aw (P:=qg) R (aw S bx) x hx
  have B:(hT c.tree::(c.par.map hP++[hA c.au,hC c.co])).map dX=c.T::(c.mid++[c.A,c.C]):=by
   unfold dT.mid
   rw[WO,WE,Xy];rfl
  have e:c.txt=bX ((hT c.tree::(c.par.map hP++[hA c.au,hC c.co])).map dX++eP)++10::c.msg:=by
   rw[g,B,vD,←i.l,show c.T::(c.mid++(c.A::c.C::c.tl))=c.T::(c.mid++[c.A,c.C])++c.tl by rw[Yh,Wn];rfl,vD];rfl
  have G:∀r∈(hT c.tree::(c.par.map hP++[hA c.au,hC c.co])).map dX++eP,kH r:=λr d=>(WD.mp d).elim (pX D r) (i.r r)
  have Y:c.txt.contains 0=false:=YH.mpr λz=>by
   have z:=WI.mp z
   rw[e]at z
   rcases WD.mp z with z|z
   ·refine Ea (λr d=>?_) z
    rcases WD.mp d with d|d
    ·rw[B]at d
     refine aw (P:=λr=>(0:UInt8)∉r) (vI rfl Kb) (λr d=>?_) r d
     rcases WD.mp d with d|d
     ·obtain⟨o,_,rfl⟩:=WC.mp d
      exact vI rfl Kb
     ·have J:∀{b:List UInt8},b.contains 0=false->(0:UInt8)∉b:=λh z=>by rw[WI.mpr z]at h;cases h
      exact aw (P:=λr=>(0:UInt8)∉r) (vI rfl (J pa.z)) (aw (vI rfl (J pc.z)) bx) r d
    ·exact i.z r d
   ·rcases Wf.mp z with z|z
    ·exact absurd z dD
    ·have:=w.2;rw[WI.mpr z]at this;cases this
  show(cV c.txt).bind (e5 size)=some c
  obtain⟨k,q⟩:=eZ (t:=10::c.msg) G
  rw[←e,Y,l8,gv D]at q
  have q:cV c.txt=(cZ eP ([]++(hT c.tree::(c.par.map hP++[hA c.au,hC c.co])))).bind λu=>b5 (k+1) (10::c.msg) u:=q
  rw[i.s]at q
  rw[q]
  show e5 size ⟨hT c.tree::(c.par.map hP++[hA c.au,hC c.co])++c.ex,c.msg⟩=some c
  rw[Yh,Wn]
  refine(UQ y.t.l).trans ((UR (f:=vr c.tree c.msg) c.par [] λx hx=>(y.p x hx).l).trans ?_)
  show(fL size (hA c.au::hC c.co::c.ex)).bind _=_
  rw[D6 (a:=hA c.au) US]
  show vr c.tree c.msg ([]++c.par++[],hA c.au::hC c.co::c.ex)=_
  refine(Vk pa.r).trans ((Vl pc.r).trans ?_)
  unfold Ks
  rw[MO _ y.x,WH];rfl
noncomputable def fB(size:Nat)(H:Gf):Option Tg:=(bV size pL H.l).bind λt=>(cH g9 t.2).bind λk=>(cH ef k.2).bind λm=>DD t.1 k.1 m.1 H.m m.2
theorem Co(l:b.length<=5000)(h:(cV b).bind (fB size)=none):CB size ef b:=⟨l,by
 rw[show gs size ef b=((cV b).bind (fB size)).map Tg.v from rfl,h];rfl⟩
theorem nY(h0:hs≠[])(h:∀x∈hs,qg x)(n:hs.length<=20)(e:fB size ⟨hs,[109]⟩=none):CB size ef (aP [10] (hs.map dX)++eM):=
 Co (by rw[V6];exact V4 (Wv (jJ (pX h) (by rw[Wd];exact n)) 3) dD) (vE (m:=[109]) h0 h e)
noncomputable def gO(o:List UInt8):Hd:=⟨pL,bg o⟩
noncomputable def gK(k:List UInt8):Hd:=⟨g9,k⟩
noncomputable def gN(m:List UInt8):Hd:=⟨ef,m⟩
noncomputable def gB(p:eH):Hd:=⟨xQ,p.oct⟩
theorem Vq:(g9==pL)=false:=dD
theorem VW:(ef==pL)=false:=dD
theorem Vr:(ef==g9)=false:=dD
theorem VX:(pL==g9)=false:=dD
theorem VY:(g9==ef)=false:=dD
theorem VZ:(ef==xQ)=false:=dD
section
variable{size:Nat}{m o v k w:List UInt8}{a:Hd}{r:List Hd}{p:eH}
theorem UU(h:(a.k==pL)=false):fB size ⟨a::r,m⟩=none:=by
 unfold fB
 rw[show bV size pL (a::r)=none by unfold bV;rw[ey h];rfl];rfl
theorem Vs(h:o.length=size):fB size ⟨gO o::r,m⟩=(cH g9 r).bind λk=>(cH ef k.2).bind λw=>DD o k.1 w.1 m w.2:=by
 unfold fB gO
 rw[jX,l9 h];rfl
theorem UW(h:bR size v=none):fB size ⟨⟨pL,v⟩::r,m⟩=none:=by
 unfold fB
 rw[jX,h];rfl
theorem Kc(h:o.length=size)(e:cH g9 r=none):fB size ⟨gO o::r,m⟩=none:=by rw[Vs h,e];rfl
theorem Vt(h:o.length=size):fB size ⟨gO o::gK k::r,m⟩=(cH ef r).bind λw=>DD o k w.1 m w.2:=by
 rw[Vs h];unfold gK;rw[nX];rfl
theorem N9(h:o.length=size)(e:cH ef r=none):fB size ⟨gO o::gK k::r,m⟩=none:=by rw[Vt h,e];rfl
theorem TZ(h:o.length=size):fB size ⟨gO o::gK k::gN w::r,m⟩=DD o k w m r:=by
 rw[Vt h];unfold gN;rw[nX];rfl
theorem Tf(h:eh k=false):DD o k w m r=none:=by unfold DD;rw[h];rfl
theorem Cp(h:eh k=true)(d:nE w=false):DD o k w m r=(gD r).bind λp=>NT o k w m p.1 p.2:=by unfold DD;rw[h,d];rfl
theorem Th(h:(a.k==xQ)=false):gD (a::r)=some (none,a::r):=by
 unfold gD
 rw[show gC (a::r) xQ=false from h];rfl
theorem Oa:gD (⟨xQ,v⟩::r)=((aY v).map λo=>(o,r)).map λp=>(some p.1,p.2):=by
 unfold gD
 rw[show gC (⟨xQ,v⟩::r) xQ=true from beq_self_eq_true xQ,eR];rfl
end
theorem Ob:∀k∈ya,(eh k&&(!k.contains 10&&(!k.contains 0&&Zp k.length 70)))=true:=dD
theorem Oc:∀k∈yb,(!nE k&&(!k.contains 10&&(!k.contains 0&&Zp k.length 70)))=true:=dD
theorem Ti:∀k∈JK,(!eh k&&(!k.contains 10&&(!k.contains 0&&Zp k.length 70)))=true:=dD
theorem Tj:∀m∈JJ,(m.take (nB m)==m&&((m.drop (nB m)).isEmpty&&(!m.contains 0&&Zp m.length 70)))=true:=dD
structure Txt(q:Bool)(k:List UInt8):Prop where
 q:q=true
 n:(10:UInt8)∉k
 z:(0:UInt8)∉k
 l:k.length<=70
theorem tH(h:(q&&(!k.contains 10&&(!k.contains 0&&Zp k.length 70)))=true):Txt q k:=by
 have h1:=aJ h
 have y:=aJ h1.2
 have d:=aJ y.2
 exact⟨h1.1,λz=>(by have:=cw y.1;rw[WI.mpr z]at this;cases this),λz=>(by have:=cw d.1;rw[WI.mpr z]at this;cases this),aat.mp d.2⟩
theorem Kt(q:((k.all λc=>!(c==10)&&!(c==32))&&(!k.isEmpty&&Zp k.length 20))=true)(j:(10:UInt8)∉v)(y:v.length<=70):qg ⟨k,v⟩:=by
 have h1:=aJ q
 have d:=aJ h1.2
 exact pY h1.1 (λe=>by have:=cw d.1;rw[e]at this;cases this) (aat.mp d.2) j y
theorem MP(t:o.length=size)(q:eh k=true)(d:nE w=false):∀l∈Ah (gO o) (gK k) (gN w),fB size ⟨l,[109]⟩=none:=by
 unfold Ah
 exact aw (UU (a:=gK k) Vq) (aw (Kc t (ey (a:=gN w) Vr)) (aw (N9 t rfl) (aw (Kc t (ey (a:=gO o) VX)) (aw (N9 t (ey (a:=gK k) VY)) (aw ((TZ t).trans (by rw[Cp q d,Th (a:=gN w) VZ];rfl)) (aw (UU (a:=gK k) Vq) (aw (Kc t (ey (a:=gN w) Vr)) (aw (UU (a:=gN w) VW) bx))))))))
theorem F1(h0:0<size)(hs:size<=4)(lt:vz size t):JM size t:=by
 have g:=lt.g.l
 have x:=tH (Ob _ lt.k)
 have f:=tH (Oc _ lt.n)
 have j:qg (gO t.goal):=Kt dD gi (jL lt.g hs)
 have u:qg (gK t.kind):=Kt dD x.n x.l
 have d:qg (gN t.name):=Kt dD f.n f.l
 have L:∀r∈[t.O,t.K,t.N],kH r:=aw j.r (aw u.r (aw d.r bx))
 have D:=jJ L (V5 rfl)
 refine⟨λl S=>?_,?_,?_,λb hb=>?_,λb hb=>?_,λb hb=>?_⟩
 ·obtain⟨B,y,rfl⟩:=D7 (a:=gO t.goal) (b:=gK t.kind) (c:=gN t.name) S
  have z:=D8 j u d B y
  exact nY z.1.1 z.2 z.1.2 (MP g x.q (cw f.q) B y)
 ·refine Co (V4 D dD) ?_
  rw[show[t.O,t.K,t.N]=[t.O,t.K]++[t.N]from rfl,vH,jK (rs:=[t.O,t.K]) (t:=t.N) (aw j.r (aw u.r bx)) d.r.n];rfl
 ·refine Co (by rw[V6];exact V4 (Wv D 4) dD) ?_
  rw[vG (WK _ (.tail _ (.tail _ (.tail _ (.head _)))))];rfl
 ·obtain⟨i,R,hb⟩:=hb
  exact nY (hs:=[⟨pL,b⟩,gK t.kind,gN t.name]) (WB _ _) (aw (Kt dD (J7 hb) (V4 (jV hb) (V4 (Wm (WX 2 (iy lt.g hs).2)) dD))) (aw u (aw d bx))) (V5 rfl) (UW (tE lt.g h0 R hb))
 ·have e:=tH (Ti b hb)
  exact nY (hs:=[gO t.goal,gK b,gN t.name]) (WB _ _) (aw j (aw (Kt dD e.n e.l) (aw d bx))) (V5 rfl) ((TZ g).trans (Tf (cw e.q)))
 ·have J:=D5 hb
  exact nY (hs:=[gO t.goal,gK t.kind,gN t.name,⟨xQ,b⟩]) (WB _ _) (aw j (aw u (aw d (aw (Kt dD J.2 (V4 (jH b hb) dD)) bx)))) (V5 rfl) ((TZ g).trans (by rw[Cp x.q (cw f.q),Oa,J.1];rfl))
theorem Tn(hs:size<=4)(lt:vz size t):Mr size t:=by
 have f:=tH (Ob _ lt.k)
 have w:=tH (Oc _ lt.n)
 have i:=aJ (Tj _ lt.m)
 have y:=aJ i.2
 have j:=aJ y.2
 have I:(0:UInt8)∉t.msg:=λz=>by have:=cw j.1;rw[WI.mpr z]at this;cases this
 have D:t.msg.length<=70:=aat.mp j.2
 have L:qg (gO t.goal):=Kt dD gi (jL lt.g hs)
 have S:qg (gK t.kind):=Kt dD f.n f.l
 have rN:qg (gN t.name):=Kt dD w.n w.l
 obtain⟨d,e,Z,E,X,B⟩:∃d:List Hd,t.by8=d.map dX∧(∀x∈d,qg x)∧(∀x∈d,(0:UInt8)∉dX x)∧d.length<=1∧gD d=some (t.by_,[]):=by
  unfold Tg.by8
  generalize h:t.by_=J;cases J with
  |none=>exact⟨[],rfl,bx,bx,Wy _,rfl⟩
  |some p=>
   have u:=Ag (lt.b p h)
   refine⟨[gB p],rfl,aw (Kt dD u.n (V4 u.l dD)) bx,aw ?_ bx,Wh _,?_⟩
   ·exact vI (a:=xQ) dD λz=>by
     rcases Wf.mp z with z|z
     ·exact absurd z dD
     ·have:(gB p).v.contains 0=false:=u.z
      rw[WI.mpr z]at this;cases this
   ·show gD (⟨xQ,p.oct⟩::[])=_
    rw[Oa,u.r];rfl
 have o:∀x∈gO t.goal::gK t.kind::gN t.name::d,qg x:=aw L (aw S (aw rN Z))
 have c:t.txt=bX ((gO t.goal::gK t.kind::gN t.name::d).map dX)++10::t.msg:=by
  unfold Tg.txt
  rw[Wn,e,show[t.O,t.K,t.N]++d.map dX=(gO t.goal::gK t.kind::gN t.name::d).map dX from rfl]
  exact nV (WB _ _) _
 have G:t.parts=((gO t.goal::gK t.kind::gN t.name::d).map dX).map (·++[10])++[[10]++t.msg]:=by
  show t.parts=(([t.O,t.K,t.N]++d.map dX).map (·++[10]))++[[10]++t.msg]
  rw[←e]
  unfold Tg.parts Tg.by8 UG
  cases t.by_ <;> rfl
 have Q:t.oct=t.txt:=by
  rw[c]
  unfold Tg.oct
  rw[G,ZN,abC,lt.s,WH];rfl
 refine⟨?_,Q,?_⟩
 ·have H:t.txt.contains 0=false:=YH.mpr λz=>by
   have z:=WI.mp z
   rw[c]at z
   rcases WD.mp z with z|z
   ·refine Ea (λr hr=>?_) z
    obtain⟨x,hx,rfl⟩:=WC.mp hr
    have n2:∀{k v:List UInt8},k.contains 0=false->(0:UInt8)∉v->(0:UInt8)∉dX ⟨k,v⟩:=λh1 Y=>vI h1 λz=>(Wf.mp z).elim (λz=>absurd z dD) Y
    exact aw (P:=λx=>(0:UInt8)∉dX x) (n2 dD Kb) (aw (n2 dD f.z) (aw (n2 dD w.z) E)) x hx
   ·rcases Wf.mp z with z|z
    ·exact absurd z dD
    ·exact I z
  show(cV t.txt).bind (fB size)=some t
  obtain⟨k,q⟩:=eZ (t:=10::t.msg) (pX o)
  rw[←c,H,gv o]at q
  rw[q]
  show fB size ⟨gO t.goal::gK t.kind::gN t.name::d,t.msg⟩=some t
  rw[TZ lt.g.l,Cp f.q (cw w.q),B]
  show NT t.goal t.kind t.name t.msg t.by_ []=some t
  have R:t.msg.take (nB t.msg)=t.msg:=eq_of_beq i.1
  have U:t.msg.drop (nB t.msg)=t.sig:=by rw[lt.s];exact Xa.mp y.1
  show some (Tg.mk t.goal t.kind t.name t.by_ (t.msg.take (nB t.msg)) (t.msg.drop (nB t.msg)))=some t
  rw[R,U]
 ·rw[c,V6]
  have n:((gO t.goal::gK t.kind::gN t.name::d).map dX).length<=4:=by rw[Wd];exact Wm (Wm (Wm X))
  exact V4 (Wx (V4 (Ad (pX o)) (WX 101 n)) (Wm D)) dD
theorem Kd:∀s∈[2,2,4],tA s:=λs hs=>by
 have q:=Td s hs
 have d:2<=s∧s<=4:=(by decide:∀s∈[2,2,4],2<=s∧s<=4) s hs
 have h0:0<s:=WA dD d.1
 refine⟨MH d.1 d.2,λc y=>⟨QW d.2 y,MM h0 d.2 y⟩,λt lt=>⟨Tn d.2 lt,F1 h0 d.2 lt⟩,?_,Ac d.1 q.1 q.2.1 q.2.2⟩
 revert s
 exact λs hs _ _ _=>aw (P:=λs=>eP bD s (O3 s)=some (E3 s)) ye.1 (aw ye.1 (aw ye.2 bx)) s hs
theorem Ke:Gu and (some x) (some y)=some (x&&y):=rfl
theorem QX:∀(a b:List (List UInt8)),a.length=b.length->M7 (jh 3) (a.map .bytes) (b.map .bytes)=some (decide (a=b)):=by
 intro q
 induction q with
 |nil=>
  intro i
  cases i with
  |nil=>
   intro _
   exact rfl
  |cons u c=>
   intros;contradiction
 |cons x a d=>
  intro j
  cases j with
  |nil=>
   intros;contradiction
  |cons y b=>
   intro h
   have d:=d b (Xr h)
   unfold M7 at d ⊢
   rw[WO,WO,aej,adj,d]
   show Gu and (some (x==y)) _=_
   rw[Ke]
   by_cases e:x=y
   ·subst e
    rw[beq_self_eq_true,Bool.true_and]
    exact congrArg some (decide_eq_decide.mpr ⟨λe=>by rw[e],λe=>(Zg e).2⟩)
   ·rw[beq_eq_false_iff_ne.mpr e,Bool.false_and]
    exact congrArg some (decide_eq_false λz=>e (Zg z).1).symm
theorem Ai(a b:List (List UInt8)):eqT (.lst (a.map .bytes)) (.lst (b.map .bytes))=some (decide (a=b)):=by
 show jZ (some false) (jh 3) (a.map .bytes) (b.map .bytes)=_
 unfold jZ
 by_cases h:a.length=b.length
 ·rw[if_pos (by rw[Wd,Wd,h]),QX a b h]
 ·rw[if_neg (by rw[Wd,Wd];exact h)]
  exact congrArg some (decide_eq_false λe=>h (by rw[e])).symm
theorem tI{a b:List (List UInt8)}(p:a.Perm b)(h1:a.Pairwise wk)(d:b.Pairwise wk):a=b:=List.Perm.eq_of_pairwise (λx y _ _=>Hl) h1 d p
theorem Ee:∀l:List a9,Gv ((l.map λe=>V.int e.m).map λv=>jh 4 v (.int x))=some (l.any λe=>(e.m:Int)==x)
 | []=>rfl
 |e::l=>by
  have d:=Ee (x:=x) l
  unfold Gv at d ⊢
  rw[WO,WO,adj,d,YT];rfl
section
variable{g:Gl}{K:Frag}{n:Nat}{h:AH}{A:PT}{X:St->Prop}{st:St}{bs:List (List UInt8)}
theorem Kf(h1:Ev A X st (.lst (bs.map .bytes)))(l:bs.length<64)(q:∀l:List (List UInt8),l.Perm bs->l.Pairwise wk->Q (.lst (l.map .bytes)) st):dn (b1 hU) (aa A ag) Q X st:=h1 _ (az (dO (λx=>x) bs) (by rw[YQ];exact V8 l q))
theorem F2(h1:Ev A X st (.lst (bs.map .bytes)))(l:bs.length<64)(q:∀l:List (List UInt8),l.Nodup->(∀x,x∈l↔x∈bs)->l.Pairwise wk->Q (.lst (l.map .bytes)) st):de A Q X st:=h1 _ (az (dO (λx=>x) bs) (by rw[YQ];exact V8 l q))
theorem MQ(h1:Ev A X st (.lst (bs.map .bytes)))(d:Ev B X st (.lst (bs.map .bytes)))(l:bs.length<64):Ev (aC .NotEq (de A) (dn (b1 hU) (aa B ag))) X st (.bool (!@decide bs.Nodup (W5 _))):=λQ k=>F2 h1 l λa n i s=>Kf d l λb p t=>az (Ai a b) (by
 have:decide (a=b)=@decide bs.Nodup (W5 _):=by
  rw[XT,decide_eq_true_iff,@decide_eq_true_iff _ (W5 _)]
  constructor
  ·intro e;subst e;exact p.nodup_iff.mp n
  ·intro nd
   exact tI (((List.perm_ext_iff_of_nodup n nd).mpr i).trans p.symm) s t
 rw[this];exact k)
theorem MR(h1:Ev A X st (.lst (bs.map .bytes)))(d:Ev B X st (.lst (bs.map .bytes)))(l:bs.length<64):Ev (aC .NotEq A (dn (b1 hU) (aa B ag))) X st (.bool (!@decide (bs.Pairwise wk) (W5 _))):=λQ k=>h1 _ (Kf d l λb p t=>az (Ai bs b) (by
 have:decide (bs=b)=@decide (bs.Pairwise wk) (W5 _):=by
  rw[XT,decide_eq_true_iff,@decide_eq_true_iff _ (W5 _)]
  exact⟨λe=>e▸t,λs=>tI p.symm s t⟩
 rw[this];exact k))
theorem QY:(x.contains 47||((([46]==x)||(([46,46]==x)||false))||(x.map ZS==[46,103,105,116])))=ri x:=by
 unfold ri
 rw[Zs]
theorem MS(n:(q.map a9.x).Nodup)(s:(q.map a9.key).Pairwise wk):(((q.map a9.x).filter ri).isEmpty&&!(q.any λe=>(e.m:Int)==33204))=uO q:=by
 unfold uO
 rw[XT,@decide_eq_true_iff _ (W5 _)]
 constructor
 ·intro h
  have h:=aJ h
  have f:=Zk.mp (Xa.mp h.1)
  refine⟨n,s,λe d=>YH.mpr (f _ (XY d)),λe d z=>?_⟩
  have:=cw h.2
  rw[ZK.mpr ⟨e,d,by rw[z];rfl⟩]at this
  cases this
 ·intro f
  refine X5.mpr ⟨Xa.mpr (Zk.mpr λx hx=>?_),?_⟩
  ·obtain⟨e,d,rfl⟩:=WC.mp hx
   rw[f.no e d];exact W0
  ·have z:(q.any λe=>(e.m:Int)==33204)=false:=Z9.mpr λe d z=>f.md e d (Yx (eq_of_beq z))
   rw[z];rfl
theorem To(kn:Kn g K):uP g:=λ{es} hl hx {Q X h} q=>by
 refine((aH (n:=8) (kn.H 8) kn.law_are_fit rfl ?_).call).up (Wh _)
 have d:es.length<=1000000:=V4 hl dD
 have j:(es.map a9.x).length<64:=by rw[Wd];exact Wp hl dD
 have y:(es.map a9.key).length<64:=by rw[Wd];exact Wp hl dD
 have i:∀{X v1 v2},Ev (a7 2 [] (hV (aj 1) j0 (ak g 8 (.ref 545) (aa (ae 1) ag))) (a6 (ae 0))) X ⟨[some (.lst (es.map a9.t)),v1,v2],h⟩ (.lst ((es.map a9.key).map .bytes)):=λ{X v1 v2}=>bq (eb (e:=a9.t) (f:=λe=>.bytes e.key) Iq d λe z=>aG Iq (vv kn dD (hx e z))) (by rw[Xy];rfl)
 refine aZ (v:=.lst ((es.map a9.x).map .bytes)) (bq (eb (e:=a9.t) (f:=λe=>.bytes e.x) Iq d λe _=>tv Iq 1 rfl) (by rw[Xy];rfl)) ?_
 refine bI (cg (MQ Iq Iq j) λ_=>fA (MR i i y)) (λ_ _ k=>k) (λe=>?_) λe=>?_
 ·have:uO es=false:=by
   unfold uO
   refine @decide_eq_false _ (W5 _) λf=>?_
   rw[@decide_eq_true _ (W5 _) f.nd,@decide_eq_true _ (W5 _) (show(es.map a9.key).Pairwise wk from f.so)]at e
   cases e
  rw[this]at q
  exact bc q
 ·have e:=X4.mp e
  have n:=@of_decide_eq_true _ (W5 _) (ni e.1)
  have s:=@of_decide_eq_true _ (W5 _) (ni e.2)
  rw[←MS n s]at q
  refine aZ (v:=.lst (((es.map a9.x).filter ri).map .bytes)) (Dn (e:=V.bytes) (f:=V.bytes) (l:=es.map a9.x) ri Iq (by rw[Wd];exact d) (λx hx=>bq (cg (bJ Iq Iq λ_ k=>k) λ_=>cg (bJ Iq (λ_ k=>V8 (V5 rfl) k) λ_ k=>k) λ_=>fA (bJ (kE Iq rfl Iq λ_ k=>k) Iq λ_ k=>k)) ?_) λx _ _ _ k=>k) ?_
  ·exact congrArg V.bool QY
  refine a5 (v:=.bool (((es.map a9.x).filter ri).isEmpty&&!(es.any λe=>(e.m:Int)==33204))) (eE (a:=((es.map a9.x).filter ri).isEmpty) (b:=!(es.any λe=>(e.m:Int)==33204)) (bq (I1 Iq) (congrArg V.bool (by rw[ac3]))) λ_=>?_) (bc q)
  refine bJ Iq (eb (e:=a9.t) (f:=λe=>.int e.m) Iq d λe _=>tv Iq 0 rfl) λ_ k=>?_
  exact az (Ee es) k
end
end Internal
namespace Tactic
section
open Sem (wp)
def F3(M:Model)(A:Xd)(t:Sem y)(Q:y->Wj->Prop)(s:Wj):Prop:=∀d p,d.In A->Internal.p0 d->wp M d t (λa _ q=>Q a q) (λ_ _ _=>False) p s
section
theorem tJ(h:F3 M A t Q s)(k:∀a d,Q a d->Q' a d):F3 M A t Q' s:=λq p h1 y=>Z4 _ q t (λa _ d=>k a d) (λ_ _ _ x=>x) p s (h q p h1 y)
theorem Kg(h:Q a s):F3 M A (pure a) Q s:=λ_ _ _ _=>h
theorem Aj(h:F3 M A m (λa j=>F3 M A (f a) Q j) s):F3 M A (m>>=f) Q s:=λq p h1 y=>by
 rw[aeE]
 exact Z4 _ q m (λa i j d=>d q i h1 y) (λ_ _ _ d=>d) p s (h q p h1 y)
theorem QZ(h:Wz M A t Q (λ_ _=>False) s):F3 M A t Q s:=λd p h1 _=>h d p h1
end
theorem yg{prog:abz}{w:abx}{t:Sem aaJ}{s:Wj}{R:abJ->Wj->Prop}(i:s.asleep)
 (h:F3 (YL prog w) ab8 t (λbc d=>∃f,bc=.done f∧(R (.ok f) d∧leftWithCleanup d.gens=false)) s) :
 ∃n r d j,runN (denote Z6) prog w n s ⟨t,.builtin "claim.caller" {},default,[]⟩=.halted (outcomeOf r) d∧
  schedN (denote Z6) prog w n (.single s ⟨t,.builtin "claim.caller" {},default,[]⟩)=.halted (outcomeOf r) d∧d.forget=j.forget∧R r j:=by
 have h1:=h ⟨.builtin "claim.caller" {},none,none,[],none⟩ default caller_in ⟨λ_ _=>rfl,λq m=>by cases m⟩
 obtain⟨n,r,y,z,hs,k,c,p⟩:=wp_halts_full (M:=YL prog w) (R:=R) i (Z4 _ _ t (λbc x d u=>by
  obtain⟨f,rfl,b⟩:=u
  exact b) (λ_ _ _ u=>u.elim) default s h1)
 exact⟨n,r,z,y,k,hs,c,p⟩
theorem F4{c:ClaimW}{tree:List V9->Sem aaJ}{w:abx}{s:Wj}{free:Addr->Prop}{gens:Prop}{z:Heap->Prop}(hz:s.asleep)(g:s.gens=#[])
 (a:∀args,c.pre args=true->acR args=true->
  ∀ord:List aaG->List aaG,(∀l,(ord l).Perm l)->
  ∃vs d,layAllW c.records (classAt s.heap) w.params ord args s=some (vs,d)∧
   F3 (YL c.prog w) ab8 (tree vs) (λbc u=>∃f,bc=.done f∧(c.Ends s args vs d (.ok f) u∧u.os=s.os∧AllBare u.gens∧z u.heap)) d) :
 c.CallFrom (λvs=>⟨tree vs,.builtin "claim.caller" {},default,[]⟩) w free gens z s:=by
 intro args S Y ord J
 refine Wo λno=>?_
 obtain⟨vs,d,p,B⟩:=a args S Y ord J
 have L:=layAllW_rest _ _ _ p
 obtain⟨k,r,u,s'',X,m,G,q,U,j⟩:=yg (prog:=c.prog) (w:=w) (t:=tree vs) (s:=d)
  (R:=λr u=>c.Ends s args vs d r u∧u.os=s.os∧z u.heap)
  (Shared.asleep_of_life L.2.2.2 hz)
  (tJ B (by
   rintro bc u ⟨f,e,h1,n,h,Q⟩
   exact⟨f,e,⟨h1,n,Q⟩,leftWithCleanup_false_of_bare h⟩))
 obtain⟨Z,_,_,eo,_⟩:=Shared.forget_eq G
 have q:=q.congr Z
 have j:z u.heap:=by first|exact Z▸j|(rw[Z]at j;exact j)|(rw[←Z]at j;exact j)
 rw[←eo]at U
 have D:u.heap.life=s.heap.life:=(runN_life _ _ _ X).trans L.2.2.2
 refine no ⟨vs,d,p,k,_,u,m,?_,(λ_ i x hx=>by rw[g]at hx;simp at hx),j,by rw[D],Shared.rest_eq U⟩
 rcases q with⟨v,rfl,d1,d2,I,H,E⟩|⟨e,ob,cls,rfl,d1,d2,I,H,E⟩
 ·exact .inl ⟨v,rfl,d1,d2,I,λb o y _=>H b o y,E⟩
 ·exact .inr ⟨e,ob,cls,rfl,d1,d2,I,H,λb o y _=>E b o y⟩
theorem F5{r:RowW}{run:V9->List V9->Sem V9}{tree:List V9->Sem aaJ}{q:abz}{loose defs kps:List Str}{writes:Bool}{Xt:Wj->Bool}{XP:(Str->Option V9)->Heap->Prop}{α:Type}{Yf:Wj->α}{Ya:abx->α}{YP:abx->Heap->Prop}{N:Nat}
 (left:LeftO r.prog q loose Xt Yf Ya N) (hY:∀w s,Yf s=Ya w->YP w s.heap) (hYk:∀w h h',YP w h->(∀b o,h.get? b=some o->h'.get? b=some o)->YP w h') (hX:∀s,Xt s=true->XP (s.heap.nsMap Xv) s.heap) (hXk:∀mg h h',XP mg h->(∀b o,h.get? b=some o->h'.get? b=some o)->XP mg h')
 (hRf:∀s,Xt s=true->RecFacts r.records s.heap) (hwr:(!writes||r.records.isEmpty)=true) (ok:(chainsOk q&&opensWell r.prog&&(frees r&&r.within.isEmpty))=true) (hb:r.prog.bare) (hw:r.promised)
 (ht:∀vs (w:abx) (s:Wj) mg f (Q:aaJ->Wj->Prop),s.heap.Ns Xv mg->mg r.name=some f->F3 (YL r.prog w) ab8 (run f vs) (λv s'=>Q (.done (.ret v)) s') s->F3 (YL r.prog w) ab8 (tree vs) Q s)
 (pin:∀w s,s.heap.isNs Xv=true->Ground q loose [] XP w s (s.heap.nsMap Xv) (s.heap.nsMap aaE) s.heap->∀n∈defs,isTheDefsW r.prog s.heap n)
 (call:∀(w:abx) (s₀ s₁:Wj) (mg mb:Str->Option V9),Ground q loose r.records XP w s₀ mg mb s₁.heap->YP w s₁.heap->∀(args:List WData) (vs:List V9) (as:List Addr),
  r.claim.pre args=true->acR args=true->Laid r.records w s₀ s₁ args vs as->aes<s₀.heap.objs.size->∃f,mg r.name=some f∧
   F3 (YL r.prog w) ab8 (run f vs) (λv s'=>GoodWG r.claim (classAt s₀.heap) (adA s₀.heap) args s₁ (.ok (.ret v)) s') s₁):r.claim.HoldsOpenBy (λvs=>⟨tree vs,.builtin "claim.caller" {},default,[]⟩) defs kps writes:=by
 obtain⟨ok,k5⟩:=X5.mp ok
 obtain⟨hch,o1⟩:=X5.mp ok
 obtain⟨k5,k6⟩:=X5.mp k5
 refine Wo λno=>?_
 obtain⟨hsame,hu,ha,hap,hm⟩:=frees_parts k5
 refine no ?_
 refine⟨⟨hb,o1,by show r.makers.map _=[];rw[hm];rfl⟩,hw.witness,λw=>⟨(left.behind hX hch w).1,λs' hs'=>?_⟩⟩
 refine Wo λno=>?_
 obtain⟨s₀,hf,hg0,s,hT,hz,hgens,hg,G00,y⟩:=(left.behind (XP:=λmg h=>XP mg h∧RecFacts r.records h) (λs hs=>⟨hX s hs,hRf s hs⟩) hch w).2 s' hs'
 refine no ?_
 have G0:Ground q loose [] XP w s (s.heap.nsMap Xv) (s.heap.nsMap aaE) s.heap:=⟨G00.T,G00.B,G00.D,G00.TE,G00.TD,G00.W,G00.X.1,G00.cls,G00.has,G00.apart,G00.once,G00.K⟩
 have RF:=G00.X.2
 have hT':=hT
 refine⟨s₀,hf,hg0,s,hT,pin w s hg G0,RF.1,RF.2.1,?_⟩
 have hgens:s.gens=#[]:=Array.eq_empty_of_size_eq_zero (beq_iff_eq.mp hgens)
 have G:Ground q loose r.records XP w s _ _ s.heap:=RF.ground G0
 refine F4 (c:=r.claim) hz hgens λargs hpre hlay ord hord=>?_
 refine Wo λno=>?_
 obtain⟨⟨vs,s₁⟩,hlaid⟩:=X8.mp (layAllW_isSome (P:=w.params) (ord:=ord) G.has args r.args s (pre_splitW hpre).1)
 refine no ?_
 have keeps:=layAllW_keeps _ _ _ hlaid
 have hal:=layAllW_rest _ _ _ hlaid
 refine Wo λno=>?_
 obtain⟨as,hrd,hin,hold⟩:=reads_layAllW hord _ _ _ hlaid hlay s₁.heap (λ_ _ e=>e)
 refine no ?_
 have L:Laid r.records w s s₁ args vs as:=⟨⟨ord,hord,hlaid⟩,hrd,hin,hold,keeps,hal.1.trans hgens,hal.2.2.1⟩
 have G₁:=G.keeps hXk keeps
 refine Wo λno=>?_
 obtain⟨f,hf,h⟩:=call w s s₁ _ _ G₁ (hYk _ _ _ (hY w s y) keeps) args vs as hpre hlay L G.low
 refine no ?_
 have hi:=ident_freeW hu ha hap
 have hwi:r.claim.within=[]:=Xa.mp k6
 exact⟨vs,s₁,hlaid,ht vs w s₁ _ f _ G₁.T.g hf (tJ h (λv s' g=>⟨_,rfl,have z:=g.laid (c:=r.claim) hsame hwi hi L;⟨z.1,z.2.1,z.2.2,λq=>⟨namesKept_of hT' hg kps keeps g.2.1.old,noTable hwr q⟩⟩⟩))⟩
abbrev Q0(q:abz)(loose:List Str)(XP:(Str->Option V9)->Heap->Prop)(YP:abx->Heap->Prop)(r:RowW)(d:DefRec)(kwd:List (Str×Expr))(run:V9->List V9->Sem V9):Prop:=
 ∀(w:abx) (s₀ s₁:Wj) (mg mb:Str->Option V9),Ground q loose r.records XP w s₀ mg mb s₁.heap->YP w s₁.heap->∀(a:Addr) (o:Obj) (pm cd doc dV kV:V9),s₁.heap.get? a=some o->
  o.data=.func { docDef d.name d.params d.body d.scope pm cd doc with defaults:=dV,kwdefaults:=kV}->s₁.heap.CodeRec cd d.name->Dflts mg s₁.heap d.params kwd dV kV->mg d.name=some (.ref a)->s₁.gens=#[]->
  ∀(args:List WData) (vals:List V9) (as:List Addr),r.claim.pre args=true->acR args=true->ReadsAllW r.records (classAt s₀.heap) s₁.heap vals args as->WellAll w.params s₁.heap vals args->(∀a∈as,(a==aes)=false)->
   F3 (YL r.prog w) ab8 (run (.ref a) vals) (λv s'=>GoodWG r.claim (classAt s₀.heap) (adA s₀.heap) args s₁ (.ok (.ret v)) s') s₁
theorem PySem.W.holds_open{r:OpenRow}{q:abz}{loose:List Str}{Xt:Wj->Bool}{XP:(Str->Option V9)->Heap->Prop}{α:Type}{Yf:Wj->α}{Ya:abx->α}{YP:abx->Heap->Prop}{d:DefRec}{kwd:List (Str×Expr)}{N:Nat}
 (left:LeftO r.prog q loose Xt Yf Ya N) (hY:∀w s,Yf s=Ya w->YP w s.heap) (hYk:∀w h h',YP w h->(∀b o,h.get? b=some o->h'.get? b=some o)->YP w h')
 (hX:∀s,Xt s=true->XP (s.heap.nsMap Xv) s.heap) (hXk:∀mg h h',XP mg h->(∀b o,h.get? b=some o->h'.get? b=some o)->XP mg h')
 (hdef:defOf q r.name=some (d,kwd)) (hp:r.prog.theDef r.name=some (d.params,d.body,d.scope)) (hk:kwWritten? d.params.kwonlyargs d.params.kw_defaults=some kwd) (hRf:∀s,Xt s=true->RecFacts r.records s.heap) (hwr:(!r.writes||r.records.isEmpty)=true)
 (k1:r.wellSaid=true) (ok:(chainsOk q&&opensWell r.prog&&(frees r.toRowW&&r.within.isEmpty))=true) (hb:r.prog.bare) (hw:r.toRowW.promised)
 (call:Q0 q loose XP YP r.toRowW d kwd λf vs=>adq f vs):r.Holds:=by
 refine⟨k1,hw,F5 (r:=r.toRowW) (run:=λf vs=>adq f vs) (tree:=λvs=>do match←nsGet mainNs r.name with
  |some f=>do ret (←adq f vs)
  |none=>unsupported "claim.caller:no-such-global") left hY hYk hX hXk hRf hwr ok hb hw
  (λvs w s mg f Q hg hf h=>Aj (QZ (wpAny_nsGet hg (by rw[hf];exact Aj (tJ h (λ_ _ x=>Kg x))))))
  (λw s hg G n hn=>?_) λw s₀ s₁ mg mb G Y args vs as hpre hlay L low=>?_⟩
 ·obtain rfl:n=r.name:=by split at hn <;> simp_all
  exact pinned_of_view hg G hdef hp hk
 ·obtain⟨a,o,pm,cd,doc,dV,kV,h1,h2,h3,h4,h5⟩:=G.fn hdef
  exact⟨.ref a,h1,call w s₀ s₁ mg mb G Y a o pm cd doc dV kV h2 h3 h4 h5 (defOf_name hdef▸h1) L.gens args vs as hpre hlay L.reads L.well (L.low low)⟩
end
end Tactic
namespace Internal
open Tactic (fS a8 aP aL cQ)
noncomputable def Ef(env:Env)(names:List Str)(n:Nat):Cx:={env,rv:=env.locals::env.cells.map (·.2),keep:=[],outer:=[],frs:=[env.locals],w:=λ_ _=>False,stk:=[env],names,lvl:=n,ro:=false}
section
variable{g:Gl}{K:Frag}{s:Wj}{vs:List V}{xs:List V9}{f:Addr}{fd:aaP}{body:List Stmt}{params names:List Str}{n:Nat}{hp:Heap}{tk:Nat}{env:Env}{W:PT}{Q:V->AH->Prop}
theorem MU(fo:EA g f fd body params names [])(hlen:vs.length=params.length)(hB:s.heap=g.B)(hg:s.gens=#[])(ho:s.os=g.os)(hv:∀F:FZ,(∀a o,g.B.get? a=some o->NF o->F a o)->bo g F vs xs)(he:env=aeB fd s.heap.objs.size f)
 (x:InCallC s env.locals (bindL env.kindOf (params.zip xs) λ_=>none) env.cells (bindC env.kindOf (params.zip xs) λ_=>none) { s with heap:=hp,toks:=tk}) :
 aI g (Ef env names n) [] [] ⟨vs.map some++WZ (names.length-params.length) none,λ_=>none⟩ { s with heap:=hp,toks:=tk}:=by
 have hL:s.heap.objs.size=env.locals:=by rw[he];rfl
 have hk:∀b o,s.heap.get? b=some o->hp.get? b=some o:=x.toInCall.keep
 have hns:hp.Ns env.locals _:=x.toInCall.ns
 have new:∀{a},a∈env.locals::env.cells.map (·.2)->s.heap.objs.size<=a:=λh=>(Wf.mp h).elim (λe=>Xp (hL.trans e.symm)) λh=>let⟨p,hp,e⟩:=WC.mp h;hL▸Xo (e▸x.above p.1 p.2 hp)
 have lookC:∀p∈env.cells,env.cells.lookup p.1=some p.2:=by
  subst he
  exact λp hp=>dA (jk fd.scope.names _ [] .nil (λ_ h=>nomatch h) fo.uniq) hp
 have bk:∀b o,g.B.get? b=some o->hp.get? b=some o:=λb o e=>hk b o (hB▸e)
 have hF:∀a o,g.B.get? a=some o->NF o->Fz hp (λ_=>none) (env.locals::env.cells.map (·.2)) a o:=λa o e nf=>⟨bk a o e,rfl,λq=>Xh.mpr (new q) (WU (hB▸e)),nf⟩
 have locOb:∃o,hp.get? env.locals=some o∧NF o:=hns.elim λo h=>h.elim λ_ h=>h.elim λ_ h=>⟨o,h.1,c7 h.2.1 rfl⟩
 have hall:=hv _ hF
 exact
 {ok:=
  {kind:=he▸fo.kind,globals:=he▸fo.glob,builtins:=he▸fo.bi,apart:=x.apart,names:=fo.nodup,head:=⟨_,_,rfl,rfl⟩
   stk:=λe h=>by rw[Wr.mp h];exact⟨he▸fo.kind,_,by rw[he];rfl,.head _⟩
   own:=.head _
   frs:=λa h=>by rw[Wr.mp h];exact .head _
   cells:=λp h=>⟨.tail _ (WC.mpr ⟨p,h,rfl⟩),YD (x.above p.1 p.2 h),λq=>YD (x.above p.1 p.2 h) (Wr.mp q)⟩
   keep:=λp h=>nomatch h
   outer:=λp h=>nomatch h
   free:=λp h _ _=>⟨λq hq=>(nomatch hq),λq hq=>(nomatch hq)⟩}
  base:=bk,gens:=hg,os:=ho
  known:=λa o e=>ns e
  rsv:=λa h=>⟨by rw[←hB];exact new h,(Wf.mp h).elim (λe=>e▸locOb.imp λ_ z=>z.1) λh=>let⟨p,hp,e⟩:=WC.mp h;(x.cell p.1 p.2 (lookC p hp)).imp λ_ z=>e▸z.1⟩
  frs:=λa h=>by rw[Wr.mp h];exact locOb
  keep:=λp h=>nomatch h
  outer:=λp h=>nomatch h
  cl:=λp h=>⟨_,x.cell p.1 p.2 (lookC p h)⟩
  loc:=⟨_,hns,λi y v hy hv'=>CI fo hall hlen he x hy hv'⟩
  wait:=λa o h=>h.elim
  tmp:=rfl}
theorem Kh(T:Top g K)(fo:EA g f fd body params names [])(hT:∀cx,c6 cx fd.scope names n true->Ax g cx body W)(hlen:vs.length=params.length)(hB:s.heap=g.B)(hg:s.gens=#[])(ho:s.os=g.os)(hv:∀F:FZ,(∀a o,g.B.get? a=some o->NF o->F a o)->bo g F vs xs)
 (hn:n<=29) (hw:W (λfl st=>Fin Q (EB fl) st.h) (λst=>yE (λ_=>False) st.h) ⟨vs.map some++WZ (names.length-params.length) none,λ_=>none⟩)
 (k:∀v x F h s',VR g F v x->Q v h->g.B.StaysIn s'.heap->s'.gens=#[]->s'.os=g.os->Qv x s'):wq g ab8 (call (.ref f) xs) Qv (λ_ _=>False) s:=by
 obtain⟨o,ho',hdat⟩:=fo.at_
 have hlx:xs.length=params.length:=by rw[←hlen];exact((hv (λa o=>g.B.get? a=some o) λa o e _=>e).length)
 refine jM (p6 (o:=o) (fd:=fd) dD (hB▸ho') hdat fo.co fo.gen fo.body (hB▸fo.code) ?_)
 refine fo.bind s xs (hB▸λ_ _ e=>e) hlx _ _ _ _ ?_
 rw[fo.clo,WH]
 have hkind:∀x∈params.zip xs,fd.scope.names.lookup x.1=some .local∨(fd.scope.names.lookup x.1=some .cell∧((acP (s.heap.objs.size+1) fd.scope.names []).lookup x.1).isSome=true):=λx hx=>
  (fo.kinds x.1 (abR hx).1).imp id λk=>⟨k,cellsFrom_some _ _ _ _ (.inl (aX k))⟩
 refine aer fo.kind hkind (λenv he s' x=>?_)
 have he':env=aeB fd s.heap.objs.size f:=he
 obtain⟨h',t',rfl⟩:=x.toInCall.same
 refine⟨(hB▸T.nolim:s.heap.NoLimit).keeps x.toInCall.keep,CJ ?_⟩
 have RC:=MU (n:=n) fo hlen hB hg ho hv he' x
 have ck:c6 (Ef env names n) fd.scope names n true:=⟨by rw[he'];rfl,λ_=>by rw[he'];rfl,rfl,rfl,fo.uniq,λ_ y hy=>by rw[he'];exact X8.mp (cellsFrom_some _ _ _ _ (.inl (aX hy))),λ_=>⟨_,rfl⟩,λ_=>rfl⟩
 have oa':gJ (Ef env names n).stk n (ab8.deeper env):=⟨rfl,V4 (Wu (WX 20 hn) 302) dD,V4 (Wu (WX 100 hn) 7) dD,rfl⟩
 refine be (hT _ ck oa' RC hw) (λfl s2 u=>?_) λe s2 u=>?_
 ·have bc:∀{v:V} {x:V9} {st':St},aI g (Ef env names n) [v] [x] st' s2->Fin Q v st'.h->Qv x s2:=λR2 q=>by
   obtain⟨v',h1,R3,q'⟩:=Fin.out q (loc:=_) R2
   exact k _ _ _ _ _ R3.tmp.1 q' R3.base R3.gens R3.os
  cases u with
  |next R2 q=>exact bc (R2.push (v:=.none) (x:=.none) gn) q
  |ret R2 q=>exact bc R2 q
 ·cases u with
  |mk R2 hf q=>exact q.elim λ_ z=>z.2.elim
end
noncomputable def Eg(K:Frag)(C:Addr):Bool:=Xf K (.ref C) "__eq__" == some (some (.builtin "object.__eq__"))&&Xf K (.ref C) "__ne__" == some (some (.builtin "object.__ne__"))&&aa1 K (.type "str") (.ref C)==some false&&aa1 K (.ref C) (.type "object")==some true
section
variable{prog:abz}{w:abx}{A:Xd}{E:V9->Wj->Prop}{s:Wj}{K:Frag}{x C:Addr}{ox:Obj}{od:Option Obj}{u:Str}{t:Tok}{args:List V9}
theorem vJ{name:Str}{id:String}{Q:Option V9->Wj->Prop}(X:K.In s.heap)(I:InstAt s.heap x ox C od)(hs:Xf K (.ref C) name=some (some (.builtin id)))(hb:∀self,bindSpecial (.builtin id) self=pure (.builtin id,[self]))
 (h:Wz (YL prog w) A (call (.builtin id) (.ref x::args)) (λv=>Q (some v)) E s):Wz (YL prog w) A (aa5 (.ref x) name args) Q E s:=by
 refine Xk (V7 (V7 (V7 (I.type.here ((adt X hs).here ?_)))))
 refine V7 (Yn (wpAny_ite ?_))
 have bc:Wz (YL prog w) A (call (.builtin id) ([.ref x]++args)>>=λv=>pure (some v)) Q E s:=V7 (Yc h (λv s' h'=>Wg h') λ_ _ h'=>h')
 split
 ·rw[hb];exact Internal.V1 ((Wg bc))
 ·rw[hb];exact wpAny_tryCatch (Internal.V1 ((Wg bc)))
theorem Ki{Q:Option V9->Wj->Prop}(X:K.In s.heap)(I:InstAt s.heap x ox C od)(d:Xf K (.ref C) "__eq__" = some (some (.builtin "object.__eq__")))(y:aa1 K (.ref C) (.type "object")=some true)(q:Q (some .notImplemented) s) :
 wpAny (YL prog w) A (aa5 (.ref x) "__eq__" [.str u t]) Q E s:=
 vJ X I d F.slot_object_eq.bind (abi (aaN F.slot_object_eq.plain F.cmpEntry_eq (aeC F.cmpKind_eq F.cmpSplit_eq (I.type.andThen (looks_subIn X y)) (F.cmpArgs_eq _ _) (Wg q))))
theorem Q2{Q:Option V9->Wj->Prop}(X:K.In s.heap)(I:InstAt s.heap x ox C od)(j:A.units+1<afi)(y:Xf K (.ref C) "__eq__" = some (some (.builtin "object.__eq__")))(i:Xf K (.ref C) "__ne__" = some (some (.builtin "object.__ne__")))(d:aa1 K (.ref C) (.type "object")=some true)(q:Q (some .notImplemented) s) :
 wpAny (YL prog w) A (aa5 (.ref x) "__ne__" [.str u t]) Q E s:=
 vJ X I i F.slot_object_ne.bind (abi (aaN F.slot_object_ne.plain F.cmpEntry_ne (aeC F.cmpKind_ne F.cmpSplit_ne (I.type.andThen (looks_subIn X d)) (F.cmpArgs_ne _ _) (V7 (m:=slotArgs "__ne__" 1 _) (Wg (V7 (wpAny_cRoomFor (A:=A.in1) j (V7 (Ki X I y d (Wg q))))))))))
theorem Cq{c d:Addr}{Q:Wj->Prop}(hx:s.heap.get? x=some (Gp c d))(q:Q s):Wz (YL prog w) A (XE.«str.__eq__» ⟨[.str u t,.ref x],[]⟩) (λbc y=>∃r,bc=.done (.ret r)∧r=.notImplemented∧Q y) E s:=by
 obtain⟨hp,g,j,tk,os⟩:=s
 wp_walk using wpAny_loadPart' hx
 exact⟨_,rfl,rfl,q⟩
theorem Cr{c d:Addr}{Q:Wj->Prop}(hx:s.heap.get? x=some (Gp c d))(q:Q s):Wz (YL prog w) A (XE.«str.__ne__» ⟨[.str u t,.ref x],[]⟩) (λbc y=>∃r,bc=.done (.ret r)∧r=.notImplemented∧Q y) E s:=by
 obtain⟨hp,g,j,tk,os⟩:=s
 wp_walk using wpAny_loadPart' hx
 exact⟨_,rfl,rfl,q⟩
theorem Eh{c d:Addr}{od:Option Obj}{op:CmpOp}{id:String}{b:XE}{Q:V9->Wj->Prop}{r:Bool}(hx:s.heap.get? x=some (Gp c d))(X:K.In s.heap)(I:InstAt s.heap x (Gp c d) c od)(i:A.units<afi)(e:aa1 K (.type "str") (.ref c)=some false)
 (h1:∀Q',Q' (some .notImplemented) s->Wz (YL prog w) A (aa5 (.ref x) (cmpInfo op).2.1 [.str u t]) Q' E s) (sl:Slot "str" (cmpInfo op).2.2 id) (hb:Yw Z6 id=some b) (ha:Yk id ⟨[.str u t,.ref x],[]⟩)
 (g:∀{Q':Wj->Prop},Q' s->Wz (YL prog w) A.in1 (b ⟨[.str u t,.ref x],[]⟩) (λbc y=>∃r,bc=.done (.ret r)∧r=.notImplemented∧Q' y) E s)
 (j:(op=.Eq∧r=false)∨(op=.NotEq∧r=true)) (q:Q (.bool r) s):Wz (YL prog w) A (richCompare op (.ref x) (.str u t)) Q E s:=by
 unfold richCompare
 simp only[oneThing_ref]
 refine Xk (Internal.Vv (λ_ q=>wpAny_cRoomFor i q) ?_)
 refine V7 (I.type.here (Internal.V1 (?_)))
 rw[if_pos (show(Zq c != Ye "str")=true from rfl)]
 refine Internal.Vv (λ_ q=>(looks_subIn X e).here q) ?_
 rw[if_neg W0]
 refine V7 ?_
 refine V7 (h1 _ (Wg ?_))
 refine V7 (m:=tryCompare _ _ _) (wpAny_tryCompare_declines (T:= "str") rfl sl (YZ sl rfl hb (Yc (g (Q':=λy=>y=s) rfl) (λbc y z=>?_) λ_ _ x=>x) ha))
 obtain⟨f,k,p,rfl⟩:=z
 refine⟨f,k,p,?_⟩
 rcases j with⟨rfl,rfl⟩|⟨rfl,rfl⟩
 ·exact V7 (Yt (V7 (Wg (Wg q))))
 ·exact V7 (Yt (V7 (Wg (Wg q))))
end
set_option tactic.hygienic true in
theorem MV{g:Gl}{K:Frag}(X:K.In g.B)(h:∀c,(g.tab.lookup c).isSome=true->Eg K c=true):jj g:=by
 intro c vs u t A s x b f k
 have e:=h c (Zt k)
 obtain⟨rfl,h1,m,o,D,J⟩:=aep k
 have i:=aJ e
 have p:=aJ i.1
 have z:=aJ p.1
 have j:=X.keeps f
 rename_i a d ks xs n
 have I:InstAt s.heap a (Gp c d) c (some (Tw (n9 g.P ks xs) n)):=⟨h1,rfl,rfl,m⟩
 have y:A.units+1<cLine:=Wp (Wm b) dD
 exact⟨λprog w E Q q=>Eh (op:=.Eq) h1 j I (Nat.lt_of_succ_lt y) (eq_of_beq p.2) (λQ' q=>Ki j I (eq_of_beq z.1) (eq_of_beq i.2) q) F.slot_str_eq_refl F.entry_str_eq (F.args_str_eq_2 _ _) (λq=>Cq h1 q) (.inl ⟨rfl,rfl⟩) q,
  λprog w E Q q=>Eh (op:=.NotEq) h1 j I (Nat.lt_of_succ_lt y) (eq_of_beq p.2) (λQ' q=>Q2 j I y (eq_of_beq z.1) (eq_of_beq z.2) (eq_of_beq i.2) q) F.slot_str_ne_refl F.entry_str_ne (F.args_str_ne_2 _ _) (λq=>Cr h1 q) (.inr ⟨rfl,rfl⟩) q⟩
noncomputable def Cs(v:V)(x:V9):Bool:=match v with
 | .int i=>(match x with | .int j _=>i==j|_=>false)
 | .str i=>(match x with | .str j _=>j.cps.toList==i&&Zp i.length 16777216|_=>false)
 | .bytes i=>(match x with | .bytes j _=>j.toList==i&&Zp i.length 16777216|_=>false)
 |_=>false
noncomputable def yh:List V->List V9->Bool
 | [],[]=>true
 |v::vs,x::xs=>Cs v x&&yh vs xs
 |_,_=>false
noncomputable def Od(o:Option Obj)(vs:List V):Bool:=match o with
 |some ⟨.type T,none,.seq xs _,sl⟩=>T== "tuple" && sl.isEmpty&&Zp xs.toList.length 1000000&&yh vs xs.toList
 |_=>false
noncomputable def Tp(K:Frag)(v:V)(x:V9):Bool:=match v with
 | .tup vs=>(match x with | .ref a=>Od (K.lookup a) vs|_=>false)
 |v=>Cs v x
section
variable{g:Gl}{K:Frag}{F:FZ}{v:V}{x:V9}
theorem Ei(h:Cs v x=true):VR g F v x:=by
 cases v <;> first|exact ff h|skip
 ·cases x <;> first|exact ff h|skip
  obtain rfl:=eq_of_beq h
  exact⟨_,rfl⟩
 ·cases x <;> first|exact ff h|skip
  have h:=aJ h
  exact⟨V5 h.2,_,by rw[←eq_of_beq h.1]⟩
 ·cases x <;> first|exact ff h|skip
  have h:=aJ h
  exact⟨V5 h.2,_,by rw[←eq_of_beq h.1]⟩
theorem Kj:∀{vs:List V} {xs:List V9},yh vs xs=true->bo g F vs xs:=by
 intro w1
 induction w1 with
 |nil=>
  intro w2
  cases w2 with
  |nil=>
   intro _
   exact rfl
  |cons w3 w4=>
   intro h
   exact ff h
 |cons v vs ih=>
  intro w5
  cases w5 with
  |nil=>
   intro h
   exact ff h
  |cons x xs=>
   intro h
   exact⟨Ei (aJ h).1,ih (aJ h).2⟩
set_option tactic.hygienic true in
theorem Q3(h:Od o vs=true)(k:∀ob,o=some ob->NF ob->F a ob):VR g F (.tup vs) (.ref a):=by
 cases o with
 |none=>exact ff h
 |some ob=>
  obtain⟨c,d,dt,sl⟩:=ob
  cases c <;> first|exact ff h|skip
  cases d <;> first|exact ff h|skip
  cases dt <;> first|exact ff h|skip
  rename_i T xs n
  have h1:=aJ h
  have h2:=aJ h1.1
  have h3:=aJ h2.1
  obtain rfl:=eq_of_beq h3.1
  obtain rfl:sl=#[]:=Array.isEmpty_iff.mp h3.2
  exact show bQ _ _ _ _ from .mk (xs:=xs.toList) rfl (k _ rfl (c7 rfl rfl)) (V5 h2.2) (Kj h1.2)
theorem Tq(X:K.In g.B)(h:Tp K v x=true)(F:FZ)(hF:∀a o,g.B.get? a=some o->NF o->F a o):VR g F v x:=by
 cases v with
 |tup vs=>
  cases x <;> first|exact ff h|skip
  exact Q3 h λob e nf=>hF _ _ (X _ _ e) nf
 |_=>exact Ei h
end
noncomputable def nsHas(K:Frag)(x:Str)(p:V9->Bool):Bool:=match nsIn K Xv x with
 |some (some v)=>p v
 |_=>false
noncomputable def Kk(K:Frag)(x:Str):Bool:=match nsIn K Xv x with
 |some none=>true
 |_=>false
noncomputable def nZ(a:Addr)(v:V9):Bool:=match v with
 | .ref b=>Yr a b
 |_=>false
theorem n5{K:Frag}{x:Str}{p:V9->Bool}(h:nsHas K x p=true):∃v,nsIn K Xv x=some (some v)∧p v=true:=by
 unfold nsHas at h
 generalize e:nsIn K Xv x=zz;cases zz with
 |none=>rw[e]at h;exact ff h
 |some o=>cases o with
  |none=>rw[e]at h;exact ff h
  |some v=>rw[e]at h;exact⟨v,rfl,h⟩
theorem MW{K:Frag}{x:Str}(h:Kk K x=true):nsIn K Xv x=some none:=by
 unfold Kk at h
 generalize e:nsIn K Xv x=zz;cases zz with
 |none=>rw[e]at h;exact ff h
 |some o=>cases o with
  |none=>rfl
  |some v=>rw[e]at h;exact ff h
theorem mf(h:nZ a v=true):v=.ref a:=by
 cases v <;> first|exact ff h|skip
 exact congrArg Zq (Yb h).symm
noncomputable def badI:Addr:=36
noncomputable def Tr:List Value:=[.ref 39,.type "Exception",.type "BaseException",.type "object"]
structure Fc(K:Frag):Prop where
 tops:(NI.all λp=>nsHas K p.1 (Tp K p.2)&&!cG p.1 hZ)=true
 defs:(NJ.all λp=>nsHas K p.1 (nZ p.2)&&!cG p.1 hZ&&keepIn K (.ref p.2))=true
 bis:((LA.map (·.1)++[V3 "range",V3 "sorted",V3 "set"]).all λx=>Kk K x&&!cG x hZ&&!cG x (V3 "__name__"))=true
 exc:nsHas K (V3 "BadObject") (nZ cp)=true
 tab:(qi.all λp=>jn p.2&&Zp p.2.length 50&&p.2.all (rR K p.1)&&Eg K p.1)=true
 meth:(Ii.all λp=>p.2.c.all λq=>oE K q.1 p.1 q.2&&!((qi.lookup q.1).getD []).any (cG p.1))=true
 bad:∀h,K.In h->GQ h cp Tr
 badK:keepIn K (.ref cp)=true
 badC:∀S rest,peek K S (XN "Exception.__new__" ⟨.ref cp::rest,[]⟩)=some ()
 badI:Xf K (.ref cp) "__init__" = some (some (.ref badI))
 badT:typeIn K (.ref Internal.badI)=some (.type "function")
 badF:oD K cp Internal.badI (ll K Internal.badI) (V3 "self") (V3 "told")
theorem tK{α:Type}{l:List (Str×α)}{f:Str×α->Bool}{x:Str}{v:α}(h:l.all f=true)(e:iQ l x=some v):f (x,v)=true:=by
 rw[rt]at e
 exact WQ.mp h _ (aX e)
theorem all_cons{α:Type}{P:α->Prop}{a:α}{l:List α}(h:P a)(t:∀x∈l,P x):∀x∈a::l,P x:=λx hx=>(Wf.mp hx).elim (λe=>e▸h) (t x)
theorem rI{α:Type}{P:α->Prop}:∀x∈([]:List α),P x:=λ_ h=>nomatch h
structure UX(g:Gl)(p:Str×V9×BW):Prop where
 b:ab9 p.1=some p.2.1
 k:Keeps g p.2.1
 w:fF g p.2.1 p.2.2
structure M5(g:Gl)(name:Str)(m:MT):Prop where
 b:BM g "bytes" name m.b
 s:BM g "str" name m.s
 l:BM g "list" name m.l
 d:BM g "dict" name m.d
 a:BM g "bytearray" name m.a
section
variable{g:Gl}{K:Frag}{x:Str}{name:Str}{T:String}{id:String}{w:BW}
theorem aO:BM g T name none:=λ_ h=>ns h
theorem gj(b:Nh T name id)(o:fF g (.builtin id) w):BM g T name (some (id,w)):=λp h=>by
 obtain rfl:=WR h
 exact⟨b,o⟩
theorem Q4:∀p∈LA,UX g p:=
 all_cons ⟨by kernel_rfl,dB _,fF.one O4⟩<|all_cons ⟨by kernel_rfl,dB _,fF.one OO⟩<|all_cons ⟨by kernel_rfl,dB _,fF.one OP⟩<|
 all_cons ⟨by kernel_rfl,dc _,fF.one OQ⟩<|all_cons ⟨by kernel_rfl,dc _,fF.one OS⟩<|all_cons ⟨by kernel_rfl,dc _,fF.one KR⟩<|
 all_cons ⟨by kernel_rfl,dc _,fF.one GK⟩<|all_cons ⟨by kernel_rfl,dc _,fF.one Hh⟩<|all_cons ⟨by kernel_rfl,dc _,Sb⟩ rI
theorem UY:∀p∈Ii,M5 g p.1 p.2:=
 all_cons ⟨aO,aO,gj ⟨F.plainAttrs_list,acS,F.type_list_append⟩ AW,aO,gj ⟨FX.R9,FX.Hc,FX.Hf⟩ yU⟩<|
 all_cons ⟨gj ⟨YN,Tactic.FX.Q7,Tactic.FX.Q8⟩ G7,gj ⟨adz,F.slot_str_find,F.type_str_find⟩ Ha,aO,aO,aO⟩<|
 all_cons ⟨aO,aO,aO,gj ⟨F.plainAttrs_dict,F.slot_dict_get,F.type_dict_get⟩ K4,aO⟩<|
 all_cons ⟨aO,aO,aO,aO,aO⟩<|
 all_cons ⟨gj ⟨YN,FX.F6,FX.F7⟩ G8,gj ⟨adz,F.slot_str_join,F.type_str_join⟩ G9,aO,aO,aO⟩<|
 all_cons ⟨aO,aO,aO,aO,aO⟩<|
 all_cons ⟨gj ⟨YN,FX.EK,FX.EL⟩ EU,aO,aO,aO,aO⟩<|
 all_cons ⟨aO,aO,aO,aO,aO⟩<|
 all_cons ⟨aO,aO,gj ⟨F.plainAttrs_list,F.slot_list_pop,F.type_list_pop⟩ K5,aO,aO⟩<|
 all_cons ⟨gj ⟨YN,FX.AR,FX.AS⟩ yQ,aO,aO,aO,aO⟩<|
 all_cons ⟨aO,aO,aO,aO,aO⟩<|
 all_cons ⟨aO,aO,aO,aO,gj ⟨FX.R9,FX.F9,FX.Gc⟩ wi⟩<|
 all_cons ⟨aO,aO,aO,aO,aO⟩<|
 all_cons ⟨aO,aO,aO,aO,aO⟩<|
 all_cons ⟨gj ⟨YN,FX.EI,FX.EJ⟩ EW,aO,aO,aO,aO⟩<|
 all_cons ⟨gj ⟨YN,aeb,FB.type_bytes_startswith⟩ AV,aO,aO,aO,aO⟩<|
 all_cons ⟨aO,aO,aO,aO,aO⟩<|
 all_cons ⟨gj ⟨YN,FX.EM,FX.EN⟩ EV,gj ⟨adz,F.slot_str_upper,F.type_str_upper⟩ EY,aO,aO,aO⟩ rI
theorem MX:(NK.all λp=>p.2.all λq=>(((qi.lookup q.1).getD [])[q.2]?).any (cG p.1))=true:=by kernel_rfl
theorem Q5(k:K.In g.B)(nl:g.B.NoLimit)(ns:∃mg mb,g.B.Ns Xv mg∧g.B.Ns aaE mb∧∀x:Str,x≠ "__name__" -> mb x=ab9 x)(t:g.tab=qi)(F:Fc K):Top g K:=
 ⟨nl,k,ns,λc ns e=>by
  have q:=aJ (WQ.mp F.tab _ (aX (t▸e)))
  have q1:=aJ q.1
  have q2:=aJ q1.1
  exact⟨gP q2.1,V5 q2.2,WQ.mp q1.2⟩,
 MV k λc h=>by
  obtain⟨ns,e⟩:=X8.mp h
  exact(aJ (WQ.mp F.tab _ (aX (t▸e)))).2⟩
theorem tL(h:(!cG x hZ)=true):(x==("__debug__" : Str))=false:=sd▸mv (cw h)
theorem Ak(T:Top g K){a:Addr}(h:nsHas K x (nZ a)=true)(d:(x==("__debug__" : Str))=false):k9 g x (.raw (.ref a)):=by
 obtain⟨v,e,h⟩:=n5 h
 obtain rfl:=mf h
 intro cx pos hk
 exact vl (v:=.raw (.ref a)) T e d (λF hF=>rfl) hk
theorem n6(T:Top g K)(h:(Kk K x&&!cG x hZ&&!cG x (V3 "__name__"))=true)(b:ab9 x=some val):k9 g x (.raw val):=by
 have q:=aJ h
 have q1:=aJ q.1
 intro cx pos hk
 exact Bh T (MW q1.1) b (λe=>by rw[b6.mpr e]at q;exact ff q.2) (tL q1.2) hk
theorem Q6(T:Top g K)(F:Fc K):yF g K Tr badI (ll K badI) (V3 "self") (V3 "told"):=
 ⟨⟨F.bad _ T.k,dD,dD,dD,dD⟩,F.badI,F.badT,F.badF,λx=>by kernel_rfl,dD,wb T F.badK,F.badC⟩
theorem Ts(T:Top g K)(t:g.tab=qi)(F:Fc K)(n:Nat):e8 g K (NL n):=
 {top:=T,bad:=⟨_,_,_,_,_,Q6 T F⟩
  excN:=Ak T F.exc dD
  excK:=by
   obtain⟨v,e,h⟩:=n5 F.exc
   exact mf h▸e
  excD:=by kernel_rfl
  tops:=λx v e=>by
   have q:=aJ (tK F.tops e)
   obtain⟨val,h1,h2⟩:=n5 q.1
   intro cx pos hk
   exact vl (x:=x) (v:=v) T h1 (tL q.2) (Tq T.k h2) hk
  fns:=λx k e=>by
   have bi:∀y∈LA.map (·.1)++[V3 "range",V3 "sorted",V3 "set"],(Kk K y&&!cG y hZ&&!cG y (V3 "__name__"))=true:=WQ.mp F.bis
   rw[rt]at e
   rcases WD.mp (aX e)with m|m
   ·rcases WD.mp m with m|m
    ·obtain⟨p,hp,e⟩:=WC.mp m
     obtain⟨rfl,rfl⟩:=abN e
     have q:=aJ (WQ.mp F.defs _ hp)
     have q1:=aJ q.1
     exact .fn (Ak T q1.1 (tL q1.2)) (wb T q.2)
    ·obtain⟨p,hp,e⟩:=WC.mp m
     obtain⟨rfl,rfl⟩:=abN e
     have b:=Q4 (g:=g) p hp
     exact .bw (n6 T (bi _ (Yg _ (XY hp))) b.b) b.k b.w
   ·have bi:=λy hy=>bi y (WK _ hy)
    rcases Wf.mp m with e|m
    ·obtain⟨rfl,rfl⟩:=abN e
     exact .range (n6 T (bi _ (.head _)) (by kernel_rfl))
    ·rcases Wf.mp m with e|m
     ·obtain⟨rfl,rfl⟩:=abN e
      exact .sort (n6 T (bi _ (.tail _ (.head _))) (by kernel_rfl)) (dB _)
     ·rcases Wf.mp m with e|m
      ·obtain⟨rfl,rfl⟩:=abN e
       exact .set (n6 T (bi _ (.tail _ (.tail _ (.head _)))) (by kernel_rfl)) (dc _)
      ·cases m
  attr:=λname ix e c i h=>by
   have q:=WQ.mp (tK MX e) _ (aX h)
   unfold Gl.names
   rw[t]
   obtain⟨y,h1,h2⟩:=any_some q
   rw[show name=y from b6.mp h2];exact h1
  meth:=λname m e=>by
   have q:=tK F.meth e
   rw[rt]at e
   have m5:=UY (g:=g) _ (aX e)
   exact⟨m5.b,m5.s,m5.l,m5.d,m5.a,λc f h=>by
    have q:=aJ (WQ.mp q _ (aX h))
    refine⟨q.1,λz=>?_⟩
    unfold Gl.names at z
    rw[t]at z
    exact ff ((cw q.2).symm.trans (ZK.mpr ⟨_,z,b6.mpr rfl⟩))⟩}
end
theorem MY(x:IntsAre vs xs):bo g F (xs.map .int) vs:=by
 induction x with
 |nil=>exact rfl
 |cons n t r d=>exact⟨⟨t,rfl⟩,d⟩
structure Fd(K:Frag):Prop where
 f:Fc K
 kn:∀g,(∀n,e8 g K (NL n))->g.tab=qi->Kn g K
 law:nsHas K (V3 "law") (nZ 626)=true
noncomputable def Kl(P:adJ)(h:Heap)(v:V9)(d:WData):Prop:=match d with
 | .int i=>∃t,v=.int i t
 | .list ws=>∃l q,v=.ref l∧h.get? l=some { cls:=.type "list",data:=.seq (Yo q)}∧WellAll P h q ws
 |_=>True
theorem Km(x:Well P h v d):Kl P h v d:=by
 induction x using Well.casesOn with
 |int i t=>exact⟨t,rfl⟩
 |list e k=>exact⟨_,_,rfl,e,k⟩
 |_=>exact trivial
theorem Al(x:WellAll P h vs ws):ws=[]->vs=[]:=by
 induction x using WellAll.casesOn with
 |nil=>exact λ_=>rfl
 |cons=>exact λe=>absurd e (WB _ _)
theorem MZ(ws:List WData):∀{vs:List V9},WellAll P h vs ws->WShape.hasItems R ws .int=true->∃xs,IntsAre vs xs∧xs.length=ws.length:=by
 induction ws with
 |nil=>exact λa _=>⟨[],Al a rfl▸.nil,rfl⟩
 |cons d r c=>
  intro vs a e
  have e:=aJ (show(WShape.has R d .int&&WShape.hasItems R r .int)=true from e)
  obtain⟨i,u⟩:=hasW_int e.1
  obtain⟨v,p,y,q,z⟩:=wellAll_cons_inv a
  obtain⟨xs,x,l⟩:=c z e.2
  obtain⟨t,j⟩:=(show Kl P h v (.int i)from Km (u▸q))
  exact⟨i::xs,y▸j▸.cons _ _ x,congrArg adM l⟩
theorem Ko{w:abx}{h:Heap}{args:List WData}{vals:List V9}(y:ZV.row.toRowW.claim.pre args=true)(j:WellAll w.params h vals args) :
 ∃xs l q,vals=[.ref l]∧h.get? l=some { cls:=.type "list",data:=.seq (Yo q)}∧IntsAre q xs∧xs.length<=63:=by
 have p:=pre_splitW y
 obtain⟨d,r,f,hd,g⟩:=hasAllW_cons p.1
 obtain⟨ws,m,u⟩:=hasW_list hd
 have e:args=[.list ws]:=by rw[f,m,hasAllW_nil g]
 subst e
 have c:=condW_of (X:=!decide ((63:Int)<ws.length)) (holds_andW p.2).1 rfl
 obtain⟨v,o,i,a,b⟩:=wellAll_cons_inv j
 obtain⟨l,q,z,e,k⟩:=(show Kl _ h v (.list ws)from Km a)
 obtain⟨xs,x,n⟩:=MZ ws k u
 exact⟨xs,l,q,by rw[i,z,Al b rfl],e,x,n▸XS.mp (YX.mp (of_decide_eq_false (cw c)))⟩
theorem V0{q:abz}{loose:List Str}{XP:(Str->Option V9)->Heap->Prop}{K:adJ->Frag}{as:List Addr}{e:∀P,as=(K P).map (·.1)}{d:DefRec}{kwd:List (Str×Expr)}(hn:d.name=V3 "law")(F:∀P,Fd (K P)) :
 Tactic.Q0 q loose XP (kHook K as e).says ZV.row.toRowW d kwd λf vs=>adq f vs:=by
 intro w s₀ s₁ mg mb G Y a o pm cd doc dV kV ho hd hcd hD hmg hg args vals as' hpre hlay hrd hwl hlo
 have KX:=kIn_of Y
 have T:=G.T
 have FF:=F w.params
 obtain⟨v,e1,e2⟩:=n5 FF.law
 obtain rfl:=mf e2
 have hm:=mg_of KX T.g e1
 rw[hn,hm]at hmg
 obtain rfl:626=a:=Value.ref.inj (WR hmg)
 obtain⟨xs,l,its,rfl,hL,hI,hc⟩:=Ko hpre hwl
 have big:64<=s₁.heap.objs.size:=Xo (Wp dD (WU ho))
 let g:Gl:=⟨ZV.row.prog,w,s₁.heap,s₁.os,qi,big⟩
 have TT:Top g (K w.params):=Q5 KX T.nolimit ⟨mg,mb,T.g,T.b,T.builtins⟩ rfl FF.f
 have H:=Ts TT rfl FF.f
 have kn:=FF.kn g H rfl
 have fo:=ru (dvals:=[]) TT.k kn.theLaw.good λs vals _ hl=>BindsTo.of_eq (by rw[WH];exact sf vals (hl▸kn.theLaw.bind))
 have z:wq g ab8 (call (.ref 626) [.ref l]) (λv s'=>GoodWG ZV.row.claim (classAt s₀.heap) (adA s₀.heap) args s₁ (.ok (.ret v)) s') (λ_ _=>False) s₁:=by
  refine Kh (vs:=[.lst (xs.map .int)]) (n:=11) TT fo (λcx c=>kn.theLaw.word g 11▸(Dc (H 11) 14).ss (sc:=Fm (K w.params) sQ.a sQ.names sQ.grow) (lq (K w.params) sQ.a) c) rfl rfl hg rfl (λF hF=>?_) dD
   (S5 (X:=λ_=>False) kn (To kn) Kd) λv x F h s' hv hb keep hgens hos=>?_
  ·refine⟨.mk (xs:=its) rfl (hF _ (sq "list" its 0) hL (c7 rfl rfl)) ?_ (MY hI),rfl⟩
   rw[IntsAre.length hI]
   exact V4 hc dD
  ·obtain rfl:v=.bool true:=hb
   obtain rfl:x=.bool true:=hv
   exact⟨.inl ⟨_,.bool true,[],rfl,λ_=>rfl,.bool true,by kernel_rfl,λ_=>⟨.nil,λ_ h=>nomatch h⟩⟩,.of_keep keep,hos,.of_eq hgens⟩
 exact λΓ p h1 h2=>Z4 _ _ _ (λ_ _ _ h=>h) (λ_ _ _ h=>h) _ _ (z Γ p h1 h2)
end Internal
end
set_option maxRecDepth 1000000
namespace Tactic.hd
section
local macro_rules
 | `(command|universe $x)=>do
  let c ←Internal.Tt.mapM λn=>`(command|theorem $(Lean.mkIdent n)  : True:=trivial)
  pure (Internal.T1 (.node .none `null (c.map (·.raw)).toArray))
universe u
end
end Tactic.hd
namespace Tactic
open Internal
set_option Elab.async true
set_option maxHeartbeats 40000000 in
theorem hd:ab1.Holds:=by
 w_on
 o_law
 k_head
 (case hw=>w_witness2)
 exact Internal.V0 rfl λP=>
  ⟨⟨by kernel_rfl,by kernel_rfl,by kernel_rfl,by kernel_rfl,by kernel_rfl,by kernel_rfl,λ_ X=>.mk (X _ _ rfl),by kernel_rfl,λ_ _=>by kernel_rfl,by kernel_rfl,by kernel_rfl,
   ⟨(zc (by kernel_rfl)).elim λc h=>h.elim λd h=>h.elim λsl e=>⟨_,e,rfl⟩,by kernel_rfl,⟨⟨15,8,15,12⟩,⟨15,8,15,17⟩,⟨15,20,15,24⟩,⟨15,8,15,24⟩,by kernel_rfl⟩,by kernel_rfl,by kernel_rfl,by kernel_rfl,by kernel_rfl,by kernel_rfl,
    λx hx z=>ff ((cw (WQ.mp (show((ll (Tactic.hd.heap_1_39 P) badI).scope.names.all λy=>!(y.2==.cell))=true by kernel_rfl) x hx)).symm.trans (beq_iff_eq.mpr z)),
    by kernel_rfl,by kernel_rfl,by kernel_rfl,by kernel_rfl,by kernel_rfl,by kernel_rfl,λs e x X=>ls X λS=>by kernel_rfl⟩⟩,
   λg H t=>by
    apply Kn.mk H (all_cons (by kernel_rfl) (all_cons (by kernel_rfl) (all_cons (by kernel_rfl) (all_cons (by kernel_rfl) (all_cons (by kernel_rfl) (all_cons (by kernel_rfl) rI)))))) (all_cons ⟨by kernel_rfl,by kernel_rfl⟩ (all_cons ⟨by kernel_rfl,by kernel_rfl⟩ (all_cons ⟨by kernel_rfl,by kernel_rfl⟩ (all_cons ⟨by kernel_rfl,by kernel_rfl⟩ (all_cons ⟨by kernel_rfl,by kernel_rfl⟩ (all_cons ⟨by kernel_rfl,by kernel_rfl⟩ rI)))))) t
    all_goals first
     |exact⟨by kernel_rfl,by (repeat intro _);show abZ _ _=_;kernel_rfl,λ_ _=>by kernel_rfl⟩
     |exact⟨by kernel_rfl,by (repeat intro _);show peek _ _ _=_;kernel_rfl,by (repeat intro _);show peek _ _ _=_;kernel_rfl,λ_ _=>by kernel_rfl⟩,by kernel_rfl⟩
end Tactic
theorem PySem.Challenge.cw_nt0286_01_holds : PySem.Challenge.rw_nt0286_01.Holds :=
  Tactic.hd
