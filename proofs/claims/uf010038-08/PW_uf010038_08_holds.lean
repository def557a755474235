import PyProof.Rows.All
import PyProof.Raises
import PyProof.Calls
import PyProof.RulesRaise
import PyProof.Rules2
import PyProof.Ends
import PyProof.Rows.Frame
import PyProof.AttrMissSeq
import PyProof.Rules3
import PyProof.SeqI
import PyProof.CallRoads
import PyProof.Cells
import PyProof.CompMap
import PyProof.CompUse
import PyProof.ConsumeWalk
import PyProof.WalksS
import PyProof.CollectWalk
import PyProof.StrLoop
import PyProof.StrWalks
import PyProof.CompFree
import PyProof.PureInt
import PyProof.Conv_int_bool
import PyProof.DefCall
import PyProof.Dict
import PyProof.MeetsSeq
import PyProof.ListOps
import PyProof.DictKinds
import PyProof.DictList
import PyProof.DictRoads
import PyProof.DictCalls
import PyProof.DictStraight
import PyProof.DictDisplay
import PyProof.DictTable
import PyProof.NeData
import PyProof.ExcArgsOwn
import PyProof.ExcBaseAll.ValueError
import PyProof.RaisesMany
import PyProof.StationsW
import PyProof.StrLawsIn
import PyProof.SliceStr2
import PyProof.StrBlock
import PyProof.RangeIter
import PyProof.WalksMore
import PyProof.RangeFor
import PyProof.IsInstance
import PyProof.IsiHeapPairs
import PyProof.IsiNone
import PyProof.IsiPairs
import PyProof.IsiTupleOf
import PyProof.LetGo
import PyProof.ListCopy
import PyProof.ListIndexNeg
import PyProof.ListRange
import PyProof.RulesAs
import PyProof.P3In
import PyProof.Rows.Tup
import PyProof.Rows.TupAssign
import PyProof.Rows.TupSub
import PyProof.Rows.StrInSeq
import PyProof.Rows.DictRows
import PyProof.StrLawsIdx
import PyProof.SetKind
import PyProof.ZipIter
import PyProof.TupleCall
import PyProof.Rows.Own
import PyProof.Rows.Exc
import PyProof.Rows.Chain
import PyProof.Rows.RuleB_pow
import PyProof.Rows.RuleB_floordiv
import PyProof.Rows.RuleB_mod
import PyProof.Rows.StrTemp
import PyProof.Rows.ListMul
import PyProof.SeqI3
import PyProof.Rows.TupMore
import PyProof.SliceMore
import PyProof.Rows.StrRules
import PyProof.Rows.Walk
import PyProof.SumAny
import PyProof.Rows.MaxTwoN
import PyProof.Rows.TupAdd
import PyProof.TupleOfSeq
import PyProof.Rows.SortLt
import PyProof.Rows.SortShell
import PyProof.Rows.SortWalk
import PyProof.Rows.Range3
import PyProof.Rows.SortStr
import PyProof.SetRoads
import PyProof.Rows.SetFrom
import Open.Line
import OpenK.KWalk
import Open.Boot
import Open.Tree
import OpenK.KWith
import KE.KDictOf
import KE.KSortTup
import Wide.All
import PySem.Challenge.RW_uf010038_08
open List renaming getElem?_eq_getElem->aa,length_map->ac,mem_singleton->aj,mem_append->aq,mem_map->ar,mem_cons->au,map_append->av,getElem?_map->aw,getElem?_eq_some_iff->ay,length_append->az,getD_eq_getElem?_getD->aF,append_assoc->aH,mem_of_getElem?->aI,length_cons->aN,not_mem_nil->aO,mem_cons_of_mem->aP,append_nil->aS,all_eq_true->aW,pairwise_append->bb,isEmpty_iff->bj,nodup_append->bk,lookup_cons->bu,mem_of_mem_take->bx,take_of_length_le->bA,length_set->bB,length_range->bF,mem_cons_self->bH,map_map->bI,getElem_mem->bL,mem_of_mem_drop->bN,extract_eq_take_drop->bU,take_append_drop->bW,length_drop->bX,mem_range->cb,length_eq_zero_iff->cg,getElem?_append_right->ci,pairwise_cons->cq,drop_eq_getElem_cons->cu,pairwise_iff_getElem->cw,nodup_cons->cz,size_toArray->cC,pairwise_map->cD,length_take->cG,any_eq_true->cH,mem_filter->cL,getElem?_append_left->cP,mem_or_eq_of_mem_set->cR,getElem?_set_self->cX,take_sublist->cZ,mem_iff_getElem?->dc,getElem?_set_ne->dg,mem_flatten->dj,getElem?_range->dq,getElem_of_mem->dt,reverse_append->du,foldl_cons->dx,mem_of_find?_eq_some->dy,filter_append->dF,take_take->dI,drop_sublist->dM,take_add_one->dO,drop_eq_nil_of_le->dQ,map_cons->dR,getElem_inj->dX,take_succ_eq_append_getElem->dY,mem_reverse->dZ,pairwise_reverse->eA,length_filter_le->eB,length_take_le'->eF,any_map->eG,mem_iff_getElem->eH,length_zip->eK,map_set->eM,lookup->eP,range'->eQ,mem_filterMap->eR,findIdx?_cons->eV,length_eraseIdx_of_lt->fg,all_cons->fi,reverse_perm->fk,getElem?_take_of_lt->fz,filterMap_cons_some->fG,all_map->fJ,mem_singleton_self->fM,find?_cons->fO,nil_append->fP,range_succ->fR,drop_of_length_le->fU,pairwise_lt_range->fX,length_replicate->gf,drop_zero->gg,getElem?_eq_none->gj,drop_drop->gk,drop_take->gn,mem_append_right->gq,length_singleton->gv,foldl->gB,mem_append_left->gD,map_take->gG,toList_toArray->gI,replicate_succ->gJ,length_flatten->gL,filter_sublist->gM
open Nat renaming le_trans->ae,lt_of_lt_of_le->aA,le_refl->aC,zero_le->aE,le_of_lt->aK,lt_of_le_of_lt->aM,le_add_left->aQ,le_of_lt_succ->aR,add_le_add_left->aV,le_add_right->aY,le_antisymm->aZ,succ_le_succ->bc,min_le_left->be,le_of_eq->bf,not_lt->bg,lt_irrefl->bn,lt_succ_self->bp,le_sub_one_of_lt->bq,ne_of_lt->br,min_eq_left->bt,zero_add->bC,lt_succ_of_lt->bE,lt_trans->bO,sub_pos_of_lt->bP,lt_of_succ_lt->bQ,add_lt_add_left->bR,not_lt_zero->bS,max_eq_right->bZ,lt_of_le_of_ne->ca,sub_le_sub_right->cc,add_le_add_right->cf,sub_le->cj,min_le_right->cm,le_of_not_lt->cn,le_of_sub_eq_zero->cr,one_pos->cy,add_sub_cancel_left->cE,sub_le_sub_left->cF,not_le->cI,add_sub_of_le->cO,sub_self->cS,sub_lt->cW,eq_zero_of_not_pos->cY,add_lt_of_lt_sub'->de,min_eq_right->dh,le_succ->dm,ne_of_gt->dz,add_comm->dA,lt_or_eq_of_le->dD,min_self->dE,lt_succ_iff_lt_or_eq->dG,add_le_add->dJ,le_succ_of_le->dN,add_assoc->dU,add_min_add_right->ew,max_le->eJ,mul_le_mul_left->eO,eq_or_lt_of_le->eW,add_right_comm->eZ,sub_add_cancel->fb,lt_succ_of_le->fj,le_min->fw,lt_of_add_lt_add_left->fx,succ_ne_zero->fE,le_max_right->fH,lt_add_of_pos_right->fK,exists_eq_add_of_le->fL,strongRecOn->fQ,sub_eq_zero_iff_le->fV,le_zero->fW,le_mul_of_pos_left->fY,le_div_iff_mul_le->gh,add_le_of_le_sub'->gm,le_of_ble_eq_true->gw,add_lt_add_right->gx,sub_lt_sub_right->gy,not_succ_le_self->gz,lt_sub_of_add_lt->gC,succ_pos->gQ,mul_two->gU
open Bool renaming false_ne_true->ag,and_eq_true_iff->ba,and_eq_true->bo,false_xor->ct,true_xor->cM,false_and->db,or_eq_true->dv,eq_iff_iff->dw,and_false->dK,true_and->fh
open PySem.Heap renaming get?_push_of_some->an,get?_push_size->aB,lt_size->aU,get?_update_self->co,get?_some_iff->cV,size_push->dH,get?_update_other->dP,get?_update_ne->eN
open Array renaming length_toList->ao,getElem?_toList->aD,getElem?_eq_getElem->aG,getElem?_eq_some_iff->bG,toList_append->bJ,toList_extract->cB,toList_push->cN,getElem?_mapIdx->ee,toArray_toList->eE,toList_reverse->eI,toList_setIfInBounds->fc,any_toList->fF,getElem?_eq_none->fS,getElem_extract->gu,size_extract->gR
open Option renaming map_eq_some_iff->aJ,isNone_iff_eq_none->bV,isSome_iff_exists->cA,some_ne_none->dp,elim->fT
open Int renaming natCast_nonneg->aT,eq_ofNat_of_zero_le->bv,le_trans->bw,toNat_of_nonneg->bD,le_refl->bK,not_lt->bM,le_of_lt->bY,zero_add->cK,le_sub_one_of_lt->cQ,lt_irrefl->cU,lt_of_le_sub_one->dk,lt_of_le_of_lt->dB,lt_of_lt_of_le->dC,toNat_natCast->dL,max_eq_right->dW,toNat_lt->eD,ofNat_lt->eL,add_lt_of_lt_sub_left->fy,min_eq_left->fN,lt_iff_le_and_ne->gA,le_of_neg_le_neg->gE,le_of_lt_add_one->gF,ofNat_le->gN,ne_of_gt->gO,toNat_le->gP,sub_zero->gS
open PySem.Calls renaming loadGlobal_builtin->aX,callWith_builtin->ch,docDef->cJ,loadGlobal_global->cT,call_function_entry->fu,call_len_list->gH
open PySem.Obj renaming mapSeq->bh,putSet->fq
open Classical renaming byContradiction->cx,not_not->da
open PyProof.Rows renaming slot_tuple_getitem->eC,slicePart_none->eU,bindName_->fZ,tail_any->gc,kindOf->gK
set_option Elab.async false
set_option linter.all false
set_option bootstrap.genMatcherCode false
section
set_option maxRecDepth 100000
set_option maxHeartbeats 8000000
open PySem PySem.W PyProof.Rows
namespace Internal
noncomputable def ent(P:Params)(k:String)(t:Nat)(v:Value):DictEntry:=⟨PyData.keyHash P (Str.ofString k),.str (Str.ofString k) t,v⟩
noncomputable def fe:Value:=.str (Str.ofString "formlines.errors") 187
noncomputable def nsO(P:Params)(a t L:Nat):Obj:={cls:=.type "dict",data:=.dict #[ent P "__module__" (t+7) fe,ent P "__firstlineno__" (t+11) (.int L (t+10)),ent P "__static_attributes__" (t+12) (.ref (a+7)),ent P "__doc__" (t+13) .none] 2}
noncomputable def clO(a t:Nat)(x:String):Obj:={cls:=.type "type",data:=.cls {name:=Str.ofString x,bases:=[.ref 24],mro:=[.ref (a+9),.ref 24,.type "ValueError",.type "Exception",.type "BaseException",.type "object"],ns:=a+8,qualname:=Str.ofString x},slots:=#[some (.ref a),none,some (.str (Str.ofString x) t),some (.str (Str.ofString x) (t+8)),some (.builtin "ValueError.__new__"),some (.bool true)]}
noncomputable def coO(a t L:Nat)(x:String):Obj:={cls:=.type "code",data:=.fields #[.str (Str.ofString x) t,.str (Str.ofString x) (t+1),.str (Str.ofString "/claim/cut.py") (t+2),.int L 0,.int 0 0,.int 0 0,.int 0 0,.int 0 0,.ref a,.bool false,.int 181 0,.ref (a+1),.none,.none,.none,.none,.int (t+3) 0,.int L 0,.str (Str.ofString "/claim/cut.py") (t+4)]}
noncomputable def tu0:Obj:={cls:=.type "tuple",data:=.seq #[]}
noncomputable def fi0:Obj:={cls:=.none,data:=.fields #[]}
noncomputable def bfO(x:String)(v:Value):Obj:={cls:=.type "builtin_function_or_method",data:=.fields #[.builtin x,v]}
noncomputable def frO(a b:Nat)(v:Value):Obj:={cls:=.type "frame",slots:=#[some (.ref a),some (.ref 3),some (.ref b),none,some v,none,some (.ref 0)]}
noncomputable def ldO(P:Params)(a t L:Nat)(x:String):Obj:={cls:=.type "dict",data:=.dict #[ent P "__module__" t fe,ent P "__qualname__" (t+2) (.str (Str.ofString x) (t+1)),ent P "__firstlineno__" (t+4) (.int L (t+3)),ent P "__static_attributes__" (t+5) (.ref a)] 4}
noncomputable def suO(a:Nat):Obj:={cls:=.type "super",data:=.fields #[.ref a,.ref a,.ref a]}
noncomputable def J4(P:Params)(a t L:Nat)(x:String):List Obj:=[{cls:=.type "tuple",data:=.seq #[.ref 24]},bfO "type.__prepare__" (.type "type"),ldO P (a+7) (t+7) L x,tu0,fi0,coO (a+3) (t+2) L x,frO (a+5) (a+2) fe,tu0,nsO P a t L,clO a t x,suO (a+9),bfO "object.__init_subclass__" (.ref (a+9))]
noncomputable def aw9(P:Params):Obj:={cls:=.type "dict",data:=.dict #[ent P "__module__" 196 fe,ent P "__firstlineno__" 200 (.int 2 199),ent P "__static_attributes__" 201 (.ref 22),ent P "__weakref__" 203 (.ref 25),ent P "__doc__" 204 .none] 3}
noncomputable def au5:Obj:={cls:=.type "type",data:=.cls {name:=Str.ofString "FormError",bases:=[.type "ValueError"],mro:=[.ref 24,.type "ValueError",.type "Exception",.type "BaseException",.type "object"],ns:=23,qualname:=Str.ofString "FormError",subclasses:=[.ref 37,.ref 49,.ref 61,.ref 73,.ref 85,.ref 97]},slots:=#[some (.ref 15),none,some (.str (Str.ofString "FormError") 189),some (.str (Str.ofString "FormError") 197),some (.builtin "ValueError.__new__"),some (.bool true)]}
noncomputable def myK(P:Params):Frag:=[(3,{cls:=.type "dict",data:=.dict #[ent P "__name__" 165 (.str (Str.ofString "law_uf010038_08") 594),ent P "__doc__" 166 .none,ent P "__package__" 167 .none,ent P "__loader__" 168 (.builtin "__main__.__loader__#opaque"),ent P "__spec__" 169 .none,ent P "__annotations__" 170 (.ref 6),ent P "__builtins__" 171 (.ref 4),ent P "__file__" 173 (.str (Str.ofString "/claim/cut.py") 172),ent P "__cached__" 174 .none,ent P "FormError" 206 (.ref 24),ent P "NoTable" 222 (.ref 37),ent P "NoForm" 238 (.ref 49),ent P "NoRule" 254 (.ref 61),ent P "Ring" 270 (.ref 73),ent P "NoPaper" 286 (.ref 85),ent P "NoChoice" 302 (.ref 97),ent P "GREATEST" 306 (.int 1000000000 305),ent P "MOST_ROWS" 308 (.int 20 307),ent P "is_from" 317 (.ref 106),ent P "is_number" 324 (.ref 113),ent P "is_row" 331 (.ref 120),ent P "is_table" 337 (.ref 125),ent P "at_number" 349 (.ref 132),ent P "DEEPEST" 353 (.int 8 352),ent P "LONGEST" 355 (.int 8 354),ent P "LETTERS" 357 (.str (Str.ofString "abcdefghijklmnopqrstuvwxyz") 356),ent P "SIZES" 394 (.ref 133),ent P "is_word" 400 (.ref 138),ent P "within" 408 (.ref 145),ent P "is_fitting" 419 (.ref 152),ent P "is_one" 431 (.ref 159),ent P "is_rule" 441 (.ref 166),ent P "gathered" 451 (.ref 173),ent P "named" 459 (.ref 180),ent P "MOST_LINES" 463 (.int 40 462),ent P "MOST_TABLES" 465 (.int 5 464),ent P "MOST_CHOICES" 467 (.int 8 466),ent P "steps_to" 480 (.ref 187),ent P "ring_from" 486 (.ref 192),ent P "ring_of" 492 (.ref 197),ent P "form_of" 498 (.ref 202),ent P "order_of" 504 (.ref 207),ent P "papers_of" 515 (.ref 214),ent P "need_taken" 524 (.ref 221),ent P "of_two" 533 (.ref 228),ent P "leaf" 546 (.ref 235),ent P "worth" 555 (.ref 242),ent P "reckoned" 561 (.ref 247),ent P "history" 567 (.ref 252),ent P "hanging_on" 573 (.ref 257),ent P "hanging" 583 (.ref 264),ent P "hanging_choice" 593 (.ref 271),ent P "_law_cell_at" 603 (.ref 278),ent P "_law_mixed" 611 (.ref 285),ent P "_law_next" 619 (.ref 292),ent P "_law_number" 627 (.ref 299),ent P "_law_table" 639 (.ref 306),ent P "_law_words" 651 (.ref 313),ent P "_law_plain" 662 (.ref 320),ent P "_law_rule" 676 (.ref 327),ent P "_law_sizes" 687 (.ref 334),ent P "_law_order" 697 (.ref 341),ent P "_law_form" 703 (.ref 346),ent P "_law_named" 709 (.ref 351),ent P "_law_papers" 715 (.ref 356),ent P "_law_taken" 721 (.ref 361),ent P "_law_hangs" 739 (.ref 368),ent P "_law_others_stay" 750 (.ref 375),ent P "_law_pairs" 759 (.ref 382),ent P "law" 765 (.ref 387)] 70}),(133,{cls:=.type "dict",data:=.dict #[ent P "number" 358 (.int 2 359),ent P "paper" 360 (.int 2 361),ent P "line" 362 (.int 2 363),ent P "earlier" 364 (.int 2 365),ent P "add" 366 (.int 3 367),ent P "take" 368 (.int 3 369),ent P "least" 370 (.int 3 371),ent P "most" 372 (.int 3 373),ent P "part" 374 (.int 3 375),ent P "table" 376 (.int 3 377),ent P "where" 378 (.int 4 379),ent P "choose" 380 (.int 4 381)] 12}),(24,au5),(23,aw9 P),(37,clO 28 207 "NoTable"),(36,nsO P 28 207 4),(49,clO 40 223 "NoForm"),(48,nsO P 40 223 6),(61,clO 52 239 "NoRule"),(60,nsO P 52 239 8),(73,clO 64 255 "Ring"),(72,nsO P 64 255 10),(85,clO 76 271 "NoPaper"),(84,nsO P 76 271 12),(97,clO 88 287 "NoChoice"),(96,nsO P 88 287 14)]
noncomputable def aW8(no:List Nat)(l:List Stmt):List Stmt:=(l.zipIdx.filter λx=>!no.contains x.2).map (·.1)
noncomputable def viw:Program:={Challenge.pw_uf010038_08 with main:={Challenge.pw_uf010038_08.main with body:=aW8 [0,8,16,28,37,48] Challenge.pw_uf010038_08.main.body}}
theorem ak7:OpenLaw.wellSaid PySem.Challenge.rw_uf010038_08=true:=by kernel_rfl
noncomputable def xt4(s:Shared):Bool:=xlAt viw [] s&&recOk (RowW.records (OpenRow.toRowW (OpenLaw.row PySem.Challenge.rw_uf010038_08))) s
noncomputable def mn:Value:=.str (Str.ofString "__main__") 164
noncomputable def ak6:List Obj->Nat->BT->BT
 | [],_,t=>t
 | o::l,n,t=>ak6 l (n+1) (t.ins n o)
noncomputable def st0(P:Params)(os:OsState):SharedT:=⟨ak6 [boot_o_0 P,boot_o_1 P,boot_o_2 P,boot_o_3 P,boot_o_4 P,boot_o_5 P,boot_o_6 P,boot_o_7 P,boot_o_8 P,boot_o_9 P,boot_o_10 P,tu0,fi0,coO 11 182 1 "<module>",frO 13 3 mn] 0 .nil,15,{},#[],boot_drawn,187,os⟩
noncomputable def stM(P:Params)(os:OsState):SharedT:=⟨ak6 ([boot_o_0 P,boot_o_1 P,boot_o_2 P,{cls:=.type "dict",data:=.dict #[ent P "__name__" 165 (.str (Str.ofString "formlines.errors") 187),ent P "__doc__" 166 .none,ent P "__package__" 167 .none,ent P "__loader__" 168 (.builtin "__main__.__loader__#opaque"),ent P "__spec__" 169 .none,ent P "__annotations__" 170 (.ref 6),ent P "__builtins__" 171 (.ref 4),ent P "__file__" 173 (.str (Str.ofString "/claim/cut.py") 172),ent P "__cached__" 174 .none,ent P "FormError" 206 (.ref 24),ent P "NoTable" 222 (.ref 37),ent P "NoForm" 238 (.ref 49),ent P "NoRule" 254 (.ref 61),ent P "Ring" 270 (.ref 73),ent P "NoPaper" 286 (.ref 85),ent P "NoChoice" 302 (.ref 97)] 16},boot_o_4 P,boot_o_5 P,boot_o_6 P,boot_o_7 P,boot_o_8 P,boot_o_9 P,boot_o_10 P,tu0,{cls:=.none,data:=.fields #[.int 2 0,.int 0 0,.ref 20,.int 4 0,.int 0 0,.ref 33,.int 6 0,.int 0 0,.ref 45,.int 8 0,.int 0 0,.ref 57,.int 10 0,.int 0 0,.ref 69,.int 12 0,.int 0 0,.ref 81,.int 14 0,.int 0 0,.ref 93]},coO 11 182 1 "<module>",frO 13 3 mn,{cls:=.type "tuple",data:=.seq #[.type "ValueError"]},bfO "type.__prepare__" (.type "type"),ldO P 22 196 2 "FormError",tu0,fi0,coO 18 191 2 "FormError",frO 20 17 fe,tu0,aw9 P,au5,{cls:=.type "getset_descriptor",data:=.fields #[.str (Str.ofString "__weakref__") 202,.ref 24,.builtin "ExceptionGroup.__weakref__",.none]},suO 24,bfO "object.__init_subclass__" (.ref 24)]++J4 P 28 207 4 "NoTable" ++ J4 P 40 223 6 "NoForm" ++ J4 P 52 239 8 "NoRule" ++ J4 P 64 255 10 "Ring" ++ J4 P 76 271 12 "NoPaper" ++ J4 P 88 287 14 "NoChoice") 0 .nil,100,{},#[],boot_drawn,303,os⟩
noncomputable def X6:Env:={scope:=Challenge.pw_uf010038_08.main.scope,locals:=mainNs,globals:=mainNs,cells:=[],code:=.ref 13,frame:=some 14}
noncomputable def bdT:List Stmt:=behindTheImports Challenge.pw_uf010038_08
noncomputable def cdT:Code:=.body bdT X6
noncomputable def p00:Pos:=⟨0,0,0,0⟩
noncomputable def pM:Pos:=⟨14,0,15,8⟩
theorem bj9:opening Challenge.pw_uf010038_08=plainProg Challenge.pw_uf010038_08.main.scope.names:=by kernel_rfl
theorem bp6(s:Shared):fenceModules? Challenge.pw_uf010038_08 s=some s:=by kernel_rfl
theorem aU0(w:World)(os:OsState):topGo treeTable Challenge.pw_uf010038_08 w 11 (some (.ref 6)) 12 ⟨boot_heap w.params,#[],boot_drawn,boot_toks,os⟩ (topStub Challenge.pw_uf010038_08)=some ((st0 w.params os).abs,⟨denote treeTable cdT,cdT,p00,[topFrame p00]⟩):=by kernel_rfl
theorem aQ1(w:World)(os:OsState):segRun treeTable Challenge.pw_uf010038_08 w 11 (some (.ref 6)) 1 1 (st0 w.params os).abs (blockOf bdT X6 cdT p00 [topFrame p00])=some (.next,(st0 w.params os).abs,cdT,p00):=by kernel_rfl
theorem bS5(w:World):((boot_heap w.params).isNs mainGlobals&&(#[]:Array GenState).size==0,(boot_heap w.params).objs.size,(boot_heap w.params).nsMap mainGlobals "__annotations__")=(true,11,some (.ref 6)):=by kernel_rfl
theorem cg0{w:World}{s:Shared}{c:Code}{pos:Pos}:topRun treeTable Challenge.pw_uf010038_08 w 11 (some (.ref 6)) 2 s ⟨doneF .next,c,pos,[topFrame p00]⟩=some s:=by
 obtain⟨h,g,d,k,os⟩:=s;rfl
theorem aP7(w:World)(os:OsState):segRunT treeTable Challenge.pw_uf010038_08 w 11 (some (.ref 6)) 1 1524 (st0 w.params os) (piecesOf (bdT.take 8) X6 cdT p00 [topFrame p00])=some (.next,stM w.params os,cdT,pM):=by kernel_rfl
noncomputable def lks(P:Params)(s:Shared):=((staticsOk (importedModules Challenge.pw_uf010038_08.main.body) (boot_heap P) s.heap&&namesBound Challenge.pw_uf010038_08 s.heap&&gensDone s&&laidKept (boot_heap P) s.heap),openSeen viw [Str.ofString "SIZES"] (importedModules Challenge.pw_uf010038_08.main.body) xt4 true s,Hook.obs (kHook myK [3,133,24,23,37,36,49,48,61,60,73,72,85,84,97,96] (λ_=>rfl)) s)
noncomputable def ah9(w:World)(os:OsState):=(segRunT treeTable Challenge.pw_uf010038_08 w 11 (some (.ref 6)) 1 1751 (stM w.params os) (piecesOf (bdT.drop 8) X6 cdT pM [topFrame p00])).map λx=>(x.1,x.2.2.1,lks w.params x.2.1.abs)
theorem aU6(w:World)(os:OsState):ah9 (w.withFollow "special-get-raises" true) os=some (.next,cdT,true,openGood viw [Str.ofString "SIZES"],Hook.val (kHook myK [3,133,24,23,37,36,49,48,61,60,73,72,85,84,97,96] (λ_=>rfl)) (w.withFollow "special-get-raises" true)):=by kernel_rfl
theorem bE3(w:World)(os:OsState):ah9 (w.withFollow "special-get-raises" false) os=some (.next,cdT,true,openGood viw [Str.ofString "SIZES"],Hook.val (kHook myK [3,133,24,23,37,36,49,48,61,60,73,72,85,84,97,96] (λ_=>rfl)) (w.withFollow "special-get-raises" false)):=by kernel_rfl
theorem bQ9(w:World)(os:OsState):ah9 w os=some (.next,cdT,true,openGood viw [Str.ofString "SIZES"],Hook.val (kHook myK [3,133,24,23,37,36,49,48,61,60,73,72,85,84,97,96] (λ_=>rfl)) w):=by
 have e:=World.withFollow_self w "special-get-raises";cases hb:w.params.followText "special-get-raises" with
 | true=>rw[hb] at e;have:=aU6 w os;rw[e] at this;exact this
 | false=>rw[hb] at e;have:=bE3 w os;rw[e] at this;exact this
theorem bN8{w:World}{s r:Shared}{n:Nat}{ann:Option Value}(z1:(s.heap.isNs mainGlobals&&s.gens.size==0)=true)(z2:s.heap.objs.size=n)(z3:s.heap.nsMap mainGlobals "__annotations__" = ann)(h:topRun treeTable Challenge.pw_uf010038_08 w n ann 5000 s (topStub Challenge.pw_uf010038_08)=some r)
  (l:(staticsOk (importedModules Challenge.pw_uf010038_08.main.body) s.heap r.heap&&namesBound Challenge.pw_uf010038_08 r.heap&&gensDone r&&laidKept s.heap r.heap)=true):topFrom treeTable Challenge.pw_uf010038_08 w 5000 s=some r:=by
 unfold topFrom;rw[z1,z2,z3,h];show(match staticsOk (importedModules Challenge.pw_uf010038_08.main.body) s.heap r.heap&&namesBound Challenge.pw_uf010038_08 r.heap&&gensDone r&&laidKept s.heap r.heap with | true=>_ | false=>_)=_
 rw[l]
theorem left:LeftO Challenge.pw_uf010038_08 viw [Str.ofString "SIZES"] xt4 (Hook.obs (kHook myK [3,133,24,23,37,36,49,48,61,60,73,72,85,84,97,96] (λ_=>rfl))) (Hook.val (kHook myK [3,133,24,23,37,36,49,48,61,60,73,72,85,84,97,96] (λ_=>rfl))) 5000:=λw=>by
 obtain⟨⟨h,gs,d,k,os⟩,e,e'⟩:=aJ.mp (boot_open (N:=5000) bj9 (by decide) bp6 w)
 obtain⟨rfl,rfl,rfl,rfl⟩:h=boot_heap w.params/\gs=#[]/\d=boot_drawn/\k=boot_toks:=by simpa using e'
 obtain⟨z1,z2,z3⟩:_/\_/\_:=by simpa only[Prod.mk.injEq] using bS5 w
 obtain⟨⟨f,s',c',q'⟩,h1,h2⟩:=aJ.mp (bQ9 w os);obtain⟨h2,h3⟩:=Prod.mk.inj h2;obtain⟨h4,h5⟩:=Prod.mk.inj h3;obtain⟨l1,h6⟩:=Prod.mk.inj h5;obtain⟨l2,l3⟩:=Prod.mk.inj h6;dsimp only at h2 h4
 subst h2 h4;have r:topRun treeTable Challenge.pw_uf010038_08 w 11 (some (.ref 6)) (12+(1+(1524+(1751+2)))) ⟨boot_heap w.params,#[],boot_drawn,boot_toks,os⟩ (topStub Challenge.pw_uf010038_08)=some s'.abs:=by
  refine go_top (aU0 w os) (piece_block (aQ1 w os) ?_);have a:=piece_app (l:=bdT.drop 8) (rest:=[]) (segRun_of h1) (piece_nil cg0);rw[aS] at a;have b:=piece_app (l:=bdT.take 8) (rest:=bdT.drop 8) (segRun_of (aP7 w os)) a;rw[bW] at b;exact b
 have r:=topRun_mono (5000-(12+(1+(1524+(1751+2))))) _ _ _ _ r;unfold openEnds;rw[e];show(topFrom treeTable Challenge.pw_uf010038_08 w 5000 _).map _=_;rw[bN8 z1 z2 z3 r l1];exact congrArg some (Prod.ext l2 l3)
end Internal
end
set_option tactic.hygienic false
set_option genSizeOf false
open PySem
namespace Internal
theorem ah4{n:Int}{k:Nat}(h0:0<=n)(h:n<k):n.toNat<k:=(eD h0).mpr h
theorem cc9{a n:Nat}(h:a<=n):max (0:Int) (min (a:Int) n)=a:=by rw[fN (gN.mpr h)];exact dW (aT _)
theorem c6{p1 p2:Prop}{P:Prop}(h:p1/\p2)(k:p1->p2->P):P:=k h.1 h.2
theorem k8{p1 p2 p3:Prop}{P:Prop}(h:p1/\p2/\p3)(k:p1->p2->p3->P):P:=k h.1 h.2.1 h.2.2
theorem ae1{p1 p2 p3 p4:Prop}{P:Prop}(h:p1/\p2/\p3/\p4)(k:p1->p2->p3->p4->P):P:=k h.1 h.2.1 h.2.2.1 h.2.2.2
theorem Z3{p1 p2 p3 p4 p5 p6 p7:Prop}{P:Prop}(h:p1/\p2/\p3/\p4/\p5/\p6/\p7)(k:p1->p2->p3->p4->p5->p6->p7->P):P:=k h.1 h.2.1 h.2.2.1 h.2.2.2.1 h.2.2.2.2.1 h.2.2.2.2.2.1 h.2.2.2.2.2.2
theorem c5{α1:Sort _}{p1:α1->Prop}{P:Prop}(h:∃ a1,p1 a1)(k:∀ a1,p1 a1->P):P:=h.elim λa1 h=>k a1 h
theorem a9{α1:Sort _}{p1 p2:α1->Prop}{P:Prop}(h:∃ a1,p1 a1/\p2 a1)(k:∀ a1,p1 a1->p2 a1->P):P:=h.elim λa1 h=>k a1 h.1 h.2
theorem f9{α1:Sort _}{p1 p2 p3:α1->Prop}{P:Prop}(h:∃ a1,p1 a1/\p2 a1/\p3 a1)(k:∀ a1,p1 a1->p2 a1->p3 a1->P):P:=h.elim λa1 h=>k a1 h.1 h.2.1 h.2.2
theorem z8{α1:Sort _}{p1 p2 p3 p4:α1->Prop}{P:Prop}(h:∃ a1,p1 a1/\p2 a1/\p3 a1/\p4 a1)(k:∀ a1,p1 a1->p2 a1->p3 a1->p4 a1->P):P:=h.elim λa1 h=>k a1 h.1 h.2.1 h.2.2.1 h.2.2.2
theorem bf3{α1:Sort _}{p1 p2 p3 p4 p5 p6:α1->Prop}{P:Prop}(h:∃ a1,p1 a1/\p2 a1/\p3 a1/\p4 a1/\p5 a1/\p6 a1)(k:∀ a1,p1 a1->p2 a1->p3 a1->p4 a1->p5 a1->p6 a1->P):P:=h.elim λa1 h=>k a1 h.1 h.2.1 h.2.2.1 h.2.2.2.1 h.2.2.2.2.1 h.2.2.2.2.2
theorem p8{α1 α2:Sort _}{p1:α1->α2->Prop}{P:Prop}(h:∃ a1 a2,p1 a1 a2)(k:∀ a1 a2,p1 a1 a2->P):P:=h.elim λa1 h=>h.elim λa2 h=>k a1 a2 h
theorem j8{α1 α2:Sort _}{p1 p2:α1->α2->Prop}{P:Prop}(h:∃ a1 a2,p1 a1 a2/\p2 a1 a2)(k:∀ a1 a2,p1 a1 a2->p2 a1 a2->P):P:=h.elim λa1 h=>h.elim λa2 h=>k a1 a2 h.1 h.2
theorem f7{α1 α2:Sort _}{p1 p2 p3:α1->α2->Prop}{P:Prop}(h:∃ a1 a2,p1 a1 a2/\p2 a1 a2/\p3 a1 a2)(k:∀ a1 a2,p1 a1 a2->p2 a1 a2->p3 a1 a2->P):P:=h.elim λa1 h=>h.elim λa2 h=>k a1 a2 h.1 h.2.1 h.2.2
theorem bF1{α1 α2:Sort _}{p1 p2 p3 p4 p5 p6:α1->α2->Prop}{P:Prop}(h:∃ a1 a2,p1 a1 a2/\p2 a1 a2/\p3 a1 a2/\p4 a1 a2/\p5 a1 a2/\p6 a1 a2)(k:∀ a1 a2,p1 a1 a2->p2 a1 a2->p3 a1 a2->p4 a1 a2->p5 a1 a2->p6 a1 a2->P):P:=h.elim λa1 h=>h.elim λa2 h=>k a1 a2 h.1 h.2.1 h.2.2.1 h.2.2.2.1 h.2.2.2.2.1 h.2.2.2.2.2
theorem Ma5{α1 α2 α3:Sort _}{p1:α1->α2->α3->Prop}{P:Prop}(h:∃ a1 a2 a3,p1 a1 a2 a3)(k:∀ a1 a2 a3,p1 a1 a2 a3->P):P:=h.elim λa1 h=>h.elim λa2 h=>h.elim λa3 h=>k a1 a2 a3 h
theorem x6{α1 α2 α3:Sort _}{p1 p2:α1->α2->α3->Prop}{P:Prop}(h:∃ a1 a2 a3,p1 a1 a2 a3/\p2 a1 a2 a3)(k:∀ a1 a2 a3,p1 a1 a2 a3->p2 a1 a2 a3->P):P:=h.elim λa1 h=>h.elim λa2 h=>h.elim λa3 h=>k a1 a2 a3 h.1 h.2
theorem l5{α1 α2 α3:Sort _}{p1 p2 p3:α1->α2->α3->Prop}{P:Prop}(h:∃ a1 a2 a3,p1 a1 a2 a3/\p2 a1 a2 a3/\p3 a1 a2 a3)(k:∀ a1 a2 a3,p1 a1 a2 a3->p2 a1 a2 a3->p3 a1 a2 a3->P):P:=h.elim λa1 h=>h.elim λa2 h=>h.elim λa3 h=>k a1 a2 a3 h.1 h.2.1 h.2.2
theorem bE0{α1 α2 α3:Sort _}{p1 p2 p3 p4:α1->α2->α3->Prop}{P:Prop}(h:∃ a1 a2 a3,p1 a1 a2 a3/\p2 a1 a2 a3/\p3 a1 a2 a3/\p4 a1 a2 a3)(k:∀ a1 a2 a3,p1 a1 a2 a3->p2 a1 a2 a3->p3 a1 a2 a3->p4 a1 a2 a3->P):P:=h.elim λa1 h=>h.elim λa2 h=>h.elim λa3 h=>k a1 a2 a3 h.1 h.2.1 h.2.2.1 h.2.2.2
theorem M0{α1 α2 α3:Sort _}{p1 p2 p3 p4 p5:α1->α2->α3->Prop}{P:Prop}(h:∃ a1 a2 a3,p1 a1 a2 a3/\p2 a1 a2 a3/\p3 a1 a2 a3/\p4 a1 a2 a3/\p5 a1 a2 a3)(k:∀ a1 a2 a3,p1 a1 a2 a3->p2 a1 a2 a3->p3 a1 a2 a3->p4 a1 a2 a3->p5 a1 a2 a3->P):P:=h.elim λa1 h=>h.elim λa2 h=>h.elim λa3 h=>k a1 a2 a3 h.1 h.2.1 h.2.2.1 h.2.2.2.1 h.2.2.2.2
theorem aB3{α1 α2 α3:Sort _}{p1 p2 p3 p4 p5 p6:α1->α2->α3->Prop}{P:Prop}(h:∃ a1 a2 a3,p1 a1 a2 a3/\p2 a1 a2 a3/\p3 a1 a2 a3/\p4 a1 a2 a3/\p5 a1 a2 a3/\p6 a1 a2 a3)(k:∀ a1 a2 a3,p1 a1 a2 a3->p2 a1 a2 a3->p3 a1 a2 a3->p4 a1 a2 a3->p5 a1 a2 a3->p6 a1 a2 a3->P):P:=h.elim λa1 h=>h.elim λa2 h=>h.elim λa3 h=>k a1 a2 a3 h.1 h.2.1 h.2.2.1 h.2.2.2.1 h.2.2.2.2.1 h.2.2.2.2.2
theorem B0{α1 α2 α3 α4:Sort _}{p1 p2:α1->α2->α3->α4->Prop}{P:Prop}(h:∃ a1 a2 a3 a4,p1 a1 a2 a3 a4/\p2 a1 a2 a3 a4)(k:∀ a1 a2 a3 a4,p1 a1 a2 a3 a4->p2 a1 a2 a3 a4->P):P:=h.elim λa1 h=>h.elim λa2 h=>h.elim λa3 h=>h.elim λa4 h=>k a1 a2 a3 a4 h.1 h.2
theorem aW1{α1 α2 α3 α4:Sort _}{p1 p2 p3 p4:α1->α2->α3->α4->Prop}{P:Prop}(h:∃ a1 a2 a3 a4,p1 a1 a2 a3 a4/\p2 a1 a2 a3 a4/\p3 a1 a2 a3 a4/\p4 a1 a2 a3 a4)(k:∀ a1 a2 a3 a4,p1 a1 a2 a3 a4->p2 a1 a2 a3 a4->p3 a1 a2 a3 a4->p4 a1 a2 a3 a4->P):P:=h.elim λa1 h=>h.elim λa2 h=>h.elim λa3 h=>h.elim λa4 h=>k a1 a2 a3 a4 h.1 h.2.1 h.2.2.1 h.2.2.2
theorem an0{α1 α2 α3 α4:Sort _}{p1 p2 p3 p4 p5:α1->α2->α3->α4->Prop}{P:Prop}(h:∃ a1 a2 a3 a4,p1 a1 a2 a3 a4/\p2 a1 a2 a3 a4/\p3 a1 a2 a3 a4/\p4 a1 a2 a3 a4/\p5 a1 a2 a3 a4)(k:∀ a1 a2 a3 a4,p1 a1 a2 a3 a4->p2 a1 a2 a3 a4->p3 a1 a2 a3 a4->p4 a1 a2 a3 a4->p5 a1 a2 a3 a4->P):P:=h.elim λa1 h=>h.elim λa2 h=>h.elim λa3 h=>h.elim λa4 h=>k a1 a2 a3 a4 h.1 h.2.1 h.2.2.1 h.2.2.2.1 h.2.2.2.2
theorem ao8{α1 α2 α3 α4:Sort _}{p1 p2 p3 p4 p5 p6:α1->α2->α3->α4->Prop}{P:Prop}(h:∃ a1 a2 a3 a4,p1 a1 a2 a3 a4/\p2 a1 a2 a3 a4/\p3 a1 a2 a3 a4/\p4 a1 a2 a3 a4/\p5 a1 a2 a3 a4/\p6 a1 a2 a3 a4)(k:∀ a1 a2 a3 a4,p1 a1 a2 a3 a4->p2 a1 a2 a3 a4->p3 a1 a2 a3 a4->p4 a1 a2 a3 a4->p5 a1 a2 a3 a4->p6 a1 a2 a3 a4->P):P:=h.elim λa1 h=>h.elim λa2 h=>h.elim λa3 h=>h.elim λa4 h=>k a1 a2 a3 a4 h.1 h.2.1 h.2.2.1 h.2.2.2.1 h.2.2.2.2.1 h.2.2.2.2.2
theorem aR6{α1 α2 α3 α4 α5:Sort _}{p1 p2 p3 p4 p5:α1->α2->α3->α4->α5->Prop}{P:Prop}(h:∃ a1 a2 a3 a4 a5,p1 a1 a2 a3 a4 a5/\p2 a1 a2 a3 a4 a5/\p3 a1 a2 a3 a4 a5/\p4 a1 a2 a3 a4 a5/\p5 a1 a2 a3 a4 a5)(k:∀ a1 a2 a3 a4 a5,p1 a1 a2 a3 a4 a5->p2 a1 a2 a3 a4 a5->p3 a1 a2 a3 a4 a5->p4 a1 a2 a3 a4 a5->p5 a1 a2 a3 a4 a5->P):P:=h.elim λa1 h=>h.elim λa2 h=>h.elim λa3 h=>h.elim λa4 h=>h.elim λa5 h=>k a1 a2 a3 a4 a5 h.1 h.2.1 h.2.2.1 h.2.2.2.1 h.2.2.2.2
theorem f5{α:Type}{a:α}{P:Prop}(e:none=some a):P:=(nomatch e)
theorem z9{α:Type}{a:α}{P:Prop}(e:some a=none):P:=(nomatch e)
theorem g8{α:Type}{a b:α}(e:some a=some b):a=b:=Option.some.inj e
inductive V where
 | none
 | bool (b:Bool)
 | int (i:Int)
 | str (s:Str)
 | tup (l:List V)
 | ref (a:Addr)
set_option genInjectivity false
set_option genCtorIdx false
inductive AObj where
 | lst (l:List V)
 | di (l:List (Int×V))
 | ds (l:List (Str×V))
 | ex (x:Str)
set_option genCtorIdx true
abbrev Hp:=Addr->Option AObj
noncomputable def upd(M:Hp)(a:Addr)(o:AObj):Hp:=λb=>if b=a then some o else M b
theorem c9(M:Hp)(a:Addr)(o:AObj):upd M a o a=some o:=if_pos rfl
theorem d6(M:Hp){a b:Addr}(o:AObj)(h:b≠a):upd M a o b=M b:=if_neg h
theorem N5(M:Hp)(a:Addr)(o o':AObj):upd (upd M a o) a o'=upd M a o':=by
 funext b;unfold upd;split<;>rfl
noncomputable def Sub(M' M:Hp):Prop:=∀ a o,M' a=some o->M a=some o
theorem Sub.refl(M:Hp):Sub M M:=λz_ z_ h=>h
theorem Sub.trans{a b c:Hp}(h:Sub a b)(k:Sub b c):Sub a c:=λx o e=>k x o (h x o e)
theorem Sub.upd{M:Hp}{a:Addr}{o:AObj}(h:M a=none):Sub M (upd M a o):=λb o' e=>by
 unfold Internal.upd;rw[if_neg (λq=>by rw[q,h] at e;exact f5 e)];exact e
mutual
noncomputable def Rep(h:Heap):Value->V->Prop
 | x,.none=>x=.none
 | x,.bool b=>x=.bool b
 | x,.int i=>∃ t,x=.int i t
 | x,.str s=>∃ t,x=.str s t
 | x,.tup l=>∃ a vs n,x=.ref a/\h.get? a=some {cls:=.type "tuple",data:=.seq vs n}/\d3 h vs.toList l
 | x,.ref a=>x=.ref a
noncomputable def d3(h:Heap):List Value->List V->Prop
 | vs,[]=>vs=[]
 | vs,x::l=>∃ v us,vs=v::us/\Rep h v x/\d3 h us l
end
section
variable{h:Heap}{x:Value}
theorem Rep.none:Rep h .none .none:=rfl
theorem Rep.bool(b:Bool):Rep h (.bool b) (.bool b):=rfl
theorem Rep.int(i:Int)(t:Tok):Rep h (.int i t) (.int i):=⟨t,rfl⟩
theorem Rep.str(x:Str)(t:Tok):Rep h (.str x t) (.str x):=⟨t,rfl⟩
theorem Rep.tup{a:Addr}{vs:Array Value}{n:Nat}{l:List V}(ho:h.get? a=some {cls:=.type "tuple",data:=.seq vs n})(r:d3 h vs.toList l):Rep h (.ref a) (.tup l):=⟨a,vs,n,rfl,ho,r⟩
theorem Rep.ref(a:Addr):Rep h (.ref a) (.ref a):=rfl
theorem d3.nil:d3 h [] []:=rfl
theorem d3.cons{v:Value}{x:V}{vs:List Value}{l:List V}(r:Rep h v x)(rs:d3 h vs l):d3 h (v::vs) (x::l):=⟨v,vs,rfl,r,rs⟩
theorem Rep.ofNone(r:Rep h x .none):x=.none:=r
theorem Rep.ofBool{b:Bool}(r:Rep h x (.bool b)):x=.bool b:=r
theorem Rep.ofInt{i:Int}(r:Rep h x (.int i)):∃ t,x=.int i t:=r
theorem Rep.ofStr{i:Str}(r:Rep h x (.str i)):∃ t,x=.str i t:=r
theorem Rep.ofTup{l:List V}(r:Rep h x (.tup l)):∃ a vs n,x=.ref a/\h.get? a=some {cls:=.type "tuple",data:=.seq vs n}/\d3 h vs.toList l:=r
theorem Rep.ofRef{a:Addr}(r:Rep h x (.ref a)):x=.ref a:=r
theorem d3.ofNil{vs:List Value}(r:d3 h vs []):vs=[]:=r
theorem d3.ofCons{vs:List Value}{x:V}{l:List V}(r:d3 h vs (x::l)):∃ v us,vs=v::us/\Rep h v x/\d3 h us l:=r
theorem d3.uncons{v:Value}{vs:List Value}{l:List V}(r:d3 h (v::vs) l):∃ y k,l=y::k/\Rep h v y/\d3 h vs k:=by
 cases l with
 | nil=>cases r.ofNil
 | cons y k=>refine f7 r.ofCons λz_ z_ e r1 r2=>?_;cases e;exact⟨y,k,rfl,r1,r2⟩
theorem d3.one{vs:List Value}{x:V}(r:d3 h vs [x]):∃ v,vs=[v]/\Rep h v x:=by
 refine f7 r.ofCons λv us q1_ r1 rs=>?_;subst q1_
 obtain rfl:=rs.ofNil;exact⟨v,rfl,r1⟩
theorem d3.two{vs:List Value}{x y:V}(r:d3 h vs [x,y]):∃ v u,vs=[v,u]/\Rep h v x/\Rep h u y:=by
 refine f7 r.ofCons λv us q1_ r1 rs=>?_;subst q1_
 refine a9 rs.one λu q1_ r'=>?_;subst q1_
 exact⟨v,u,rfl,r1,r'⟩
end
noncomputable def k9(h h':Heap):Prop:=∀ b vs n,h.get? b=some {cls:=.type "tuple",data:=.seq vs n}->h'.get? b=some {cls:=.type "tuple",data:=.seq vs n}
theorem k9.trans{a b c:Heap}(x:k9 a b)(y:k9 b c):k9 a c:=λd vs n e=>y d vs n (x d vs n e)
theorem Rep.mono{h h':Heap}{v:Value}{x:V}(k:k9 h h'):Rep h v x->Rep h' v x:=
 V.rec (motive_1:=λx=>∀ v,Rep h v x->Rep h' v x) (motive_2:=λl=>∀ vs,d3 h vs l->d3 h' vs l) (λz_ r=>r) (λz_ z_ r=>r) (λz_ z_ r=>r) (λz_ z_ r=>r)
  (λl ih v r=>by refine l5 r.ofTup λa vs n e ho r=>?_;exact⟨a,vs,n,e,k _ _ _ ho,ih _ r⟩) (λz_ z_ r=>r) (λz_ r=>r)
  (λx l hx hl vs r=>by refine f7 r.ofCons λv us e r1 r2=>?_;exact⟨v,us,e,hx _ r1,hl _ r2⟩) x v
theorem d3.mono{h h':Heap}{vs:List Value}{l:List V}(k:k9 h h')(r:d3 h vs l):d3 h' vs l:=by
 induction l generalizing vs with
 | nil=>exact r
 | cons x l ih=>refine f7 r.ofCons λv us e r1 r2=>?_;exact⟨v,us,e,r1.mono k,ih r2⟩
theorem d3.length{h:Heap}{vs:List Value}{l:List V}(r:d3 h vs l):vs.length=l.length:=by
 induction l generalizing vs with
 | nil=>rw[r.ofNil];rfl
 | cons x l ih=>refine f7 r.ofCons λv us q1_ r1 r2=>?_;subst q1_;rw[aN,aN,ih r2]
theorem d3.get{h:Heap}{vs:List Value}{l:List V}{i:Nat}{x:V}(r:d3 h vs l)(e:l[i]?=some x):∃ v,vs[i]?=some v/\Rep h v x:=by
 induction l generalizing vs i with
 | nil=>cases e
 | cons y l ih=>
  refine f7 r.ofCons λv us q1_ r1 r2=>?_;subst q1_
  cases i with
  | zero=>replace e:=g8 e;subst e;exact⟨v,rfl,r1⟩
  | succ i=>exact ih (vs:=us) (i:=i) r2 e
theorem d3.append{h:Heap}{vs us:List Value}{l k:List V}(r:d3 h vs l)(y:d3 h us k):d3 h (vs++us) (l++k):=by
 induction l generalizing vs with
 | nil=>rw[r.ofNil];exact y
 | cons x l ih=>refine f7 r.ofCons λv ws q1_ r1 r2=>?_;subst q1_;exact .cons r1 (ih r2)
structure G where
 prog:Program
 w:World
 h₀:Heap
 mg:Str->Option Value
 mb:Str->Option Value
 ns:h₀.Ns mainGlobals mg
 nb:h₀.Ns builtinsNs mb
 nolimit:h₀.NoLimit
noncomputable def KVs{K:Type}(h:Heap)(kvs:List (K×Value))(L:List (K×V)):Prop:=kvs.map (·.1)=L.map (·.1)/\d3 h (kvs.map (·.2)) (L.map (·.2))
theorem KVs.mono{K:Type}{h h':Heap}{kvs:List (K×Value)}{L:List (K×V)}(r:KVs h kvs L)(t:k9 h h'):KVs h' kvs L:=⟨r.1,r.2.mono t⟩
def m7{prog:Program}{w:World}{K:Type}[DecidableEq K](knd:KeyKind prog w K)(h:Heap)(a:Addr)(l:List (K×V)):Prop:=
 ∀ P_:Prop,(∀ (kvs:List (K×Value)) (d:h.DictOf knd a kvs) (r:KVs h kvs l) (n:(a==sysModules)=false),P_)->P_
noncomputable def u1(g:G)(h:Heap)(a:Addr):AObj->Prop
 | .lst l=>∃ vs,h.PlainList a vs/\d3 h vs.toList l
 | .di l=>m7 (intKind g.prog g.w) h a l
 | .ds l=>m7 (strKind g.prog g.w) h a l
 | .ex x=>∃ C oe vs,g.mg x=some (.ref C)/\h.get? a=some oe/\oe.cls=.ref C/\oe.data=.fields vs
theorem m7.has{prog:Program}{w:World}{K:Type}[DecidableEq K]{knd:KeyKind prog w K}{h:Heap}{a:Addr}{l:List (K×V)}(x:m7 knd h a l):∃ es ep,h.get? a=some {cls:=.type "dict",data:=.dict es ep}:=by
 refine x _ ?_;clear x;rintro kvs d r n;obtain⟨o,es,ep,ho,⟨c1,c2,c3⟩,hdt,-⟩:=d;exact⟨es,ep,by rw[ho];cases o;simp only at c1 c2 c3 hdt;subst c1 c2 c3 hdt;rfl⟩
theorem m7.keep{prog:Program}{w:World}{K:Type}[DecidableEq K]{knd:KeyKind prog w K}{h h':Heap}{a:Addr}{l:List (K×V)}(x:m7 knd h a l)(t:k9 h h')(k:∀ ob,h.get? a=some ob->h'.get? a=some ob):m7 knd h' a l:=by
 refine x _ ?_;clear x;rintro kvs d r n;refine x6 d λo es ep ho q=>?_
 exact(λz_ k_=>k_ kvs ⟨o,es,ep,k o ho,q⟩ (r.mono t) n)
theorem u1.has{g:G}{h:Heap}{a:Addr}{o:AObj}(x:u1 g h a o):∃ ob,h.get? a=some ob:=by
 cases o with
 | lst l=>obtain⟨vs,⟨n,e⟩,_⟩:=x;exact⟨_,e⟩
 | di l=>refine p8 (m7.has x) λes ep e=>?_;exact⟨_,e⟩
 | ds l=>refine p8 (m7.has x) λes ep e=>?_;exact⟨_,e⟩
 | ex y=>refine l5 x λC oe vs z_ e z_=>?_;exact⟨_,e⟩
theorem Ns.kept{h h':Heap}{L:Addr}{m:Str->Option Value}(hn:h.Ns L m)(k:∀ o,h.get? L=some o->∃ o',h'.get? L=some o'/\o'.data=o.data):h'.Ns L m:=by
 refine l5 hn λo es ep ho q r=>?_
 refine a9 (k o ho) λo' ho' d=>?_
 exact⟨o',es,ep,ho',d.trans q,r⟩
theorem Cell.kept{h h':Heap}{c:Addr}{v:Option Value}(hn:h.IsCell c v)(k:∀ o,h.get? c=some o->∃ o',h'.get? c=some o'/\o'.data=o.data):h'.IsCell c v:=by
 refine a9 hn λo ho q=>?_
 refine a9 (k o ho) λo' ho' d=>?_
 exact⟨o',ho',d.trans q⟩
end Internal
set_option genInjectivity false
namespace Internal
noncomputable def KO(p:Prop)(o o':Obj):Prop:=o'=o∨(p/\∃ sl,o'={o with slots:=sl})
noncomputable def IsD(o:Obj):Prop:=∃ es ep,o.data=.dict es ep
theorem KO.trans{p:Prop}{a b c:Obj}(x:KO p a b)(y:KO p b c):KO p a c:=by
 rcases x with rfl | ⟨hp,sl,rfl⟩
 ·exact y
 ·rcases y with rfl | ⟨_,sl',rfl⟩
  ·exact .inr ⟨hp,sl,rfl⟩
  ·exact .inr ⟨hp,sl',rfl⟩
theorem KO.mono{p q:Prop}{a b:Obj}(x:KO p a b)(h:p->q):KO q a b:=x.imp id λy=>⟨h y.1,y.2⟩
theorem KO.data{p:Prop}{a b:Obj}(x:KO p a b):b.data=a.data:=by rcases x with rfl | ⟨_,_,rfl⟩<;>rfl
structure Step(fr own:Addr->Prop)(M M':Hp)(s s':Shared):Prop where
 same:s'.gens=s.gens/\s'.os=s.os
 dom:∀ b o,s.heap.get? b=some o->∃ o',s'.heap.get? b=some o'/\(IsD o->IsD o')
 keep:∀ b o,s.heap.get? b=some o->M b=none->¬ own b->∃ o',s'.heap.get? b=some o'/\KO (fr b) o o'
 tups:k9 s.heap s'.heap
 new:∀ b o,s.heap.get? b=some o->M b=none->M' b=none
noncomputable def d9:Addr->Prop:=λz_=>False
noncomputable def inF(A:Around)(b:Addr):Prop:=∃ l e,A.frames=some l/\e∈l/\e.frame=some b
section
variable{fr own:Addr->Prop}
theorem Step.exact{M M':Hp}{s s':Shared}(x:Step fr own M M' s s'){b:Addr}{o:Obj}(e:s.heap.get? b=some o)(hM:M b=none)(ho:¬ own b)(hf:¬ fr b):s'.heap.get? b=some o:=by
 refine a9 (x.keep b o e hM ho) λo' e' k=>?_
 rcases k with rfl | ⟨p,_⟩
 ·exact e'
 ·exact absurd p hf
theorem Step.trans{zs M2 M3:Hp}{sv s2 s3:Shared}(x:Step fr own zs M2 sv s2)(y:Step fr own M2 M3 s2 s3):Step fr own zs M3 sv s3 where
 same:=⟨y.same.1.trans x.same.1,y.same.2.trans x.same.2⟩
 dom:=λb o e=>by
  refine a9 (x.dom b o e) λo' e' d=>?_
  refine a9 (y.dom b o' e') λo2 e2 d2=>?_
  exact⟨o2,e2,λh=>d2 (d h)⟩
 keep:=λb o e hM ho=>by
  refine a9 (x.keep b o e hM ho) λo' e' d=>?_
  refine a9 (y.keep b o' e' (x.new b o e hM) ho) λo2 e2 d2=>?_
  exact⟨o2,e2,d.trans d2⟩
 tups:=x.tups.trans y.tups
 new:=λb o e hM=>by
  refine a9 (x.dom b o e) λo' e' z_=>?_
  exact y.new b o' e' (x.new b o e hM)
theorem Step.mono{own':Addr->Prop}{M M':Hp}{s s':Shared}(x:Step fr own M M' s s')(h:∀ b,own b->own' b):Step fr own' M M' s s':=
 ⟨x.same,x.dom,λb o e hM ho=>x.keep b o e hM λq=>ho (h b q),x.tups,x.new⟩
theorem Step.grow{M:Hp}{s:Shared}{h':Heap}{tk:Nat}(k:∀ b o,s.heap.get? b=some o->h'.get? b=some o):Step fr own M M s {s with heap:=h',toks:=tk}:=
 ⟨⟨rfl,rfl⟩,λb o e=>⟨o,k b o e,id⟩,λb o e z_ z_=>⟨o,k b o e,.inl rfl⟩,λb z_ z_ e=>k b _ e,λz_ z_ z_ h=>h⟩
theorem Step.toks{M:Hp}{s:Shared}{tk:Nat}:Step fr own M M s {s with toks:=tk}:=Step.grow λz_ z_ e=>e
theorem Step.refl{M:Hp}{s:Shared}:Step fr own M M s s:=Step.grow (h':=s.heap) (tk:=s.toks) λz_ z_ e=>e
theorem Step.sub{M zs M':Hp}{s s':Shared}(x:Step fr own M zs s s')(h:Sub M' zs):Step fr own M M' s s':=
 ⟨x.same,x.dom,x.keep,x.tups,λb o e hM=>by
  cases q:M' b with
  | none=>rfl
  | some o'=>rw[<- h b o' q,x.new b o e hM]⟩
end
structure Sim(g:G)(M:Hp)(h:Heap):Prop where
 stays:g.h₀.StaysIn h
 objs:∀ a o,M a=some o->u1 g h a o/\g.h₀.get? a=none
theorem Sim.sub{g:G}{M M':Hp}{h:Heap}(x:Sim g M h)(k:Sub M' M):Sim g M' h:=⟨x.stays,λa o e=>x.objs a o (k a o e)⟩
theorem u1.keep{g:G}{h h':Heap}{a:Addr}{o:AObj}(x:u1 g h a o)(t:k9 h h')(k:∀ ob,h.get? a=some ob->h'.get? a=some ob):u1 g h' a o:=by
 cases o with
 | lst l=>refine a9 x λvs hp r=>?_;exact⟨vs,hp.at k,r.mono t⟩
 | di l=>exact m7.keep x t k
 | ds l=>exact m7.keep x t k
 | ex y=>refine l5 x λC oe vs h1 e h2=>?_;exact⟨C,oe,vs,h1,k _ e,h2⟩
theorem Sim.grow{g:G}{M:Hp}{h h':Heap}(x:Sim g M h)(k:∀ b o,h.get? b=some o->h'.get? b=some o):Sim g M h':=
 ⟨λb o e=>k b o (x.stays b o e),λa o e=>⟨(x.objs a o e).1.keep (λb z_ z_ e=>k b _ e) λob eb=>k a ob eb,(x.objs a o e).2⟩⟩
noncomputable def I9(env:Env)(h:Heap)(m:Str->Option Value)(x:Str)(v:Option V):Prop:=
 (env.kindOf x=some .local/\∀ V,v=some V->∃ r,m x=some r/\Rep h r V)∨
 (env.kindOf x=some .cell/\∃ c r,env.cells.lookup x=some c/\h.IsCell c r/\∀ V,v=some V->∃ rv,r=some rv/\Rep h rv V)
noncomputable def j6(env:Env)(b:Addr):Prop:=b=env.locals∨∃ x,env.cells.lookup x=some b
structure Blk where
 sc:Scope
 vars:List Str
 d:Nat
 q:Bool
structure Loc(env:Env)(vars:List Str)(Z:List (Option V))(M:Hp)(h:Heap):Prop where
 len:Z.length=vars.length
 ns:∃ m,h.Ns env.locals m/\∀ (i:Nat) (x:Str) (v:Option V),vars[i]?=some x->Z[i]?=some v->I9 env h m x v
 free:∀ b,j6 env b->M b=none
 live:∀ x c,env.cells.lookup x=some c->∃ v,h.IsCell c v
 apart:∀ x y c,env.cells.lookup x=some c->env.cells.lookup y=some c->x=y
 other:∀ x c,env.cells.lookup x=some c->c≠env.locals
def K8(g:G)(M:Hp)(h:Heap)(e:Env):Prop:=
 ∀ P_:Prop,(∀ (L:Addr) (hk:e.scope.kind≠.module) (hf:e.frame=some L) (hb:g.h₀.get? L=none) (hs:M L=none) (o:Obj) (ho:h.get? L=some o) (d:IsD o),P_)->P_
def FrL(g:G)(A:Around)(M:Hp)(h:Heap):Prop:=
 ∀ P_:Prop,(∀ (l:List Env) (ha:A.frames=some l) (all:∀ e∈l,K8 g M h e),P_)->P_
def Frs(g:G)(A:Around)(env:Env)(M:Hp)(h:Heap):Prop:=
 ∀ P_:Prop,(∀ (e0:Env) (l:List Env) (ha:A.frames=some (e0::l)) (hf:e0.frame=env.frame) (all:∀ e∈e0::l,K8 g M h e),P_)->P_
theorem K8.step{g:G}{M M':Hp}{s s':Shared}{fr own:Addr->Prop}{e:Env}(x:K8 g M s.heap e)(y:Step fr own M M' s s'):K8 g M' s'.heap e:=by
 refine x _ ?_;clear x;rintro L hk hf hb hs o ho d;refine a9 (y.dom L o ho) λo' ho' d'=>?_
 exact(λz_ k_=>k_ L hk hf hb (y.new L o ho hs) o' ho' (d' d))
theorem Frs.step{g:G}{A:Around}{env:Env}{M M':Hp}{s s':Shared}{fr own:Addr->Prop}(x:Frs g A env M s.heap)(y:Step fr own M M' s s'):Frs g A env M' s'.heap:=by
 refine x _ ?_;clear x;rintro e0 l ha hf all;exact(λz_ k_=>k_ e0 l ha hf (λe he=>(all e he).step y))
theorem Frs.l{g:G}{A:Around}{env:Env}{M:Hp}{h:Heap}(x:Frs g A env M h):FrL g A M h:=by
 refine x _ ?_;clear x;rintro e0 l ha hf all;exact(λz_ k_=>k_ _ ha all)
theorem Frs.not{g:G}{A:Around}{env:Env}{M:Hp}{h:Heap}(x:Frs g A env M h){b:Addr}(hb:h.get? b=none∨M b≠none):¬ inF A b:=λq=>by
 refine f7 q λl e hl he hf=>?_
 refine x _ ?_;clear x;rintro e0 l' ha-all;rw[hl] at ha;replace ha:=g8 ha;subst ha;refine(all e he) _ ?_;rintro L-hf'-hs o ho -;rw[hf] at hf';replace hf':=g8 hf';subst hf';rcases hb with hb | hb
 ·rw[hb] at ho;exact f5 ho
 ·exact hb hs
structure Inv(g:G)(F:Blk)(A:Around)(env:Env)(Z:List (Option V))(M:Hp)(s:Shared):Prop where
 scope:env.scope=F.sc
 fn:env.scope.kind=.function
 glob:env.globals=mainGlobals
 bltn:env.builtins=builtinsNs
 room:A.depth+F.d<recursionLimit
 units:A.units+8*F.d<cLine
 quiet:F.q=true->A.handled=none
 sim:Sim g M s.heap
 loc:Loc env F.vars Z M s.heap
 base:∀ b,j6 env b->g.h₀.get? b=none
 nd:F.vars.Nodup
 frs:Frs g A env M s.heap
theorem I9.keep{env:Env}{h h':Heap}{m:Str->Option Value}{x:Str}{v:Option V}(y:I9 env h m x v)(t:k9 h h')(k:∀ y c,env.cells.lookup y=some c->∀ o,h.get? c=some o->∃ o',h'.get? c=some o'/\o'.data=o.data):I9 env h' m x v:=by
 rcases y with ⟨e,y⟩ | ⟨e,c,r,hc,hcell,y⟩
 ·exact .inl ⟨e,λV hV=>by refine a9 (y V hV) λr e1 e2=>?_;exact⟨r,e1,e2.mono t⟩⟩
 ·exact .inr ⟨e,c,r,hc,Cell.kept hcell λo q=>k x c hc o q,λV hV=>by refine a9 (y V hV) λr e1 e2=>?_;exact⟨r,e1,e2.mono t⟩⟩
theorem Loc.keep{env:Env}{vars:List Str}{Z:List (Option V)}{M M':Hp}{s s':Shared}(l:Loc env vars Z M s.heap){fr:Addr->Prop}(x:Step fr d9 M M' s s'):Loc env vars Z M' s'.heap:=by
 refine a9 l.ns λm hn hv=>?_
 have k:∀ b,j6 env b->∀ o,s.heap.get? b=some o->∃ o',s'.heap.get? b=some o'/\o'.data=o.data:=λb hb o e=>by
  refine a9 (x.keep _ _ e (l.free _ hb) id) λo' e' q=>?_
  exact⟨o',e',q.data⟩
 refine⟨l.len,⟨m,Ns.kept hn (k _ (.inl rfl)),λi y v e1 e2=>(hv i y v e1 e2).keep x.tups λy c hc=>k c (.inr ⟨y,hc⟩)⟩,λb hb=>?_,λy c hc=>?_,l.apart,l.other⟩
 ·rcases hb with rfl | ⟨y,hc⟩
  ·refine x6 hn λo z_ z_ ho z_=>?_
   exact x.new _ o ho (l.free _ (.inl rfl))
  ·refine j8 (l.live y b hc) λz_ o ho z_=>?_
   exact x.new _ o ho (l.free _ (.inr ⟨y,hc⟩))
 ·refine c5 (l.live y c hc) λv hv=>?_
  exact⟨v,Cell.kept hv (k c (.inr ⟨y,hc⟩))⟩
theorem Inv.keep{g:G}{F:Blk}{A:Around}{env:Env}{Z:List (Option V)}{M M':Hp}{s s':Shared}(I:Inv g F A env Z M s)(x:Step (inF A) d9 M M' s s')(y:Sim g M' s'.heap):Inv g F A env Z M' s':=
 ⟨I.scope,I.fn,I.glob,I.bltn,I.room,I.units,I.quiet,y,I.loc.keep x,I.base,I.nd,I.frs.step x⟩
def H0(g:G)(e:Value)(x:Str)(qz:Heap)(M:Hp)(h:Heap)(vs:Array Value)(a:Addr):Prop:=
 ∀ P_:Prop,(∀ (C:Addr) (oe:Obj) (a0:Value) (he:e=.ref a) (n:qz.get? a=none) (b:g.h₀.get? a=none) (hs:M a=none) (ho:h.get? a=some oe) (hc:oe.cls=.ref C) (hx:g.mg x=some (.ref C))
   (hd:oe.data=.fields vs) (h0:vs[0]?=some a0),P_)->P_
def F9(g:G)(e:Value)(x:Str)(qz:Heap)(M:Hp)(h:Heap)(fl:Value):Prop:=
 ∀ P_:Prop,(∀ (a:Addr) (vs:Array Value) (y:H0 g e x qz M h vs a) (T:Addr) (oT:Obj) (ts:Array Value) (h1:vs[1]?=some (.ref T)) (nT:qz.get? T=none) (bT:g.h₀.get? T=none) (sT:M T=none) (ne:T≠a)
   (hT:h.get? T=some oT) (dT:oT.data=.fields ts) (h3:ts[3]?=some fl),P_)->P_
inductive Fly(g:G)(A:Around)(e:Value)(x:Str)(qz:Heap)(M:Hp)(h:Heap):Prop
 | made (a:Addr) (vs:Array Value) (y:H0 g e x qz M h vs a) (h1:vs[1]?=some .none):Fly g A e x qz M h
 | on (fl:Value) (y:F9 g e x qz M h fl) (hfl:fl=.none∨∃ l v L,A.frames=some (v::l)/\v.frame=some L/\fl=rawInt L):Fly g A e x qz M h
theorem Step.nix{fr own:Addr->Prop}{M M':Hp}{s s':Shared}(x:Step fr own M M' s s'){b:Addr}(h:s'.heap.get? b=none):s.heap.get? b=none:=by
 cases q:s.heap.get? b with
 | none=>rfl
 | some o=>refine a9 (x.dom b o q) λo' e z_=>?_;rw[h] at e;exact f5 e
section
variable{g:G}{A:Around}{e:Value}{x:Str}{fr own:Addr->Prop}{M zs M':Hp}{s sv:Shared}{h:Heap}
theorem H0.step{vs:Array Value}{a:Addr}(y:Step fr own M zs s sv)(f:H0 g e x sv.heap M' h vs a):H0 g e x s.heap M' h vs a:=by
 refine f _ ?_;clear f;rintro C oe a0 he n b hs ho hc hx hd h0;exact(λz_ k_=>k_ C oe a0 he (y.nix n) b hs ho hc hx hd h0)
theorem Fly.sig{qz:Heap}(f:Fly g A e x qz M h)(k:∀ b,qz.get? b=none->M b=none->M' b=none):Fly g A e x qz M' h:=by
 have kx:∀ {vs:Array Value} {a:Addr},H0 g e x qz M h vs a->H0 g e x qz M' h vs a:=fun{vs a} z=>by
  refine z _ ?_;clear z;rintro C oe a0 he n b hs ho hc hx hd h0;exact(λz_ k_=>k_ C oe a0 he n b (k a n hs) ho hc hx hd h0)
 cases f with
 | made a vs z h1=>exact .made a vs (kx z) h1
 | on fl z hfl=>
  refine z _ ?_;clear z;rintro a vs z T oT ts h1 nT bT sT ne hT dT h3;exact .on fl (λz_ k_=>k_ a vs (kx z) T oT ts h1 nT bT (k T nT sT) ne hT dT h3) hfl
theorem Fly.sub{qz:Heap}(f:Fly g A e x qz M h)(k:Sub M' M):Fly g A e x qz M' h:=f.sig λb z_ hb=>by
 cases q:M' b with
 | none=>rfl
 | some o=>rw[<- k b o q,hb]
theorem F9.step{fl:Value}(y:Step fr own M zs s sv)(f:F9 g e x sv.heap M' h fl):F9 g e x s.heap M' h fl:=by
 refine f _ ?_;clear f;rintro a vs z T oT ts h1 nT bT sT ne hT dT h3;exact(λz_ k_=>k_ a vs (z.step y) T oT ts h1 (y.nix nT) bT sT ne hT dT h3)
theorem Fly.step(f:Fly g A e x sv.heap M' h)(y:Step fr own M zs s sv):Fly g A e x s.heap M' h:=by
 cases f with
 | made a vs z h1=>exact .made a vs (z.step y) h1
 | on fl z hfl=>exact .on fl (z.step y) hfl
end
def l4(g:G)(F:Blk)(A:Around)(env:Env)(Z:List (Option V))(M:Hp)(s:Shared)(Q:V->Hp->Prop)(v:Value)(s':Shared):Prop:=
 ∀ P_:Prop,(∀ (V:V) (M':Hp) (r:Rep s'.heap v V) (i:Inv g F A env Z M' s') (y:Step (inF A) d9 M M' s s') (q:Q V M'),P_)->P_
def F7(g:G)(F:Blk)(A:Around)(env:Env)(Z:List (Option V))(M:Hp)(s:Shared)(Q:Bool->Hp->Prop)(b:Bool)(s':Shared):Prop:=
 ∀ P_:Prop,(∀ (M':Hp) (i:Inv g F A env Z M' s') (y:Step (inF A) d9 M M' s s') (q:Q b M'),P_)->P_
def k6(g:G)(F:Blk)(A:Around)(env:Env)(Z:List (Option V))(M:Hp)(s:Shared)(X:Str->Hp->Prop)(e:Value)(s':Shared):Prop:=
 ∀ P_:Prop,(∀ (x:Str) (M':Hp) (f:Fly g A e x s.heap M' s'.heap) (i:Inv g F A env Z M' s') (y:Step (inF A) d9 M M' s s') (q:X x M'),P_)->P_
theorem k6.no{g F A env Z M s v s'}{P:Prop}(p:k6 g F A env Z M s (λz_ z_=>False) v s'):P:=p _ λz_ z_ z_ z_ z_ q=>q.elim
theorem l4.step{g F A env Z M zs s sv Q v s'}(x:Step (inF A) d9 M zs s sv)(p:l4 g F A env Z zs sv Q v s'):l4 g F A env Z M s Q v s':=
 by refine p _ ?_;clear p;rintro V M' r i y q;exact(λz_ k_=>k_ V M' r i (x.trans y) q)
theorem F7.step{g F A env Z M zs s sv Q v s'}(x:Step (inF A) d9 M zs s sv)(p:F7 g F A env Z zs sv Q v s'):F7 g F A env Z M s Q v s':=
 by refine p _ ?_;clear p;rintro M' i y q;exact(λz_ k_=>k_ M' i (x.trans y) q)
theorem k6.step{g F A env Z M zs s sv X v s'}(x:Step (inF A) d9 M zs s sv)(p:k6 g F A env Z zs sv X v s'):k6 g F A env Z M s X v s':=
 by refine p _ ?_;clear p;rintro V M' r i y q;exact(λz_ k_=>k_ V M' (r.step x) i (x.trans y) q)
section
variable{g:G}{F:Blk}{A:Around}{env:Env}{Z:List (Option V)}{M:Hp}{s:Shared}{X:Str->Hp->Prop}{E:Value->Shared->Prop}
theorem pgo{m:Sem Value}{Q:V->Hp->Prop}{P:Value->Shared->Prop}(h:wpAny (model g.prog g.w) A m (l4 g F A env Z M s Q) (k6 g F A env Z M s X) s)
  (k:∀ v sv V zs,Rep sv.heap v V->Inv g F A env Z zs sv->Step (inF A) d9 M zs s sv->Q V zs->P v sv) (kx:∀ e s',k6 g F A env Z M s X e s'->E e s'):wpAny (model g.prog g.w) A m P E s:=
 wpAny_mono h (λv sv p=>p _ (k v sv)) kx
theorem y0{m:Sem Bool}{Q:Bool->Hp->Prop}{P:Bool->Shared->Prop}(h:wpAny (model g.prog g.w) A m (F7 g F A env Z M s Q) (k6 g F A env Z M s X) s)
  (k:∀ v sv zs,Inv g F A env Z zs sv->Step (inF A) d9 M zs s sv->Q v zs->P v sv) (kx:∀ e s',k6 g F A env Z M s X e s'->E e s'):wpAny (model g.prog g.w) A m P E s:=
 wpAny_mono h (λv sv p=>p _ (k v sv)) kx
end
def Ev(g:G)(F:Blk)(e:Expr)(Z:List (Option V))(M:Hp)(Q:V->Hp->Prop)(X:Str->Hp->Prop):Prop:=
 ∀ A env s,Inv g F A env Z M s->wpAny (model g.prog g.w) A (eval e env) (l4 g F A env Z M s Q) (k6 g F A env Z M s X) s
def Tst(g:G)(F:Blk)(e:Expr)(Z:List (Option V))(M:Hp)(Q:Bool->Hp->Prop)(X:Str->Hp->Prop):Prop:=
 ∀ A env s,Inv g F A env Z M s->wpAny (model g.prog g.w) A (isTrue e env (eval e env)) (F7 g F A env Z M s Q) (k6 g F A env Z M s X) s
section
variable{g:G}{F:Blk}{Z:List (Option V)}{M:Hp}{Q:V->Hp->Prop}{X:Str->Hp->Prop}
theorem Ev.mono{e:Expr}{Q':V->Hp->Prop}(h:Ev g F e Z M Q X)(k:∀ v M,Q v M->Q' v M):Ev g F e Z M Q' X:=(λA env s I=>
 pgo (h A env s I) (λz_ z_ V M' r i y q=>(λz_ k_=>k_ V M' r i y (k _ _ q))) λz_ z_ p=>p)
theorem bc5{i:Int}{k:Nat}{pos:Pos}(h:Q (.int i) M):Ev g F (.Constant (.int i) k pos) Z M Q X:=(λA env s I=>
 wpAny_Constant_int (λz_ k_=>k_ _ M (.int _ _) (I.keep Step.toks I.sim) Step.toks h))
theorem bo4{i:Str}{k:Nat}{pos:Pos}(h:Q (.str i) M):Ev g F (.Constant (.str i) k pos) Z M Q X:=(λA env s I=>
 wpAny_Constant_str (λz_ k_=>k_ _ M (.str _ _) (I.keep Step.toks I.sim) Step.toks h))
theorem ba4{k:Nat}{pos:Pos}(h:Q .none M):Ev g F (.Constant .none k pos) Z M Q X:=(λA env s I=>
 wpAny_Constant_none (λz_ k_=>k_ _ M .none I Step.refl h))
theorem bV3{b:Bool}{k:Nat}{pos:Pos}(h:Q (.bool b) M):Ev g F (.Constant (.bool b) k pos) Z M Q X:=(λA env s I=>
 wpAny_Constant_bool (λz_ k_=>k_ _ M (.bool _) I Step.refl h))
end
def Op2(g:G)(F:Blk)(t:Value->Value->Sem Value)(a b:V)(Z:List (Option V))(M:Hp)(Q:V->Hp->Prop)(X:Str->Hp->Prop):Prop:=
 ∀ A env s x y,Inv g F A env Z M s->Rep s.heap x a->Rep s.heap y b->wpAny (model g.prog g.w) A (t x y) (l4 g F A env Z M s Q) (k6 g F A env Z M s X) s
def Op1(g:G)(F:Blk)(t:Value->Sem Value)(a:V)(Z:List (Option V))(M:Hp)(Q:V->Hp->Prop)(X:Str->Hp->Prop):Prop:=
 ∀ A env s x,Inv g F A env Z M s->Rep s.heap x a->wpAny (model g.prog g.w) A (t x) (l4 g F A env Z M s Q) (k6 g F A env Z M s X) s
def Tru(g:G)(F:Blk)(a:V)(Z:List (Option V))(M:Hp)(Q:Bool->Hp->Prop)(X:Str->Hp->Prop):Prop:=
 ∀ A env s x,Inv g F A env Z M s->Rep s.heap x a->wpAny (model g.prog g.w) A (truthy x) (F7 g F A env Z M s Q) (k6 g F A env Z M s X) s
def aq6(g:G)(F:Blk)(A:Around)(env:Env)(Z:List (Option V))(M:Hp)(s:Shared)(Q:List V->Hp->Prop)(vs:List Value)(s':Shared):Prop:=
 ∀ P_:Prop,(∀ (Vs:List V) (M':Hp) (r:d3 s'.heap vs Vs) (i:Inv g F A env Z M' s') (y:Step (inF A) d9 M M' s s') (q:Q Vs M'),P_)->P_
theorem Ma3{g:G}{F:Blk}{A:Around}{env:Env}{Z:List (Option V)}{M:Hp}{s:Shared}{X:Str->Hp->Prop}{E:Value->Shared->Prop}{m:Sem (List Value)}{Q:List V->Hp->Prop}{P:List Value->Shared->Prop}(h:wpAny (model g.prog g.w) A m (aq6 g F A env Z M s Q) (k6 g F A env Z M s X) s)
  (k:∀ v sv V zs,d3 sv.heap v V->Inv g F A env Z zs sv->Step (inF A) d9 M zs s sv->Q V zs->P v sv) (kx:∀ e s',k6 g F A env Z M s X e s'->E e s'):wpAny (model g.prog g.w) A m P E s:=
 wpAny_mono h (λv sv p=>p _ (k v sv)) kx
def Evs(g:G)(F:Blk)(es:List Expr)(Z:List (Option V))(M:Hp)(Q:List V->Hp->Prop)(X:Str->Hp->Prop):Prop:=
 ∀ A env s pos,Inv g F A env Z M s->wpAny (model g.prog g.w) A (spliced (backTo pos (starEach es env)))
  (aq6 g F A env Z M s Q) (k6 g F A env Z M s X) s/\(backTo pos (starEach es env)).any (·.1)=false
def Itm(g:G)(F:Blk)(a b:V)(Z:List (Option V))(M:Hp)(Q:V->Hp->Prop)(X:Str->Hp->Prop):Prop:=
 ∀ A env s x y,Inv g F A env Z M s->Rep s.heap x a->Rep s.heap y b->∃ T id,s.TypeIs x T/\typeLookup (.type T) "__getitem__" = pure (some (.builtin id))/\
  wpAny (model g.prog g.w) A (getItem x y) (l4 g F A env Z M s Q) (k6 g F A env Z M s X) s
section
variable{g:G}{F:Blk}{Z:List (Option V)}{M:Hp}{Q:V->Hp->Prop}{QB:Bool->Hp->Prop}{X:Str->Hp->Prop}
theorem x7{A env s}{i:Int}{tk tk':Nat}(I:Inv g F A env Z M s)(h:Q (.int i) M):l4 g F A env Z M s Q (.int i tk) {s with toks:=tk'}:=
 (λz_ k_=>k_ _ M (.int _ _) (I.keep Step.toks I.sim) Step.toks h)
theorem m9{A env s}{b:Bool}(I:Inv g F A env Z M s)(h:Q (.bool b) M):l4 g F A env Z M s Q (.bool b) s:=
 (λz_ k_=>k_ _ M (.bool _) I Step.refl h)
theorem m6{A env s}{b:Bool}{tk':Nat}(I:Inv g F A env Z M s)(h:Q (.bool b) M):l4 g F A env Z M s Q (.bool b) {s with toks:=tk'}:=
 (λz_ k_=>k_ _ M (.bool _) (I.keep Step.toks I.sim) Step.toks h)
theorem A8{A env s v V}(I:Inv g F A env Z M s)(r:Rep s.heap v V)(h:Q V M):l4 g F A env Z M s Q v s:=(λz_ k_=>k_ V M r I Step.refl h)
theorem au4{x:Str}{pos:Pos}{i:Nat}{v:V}(hx:F.vars[i]?=some x)(hv:Z[i]?=some (some v))(h:Q v M)(hd:(x==("__debug__" : Str))=false) :
  Ev g F (.Name x pos) Z M Q X:=(λA env s I=>by
 refine a9 I.loc.ns λm hn hm=>?_
 refine wpAny_Name ?_ hd;rcases hm i x _ hx hv with ⟨hk,e⟩ | ⟨hk,c,r,hc,hcell,e⟩
 ·refine a9 (e v rfl) λr e1 e2=>?_
  exact wpAny_loadName_local I.fn hk hn e1 (A8 I e2 h)
 ·refine a9 (e v rfl) λr' q1_ e2=>?_;subst q1_
  exact wpAny_loadName_cell I.fn hk hc hcell (A8 I e2 h))
theorem au9{l r:Expr}{op:Operator}{pos:Pos}(h:Ev g F l Z M (λa zs=>Ev g F r Z zs (λb M2=>Op2 g F (binaryOp op) a b Z M2 Q X) X) X) :
  Ev g F (.BinOp l op r pos) Z M Q X:=(λA env s I=>
 wpAny_BinOp (pgo (h A env s I) (λa sv Va zs ra I1 st1 qz=>pgo (qz A env sv I1) (λb s2 Vb M2 rb I2 st2 h2=>wpAny_mono (h2 A env s2 a b I2 (ra.mono st2.tups) rb) (λz_ z_ p=>(p.step st2).step st1) λz_ z_ p=>(p.step st2).step st1) λz_ z_ p=>p.step st1) λz_ z_ p=>p))
theorem cd1{l r:Expr}{op:CmpOp}{pos:Pos}(h:Ev g F l Z M (λa zs=>Ev g F r Z zs (λb M2=>Op2 g F (compareOp op) a b Z M2 Q X) X) X)(hm:behindInMarks op r=false) :
  Ev g F (.Compare l [op] [r] pos) Z M Q X:=(λA env s I=>
 wpAny_Compare1 (pgo (h A env s I) (λa sv Va zs ra I1 st1 qz=>pgo (qz A env sv I1) (λb s2 Vb M2 rb I2 st2 h2=>wpAny_mono (h2 A env s2 a b I2 (ra.mono st2.tups) rb) (λz_ z_ p=>(p.step st2).step st1) λz_ z_ p=>(p.step st2).step st1) λz_ z_ p=>p.step st1) λz_ z_ p=>p) hm)
theorem ax3{x:Expr}{op:UnaryOp}{pos:Pos}(h:Ev g F x Z M (λa zs=>Op1 g F (unaryOp op) a Z zs Q X) X):Ev g F (.UnaryOp op x pos) Z M Q X:=(λA env s I=>
 wpAny_UnaryOp (pgo (h A env s I) (λa sv Va zs ra I1 st1 qz=>wpAny_mono (qz A env sv a I1 ra) (λz_ z_ p=>p.step st1) λz_ z_ p=>p.step st1) λz_ z_ p=>p))
theorem w9{t:Value->Value->Sem Value}{a b:Int}(k:∀ A env s u v,Inv g F A env Z M s->wpAny (model g.prog g.w) A (t (.int a u) (.int b v)) (l4 g F A env Z M s Q) (k6 g F A env Z M s X) s):Op2 g F t (.int a) (.int b) Z M Q X:=(λA env s x y I rx ry=>by
 refine c5 rx.ofInt λu q1_=>?_;subst q1_;refine c5 ry.ofInt λv q1_=>?_;subst q1_;exact k A env s u v I)
theorem aX6{a b:Int}(h:Q (.int (a+b)) M):Op2 g F (binaryOp .Add) (.int a) (.int b) Z M Q X:=w9 λA env s z_ z_ I=>P.add_int (x7 I h)
theorem bq9{a b:Int}(h:Q (.int (a-b)) M):Op2 g F (binaryOp .Sub) (.int a) (.int b) Z M Q X:=w9 λA env s z_ z_ I=>P.sub_int (x7 I h)
theorem aK8{a b:Int}(h:Q (.int (a*b)) M)(hm:IntMulOk a b):Op2 g F (binaryOp .Mult) (.int a) (.int b) Z M Q X:=w9 λA env s z_ z_ I=>P.mul_int (x7 I h) hm
theorem bh4{a b:Int}(hb:b≠0)(h:Q (.int (a.fmod b)) M):Op2 g F (binaryOp .Mod) (.int a) (.int b) Z M Q X:=w9 λA env s z_ z_ I=>PyProof.Rows.mod_int' hb (x7 I h)
theorem bi1{a b:Int}(hb:b≠0)(hl:b.natAbs.log2<9000)(h:Q (.int (a.fdiv b)) M):Op2 g F (binaryOp .FloorDiv) (.int a) (.int b) Z M Q X:=w9 λA env s z_ z_ I=>PyProof.Rows.floordiv_int hb (x7 I h) (Or.inl (PyProof.noPylong_of_log2 hl))
theorem cg7{a b:Int}(hb:0<=b)(hl:(Builtin.Int.intBits a:Int)*b<=2 ^ 27)(h:Q (.int (a ^ b.toNat)) M):Op2 g F (binaryOp .Pow) (.int a) (.int b) Z M Q X:=w9 λA env s z_ z_ I=>PyProof.Rows.pow_int hb hl (x7 I h)
theorem aR7{a b:Int}(h:Q (.bool (decide (a<b))) M):Op2 g F (compareOp .Lt) (.int a) (.int b) Z M Q X:=w9 λA env s z_ z_ I=>P.lt_int (m9 I h)
theorem aP6{a b:Int}(h:Q (.bool (decide (a<=b))) M):Op2 g F (compareOp .LtE) (.int a) (.int b) Z M Q X:=w9 λA env s z_ z_ I=>P.le_int (m9 I h)
theorem bt6{a b:Int}(h:Q (.bool (decide (a > b))) M):Op2 g F (compareOp .Gt) (.int a) (.int b) Z M Q X:=w9 λA env s z_ z_ I=>P.gt_int (m9 I h)
theorem bY6{a b:Int}(h:Q (.bool (decide (a≥b))) M):Op2 g F (compareOp .GtE) (.int a) (.int b) Z M Q X:=w9 λA env s z_ z_ I=>P.ge_int (m9 I h)
theorem bP1{a b:Int}(h:Q (.bool (a==b)) M):Op2 g F (compareOp .Eq) (.int a) (.int b) Z M Q X:=w9 λA env s z_ z_ I=>P.eq_int (m9 I h)
theorem bk1{a b:Int}(h:Q (.bool (a != b)) M):Op2 g F (compareOp .NotEq) (.int a) (.int b) Z M Q X:=w9 λA env s z_ z_ I=>P.ne_int (m9 I h)
theorem bo0{a:Int}(h:Q (.int (-a)) M):Op1 g F (unaryOp .USub) (.int a) Z M Q X:=(λA env s x I rx=>by
 refine c5 rx.ofInt λz_ q1_=>?_;subst q1_;exact P.neg_int (x7 I h))
theorem aR1{b:Bool}(h:QB b M):Tru g F (.bool b) Z M QB X:=(λA env s x I rx=>by
 obtain rfl:=rx.ofBool;exact wpAny_truthy_bool (λz_ k_=>k_ M I Step.refl h))
theorem bj5{a:Int}(h:QB (a != 0) M):Tru g F (.int a) Z M QB X:=(λA env s x I rx=>by
 refine c5 rx.ofInt λz_ q1_=>?_;subst q1_;exact P.truthy_int (λz_ k_=>k_ M I Step.refl h))
theorem bS1{a:V}(h:Tru g F a Z M (λb M'=>Q (.bool (!b)) M') X):Op1 g F (unaryOp .Not) a Z M Q X:=(λA env s x I rx=>
 not_value (y0 (h A env s x I rx) (λb s' M' I' st q=>(λz_ k_=>k_ _ M' (.bool _) I' st q)) λz_ z_ p=>p))
theorem Ev.tst_of{e:Expr}(h:Ev g F e Z M (λv zs=>Tru g F v Z zs QB X) X)(he:∀ env whole,isTrue e env whole=(do let v <- whole;standAt e.pos;holding [v] (truthy v))):Tst g F e Z M QB X:=(λA env s I=>
 wpAny_isTrue_value (pgo (h A env s I) (λa sv Va zs ra I1 st1 qz=>wpAny_mono (qz A env sv a I1 ra) (λz_ z_ p=>p.step st1) λz_ z_ p=>p.step st1) λz_ z_ p=>p) (he env _))
theorem bJ4{l r:Expr}{op:CmpOp}{pos:Pos}(h:Ev g F l Z M (λa zs=>Ev g F r Z zs (λb M2=>Op2 g F (compareOp op) a b Z M2 (λv M3=>Tru g F v Z M3 QB X) X) X) X)(hm:behindInMarks op r=false) :
  Tst g F (.Compare l [op] [r] pos) Z M QB X:=(λA env s I=>
 wpAny_isTrue_Compare1 (pgo (h A env s I) (λa sv Va zs ra I1 st1 qz=>pgo (qz A env sv I1) (λb s2 Vb M2 rb I2 st2 h2=>pgo (h2 A env s2 a b I2 (ra.mono st2.tups) rb) (λc s3 Vc M3 rc I3 st3 h3=>
   wpAny_mono (h3 A env s3 c I3 rc) (λz_ z_ p=>((p.step st3).step st2).step st1) λz_ z_ p=>((p.step st3).step st2).step st1) λz_ z_ p=>(p.step st2).step st1) λz_ z_ p=>p.step st1) λz_ z_ p=>p) hm)
theorem bN9{x:Expr}{pos:Pos}(h:Tst g F x Z M (λb zs=>QB (!b) zs) X):Tst g F (.UnaryOp .Not x pos) Z M QB X:=(λA env s I=>
 wpAny_isTrue_Not (y0 (h A env s I) (λz_ z_ a b c d=>(λz_ k_=>k_ a b c d)) λz_ z_ p=>p))
def E0(g:G)(F:Blk)(op:BoolOp)(es:List Expr)(Z:List (Option V))(M:Hp)(Q:Bool->Hp->Prop)(X:Str->Hp->Prop):Prop:=
 ∀ A env s,Inv g F A env Z M s->wpAny (model g.prog g.w) A (allTrue op es env) (F7 g F A env Z M s Q) (k6 g F A env Z M s X) s
theorem ao2{op:BoolOp}{es:List Expr}{pos:Pos}(h:E0 g F op es Z M QB X):Tst g F (.BoolOp op es pos) Z M QB X:=(λA env s I=>wpAny_isTrue_BoolOp (h A env s I))
theorem bh3(h:QB true M):E0 g F .And [] Z M QB X:=(λA env s I=>wpAny_allTrue_And_nil (λz_ k_=>k_ M I Step.refl h))
theorem bO6(h:QB false M):E0 g F .Or [] Z M QB X:=(λA env s I=>wpAny_allTrue_Or_nil (λz_ k_=>k_ M I Step.refl h))
theorem aA1{e:Expr}{es:List Expr}(h:Tst g F e Z M (λb zs=>(b=true->E0 g F .And es Z zs QB X)/\(b=false->QB false zs)) X):E0 g F .And (e::es) Z M QB X:=(λA env s I=>
 wpAny_allTrue_And_cons (y0 (h A env s I) (λb sv zs I1 st1 qz=>by
  cases b with
  | true=>exact wpAny_mono ((qz.1 rfl) A env sv I1) (λz_ z_ p=>p.step st1) λz_ z_ p=>p.step st1
  | false=>exact(λz_ k_=>k_ zs I1 st1 (qz.2 rfl))) λz_ z_ p=>p))
theorem aK3{e:Expr}{es:List Expr}(h:Tst g F e Z M (λb zs=>(b=true->QB true zs)/\(b=false->E0 g F .Or es Z zs QB X)) X):E0 g F .Or (e::es) Z M QB X:=(λA env s I=>
 wpAny_allTrue_Or_cons (y0 (h A env s I) (λb sv zs I1 st1 qz=>by
  cases b with
  | false=>exact wpAny_mono ((qz.2 rfl) A env sv I1) (λz_ z_ p=>p.step st1) λz_ z_ p=>p.step st1
  | true=>exact(λz_ k_=>k_ zs I1 st1 (qz.1 rfl))) λz_ z_ p=>p))
theorem U8{QL:List V->Hp->Prop}(h:QL [] M):Evs g F [] Z M QL X:=(λA env s pos I=>⟨wpAny_items_nil (λz_ k_=>k_ [] M .nil I Step.refl h),rfl⟩)
theorem P6{e:Expr}{es:List Expr}{QL:List V->Hp->Prop}(h:Ev g F e Z M (λv zs=>Evs g F es Z zs (λvs M2=>QL (v::vs) M2) X) X)
  (hp:∀ env pos,(backTo pos (starEach es env)).any (·.1)=false)
  (he:∀ env,starEach (e::es) env=(false,eval e env)::starEach es env):Evs g F (e::es) Z M QL X:=(λA env s pos I=>⟨
 wpAny_items_cons (pgo (h A env s I) (λv sv V zs r I1 st1 qz=>Ma3 (qz A env sv pos I1).1 (λvs s2 Vs M2 rs I2 st2 q=>
  (λz_ k_=>k_ (V::Vs) M2 (.cons (r.mono st2.tups) rs) I2 (st1.trans st2) q)) λz_ z_ p=>p.step st1) λz_ z_ p=>p) (he env),by rw[he];exact hp env pos⟩)
theorem Sim.push{h:Heap}{o:Obj}(x:Sim g M h):Sim g M (h.push o):=x.grow λb o' e=>an o e
theorem Step.push{fr own:Addr->Prop}{s:Shared}{o:Obj}:Step fr own M M s {s with heap:=s.heap.push o}:=Step.grow (tk:=s.toks) λb o' e=>an o e
theorem v3(h:Heap):h.get? h.objs.size=none:=by
 cases q:h.get? h.objs.size with
 | none=>rfl
 | some o=>exact absurd (aU q) (bn _)
theorem Sim.fresh{h:Heap}(x:Sim g M h):M h.objs.size=none:=by
 cases q:M h.objs.size with
 | none=>rfl
 | some o=>
  have:=(x.objs _ o q).1;refine c5 this.has λob e=>?_
  rw[v3] at e;exact f5 e
theorem ah3{A env s}{vs:List Value}{l:List V}(I:Inv g F A env Z M s)(r:d3 s.heap vs l)(h:∀ a,M a=none->Q (.ref a) (upd M a (.lst l))) :
  l4 g F A env Z M s Q (.ref s.heap.objs.size) {s with heap:=s.heap.push {cls:=.type "list",data:=.seq vs.toArray}}:=by
 have st:Step (inF A) d9 M (upd M s.heap.objs.size (.lst l)) s {s with heap:=s.heap.push {cls:=.type "list",data:=.seq vs.toArray}}:=
  ⟨⟨rfl,rfl⟩,(Step.push (fr:=inF A) (own:=d9) (M:=M)).dom,(Step.push (fr:=inF A) (own:=d9) (M:=M)).keep,(Step.push (fr:=inF A) (own:=d9) (M:=M)).tups,λb o e hM=>by
   rw[d6 _ _ (br (aU e))];exact hM⟩
 refine(λz_ k_=>k_ _ _ (.ref _) (I.keep st ⟨I.sim.push.stays,λa o e=>?_⟩) st (h _ I.sim.fresh))
 by_cases ha:a=s.heap.objs.size
 ·subst ha
  rw[c9] at e;replace e:=g8 e;subst e;refine⟨⟨vs.toArray,⟨0,aB _ rfl⟩,r.mono st.tups⟩,?_⟩;cases q:g.h₀.get? s.heap.objs.size with
  | none=>rfl
  | some o=>have:=I.sim.stays _ _ q;rw[v3] at this;exact f5 this
 ·rw[d6 _ _ ha] at e
  exact(I.sim.push).objs a o e
theorem X7{A env s}{vs:List Value}{l:List V}(I:Inv g F A env Z M s)(r:d3 s.heap vs l)(h:Q (.tup l) M) :
  l4 g F A env Z M s Q (.ref s.heap.objs.size) {s with heap:=s.heap.push {cls:=.type "tuple",data:=.seq vs.toArray}}:=by
 exact(λz_ k_=>k_ _ M (.tup (vs:=vs.toArray) (n:=0) (aB _ rfl) (r.mono (Step.push (fr:=inF A) (own:=d9) (M:=M)).tups)) (I.keep Step.push I.sim.push) Step.push h)
theorem aO8{es:List Expr}{k:Nat}{pos:Pos}(h:Evs g F es Z M (λvs zs=>vs.length<=sizeLine/\Q (.tup vs) zs) X):Ev g F (.Tuple es k pos) Z M Q X:=(λA env s I=>
 wpAny_Tuple (Ma3 (h A env s pos I).1 (λvs sv Vs zs rs I1 st1 q=>⟨by rw[rs.length];exact q.1,(X7 I1 rs q.2).step st1⟩) λz_ z_ p=>p))
theorem aK2{es:List Expr}{pos:Pos}(h:Evs g F es Z M (λvs zs=>vs.length<=sizeLine/\∀ a,zs a=none->Q (.ref a) (upd zs a (.lst vs))) X):Ev g F (.List es pos) Z M Q X:=(λA env s I=>
 wpAny_List (Ma3 (h A env s pos I).1 (λvs sv Vs zs rs I1 st1 q=>⟨by rw[rs.length];exact q.1,(ah3 I1 rs q.2).step st1⟩) λz_ z_ p=>p))
theorem ah7{value slice:Expr}{pos:Pos}(h:Ev g F value Z M (λa zs=>Ev g F slice Z zs (λb M2=>Itm g F a b Z M2 Q X) X) X)
  (hs:∀ o i,subscripted slice false o i=operate [o,i] (getItem o i)):Ev g F (.Subscript value slice pos) Z M Q X:=(λA env s I=>
 PyProof.Rows.Subscript_ (pgo (h A env s I) (λa sv Va zs ra I1 st1 qz=>pgo (qz A env sv I1) (λb s2 Vb M2 rb I2 st2 h2=>by
   refine f7 (h2 A env s2 a b I2 (ra.mono st2.tups) rb) λT id hT hl hw=>?_
   exact gc hT hl (wpAny_mono hw (λz_ z_ p=>(p.step st2).step st1) λz_ z_ p=>(p.step st2).step st1) (hs a b)) λz_ z_ p=>p.step st1) λz_ z_ p=>p))
theorem au0{l:List V}{k:Int}{j:Nat}{x:V}(hlo : -(2 ^ 63)<=k)(hhi:k<2 ^ 63)(hj:seqIndex? k l.length=some j)(hx:l[j]?=some x)(h:Q x M):Itm g F (.tup l) (.int k) Z M Q X:=(λA env s v y I rx ry=>by
 refine l5 rx.ofTup λa vs n q1_ ht r=>?_;subst q1_
 refine c5 ry.ofInt λz_ q1_=>?_;subst q1_
 refine a9 (r.get hx) λw hw rw'=>?_
 refine⟨"tuple",_,⟨_,ht,rfl⟩,PySem.F.slot_tuple_getitem.lookup,PyProof.Rows.getItem_tuple ⟨_,ht,rfl,_,rfl⟩ hlo hhi (j:=j) ?_ (x:=w) ?_ (A8 I rw' h)⟩
 ·rw[<- hj,<- r.length];simp
 ·rw[<- aD];exact hw)
theorem ai3{a:Addr}{l:List V}{k:Int}{x:V}(hM:M a=some (.lst l))(h0:0<=k)(hhi:k<2 ^ 63)(hx:l[k.toNat]?=some x)(h:Q x M):Itm g F (.ref a) (.int k) Z M Q X:=(λA env s v y I rx ry=>by
 obtain rfl:=rx.ofRef;refine c5 ry.ofInt λz_ q1_=>?_;subst q1_
 refine a9 ((I.sim.objs a _ hM).1) λvs hp r=>?_
 refine a9 (r.get hx) λw hw rw'=>?_
 exact⟨"list",_,hp.isList.typeIs,slot_list_getitem.lookup,wpAny_getItem_list hp.isList h0 hhi (x:=w) (by rw[<- aD];exact hw) (A8 I rw' h)⟩)
end
set_option genCtorIdx false
inductive Flo where
 | next | brk | cont
 | ret (v:V)
set_option genCtorIdx true
inductive FloRep(h:Heap):Flow->Flo->Prop
 | next:FloRep h .next .next
 | brk:FloRep h .brk .brk
 | cont:FloRep h .cont .cont
 | ret {v:Value} {V:V}:Rep h v V->FloRep h (.ret v) (.ret V)
abbrev d4:=Flo->List (Option V)->Hp->Prop
abbrev g7:=Str->List (Option V)->Hp->Prop
def H5(g:G)(F:Blk)(A:Around)(env:Env)(M:Hp)(s:Shared)(Q:d4)(f:Flow)(s':Shared):Prop:=
 ∀ P_:Prop,(∀ (f':Flo) (Z':List (Option V)) (M':Hp) (r:FloRep s'.heap f f') (i:Inv g F A env Z' M' s') (y:Step (inF A) (j6 env) M M' s s') (q:Q f' Z' M'),P_)->P_
def C5(g:G)(F:Blk)(A:Around)(env:Env)(M:Hp)(s:Shared)(X:g7)(e:Value)(s':Shared):Prop:=
 ∀ P_:Prop,(∀ (x:Str) (Z':List (Option V)) (M':Hp) (f:Fly g A e x s.heap M' s'.heap) (i:Inv g F A env Z' M' s') (y:Step (inF A) (j6 env) M M' s s') (q:X x Z' M'),P_)->P_
theorem H5.step{g F A env M zs s sv Q v s'}(x:Step (inF A) (j6 env) M zs s sv)(p:H5 g F A env zs sv Q v s'):H5 g F A env M s Q v s':=
 by refine p _ ?_;clear p;rintro V Z' M' r i y q;exact(λz_ k_=>k_ V Z' M' r i (x.trans y) q)
theorem C5.step{g F A env M zs s sv X v s'}(x:Step (inF A) (j6 env) M zs s sv)(p:C5 g F A env zs sv X v s'):C5 g F A env M s X v s':=
 by refine p _ ?_;clear p;rintro V Z' M' r i y q;exact(λz_ k_=>k_ V Z' M' (r.step x) i (x.trans y) q)
theorem k6.toS{g F A env Z M s v s'}{X:g7}(p:k6 g F A env Z M s (λx M'=>X x Z M') v s'):C5 g F A env M s X v s':=
 by refine p _ ?_;clear p;rintro x M' r i y q;exact(λz_ k_=>k_ x Z M' r i (y.mono (λz_ h=>h.elim)) q)
def Exs(g:G)(F:Blk)(ss:List Stmt)(Z:List (Option V))(M:Hp)(Q:d4)(X:g7):Prop:=
 ∀ A env s,Inv g F A env Z M s->wpAny (model g.prog g.w) A (execs ss env) (H5 g F A env M s Q) (C5 g F A env M s X) s
def Ex(g:G)(F:Blk)(st:Stmt)(Z:List (Option V))(M:Hp)(Q:d4)(X:g7):Prop:=
 ∀ A env s,Inv g F A env Z M s->wpAny (model g.prog g.w) A (exec st env) (H5 g F A env M s Q) (C5 g F A env M s X) s
theorem aw4{l:List Str}(hn:l.Nodup){i j:Nat}{x:Str}(hi:l[i]?=some x)(hj:l[j]?=some x):i=j:=by
 obtain⟨hi',e1⟩:=ay.mp hi;obtain⟨hj',e2⟩:=ay.mp hj;exact(dX hn).mp (e1.trans e2.symm)
section
variable{g:G}{F:Blk}{Z:List (Option V)}{M:Hp}{Q:d4}{X:g7}
theorem as1{h h':Heap}{c:Addr}{o:Obj}(ho:h.get? c=some o)(hd:∀ vs n,o.data≠.seq vs n)(hs:Heap.SameBut c h h'):k9 h h':=λb vs n e=>
 (hs.2 b λq=>hd vs n (congrArg Obj.data (Option.some.inj ((ho.symm.trans (congrArg h.get? q.symm)).trans e)))).trans e
theorem R5{h h':Heap}{c:Addr}{m:Str->Option Value}(hn:h.Ns c m)(hs:Heap.SameBut c h h'):k9 h h':=by
 refine l5 hn λo es ep ho hd z_=>?_
 exact as1 ho (λz_ z_ e=>Data.noConfusion (hd.symm.trans e)) hs
theorem ap4{h h':Heap}{c:Addr}{r:Option Value}(hn:h.IsCell c r)(hs:Heap.SameBut c h h'):k9 h h':=by
 refine a9 hn λo ho hd=>?_
 exact as1 ho (λz_ z_ e=>Data.noConfusion (hd.symm.trans e)) hs
theorem I7{A:Around}{env:Env}{s:Shared}{v:Value}{V:Internal.V}{i:Nat}{x:Str}{w:Option Internal.V}{QU:Unit->Shared->Prop}{E:Value->Shared->Prop}(I:Inv g F A env Z M s)(hx:F.vars[i]?=some x)(hw:Z[i]?=some w)
  (r:Rep s.heap v V) (h:∀ s',Inv g F A env (Z.set i (some V)) M s'->Step (inF A) (j6 env) M M s s'->QU () s'):wpAny (model g.prog g.w) A (storeName env x v) QU E s:=by
 have hnd:=I.nd;refine a9 I.loc.ns λm hn hm=>?_
 have H8:∀ j,∀ u:Option Internal.V,(Z.set i (some V))[j]?=some u->(i=j/\u=some V)∨(i≠j/\Z[j]?=some u):=λj u hj=>by
  by_cases e:i=j
  ·subst e
   rw[cX (ay.mp hw).1] at hj;exact .inl ⟨rfl,(Option.some.inj hj).symm⟩
  ·rw[dg e] at hj
   exact .inr ⟨e,hj⟩
 rcases hm i x _ hx hw with ⟨hk,_⟩ | ⟨hk,c,r0,hc,hcell,_⟩
 ·refine wpAny_storeName_local hk hn (λh' hn' hs'=>?_) (by rw[I.fn];rfl)
  have st:Step (inF A) (j6 env) M M s {s with heap:=h',toks:=s.toks+1}:=by
   refine l5 (id hn') λo' es' ep' ho' hd' z_=>?_
   refine⟨⟨rfl,rfl⟩,λb o e=>?_,λb o e hM ho=>⟨o,(hs'.2 b λq=>ho (.inl q)).trans e,.inl rfl⟩,R5 hn hs',λz_ z_ z_ q=>q⟩
   by_cases hb:b=env.locals
   ·subst hb
    exact⟨o',ho',λz_=>⟨_,_,hd'⟩⟩
   ·exact⟨o,(hs'.2 b hb).trans e,id⟩
  refine h _ ?_ st
  ·have tu:k9 s.heap h':=R5 hn hs'
   have ne:∀ a o,M a=some o->a≠env.locals:=λa o e q=>by rw[q,I.loc.free _ (.inl rfl)] at e;exact f5 e
   refine⟨I.scope,I.fn,I.glob,I.bltn,I.room,I.units,I.quiet,⟨λb o e=>?_,λa o e=>⟨(I.sim.objs a o e).1.keep tu λob eb=>(hs'.2 a (ne a o e)).trans eb,(I.sim.objs a o e).2⟩⟩,
    ⟨by rw[bB];exact I.loc.len,⟨_,hn',λj y u hj hu=>?_⟩,I.loc.free,λy c hc=>?_,I.loc.apart,I.loc.other⟩,I.base,I.nd,I.frs.step st⟩
   ·exact(hs'.2 b (λq=>by rw[q,I.base _ (.inl rfl)] at e;exact f5 e)).trans (I.sim.stays b o e)
   ·rcases H8 j u hu with ⟨rfl,rfl⟩ | ⟨hne,hu'⟩
    ·rw[hx] at hj;replace hj:=g8 hj;subst hj
     exact .inl ⟨hk,λW hW=>by replace hW:=g8 hW;subst hW;exact⟨v,if_pos rfl,r.mono tu⟩⟩
    ·have hyx:y≠x:=λq=>hne (aw4 hnd hx (q▸hj))
     rcases hm j y u hj hu' with ⟨hk',e'⟩ | ⟨hk',c,r0,hc,hcell,e'⟩
     ·exact .inl ⟨hk',λW hW=>by refine a9 (e' W hW) λr1 a1 a2=>?_;exact⟨r1,by simpa[hyx] using a1,a2.mono tu⟩⟩
     ·exact .inr ⟨hk',c,r0,hc,hcell.sameBut hs' (I.loc.other _ _ hc),λW hW=>by refine a9 (e' W hW) λr1 a1 a2=>?_;exact⟨r1,a1,a2.mono tu⟩⟩
   ·refine c5 (I.loc.live y c hc) λv hv=>?_
    exact⟨v,hv.sameBut hs' (I.loc.other y c hc)⟩
 ·refine wpAny_storeName_cell I.fn hk hc hcell λh' hc' hs'=>?_
  have st:Step (inF A) (j6 env) M M s {s with heap:=h'}:=by
   refine a9 (id hcell) λoc hoc hdc=>?_
   refine a9 (id hc') λo' ho' hd'=>?_
   refine⟨⟨rfl,rfl⟩,λb o e=>?_,λb o e hM ho=>⟨o,(hs'.2 b λq=>ho (.inr ⟨_,q▸hc⟩)).trans e,.inl rfl⟩,ap4 hcell hs',λz_ z_ z_ q=>q⟩
   by_cases hb:b=c
   ·subst hb
    exact⟨o',ho',λq=>by refine p8 q λes ep q=>?_;rw[hoc] at e;replace e:=g8 e;subst e;rw[hdc] at q;cases q⟩
   ·exact⟨o,(hs'.2 b hb).trans e,id⟩
  refine h _ ?_ st
  ·have tu:k9 s.heap h':=ap4 hcell hs'
   have ne:∀ a o,M a=some o->a≠c:=λa o e q=>by rw[q,I.loc.free _ (.inr ⟨_,hc⟩)] at e;exact f5 e
   refine⟨I.scope,I.fn,I.glob,I.bltn,I.room,I.units,I.quiet,⟨λb o e=>?_,λa o e=>⟨(I.sim.objs a o e).1.keep tu λob eb=>(hs'.2 a (ne a o e)).trans eb,(I.sim.objs a o e).2⟩⟩,
    ⟨by rw[bB];exact I.loc.len,⟨m,hn.sameBut hs' (Ne.symm (I.loc.other _ _ hc)),λj y u hj hu=>?_⟩,I.loc.free,λy' c' hc''=>?_,I.loc.apart,I.loc.other⟩,I.base,I.nd,I.frs.step st⟩
   ·exact(hs'.2 b (λq=>by rw[q,I.base _ (.inr ⟨_,hc⟩)] at e;exact f5 e)).trans (I.sim.stays b o e)
   ·rcases H8 j u hu with ⟨rfl,rfl⟩ | ⟨hne,hu'⟩
    ·rw[hx] at hj;replace hj:=g8 hj;subst hj
     exact .inr ⟨hk,c,_,hc,hc',λW hW=>by replace hW:=g8 hW;subst hW;exact⟨v,rfl,r.mono tu⟩⟩
    ·have hyx:y≠x:=λq=>hne (aw4 hnd hx (q▸hj))
     rcases hm j y u hj hu' with ⟨hk',e'⟩ | ⟨hk',c2,r2,hc2,hcell2,e'⟩
     ·exact .inl ⟨hk',λW hW=>by refine a9 (e' W hW) λr1 a1 a2=>?_;exact⟨r1,a1,a2.mono tu⟩⟩
     ·exact .inr ⟨hk',c2,r2,hc2,hcell2.sameBut hs' (λq=>hyx (I.loc.apart _ _ _ hc2 (q▸hc))),λW hW=>by refine a9 (e' W hW) λr1 a1 a2=>?_;exact⟨r1,a1,a2.mono tu⟩⟩
   ·by_cases q:c'=c
    ·exact⟨_,q▸hc'⟩
    ·refine c5 (I.loc.live y' c' hc'') λv hv=>?_
     exact⟨v,hv.sameBut hs' q⟩
theorem Exs.mono{ss:List Stmt}{Q':d4}(h:Exs g F ss Z M Q X)(k:∀ f Z M,Q f Z M->Q' f Z M):Exs g F ss Z M Q' X:=(λA env s I=>
 wpAny_mono (h A env s I) (λz_ z_ p=>by refine p _ ?_;clear p;rintro V Z' M' r i y q;exact(λz_ k_=>k_ V Z' M' r i y (k _ _ _ q))) λz_ z_ p=>p)
theorem Exs.sub{ss:List Stmt}{M':Hp}(h:Exs g F ss Z M' Q X)(k:Sub M' M):Exs g F ss Z M Q X:=(λA env s I=>by
 have st:Step (inF A) d9 M M' s s:=Step.refl.sub k;have st':Step (inF A) (j6 env) M M' s s:=Step.refl.sub k;exact wpAny_mono (h A env s (I.keep st (I.sim.sub k))) (λz_ z_ p=>p.step st') λz_ z_ p=>p.step st')
noncomputable def bQ0(g:G)(F:Blk)(rest:List Stmt)(Q:d4)(X:g7):d4:=λf Z M=>match f with
 | .next=>Exs g F rest Z M Q X
 | f=>Q f Z M
theorem bE1(h:Q .next Z M):Exs g F [] Z M Q X:=(λA env s I=>wpAny_execs_nil (λz_ k_=>k_ .next Z M .next I Step.refl h))
theorem bh8{st:Stmt}{rest:List Stmt}(h:Ex g F st Z M (bQ0 g F rest Q X) X):Exs g F (st::rest) Z M Q X:=(λA env s I=>
 wpAny_execs_cons (wpAny_mono (h A env s I) (λf sv p0=>by
  refine p0 _ ?_;clear p0;rintro f' Z₁ zs r I1 st1 q;cases r with
  | next=>exact wpAny_mono ((show Exs g F rest Z₁ zs Q X from q) A env sv I1) (λz_ z_ p=>p.step st1) λz_ z_ p=>p.step st1
  | brk=>exact(λz_ k_=>k_ .brk Z₁ zs .brk I1 st1 q)
  | cont=>exact(λz_ k_=>k_ .cont Z₁ zs .cont I1 st1 q)
  | ret r=>exact(λz_ k_=>k_ (.ret _) Z₁ zs (.ret r) I1 st1 q)) λz_ z_ p=>p))
theorem ch3{pos:Pos}(h:Q .brk Z M):Ex g F (.Break pos) Z M Q X:=(λA env s I=>wpAny_Break (λz_ k_=>k_ .brk Z M .brk I Step.refl h))
theorem bF9{e:Expr}{pos:Pos}(h:Ev g F e Z M (λv zs=>Q (.ret v) Z zs) (λx zs=>X x Z zs)):Ex g F (.Return (some e) pos) Z M Q X:=(λA env s I=>
 wpAny_Return_some (pgo (h A env s I) (λv sv V zs r I1 st1 q=>(λz_ k_=>k_ (.ret V) Z zs (.ret r) I1 (st1.mono λz_ h=>h.elim) q)) λz_ z_ p=>p.toS))
theorem bP2{test:Expr}{body orelse:List Stmt}{pos:Pos}(h:Tst g F test Z M (λb zs=>(b=true->Exs g F body Z zs Q X)/\(b=false->Exs g F orelse Z zs Q X)) (λx zs=>X x Z zs)):Ex g F (.If test body orelse pos) Z M Q X:=(λA env s I=>
 wpAny_If (y0 (h A env s I) (λb sv zs I1 st1 q=>by
  have st':Step (inF A) (j6 env) M zs s sv:=st1.mono λz_ h=>h.elim
  cases b with
  | true=>exact wpAny_mono ((q.1 rfl) A env sv I1) (λz_ z_ p=>p.step st') λz_ z_ p=>p.step st'
  | false=>exact wpAny_mono ((q.2 rfl) A env sv I1) (λz_ z_ p=>p.step st') λz_ z_ p=>p.step st') λz_ z_ p=>p.toS))
end
def Cl(g:G)(F:Blk)(f:Value)(as:List V)(Z:List (Option V))(M:Hp)(Q:V->Hp->Prop)(X:Str->Hp->Prop):Prop:=
 ∀ A env s vs,Inv g F A env Z M s->d3 s.heap vs as->wpAny (model g.prog g.w) A (call f vs) (l4 g F A env Z M s Q) (k6 g F A env Z M s X) s
def bn1(g:G)(A:Around)(M:Hp)(s:Shared)(Q:V->Hp->Prop)(v:Value)(s':Shared):Prop:=
 ∀ P_:Prop,(∀ (V:V) (M':Hp) (r:Rep s'.heap v V) (i:Sim g M' s'.heap) (y:Step (inF A) d9 M M' s s') (q:Q V M'),P_)->P_
def ci1(g:G)(A:Around)(M:Hp)(s:Shared)(X:Str->Hp->Prop)(e:Value)(s':Shared):Prop:=
 ∀ P_:Prop,(∀ (x:Str) (M':Hp) (f:Fly g A e x s.heap M' s'.heap) (i:Sim g M' s'.heap) (y:Step (inF A) d9 M M' s s') (q:X x M'),P_)->P_
def c7(g:G)(d:Nat)(q:Bool)(f:Str)(as:List V)(M:Hp)(Q:V->Hp->Prop)(X:Str->Hp->Prop):Prop:=
 ∀ A s vs a,g.mg f=some (.ref a)->A.depth+d<recursionLimit->A.units+8*d<cLine->(q=true->A.handled=none)->Sim g M s.heap->FrL g A M s.heap->d3 s.heap vs as->
  codeAny (model g.prog g.w) A (.call (.ref a) ⟨vs,[]⟩) (λr s'=>match r with
   | .ok (.ret v)=>bn1 g A M s Q v s'
   | .ok _=>False
   | .error e=>ci1 g A M s X e s') s
def FnO(g:G)(f:Str)(params:Arguments)(body:List Stmt)(scope:Scope):Prop:=
 ∀ P_:Prop,(∀ (a:Addr) (o:Obj) (pm cd doc) (h1:g.mg f=some (.ref a)) (h2:g.h₀.get? a=some o) (h3:o.data=.func (cJ f params body scope pm cd doc)) (h4:g.h₀.CodeRec cd f),P_)->P_
structure FnAt(g:G)(f:Str)(params:Arguments)(body:List Stmt)(scope:Scope):Prop where
 at':FnO g f params body scope
section
variable{g:G}{F:Blk}{Z:List (Option V)}{M:Hp}{Q:V->Hp->Prop}{X:Str->Hp->Prop}
theorem v5{Ma:Model}{A:Around}{E:Value->Shared->Prop}{s:Shared}{f:Value}:∀ {args:List (Bool×Sem Value)} {Q:Args->Shared->Prop},args.any (·.1)=false->
  wpAny Ma A (spliced args) (λvs s'=>Q ⟨vs,[]⟩ s') E s->wpAny Ma A (evalArgs f true args []) Q E s
 | [],Q,_,h=>by
  unfold evalArgs;show wpAny Ma A (spliced [] >>= _) Q E s;refine wpAny_bind (wpAny_mono h (λvs s' h'=>?_) λz_ z_ x=>x)
  refine wpAny_holding ?_;exact wpAny_bind (wpAny_pure (wpAny_bind (wpAny_pure (wpAny_pure h'))))
 | (true,x)::rest,Q,hp,h=>by simp at hp
 | (false,x)::rest,Q,hp,h=>Calls.evalArgs_plain h
theorem aL6{x:Str}{pos:Pos}{fv:Value}{V:Internal.V}(hk:F.sc.names.lookup x=some .globalImplicit)(hv:g.mg x=some fv)(hr:∀ h,Rep h fv V)(h:Q V M)(hd:(x==("__debug__" : Str))=false) :
  Ev g F (.Name x pos) Z M Q X:=(λA env s I=>
 Calls.Name_function_global I.fn (by show env.scope.names.lookup x=_;rw[I.scope];exact hk) (cT (by rw[I.glob];exact g.ns.keeps I.sim.stays) hv (A8 I (hr _) h)) hd)
theorem bK4{x:Str}{np pos:Pos}{args:List Expr}{id:String}(hk:F.sc.names.lookup x=some .globalImplicit)(hg:g.mg x=none)(hb:g.mb x=some (.builtin id))
  (h:Evs g F args Z M (λvs zs=>Cl g F (.builtin id) vs Z zs Q X) X) (hd:(x==("__debug__" : Str))=false):Ev g F (.Call (.Name x np) args [] pos) Z M Q X:=(λA env s I=>by
 refine wpAny_Call_ofName (Calls.Name_function_global I.fn (by show env.scope.names.lookup x=_;rw[I.scope];exact hk) (aX (by rw[I.glob];exact g.ns.keeps I.sim.stays) hg (by rw[I.bltn];exact g.nb.keeps I.sim.stays) hb ?_) hd)
 refine c6 (h A env s pos I) λhw hp=>?_
 refine ch hp (v5 hp (wpAny_mono hw (λvs sv p_=>?_) λz_ z_ p=>p))
 refine p_ _ ?_;clear p_;rintro Vs zs rs I1 st1 q;exact wpAny_mono (q A env sv vs I1 rs) (λz_ z_ p=>p.step st1) λz_ z_ p=>p.step st1)
theorem bl9{x:Str}{np pos:Pos}{args:List Expr}{id:String}(hk:F.sc.names.lookup x=some .globalImplicit)(hg:g.mg x=none)(hb:g.mb x=some (.type id))
  (h:Evs g F args Z M (λvs zs=>Cl g F (.type id) vs Z zs Q X) X) (hd:(x==("__debug__" : Str))=false):Ev g F (.Call (.Name x np) args [] pos) Z M Q X:=(λA env s I=>by
 refine wpAny_Call_ofName (Calls.Name_function_global I.fn (by show env.scope.names.lookup x=_;rw[I.scope];exact hk) (aX (by rw[I.glob];exact g.ns.keeps I.sim.stays) hg (by rw[I.bltn];exact g.nb.keeps I.sim.stays) hb ?_) hd)
 refine c6 (h A env s pos I) λhw hp=>?_
 refine callWith_excType hp (v5 hp (wpAny_mono hw (λvs sv p_=>?_) λz_ z_ p=>p))
 refine p_ _ ?_;clear p_;rintro Vs zs rs I1 st1 q;exact wpAny_mono (q A env sv vs I1 rs) (λz_ z_ p=>p.step st1) λz_ z_ p=>p.step st1)
theorem cg8{x:Str}{np pos:Pos}{args:List Expr}{params:Arguments}{body:List Stmt}{scope:Scope}(hf:FnAt g x params body scope)(hk:F.sc.names.lookup x=some .globalImplicit)
  (h:Evs g F args Z M (λvs zs=>c7 g F.d F.q x vs zs Q X) X) (hd:(x==("__debug__" : Str))=false):Ev g F (.Call (.Name x np) args [] pos) Z M Q X:=(λA env s I=>by
 refine hf.at' _ ?_;rintro a o pm cd doc hm ho hdat hcd;refine wpAny_Call_ofName (Calls.Name_function_global I.fn (by show env.scope.names.lookup x=_;rw[I.scope];exact hk) (cT (by rw[I.glob];exact g.ns.keeps I.sim.stays) hm ?_) hd)
 refine c6 (h A env s pos I) λhw hp=>?_
 refine Calls.callWith_function (o:=o) (v5 hp (wpAny_mono hw (λvs sv p_=>p_ _ λVs zs rs I1 st1 q=>⟨⟨I1.sim.stays _ _ ho,hdat⟩,?_⟩) λz_ z_ p=>p))
 refine wpAny_call (codeAny_mono (q A sv vs a hm I1.room I1.units I1.quiet I1.sim I1.frs.l rs) λr s2 h2=>?_)
 cases r with
 | ok fl=>
  cases fl with
  | ret v=>
   refine h2 _ ?_;clear h2;rintro V M' r sm st q';exact(λz_ k_=>k_ V M' r (I1.keep st sm) (st1.trans st) q')
  | _=>exact h2.elim
 | error e=>
  refine h2 _ ?_;clear h2;rintro x M' r sm st q';exact(λz_ k_=>k_ x M' (r.step st1) (I1.keep st sm) (st1.trans st) q'))
noncomputable def ae2(params:Arguments)(scope:Scope)(vars:List Str):Bool:=
 decide vars.Nodup&&decide (params.args.map (·.arg)=vars.take params.args.length)&&decide (params.args.length<=vars.length) &&
 vars.all (λx=>scope.names.lookup x==some .local||scope.names.lookup x==some .cell) &&
 (scope.kind==.function) && !scope.isCoroutine && !scope.isGenerator
theorem br6{k:Str->Option NameKind}{ps:List Str}:∀ {vs:List Value} {m:Str->Option Value} {x:Str},k x=some .local->ps.Nodup->ps.length=vs.length->
  (∀ i:Nat,ps[i]?=some x->bindL k (ps.zip vs) m x=vs[i]?)/\(x∉ps->bindL k (ps.zip vs) m x=m x):=by
 induction ps with
 | nil=>intro vs m x hk hn hl;exact⟨(λi h=>(by exact f5 h)),λz_=>rfl⟩
 | cons p ps ih0=>
  intro vs m x hk hn hl;cases vs with
  | nil=>cases hl
  | cons v vs=>
   have ih:=@ih0 vs (if k p=some .local then λy=>if y=p then some v else m y else m) x hk (cz.mp hn).2 (Nat.succ.inj hl)
   refine⟨λi hi=>?_,λhx=>?_⟩
   ·cases i with
    | zero=>
     replace hi:=g8 hi;subst hi
     refine(ih.2 (cz.mp hn).1).trans ?_;rw[if_pos hk,if_pos rfl];rfl
    | succ i=>exact ih.1 i hi
   ·refine(ih.2 λq=>hx (aP _ q)).trans ?_
    have hne:x≠p:=λq=>hx (by rw[q];exact bH)
    split
    ·exact if_neg hne
    ·rfl
theorem bH3{k:Str->Option NameKind}{ps:List Str}:∀ {vs:List Value} {m:Str->Option Value} {x:Str},k x≠some .local->ps.Nodup->ps.length=vs.length->
  (∀ i:Nat,ps[i]?=some x->bindC k (ps.zip vs) m x=vs[i]?)/\(x∉ps->bindC k (ps.zip vs) m x=m x):=by
 induction ps with
 | nil=>intro vs m x hk hn hl;exact⟨(λi h=>(by exact f5 h)),λz_=>rfl⟩
 | cons p ps ih0=>
  intro vs m x hk hn hl;cases vs with
  | nil=>cases hl
  | cons v vs=>
   have ih:=@ih0 vs (if k p=some .local then m else λy=>if y=p then some v else m y) x hk (cz.mp hn).2 (Nat.succ.inj hl)
   refine⟨λi hi=>?_,λhx=>?_⟩
   ·cases i with
    | zero=>
     replace hi:=g8 hi;subst hi
     refine(ih.2 (cz.mp hn).1).trans ?_;rw[if_neg hk,if_pos rfl];rfl
    | succ i=>exact ih.1 i hi
   ·refine(ih.2 λq=>hx (aP _ q)).trans ?_
    have hne:x≠p:=λq=>hx (by rw[q];exact bH)
    split
    ·rfl
    ·exact if_neg hne
theorem au1{x:Str}(names:List (Str×NameKind)):∀ (n:Nat) (acc:List (Str×Addr)),names.lookup x=some .cell∨(acc.lookup x).isSome=true->((cellsFrom n names acc).lookup x).isSome=true:=by
 induction names with
 | nil=>intro n acc h;exact h.elim (λe=>by exact f5 e) id
 | cons p r ih=>
  obtain⟨y,k⟩:=p;intro n acc h;have e0:cellsFrom n ((y,k)::r) acc=if (k==.cell)=true then cellsFrom (n+1) r ((y,n)::acc) else cellsFrom n r acc:=rfl
  rw[e0];by_cases hk:(k==.cell)=true
  ·rw[if_pos hk]
   refine ih (n+1) ((y,n)::acc) ?_;by_cases hy:(x==y)=true
   ·exact .inr (by rw[bu,hy];rfl)
   ·have hy':=Bool.not_eq_true _▸hy
    refine h.imp (λe=>?_) λe=>?_
    ·rw[bu,hy'] at e;exact e
    ·rw[bu,hy'];exact e
  ·rw[if_neg hk]
   refine ih n acc ?_;by_cases hy:(x==y)=true
   ·refine .inr (h.elim (λe=>?_) id)
    rw[bu,hy] at e;exact absurd (by rw[Option.some.inj e];rfl) hk
   ·have hy':=Bool.not_eq_true _▸hy
    refine h.imp (λe=>?_) id
    rw[bu,hy'] at e;exact e
end
noncomputable def u3(h:Heap)(S:List Addr):Heap:={h with objs:=h.objs.mapIdx λi o=>if i∈S then{o with data:=.freed} else o}
theorem G9{h:Heap}{S:List Addr}{b:Addr}(hb:b∈S):(u3 h S).get? b=none:=by
 cases q:(u3 h S).get? b with
 | none=>rfl
 | some o=>
  obtain⟨e,f⟩:=cV.mp q;simp only[u3,ee] at e
  refine a9 (aJ.mp e) λo' z_ e=>?_
  rw[if_pos hb] at e;subst e;cases f
theorem aC8{h:Heap}{S:List Addr}{b:Addr}{o:Obj}(e:(u3 h S).get? b=some o):h.get? b=some o:=by
 have hb:b∉S:=λhb=>by rw[G9 hb] at e;exact f5 e
 obtain⟨e,f⟩:=cV.mp e;simp only[u3,ee] at e
 refine a9 (aJ.mp e) λo' e' e=>?_
 rw[if_neg hb] at e;subst e;exact cV.mpr ⟨e',f⟩
theorem ah5{h:Heap}{S:List Addr}{b:Addr}{o:Obj}(hb:b∉S)(e:h.get? b=some o):(u3 h S).get? b=some o:=by
 obtain⟨e,f⟩:=cV.mp e;refine cV.mpr ⟨?_,f⟩;simp only[u3,ee]
 rw[e,Option.map_some,if_neg hb]
theorem as6{g:G}{M:Hp}{h base:Heap}{l:List Env}(all:∀ e∈l,K8 g M h e)(hb:∀ e∈l,∀ L,e.frame=some L->base.get? L=none):h.FunFrames base l:=by
 induction l with
 | nil=>trivial
 | cons e l ih=>
  refine(all e (.head _)) _ ?_;rintro L hk hf - - o ho ⟨es,ep,d⟩;exact⟨hk,⟨L,o,hf,hb e (.head _) L hf,ho,λvs q=>by rw[d] at q;cases q⟩,ih (λe he=>all e (.tail _ he)) λe he=>hb e (.tail _ he)⟩
noncomputable def aH7(A:Around)(h h':Heap):Prop:=∀ b o,h.get? b=some o->(∀ vs,o.data≠.fields vs)->∃ o',h'.get? b=some o'/\KO (inF A b) o o'
section
variable{g:G}{A:Around}{env:Env}{own:Addr->Prop}{zq M:Hp}{sx s:Shared}{e:Value}{x:Str}
def X1(g:G)(A:Around)(own:Addr->Prop)(zq M:Hp)(sx s:Shared)(h':Heap):Prop:=
 ∀ P_:Prop,(∀ (y:Step (inF A) own zq M sx {s with heap:=h'}) (m:Sim g M h') (k:aH7 A s.heap h') (t:k9 s.heap h'),P_)->P_
theorem went{h':Heap}{S:List Addr}(y:Step (inF A) own zq M sx s)(sm:Sim g M s.heap)(hk:∀ b o,s.heap.get? b=some o->b∉S->h'.get? b=some o)
  (hS:∀ b∈S,(∃ vs o,s.heap.get? b=some o/\o.data=.fields vs/\sx.heap.get? b=none/\g.h₀.get? b=none/\M b=none)∨(inF A b/\g.h₀.get? b=none/\M b=none/\∃ o,s.heap.get? b=some o/\IsD o))
  (hs:∀ b o,s.heap.get? b=some o->(∀ vs,o.data≠.fields vs)->∃ sl,h'.get? b=some {o with slots:=sl}):X1 g A own zq M sx s h':=by
 have soft:aH7 A s.heap h':=λb o e hn=>by
  by_cases q:b∈S
  ·rcases hS b q with ⟨vs,o',e',d,-⟩ | ⟨hf,-⟩
   ·rw[e] at e';replace e':=g8 e';subst e';exact absurd d (hn vs)
   ·refine c5 (hs b o e hn) λsl e'=>?_;exact⟨_,e',.inr ⟨hf,sl,rfl⟩⟩
  ·exact⟨o,hk b o e q,.inl rfl⟩
 have keep:∀ b o,s.heap.get? b=some o->sx.heap.get? b≠none->∃ o',h'.get? b=some o'/\KO (inF A b) o o':=λb o e hn=>by
  by_cases q:b∈S
  ·rcases hS b q with ⟨_,_,_,_,e',-⟩ | ⟨hf,-,-,o',ho,es,ep,d⟩
   ·exact absurd e' hn
   ·rw[e] at ho;replace ho:=g8 ho;subst ho;exact soft b o e λvs q=>by rw[d] at q;cases q
  ·exact⟨o,hk b o e q,.inl rfl⟩
 have tu:k9 s.heap h':=λb vs n e=>by
  refine hk b _ e λq=>?_
  rcases hS b q with ⟨_,_,e',d,-⟩ | ⟨-,-,-,o',ho,es,ep,d⟩
  ·rw[e] at e';replace e':=g8 e';subst e';cases d
  ·rw[e] at ho;replace ho:=g8 ho;subst ho;cases d
 refine(λz_ k_=>k_ ⟨y.same,λb o e=>?_,λb o e hM ho=>?_,y.tups.trans tu,y.new⟩ ⟨λb o e=>hk b o (sm.stays b o e) λq=>?_,λa o e=>⟨(sm.objs a o e).1.keep tu λob eb=>hk a ob eb λq=>?_,(sm.objs a o e).2⟩⟩ soft tu)
 ·refine a9 (y.dom b o e) λo1 e1 d1=>?_
  obtain⟨o2,e2,k2⟩:=keep b o1 e1 (by rw[e];exact dp _)
  exact⟨o2,e2,λh=>by refine p8 (d1 h) λes ep d=>?_;exact⟨es,ep,k2.data.trans d⟩⟩
 ·refine a9 (y.keep b o e hM ho) λo1 e1 k1=>?_
  obtain⟨o2,e2,k2⟩:=keep b o1 e1 (by rw[e];exact dp _)
  exact⟨o2,e2,k1.trans k2⟩
 ·rcases hS b q with ⟨_,_,_,_,_,e',_⟩ | ⟨_,e',_⟩<;>(rw[e] at e';exact z9 e')
 ·rcases hS a q with ⟨_,_,_,_,_,_,e'⟩ | ⟨_,_,e',_⟩<;>(rw[e] at e';exact z9 e')
theorem al4{h':Heap}{S:List Addr}{a C:Addr}{a0 fl:Value}(y:Step (inF A) own zq M sx s)(sm:Sim g M s.heap)(he:e=.ref a)(n:sx.heap.get? a=none)(b:g.h₀.get? a=none)(hs:M a=none)(hx:g.mg x=some (.ref C))
  (hS:∀ b∈S,b≠a->(sx.heap.get? b=none/\g.h₀.get? b=none/\M b=none)∨∃ o,h'.get? b=some o/\IsD o) (t:h'.TracedAtW (u3 s.heap S) a (.ref C) a0 fl):F9 g e x sx.heap M h' fl:=by
 obtain⟨oe,vs,T,oT,ts,ho,⟨hc,h0⟩,hd,h1,hbT,hTe,hT,hdT,h3⟩:=t;have key:sx.heap.get? T=none/\g.h₀.get? T=none/\M T=none:=by
  by_cases q:T∈S
  ·rcases hS T q hTe with r | ⟨o,e1,es,ep,d⟩
   ·exact r
   ·rw[hT] at e1;replace e1:=g8 e1;subst e1;rw[hdT] at d;cases d
  ·have hn:s.heap.get? T=none:=by
    cases e1:s.heap.get? T with
    | none=>rfl
    | some o=>rw[ah5 q e1] at hbT;exact z9 hbT
   refine⟨y.nix hn,?_,?_⟩
   ·cases e1:g.h₀.get? T with
    | none=>rfl
    | some o=>rw[sm.stays _ _ e1] at hn;exact z9 hn
   ·cases e1:M T with
    | none=>rfl
    | some o=>refine c5 ((sm.objs _ _ e1).1.has) λob e2=>?_;rw[e2] at hn;exact z9 hn
 exact(λz_ k_=>k_ a vs (λz_ k_=>k_ C oe a0 he n b hs ho hc hx hd h0) T oT ts h1 key.1 key.2.1 key.2.2 hTe hT hdT h3)
theorem bz1{e0:Env}(hf:e0.frame=env.frame):noteFrame e env=noteFrame e e0:=by
 unfold noteFrame frameOf;rw[hf]
theorem aC2{L:Addr}{Q:Unit->Shared->Prop}{E:Value->Shared->Prop}(y:Step (inF A) own zq M sx s)(fs:Frs g A env M s.heap)(sm:Sim g M s.heap)(f:Fly g A e x sx.heap M s.heap)(hL:env.frame=some L)
  (k:∀ h',X1 g A own zq M sx s h'->F9 g e x sx.heap M h' (rawInt L)->Q () {s with heap:=h'}):wpAny (model g.prog g.w) A (noteFrame e env) Q E s:=by
 refine fs _ ?_;clear fs;rintro e0 l ha hf all;rw[bz1 hf];have hL':e0.frame=some L:=hf.trans hL;have fin:∀ b∈(e0::l).filterMap (·.frame),inF A b/\g.h₀.get? b=none/\M b=none/\∃ o,s.heap.get? b=some o/\IsD o:=λb hb=>by
  refine a9 (eR.mp hb) λv hv hb=>?_
  refine(all v hv) _ ?_;rintro L'-h1 h2 h3 o h4 h5;rw[hb] at h1;replace h1:=g8 h1;subst h1;exact⟨⟨_,v,ha,hv,hb⟩,h2,h3,o,h4,h5⟩
 have dat:∀ {h':Heap} {b:Addr},b∈(e0::l).filterMap (·.frame)->(∀ b o,s.heap.get? b=some o->(∀ vs,o.data≠.fields vs)->∃ sl,h'.get? b=some {o with slots:=sl})->∃ o,h'.get? b=some o/\IsD o:=fun{h' b} hb hs=>by
  obtain⟨-,-,-,o,ho,es,ep,d⟩:=fin b hb;obtain⟨sl,e1⟩:=hs b o ho λvs q=>by rw[d] at q;cases q
  exact⟨_,e1,es,ep,d⟩
 cases f with
 | made a vs z h1=>
  refine z _ ?_;clear z;rintro C oe a0 rfl n b hs ho hc hx hd h0;have stay:(u3 s.heap (a::(e0::l).filterMap (·.frame))).StaysIn s.heap:=λz_ z_ e=>aC8 e
  unfold noteFrame;simp only[hL']
  refine wpAny_bind (wpAny_field ho hd h1 ?_);rw[if_neg (by decide)]
  refine wpAny_entryW ha (as6 all λv hv L' h=>G9 (.tail _ (eR.mpr ⟨v,hv,h⟩))) hL' ho stay (G9 (.head _)) hd (bG.mp h1).1 h0 λh' N=>?_
  refine ae1 N λk1 z_ k3 k4=>?_
  rw[hc] at k3;refine k h' (went (S:=a::(e0::l).filterMap (·.frame)) y sm (λb o e q=>k1 b o (ah5 q e)) (λc hc'=>?_) k4) (al4 y sm rfl n b hs hx (λc hc' ne=>?_) k3)
  ·rcases au.mp hc' with rfl | hc'
   ·exact .inl ⟨vs,oe,ho,hd,n,b,hs⟩
   ·exact .inr (fin c hc')
  ·rcases au.mp hc' with rfl | hc'
   ·exact absurd rfl ne
   ·exact .inr (dat hc' k4)
 | on fl z hfl=>
  refine z _ ?_;clear z;rintro a vs z T oT ts h1 nT bT sT ne hT dT h3;refine z _ ?_;clear z;rintro C oe a0 rfl n b hs ho hc hx hd h0;have stay:(u3 s.heap (a::T::(e0::l).filterMap (·.frame))).StaysIn s.heap:=λz_ z_ e=>aC8 e
  rcases hfl with rfl | ⟨l',v,L',e1,e2,rfl⟩
  ·refine wpAny_noteFrame_onW (base:=u3 s.heap (a::T::(e0::l).filterMap (·.frame))) (cls:=.ref C) (a0:=a0) ha (as6 all λv hv L' h=>G9 (.tail _ (.tail _ (eR.mpr ⟨v,hv,h⟩)))) hL'
    ⟨oe,vs,T,oT,ts,ho,⟨hc,h0⟩,hd,h1,G9 (.tail _ (.head _)),ne,hT,dT,h3⟩ stay (G9 (.head _)) λh' N=>?_
   refine ae1 N λk1 z_ k3 k4=>?_
   refine k h' (went (S:=a::T::(e0::l).filterMap (·.frame)) y sm (λb o e q=>k1 b o (ah5 q e)) (λc hc'=>?_) k4) (al4 y sm rfl n b hs hx (λc hc' ne'=>?_) k3)
   ·rcases au.mp hc' with rfl | hc'
    ·exact .inl ⟨vs,oe,ho,hd,n,b,hs⟩
    ·rcases au.mp hc' with rfl | hc'
     ·exact .inl ⟨ts,oT,hT,dT,nT,bT,sT⟩
     ·exact .inr (fin c hc')
   ·rcases au.mp hc' with rfl | hc'
    ·exact absurd rfl ne'
    ·rcases au.mp hc' with rfl | hc'
     ·exact .inl ⟨nT,bT,sT⟩
     ·exact .inr (dat hc' k4)
  ·rw[ha] at e1;cases e1
   rw[hL'] at e2;replace e2:=g8 e2;subst e2;refine wpAny_noteFrame_againW (base:=u3 s.heap [a,T]) (cls:=.ref C) (a0:=a0) hL' ⟨oe,vs,T,oT,ts,ho,⟨hc,h0⟩,hd,h1,G9 (.tail _ (.head _)),ne,hT,dT,h3⟩ ?_;exact k s.heap (λz_ k_=>k_ y sm (λb o e z_=>⟨o,e,.inl rfl⟩) (λz_ z_ z_ e=>e)) (λz_ k_=>k_ a vs (λz_ k_=>k_ C oe a0 rfl n b hs ho hc hx hd h0) T oT ts h1 nT bT sT ne hT dT h3)
theorem aE0{Q:Unit->Shared->Prop}{E:Value->Shared->Prop}{fl:Value}{fo:Option Addr}(y:Step (inF A) own zq M sx s)(sm:Sim g M s.heap)(f:F9 g e x sx.heap M s.heap fl)
  (k:∀ h',X1 g A own zq M sx s h'->F9 g e x sx.heap M h' (fo.elim Value.none λf=>rawInt f)->Q () {s with heap:=h'}):wpAny (model g.prog g.w) A (setFlight e fo) Q E s:=by
 refine f _ ?_;clear f;rintro a vs z T oT ts h1 nT bT sT ne hT dT h3;refine z _ ?_;clear z;rintro C oe a0 rfl n b hs ho hc hx hd h0;have hsz3:3<ts.size:=(bG.mp h3).1;have other:∀ b,b≠T->(s.heap.update T (Obj.mapFields (·.setIfInBounds 3 (fo.elim Value.none λf=>rawInt f)))).get? b=s.heap.get? b:=λb hb=>dP _ _ (Ne.symm hb)
 unfold setFlight;refine wpAny_bind (wpAny_field ho hd h1 ?_);rw[if_pos (show(Value.ref T != Value.none)=true from by simp)]
 refine wpAny_setField hT dT hsz3 (k _ (went (S:=[T]) y sm (λb o e q=>(other b λr=>q (by rw[r];exact .head _)).trans e) (λc hc'=>?_) λb o e hn=>⟨o.slots,(other b λr=>?_).trans e⟩) ?_)
 ·obtain rfl:=aj.mp hc'
  exact .inl ⟨ts,oT,hT,dT,nT,bT,sT⟩
 ·subst r;rw[hT] at e;replace e:=g8 e;subst e;exact hn ts dT
 ·exact(λz_ k_=>k_ a vs (λz_ k_=>k_ C oe a0 rfl n b hs ((other a (Ne.symm ne)).trans ho) hc hx hd h0) T _ _ h1 nT bT sT ne (co _ hT (Obj.isFreed_of_fields (Obj.data_mapFields dT _))) (Obj.data_mapFields dT _) (by simp[hsz3]))
theorem Inv.went{F:Blk}{Z:List (Option V)}{h':Heap}(I:Inv g F A env Z M s)(W:X1 g A own zq M sx s h'):Inv g F A env Z M {s with heap:=h'}:=by
 refine W _ ?_;clear W;rintro-m k t;refine a9 I.loc.ns λmm hn hv=>?_
 have kc:∀ y c,env.cells.lookup y=some c->∀ o,s.heap.get? c=some o->∃ o',h'.get? c=some o'/\o'.data=o.data:=λy c hc o ho=>by
  refine j8 (I.loc.live y c hc) λv o1 ho1 d=>?_
  rw[ho] at ho1;replace ho1:=g8 ho1;subst ho1;obtain⟨o',e,q⟩:=k c o ho λvs q=>by rw[d] at q;cases q
  exact⟨o',e,q.data⟩
 refine⟨I.scope,I.fn,I.glob,I.bltn,I.room,I.units,I.quiet,m,⟨I.loc.len,⟨mm,Ns.kept hn λo ho=>?_,λi y v e1 e2=>(hv i y v e1 e2).keep t kc⟩,I.loc.free,λy c hc=>?_,I.loc.apart,I.loc.other⟩,I.base,I.nd,?_⟩
 ·refine l5 hn λo1 es ep ho1 d z_=>?_
  rw[ho] at ho1;replace ho1:=g8 ho1;subst ho1;obtain⟨o',e,q⟩:=k _ o ho λvs q=>by rw[d] at q;cases q
  exact⟨o',e,q.data⟩
 ·refine c5 (I.loc.live y c hc) λv hv=>?_
  exact⟨v,Cell.kept hv (kc y c hc)⟩
 ·refine I.frs _ ?_;rintro e0 l ha hf all
  refine(λz_ k_=>k_ e0 l ha hf (λv hv=>?_))
  refine(all v hv) _ ?_;rintro L hk hf' hb hs o ho ⟨es,ep,d⟩;obtain⟨o',e,q⟩:=k L o ho λvs q=>by rw[d] at q;cases q
  exact(λz_ k_=>k_ L hk hf' hb hs o' e ⟨es,ep,q.data.trans d⟩)
theorem Frs.frame{h:Heap}(x:Frs g A env M h):∃ v l L,A.frames=some (v::l)/\v.frame=some L/\env.frame=some L:=by
 refine x _ ?_;clear x;rintro e0 l ha hf all;refine(all e0 (.head _)) _ ?_;rintro L _ h1 _ _ _ _ _;exact⟨e0,l,L,ha,h1,hf.symm.trans h1⟩
theorem W4{F:Blk}{X:g7}(p:C5 g F A env zq sx X e s):notedBy (model g.prog g.w) A env (λx s'=>cameBackBy (model g.prog g.w) A env (C5 g F A env zq sx X) x s') e s:=by
 refine p _ ?_;clear p;rintro x Z' M' f I st q;refine l5 I.frs.frame λv l L h1 h2 h3=>?_
 refine aC2 st I.frs I.sim f h3 λh₂ W F2=>?_
 have I2:=I.went W;refine W _ ?_;clear W;rintro y2 m2 - -;have F2':=F2;refine F2 _ ?_;clear F2;rintro a vs z T oT ts e1 - - - - - - -;refine z _ ?_;clear z;rintro C oe a0 rfl n b hs ho hc hx hd h0;refine wpAny_bind (wpAny_field (s:={s with heap:=h₂}) ho hd e1 ?_)
 rw[if_neg (show ¬ ((Value.ref T==Value.none)=true) from by simp)]
 refine aE0 (s:={s with heap:=h₂}) (fo:=env.frame) y2 m2 F2' λh₃ W F3=>?_
 have I3:=I2.went W;refine W _ ?_;clear W;rintro y3 m3 - -;rw[h3] at F3;exact(λz_ k_=>k_ x Z' M' (.on _ F3 (.inr ⟨l,v,L,h1,h2,rfl⟩)) I3 y3 q)
end
section
variable{g:G}{M:Hp}{Q:V->Hp->Prop}{X:Str->Hp->Prop}
noncomputable def cg1:Flo->V
 | .ret v=>v
 | _=>.none
theorem ce6(A:Around)(env:Env):(A.deeper env).units=A.units+3:=rfl
theorem bz7(A:Around)(env:Env):(A.deeper env).depth=A.depth+1:=rfl
theorem aF8{A:Around}{v:Env}{M':Hp}{s s':Shared}(st:Step (inF (A.deeper v)) (j6 v) M M' s s')(hl:FrL g A M s.heap)(hf:v.frame=some v.locals)(fresh:∀ b,j6 v b->s.heap.get? b=none):Step (inF A) d9 M M' s s':=
 ⟨st.same,st.dom,λb o e hM z_=>by
  obtain⟨o',e',k⟩:=st.keep b o e hM λhb=>(by rw[fresh b hb] at e;exact f5 e)
  refine⟨o',e',k.mono λq=>?_⟩
  refine f7 q λl w h1 h2 h3=>?_
  refine hl _ ?_;clear hl;rintro l0 ha -;have h4:(A.deeper v).frames=some (v::l0):=by show A.frames.map (v :: ·)=_;rw[ha];rfl
  rw[h4] at h1;replace h1:=g8 h1;subst h1;rcases au.mp h2 with rfl | h2
  ·rw[hf] at h3;replace h3:=g8 h3;subst h3
   rw[fresh _ (.inl rfl)] at e;exact f5 e
  ·exact⟨l0,w,ha,h2,h3⟩,st.tups,st.new⟩
theorem bY4{f:Str}{params:Arguments}{body:List Stmt}{scope:Scope}{vars:List Str}{args:List V}{d:Nat}{q:Bool}(hf:FnAt g f params body scope)
  (ok:ae2 params scope vars=true) (hargs:params.args.length=args.length)
  (hb:∀ pm cd doc vs,vs.length=params.args.length->bindArgs (cJ f params body scope pm cd doc) ⟨vs,[]⟩=pure ((params.args.map (·.arg)).zip vs))
  (h:Exs g ⟨scope,vars,d,q⟩ body (args.map some++List.replicate (vars.length-args.length) none) M (λfl Z' M'=>∃ M'',Sub M'' M'/\Q (cg1 fl) M'') (λx z_ M'=>X x M')) :
  c7 g (d+1) q f args M Q X:=(λA s vs a hm hdep hun hq sm fl rs=>by
 refine hf.at' _ ?_;rintro a' o pm cd doc hm' ho hdat hcd;rw[hm] at hm';cases hm';unfold ae2 at ok;simp only[bo,decide_eq_true_eq,aW,dv,beq_iff_eq,Bool.not_eq_true'] at ok
 obtain⟨⟨⟨⟨⟨⟨hnd,hpar⟩,hle⟩,hkinds⟩,hkf⟩,hco⟩,hgen⟩:=ok;have hlen:params.args.length=vs.length:=by rw[hargs,rs.length]
 have hlen':(params.args.map (·.arg)).length=vs.length:=by simpa using hlen
 have hnd':(params.args.map (·.arg)).Nodup:=by rw[hpar];exact hnd.sublist (cZ _ _)
 have hin:∀ x∈params.args.map (·.arg),x∈vars:=λx hx=>by rw[hpar] at hx;exact bx hx
 refine codeAny_call_cells (fd:=cJ f params body scope pm cd doc) (binds:=(params.args.map (·.arg)).zip vs) (by lia) (sm.stays _ _ ho) hdat (g.nolimit.keeps sm.stays) (hcd.keeps sm.stays) rfl (hb _ _ _ _ hlen.symm) rfl (λx hx=>?_) (λsv ic=>?_) hco hgen hkf
 ·have hx':=hin x.1 (List.of_mem_zip (a:=x.1) (b:=x.2) hx).1
  rcases hkinds _ hx' with e | e
  ·exact .inl e
  ·exact .inr ⟨e,au1 _ _ _ (.inl e)⟩
 ·have hL:s.heap.get? s.heap.objs.size=none:=v3 _
  have fresh:∀ b,s.heap.objs.size<=b->s.heap.get? b=none:=λb hb=>by
   cases e:s.heap.get? b with
   | none=>rfl
   | some o=>exact absurd (aU e) (bg.mpr hb)
  have own:∀ b,j6 (callEnvC (cJ f params body scope pm cd doc) s.heap.objs.size a) b->s.heap.objs.size<=b:=λb hb=>by
   rcases hb with rfl | ⟨c,hc⟩
   ·exact aC _
   ·exact aK (ic.above c b (mem_of_lookup hc))
  have hfree:∀ b,s.heap.objs.size<=b->M b=none:=λb hb=>by
   cases e:M b with
   | none=>rfl
   | some o=>
    have:=(sm.objs b o e).1;refine c5 this.has λob e'=>?_
    rw[fresh b hb] at e';exact f5 e'
  have hbase:∀ b,s.heap.objs.size<=b->g.h₀.get? b=none:=λb hb=>by
   cases e:g.h₀.get? b with
   | none=>rfl
   | some o=>have:=sm.stays _ _ e;rw[fresh b hb] at this;exact f5 this
  refine p8 ic.toInCall.same λqz tk1 hs1=>?_
  have tu:k9 s.heap sv.heap:=λb z_ z_ e=>ic.toInCall.keep b _ e
  have st:∀ {fr own:Addr->Prop},Step fr own M M s sv:=by intro fr own;rw[hs1];exact Step.grow λb o e=>by have:=ic.toInCall.keep b o e;rw[hs1] at this;exact this
  have I:Inv g ⟨scope,vars,d,q⟩ (A.deeper (callEnvC (cJ f params body scope pm cd doc) s.heap.objs.size a)) (callEnvC (cJ f params body scope pm cd doc) s.heap.objs.size a)
    (args.map some++List.replicate (vars.length-args.length) none) M sv:=by
   refine⟨rfl,hkf,rfl,rfl,by rw[bz7];show A.depth+1+d<_;lia,by rw[ce6];show A.units+3+8*d<_;lia,λe=>hq e,sm.grow ic.toInCall.keep,⟨by simp only[az,ac,gf];lia,⟨_,ic.toInCall.ns,λi x v hx hv=>?_⟩,λb hb=>hfree b (own b hb),λy c hc=>?_,λx y c h1 h2=>name_of_addr ic.apart (mem_of_lookup h1) (mem_of_lookup h2),λy c hc=>?_⟩,λb hb=>hbase b (own b hb),hnd,?_⟩
   ·have hxk:=hkinds x (aI hx)
    have hval:∀ V,v=some V->∃ r,(params.args.map (·.arg))[i]?=some x/\vs[i]?=some r/\Rep sv.heap r V:=λV hV=>by
     subst hV;by_cases hi:i<args.length
     ·rw[cP (by simpa using hi),aw] at hv
      refine a9 (aJ.mp hv) λW hW hW'=>?_
      replace hW':=g8 hW';subst hW'
      refine a9 (rs.get hW) λr e1 e2=>?_
      refine⟨r,?_,e1,e2.mono tu⟩;rw[hpar,List.getElem?_take];rw[if_pos (by lia)];exact hx
     ·rw[ci (by simpa using hi),List.getElem?_replicate] at hv
      split at hv<;>cases hv
    rcases hxk with e | e
    ·refine .inl ⟨e,λV hV=>?_⟩
     refine f9 (hval V hV) λr e1 e2 e3=>?_
     exact⟨r,by rw[(br6 (k:=(callEnvC (cJ f params body scope pm cd doc) s.heap.objs.size a).kindOf) e hnd' hlen').1 i e1];exact e2,e3⟩
    ·refine c5 (cA.mp (au1 scope.names (s.heap.objs.size+1) [] (.inl e))) λc hc=>?_
     refine .inr ⟨e,c,_,hc,ic.cell x c hc,λV hV=>?_⟩
     refine f9 (hval V hV) λr e1 e2 e3=>?_
     exact⟨r,by rw[(bH3 (k:=(callEnvC (cJ f params body scope pm cd doc) s.heap.objs.size a).kindOf) (by show scope.names.lookup x≠_;rw[e];decide) hnd' hlen').1 i e1];exact e2,e3⟩
   ·exact⟨_,ic.cell y c hc⟩
   ·exact λe=>bn _ (e▸ic.above y c (mem_of_lookup hc))
   ·refine fl _ ?_;clear fl;rintro l0 ha all
    refine(λz_ k_=>k_ _ l0 (by show A.frames.map _=_;rw[ha];rfl) rfl (λv hv=>?_))
    rcases au.mp hv with rfl | hv
    ·refine l5 ic.toInCall.ns λo es ep ho hd z_=>?_
     have hm:scope.kind≠.module:=by rw[hkf];decide
     exact(λz_ k_=>k_ _ hm rfl (hbase _ (own _ (.inl rfl))) (hfree _ (own _ (.inl rfl))) o ho ⟨es,ep,hd⟩)
    ·exact(all v hv).step (st (fr:=d9) (own:=d9))
  refine wpAny_mono (h _ _ sv I) (λfl' s' p0=>?_) (λe s' p0=>?_)
  ·refine p0 _ ?_;clear p0;rintro f' Z' M' r I' st' ⟨M'',hsub,hQ⟩
   have st2:Step (inF A) d9 M M'' s s':=aF8 (st.trans (st'.sub hsub)) fl rfl λb hb=>fresh b (own b hb)
   cases r with
   | ret r=>exact(λz_ k_=>k_ _ M'' r (I'.sim.sub hsub) st2 hQ)
   | _=>exact(λz_ k_=>k_ _ M'' .none (I'.sim.sub hsub) st2 hQ)
  ·refine p0 _ ?_;clear p0;rintro x Z' M' r I' st' hX
   unfold leaving;refine wpAny_bind (aC2 st' I'.frs I'.sim r rfl λh₂ W F2=>?_)
   refine W _ ?_;clear W;rintro y2 m2 - -;refine aE0 (s:={s' with heap:=h₂}) (fo:=none) y2 m2 F2 λh3 W F3=>?_
   refine W _ ?_;clear W;rintro y3 m3 - -;exact(λz_ k_=>k_ x M' (.on _ (F3.step (st (fr:=d9) (own:=d9))) (.inl rfl)) m3 (aF8 (st.trans y3) fl rfl λb hb=>fresh b (own b hb)) hX))
end
structure IterOK(g:G)(A:Around)(I:Addr)(L:List V)(K:Hp->Prop)(St:Nat->Heap->Prop):Prop where
 frame:∀ i h h',St i h->(∀ o,h.get? I=some o->h'.get? I=some o)->k9 h h'->St i h'
 obj:∀ i h,St i h->∃ o vs,h.get? I=some o/\o.data=.fields vs
 item:∀ i x M (s:Shared) (Q:Option Value->Shared->Prop) (E:Value->Shared->Prop),L[i]?=some x->St i s.heap->Sim g M s.heap->K M->
  (∀ v h' tk,Rep h' v x->St (i+1) h'->Heap.ExtBut I s.heap h'->Q (some v) {s with heap:=h',toks:=tk})->wpAny (model g.prog g.w) A (pyNext (.ref I)) Q E s
 done:∀ M (s:Shared) (Q:Option Value->Shared->Prop) (E:Value->Shared->Prop),St L.length s.heap->Sim g M s.heap->K M->
  (∀ h' tk,Heap.ExtBut I s.heap h'->Q none {s with heap:=h',toks:=tk})->wpAny (model g.prog g.w) A (pyNext (.ref I)) Q E s
 self:∀ i (s:Shared) (Q:Value->Shared->Prop) (E:Value->Shared->Prop),St i s.heap->Q (.ref I) s->wpAny (model g.prog g.w) A (pyIter (.ref I)) Q E s
 plain:∀ i (s:Shared) (v:Value) (elts:List Expr) (k:Nat) (pos:Pos) (Q:Unit->Shared->Prop) (E:Value->Shared->Prop),St i s.heap->Q () s->wpAny (model g.prog g.w) A (letOwnedTupleGo (.Tuple elts k pos) (.ref I) v) Q E s
theorem O9{Ma:Model}{A:Around}{E:Value->Shared->Prop}{s:Shared}{I:Addr}{o:Obj}{n:String}{vs:Array Value}{v:Value}{elts:List Expr}{k:Nat}{pos:Pos}{Q:Unit->Shared->Prop}
  (ho:s.heap.get? I=some o) (hc:o.cls=.type n) (hd:o.data=.fields vs) (hn:["enumerate","zip","dict_itemiterator","dict_reverseitemiterator","odict_iterator","itertools.zip_longest","itertools.pairwise"].contains n=false) (hQ:Q () s) :
  wpAny Ma A (letOwnedTupleGo (.Tuple elts k pos) (.ref I) v) Q E s:=by
 unfold letOwnedTupleGo;cases v with
 | ref T=>
  refine wpAny_bind (wpAny_load ho ?_);rw[hc,hd];show wpAny _ A (if (["enumerate","zip","dict_itemiterator","dict_reverseitemiterator","odict_iterator","itertools.zip_longest","itertools.pairwise"].contains n&&vs[0]? == some (rawInt T))=true then _ else _) Q E s
  rw[hn,db];exact wpAny_pure hQ
 | _=>exact wpAny_pure hQ
theorem Ma4{I:Addr}{h h':Heap}{o:Obj}{vs:Array Value}(ho:h.get? I=some o)(hd:o.data=.fields vs)(x:Heap.ExtBut I h h'):k9 h h':=λb us n e=>x b _ (λq=>by
 rw[q,ho] at e;replace e:=g8 e;subst e;cases hd) e
theorem aZ2{g:G}{A:Around}(hh:A.handled=none){I ax:Addr}{L:List V}:IterOK g A I L (λM=>M ax=some (.lst L)) (λi h=>h.IsListIter I ax i) where
 frame:=λi h h' st k z_=>by refine a9 st λo ho r=>?_;exact⟨o,k _ ho,r⟩
 obj:=λi h st=>by refine f9 st λo ho z_ hd=>?_;exact⟨o,_,ho,hd⟩
 item:=λi x M s Q E hx st sm hK hQ=>by
  refine a9 ((sm.objs _ _ hK).1) λvs hp r=>?_
  refine a9 (r.get hx) λv hv rv=>?_
  refine f9 (id st) λo ho hc hd=>?_
  exact wpAny_pyNext_list_item st hp.isList (x:=v) (by rw[<- aD];exact hv) λh' hit' hs'=>hQ v h' s.toks (rv.mono (Ma4 ho hd hs'.extBut)) hit' hs'.extBut
 done:=λM s Q E st sm hK hQ=>by
  refine a9 ((sm.objs _ _ hK).1) λvs hp r=>?_
  exact wpAny_pyNext_list_end hh st hp.isList (by rw[<- aD];simp[<- r.length]) λh' he=>hQ h' s.toks he
 self:=λi s Q E st hQ=>wpAny_pyIter_listiter st hQ
 plain:=λi s v elts k pos Q E st hQ=>by refine f9 st λo ho hc hd=>?_;exact O9 ho hc hd (by decide) hQ
theorem be7{g:G}{A:Around}(hh:A.handled=none){I t:Addr}{vs:Array Value}{n:Nat}{L:List V} :
  IterOK g A I L (λz_=>True) (λi h=>h.IsTupleIter I t i/\h.get? t=some {cls:=.type "tuple",data:=.seq vs n}/\d3 h vs.toList L) where
 frame:=λi h h' st k t=>by obtain⟨⟨o,ho,r⟩,a,b⟩:=st;exact⟨⟨o,k _ ho,r⟩,t _ _ _ a,b.mono t⟩
 obj:=λi h st=>by obtain⟨⟨o,ho,_,hd⟩,_⟩:=st;exact⟨o,_,ho,hd⟩
 item:=λi x M s Q E hx st sm hK hQ=>by
  refine k8 st λst1 ht r=>?_
  refine a9 (r.get hx) λv hv rv=>?_
  refine f9 (id st1) λo ho hc hd=>?_
  refine wpAny_pyNext_tuple_item st1 ⟨_,ht,rfl,_,rfl⟩ (x:=v) (by rw[<- aD];exact hv) λh' hit' hs'=>?_
  have tu:=Ma4 ho hd hs'.extBut;exact hQ v h' s.toks (rv.mono tu) ⟨hit',tu _ _ _ ht,r.mono tu⟩ hs'.extBut
 done:=λM s Q E st sm hK hQ=>by
  refine k8 st λst1 ht r=>?_
  exact wpAny_pyNext_tuple_end hh st1 ⟨_,ht,rfl,_,rfl⟩ (by rw[<- aD];simp[<- r.length]) λh' he=>hQ h' s.toks he
 self:=λi s Q E st hQ=>wpAny_pyIter_tupleiter st.1 hQ
 plain:=λi s v elts k pos Q E st hQ=>by obtain⟨⟨o,ho,hc,hd⟩,_⟩:=st;exact O9 ho hc hd (by decide) hQ
noncomputable def g9(a c:Int)(n:Nat):List V:=(List.range n).map fun(i:Nat)=>.int (a+(i:Int)*c)
theorem K4(a c:Int)(n:Nat):(g9 a c n).length=n:=by simp[g9]
theorem bP9{a c:Int}{n i:Nat}{x:V}(h:(g9 a c n)[i]?=some x):i<n/\x=.int (a+i*c):=by
 have hi:i<n:=by
  have:=(ay.mp h).1;rwa[K4] at this
 unfold g9 at h;rw[aw,dq hi] at h;exact⟨hi,(Option.some.inj h).symm⟩
theorem bC5{g:G}{A:Around}(hh:A.handled=none){I:Addr}{a c:Int}{n:Nat} :
  IterOK g A I (g9 a c n) (λz_=>True) (λi h=>IsRangeIter h I (a+(i:Nat)*c) ((n:Int)-(i:Nat)) c) where
 frame:=λi h h' st k t=>k _ st
 obj:=λi h st=>⟨_,_,st,rfl⟩
 item:=λi x M s Q E hx st sm hK hQ=>by
  refine c6 (bP9 hx) λhi q1_=>?_;subst q1_
  refine wpAny_pyNext_range_item st (by lia) λh' hit' hs'=>hQ _ h' _ (.int _ _) ?_ hs'.extBut
  have e1:a+((i+1:Nat):Int)*c=a+(i:Int)*c+c:=by rw[Int.natCast_succ,Int.add_mul];lia
  have e2:(n:Int)-((i+1:Nat):Int)=(n:Int)-(i:Int)-1:=by lia
  show IsRangeIter h' I (a+((i+1:Nat):Int)*c) ((n:Int)-((i+1:Nat):Int)) c;rw[e1,e2];exact hit'
 done:=λM s Q E st sm hK hQ=>by
  rw[K4] at st;exact wpAny_pyNext_range_end hh st (by lia) λh' he=>hQ h' s.toks he
 self:=λi s Q E st hQ=>wpAny_pyIter_rangeiter st hQ
 plain:=λi s v elts k pos Q E st hQ=>O9 st rfl rfl (by decide) hQ
section
variable{prog:Program}{w:World}{A:Around}{s:Shared}
theorem ay0{R:Result->Shared->Prop}{target it body orelse env}(I:Nat->Shared->Prop)
  (turn:∀ n s,I n s->wpAny (model prog w) A (pyNext it) (λr sv=>match r with
   | none=>wpAny (model prog w) A (execs orelse env) (λf s3=>R (.ok f) s3) (notedBy (model prog w) A env λe s'=>R (.error e) s') sv
   | some v=>wpAny (model prog w) A (letOwnedTupleGo target it v) (λz_ sv=>wpAny (model prog w) A (assign target env v) (λz_ s2=>wpAny (model prog w) A (execs body env) (λf s3=>match f with
     | .next | .cont=>∃ m,m<n/\I m s3
     | .brk=>R (.ok .next) s3
     | .ret v=>R (.ok (.ret v)) s3) (notedBy (model prog w) A env λe s'=>R (.error e) s') s2) (notedBy (model prog w) A env λe s'=>R (.error e) s') sv) (notedBy (model prog w) A env λe s'=>R (.error e) s') sv) (notedBy (model prog w) A env λe s'=>R (.error e) s') s)
  (n:Nat) (h:I n s):codeAny (model prog w) A (.forLoop target it body orelse env) R s:=by
 refine codeAny_loop' rfl I (λn s hI=>?_) n h
 show wpAny _ _ ((forTurn target it body orelse env).onRaise (λx=>do noteFrame x env;theTreesLotGoes x)) _ _ s
 refine wpAny_noted ?_;simp only[forTurn]
 refine wpAny_bind (wpAny_standAt (wpAny_bind (wpAny_onRaise (wpAny_mono (turn n s hI) (λr sv qz=>?_) λz_ z_ h'=>wpAny_standAt h'))))
 cases r with
 | none=>exact wpAny_pure (.inr ⟨rfl,codeAny_block qz⟩)
 | some v=>
  refine wpAny_bind (wpAny_mono qz (λz_ sv qz=>?_) λz_ z_ h'=>h')
  refine wpAny_bind (wpAny_mono qz (λz_ s2 h2=>wpAny_bind (wpAny_mono h2 (λf s3 h3=>?_) λz_ z_ h'=>h')) λz_ z_ h'=>h')
  cases f with
  | next=>exact wpAny_pure (.inl ⟨rfl,h3⟩)
  | cont=>exact wpAny_pure (.inl ⟨rfl,h3⟩)
  | brk=>exact wpAny_pure h3
  | ret v=>exact wpAny_pure h3
end
section
variable{g:G}{F:Blk}{Z:List (Option V)}{M:Hp}
theorem Step.but{fr own:Addr->Prop}{M zs:Hp}{s sv:Shared}{I:Addr}{h':Heap}{tk:Nat}(x:Step fr own M zs s sv)(e:Heap.ExtBut I sv.heap h')(hI:s.heap.get? I=none):Step fr own M zs s {sv with heap:=h',toks:=tk}:=by
 have ne:∀ b o,s.heap.get? b=some o->b≠I:=λb o hb q=>by rw[q,hI] at hb;exact f5 hb
 refine⟨?_,λb o hb=>?_,λb o hb hM ho=>?_,λb vs n hb=>e _ _ (ne _ _ hb) (x.tups b vs n hb),x.new⟩
 ·exact⟨x.same.1,x.same.2⟩
 ·refine a9 (x.dom b o hb) λo' ho' d=>?_
  exact⟨o',e _ _ (ne _ _ hb) ho',d⟩
 ·refine a9 (x.keep b o hb hM ho) λo' ho' d=>?_
  exact⟨o',e _ _ (ne _ _ hb) ho',d⟩
theorem Sim.but{h h':Heap}{I:Addr}(x:Sim g M h)(e:Heap.ExtBut I h h')(t:k9 h h')(h1:M I=none)(h3:g.h₀.get? I=none):Sim g M h':=
 ⟨λb o hb=>e b o (λq=>by rw[q,h3] at hb;exact f5 hb) (x.stays b o hb),λa o ha=>⟨(x.objs a o ha).1.keep t λob hob=>e a ob (λq=>by rw[q,h1] at ha;exact f5 ha) hob,(x.objs a o ha).2⟩⟩
theorem Step.thing{fr:Addr->Prop}{M M':Hp}{s s':Shared}{b:Addr}{o:Obj}(x:Step fr d9 M M' s s')(hM:M b=none)(hb:s.heap.get? b=some o)(hf:¬ fr b):s'.heap.get? b=some o:=x.exact hb hM id hf
theorem Inv.but{A:Around}{env:Env}{s:Shared}{I:Addr}{h':Heap}{tk:Nat}(J:Inv g F A env Z M s)(e:Heap.ExtBut I s.heap h')(t:k9 s.heap h')(h1:M I=none)(h2:¬ j6 env I)(h3:g.h₀.get? I=none)(h4:¬ inF A I) :
  Inv g F A env Z M {s with heap:=h',toks:=tk}:=by
 refine a9 J.loc.ns λm hn hv=>?_
 have hl:∀ b o,j6 env b->s.heap.get? b=some o->h'.get? b=some o:=λb o hb hbo=>e b o (λq=>h2 (q▸hb)) hbo
 refine⟨J.scope,J.fn,J.glob,J.bltn,J.room,J.units,J.quiet,J.sim.but e t h1 h3,
  ⟨J.loc.len,⟨m,hn.at' λo ho=>hl _ o (.inl rfl) ho,λi y v e1 e2=>(hv i y v e1 e2).keep t λy c hc o ho=>⟨o,hl c o (.inr ⟨y,hc⟩) ho,rfl⟩⟩,J.loc.free,λy c hc=>?_,J.loc.apart,J.loc.other⟩,J.base,J.nd,?_⟩
 ·refine c5 (J.loc.live y c hc) λv hv=>?_
  exact⟨v,Cell.kept hv λo ho=>⟨o,hl c o (.inr ⟨y,hc⟩) ho,rfl⟩⟩
 ·refine J.frs _ ?_;rintro e0 l ha hf all
  refine(λz_ k_=>k_ e0 l ha hf (λv hv=>?_))
  refine(all v hv) _ ?_;rintro L hk hf' hb hs o ho d;exact(λz_ k_=>k_ L hk hf' hb hs o (e L o (λq=>h4 ⟨_,v,ha,hv,q▸hf'⟩) ho) d)
theorem Inv.notOwn{A:Around}{env:Env}{s:Shared}{I:Addr}(J:Inv g F A env Z M s)(h:s.heap.get? I=none):¬ j6 env I:=λq=>by
 rcases q with rfl | ⟨y,hc⟩
 ·obtain⟨m,⟨o,_,_,ho,_⟩,_⟩:=J.loc.ns
  rw[h] at ho;exact f5 ho
 ·refine j8 (J.loc.live y I hc) λz_ o ho z_=>?_;rw[h] at ho;exact f5 ho
theorem Inv.notFr{A:Around}{env:Env}{s:Shared}{I:Addr}(J:Inv g F A env Z M s)(h:s.heap.get? I=none):¬ inF A I:=J.frs.not (.inl h)
theorem Inv.notBase{A:Around}{env:Env}{s:Shared}{I:Addr}(J:Inv g F A env Z M s)(h:s.heap.get? I=none):g.h₀.get? I=none:=by
 cases q:g.h₀.get? I with
 | none=>rfl
 | some o=>have:=J.sim.stays _ _ q;rw[h] at this;exact f5 this
def bL1(g:G)(F:Blk)(A:Around)(env:Env)(Z:List (Option V))(M:Hp)(s:Shared)(Q:List V->(Hp->Prop)->Hp->Prop)(it:Value)(s2:Shared):Prop:=
 ∀ P_:Prop,(∀ (I:Addr) (L:List V) (K:Hp->Prop) (St:Nat->Heap->Prop) (M':Hp) (e:it=.ref I) (w:IterOK g A I L K St) (st:St 0 s2.heap) (n:s.heap.get? I=none) (m:M' I=none) (i:Inv g F A env Z M' s2) (y:Step (inF A) d9 M M' s s2) (q:Q L K M'),P_)->P_
structure Itr(g:G)(F:Blk)(e:Expr)(Z:List (Option V))(M:Hp)(Q:List V->(Hp->Prop)->Hp->Prop)(X:Str->Hp->Prop):Prop where
 run:∀ A env s,Inv g F A env Z M s->A.handled=none->wpAny (model g.prog g.w) A (eval e env) (λx sv=>wpAny (model g.prog g.w) A (pyIter x) (bL1 g F A env Z M s Q) (k6 g F A env Z M s X) sv) (k6 g F A env Z M s X) s
 fold:∀ env x,foldedSetIterable e env x=pure x
structure Asg(g:G)(F:Blk)(t:Expr)(v:V)(Z:List (Option V))(M:Hp)(Q:List (Option V)->Prop):Prop where
 run:∀ A env s x (QU:Unit->Shared->Prop) (E:Value->Shared->Prop),Inv g F A env Z M s->A.handled=none->Rep s.heap x v->
  (∀ s' Z',Inv g F A env Z' M s'->Step (inF A) (j6 env) M M s s'->Q Z'->QU () s')->wpAny (model g.prog g.w) A (assign t env x) QU E s
 tgt:(∃ x p,t=.Name x p)∨∃ es k p,t=.Tuple es k p
noncomputable def C2(Q:d4)(J:List V->List (Option V)->Hp->Prop)(l:List V):d4:=λf Z M=>match f with
 | .next=>J l Z M
 | .cont=>J l Z M
 | .brk=>Q .next Z M
 | .ret v=>Q (.ret v) Z M
def an6(g:G)(F:Blk)(A:Around)(env:Env)(L:List V)(J:List V->List (Option V)->Hp->Prop)(St:Nat->Heap->Prop)(It:Addr)(M:Hp)(s:Shared)(n:Nat)(s':Shared):Prop:=
 ∀ P_:Prop,(∀ (i:Nat) (Z':List (Option V)) (M':Hp) (h1:i+n=L.length+1) (h2:i<=L.length) (h3:J (L.drop i) Z' M') (h4:St i s'.heap) (h5:M' It=none) (h6:Inv g F A env Z' M' s') (h7:Step (inF A) (j6 env) M M' s s'),P_)->P_
theorem bx2{Q:d4}{X:g7}{t:Expr}{body:List Stmt}{A:Around}{env:Env}{s:Shared}{It:Addr}{L:List V}{K:Hp->Prop}{St:Nat->Heap->Prop}{J:List V->List (Option V)->Hp->Prop}(hh:A.handled=none)(W:IterOK g A It L K St)(hfr:s.heap.get? It=none)(hown:¬ j6 env It)(hbase:g.h₀.get? It=none)(hnf:¬ inF A It)
  (hturn:∀ v l Z' M',J (v::l) Z' M'->K M'/\Asg g F t v Z' M' (λZ''=>Exs g F body Z'' M' (C2 Q J l) X)) (hend:∀ Z' M',J [] Z' M'->K M'/\Q .next Z' M') {QQ:Except Value Flow->Shared->Prop} (kO:∀ f s',H5 g F A env M s Q f s'->QQ (.ok f) s') (kE:∀ e s',notedBy (model g.prog g.w) A env (λx s'=>cameBackBy (model g.prog g.w) A env (C5 g F A env M s X) x s') e s'->notedBy (model g.prog g.w) A env (λx s'=>QQ (.error x) s') e s') {n₀:Nat} {sx:Shared} (h₀:an6 g F A env L J St It M s n₀ sx) :
  codeAny (model g.prog g.w) A (.forLoop t (.ref It) body [] env) QQ sx:=by
 refine ay0 (an6 g F A env L J St It M s) ?_ n₀ h₀;rintro n s' hh_;refine hh_ _ ?_;clear hh_;rintro i Z' M' hn hi hJ' hst' hM' I' st';refine j8 (W.obj i _ hst') λoI vI hoI hdI=>?_
 by_cases hlt:i<L.length
 ·have hd:L.drop i=L[i]::L.drop (i+1):=cu hlt
  rw[hd] at hJ';refine c6 (hturn _ _ _ _ hJ') λhK asg=>?_
  refine W.item i L[i] M' s' _ _ (aa hlt) hst' I'.sim hK λv h' tk hr hst1 hx=>?_
  have tu:=Ma4 hoI hdI hx;have I1:=I'.but (tk:=tk) hx tu hM' hown hbase hnf;have st1:=st'.but (tk:=tk) hx hfr;have go:∀ {QU:Unit->Shared->Prop} {E:Value->Shared->Prop},QU () {s' with heap:=h',toks:=tk}->wpAny (model g.prog g.w) A (letOwnedTupleGo t (.ref It) v) QU E {s' with heap:=h',toks:=tk}:=fun{QU E} hQ=>by
   rcases asg.tgt with ⟨x,p,rfl⟩ | ⟨es,k,p,rfl⟩
   ·exact wpAny_pure hQ
   ·exact W.plain (i+1) _ v es k p QU E hst1 hQ
  refine go (asg.run A env _ v _ _ I1 hh hr λs3 ρ3 I3 st3 hex=>?_)
  have st13:=st1.trans st3;refine wpAny_mono (hex A env s3 I3) (λfl s4 p4=>?_) λe s4 p=>kE _ _ (W4 (p.step st13))
  refine p4 _ ?_;clear p4;rintro f' ρ4 M4 hf I4 st4 hq4;have st14:=st13.trans st4;refine j8 (W.obj _ _ hst1) λo1 v1 e1 d1=>?_
  have hI3:=st3.exact e1 hM' hown hnf;have hI4:=st4.exact hI3 hM' hown hnf;have hst4:St (i+1) s4.heap:=W.frame _ _ _ hst1 (λo ho=>by rw[e1] at ho;replace ho:=g8 ho;subst ho;exact hI4) (st3.tups.trans st4.tups)
  have hM4:M4 It=none:=st4.new It o1 hI3 hM';cases hf with
  | next=>exact⟨n-1,by lia,λz_ k_=>k_ (i+1) ρ4 M4 (by lia) (by lia) hq4 hst4 hM4 I4 st14⟩
  | cont=>exact⟨n-1,by lia,λz_ k_=>k_ (i+1) ρ4 M4 (by lia) (by lia) hq4 hst4 hM4 I4 st14⟩
  | brk=>exact kO _ _ (λz_ k_=>k_ .next ρ4 M4 .next I4 st14 hq4)
  | ret r=>exact kO _ _ (λz_ k_=>k_ (.ret _) ρ4 M4 (.ret r) I4 st14 hq4)
 ·have hii:i=L.length:=by lia
  rw[hii,List.drop_length] at hJ';refine c6 (hend _ _ hJ') λhK hQ=>?_
  refine W.done M' s' _ _ (hii▸hst') I'.sim hK λh' tk hx=>wpAny_execs_nil ?_
  exact kO _ _ (λz_ k_=>k_ .next Z' M' .next (I'.but (tk:=tk) hx (Ma4 hoI hdI hx) hM' hown hbase hnf) (st'.but (tk:=tk) hx hfr) hQ)
theorem bu4{Q:d4}{X:g7}{t iter:Expr}{body:List Stmt}{pos:Pos}(hq:F.q=true)
  (h:Itr g F iter Z M (λL K zs=>∃ J:List V->List (Option V)->Hp->Prop,J L Z zs/\(∀ v l Z' M',J (v::l) Z' M'->K M'/\Asg g F t v Z' M' (λZ''=>Exs g F body Z'' M' (C2 Q J l) X))/\∀ Z' M',J [] Z' M'->K M'/\Q .next Z' M') (λx zs=>X x Z zs)) :
  Ex g F (.For t iter body [] pos) Z M Q X:=(λA env s I=>by
 have hh:=I.quiet hq;refine wpAny_For (wpAny_mono (h.run A env s I hh) (λx sv qz=>wpAny_mono qz (λit s2 h2=>?_) λz_ z_ p=>p.toS) λz_ z_ p=>p.toS) (h.fold env)
 refine h2 _ ?_;clear h2;rintro It L K St zs rfl W hst hfr hMI I2 st2 ⟨J,hJ,hturn,hend⟩;have hown:=I.notOwn hfr;have hbase:=I.notBase hfr;have hnf:=I.notFr hfr;exact bx2 hh W hfr hown hbase hnf hturn hend (λz_ z_ p=>p) (λz_ z_ p=>p) (n₀:=L.length+1)
  (λz_ k_=>k_ 0 Z zs (by lia) (aE _) (by simpa using hJ) hst hMI I2 (st2.mono λz_ h=>h.elim)))
theorem Itr.mono{e:Expr}{Q Q':List V->(Hp->Prop)->Hp->Prop}{X:Str->Hp->Prop}(h:Itr g F e Z M Q X)(k:∀ L K M,Q L K M->Q' L K M):Itr g F e Z M Q' X:=
 ⟨λA env s I hh=>wpAny_mono (h.run A env s I hh) (λx sv qz=>wpAny_mono qz (λit s2 p=>by refine p _ ?_;clear p;rintro It L K St M' e1 e2 e3 e4 e5 e6 e7 q;exact(λz_ k_=>k_ It L K St M' e1 e2 e3 e4 e5 e6 e7 (k _ _ _ q))) λz_ z_ p=>p) λz_ z_ p=>p,h.fold⟩
end
section
variable{g:G}{F:Blk}{Z:List (Option V)}{M:Hp}{X:Str->Hp->Prop}
theorem Step.push'{fr own:Addr->Prop}{M zs:Hp}{s sv:Shared}{o:Obj}(x:Step fr own M zs s sv):Step fr own M zs s {sv with heap:=sv.heap.push o}:=x.trans Step.push
theorem Step.freshSize{fr own:Addr->Prop}{M zs:Hp}{s sv:Shared}(x:Step fr own M zs s sv):s.heap.get? sv.heap.objs.size=none:=by
 cases q:s.heap.get? sv.heap.objs.size with
 | none=>rfl
 | some o=>refine a9 (x.dom _ o q) λo' ho' z_=>?_;rw[v3] at ho';exact f5 ho'
def cg6(g:G)(F:Blk)(A:Around)(env:Env)(Z:List (Option V))(M:Hp)(s:Shared)(Q:Int->Int->Int->Hp->Prop)(x:Value)(sv:Shared):Prop:=
 ∀ P_:Prop,(∀ (r:Addr) (a b c:Int) (t u v:Tok) (M':Hp) (e:x=.ref r) (o:IsRange sv.heap r a b c t u v) (i:Inv g F A env Z M' sv) (y:Step (inF A) d9 M M' s sv) (q:Q a b c M'),P_)->P_
def Rng(g:G)(F:Blk)(e:Expr)(Z:List (Option V))(M:Hp)(Q:Int->Int->Int->Hp->Prop)(X:Str->Hp->Prop):Prop:=
 ∀ A env s,Inv g F A env Z M s->wpAny (model g.prog g.w) A (eval e env) (cg6 g F A env Z M s Q) (k6 g F A env Z M s X) s
theorem ch1{x:Str}{np pos:Pos}{e:Expr}{Q:Int->Int->Int->Hp->Prop}(hk:F.sc.names.lookup x=some .globalImplicit)(hg:g.mg x=none)(hb:g.mb x=some (.type "range"))
  (h:Ev g F e Z M (λv zs=>∃ n,v=.int n/\Q 0 n 1 zs) X) (hd:(x==("__debug__" : Str))=false) (he:∀ env,starEach [e] env=(false,eval e env)::starEach [] env):Rng g F (.Call (.Name x np) [e] [] pos) Z M Q X:=(λA env s I=>by
 refine wpAny_Call_ofName (Calls.Name_function_global I.fn (by show env.scope.names.lookup x=_;rw[I.scope];exact hk) (aX (by rw[I.glob];exact g.ns.keeps I.sim.stays) hg (by rw[I.bltn];exact g.nb.keeps I.sim.stays) hb ?_) hd)
 have hp:(backTo pos (starEach [e] env)).any (·.1)=false:=by rw[he];rfl
 refine callWith_excType hp (v5 hp (wpAny_items_cons (pgo (h A env s I) (λv sv V zs r I1 st1 hpq=>wpAny_items_nil ?_) λz_ z_ p=>p) (he env)))
 refine a9 hpq λn hV hQ=>?_
 subst hV;refine c5 r.ofInt λz_ q1_=>?_;subst q1_
 refine call_range_1 (λz_ k_=>k_ _ 0 n 1 _ _ _ zs rfl (aB _ rfl) ?_ ?_ hQ)
 ·exact I1.keep (Step.grow λb o e=>an _ e) I1.sim.push
 ·exact st1.trans (Step.grow λb o e=>an _ e))
theorem bk5{e:Expr}{Q:List V->(Hp->Prop)->Hp->Prop}(h:Rng g F e Z M (λa b c zs=>Builtin.Range.small a b c=true/\Q (g9 a c (Builtin.Range.rangeSize a b c).toNat) (λz_=>True) zs) X)(hf:∀ env x,foldedSetIterable e env x=pure x):Itr g F e Z M Q X:=
 ⟨λA env s I hh=>wpAny_mono (h A env s I) (λx sv hpq=>by
  refine hpq _ ?_;clear hpq;rintro r a b c t u v zs hx hr I1 st1 ⟨hsm,hQ⟩;subst hx;refine wpAny_pyIter_range hr hsm ?_;have hn:0<=Builtin.Range.rangeSize a b c:=by
   unfold Builtin.Range.rangeSize
   split
   ·split
    ·have:=Int.ediv_nonneg (a:=b-a-1) (b:=c) (by lia) (by lia);lia
    ·exact bK _
   ·split
    ·by_cases hc:c=0
     ·subst hc;simp
     ·have:=Int.ediv_nonneg (a:=a-b-1) (b:=-c) (by lia) (by lia);lia
    ·exact bK _
  refine(λz_ k_=>k_ _ _ _ _ zs rfl (bC5 hh (a:=a) (c:=c) (n:=(Builtin.Range.rangeSize a b c).toNat)) ?_ ?_ I1.sim.fresh (I1.keep Step.push I1.sim.push) st1.push' hQ)
  ·have e1:((Builtin.Range.rangeSize a b c).toNat:Int)-((0:Nat):Int)=Builtin.Range.rangeSize a b c:=by lia
   have e2:a+((0:Nat):Int)*c=a:=by simp
   rw[e1,e2];exact aB _ rfl
  ·exact st1.freshSize) λz_ z_ p=>p,hf⟩
def bS6(g:G)(F:Blk)(A:Around)(env:Env)(J:Nat->List (Option V)->Hp->Prop)(M:Hp)(s:Shared)(n:Nat)(s':Shared):Prop:=
 ∀ P_:Prop,(∀ (Z':List (Option V)) (M':Hp) (h1:J n Z' M') (h2:Inv g F A env Z' M' s') (h3:Step (inF A) (j6 env) M M' s s'),P_)->P_
theorem bI1{Q:d4}{X:g7}{test:Expr}{body:List Stmt}{pos:Pos}(J:Nat->List (Option V)->Hp->Prop){n:Nat}(h0:J n Z M)
  (h:∀ n Z' M',J n Z' M'->Tst g F test Z' M' (λb zs=>(b=true->Exs g F body Z' zs (λf Z₂ M2=>match f with
   | .next=>∃ m,m<n/\J m Z₂ M2
   | .cont=>∃ m,m<n/\J m Z₂ M2
   | .brk=>Q .next Z₂ M2
   | .ret v=>Q (.ret v) Z₂ M2) X)/\(b=false->Q .next Z' zs)) (λx zs=>X x Z' zs)):Ex g F (.While test body [] pos) Z M Q X:=(λA env s I=>by
 refine wpAny_While (codeAny_whileLoop (bS6 g F A env J M s) ?_ n (λz_ k_=>k_ Z M h0 I Step.refl))
 rintro n s' hh_;refine hh_ _ ?_;clear hh_;rintro Z' M' hJ I' st';refine y0 ((h n Z' M' hJ) A env s' I') (λb sv zs I1 st₁ hb=>?_) λe sv p=>W4 (p.toS.step st')
 have st1:Step (inF A) (j6 env) M zs s sv:=st'.trans (st₁.mono λz_ h=>h.elim)
 cases b with
 | false=>exact wpAny_execs_nil (λz_ k_=>k_ .next Z' zs .next I1 st1 (hb.2 rfl))
 | true=>
  refine wpAny_mono ((hb.1 rfl) A env sv I1) (λf s2 p0=>?_) λe s2 p=>W4 (p.step st1)
  refine p0 _ ?_;clear p0;rintro f' Z₂ M2 hf I2 st2 hq;cases hf with
  | next=>refine a9 hq λm hm hJ'=>?_;exact⟨m,hm,λz_ k_=>k_ Z₂ M2 hJ' I2 (st1.trans st2)⟩
  | cont=>refine a9 hq λm hm hJ'=>?_;exact⟨m,hm,λz_ k_=>k_ Z₂ M2 hJ' I2 (st1.trans st2)⟩
  | brk=>exact(λz_ k_=>k_ .next Z₂ M2 .next I2 (st1.trans st2) hq)
  | ret r=>exact(λz_ k_=>k_ (.ret _) Z₂ M2 (.ret r) I2 (st1.trans st2) hq))
end
end Internal
set_option maxHeartbeats 1000000
namespace Internal
noncomputable def zp:List V->Bool
 | [.ref _,_]=>true
 | [.none,_]=>true
 | _=>false
mutual
noncomputable def nz:V->Bool
 | .tup l=>!zp l&&nzL l
 | _=>true
noncomputable def nzL:List V->Bool
 | []=>true
 | x::l=>nz x&&nzL l
end
structure TupsZ(TO:Addr)(h h':Heap):Prop where
 keep:∀ b vs n,b≠TO->h.get? b=some {cls:=.type "tuple",data:=.seq vs n}->h'.get? b=some {cls:=.type "tuple",data:=.seq vs n}
 pair:∀ vs n,h.get? TO=some {cls:=.type "tuple",data:=.seq vs n}->∃ x y,vs=#[x,y]/\(x=.none∨∃ a,x=.ref a/\∀ us m,h.get? a≠some {cls:=.type "tuple",data:=.seq us m})
theorem TupsZ.zp{TO:Addr}{h h':Heap}(k:TupsZ TO h h'){vs:Array Value}{n:Nat}{l:List V}(e:h.get? TO=some {cls:=.type "tuple",data:=.seq vs n})(r:d3 h vs.toList l):zp l=true:=by
 refine j8 (k.pair vs n e) λx y q1_ hx=>?_;subst q1_
 refine f7 r.uncons λX l1 q1_ rX r1=>?_;subst q1_
 refine f7 r1.uncons λY l2 q1_ rY r2=>?_;subst q1_
 cases l2 with
 | cons z l=>refine j8 r2.ofCons λz_ z_ e z_=>?_;cases e
 | nil=>
  rcases hx with rfl | ⟨a,rfl,ha⟩
  ·cases X with
   | none=>rfl
   | bool b=>cases rX.ofBool
   | int i=>refine c5 rX.ofInt λt e=>?_;cases e
   | str i=>refine c5 rX.ofStr λt e=>?_;cases e
   | tup l=>refine x6 rX.ofTup λa vs n e z_=>?_;cases e
   | ref a=>cases rX.ofRef
  ·cases X with
   | none=>cases rX.ofNone
   | bool b=>cases rX.ofBool
   | int i=>refine c5 rX.ofInt λt e=>?_;cases e
   | str i=>refine c5 rX.ofStr λt e=>?_;cases e
   | tup l=>refine l5 rX.ofTup λb us m e ho z_=>?_;cases e;exact(ha _ _ ho).elim
   | ref b=>rfl
theorem Rep.nz{TO:Addr}{h h':Heap}{v:Value}{x:V}(k:TupsZ TO h h'):nz x=true->Rep h v x->Rep h' v x:=
 V.rec (motive_1:=λx=>∀ v,Internal.nz x=true->Rep h v x->Rep h' v x) (motive_2:=λl=>∀ vs,nzL l=true->d3 h vs l->d3 h' vs l) (λz_ z_ r=>r) (λz_ z_ z_ r=>r) (λz_ z_ z_ r=>r) (λz_ z_ z_ r=>r)
  (λl ih v q r=>by
   refine l5 r.ofTup λa vs n e ho r=>?_
   refine c6 (ba.mp (show(!Internal.zp l&&nzL l)=true from q)) λq1 q2=>?_
   refine⟨a,vs,n,e,k.keep _ _ _ (λqa=>?_) ho,ih _ q2 r⟩
   rw[qa] at ho;rw[k.zp ho r] at q1;cases q1) (λz_ z_ z_ r=>r) (λz_ z_ r=>r)
  (λx l hx hl vs q r=>by
   refine f7 r.ofCons λv us e r1 r2=>?_
   refine c6 (ba.mp (show(Internal.nz x&&nzL l)=true from q)) λq1 q2=>?_
   exact⟨v,us,e,hx _ q1 r1,hl _ q2 r2⟩) x v
theorem d3.nz{TO:Addr}{h h':Heap}{vs:List Value}{l:List V}(k:TupsZ TO h h')(q:nzL l=true)(r:d3 h vs l):d3 h' vs l:=by
 induction l generalizing vs with
 | nil=>exact r
 | cons x l ih=>
  refine f7 r.ofCons λv us e r1 r2=>?_
  refine c6 (ba.mp (show(Internal.nz x&&nzL l)=true from q)) λq1 q2=>?_
  exact⟨v,us,e,r1.nz k q1,ih q2 r2⟩
noncomputable def nzO:AObj->Bool
 | .lst l=>nzL l
 | .di l=>nzL (l.map (·.2))
 | .ds l=>nzL (l.map (·.2))
 | .ex _=>true
noncomputable def NZ(M:Hp):Prop:=∀ a o,M a=some o->nzO o=true
noncomputable def NR(Z:List (Option V)):Prop:=∀ (i:Nat) (v:V),Z[i]?=some (some v)->nz v=true
theorem NZ.upd{M:Hp}(h:NZ M){a:Addr}{o:AObj}(ho:nzO o=true):NZ (upd M a o):=λb p e=>by
 by_cases q:b=a
 ·rw[q,c9] at e;replace e:=g8 e;subst e;exact ho
 ·rw[d6 _ _ q] at e;exact h b p e
noncomputable def J8(wr:List Addr)(h h':Heap):Prop:=∀ b o,b∉wr->h.get? b=some o->h'.get? b=some o
section
variable{g:G}{F:Blk}{Z:List (Option V)}{M:Hp}{TO:Addr}{wr:List Addr}
theorem m7.nz{prog:Program}{w:World}{K:Type}[DecidableEq K]{knd:KeyKind prog w K}{h h':Heap}{a:Addr}{l:List (K×V)}(x:m7 knd h a l)(q:nzL (l.map (·.2))=true)(t:TupsZ TO h h')(k:∀ ob,h.get? a=some ob->h'.get? a=some ob):m7 knd h' a l:=by
 refine x _ ?_;clear x;rintro kvs d r n;refine x6 d λo es ep ho p=>?_
 exact(λz_ k_=>k_ kvs ⟨o,es,ep,k o ho,p⟩ ⟨r.1,r.2.nz t q⟩ n)
theorem u1.nz{h h':Heap}{a:Addr}{o:AObj}(x:u1 g h a o)(q:nzO o=true)(t:TupsZ TO h h')(k:∀ ob,h.get? a=some ob->h'.get? a=some ob):u1 g h' a o:=by
 cases o with
 | lst l=>refine a9 x λvs hp r=>?_;exact⟨vs,hp.at k,r.nz t q⟩
 | di l=>exact m7.nz x q t k
 | ds l=>exact m7.nz x q t k
 | ex y=>refine l5 x λC oe vs h1 e h2=>?_;exact⟨C,oe,vs,h1,k _ e,h2⟩
theorem Sim.nz{h h':Heap}(x:Sim g M h)(q:NZ M)(e:J8 wr h h')(t:TupsZ TO h h')(h1:∀ b∈wr,M b=none)(h3:∀ b∈wr,g.h₀.get? b=none):Sim g M h':=
 ⟨λb o hb=>e b o (λm=>by rw[h3 b m] at hb;exact f5 hb) (x.stays b o hb),λa o ha=>⟨(x.objs a o ha).1.nz (q a o ha) t λob hob=>e a ob (λm=>by rw[h1 a m] at ha;exact f5 ha) hob,(x.objs a o ha).2⟩⟩
theorem I9.nz{env:Env}{h h':Heap}{m:Str->Option Value}{x:Str}{v:Option V}(y:I9 env h m x v)(q:∀ V,v=some V->Internal.nz V=true)(t:TupsZ TO h h')(k:∀ y c,env.cells.lookup y=some c->∀ o,h.get? c=some o->∃ o',h'.get? c=some o'/\o'.data=o.data):I9 env h' m x v:=by
 rcases y with ⟨e,y⟩ | ⟨e,c,r,hc,hcell,y⟩
 ·exact .inl ⟨e,λV hV=>by refine a9 (y V hV) λr e1 e2=>?_;exact⟨r,e1,e2.nz t (q V hV)⟩⟩
 ·exact .inr ⟨e,c,r,hc,Cell.kept hcell λo q=>k x c hc o q,λV hV=>by refine a9 (y V hV) λr e1 e2=>?_;exact⟨r,e1,e2.nz t (q V hV)⟩⟩
theorem Inv.nz{A:Around}{env:Env}{s:Shared}{h':Heap}{tk:Nat}(J:Inv g F A env Z M s)(qs:NZ M)(qr:NR Z)(e:J8 wr s.heap h')(t:TupsZ TO s.heap h')(h1:∀ b∈wr,M b=none)(h2:∀ b∈wr,¬ j6 env b)(h3:∀ b∈wr,g.h₀.get? b=none)(h4:∀ b∈wr,¬ inF A b) :
  Inv g F A env Z M {s with heap:=h',toks:=tk}:=by
 refine a9 J.loc.ns λm hn hv=>?_
 have hl:∀ b o,j6 env b->s.heap.get? b=some o->h'.get? b=some o:=λb o hb hbo=>e b o (λq=>h2 b q hb) hbo
 refine⟨J.scope,J.fn,J.glob,J.bltn,J.room,J.units,J.quiet,J.sim.nz qs e t h1 h3,
  ⟨J.loc.len,⟨m,hn.at' λo ho=>hl _ o (.inl rfl) ho,λi y v e1 e2=>(hv i y v e1 e2).nz (λV hV=>qr i V (by rw[e2,hV])) t λy c hc o ho=>⟨o,hl c o (.inr ⟨y,hc⟩) ho,rfl⟩⟩,J.loc.free,λy c hc=>?_,J.loc.apart,J.loc.other⟩,J.base,J.nd,?_⟩
 ·refine c5 (J.loc.live y c hc) λv hv=>?_
  exact⟨v,Cell.kept hv λo ho=>⟨o,hl c o (.inr ⟨y,hc⟩) ho,rfl⟩⟩
 ·refine J.frs _ ?_;rintro e0 l ha hf all
  refine(λz_ k_=>k_ e0 l ha hf (λv hv=>?_))
  refine(all v hv) _ ?_;rintro L hk hf' hb hs o ho d;exact(λz_ k_=>k_ L hk hf' hb hs o (e L o (λq=>h4 L q ⟨_,v,ha,hv,hf'⟩) ho) d)
theorem Step.nz{fr own:Addr->Prop}{zs:Hp}{s sv:Shared}{h':Heap}{tk:Nat}(x:Step fr own M zs s sv)(e:J8 wr sv.heap h')(hI:∀ b∈wr,s.heap.get? b=none):Step fr own M zs s {sv with heap:=h',toks:=tk}:=by
 have ne:∀ b o,s.heap.get? b=some o->b∉wr:=λb o hb q=>by rw[hI b q] at hb;exact f5 hb
 refine⟨?_,λb o hb=>?_,λb o hb hM ho=>?_,λb vs n hb=>e _ _ (ne _ _ hb) (x.tups b vs n hb),x.new⟩
 ·exact⟨x.same.1,x.same.2⟩
 ·refine a9 (x.dom b o hb) λo' ho' d=>?_
  exact⟨o',e _ _ (ne _ _ hb) ho',d⟩
 ·refine a9 (x.keep b o hb hM ho) λo' ho' d=>?_
  exact⟨o',e _ _ (ne _ _ hb) ho',d⟩
end
section
variable{g:G}{F:Blk}{Z:List (Option V)}{M:Hp}
noncomputable def af9(Q:d4)(J:Nat->List (Option V)->Hp->Prop)(i:Nat):d4:=λf Z M=>match f with
 | .next=>J i Z M
 | .cont=>J i Z M
 | .brk=>Q .next Z M
 | .ret v=>Q (.ret v) Z M
structure ZipK(a b:Addr)(l m:List V)(Z:List (Option V))(M:Hp):Prop where
 la:M a=some (.lst l)
 lb:M b=some (.lst m)
 refs:∀ x∈l,∃ c o,x=.ref c/\M c=some o
 nz:NZ M
 nr:NR Z
def aa7(g:G)(F:Blk)(A:Around)(env:Env)(l m:List V)(a b:Addr)(J:Nat->List (Option V)->Hp->Prop)(z TI TO i1 i2:Addr)(M:Hp)(s:Shared)(n:Nat)(s':Shared):Prop:=
 ∀ P_:Prop,(∀ (i:Nat) (Z':List (Option V)) (M':Hp) (u v:Value) (h1:i+n=min l.length m.length+1) (h2:i<=min l.length m.length) (h3:J i Z' M') (hz:IsZip s'.heap z TI TO .none) (hTI:IsPair s'.heap TI (.ref i1) (.ref i2)) (hTO:IsPair s'.heap TO u v) (hu:u=.none∨∃ c,u=.ref c/\V.ref c∈l)
  (g1:s'.heap.IsListIter i1 a i) (g2:s'.heap.IsListIter i2 b i) (h5:∀ w∈[z,TO,i1,i2],M' w=none) (h6:Inv g F A env Z' M' s') (h7:Step (inF A) (j6 env) M M' s s'),P_)->P_
theorem M7{o p:Obj}{x y:String}(e:some o=some p)(ho:o.cls=.type x)(hp:p.cls=.type y):x=y:=by
 cases e;have q:=ho.symm.trans hp;injection q
theorem u1.noTup{h:Heap}{c:Addr}{o:AObj}(x:u1 g h c o)(us:Array Value)(m:Nat):h.get? c≠some {cls:=.type "tuple",data:=.seq us m}:=λe=>by
 cases o with
 | lst l=>obtain⟨vs,⟨n,hp⟩,_⟩:=x;exact absurd (M7 (hp.symm.trans e) rfl rfl) (by decide)
 | di l=>obtain⟨es,ep,q⟩:=m7.has x;exact absurd (M7 (q.symm.trans e) rfl rfl) (by decide)
 | ds l=>obtain⟨es,ep,q⟩:=m7.has x;exact absurd (M7 (q.symm.trans e) rfl rfl) (by decide)
 | ex y=>obtain⟨C,oe,vs,_,q,hc,_⟩:=x;rw[q] at e;cases e;cases hc
theorem aG9{h h':Heap}{l:List V}{a b z TI TO i1 i2:Addr}{m:List V}{Z:List (Option V)}{u v:Value}{j k:Nat}(S:Sim g M h)(K:ZipK a b l m Z M)(hz:IsZip h z TI TO .none)(hTO:IsPair h TO u v)(hu:u=.none∨∃ c,u=.ref c/\V.ref c∈l)
  (g1:h.IsListIter i1 a j) (g2:h.IsListIter i2 b k) (e:J8 [z,TO,i1,i2] h h'):TupsZ TO h h':=by
 refine⟨λc vs n hc ho=>e c _ (λq=>?_) ho,λvs n ho=>?_⟩
 ·obtain⟨o1,e1,c1,d1⟩:=g1
  obtain⟨o2,e2,c2,d2⟩:=g2;rcases au.mp q with rfl | q
  ·exact absurd (M7 (hz.symm.trans ho) rfl rfl) (by decide)
  rcases au.mp q with rfl | q
  ·exact hc rfl
  rcases au.mp q with rfl | q
  ·exact absurd (M7 (e1.symm.trans ho) c1 rfl) (by decide)
  rcases au.mp q with rfl | q
  ·exact absurd (M7 (e2.symm.trans ho) c2 rfl) (by decide)
  cases q
 ·have ho':=hTO.symm.trans ho
  cases ho';refine⟨u,v,rfl,hu.imp id λq=>?_⟩
  obtain⟨c,rfl,hm⟩:=q;obtain⟨c',o,hc,hs⟩:=K.refs _ hm;cases hc;exact⟨c,rfl,λus m=>(S.objs c o hs).1.noTup us m⟩
theorem at5{l:List V}(h:nzL l=true):∀ {i:Nat} {x:V},l[i]?=some x->nz x=true:=by
 induction l with
 | nil=>intro i x e;cases e
 | cons y l ih=>
  intro i x e;obtain⟨q1,q2⟩:=ba.mp (show(Internal.nz y&&nzL l)=true from h)
  cases i with
  | zero=>cases e;exact q1
  | succ i=>exact ih q2 e
theorem cd8{N a b:Nat}(ha:a<N)(hb:b<N):ZipApart (N+4) (N+2) (N+3) N (N+1) a b:=by
 constructor<;>lia
theorem aL3{N:Nat}:∀ c∈[N+4,N+3,N,N+1],N<=c:=λc hc=>by simp at hc;lia
theorem aB9{z TO i1 i2 c:Addr}(hc:c∉[z,TO,i1,i2]):c≠z/\c≠TO/\c≠i1/\c≠i2:=by simpa using hc
theorem aZ9{Q:d4}{X:g7}{es:List Expr}{k:Nat}{tp:Pos}{body:List Stmt}{A:Around}{env:Env}{s:Shared}{l m:List V}{a b z TI TO i1 i2:Addr}{J:Nat->List (Option V)->Hp->Prop}(hh:A.handled=none)(D:ZipApart z TI TO i1 i2 a b)
  (f0:∀ c∈[z,TO,i1,i2],s.heap.get? c=none) (hown:∀ c∈[z,TO,i1,i2],¬ j6 env c) (hbase:∀ c∈[z,TO,i1,i2],g.h₀.get? c=none) (hnf:∀ c∈[z,TO,i1,i2],¬ inF A c)
  (hturn:∀ i x y Z' M',l[i]?=some x->m[i]?=some y->J i Z' M'->ZipK a b l m Z' M'/\Asg g F (.Tuple es k tp) (.tup [x,y]) Z' M' (λZ''=>Exs g F body Z'' M' (af9 Q J (i+1)) X))
  (hend:∀ Z' M',J (min l.length m.length) Z' M'->ZipK a b l m Z' M'/\Q .next Z' M') {n₀:Nat} {sx:Shared} (h₀:aa7 g F A env l m a b J z TI TO i1 i2 M s n₀ sx) :
  codeAny (model g.prog g.w) A (.forLoop (.Tuple es k tp) (.ref z) body [] env) (λr s'=>match r with | .ok f=>H5 g F A env M s Q f s' | .error e=>cameBackBy (model g.prog g.w) A env (C5 g F A env M s X) e s') sx:=by
 refine ay0 (aa7 g F A env l m a b J z TI TO i1 i2 M s) ?_ n₀ h₀;rintro n s' hh_;refine hh_ _ ?_;clear hh_;rintro i Z' M' u v hn hi hJ' kz kTI kTO ku k1 k2 hM' I' st';by_cases hlt:i<min l.length m.length
 ·have hil:i<l.length:=aA hlt (be _ _)
  have him:i<m.length:=aA hlt (cm _ _);obtain⟨K,asg⟩:=hturn i _ _ _ _ (aa hil) (aa him) hJ';obtain⟨xs',⟨na',oa'⟩,rl'⟩:=(I'.sim.objs a _ K.la).1;obtain⟨ys',⟨nb',ob'⟩,rm'⟩:=(I'.sim.objs b _ K.lb).1;obtain⟨x,hx,rx⟩:=rl'.get (aa hil);obtain⟨y,hy,ry⟩:=rm'.get (aa him);refine wpAny_pyNext_zip_item D kz kTI kTO k1 k2 (xs:=xs') (ys:=ys') ⟨_,oa',rfl,_,rfl⟩ ⟨_,ob',rfl,_,rfl⟩ (by rw[<- aD];exact hx) (by rw[<- aD];exact hy) λh1 p1 p2 p3 p4 p5 p6 kp=>?_
  refine wpAny_letOwnedTupleGo_zip p1 λh2 r1 sb=>?_
  have ex:J8 [z,TO,i1,i2] s'.heap h2:=λc o hc e=>by
   obtain⟨q1,q2,q3,q4⟩:=aB9 hc;exact sb.extBut c o q1 (kp c o q1 q2 q3 q4 e)
  have tz:TupsZ TO s'.heap h2:=aG9 I'.sim K kz kTO ku k1 k2 ex;have I1:Inv g F A env Z' M' {s' with heap:=h2}:=I'.nz (tk:=s'.toks) K.nz K.nr ex tz hM' hown hbase hnf
  have st1:Step (inF A) (j6 env) M M' s {s' with heap:=h2}:=st'.nz (tk:=s'.toks) ex f0
  have hTz:s'.heap.objs.size≠z:=dz (aU kz);have rT:Rep h2 (.ref s'.heap.objs.size) (.tup [l[i],m[i]]):=.tup (sb.extBut _ _ hTz p5) (.cons (rx.nz tz (at5 (K.nz a _ K.la) (aa hil))) (.cons (ry.nz tz (at5 (K.nz b _ K.lb) (aa him))) .nil));have mz:z∈[z,TO,i1,i2]:=.head _;have m1:i1∈[z,TO,i1,i2]:=.tail _ (.tail _ (.head _));have m2:i2∈[z,TO,i1,i2]:=.tail _ (.tail _ (.tail _ (.head _)));have t1:IsPair h2 TI (.ref i1) (.ref i2):=ex TI _ (by simp;exact⟨D.TIz,D.TITO,D.TIi1,D.TIi2⟩) kTI
  have t2:IsPair h2 TO x y:=sb.extBut _ _ D.TOz p2;obtain⟨o1,e1,c1,d1⟩:=p3;obtain⟨o2,e2,c2,d2⟩:=p4;have e1':=sb.extBut _ _ D.i1z e1;have e2':=sb.extBut _ _ D.i2z e2;have hu':x=.none∨∃ c,x=.ref c/\V.ref c∈l:=by
   obtain⟨c,o,hc,_⟩:=K.refs _ (bL hil);rw[hc] at rx;exact .inr ⟨c,rx.ofRef,hc▸bL hil⟩
  refine asg.run A env _ _ _ _ I1 hh rT λs3 ρ3 I3 st3 hex=>?_
  have st13:=st1.trans st3;refine wpAny_mono (hex A env s3 I3) (λfl s4 p4=>?_) λe s4 p=>W4 (p.step st13)
  refine p4 _ ?_;clear p4;rintro f' ρ4 M4 hf I4 st4 hq4;have st14:=st13.trans st4;have tu:=st3.tups.trans st4.tups;have z3:=st3.exact r1 (hM' z mz) (hown z mz) (hnf z mz);have z4:=st4.exact z3 (hM' z mz) (hown z mz) (hnf z mz);have y3:=st3.exact e1' (hM' i1 m1) (hown i1 m1) (hnf i1 m1);have y4:=st4.exact y3 (hM' i1 m1) (hown i1 m1) (hnf i1 m1);have w3:=st3.exact e2' (hM' i2 m2) (hown i2 m2) (hnf i2 m2);have w4:=st4.exact w3 (hM' i2 m2) (hown i2 m2) (hnf i2 m2);have hM4:∀ w∈[z,TO,i1,i2],M4 w=none:=λw hw=>by
   have h0:=hM' w hw;simp at hw
   rcases hw with rfl | rfl | rfl | rfl
   ·exact st4.new _ _ z3 h0
   ·exact st4.new _ _ (st3.tups _ _ _ t2) h0
   ·exact st4.new _ _ y3 h0
   ·exact st4.new _ _ w3 h0
  have fin:J (i+1) ρ4 M4->aa7 g F A env l m a b J z TI TO i1 i2 M s (n-1) s4:=λhj=>
   (λz_ k_=>k_ (i+1) ρ4 M4 x y (by lia) hlt hj z4 (tu _ _ _ t1) (tu _ _ _ t2) hu' ⟨o1,y4,c1,d1⟩ ⟨o2,w4,c2,d2⟩ hM4 I4 st14)
  cases hf with
  | next=>exact⟨n-1,by lia,fin hq4⟩
  | cont=>exact⟨n-1,by lia,fin hq4⟩
  | brk=>exact(λz_ k_=>k_ .next ρ4 M4 .next I4 st14 hq4)
  | ret r=>exact(λz_ k_=>k_ (.ret _) ρ4 M4 (.ret r) I4 st14 hq4)
 ·obtain rfl:i=min l.length m.length:=by lia
  obtain⟨K,hQ⟩:=hend _ _ hJ';obtain⟨xs',⟨na',oa'⟩,rl'⟩:=(I'.sim.objs a _ K.la).1;obtain⟨ys',⟨nb',ob'⟩,rm'⟩:=(I'.sim.objs b _ K.lb).1;have hl1:=rl'.length;have hl2:=rm'.length;rw[ao] at hl1 hl2;refine wpAny_pyNext_zip_end hh D kz kTI kTO k1 k2 (xs:=xs') (ys:=ys') ⟨_,oa',rfl,_,rfl⟩ ⟨_,ob',rfl,_,rfl⟩ ?_ λh2 kp=>wpAny_execs_nil ?_
  ·by_cases q:l.length<=m.length
   ·exact .inl (fS (by lia))
   ·exact .inr (fS (by lia))
  ·have ex:J8 [z,TO,i1,i2] s'.heap h2:=λc o hc e=>by
    obtain⟨q1,q2,q3,q4⟩:=aB9 hc;exact kp c o q1 q2 q3 q4 e
   exact(λz_ k_=>k_ .next Z' M' .next (I'.nz (tk:=s'.toks) K.nz K.nr ex (aG9 I'.sim K kz kTO ku k1 k2 ex) hM' hown hbase hnf) (st'.nz (tk:=s'.toks) ex f0) hQ)
def ax7(g:G)(F:Blk)(es:List Expr)(k:Nat)(tp:Pos)(body:List Stmt)(Q:d4)(X:g7)(Z:List (Option V))(vs:List V)(M:Hp):Prop:=
 ∀ P_:Prop,(∀ (a b:Addr) (l m:List V) (e:vs=[.ref a,.ref b]) (la:M a=some (.lst l)) (lb:M b=some (.lst m)) (J:Nat->List (Option V)->Hp->Prop) (h0:J 0 Z M)
  (ht:∀ i x y Z' M',l[i]?=some x->m[i]?=some y->J i Z' M'->ZipK a b l m Z' M'/\Asg g F (.Tuple es k tp) (.tup [x,y]) Z' M' (λZ''=>Exs g F body Z'' M' (af9 Q J (i+1)) X)) (he:∀ Z' M',J (min l.length m.length) Z' M'->ZipK a b l m Z' M'/\Q .next Z' M'),P_)->P_
theorem by6{Q:d4}{X:g7}{es:List Expr}{k:Nat}{tp np cp pos:Pos}{ea eb:Expr}{body:List Stmt}{zn:Str}(hq:F.q=true)
  (hk:F.sc.names.lookup zn=some .globalImplicit) (hg:g.mg zn=none) (hb:g.mb zn=some (.type "zip")) (hd:(zn==("__debug__" : Str))=false)
  (h:Evs g F [ea,eb] Z M (ax7 g F es k tp body Q X Z) (λx zs=>X x Z zs)) :
  Ex g F (.For (.Tuple es k tp) (.Call (.Name zn np) [ea,eb] [] cp) body [] pos) Z M Q X:=(λA env s I=>by
 have hh:=I.quiet hq;refine wpAny_For (wpAny_Call_ofName (Calls.Name_function_global I.fn (by show env.scope.names.lookup zn=_;rw[I.scope];exact hk) (aX (by rw[I.glob];exact g.ns.keeps I.sim.stays) hg (by rw[I.bltn];exact g.nb.keeps I.sim.stays) hb ?_) hd)) (λx=>rfl)
 obtain⟨hw,hp⟩:=h A env s cp I;refine callWith_excType hp (v5 hp (wpAny_mono hw (λvs sv p=>?_) λz_ z_ p=>p.toS))
 refine p _ ?_;clear p;rintro Vs zs rs I1 st1 p_;refine p_ _ ?_;clear p_;rintro a b l m rfl la lb J hJ hturn hend;obtain⟨va,vb,rfl,ra,rb⟩:=rs.two;obtain rfl:=ra.ofRef;obtain rfl:=rb.ofRef;obtain⟨xs,⟨na,oa⟩,rl⟩:=(I1.sim.objs a _ la).1;obtain⟨ys,⟨nb,ob⟩,rm⟩:=(I1.sim.objs b _ lb).1;refine call_zip_2 (xs:=xs) (ys:=ys) ⟨_,oa,rfl,_,rfl⟩ ⟨_,ob,rfl,_,rfl⟩ λh' hz hTI hTO hi1 hi2 hsz keep=>?_
 generalize hN:sv.heap.objs.size=N at *;have lt:∀ {c o},sv.heap.get? c=some o->c<N:=λe=>hN▸aU e
 have D:=cd8 (lt oa) (lt ob);have fresh:∀ c,N<=c->sv.heap.get? c=none:=λc hc=>by
  cases e:sv.heap.get? c with
  | none=>rfl
  | some o=>exact absurd (lt e) (bg.mpr hc)
 have f0:∀ c∈[N+4,N+3,N,N+1],s.heap.get? c=none:=λc hc=>by
  cases e:s.heap.get? c with
  | none=>rfl
  | some o=>obtain⟨o',ho',_⟩:=st1.dom _ o e;rw[fresh c (aL3 c hc)] at ho';cases ho'
 have hM1:∀ c∈[N+4,N+3,N,N+1],zs c=none:=λc hc=>by
  cases e:zs c with
  | none=>rfl
  | some o=>
   obtain⟨ob,e'⟩:=(I1.sim.objs c o e).1.has;rw[fresh c (aL3 c hc)] at e';cases e'
 have hown:∀ c∈[N+4,N+3,N,N+1],¬ j6 env c:=λc hc=>I.notOwn (f0 c hc)
 have hbase:∀ c∈[N+4,N+3,N,N+1],g.h₀.get? c=none:=λc hc=>I.notBase (f0 c hc)
 have hnf:∀ c∈[N+4,N+3,N,N+1],¬ inF A c:=λc hc=>I.notFr (f0 c hc)
 have gr:Step (inF A) d9 zs zs sv {sv with heap:=h'}:=Step.grow (tk:=sv.toks) keep
 have I2:Inv g F A env Z zs {sv with heap:=h'}:=I1.keep gr (I1.sim.grow keep)
 have st2:Step (inF A) d9 M zs s {sv with heap:=h'}:=st1.trans gr
 clear gr;refine wpAny_pyIter_zip hz ?_;exact aZ9 hh D f0 hown hbase hnf hturn hend (n₀:=min l.length m.length+1)
  (λz_ k_=>k_ 0 Z zs .none .none (bC _) (aE _) hJ hz hTI hTO (.inl rfl) hi1 hi2 hM1 I2 (st2.mono λz_ h=>h.elim)))
end
noncomputable def rl(scope sc:Scope):Scope:=
 {scope with names:=scope.names.map fun(n,k)=>if (k==.free&&sc.kind==.function&&sc.names.lookup n==some .cell) then(n,.cell) else(n,k)}
noncomputable def t7(scope:Scope):List Str:=(scope.names.filter (·.2==.free)).map (·.1)
noncomputable def D3(F:Blk)(scope:Scope)(x:Str)(js:List Nat):Bool:=
 scope.names.all (λy=>y.2 != .cell)&&(scope.kind==.function)&&(scope.names.all λy=>y.2 != .local||scope.names.lookup y.1==some .local)&&(scope.names.lookup x==some .local) &&
 decide (x::t7 scope).Nodup&&((t7 scope).all λy=>F.sc.names.lookup y==some .cell&&scope.names.lookup y==some .free)&&decide (js.map (λj=>F.vars[j]?)=(t7 scope).map some)
noncomputable def A9(F:Blk)(scope:Scope)(x:Str):Blk:=⟨rl scope F.sc,x::t7 scope,F.d,F.q⟩
noncomputable def u9(Z:List (Option V))(js:List Nat):List (Option V):=js.map λj=>(Z[j]?).join
noncomputable def w8(cells:List (Str×Addr)):List (Str×NameKind)->List (Str×Addr)->List (Str×Addr)
 | [],acc=>acc
 | (n,k)::r,acc=>w8 cells r (if k==.free then(n,(cells.lookup n).getD 0)::acc else acc)
theorem bX5{scope:Scope}{env:Env}(h:∀ y∈scope.names,y.2=.free->(env.cells.lookup y.1).isSome=true):closureFor scope env=pure (w8 env.cells scope.names []):=by
 unfold closureFor;have:∀ (names:List (Str×NameKind)) (acc:List (Str×Addr)),(∀ y∈names,y.2=.free->(env.cells.lookup y.1).isSome=true)->
   (forIn names acc λx cs=>if (x.2==NameKind.free)=true then(do let c <- cellOf env x.1;pure (ForInStep.yield ((x.1,c)::cs))) else pure (ForInStep.yield cs))=(pure (w8 env.cells names acc):Sem (List (Str×Addr))):=by
  intro names;induction names with
  | nil=>intro acc _;rfl
  | cons y r ih=>
   intro acc hy;obtain⟨n,k⟩:=y;rw[List.forIn_cons];cases hk:k==NameKind.free with
   | false=>
    simp only[hk,Bool.false_eq_true,if_false,pure_bind,w8]
    exact ih acc λy hy'=>hy y (aP _ hy')
   | true=>
    obtain⟨c,hc⟩:=cA.mp (hy (n,k) bH (by simpa using hk))
    have hcell:cellOf env n=pure c:=by unfold cellOf;rw[hc]
    simp only[hk,if_true,hcell,pure_bind,w8,hc,Option.getD_some]
    exact ih _ λy hy'=>hy y (aP _ hy')
 have e:=this scope.names [] h;simp only[bind_pure]
 exact e
theorem cd9{cells:List (Str×Addr)}{x:Str}{c:Addr}{names:List (Str×NameKind)}:∀ {acc:List (Str×Addr)},(∀ y c',acc.lookup y=some c'->cells.lookup y=some c')->(∀ y∈names,y.2=.free->(cells.lookup y.1).isSome=true)->
  (w8 cells names acc).lookup x=some c->cells.lookup x=some c:=by
 induction names with
 | nil=>intro acc ha hn h;exact ha x c h
 | cons p r ih=>
  obtain⟨n,k⟩:=p;intro acc ha hn h;refine ih (acc:=if k==.free then(n,(cells.lookup n).getD 0)::acc else acc) (λy c' e=>?_) (λy hy=>hn y (aP _ hy)) h
  by_cases hk:(k==.free)=true
  ·rw[if_pos hk,bu] at e
   cases hy:y==n with
   | true=>
    rw[hy] at e;refine c5 (cA.mp (hn (n,k) bH (beq_iff_eq.mp hk))) λc2 hc2=>?_
    rw[hc2] at e
    replace e:=g8 e;subst e
    rw[beq_iff_eq.mp hy,hc2];rfl
   | false=>rw[hy] at e;exact ha y c' e
  ·rw[if_neg hk] at e;exact ha y c' e
theorem br3{cells:List (Str×Addr)}{x:Str}{names:List (Str×NameKind)}:∀ {acc:List (Str×Addr)},((acc.lookup x).isSome=true∨∃ y∈names,y.1=x/\y.2=.free)->((w8 cells names acc).lookup x).isSome=true:=by
 induction names with
 | nil=>
  intro acc h;rcases h with h | ⟨y,hy,_⟩
  ·exact h
  ·cases hy
 | cons p r ih=>
  obtain⟨n,k⟩:=p;intro acc h;refine ih (acc:=if k==.free then(n,(cells.lookup n).getD 0)::acc else acc) ?_
  rcases h with h | ⟨y,hy,e1,e2⟩
  ·left
   by_cases hk:(k==.free)=true
   ·rw[if_pos hk,bu]
    cases x==n with
    | true=>rfl
    | false=>exact h
   ·rw[if_neg hk];exact h
  ·rcases au.mp hy with rfl | hy
   ·left
    have e1':n=x:=e1;have e2':k=.free:=e2;subst e1' e2';rw[if_pos (beq_self_eq_true _),bu,beq_self_eq_true];rfl
   ·exact .inr ⟨y,hy,e1,e2⟩
theorem cf4{scope sc:Scope}{x:Str}{k:NameKind}{names:List (Str×NameKind)}:names.lookup x=some k->
  (names.map fun(n,k)=>if (k==NameKind.free&&sc.kind==.function&&sc.names.lookup n==some .cell) then(n,NameKind.cell) else(n,k)).lookup x =
   some (if (k==NameKind.free&&sc.kind==.function&&sc.names.lookup x==some .cell) then .cell else k):=by
 induction names with
 | nil=>intro h;cases h
 | cons p r ih=>
  obtain⟨n,k'⟩:=p;intro h;rw[bu] at h;show eP x ((if (k'==NameKind.free&&sc.kind==.function&&sc.names.lookup n==some .cell)=true then(n,NameKind.cell) else(n,k'))::_)=_
  have e1:∀ (v:NameKind) (l:List (Str×NameKind)),eP x ((n,v)::l)=if (x==n)=true then some v else eP x l:=λv l=>by rw[bu];cases x==n<;>rfl
  have e0:∀ (b:Bool) (l:List (Str×NameKind)),eP x ((if b=true then(n,NameKind.cell) else(n,k'))::l)=if (x==n)=true then some (if b=true then .cell else k') else eP x l:=λb l=>by
   cases b
   ·exact e1 _ _
   ·exact e1 _ _
  rw[e0];cases hx:x==n with
  | true=>
   rw[hx] at h;replace h:=g8 h;subst h;rw[beq_iff_eq.mp hx];rfl
  | false=>
   rw[hx] at h;exact ih h
def C6(g:G)(F:Blk)(ifs:List Expr)(Z:List (Option V))(M:Hp)(Q:Bool->Hp->Prop):Prop:=
 ∀ A env s (E:Value->Shared->Prop),Inv g F A env Z M s->wpAny (model g.prog g.w) A (forIn ifs true λc r=>if r=true then do let ok <- isTrue c env (eval c env);pure (ForInStep.yield ok) else pure (ForInStep.yield r)) (F7 g F A env Z M s Q) E s
noncomputable def noX:Str->Hp->Prop:=λz_ z_=>False
theorem bD9{g:G}{F:Blk}{Z:List (Option V)}{M:Hp}{Q:Bool->Hp->Prop}(h:Q true M):C6 g F [] Z M Q:=(λA env s E I=>wpAny_tests_nil (λz_ k_=>k_ M I Step.refl h))
theorem by0{g:G}{F:Blk}{c:Expr}{Z:List (Option V)}{M:Hp}{Q:Bool->Hp->Prop}(h:Tst g F c Z M Q noX):C6 g F [c] Z M Q:=(λA env s E I=>wpAny_tests_one (wpAny_mono (h A env s I) (λz_ z_ p=>p) λz_ z_ p=>p.no))
section
variable{g:G}{F:Blk}{Z:List (Option V)}{M:Hp}{X:Str->Hp->Prop}
def CK(St:Nat->Heap->Prop)(D It:Addr)(i:Nat)(acc:List V)(M:Hp)(h:Heap):Prop:=
 ∀ P_:Prop,(∀ (ys:Array Value) (h5:St i h) (h6:h.PlainList D ys) (h7:d3 h ys.toList acc) (h9:M It=none) (h10:M D=none),P_)->P_
def aj8(g:G)(A:Around)(L:List V)(J:List V->List V->Hp->Prop)(St:Nat->Heap->Prop)(D C It:Addr)(M:Hp)(s:Shared)(n:Nat)(s':Shared):Prop:=
 ∀ P_:Prop,(∀ (i:Nat) (acc:List V) (M':Hp) (m':Str->Option Value) (h1:i+n=L.length+1) (h2:i<=L.length) (h3:acc.length<=i) (h4:J (L.drop i) acc M') (h5:CK St D It i acc M' s'.heap) (h8:s'.heap.Ns C m')
   (h11:M' C=none) (h12:Sim g M' s'.heap) (h13:Step (inF A) d9 M M' s s'),P_)->P_
section
variable{A:Around}{L:List V}{K:Hp->Prop}{St:Nat->Heap->Prop}{D It c:Addr}{i j:Nat}{acc:List V}{M':Hp}{h h':Heap}
theorem CK.but(k:CK St D It i acc M h)(W:IterOK g A It L K St)(e:Heap.ExtBut c h h')(t:k9 h h')(n1:It≠c)(n2:D≠c):CK St D It i acc M h':=by
 refine k _ ?_;clear k;rintro ys a ⟨n,b⟩ q d f;exact(λz_ k_=>k_ ys (W.frame _ _ _ a (λo ho=>e It o n1 ho) t) ⟨n,e D _ n2 b⟩ (q.mono t) d f)
theorem CK.on(k:CK St D It i acc M h)(e:Heap.ExtBut It h h')(t:k9 h h')(n:D≠It)(a':St j h'):CK St D It j acc M h':=by
 refine k _ ?_;clear k;rintro ys a ⟨n',b⟩ q d f;exact(λz_ k_=>k_ ys a' ⟨n',e D _ n b⟩ (q.mono t) d f)
theorem CK.step{s s':Shared}(k:CK St D It i acc M s.heap)(W:IterOK g A It L K St)(st:Step (inF A) d9 M M' s s')(n1:¬ inF A It)(n2:¬ inF A D):CK St D It i acc M' s'.heap:=by
 refine k _ ?_;clear k;rintro ys a ⟨n,b⟩ q d f;refine j8 (W.obj _ _ a) λo z_ ho z_=>?_
 exact(λz_ k_=>k_ ys (W.frame _ _ _ a (λo' ho'=>by rw[ho] at ho';replace ho':=g8 ho';subst ho';exact st.thing d ho n1) st.tups) ⟨n,st.thing f b n2⟩ (q.mono st.tups) (st.new It _ ho d) (st.new D _ b f))
end
theorem T5{scope:Scope}{x:Str}{js:List Nat}(ok:D3 F scope x js=true):(∀ y∈scope.names,y.2≠.cell)/\scope.kind=.function/\(∀ y∈scope.names,y.2≠.local∨scope.names.lookup y.1=some .local)/\scope.names.lookup x=some .local/\(x::t7 scope).Nodup/\(∀ y∈t7 scope,F.sc.names.lookup y=some .cell/\scope.names.lookup y=some .free)/\js.map (λj=>F.vars[j]?)=(t7 scope).map some:=by
 unfold D3 at ok;simp only[bo,decide_eq_true_eq,aW,dv,beq_iff_eq,bne_iff_ne] at ok
 obtain⟨⟨⟨⟨⟨⟨hcell,hkind⟩,hloc⟩,hx⟩,hnd⟩,hfr⟩,hjs⟩:=ok;exact⟨hcell,hkind,hloc,hx,hnd,hfr,hjs⟩
theorem aE5{scope:Scope}{x:Str}{js:List Nat}(ok:D3 F scope x js=true){A:Around}{env:Env}{s:Shared}(I:Inv g F A env Z M s):∀ y∈scope.names,y.2=.free->(env.cells.lookup y.1).isSome=true:=by
 refine Z3 (T5 ok) λhcell hkind hloc hx hnd hfr hjs=>?_
 refine a9 I.loc.ns λm0 hn0 hv0=>?_
 have freeCell:∀ y∈t7 scope,∃ (k j:Nat) (c:Addr) (r:Option Value),js[k]?=some j/\(t7 scope)[k]?=some y/\F.vars[j]?=some y/\env.cells.lookup y=some c:=λy hy=>by
  obtain⟨k,hk⟩:=List.getElem?_of_mem hy;have h1:(js.map (λj=>F.vars[j]?))[k]?=some (some y):=by rw[hjs,aw,hk];rfl
  rw[aw] at h1;refine a9 (aJ.mp h1) λj hj hj'=>?_
  have hlt:j<Z.length:=by rw[I.loc.len];exact(ay.mp hj').1
  rcases hv0 j y _ hj' (aa hlt) with ⟨hkd,_⟩ | ⟨_,c,r,hc,_⟩
  ·have:=(hfr y hy).1
   rw[show env.kindOf y=F.sc.names.lookup y from by unfold Env.kindOf;rw[I.scope],this] at hkd
   cases hkd
  ·exact⟨k,j,c,r,hj,hk,hj',hc⟩
 have hfreeIn:∀ y∈scope.names,y.2=.free->y.1∈t7 scope:=λy hy e=>ar.mpr ⟨y,cL.mpr ⟨hy,by simp[e]⟩,rfl⟩
 have hsome:∀ y∈scope.names,y.2=.free->(env.cells.lookup y.1).isSome=true:=λy hy e=>by
  refine aW1 (freeCell y.1 (hfreeIn y hy e)) λz_ z_ c z_ z_ z_ z_ hc=>?_
  rw[hc];rfl
 exact hsome
theorem bR8{scope:Scope}{x:Str}{js:List Nat}(ok:D3 F scope x js=true){A:Around}{env:Env}{s:Shared}{C:Addr}{v:V}{rv:Value}{M':Hp}{s':Shared}{m':Str->Option Value}(I:Inv g F A env Z M s)(sm:Sim g M' s'.heap)(st':Step (inF A) d9 M M' s s')(hns':s'.heap.Ns C m')(hmx:m' x=some rv)(hrv:Rep s'.heap rv v)(hMC:M' C=none)(f0C:s.heap.get? C=none):Inv g (A9 F scope x) A (compEnvC scope (w8 env.cells scope.names []) C env) (some v::u9 Z js) M' s':=by
 refine Z3 (T5 ok) λhcell hkind hloc hx hnd hfr hjs=>?_
 have hsome:=aE5 ok I;have clk:∀ y c,(w8 env.cells scope.names []).lookup y=some c->env.cells.lookup y=some c:=λy c e=>cd9 (λz_ z_ e=>by exact f5 e) hsome e
 have hkx:(compEnvC scope (w8 env.cells scope.names []) C env).kindOf x=some .local:=by
  show(relabel scope env).names.lookup x=_;exact lookup_relabel_local hx
 have hky:∀ y∈t7 scope,(compEnvC scope (w8 env.cells scope.names []) C env).kindOf y=some .cell:=λy hy=>by
  show((relabel scope env).names).lookup y=_;have hl:=(hfr y hy).2;have e1:=cf4 (scope:=scope) (sc:=env.scope) hl;have e2:(NameKind.free==NameKind.free&&env.scope.kind==.function&&env.scope.names.lookup y==some .cell)=true:=by
   rw[I.fn,I.scope,(hfr y hy).1];rfl
  rw[e2] at e1;exact e1
 have own_c:∀ b,j6 (compEnvC scope (w8 env.cells scope.names []) C env) b->b=C∨∃ y,env.cells.lookup y=some b:=λb hb=>by
  rcases hb with rfl | ⟨y,hy⟩
  ·exact .inl rfl
  ·exact .inr ⟨y,clk y b hy⟩
 have I':Inv g F A env Z M' s':=I.keep st' sm;refine a9 I'.loc.ns λmE hnE hvE=>?_
 refine⟨?_,hkind,I.glob,I.bltn,I.room,I.units,I.quiet,sm,⟨?_,⟨m',hns',λi y u hy hu=>?_⟩,λb hb=>?_,λy c hc=>I'.loc.live y c (clk y c hc),λy z c h1 h2=>I'.loc.apart y z c (clk y c h1) (clk z c h2),λy c hc q=>?_⟩,λb hb=>?_,hnd,by refine I'.frs _ ?_;rintro e0 l ha hf all;exact(λz_ k_=>k_ e0 l ha hf all)⟩
 ·show relabel scope env=rl scope F.sc
  rw[<- I.scope];rfl
 ·show(some v::u9 Z js).length=(x::t7 scope).length
  have:js.length=(t7 scope).length:=by have:=congrArg List.length hjs;simpa using this
  simp[u9,this]
 ·cases i with
  | zero=>
   simp[A9] at hy hu
   subst hy hu;exact .inl ⟨hkx,λW hW=>by replace hW:=g8 hW;subst hW;exact⟨rv,hmx,hrv⟩⟩
  | succ k=>
   have hy':(t7 scope)[k]?=some y:=by simpa[A9] using hy
   have hu':(u9 Z js)[k]?=some u:=by simpa using hu
   obtain⟨j,hj,hj'⟩:∃ j,js[k]?=some j/\F.vars[j]?=some y:=by
    have h1:(js.map (λj=>F.vars[j]?))[k]?=some (some y):=by rw[hjs,aw,hy'];rfl
    rw[aw] at h1;exact aJ.mp h1
   have hum:u=(Z[j]?).join:=by
    unfold u9 at hu';rw[aw,hj] at hu';exact(Option.some.inj hu').symm
   have hymem:y∈t7 scope:=aI hy';have hlt:j<Z.length:=by rw[I.loc.len];exact(ay.mp hj').1
   have hρj:Z[j]?=some Z[j]:=aa hlt;rcases hvE j y _ hj' hρj with ⟨hkd,_⟩ | ⟨_,c,r,hc,hcl,hval⟩
   ·have:=(hfr y hymem).1
    rw[show env.kindOf y=F.sc.names.lookup y from by unfold Env.kindOf;rw[I.scope],this] at hkd
    cases hkd
   ·obtain⟨c',hc'⟩:=cA.mp (br3 (cells:=env.cells) (x:=y) (names:=scope.names) (acc:=[]) (.inr (by
     refine a9 (ar.mp hymem) λz hz hz'=>?_
     refine c6 (cL.mp hz) λhz1 hz2=>?_
     exact⟨z,hz1,hz',by simpa using hz2⟩)))
    have:c'=c:=by have:=clk y c' hc';rw[hc] at this;exact(Option.some.inj this).symm
    subst this;refine .inr ⟨hky y hymem,c',r,hc',hcl,λW hW=>hval W ?_⟩
    rw[hum,hρj] at hW
    simpa using hW
 ·rcases own_c b hb with rfl | ⟨y,hy⟩
  ·exact hMC
  ·exact I'.loc.free b (.inr ⟨y,hy⟩)
 ·have hyc:=clk y c hc
  refine j8 (I.loc.live y c hyc) λz_ o h0 z_=>?_
  have q':c=C:=q;rw[q',f0C] at h0;exact f5 h0
 ·rcases own_c b hb with rfl | ⟨y,hy⟩
  ·exact I.notBase (f0C)
  ·exact I.base b (.inr ⟨y,hy⟩)
theorem bv4{elt iter:Expr}{x:Str}{px pos:Pos}{ifs:List Expr}{scope:Scope}{js:List Nat}(ok:D3 F scope x js=true){P:List V->Hp->Prop}{L:List V}{K:Hp->Prop}{St:Nat->Heap->Prop}{J:List V->List V->Hp->Prop}(hLs:L.length<=sizeLine)
  (hturn:∀ v l acc M',J (v::l) acc M'->K M'/\C6 g (A9 F scope x) ifs (some v::u9 Z js) M' (λb M2=>(b=true->Ev g (A9 F scope x) elt (some v::u9 Z js) M2 (λy M₃=>J l (acc++[y]) M₃) noX)/\(b=false->J l acc M2)))
  (hend:∀ acc M',J [] acc M'->K M'/\P acc M') {A:Around} {env ce:Env} {s:Shared} {D C It:Addr} {QQ:Except Value Flow->Shared->Prop} (I:Inv g F A env Z M s) (W:IterOK g A It L K St)
  (hItD:D≠It) (hItC:It≠C) (hDC:D≠C) (fI:s.heap.get? It=none) (fD:s.heap.get? D=none) (fC:s.heap.get? C=none) (hce:compEnvC scope (w8 env.cells scope.names []) C env=ce)
  (fin:∀ acc M' s',P acc M'->M' D=none->Inv g F A env Z (upd M' D (.lst acc)) s'->Step (inF A) d9 M (upd M' D (.lst acc)) s s'->(∃ m,s'.heap.Ns C m)->upd M' D (.lst acc) C=none->QQ (.ok .next) s') {n₀:Nat} {sx:Shared} (h₀:aj8 g A L J St D C It M s n₀ sx) :
  codeAny (model g.prog g.w) A (.compLoop (.ListComp elt [⟨.Name x px,iter,ifs,0⟩] scope pos) 0 (.ref It) (.ref D) ce) QQ sx:=by
 refine Z3 (T5 ok) λhcell hkind hloc hx hnd hfr hjs=>?_
 have hkx:ce.kindOf x=some .local:=by
  rw[<- hce];show(relabel scope env).names.lookup x=_;exact lookup_relabel_local hx
 have hsc:(ce.scope.kind==.class||(ce.scope.kind==.module&&ce.locals != ce.globals))=false:=by rw[<- hce];show(scope.kind==.class||(scope.kind==.module&&_))=false;rw[hkind];rfl
 have hcl:ce.locals=C:=by rw[<- hce];rfl
 obtain⟨R,hR⟩:∃ R,R=aj8 g A L J St D C It M s:=⟨_,rfl⟩;have kR:∀ {n s'},aj8 g A L J St D C It M s n s'->R n s':=λh=>hR▸h
 refine codeAny_compLoop_tests R ?_ n₀ (kR h₀);intro n s' hj;rw[hR] at hj;refine hj _ ?_;clear hj;rintro i acc M' m' hn hi hacc' hJ' ck hC' hMC' sm' st';refine(id ck) _ ?_;rintro ys hst' hD' hR' hMI' hMD';refine j8 (W.obj i _ hst') λoI vI hoI hdI=>?_
 by_cases hlt:i<L.length
 ·have hd:L.drop i=L[i]::L.drop (i+1):=cu hlt
  rw[hd] at hJ';refine c6 (hturn _ _ _ _ hJ') λhK hcond=>?_
  refine W.item i L[i] M' s' _ _ (aa hlt) hst' sm' hK λv h' tk hr hst1 hx1=>?_
  have tu1:=Ma4 hoI hdI hx1;have hC1:h'.Ns C m':=hC'.at' λo ho=>hx1 C o (Ne.symm hItC) ho
  refine wpAny_assign_Name (wpAny_storeName_local (env:=ce) hkx (hcl▸hC1) (λh2 hn2 hs2=>?_) hsc)
  rw[hcl] at hn2 hs2;have tu2:=R5 hC1 hs2;have k2:=(ck.on hx1 tu1 hItD hst1).but W hs2.extBut tu2 hItC hDC;have stp2:Step (inF A) d9 M M' s {s' with heap:=h2,toks:=tk+1}:=(st'.but (tk:=tk) hx1 fI).but (tk:=tk+1) hs2.extBut fC
  have IC:=bR8 ok (F:=F) (C:=C) (v:=L[i]) I ((sm'.but hx1 tu1 hMI' (I.notBase fI)).but hs2.extBut tu2 hMC' (I.notBase fC)) stp2 hn2 (if_pos rfl) (hr.mono tu2) hMC' fC;rw[hce] at IC;refine wpAny_mono (hcond A _ _ _ IC) (λokb s3 p3=>?_) λz_ z_ p=>p
  refine p3 _ ?_;clear p3;rintro M3 I3 st3' hb;have k3:=k2.step W st3' (I.notFr fI) (I.notFr fD);cases okb with
  | false=>
   rw[if_neg (by decide)]
   refine a9 I3.loc.ns λm3 hm3 z_=>?_
   exact⟨n-1,by lia,kR (λz_ k_=>k_ (i+1) acc M3 m3 (by lia) (by lia) (by lia) (hb.2 rfl) k3 (hcl▸hm3) (I3.loc.free C (.inl hcl.symm)) I3.sim (stp2.trans st3'))⟩
  | true=>
   rw[if_pos rfl];refine pgo ((hb.1 rfl) A _ s3 I3) (λyv s4 Y M4 ry I4 st4 hJ4=>?_) λz_ z_ p=>p.no
   have k4:=k3.step W st4 (I.notFr fI) (I.notFr fD);refine k4 _ ?_;clear k4;rintro ys hst4 ⟨nD,hD4⟩ hR4 hMI4 hMD4;refine a9 I4.loc.ns λm4 hm4 z_=>?_
   rw[hcl] at hm4;have hys:ys.size<=sizeLine:=by have:=hR4.length;rw[ao] at this;lia
   refine wpAny_list_append_plain (hsz:=hys) ⟨nD,hD4⟩ λh5 hl5 hs5=>?_
   have tu5:k9 s4.heap h5:=λb vs n e=>(hs5.2 b (λq=>by rw[q,hD4] at e;simp at e)).trans e
   refine⟨n-1,by lia,kR (λz_ k_=>k_ (i+1) (acc++[Y]) M4 m4 (by lia) (by lia) (by simp;lia) hJ4 (λz_ k_=>k_ (ys.push yv) (W.frame _ _ _ hst4 (λo ho=>hs5.extBut It o (Ne.symm hItD) ho) tu5) hl5 ?_ hMI4 hMD4) (hm4.at' (λo ho=>hs5.extBut C o (Ne.symm hDC) ho)) (I4.loc.free C (.inl hcl.symm)) (I4.sim.but hs5.extBut tu5 hMD4 (I.notBase fD)) (((stp2.trans st3').trans st4).but (tk:=s4.toks) hs5.extBut fD))⟩
   rw[cN];exact(hR4.mono tu5).append (.cons (ry.mono tu5) .nil)
 ·have hii:i=L.length:=by lia
  rw[hii,List.drop_length] at hJ';refine W.done M' s' _ _ (hii▸hst') sm' (hend _ _ hJ').1 λh' tk hx1=>?_
  have tu1:=Ma4 hoI hdI hx1;have sim1:Sim g M' h':=sm'.but hx1 tu1 hMI' (I.notBase fI);have stp1:Step (inF A) d9 M M' s {s' with heap:=h',toks:=tk}:=st'.but hx1 fI
  refine c5 hD' λnD hDo=>?_
  have simD:Sim g (upd M' D (.lst acc)) h':=⟨sim1.stays,λa o e=>by
   by_cases ha:a=D
   ·subst ha;rw[c9] at e;replace e:=g8 e;subst e
    exact⟨⟨ys,⟨nD,hx1 _ _ hItD hDo⟩,hR'.mono tu1⟩,I.notBase fD⟩
   ·rw[d6 _ _ ha] at e;exact sim1.objs a o e⟩
  have stpD:Step (inF A) d9 M (upd M' D (.lst acc)) s {s' with heap:=h',toks:=tk}:=⟨stp1.same,stp1.dom,stp1.keep,stp1.tups,λb o e hM=>by
   rw[d6 _ _ (λq=>by rw[q,fD] at e;exact f5 e)];exact stp1.new b o e hM⟩
  exact fin acc M' _ (hend _ _ hJ').2 hMD' (I.keep stpD simD) stpD ⟨m',hC'.at' λo ho=>hx1 C o (Ne.symm hItC) ho⟩ (by rw[d6 _ _ (Ne.symm hDC)];exact hMC')
theorem aG4{elt iter:Expr}{x:Str}{px pos pos':Pos}{ifs:List Expr}{scope:Scope}{js:List Nat}(ok:D3 F scope x js=true)(hq:F.q=true)(P:List V->Hp->Prop)
  (h:Itr g F iter Z M (λL K zs=>∃ J:List V->List V->Hp->Prop,L.length<=sizeLine/\J L [] zs/\
   (∀ v l acc M',J (v::l) acc M'->K M'/\C6 g (A9 F scope x) ifs (some v::u9 Z js) M' (λb M2=>(b=true->Ev g (A9 F scope x) elt (some v::u9 Z js) M2 (λy M3=>J l (acc++[y]) M3) noX)/\(b=false->J l acc M2)))/\
   ∀ acc M',J [] acc M'->K M'/\P acc M') X)
  {A:Around} {env:Env} {s:Shared} {E:Value->Shared->Prop} {use:Option (Value->Sem Unit)} {QV:Value->Shared->Prop} (I:Inv g F A env Z M s) (hE:∀ e s',k6 g F A env Z M s X e s'->E e s')
  (fin:∀ D C acc M' s',P acc M'->M' D=none->Inv g F A env Z (upd M' D (.lst acc)) s'->Step (inF A) d9 M (upd M' D (.lst acc)) s s'->(∃ m,s'.heap.Ns C m)->s.heap.get? C=none->upd M' D (.lst acc) C=none->
   compPost (model g.prog g.w) A E use QV (.ref D) C (.ok .next) s') :
  wpAny (model g.prog g.w) A (comprehension (.ListComp elt [⟨.Name x px,iter,ifs,0⟩] scope pos) scope env pos' (newList []) false (eval iter env) use) QV E s:=by
 refine Z3 (T5 ok) λhcell hkind hloc hx hnd hfr hjs=>?_
 have hh:=I.quiet hq;have hsome:=aE5 ok I;refine wpAny_comprehension_free (g:=⟨.Name x px,iter,ifs,0⟩) (gs:=[]) rfl (λv=>h.fold env v) (bX5 hsome) hkind (λy hy e=>(hloc y hy).resolve_left λq=>q e) ?_
 refine wpAny_mono (h.run A env s I hh) (λxv sv qz=>wpAny_mono qz (λit s2 h2=>?_) λe s' p=>hE e s' p) λe s' p=>hE e s' p
 refine h2 _ ?_;clear h2;rintro It L K St zs rfl W hst hItf hMI I2 st2 ⟨J,hLs,hJ,hturn,hend⟩;refine wpAny_newObj_type (wpAny_newFunctionEnv hcell (by intro y hy;simp at hy) (λqz hns1 hsb1=>?_) hkind)
 dsimp only at hns1 hsb1 ⊢
 generalize hH2:s2.heap.push {cls:=.type "list",dict:=none,data:=.seq ([]:List Value).toArray}=H2 at hns1 hsb1 ⊢;have hC:H2.objs.size=s2.heap.objs.size+1:=by rw[<- hH2,dH]
 generalize hDd:s2.heap.objs.size=D at hC ⊢;generalize hCc:H2.objs.size=C at hns1 hsb1 hC ⊢;have hDC:D≠C:=by lia
 have old:∀ b o,s2.heap.get? b=some o->qz.get? b=some o:=λb o e=>by
  have hlt:=aU e;exact hsb1.extBut b o (br (by rw[hC,<- hDd];exact bE hlt)) (an _ (hH2▸an _ e))
 have fresh:∀ a,D<=a->s2.heap.get? a=none:=λa ha=>by
  cases e:s2.heap.get? a with
  | none=>rfl
  | some o'=>exact absurd (aU e) (bg.mpr (by rw[hDd];exact ha))
 have hacc:qz.PlainList D #[]:=⟨0,hsb1.extBut _ _ hDC (an _ (by rw[<- hH2,<- hDd];exact aB _ rfl))⟩
 have st3:Step (inF A) d9 zs zs s2 {s2 with heap:=qz,toks:=s2.toks+([]:List (Str×Value)).length}:=Step.grow old
 have f0:∀ a,D<=a->s.heap.get? a=none:=λa ha=>by
  cases e:s.heap.get? a with
  | none=>rfl
  | some o=>refine a9 (st2.dom _ o e) λo' ho' z_=>?_;rw[fresh a ha] at ho';exact f5 ho'
 have hMfresh:∀ a,D<=a->zs a=none:=λa ha=>by
  cases e:zs a with
  | none=>rfl
  | some o=>
   have:=(I2.sim.objs a o e).1;refine c5 this.has λob e'=>?_
   rw[fresh a ha] at e';exact f5 e'
 have hIt2:∃ o vs,s2.heap.get? It=some o/\o.data=.fields vs:=W.obj 0 _ hst;have hItD:It≠D:=λq=>by refine j8 hIt2 λo z_ e z_=>?_;rw[q,fresh D (aC _)] at e;exact f5 e
 have hItC:It≠C:=λq=>by refine j8 hIt2 λo z_ e z_=>?_;rw[q,fresh C (by lia)] at e;exact f5 e
 have hst1:St 0 qz:=W.frame _ _ _ hst (λo e=>old _ o e) (λb z_ z_ e=>old b _ e)
 have loop:=bv4 (elt:=elt) (iter:=iter) (px:=px) (pos:=pos) ok hLs hturn hend (QQ:=compPost (model g.prog g.w) A E use QV (.ref D) C) I W (Ne.symm hItD) hItC hDC hItf (f0 D (aC _)) (f0 C (by lia)) rfl
  (λacc M' s' p1 p2 p3 p4 p5 p6=>fin D C acc M' s' p1 p2 p3 p4 p5 (f0 C (by lia)) p6) (n₀:=L.length+1) (sx:={s2 with heap:=qz,toks:=s2.toks+([]:List (Str×Value)).length})
  (λz_ k_=>k_ 0 [] zs _ (by lia) (aE _) (aC _) (by simpa using hJ) (λz_ k_=>k_ (#[]) hst1 hacc .nil hMI (hMfresh D (aC _))) hns1 (hMfresh C (by lia)) (I2.sim.grow old) (st2.trans st3))
 exact codeAny_compStart_list loop (W.self 0 _ _ _ hst1 loop)
theorem ax9{Q:V->Hp->Prop}{elt iter:Expr}{x:Str}{px pos:Pos}{ifs:List Expr}{scope:Scope}(js:List Nat)(ok:D3 F scope x js=true)(hq:F.q=true)
  (h:Itr g F iter Z M (λL K zs=>∃ J:List V->List V->Hp->Prop,L.length<=sizeLine/\J L [] zs/\
   (∀ v l acc M',J (v::l) acc M'->K M'/\C6 g (A9 F scope x) ifs (some v::u9 Z js) M' (λb M2=>(b=true->Ev g (A9 F scope x) elt (some v::u9 Z js) M2 (λy M3=>J l (acc++[y]) M3) noX)/\(b=false->J l acc M2)))/\
   ∀ acc M',J [] acc M'->K M'/\∀ a,M' a=none->Q (.ref a) (upd M' a (.lst acc))) X) :
  Ev g F (.ListComp elt [⟨.Name x px,iter,ifs,0⟩] scope pos) Z M Q X:=(λA env s I=>by
 rw[eval_ListComp];refine aG4 ok hq (λacc M'=>∀ a,M' a=none->Q (.ref a) (upd M' a (.lst acc))) h I (λz_ z_ p=>p) λD C acc M' s' hJ hD I' st' hC hC0 hMC=>?_
 refine c5 hC λm hm=>?_
 refine⟨m,hm,λh' hs=>?_⟩
 have tu:=R5 hm hs;exact(λz_ k_=>k_ (.ref D) _ (.ref D) (I'.but (tk:=s'.toks) hs.extBut tu hMC (I.notOwn hC0) (I.notBase hC0) (I.notFr hC0)) (st'.but (tk:=s'.toks) hs.extBut hC0) (hJ D hD)))
theorem aR0{elt:Expr}{gens:List Comprehension}{scope:Scope}{cpos p':Pos}{y:Str}{line:Nat}{env:Env} :
  ∃ b,swapsWith (.ListComp elt gens scope cpos) (some (.Name y p')) line env=pure b:=⟨_,rfl⟩
end
section
variable{g:G}{F:Blk}{Z:List (Option V)}{M:Hp}{Q:V->Hp->Prop}{QB:Bool->Hp->Prop}{X:Str->Hp->Prop}
theorem bE7{x t:Str}{np tp pos:Pos}{e:Expr}{tn:String}(hk:F.sc.names.lookup x=some .globalImplicit)(hg:g.mg x=none)(hb:g.mb x=some (.builtin "isinstance"))
  (hkt:F.sc.names.lookup t=some .globalImplicit) (hgt:g.mg t=none) (hbt:g.mb t=some (.type tn))
  (h:Ev g F e Z M (λv zs=>Op1 g F (λy=>call (.builtin "isinstance") [y,.type tn]) v Z zs Q X) X) (hd:(x==("__debug__" : Str))=false) (hdt:(t==("__debug__" : Str))=false)
  (he:∀ env,starEach [e,.Name t tp] env=(false,eval e env)::starEach [.Name t tp] env):Ev g F (.Call (.Name x np) [e,.Name t tp] [] pos) Z M Q X:=(λA env s I=>by
 refine wpAny_Call_ofName (Calls.Name_function_global I.fn (by show env.scope.names.lookup x=_;rw[I.scope];exact hk) (aX (by rw[I.glob];exact g.ns.keeps I.sim.stays) hg (by rw[I.bltn];exact g.nb.keeps I.sim.stays) hb ?_) hd)
 have hp:(backTo pos (starEach [e,.Name t tp] env)).any (·.1)=false:=by rw[he];rfl
 refine ch hp (v5 hp (wpAny_items_cons (pgo (h A env s I) (λv sv V zs r I1 st1 hQ=>?_) λz_ z_ p=>p) (he env)))
 refine wpAny_items_cons (Calls.Name_function_global I1.fn (by show env.scope.names.lookup t=_;rw[I1.scope];exact hkt) (aX (by rw[I1.glob];exact g.ns.keeps I1.sim.stays) hgt (by rw[I1.bltn];exact g.nb.keeps I1.sim.stays) hbt (wpAny_items_nil ?_)) hdt)
 exact wpAny_mono (hQ A env sv v I1 r) (λz_ z_ p=>p.step st1) λz_ z_ p=>p.step st1)
theorem bF7{l r1 r2:Expr}{o1 o2:CmpOp}{pos:Pos} (h:Ev g F l Z M (λa zs=>Ev g F r1 Z zs (λb M2=>Op2 g F (compareOp o1) a b Z M2 (λc M3=>Tru g F c Z M3 (λt M4=>
   (t=true->Ev g F r2 Z M4 (λd M5=>Op2 g F (compareOp o2) b d Z M5 Q X) X)/\(t=false->Q c M4)) X) X) X) X) (hm:lastMarks [o1,o2] [r1,r2]=false) :
  Ev g F (.Compare l [o1,o2] [r1,r2] pos) Z M Q X:=(λA env s I=>by
 refine PyProof.Rows.Compare_chain (pgo (h A env s I) (λa sv Va zs ra I1 st1 qz=>?_) λz_ z_ p=>p) hm
 refine PyProof.Rows.chain_link (pgo (qz A env sv I1) (λb s2 Vb M2 rb I2 st2 h2=>?_) λz_ z_ p=>p.step st1)
 refine pgo (h2 A env s2 a b I2 (ra.mono st2.tups) rb) (λc s3 Vc M3 rc I3 st3 h3=>?_) λz_ z_ p=>(p.step st2).step st1
 have st13:=(st1.trans st2).trans st3;refine y0 (h3 A env s3 c I3 rc) (λt s4 M4 I4 st4 h4=>?_) λz_ z_ p=>p.step st13
 have st14:=st13.trans st4;cases t with
 | false=>exact(λz_ k_=>k_ Vc M4 (rc.mono st4.tups) I4 st14 (h4.2 rfl))
 | true=>
  refine PyProof.Rows.chain_last (pgo ((h4.1 rfl) A env s4 I4) (λd s5 Vd M5 rd I₅ st5 h5=>?_) λz_ z_ p=>p.step st14)
  have st15:=st14.trans st5;exact wpAny_mono (h5 A env s5 b d I₅ (rb.mono ((st3.tups.trans st4.tups).trans st5.tups)) rd) (λz_ z_ p=>p.step st15) λz_ z_ p=>p.step st15)
theorem aU9{l r1 r2:Expr}{o1 o2:CmpOp}{pos:Pos} (h:Ev g F l Z M (λa zs=>Ev g F r1 Z zs (λb M2=>Op2 g F (compareOp o1) a b Z M2 (λc M3=>Tru g F c Z M3 (λt M4=>
   (t=true->Ev g F r2 Z M4 (λd M5=>Op2 g F (compareOp o2) b d Z M5 (λe M6=>Tru g F e Z M6 QB X) X) X)/\(t=false->QB false M4)) X) X) X) X) (hm:lastMarks [o1,o2] [r1,r2]=false) :
  Tst g F (.Compare l [o1,o2] [r1,r2] pos) Z M QB X:=(λA env s I=>by
 refine PyProof.Rows.isTrue_chain (pgo (h A env s I) (λa sv Va zs ra I1 st1 qz=>?_) λz_ z_ p=>p) hm
 refine PyProof.Rows.test_link (pgo (qz A env sv I1) (λb s2 Vb M2 rb I2 st2 h2=>?_) λz_ z_ p=>p.step st1)
 refine pgo (h2 A env s2 a b I2 (ra.mono st2.tups) rb) (λc s3 Vc M3 rc I3 st3 h3=>?_) λz_ z_ p=>(p.step st2).step st1
 have st13:=(st1.trans st2).trans st3;refine y0 (h3 A env s3 c I3 rc) (λt s4 M4 I4 st4 h4=>?_) λz_ z_ p=>p.step st13
 have st14:=st13.trans st4;cases t with
 | false=>exact(λz_ k_=>k_ M4 I4 st14 (h4.2 rfl))
 | true=>
  refine PyProof.Rows.test_last (pgo ((h4.1 rfl) A env s4 I4) (λd s5 Vd M5 rd I₅ st5 h5=>?_) λz_ z_ p=>p.step st14)
  have st15:=st14.trans st5;refine pgo (h5 A env s5 b d I₅ (rb.mono ((st3.tups.trans st4.tups).trans st5.tups)) rd) (λe s₆ Ve M6 re I₆ st6 h6=>?_) λz_ z_ p=>p.step st15
  exact wpAny_mono (h6 A env s₆ e I₆ re) (λz_ z_ p=>(p.step st6).step st15) λz_ z_ p=>(p.step st6).step st15)
theorem bX8{l:List V}(hfit:(l.length:Int)<2 ^ 63)(h:Q (.int l.length) M):Cl g F (.builtin "len") [.tup l] Z M Q X:=(λA env s vs I r=>by
   refine a9 r.one λz_ q1_ r0=>?_;subst q1_
   refine l5 r0.ofTup λa us n q1_ ht rl=>?_;subst q1_
   have e:((us.size:Nat):Int)=(l.length:Int):=by rw[<- rl.length,ao]
   refine PyProof.Rows.len_tuple ⟨_,ht,rfl,_,rfl⟩ (by rw[e];exact hfit) ?_
   rw[e];exact x7 I h)
theorem bQ6{a:Addr}{l:List V}(hM:M a=some (.lst l))(hfit:(l.length:Int)<2 ^ 63)(h:Q (.int l.length) M):Cl g F (.builtin "len") [.ref a] Z M Q X:=(λA env s vs I r=>by
   refine a9 r.one λz_ q1_ r0=>?_;subst q1_
   obtain rfl:=r0.ofRef;refine a9 ((I.sim.objs a _ hM).1) λus hp rl=>?_
   have e:((us.size:Nat):Int)=(l.length:Int):=by rw[<- rl.length,ao]
   refine gH hp.isList (by rw[e];exact hfit) ?_
   rw[e];exact x7 I h)
theorem ce2{a:Addr}{l:List V}(hM:M a=some (.lst l))(hz:l.length<=sizeLine)(h:Q (.tup l) M):Cl g F (.type "tuple") [.ref a] Z M Q X:=(λA env s vs I r=>by
   refine a9 r.one λz_ q1_ r0=>?_;subst q1_
   obtain rfl:=r0.ofRef;refine a9 ((I.sim.objs a _ hM).1) λus hp rl=>?_
   have e:us.size=l.length:=by rw[<- rl.length,ao]
   refine call_tuple_list hp.isList (λh' hk=>?_) (by rw[e];exact hz)
   have st1:Step (inF A) d9 M M s {s with heap:=h'}:=Step.grow (tk:=s.toks) hk
   have I1:=I.keep st1 (I.sim.grow hk);have p:=X7 (Q:=Q) I1 (rl.mono st1.tups) h;rw[eE] at p;exact p.step st1)
theorem bP4{l:List V}(h:Q (.tup l) M):Cl g F (.type "tuple") [.tup l] Z M Q X:=(λA env s vs I r=>by
   refine a9 r.one λz_ q1_ r0=>?_;subst q1_
   refine l5 r0.ofTup λa us n q1_ ht rl=>?_;subst q1_
   exact call_tuple_same ⟨_,ht,rfl,_,rfl⟩ (A8 I (.tup ht rl) h))
theorem az6{A env s}{h':Heap}{D:Addr}{vs:Array Value}{c tk:Nat}{l:List V}(I:Inv g F A env Z M s)(hk:∀ b o,s.heap.get? b=some o->h'.get? b=some o)(hD:h'.get? D=some {cls:=.type "list",data:=.seq vs c})(hn:s.heap.get? D=none)(r:d3 h' vs.toList l)
  (h:∀ a,M a=none->Q (.ref a) (upd M a (.lst l))):l4 g F A env Z M s Q (.ref D) {s with heap:=h',toks:=tk}:=by
 have st0:Step (inF A) d9 M M s {s with heap:=h',toks:=tk}:=Step.grow hk
 have hMD:M D=none:=by
  cases q:M D with
  | none=>rfl
  | some o=>
   have:=(I.sim.objs _ o q).1;refine c5 this.has λob e=>?_
   rw[hn] at e;exact f5 e
 have st:Step (inF A) d9 M (upd M D (.lst l)) s {s with heap:=h',toks:=tk}:=⟨st0.same,st0.dom,st0.keep,st0.tups,λb o e hM=>by
  rw[d6 _ _ (λq=>by rw[q,hn] at e;exact f5 e)];exact hM⟩
 refine(λz_ k_=>k_ _ _ (.ref _) (I.keep st ⟨(I.sim.grow hk).stays,λa o e=>?_⟩) st (h _ hMD))
 by_cases ha:a=D
 ·subst ha
  rw[c9] at e;replace e:=g8 e;subst e;exact⟨⟨vs,⟨c,hD⟩,r⟩,I.notBase hn⟩
 ·rw[d6 _ _ ha] at e
  exact(I.sim.grow hk).objs a o e
theorem bt4{a:Addr}{l:List V}(hM:M a=some (.lst l))(hz:l.length<=sizeLine)(h:∀ b,M b=none->Q (.ref b) (upd M b (.lst l))):Cl g F (.type "list") [.ref a] Z M Q X:=(λA env s vs I r=>by
   refine a9 r.one λz_ q1_ r0=>?_;subst q1_
   obtain rfl:=r0.ofRef;obtain⟨us,⟨n,hp⟩,rl⟩:=(I.sim.objs a _ hM).1;have e:us.size=l.length:=by rw[<- rl.length,ao]
   refine call_list_seq a (.inl rfl) hp rfl rfl (λh' c' hk hD=>?_) (by rw[e];exact hz)
   exact az6 (tk:=s.toks) I hk hD (v3 _) (rl.mono λb z_ z_ q=>hk b _ q) h)
theorem aW9{l:List V}(hz:l.length<=sizeLine)(h:∀ b,M b=none->Q (.ref b) (upd M b (.lst l))):Cl g F (.type "list") [.tup l] Z M Q X:=(λA env s vs I r=>by
   refine a9 r.one λz_ q1_ r0=>?_;subst q1_
   refine l5 r0.ofTup λa us n q1_ ht rl=>?_;subst q1_
   have e:∀ (us:Array Value),d3 s.heap us.toList l->us.size=l.length:=λus r=>by rw[<- r.length,ao]
   refine call_list_seq _ (.inr rfl) ht rfl rfl (λh' c' hk hD=>?_) (by rw[e _ rl];exact hz)
   exact az6 (tk:=s.toks) I hk hD (v3 _) (rl.mono λb z_ z_ q=>hk b _ q) h)
theorem aQ4{l k:List V}(hz:l.length+k.length<=sizeLine)(h:Q (.tup (l++k)) M):Op2 g F (binaryOp .Add) (.tup l) (.tup k) Z M Q X:=(λA env s x y I rx ry=>by
  refine l5 rx.ofTup λa vs n q1_ ht rl=>?_;subst q1_
  refine l5 ry.ofTup λb us m q1_ hu rk=>?_;subst q1_
  have e1:vs.size=l.length:=by rw[<- rl.length,ao]
  have e2:us.size=k.length:=by rw[<- rk.length,ao]
  by_cases hv:vs.isEmpty=true
  ·refine concat_meets ⟨_,ht,rfl⟩ ⟨_,hu,rfl⟩ noFill_tuple_add seq_tuple_add PySem.F.slot_tuple_add PySem.F.entry_tuple_add (PySem.F.args_tuple_add_2 _ _) (PyProof.Rows.tuple_addW0 _ _ vs us n m none none #[] #[] hv) ⟨ht,hu,?_⟩
   have:l=[]:=by
    have:vs.size=0:=by simpa using hv
    rw[e1] at this;exact cg.mp this
   subst this;exact A8 I (.tup hu rk) h
  ·by_cases hw:us.isEmpty=true
   ·refine concat_meets ⟨_,ht,rfl⟩ ⟨_,hu,rfl⟩ noFill_tuple_add seq_tuple_add PySem.F.slot_tuple_add PySem.F.entry_tuple_add (PySem.F.args_tuple_add_2 _ _) (PyProof.Rows.tuple_addW1 _ _ vs us n m none none #[] #[] hv hw) ⟨ht,hu,?_⟩
    have:k=[]:=by
     have:us.size=0:=by simpa using hw
     rw[e2] at this;exact cg.mp this
    subst this;rw[aS] at h;exact A8 I (.tup ht rl) h
   ·refine concat_meets ⟨_,ht,rfl⟩ ⟨_,hu,rfl⟩ noFill_tuple_add seq_tuple_add PySem.F.slot_tuple_add PySem.F.entry_tuple_add (PySem.F.args_tuple_add_2 _ _) (PyProof.Rows.tuple_addW2 _ _ vs us n m none none #[] #[] hv hw (by lia)) ⟨ht,hu,?_⟩
    have p:=X7 (Q:=Q) (vs:=vs.toList++us.toList) I (rl.append rk) h;have e:(vs.toList++us.toList).toArray=vs++us:=by simp
    rw[e] at p;exact p)
theorem bm7{a b:Addr}{l k:List V}(ha:M a=some (.lst l))(hb:M b=some (.lst k))(hz:l.length+k.length<=sizeLine)(h:∀ c,M c=none->Q (.ref c) (upd M c (.lst (l++k)))):Op2 g F (binaryOp .Add) (.ref a) (.ref b) Z M Q X:=(λA env s x y I rx ry=>by
 obtain rfl:=rx.ofRef;obtain rfl:=ry.ofRef;obtain⟨vs,⟨n,hp⟩,rl⟩:=(I.sim.objs a _ ha).1;obtain⟨us,⟨m,hu⟩,rk⟩:=(I.sim.objs b _ hb).1;have e1:vs.size=l.length:=by rw[<- rl.length,ao]
 have e2:us.size=k.length:=by rw[<- rk.length,ao]
 refine P.add_list hp hu ?_ (by lia)
 have p:=ah3 (Q:=Q) (vs:=vs.toList++us.toList) I (rl.append rk) h;have e:(vs.toList++us.toList).toArray=vs++us:=by simp
 rw[e] at p;exact p)
end
noncomputable def slc{α:Type}(lo hi:Option Int)(l:List α):List α:=(l.drop (lo.elim 0 (clipAt l.length))).take (hi.elim l.length (clipAt l.length)-lo.elim 0 (clipAt l.length))
theorem d3.drop{h:Heap}{vs:List Value}{l:List V}(n:Nat)(r:d3 h vs l):d3 h (vs.drop n) (l.drop n):=by
 induction n generalizing vs l with
 | zero=>exact r
 | succ n ih=>
  cases l with
  | nil=>rw[r.ofNil];exact .nil
  | cons x l=>refine f7 r.ofCons λv us q1_ z_ r2=>?_;subst q1_;exact ih r2
theorem d3.take{h:Heap}{vs:List Value}{l:List V}(n:Nat)(r:d3 h vs l):d3 h (vs.take n) (l.take n):=by
 induction n generalizing vs l with
 | zero=>exact .nil
 | succ n ih=>
  cases l with
  | nil=>rw[r.ofNil];exact .nil
  | cons x l=>refine f7 r.ofCons λv us q1_ r1 r2=>?_;subst q1_;exact .cons r1 (ih r2)
theorem d3.slc{h:Heap}{vs:List Value}{l:List V}(lo hi:Option Int)(r:d3 h vs l):d3 h (slc lo hi vs) (slc lo hi l):=by
 unfold Internal.slc;rw[r.length];exact(r.drop _).take _
inductive OptInt:V->Option Int->Prop
 | none:OptInt .none none
 | int (i:Int):OptInt (.int i) (some i)
theorem OptInt.part{h:Heap}{x:Value}{v:V}{k:Option Int}(o:OptInt v k)(r:Rep h x v):IsPart x k:=by
 cases o with
 | none=>rw[r.ofNone];exact .none
 | int i=>refine c5 r.ofInt λt q1_=>?_;subst q1_;exact .int _ _
section
variable{prog:Program}{w:World}{A:Around}{E:Value->Shared->Prop}{s:Shared}
theorem aw5{x:Value}{k:Option Int}{Q:Option Int->Shared->Prop}(p:IsPart x k)(h:Q k s):wpAny (model prog w) A (Builtin.Slice.slicePartIndex x) Q E s:=by
 cases p with
 | none=>exact eU h
 | int i t=>exact PyProof.Rows.slicePart_int h
theorem bx4(lo hi:Option Int)(n:Nat):Builtin.Slice.sliceAdjust lo hi 1 (n:Int)=(((lo.elim 0 (clipAt n):Nat):Int),((hi.elim n (clipAt n):Nat):Int)):=by
 have key:∀ v:Int,(if v<0 then max (v+n) 0 else min v n)=((clipAt n v:Nat):Int):=λv=>by
  rw[clipAt_cast];by_cases h:v<0
  ·rw[if_pos h,if_pos h,Int.max_comm,fN (by lia)]
  ·rw[if_neg h,if_neg h,dW (Int.le_min.mpr ⟨bM.mp h,aT n⟩)]
 unfold Builtin.Slice.sliceAdjust;have h1:¬ ((1:Int)<0):=by decide
 simp only[h1,if_false]
 cases lo<;>cases hi<;>simp only[fT,key]<;>rfl
theorem bB4(i j:Nat):Builtin.Slice.slicePlaces (i:Int) (j:Int) 1=j-i:=by
 unfold Builtin.Slice.slicePlaces;have h1:(1:Int) > 0:=by decide
 simp only[h1,if_true,Int.ediv_one]
 split<;>lia
theorem bo5{sl:Addr}{lo hi:Option Int}{vl vu:Value}{n:Nat}{Q:Int×Int×Nat->Shared->Prop}(hs:s.heap.IsSliceOf sl vl vu .none)(pl:IsPart vl lo)(pu:IsPart vu hi)
  (h:Q (((lo.elim 0 (clipAt n):Nat):Int),1,(hi.elim n (clipAt n))-(lo.elim 0 (clipAt n))) s):wpAny (model prog w) A (Builtin.Slice.sliceApplied (.ref sl) (pure (n:Int))) Q E s:=by
 refine f9 (id hs) λos hos hcs hds=>?_
 unfold Builtin.Slice.sliceApplied Builtin.Slice.sliceFields;refine wpAny_bind (wpAny_bind (wpAny_field hos hds (x:=vl) rfl (wpAny_bind (wpAny_field hos hds (x:=vu) rfl (wpAny_bind (wpAny_field hos hds (x:=.none) rfl (wpAny_pure ?_)))))));refine wpAny_bind (eU ?_);show wpAny _ _ (if ((1:Int)==0)=true then _ else _) _ _ s
 rw[if_neg (by decide)]
 refine wpAny_bind (aw5 pl (wpAny_bind (aw5 pu (wpAny_bind (wpAny_pure ?_)))));show wpAny _ _ (match Builtin.Slice.sliceAdjust lo hi 1 (n:Int) with | (lo,hi)=>pure (lo,(1:Int),Builtin.Slice.slicePlaces lo hi 1)) _ _ s
 rw[bx4];show wpAny _ _ (pure (((lo.elim 0 (clipAt n):Nat):Int),(1:Int),Builtin.Slice.slicePlaces ((lo.elim 0 (clipAt n):Nat):Int) ((hi.elim n (clipAt n):Nat):Int) 1)) _ _ s;rw[bB4];exact wpAny_pure h
theorem bN2(xs:Array Value)(i k:Nat):((List.range k).filterMap fun(j:Nat)=>xs[((i:Int)+(j:Int)*1).toNat]?).toArray=((xs.toList.drop i).take k).toArray:=by
 have e:(fun(j:Nat)=>xs[((i:Int)+(j:Int)*1).toNat]?)=λj=>xs[i+j]?:=by
  funext j
  have:((i:Int)+(j:Int)*1).toNat=i+j:=by rw[Int.mul_one];rfl
  rw[this]
 rw[e];have:=pick_run xs i k;rw[List.filterMap_map] at this;have e2:((λx=>xs[x]?)∘λx=>i+x)=λk=>xs[i+k]?:=rfl
 rw[e2] at this;rw[this]
theorem bs5{t sl:Addr}{items:Array Value}{lo hi:Option Int}{vl vu:Value}{Q:Value->Shared->Prop}(ht:PyProof.Rows.IsTup s.heap t items)(hs:s.heap.IsSliceOf sl vl vu .none)(pl:IsPart vl lo)(pu:IsPart vu hi)
  (h0:slc lo hi items.toList=items.toList->Q (.ref t) s)
  (h:Q (.ref s.heap.objs.size) {s with heap:=s.heap.push {cls:=.type "tuple",data:=.seq (slc lo hi items.toList).toArray}})
  (hsz:items.size<=sizeLine):wpAny (model prog w) A (getItem (.ref t) (.ref sl)) Q E s:=by
 have hln:items.toList.length=items.size:=ao;have hok:sizeOk (.seq (slc lo hi items.toList).toArray):=by
  show(slc lo hi items.toList).toArray.size<=sizeLine;rw[cC];exact ae (eF _ _) (ae (by rw[bX];exact cj _ _) (hln▸hsz))
 refine f9 (id hs) λos hos hcs hds=>?_
 have hTs:s.TypeIs (.ref sl) "slice":=⟨os,hos,hcs⟩;unfold getItem
 try with_reducible refine wpAny_holding ?_
 first | refine wpAny_bind (wpAny_pure ?_) | skip
 refine wpAny_bind (wpAny_sequenceKey ht.typeIs (by decide) ?_)
 refine wpAny_bind (wpAny_callSpecial?_slot (name:=Str.ofString "__getitem__") ht.typeIs eC
  (wpAny_call_entry eC ht.typeIs PyProof.Rows.entry_tuple_getitem ?_ (PyProof.Rows.args_tuple_getitem _ _)))
 show wpAny _ _ (Builtin.Tuple.tupleItemsOf (.ref t) >>= _) _ _ s;refine wpAny_bind (PyProof.Rows.tupleItemsOf_ ht ?_);refine wpAny_bind (wpAny_typeOf hTs ?_);rw[if_pos (by decide)]
 refine wpAny_bind (bo5 hs pl pu ?_);generalize hi':lo.elim 0 (clipAt items.size)=i at *;generalize hj':hi.elim items.size (clipAt items.size)=j at *;have hslc:slc lo hi items.toList=(items.toList.drop i).take (j-i):=by
  unfold slc;rw[hln,hi',hj']
 by_cases hc:((i:Int)==0&&(1:Int)==1&&(j-i)==items.size)=true
 ·show wpAny _ _ (if ((i:Int)==0&&(1:Int)==1&&(j-i)==items.size)=true then _ else _) _ _ s
  rw[if_pos hc];have hi0:i=0:=by simp at hc;lia
  have hj0:j-i=items.size:=by simp at hc;lia
  have he:slc lo hi items.toList=items.toList:=by
   rw[hslc,hi0,gg,hi0] at *;rw[hj0,<- hln,List.take_length]
  refine wpAny_bind (m:=Builtin.Tuple.tupleIsExact _) ?_;unfold Builtin.Tuple.tupleIsExact;refine wpAny_bind (wpAny_typeOf ht.typeIs (wpAny_pure ?_));rw[if_pos (by decide)]
  exact wpAny_bind (wpAny_rule (wpAny_bind (wpAny_pure (wpAny_pure ⟨_,rfl,wpAny_pure (h0 he)⟩))))
 ·show wpAny _ _ (if ((i:Int)==0&&(1:Int)==1&&(j-i)==items.size)=true then _ else _) _ _ s
  rw[if_neg hc,bN2 items i (j-i)];rw[hslc] at h hok;first
   | exact wpAny_bind (m:=Builtin.Tuple.tupleExact _) (wpAny_newObj_type (wpAny_pure ⟨_,rfl,wpAny_pure h⟩) hok)
   | exact wpAny_bind (m:=Builtin.Tuple.tupleExact _) (wpAny_newObj_type (wpAny_bind (wpAny_pure (wpAny_pure ⟨_,rfl,wpAny_pure h⟩))) hok)
   | exact wpAny_bind (wpAny_bind (m:=Builtin.Tuple.tupleExact _) (wpAny_newObj_type (wpAny_pure (wpAny_pure ⟨_,rfl,wpAny_pure h⟩)) hok))
   | exact wpAny_bind (wpAny_bind (m:=Builtin.Tuple.tupleExact _) (wpAny_newObj_type (wpAny_pure ⟨_,rfl,wpAny_pure h⟩) hok))
end
def EvO(g:G)(F:Blk)(e:Option Expr)(Z:List (Option V))(M:Hp)(Q:V->Hp->Prop)(X:Str->Hp->Prop):Prop:=
 ∀ A env s,Inv g F A env Z M s->wpAny (model g.prog g.w) A (evalPart e env) (l4 g F A env Z M s Q) (k6 g F A env Z M s X) s
def Slc(g:G)(F:Blk)(a:V)(lo hi:Option Int)(Z:List (Option V))(M:Hp)(Q:V->Hp->Prop)(X:Str->Hp->Prop):Prop:=
 ∀ A env s x sl vl vu,Inv g F A env Z M s->Rep s.heap x a->s.heap.IsSliceOf sl vl vu .none->IsPart vl lo->IsPart vu hi->∃ T id,s.TypeIs x T/\typeLookup (.type T) "__getitem__" = pure (some (.builtin id))/\
  wpAny (model g.prog g.w) A (getItem x (.ref sl)) (l4 g F A env Z M s Q) (k6 g F A env Z M s X) s
section
variable{g:G}{F:Blk}{Z:List (Option V)}{M:Hp}{Q:V->Hp->Prop}{QB:Bool->Hp->Prop}{X:Str->Hp->Prop}
theorem bt5(h:Q .none M):EvO g F none Z M Q X:=(λA env s I=>wpAny_evalPart_none (A8 I .none h))
theorem bM0{e:Expr}(h:Ev g F e Z M Q X):EvO g F (some e) Z M Q X:=(λA env s I=>wpAny_evalPart_some (h A env s I))
theorem bo8{value:Expr}{lo hi:Option Expr}{p pos:Pos}(h:Ev g F value Z M (λa zs=>EvO g F lo Z zs (λl M2=>EvO g F hi Z M2 (λu M3=>∃ kl ku,OptInt l kl/\OptInt u ku/\Slc g F a kl ku Z M3 Q X) X) X) X) :
  Ev g F (.Subscript value (.Slice lo hi none p) pos) Z M Q X:=(λA env s I=>by
 refine PyProof.Rows.Subscript_ (pgo (h A env s I) (λa sv Va zs ra I1 st1 qz=>?_) λz_ z_ p=>p)
 refine wpAny_Slice (pgo (qz A env sv I1) (λl s2 Vl M2 rl I2 st2 h2=>?_) λz_ z_ p=>p.step st1)
 have st12:=st1.trans st2;refine pgo (h2 A env s2 I2) (λu s3 Vu M3 ru I3 st3 hpq=>?_) λz_ z_ p=>p.step st12
 refine f7 hpq λkl ku ol ou h3=>?_
 have st13:=st12.trans st3;refine wpAny_evalPart_none ?_;have stp:Step (inF A) d9 M3 M3 s3 {s3 with heap:=s3.heap.push {cls:=.type "slice",data:=.fields #[l,u,.none]}}:=Step.push
 have I4:=I3.keep stp I3.sim.push;refine f7 (h3 A env _ a s3.heap.objs.size l u I4 (ra.mono ((st2.tups.trans st3.tups).trans stp.tups)) (Heap.IsSliceOf.new ..) (ol.part (rl.mono st3.tups)) (ou.part ru)) λT id hT hl hw=>?_
 have st14:=st13.trans stp;exact gc hT hl (wpAny_mono hw (λz_ z_ p=>p.step st14) λz_ z_ p=>p.step st14) rfl)
theorem bH1{l:List V}{lo hi:Option Int}(hz:l.length<=sizeLine)(h:Q (.tup (slc lo hi l)) M):Slc g F (.tup l) lo hi Z M Q X:=(λA env s x sl vl vu I r hs pl pu=>by
  refine l5 r.ofTup λa us n q1_ ht rl=>?_;subst q1_
  have e:us.size=l.length:=by rw[<- rl.length,ao]
  refine⟨"tuple",_,⟨_,ht,rfl⟩,PySem.F.slot_tuple_getitem.lookup,bs5 ⟨_,ht,rfl,_,rfl⟩ hs pl pu (λe0=>?_) (X7 I (rl.slc lo hi) h) (by lia)⟩
  have r2:=rl.slc lo hi;rw[e0] at r2;exact A8 I (.tup ht r2) h)
theorem bD3{a:Addr}{l:List V}{lo hi:Option Int}(hM:M a=some (.lst l))(hz:l.length<=sizeLine)(h:∀ b,M b=none->Q (.ref b) (upd M b (.lst (slc lo hi l)))):Slc g F (.ref a) lo hi Z M Q X:=(λA env s x sl vl vu I r hs pl pu=>by
 obtain rfl:=r.ofRef;refine a9 ((I.sim.objs a _ hM).1) λus hp rl=>?_
 have e:us.size=l.length:=by rw[<- rl.length,ao]
 refine⟨"list",_,hp.isList.typeIs,slot_list_getitem.lookup,wpAny_getItem_list_slice hp.isList hs pl pu .none (by simp) ?_ (by lia)⟩
 have p:=ah3 (Q:=Q) I (rl.slc lo hi) h;have e2:slicePick us lo hi none=(slc lo hi us.toList).toArray:=by
  rw[slicePick_plain];unfold slc;rw[ao]
 rw[e2];exact p)
theorem ak4{A env s}{a:Addr}{o o':AObj}{h':Heap}{tk:Nat}{fr own:Addr->Prop}(I:Inv g F A env Z M s)(hM:M a=some o)(r:u1 g h' a o')(hs:Heap.SameBut a s.heap h')(tu:k9 s.heap h')(hk:∀ ob,s.heap.get? a=some ob->IsD ob->∃ ob',h'.get? a=some ob'/\IsD ob') :
  Inv g F A env Z (upd M a o') {s with heap:=h',toks:=tk}/\Step fr own M (upd M a o') s {s with heap:=h',toks:=tk}:=by
 have ne:∀ b,M b=none->b≠a:=λb hb q=>by rw[q,hM] at hb;exact z9 hb
 have hb0:=(I.sim.objs a _ hM).2;refine c5 r.has λob' ho'=>?_
 have st:∀ fr' own':Addr->Prop,Step fr' own' M (upd M a o') s {s with heap:=h',toks:=tk}:=λfr' own'=>⟨⟨rfl,rfl⟩,λb o e=>by
   by_cases q:b=a
   ·subst q
    refine⟨ob',ho',λd=>?_⟩
    refine a9 (hk o e d) λo2 e2 d2=>?_
    rw[ho'] at e2;replace e2:=g8 e2;subst e2;exact d2
   ·exact⟨o,(hs.2 b q).trans e,id⟩,λb o e hMb z_=>⟨o,(hs.2 b (ne b hMb)).trans e,.inl rfl⟩,tu,λb o e hMb=>by rw[d6 _ _ (ne b hMb)];exact hMb⟩
 refine⟨I.keep (st _ d9) ⟨λb o e=>(hs.2 b (λq=>by rw[q,hb0] at e;exact f5 e)).trans (I.sim.stays b o e),λb o e=>?_⟩,st fr own⟩
 by_cases q:b=a
 ·subst q
  rw[c9] at e;exact Option.some.inj e▸⟨r,hb0⟩
 ·rw[d6 _ _ q] at e
  exact⟨(I.sim.objs b o e).1.keep tu λob hob=>(hs.2 b q).trans hob,(I.sim.objs b o e).2⟩
theorem V5{h h':Heap}{a:Addr}{vs:Array Value}(hs:Heap.SameBut a h h')(hl:h.PlainList a vs):k9 h h':=λb ws n e=>by
 refine c5 hl λm ho=>?_
 exact(hs.2 b (λq=>by rw[q,ho] at e;simp at e)).trans e
theorem ag2{A env s}{a:Addr}{l:List V}{us:Array Value}{h':Heap}{tk:Nat}{fr own:Addr->Prop}(I:Inv g F A env Z M s)(hM:∃ o,M a=some o)(hp:h'.PlainList a us)(rl:d3 h' us.toList l)(hs:Heap.SameBut a s.heap h')(hlist:∃ vs,s.heap.PlainList a vs) :
  Inv g F A env Z (upd M a (.lst l)) {s with heap:=h',toks:=tk}/\Step fr own M (upd M a (.lst l)) s {s with heap:=h',toks:=tk}:=by
 refine c5 hM λo0 ho0=>?_
 refine c5 hlist λvs hvs=>?_
 exact ak4 I ho0 ⟨us,hp,rl⟩ hs (V5 hs hvs) λob e d=>by
  refine c5 hvs λn e'=>?_
  refine p8 d λes ep d=>?_
  rw[e'] at e;replace e:=g8 e;subst e;cases d
theorem d3.set{h:Heap}{vs:List Value}{l:List V}(i:Nat){v:Value}{x:V}(r:d3 h vs l)(q:Rep h v x):d3 h (vs.set i v) (l.set i x):=by
 induction l generalizing vs i with
 | nil=>rw[r.ofNil];exact .nil
 | cons y l ih=>
  refine f7 r.ofCons λu us q1_ r1 r2=>?_;subst q1_
  cases i with
  | zero=>exact .cons q r2
  | succ i=>exact .cons r1 (ih i r2)
theorem bx1{prog:Program}{w:World}{A:Around}{E:Value->Shared->Prop}{s:Shared}{l:Addr}{items:Array Value}{n:Nat}{k:Int}{t:Tok}{v:Value}{QU:Unit->Shared->Prop}(ho:s.heap.get? l=some {cls:=.type "list",data:=.seq items n})
  (h0:0<=k) (hfit:k<2 ^ 63) (hn:k<items.size) (hQ:QU () {s with heap:=s.heap.update l (bh (·.setIfInBounds k.toNat v))}) :
  wpAny (model prog w) A (setItem (.ref l) (.int k t) v) QU E s:=by
 have hl:s.heap.IsList l items:=⟨_,ho,rfl,n,rfl⟩;unfold setItem
 try with_reducible refine wpAny_holding ?_
 first | refine wpAny_bind (wpAny_pure ?_) | skip
 refine wpAny_bind (wpAny_sequenceKey hl.typeIs (by decide) ?_)
 refine wpAny_bind (wpAny_callSpecial?_slot (name:=Str.ofString "__setitem__") hl.typeIs slot_list_setitem
  (wpAny_call_entry slot_list_setitem hl.typeIs entry_list_setitem ?_ (args_list_setitem _ _ _)))
 show wpAny _ _ (Builtin.List.listSubscript? (.int k t) >>= _) _ _ s;refine wpAny_bind (wpAny_listSubscript_int (fitsIndex_of h0 hfit) ?_);clear hfit;refine c5 (bv h0) λj q1_=>?_;subst q1_
 have hj:j<items.size:=by lia
 have hx':items[j]?=some items[j]:=aG hj;show wpAny _ _ ((seqItemAt l j >>= λr=>pure (r.map (j,·))) >>= _) _ _ s
 refine wpAny_bind (wpAny_bind (wpAny_seqItemAt ho rfl (wpAny_pure ?_)));rw[hx'];show wpAny _ _ (setSeqItemAt l j v >>= _) _ _ s;refine wpAny_bind (wpAny_setSeqItemAt ho rfl ?_);first
  | exact wpAny_bind (wpAny_pure (wpAny_pure ⟨.none,rfl,wpAny_pure hQ⟩))
  | exact wpAny_pure ⟨.none,rfl,wpAny_pure hQ⟩
def StI(g:G)(F:Blk)(a k v:V)(Z:List (Option V))(M:Hp)(K:Hp->Prop):Prop:=
 ∀ A env s x y z (E:Value->Shared->Prop),Inv g F A env Z M s->Rep s.heap x a->Rep s.heap y k->Rep s.heap z v->wpAny (model g.prog g.w) A (setItem x y z) (λz_ s'=>∃ M',Inv g F A env Z M' s'/\Step (inF A) (j6 env) M M' s s'/\K M') E s
theorem aW3{QS:d4}{XS:g7}{o i value:Expr}{p' pos:Pos}(h:Ev g F value Z M (λv zs=>Ev g F o Z zs (λa M2=>Ev g F i Z M2 (λk M3=>StI g F a k v Z M3 (λM=>QS .next Z M)) (λx zs=>XS x Z zs)) (λx zs=>XS x Z zs)) (λx zs=>XS x Z zs))
  (hs:∀ env,swapsWith value (some (.Subscript o i p')) pos.line env=pure false):Ex g F (.Assign [.Subscript o i p'] value pos) Z M QS XS:=(λA env s I=>by
 refine wpAny_Assign_Subscript (pgo (h A env s I) (λv sv Vv zs rv I1 st1 qz=>?_) λz_ z_ p=>p.toS) (hs env)
 refine pgo (qz A env sv I1) (λa s2 Va M2 ra I2 st2 h2=>?_) λz_ z_ p=>(p.step st1).toS
 have st12:=st1.trans st2;refine pgo (h2 A env s2 I2) (λk s3 Vk M3 rk I3 st3 h3=>?_) λz_ z_ p=>(p.step st12).toS
 refine wpAny_mono (h3 A env s3 a k v _ I3 (ra.mono st3.tups) rk (rv.mono (st2.tups.trans st3.tups))) (λz_ s' p=>?_) λz_ z_ p=>p
 refine f9 p λM' I' st' q=>?_
 exact(λz_ k_=>k_ .next Z M' .next I' (((st12.trans st3).mono λz_ h=>h.elim).trans st') q))
theorem bm0{b:Addr}{l:List V}{n:Int}{v:V}{K:Hp->Prop}(hM:M b=some (.lst l))(h0:0<=n)(hn:n<l.length)(hf:(l.length:Int)<2 ^ 63)(hQ:K (upd M b (.lst (l.set n.toNat v)))):StI g F (.ref b) (.int n) v Z M K:=(λA env s x y z E I rx ry rz=>by
 obtain rfl:=rx.ofRef;refine c5 ry.ofInt λz_ q1_=>?_;subst q1_
 refine a9 ((I.sim.objs b _ hM).1) λus hp rl=>?_
 have e:us.size=l.length:=by rw[<- rl.length,ao]
 refine c5 (id hp) λc hc=>?_
 refine bx1 hc h0 (Int.lt_trans hn hf) (by rw[e];exact hn) ?_
 have hs':Heap.SameBut b s.heap (s.heap.update b (bh (·.setIfInBounds n.toNat z))):=Heap.SameBut.update ..
 generalize hh':s.heap.update b (bh (·.setIfInBounds n.toNat z))=h' at hs' ⊢
 have hp':h'.PlainList b (us.setIfInBounds n.toNat z):=⟨_,by rw[<- hh'];exact co _ hc rfl⟩
 have tu:=V5 hs' hp;obtain⟨I4,st4⟩:=ag2 (own:=j6 env) (tk:=s.toks) (l:=l.set n.toNat v) I ⟨_,hM⟩ hp' (by rw[fc];exact(rl.mono tu).set _ (rz.mono tu)) hs' ⟨us,hp⟩
 exact⟨_,I4,st4,hQ⟩)
theorem aM3{o:Expr}{name:Str}{apos pos:Pos}{args:List Expr}{id:String}(slot:Slot "list" name id)(hty:typeOf (.builtin id)=pure (.type "method_descriptor"))
  (h:Ev g F o Z M (λv zs=>∃ a l,v=.ref a/\zs a=some (.lst l)/\Evs g F args Z zs (λvs M2=>Cl g F (.builtin id) (.ref a::vs) Z M2 Q X) X) X)
  (hline:(apos.endLine==pos.line)=true) (hbase:∀ env,attributeBase o name env (eval o env)=eval o env)
  (hfew:∀ env,((backTo pos (starEach args env)).all (λx=>!x.1)&&(backToKw pos (keywordEach [] env)).all (λx=>x.1.isSome)
   && decide (args.length+([]:List Keyword).length+(if ([]:List Keyword).isEmpty then 0 else 1)<30))=true) :
  Ev g F (.Call (.Attribute o name apos) args [] pos) Z M Q X:=(λA env s I=>by
 refine wpAny_Call_method (hbase env) (hfew env) hline PySem.F.plainAttrs_list slot hty (pgo (h A env s I) (λov sv V zs r I1 st1 hpq=>?_) λz_ z_ p=>p)
 refine f7 hpq λa l hv hM qz=>?_
 subst hv;obtain rfl:=r.ofRef;obtain⟨us,⟨n,hp⟩,rl⟩:=(I1.sim.objs a _ hM).1;refine⟨⟨_,hp,rfl⟩,λb e=>by cases e;exact⟨_,hp,rfl⟩,?_⟩
 refine c6 (qz A env sv pos I1) λhw hpl=>?_
 refine ch hpl (v5 hpl (Ma3 hw (λvs s2 Vs M2 rs I2 st2 q=>?_) λz_ z_ p=>p.step st1))
 have st12:=st1.trans st2;exact wpAny_mono (q A env s2 (.ref a::vs) I2 (.cons (.ref a) rs)) (λz_ z_ p=>p.step st12) λz_ z_ p=>p.step st12)
theorem bm4{a:Addr}{l:List V}{v:V}(hM:M a=some (.lst l))(hz:l.length<=sizeLine)(h:Q .none (upd M a (.lst (l++[v])))):Cl g F (.builtin "list.append") [.ref a,v] Z M Q X:=(λA env s vs I r=>by
  refine f7 r.two λz_ z_ q1_ r0 r'=>?_;subst q1_
  obtain rfl:=r0.ofRef;refine a9 ((I.sim.objs a _ hM).1) λus hp rl=>?_
  have e:us.size=l.length:=by rw[<- rl.length,ao]
  refine c5 (id hp) λc hc=>?_
  refine wpAny_list_append_plain (hsz:=by lia) hp λh' hl' hs'=>?_
  have tu:=V5 hs' hp;obtain⟨I4,st4⟩:=ag2 (own:=d9) (tk:=s.toks) (l:=l++[v]) I ⟨_,hM⟩ hl' (by rw[cN];exact(rl.mono tu).append (.cons (r'.mono tu) .nil)) hs' ⟨us,hp⟩
  exact(λz_ k_=>k_ .none _ .none I4 st4 h))
theorem bT8{QS:d4}{XS:g7}{e:Expr}{pos:Pos}(h:Ev g F e Z M (λz_ zs=>QS .next Z zs) (λx zs=>XS x Z zs))(hs:∀ env,swapsWith e none pos.line env=pure false):Ex g F (.Expr e pos) Z M QS XS:=(λA env s I=>
 wpAny_Expr_any (pgo (h A env s I) (λv sv V zs r I1 st1 q=>(λz_ k_=>k_ .next Z zs .next I1 (st1.mono λz_ h=>h.elim) q)) λz_ z_ p=>p.toS)
  (by unfold interactive;rw[I.fn];rfl) (hs env))
theorem d3.bools{h:Heap}{vs:List Value}{bs:List Bool}(r:d3 h vs (bs.map .bool)):vs=bs.map .bool:=by
 induction bs generalizing vs with
 | nil=>exact r.ofNil
 | cons b bs ih=>refine f7 r.ofCons λv us q1_ r1 r2=>?_;subst q1_;rw[r1.ofBool,ih r2];rfl
theorem bE5{a:Addr}{bs:List Bool}(hq:F.q=true)(hM:M a=some (.lst (bs.map .bool)))(h:Q (.bool (bs.all id)) M):Cl g F (.builtin "all") [.ref a] Z M Q X:=(λA env s vs I r=>by
  refine a9 r.one λz_ q1_ r0=>?_;subst q1_
  obtain rfl:=r0.ofRef;refine a9 ((I.sim.objs a _ hM).1) λus hp rl=>?_
  have hus:=rl.bools;have hsz:us.size=bs.length:=by rw[<- ao,hus,ac]
  have hfr:s.heap.get? s.heap.objs.size=none:=v3 _;refine call_all_walk (wpAny_pyIter_list hp.isList ?_);have hne:a≠s.heap.objs.size:=λq=>by refine c5 hp λc hc=>?_;rw[q,hfr] at hc;exact f5 hc
  refine⟨_,_,_,_,_,_,λi=>bs.getD i true,rfl,Walks.list (A:=A.in1) (I.quiet hq) s.heap.objs.size a hne us,⟨⟨_,aB _ rfl,rfl,rfl⟩,hp.isList.push _⟩,λi v s' QB' E' hP hQ'=>?_,λh' tk hk=>?_⟩
  ·dsimp only at hP hQ'
   have:us.toList[i]?=some v:=by rw[aD];exact hP
   rw[hus,aw] at this;refine a9 (aJ.mp this) λb hb q1_=>?_;subst q1_
   refine wpAny_truthy_bool ?_;have e:bs.getD i true=b:=by rw[aF,hb];rfl
   rw[e] at hQ';exact hQ'
  ·have hk':∀ b o,s.heap.get? b=some o->h'.get? b=some o:=λb o e=>hk b o (λq=>by simp at q;rw[q,hfr] at e;exact f5 e) (an _ e)
   have e:(List.range us.size).all (λi=>bs.getD i true)=bs.all id:=by
    rw[hsz,dw,aW,aW];constructor
    ·intro hall b hb
     obtain⟨i,hi,rfl⟩:=dt hb;have:=hall i (cb.mpr hi);rw[aF,aa hi] at this;exact this
    ·intro hall i hi
     have hi':=cb.mp hi;rw[aF,aa hi'];exact hall _ (bL hi')
   rw[e];have st:Step (inF A) d9 M M s {s with heap:=h',toks:=tk}:=Step.grow hk'
   exact(λz_ k_=>k_ (.bool _) M (.bool _) (I.keep st (I.sim.grow hk')) st h))
end
noncomputable def Scr(g:G)(a:Addr)(ns:List Int):Prop:=∃ vs:Array Value,g.h₀.IsList a vs/\∀ h,d3 h vs.toList (ns.map .int)
section
variable{g:G}{F:Blk}{Z:List (Option V)}{M:Hp}{Q:V->Hp->Prop}{QB:Bool->Hp->Prop}{X:Str->Hp->Prop}
theorem aY9{a:Addr}{ns:List Int}(hs:Scr g a ns)(hfit:(ns.length:Int)<2 ^ 63)(h:Q (.int ns.length) M):Cl g F (.builtin "len") [.ref a] Z M Q X:=(λA env s vs I r=>by
   refine a9 hs λus hl rl=>?_
   refine a9 r.one λz_ q1_ r0=>?_;subst q1_
   obtain rfl:=r0.ofRef;have hl':s.heap.IsList a us:=by refine a9 hl λo ho q=>?_;exact⟨o,I.sim.stays _ _ ho,q⟩
   have e:((us.size:Nat):Int)=(ns.length:Int):=by have:=(rl s.heap).length;rw[ao,ac] at this;lia
   refine gH hl' (by rw[e];exact hfit) ?_
   rw[e];exact x7 I h)
theorem au3{a:Addr}{ns:List Int}{k x:Int}(hs:Scr g a ns)(h0:0<=k)(hhi:k<2 ^ 63)(hx:ns[k.toNat]?=some x)(h:Q (.int x) M):Itm g F (.ref a) (.int k) Z M Q X:=(λA env s v y I rx ry=>by
 refine a9 hs λus hl rl=>?_
 obtain rfl:=rx.ofRef;refine c5 ry.ofInt λz_ q1_=>?_;subst q1_
 have hl':s.heap.IsList a us:=by refine a9 hl λo ho q=>?_;exact⟨o,I.sim.stays _ _ ho,q⟩
 obtain⟨w,hw,rw'⟩:=(rl s.heap).get (i:=k.toNat) (x:=.int x) (by rw[aw,hx];rfl)
 exact⟨"list",_,hl'.typeIs,slot_list_getitem.lookup,wpAny_getItem_list hl' h0 hhi (x:=w) (by rw[<- aD];exact hw) (A8 I rw' h)⟩)
structure AsgL(g:G)(F:Blk)(es:List Expr)(l:List V)(Z:List (Option V))(M:Hp)(Q:List (Option V)->Prop):Prop where
 run:∀ A env s xs (QU:Unit->Shared->Prop) (E:Value->Shared->Prop),Inv g F A env Z M s->d3 s.heap xs l->
  (∀ s' Z',Inv g F A env Z' M s'->Step (inF A) (j6 env) M M s s'->Q Z'->QU () s')->wpAny (model g.prog g.w) A (assignInOrder ((assignEach es env).map (·.2)) xs) QU E s
 len:∀ env,(assignEach es env).length=l.length
 star:∀ env,(assignEach es env).findIdx? (·.1)=none
theorem bw8{P:List (Option V)->Prop}(h:P Z):AsgL g F [] [] Z M P:=⟨λA env s xs QU E I r k=>wpAny_pure (k s Z I Step.refl h),λz_=>rfl,λz_=>rfl⟩
theorem cc3{x:Str}{p:Pos}{es:List Expr}{v:V}{l:List V}{i:Nat}{w:Option V}{P:List (Option V)->Prop}(hx:F.vars[i]?=some x)(hw:Z[i]?=some w)(h:AsgL g F es l (Z.set i (some v)) M P):AsgL g F (.Name x p::es) (v::l) Z M P:=
 ⟨λA env s xs QU E I r k=>by
   refine f7 r.ofCons λz_ z_ q1_ r0 rs=>?_;subst q1_
   show wpAny _ A (do holding _ (assign (.Name x p) env _);assignInOrder ((assignEach es env).map (·.2)) _) QU E s
   refine wpAny_bind (wpAny_holding (wpAny_assign_Name (I7 I hx hw r0 λs' I' st=>?_)))
   exact h.run A env s' _ QU E I' (rs.mono st.tups) λs'' Z'' I'' st'' hP=>k s'' Z'' I'' (st.trans st'') hP,λenv=>by
  show((false,assign (.Name x p) env)::assignEach es env).length=_;rw[aN,h.len env,aN],λenv=>by
  show((false,assign (.Name x p) env)::assignEach es env).findIdx? _=none;rw[eV,h.star env];rfl⟩
theorem ad3{es:List Expr}{k:Nat}{p:Pos}{l:List V}{P:List (Option V)->Prop}(h:AsgL g F es l Z M P):Asg g F (.Tuple es k p) (.tup l) Z M P:=
 ⟨λA env s x QU E I hh r kk=>by
   refine l5 r.ofTup λa us n q1_ ht rl=>?_;subst q1_
   have e:us.size=l.length:=by rw[<- rl.length,ao]
   refine wpAny_assign_Tuple hh ⟨_,ht,rfl,_,rfl⟩ (by rw[h.len env,e]) (h.star env) λh' hx=>?_
   have st:∀ own,Step (inF A) own M M s {s with heap:=h'}:=λown=>Step.grow (tk:=s.toks) λb o e=>hx b o (br (aU e)) e
   have hk:∀ b o,s.heap.get? b=some o->h'.get? b=some o:=λb o e=>hx b o (br (aU e)) e
   refine h.run A env _ _ QU E (I.keep (st d9) (I.sim.grow hk)) (rl.mono (st d9).tups) λs'' Z'' I'' st'' hP=>kk s'' Z'' I'' ((st _).trans st'') hP,.inr ⟨es,k,p,rfl⟩⟩
end
section
variable{g:G}{sc:Scope}{vs:List Str}{d:Nat}{q:Bool}{Z:List (Option V)}{M:Hp}{Q:V->Hp->Prop}{QB:Bool->Hp->Prop}{X:Str->Hp->Prop}
noncomputable def Bi(g:G)(x:Str)(v:Value):Prop:=g.mg x=none/\g.mb x=some v
theorem u_b{x:Str}{np pos:Pos}{args:List Expr}{id:String}(hb:Bi g x (.builtin id))(hk:sc.names.lookup x=some .globalImplicit)
  (h:Evs g ⟨sc,vs,d,q⟩ args Z M (λus zs=>Cl g ⟨sc,vs,d,q⟩ (.builtin id) us Z zs Q X) X) (hd:(x==("__debug__" : Str))=false):Ev g ⟨sc,vs,d,q⟩ (.Call (.Name x np) args [] pos) Z M Q X:=bK4 hk hb.1 hb.2 h hd
theorem u_t{x:Str}{np pos:Pos}{args:List Expr}{id:String}(hb:Bi g x (.type id))(hk:sc.names.lookup x=some .globalImplicit)
  (h:Evs g ⟨sc,vs,d,q⟩ args Z M (λus zs=>Cl g ⟨sc,vs,d,q⟩ (.type id) us Z zs Q X) X) (hd:(x==("__debug__" : Str))=false):Ev g ⟨sc,vs,d,q⟩ (.Call (.Name x np) args [] pos) Z M Q X:=bl9 hk hb.1 hb.2 h hd
theorem bA6{x t:Str}{np tp pos:Pos}{e:Expr}{tn:String}(hb:Bi g x (.builtin "isinstance"))(hbt:Bi g t (.type tn))(hk:sc.names.lookup x=some .globalImplicit)(hkt:sc.names.lookup t=some .globalImplicit)
  (h:Ev g ⟨sc,vs,d,q⟩ e Z M (λv zs=>Op1 g ⟨sc,vs,d,q⟩ (λy=>call (.builtin "isinstance") [y,.type tn]) v Z zs Q X) X) (hd:(x==("__debug__" : Str))=false) (hdt:(t==("__debug__" : Str))=false)
  (he:∀ env,starEach [e,.Name t tp] env=(false,eval e env)::starEach [.Name t tp] env):Ev g ⟨sc,vs,d,q⟩ (.Call (.Name x np) [e,.Name t tp] [] pos) Z M Q X:=bE7 hk hb.1 hb.2 hkt hbt.1 hbt.2 h hd hdt he
theorem am4{x:Str}{np pos:Pos}{e:Expr}{QR:Int->Int->Int->Hp->Prop}(hb:Bi g x (.type "range"))(hk:sc.names.lookup x=some .globalImplicit)
  (h:Ev g ⟨sc,vs,d,q⟩ e Z M (λv zs=>∃ n,v=.int n/\QR 0 n 1 zs) X) (hd:(x==("__debug__" : Str))=false) (he:∀ env,starEach [e] env=(false,eval e env)::starEach [] env):Rng g ⟨sc,vs,d,q⟩ (.Call (.Name x np) [e] [] pos) Z M QR X:=ch1 hk hb.1 hb.2 h hd he
end
noncomputable def f3(p:Program)(k:Nat):PySem.DefRec:=match p.main.body[k]? with
 | some (.FunctionDef name params body _ _ _ scope _ _ pos)=>⟨name,params,body,scope,pos⟩
 | _=>⟨.ofString "",⟨[],[],none,[],[],none,[]⟩,[],default,default⟩
noncomputable def Fn(g:G)(x:Str):Prop:=∃ params body scope,FnAt g x params body scope
noncomputable def Gi(g:G)(x:Str)(i:Int):Prop:=∃ t,g.mg x=some (.int i t)
section
variable{g:G}{sc:Scope}{vs:List Str}{d:Nat}{q:Bool}{F:Blk}{Z:List (Option V)}{M:Hp}{Q:V->Hp->Prop}{QB:Bool->Hp->Prop}{X:Str->Hp->Prop}
theorem bL8{x:Str}{np pos:Pos}{args:List Expr}(hf:Fn g x)(hk:sc.names.lookup x=some .globalImplicit)(hd:(x==("__debug__" : Str))=false)
  (h:Evs g ⟨sc,vs,d,q⟩ args Z M (λus zs=>c7 g d q x us zs Q X) X):Ev g ⟨sc,vs,d,q⟩ (.Call (.Name x np) args [] pos) Z M Q X:=
 by refine Ma5 hf λz_ z_ z_ hf=>?_;exact cg8 hf hk h hd
theorem aT4{x:Str}{pos:Pos}{i:Int}(hf:Gi g x i)(hk:sc.names.lookup x=some .globalImplicit)(hd:(x==("__debug__" : Str))=false)(h:Q (.int i) M):Ev g ⟨sc,vs,d,q⟩ (.Name x pos) Z M Q X:=
 by refine c5 hf λt hf=>?_;exact aL6 hk hf (λz_=>.int i t) h hd
theorem cf0{a b:Int}(hb:0<b)(h:Q (.int (a%b)) M):Op2 g F (binaryOp .Mod) (.int a) (.int b) Z M Q X:=bh4 (by lia) (by rw[Int.fmod_eq_emod_of_nonneg _ (by lia)];exact h)
theorem bC1{a b:Int}(hb:0<b)(hl:b<2 ^ 64)(h:Q (.int (a / b)) M):Op2 g F (binaryOp .FloorDiv) (.int a) (.int b) Z M Q X:=bi1 (gO hb) (by
 have hne:b.natAbs≠0:=Int.natAbs_ne_zero.mpr (gO hb);have:b.natAbs.log2<64:=(Nat.log2_lt hne).mpr (by lia)
 lia) (by rw[Int.fdiv_eq_ediv_of_nonneg _ (bY hb)];exact h)
theorem bJ2{a b:Int}(ha : -(2 ^ 60)<=a)(ha':a<=2 ^ 60)(h:Q (.int (a*b)) M):Op2 g F (binaryOp .Mult) (.int a) (.int b) Z M Q X:=aK8 h (PySem.IntMulOk.of_left (PySem.intBits_le_64 (by lia) (by lia)))
theorem bZ0{a b:Int}(ha : -(2 ^ 60)<=b)(ha':b<=2 ^ 60)(h:Q (.int (a*b)) M):Op2 g F (binaryOp .Mult) (.int a) (.int b) Z M Q X:=aK8 h (PySem.IntMulOk.of_right (PySem.intBits_le_64 (by lia) (by lia)))
theorem i9{a b:Addr}{o x:AObj}(hb:M b=some x)(hn:M a=none):upd M a o b=some x:=by rw[d6 M o (λe=>by rw[e,hn] at hb;exact f5 hb)];exact hb
theorem N6{a b:Addr}{o:AObj}(ha:M b=none)(hab:b≠a):upd M a o b=none:=by rw[d6 M o hab];exact ha
theorem j5{a b:Addr}{o:AObj}(h:upd M a o b=none):b≠a/\M b=none:=by
 by_cases e:b=a
 ·subst e;rw[c9] at h;exact z9 h
 ·exact⟨e,by rw[d6 M o e] at h;exact h⟩
theorem aZ0{a b:Addr}{o x:AObj}(hb:M b=some x)(hn:b≠a):upd M a o b=some x:=by rw[d6 M o hn];exact hb
theorem l7{a b:Addr}{x:AObj}(hb:M b=some x)(hn:M a=none):b≠a:=λe=>by rw[e,hn] at hb;exact f5 hb
theorem c7.mono{f:Str}{as:List V}{Q':V->Hp->Prop}(h:c7 g d q f as M Q X)(k:∀ v M,Q v M->Q' v M):c7 g d q f as M Q' X:=(λA s vs a h1 h2 h3 h4 h5 h6 h7=>
 codeAny_mono (h A s vs a h1 h2 h3 h4 h5 h6 h7) (λr s' p=>by
  cases r with
  | error e=>exact p
  | ok f=>cases f with
   | ret v=>refine p _ ?_;intro V M' a b c e;exact λz_ k_=>k_ V M' a b c (k _ _ e)
   | _=>exact p.elim))
theorem Inv.sub{A env s M'}(I:Inv g F A env Z M s)(k:Sub M' M):Inv g F A env Z M' s:=I.keep (Step.refl.sub k) (I.sim.sub k)
theorem Ev.drop{e:Expr}(h:Ev g F e Z M (λv M'=>∃ M'',Sub M'' M'/\Q v M'') (λx M'=>∃ M'',Sub M'' M'/\X x M'')):Ev g F e Z M Q X:=(λA env s I=>
 wpAny_mono (h A env s I) (λz_ z_ p=>by refine p _ ?_;clear p;rintro V M' r i y ⟨M'',k,q⟩;exact(λz_ k_=>k_ V M'' r (i.sub k) (y.sub k) q)) λz_ z_ p=>by refine p _ ?_;clear p;rintro x M' f i y ⟨M'',k,q⟩;exact(λz_ k_=>k_ x M'' (f.sub k) (i.sub k) (y.sub k) q))
theorem Ev.xmono{e:Expr}{X':Str->Hp->Prop}(h:Ev g F e Z M Q X)(k:∀ v M,X v M->X' v M):Ev g F e Z M Q X':=(λA env s I=>
 wpAny_mono (h A env s I) (λz_ z_ p=>p) (λz_ z_ p=>by refine p _ ?_;clear p;rintro V M' r i y q;exact(λz_ k_=>k_ V M' r i y (k _ _ q))))
theorem B5{M M':Hp}{a:Addr}{o:AObj}(k:Sub M' M):Sub (upd M' a o) (upd M a o):=λb o' e=>by
 unfold upd at e ⊢
 split at e
 ·rw[if_pos ‹_›];exact e
 ·rw[if_neg ‹_›];exact k b o' e
theorem C9{fr own:Addr->Prop}{M':Hp}{s s':Shared}{a:Addr}{o:AObj}(st:Step fr own M M' s s'):Step fr own (upd M a o) (upd M' a o) s s':=
 ⟨st.same,st.dom,λb ob hb hM ho=>st.keep b ob hb (j5 hM).2 ho,st.tups,λb ob hb hM=>by
  refine c6 (j5 hM) λh1 h2=>?_
  rw[d6 _ _ h1];exact st.new b ob hb h2⟩
theorem ab1{fr own:Addr->Prop}{M':Hp}{s s':Shared}{a:Addr}{o:AObj}(r:u1 g s.heap a o)(hb:g.h₀.get? a=none)(sm:Sim g M' s'.heap)(st:Step fr own M M' s s')(hown:¬ own a)(ha:M a=none)(hfr:¬ fr a):Sim g (upd M' a o) s'.heap/\M' a=none:=by
 refine c5 r.has λob ho=>?_
 refine⟨⟨sm.stays,λb o' e=>?_⟩,st.new a _ ho ha⟩
 by_cases hba:b=a
 ·subst hba
  rw[c9] at e;exact Option.some.inj e▸⟨r.keep st.tups λob e=>st.exact e ha hown hfr,hb⟩
 ·rw[d6 _ _ hba] at e
  exact sm.objs b o' e
theorem FrL.sub{A:Around}{M':Hp}{h:Heap}(x:FrL g A M h)(k:Sub M' M):FrL g A M' h:=by
 refine x _ ?_;clear x;rintro l hl all;refine(λz_ k_=>k_ l hl (λe he=>?_))
 refine(all e he) _ ?_;rintro L h1 h2 h3 hs o ho d;refine(λz_ k_=>k_ L h1 h2 h3 ?_ o ho d)
 cases q:M' L with
 | none=>rfl
 | some o=>rw[<- k L o q,hs]
theorem Fly.frame{A:Around}{e:Value}{x:Str}{M':Hp}{s:Shared}{h:Heap}{a:Addr}{o:AObj}(f:Fly g A e x s.heap M' h)(r:u1 g s.heap a o):Fly g A e x s.heap (upd M' a o) h:=f.sig λb n hb=>by
 refine c5 r.has λob ho=>?_
 rw[d6 _ _ (λq=>by rw[q,ho] at n;exact z9 n)];exact hb
theorem aq1{A env s M' s'}{a:Addr}{o:AObj}(I:Inv g F A env Z (upd M a o) s)(I':Inv g F A env Z M' s')(st:Step (inF A) d9 M M' s s')(ha:M a=none):Inv g F A env Z (upd M' a o) s'/\M' a=none:=by
 refine c6 (I.sim.objs a o (c9 _ _ _)) λr hb=>?_
 obtain⟨h1,h2⟩:=ab1 r hb I'.sim st id ha (I.frs.not (.inr (by rw[c9];exact dp _)))
 exact⟨I.keep (C9 st) h1,h2⟩
theorem Ev.frame{e:Expr}{a:Addr}{o:AObj}(h:Ev g F e Z M Q X)(ha:M a=none):Ev g F e Z (upd M a o) (λv M2=>∃ M',M2=upd M' a o/\M' a=none/\Q v M') (λv M2=>∃ M',M2=upd M' a o/\M' a=none/\X v M'):=(λA env s I=>by
 have I₀:=I.sub (Sub.upd (o:=o) ha);refine pgo (h A env s I₀) (λv s' V M' r I' st q=>?_) λv s' p0=>?_
 ·refine c6 (aq1 I I' st ha) λJ hn=>?_
  exact(λz_ k_=>k_ V _ r J (C9 st) ⟨M',rfl,hn,q⟩)
 ·refine p0 _ ?_;clear p0;rintro V M' r I' st q
  refine c6 (aq1 I I' st ha) λJ hn=>?_
  exact(λz_ k_=>k_ V _ (r.frame (I.sim.objs a o (c9 _ _ _)).1) J (C9 st) ⟨M',rfl,hn,q⟩))
theorem Evs.mono{es:List Expr}{Q Q':List V->Hp->Prop}(h:Evs g F es Z M Q X)(k:∀ v M,Q v M->Q' v M):Evs g F es Z M Q' X:=(λA env s pos I=>
 ⟨Ma3 (h A env s pos I).1 (λz_ z_ V M' r i y q=>(λz_ k_=>k_ V M' r i y (k _ _ q))) λz_ z_ p=>p,(h A env s pos I).2⟩)
theorem Evs.xmono{es:List Expr}{Q:List V->Hp->Prop}{X':Str->Hp->Prop}(h:Evs g F es Z M Q X)(k:∀ v M,X v M->X' v M):Evs g F es Z M Q X':=(λA env s pos I=>
 ⟨wpAny_mono (h A env s pos I).1 (λz_ z_ p=>p) (λz_ z_ p=>by refine p _ ?_;clear p;rintro V M' r i y q;exact(λz_ k_=>k_ V M' r i y (k _ _ q))),(h A env s pos I).2⟩)
theorem bw2{es:List Expr}{idx:Expr}{p pos:Pos}(h:Evs g F es Z M (λvs zs=>vs.length<=sizeLine/\Ev g F idx Z zs (λk M2=>∃ n x,k=.int n/\0<=n/\n<2 ^ 63/\vs[n.toNat]?=some x/\Q x M2) X) X)
  (hs:∀ o i,subscripted idx false o i=operate [o,i] (getItem o i)):Ev g F (.Subscript (.List es p) idx pos) Z M Q X:=by
 refine Ev.drop (ah7 (aK2 ((h.xmono λx M h=>⟨M,Sub.refl _,h⟩).mono λvs zs ⟨hl,hi⟩=>⟨hl,λa ha=>?_⟩)) hs)
 refine((Ev.frame hi ha).mono ?_).xmono ?_
 ·rintro k M2 hh_;obtain⟨M',rfl,hn,n,x,rfl,h0,h1,hx,hq⟩:=hh_
  exact ai3 (c9 _ _ _) h0 h1 hx ⟨M',Sub.upd hn,hq⟩
 ·rintro x M2 hh_;refine f9 hh_ λM' q1_ hn hq=>?_;clear hh_;subst q1_
  exact⟨M',Sub.upd hn,hq⟩
end
section
variable{g:G}{sc:Scope}{vs:List Str}{d:Nat}{F:Blk}{Z:List (Option V)}{M:Hp}{Q:V->Hp->Prop}{QB:Bool->Hp->Prop}{X:Str->Hp->Prop}
noncomputable def s8(a:Int):Prop:=-(2 ^ 60)<=a/\a<=2 ^ 60
theorem aF9{a b:Int}(ha:s8 a)(hb:s8 b):Builtin.Range.small a b 1=true:=by
 unfold s8 at *;unfold Builtin.Range.small Builtin.Range.rangeSize Builtin.Range.rangeFitsLong;simp
 split
 ·refine⟨⟨⟨?_,?_⟩,?_⟩,?_⟩<;>lia
 ·refine⟨⟨⟨?_,?_⟩,?_⟩,?_⟩<;>lia
theorem aw8(a b:Int):(Builtin.Range.rangeSize a b 1).toNat=(b-a).toNat:=by
 unfold Builtin.Range.rangeSize;simp
 split<;>lia
theorem bV6{a:Int}{n i:Nat}(h:i<n):(g9 a 1 n).drop i=.int (a+i)::(g9 a 1 n).drop (i+1):=by
 have hl:i<(g9 a 1 n).length:=by rw[K4];exact h
 rw[cu hl]
 congr 1
 simp[g9]
theorem an7{a:Int}{n i:Nat}{v:V}{l:List V}(h:v::l=(g9 a 1 n).drop i):i<n/\v=.int (a+i)/\l=(g9 a 1 n).drop (i+1):=by
 by_cases hi:i<n
 ·rw[bV6 hi] at h
  cases h;exact⟨hi,rfl,rfl⟩
 ·rw[dQ (by rw[K4];lia)] at h;cases h
theorem az8{a:Int}{n i:Nat}(hi:i<=n)(h:[]=(g9 a 1 n).drop i):i=n:=by
 have:=congrArg List.length h;simp[K4] at this;lia
theorem C6.mono{ifs:List Expr}{Q Q':Bool->Hp->Prop}(h:C6 g F ifs Z M Q)(k:∀ v M,Q v M->Q' v M):C6 g F ifs Z M Q':=(λA env s E I=>
 wpAny_mono (h A env s E I) (λz_ z_ p=>p _ λM' i y q=>λz_ k_=>k_ M' i y (k _ _ q)) λz_ z_ p=>p)
end
section
variable{g:G}{sc:Scope}{vs:List Str}{d:Nat}{q:Bool}{F:Blk}{Z:List (Option V)}{M:Hp}{Q:V->Hp->Prop}{QB:Bool->Hp->Prop}{X:Str->Hp->Prop}
noncomputable def N2(P:Nat->V->Prop):Nat->List V->Prop
 | _,[]=>True
 | i,x::xs=>P i x/\N2 P (i+1) xs
theorem bB7{P:Nat->V->Prop}{i:Nat}:N2 P i []:=trivial
theorem bV8{P:Nat->V->Prop}{i:Nat}{x:V}{xs:List V}(h:P i x)(t:N2 P (i+1) xs):N2 P i (x::xs):=⟨h,t⟩
theorem af1{k:Int}{n:Nat}(h0:0<=k)(h1:k<n):seqIndex? k n=some k.toNat:=by
 unfold seqIndex?;simp[bM.mpr h0]
 lia
theorem bb7{l:List V}{k:Int}(h0:0<=k)(h1:k<l.length)(hz:k<2 ^ 63)(h:∀ x,l[k.toNat]?=some x->Q x M):Itm g F (.tup l) (.int k) Z M Q X:=by
 have hl:k.toNat<l.length:=by lia
 exact au0 (by lia) hz (af1 h0 h1) (aa hl) (h _ (aa hl))
theorem bN1{a:Addr}{l:List V}{k:Int}(hM:M a=some (.lst l))(h0:0<=k)(h1:k<l.length)(hz:k<2 ^ 63)(h:∀ x,l[k.toNat]?=some x->Q x M):Itm g F (.ref a) (.int k) Z M Q X:=by
 have hl:k.toNat<l.length:=by lia
 exact ai3 hM h0 hz (aa hl) (h _ (aa hl))
theorem ac5{n:Nat}{j:Int}(h0:0<=j):clipAt n j=min j.toNat n:=by
 have:=clipAt_cast n j;rw[if_neg (bM.mpr h0)] at this;rw[<- dL (clipAt n j),this];rcases Int.le_total j n with h | h
 ·rw[fN h,dW h0,bt (gP.mpr h)]
 ·rw[Int.min_eq_right h,dW (aT n),dL,dh (Int.le_toNat h0 |>.mpr h)]
theorem Z7{α:Type}{l:List α}{j:Int}(h0:0<=j):slc none (some j) l=l.take j.toNat:=by
 show(l.drop 0).take (clipAt l.length j-0)=_;rw[gg,Nat.sub_zero,ac5 h0,<- List.take_eq_take_min]
theorem ai1{α:Type}{l:List α}{j:Int}(h0:0<=j):slc (some j) none l=l.drop j.toNat:=by
 show(l.drop (clipAt l.length j)).take (l.length-clipAt l.length j)=_;rw[ac5 h0,bA (by rw[bX];exact aC _)]
 rcases Nat.le_total j.toNat l.length with h | h
 ·rw[bt h]
 ·rw[dh h,fU (aC _),fU h]
theorem ab3{A env s M' s'}{a:Addr}{o:AObj}{Z':List (Option V)}(I:Inv g F A env Z (upd M a o) s)(I':Inv g F A env Z' M' s')(st:Step (inF A) (j6 env) M M' s s')(ha:M a=none):Inv g F A env Z' (upd M' a o) s'/\M' a=none:=by
 refine c6 (I.sim.objs a o (c9 _ _ _)) λr hb=>?_
 have hown:¬ j6 env a:=λq=>by have:=I.loc.free a q;rw[c9] at this;exact z9 this
 obtain⟨h1,h2⟩:=ab1 r hb I'.sim st hown ha (I.frs.not (.inr (by rw[c9];exact dp _)))
 refine⟨⟨I'.scope,I'.fn,I'.glob,I'.bltn,I'.room,I'.units,I'.quiet,h1,⟨I'.loc.len,I'.loc.ns,λb hb'=>?_,I'.loc.live,I'.loc.apart,I'.loc.other⟩,I'.base,I'.nd,I.frs.step (C9 st)⟩,h2⟩
 rw[d6 _ _ (fun(e:b=a)=>hown (by rw[<- e];exact hb'))];exact I'.loc.free b hb'
theorem Exs.frame{ss:List Stmt}{QS:d4}{XS:g7}{a:Addr}{o:AObj}(h:Exs g F ss Z M QS XS)(ha:M a=none):Exs g F ss Z (upd M a o) (λf Z' M2=>∃ M',M2=upd M' a o/\M' a=none/\QS f Z' M') (λf Z' M2=>∃ M',M2=upd M' a o/\M' a=none/\XS f Z' M'):=(λA env s I=>by
 have I₀:=I.sub (Sub.upd (o:=o) ha);refine wpAny_mono (h A env s I₀) (λv s' p0=>?_) λv s' p0=>?_
 ·refine p0 _ ?_;clear p0;rintro V Z' M' r I' st q
  refine c6 (ab3 I I' st ha) λJ hn=>?_
  exact(λz_ k_=>k_ V Z' _ r J (C9 st) ⟨M',rfl,hn,q⟩)
 ·refine p0 _ ?_;clear p0;rintro V Z' M' r I' st q
  refine c6 (ab3 I I' st ha) λJ hn=>?_
  exact(λz_ k_=>k_ V Z' _ (r.frame (I.sim.objs a o (c9 _ _ _)).1) J (C9 st) ⟨M',rfl,hn,q⟩))
theorem Asg.frame{t:Expr}{v:V}{P:List (Option V)->Prop}{a:Addr}{o:AObj}(h:Asg g F t v Z M P)(ha:M a=none):Asg g F t v Z (upd M a o) P:=⟨λA env s x QU E I hh r k=>by
 refine h.run A env s x QU E (I.sub (Sub.upd (o:=o) ha)) hh r λs' Z' I' st p=>?_
 exact k s' Z' (ab3 I I' st ha).1 (C9 st) p,h.tgt⟩
theorem Asg.mono{t:Expr}{v:V}{P P':List (Option V)->Prop}(h:Asg g F t v Z M P)(k:∀ Z,P Z->P' Z):Asg g F t v Z M P':=⟨λA env s x QU E I hh r k'=>h.run A env s x QU E I hh r λs' Z' I' st p=>k' s' Z' I' st (k _ p),h.tgt⟩
theorem Exs.xmono{ss:List Stmt}{QS:d4}{XS XS':g7}(h:Exs g F ss Z M QS XS)(k:∀ f Z M,XS f Z M->XS' f Z M):Exs g F ss Z M QS XS':=(λA env s I=>
 wpAny_mono (h A env s I) (λz_ z_ p=>p) λz_ z_ p_=>by refine p_ _ ?_;clear p_;rintro V Z' M' r i y q;exact(λz_ k_=>k_ V Z' M' r i y (k _ _ _ q)))
theorem Ex.xdrop{ss:Stmt}{Q:d4}{X:g7}(h:Ex g F ss Z M (λv Z' M'=>∃ M'',Sub M'' M'/\Q v Z' M'') (λv Z' M'=>∃ M'',Sub M'' M'/\X v Z' M'')):Ex g F ss Z M Q X:=(λA env s I=>
 wpAny_mono (h A env s I) (λz_ z_ p=>by refine p _ ?_;clear p;rintro V Z' M' r i y ⟨M'',k,q⟩;exact(λz_ k_=>k_ V Z' M'' r (i.sub k) (y.sub k) q)) (λz_ z_ p=>by refine p _ ?_;clear p;rintro V Z' M' r i y ⟨M'',k,q⟩;exact(λz_ k_=>k_ V Z' M'' (r.sub k) (i.sub k) (y.sub k) q)))
theorem c7.frame{f:Str}{as:List V}{a:Addr}{o:AObj}(h:c7 g d q f as M Q X)(ha:M a=none):c7 g d q f as (upd M a o) (λv M2=>∃ M',M2=upd M' a o/\M' a=none/\Q v M') (λv M2=>∃ M',M2=upd M' a o/\M' a=none/\X v M'):=(λA s vs af h1 h2 h3 h4 h5 hf h6=>by
 have key:∀ {M':Hp} {s':Shared},Sim g M' s'.heap->Step (inF A) d9 M M' s s'->Sim g (upd M' a o) s'.heap/\M' a=none:=fun{M' s'} sm st=>by
  refine c6 (h5.objs a o (c9 _ _ _)) λr hb=>?_
  refine ab1 r hb sm st id ha λq=>?_
  refine f7 q λl e hl he hq=>?_
  refine hf _ ?_;clear hf;rintro l' hl' all;rw[hl] at hl';replace hl':=g8 hl';subst hl';refine(all e he) _ ?_;rintro L-hL-hs - - -;rw[hq] at hL;replace hL:=g8 hL;subst hL;rw[c9] at hs;exact z9 hs
 refine codeAny_mono (h A s vs af h1 h2 h3 h4 (h5.sub (Sub.upd ha)) (hf.sub (Sub.upd ha)) h6) (λr s' p=>?_)
 cases r with
 | error v=>
  refine p _ ?_;intro V M' x1 x2 x3 e;refine c6 (key x2 x3) λy1 y2=>?_
  exact λz_ k_=>k_ V _ (x1.frame (h5.objs a o (c9 _ _ _)).1) y1 (C9 x3) ⟨M',rfl,y2,e⟩
 | ok f=>cases f with
  | ret v=>
   refine p _ ?_;intro V M' x1 x2 x3 e;refine c6 (key x2 x3) λy1 y2=>?_
   exact λz_ k_=>k_ V _ x1 y1 (C9 x3) ⟨M',rfl,y2,e⟩
  | _=>exact p.elim)
theorem c7.xmono{f:Str}{as:List V}{X':Str->Hp->Prop}(h:c7 g d q f as M Q X)(k:∀ v M,X v M->X' v M):c7 g d q f as M Q X':=(λA s vs a h1 h2 h3 h4 h5 hf h6=>
 codeAny_mono (h A s vs a h1 h2 h3 h4 h5 hf h6) (λr s' p=>by
  cases r with
  | error e=>refine p _ ?_;intro V M' a b c e';exact λz_ k_=>k_ V M' a b c (k _ _ e')
  | ok f=>cases f with
   | ret v=>exact p
   | _=>exact p.elim))
theorem c7.under{f:Str}{as:List V}{a:Addr}{o:AObj}(h:c7 g d q f as M Q noX)(ha:M a=none):c7 g d q f as (upd M a o) (λv M2=>∃ M',M2=upd M' a o/\M' a=none/\Q v M') X:=
 (h.frame ha).xmono λz_ z_ p=>by refine f9 p λz_ z_ z_ h=>?_;exact h.elim
end
noncomputable def E1(xs:Array Nat):Prop:=∀ i j:Nat,i<j->∀ x y,xs[i]?=some x->xs[j]?=some y->x<y
theorem bX2{xs:Array Nat}{j:Nat}(hr:E1 xs):∀ (fuel lo hi:Nat),hi-lo<=fuel->lo<=hi->hi<=xs.size->(∀ i x,i<lo->xs[i]?=some x->x<j)->(∀ i x,hi<=i->xs[i]?=some x->j<=x)->
  (∀ i x,i<SetTable.below.go xs j fuel lo hi->xs[i]?=some x->x<j)/\(∀ i x,SetTable.below.go xs j fuel lo hi<=i->xs[i]?=some x->j<=x)/\SetTable.below.go xs j fuel lo hi<=xs.size:=by
 intro fuel;induction fuel with
 | zero=>
  intro lo hi hf hle hsz h1 h2;obtain rfl:lo=hi:=aZ hle (fV.mp (fW.mp hf));exact⟨h1,h2,hsz⟩
 | succ fuel ih=>
  intro lo hi hf hle hsz h1 h2;by_cases hlt:lo<hi
  ·rw[show SetTable.below.go xs j (fuel+1) lo hi=if xs.getD ((lo+hi) / 2) j<j then SetTable.below.go xs j fuel ((lo+hi) / 2+1) hi else SetTable.below.go xs j fuel lo ((lo+hi) / 2) from if_pos hlt]
   have hm1:lo<=(lo+hi) / 2:=(gh (by decide)).mpr (by rw[gU];exact aV hle lo)
   have hm2:(lo+hi) / 2<hi:=Nat.div_lt_of_lt_mul (by rw[Nat.two_mul];exact gx hlt hi)
   generalize (lo+hi) / 2=m at hm1 hm2;have hm:=aA hm2 hsz;have hget:xs[m]?=some xs[m]:=aG hm;rw[show xs.getD m j=xs[m] from dif_pos hm]
   by_cases hc:xs[m]<j
   ·rw[if_pos hc]
    refine ih (m+1) hi (ae (cF (bc hm1) hi) (Nat.pred_le_pred hf)) hm2 hsz (λi x hi' hx=>?_) h2
    rcases eW (aR hi') with rfl | he
    ·rw[hget] at hx;exact Option.some.inj hx▸hc
    ·exact bO (hr i m he x _ hx hget) hc
   ·rw[if_neg hc]
    refine ih lo m (aR (aA (gy hm1 hm2) hf)) hm1 (aK hm) h1 (λi x hi' hx=>?_)
    rcases eW hi' with rfl | he
    ·rw[hget] at hx;exact Option.some.inj hx▸cn hc
    ·exact ae (cn hc) (aK (hr m i he _ x hget hx))
  ·rw[show SetTable.below.go xs j (fuel+1) lo hi=lo from if_neg hlt]
   obtain rfl:lo=hi:=aZ hle (cn hlt);exact⟨h1,h2,hsz⟩
theorem ae8{xs:Array Nat}{j:Nat}(hr:E1 xs):(∀ i x,i<SetTable.below xs j->xs[i]?=some x->x<j)/\(∀ i x,SetTable.below xs j<=i->xs[i]?=some x->j<=x)/\SetTable.below xs j<=xs.size:=
 bX2 hr xs.size 0 xs.size (aC _) (aE _) (aC _) (λi x h z_=>absurd h (bS _)) (λi x h hx=>absurd (bG.mp hx).1 (bg.mpr h))
theorem bK7{α:Type}(xs:Array α)(p:Nat)(x:α):(SetTable.insertAt xs p x).toList=xs.toList.take p++x::xs.toList.drop p:=by
 unfold SetTable.insertAt;simp[bA]
theorem T3{xs:Array Nat}:E1 xs↔xs.toList.Pairwise (· < ·):=by
 constructor
 ·intro h
  rw[cw];intro i j hi hj hij;exact h i j hij _ _ (by rw[<- aD];exact aa hi) (by rw[<- aD];exact aa hj)
 ·intro h i j hij x y hx hy
  rw[<- aD] at hx hy;obtain⟨hi,rfl⟩:=ay.mp hx;obtain⟨hj,rfl⟩:=ay.mp hy;exact cw.mp h i j hi hj hij
theorem aQ3{xs:Array Nat}{j:Nat}(hr:E1 xs)(hn:xs[SetTable.below xs j]?≠some j):E1 (SetTable.insertAt xs (SetTable.below xs j) j):=by
 refine k8 (ae8 (j:=j) hr) λh1 h2 h3=>?_
 have h2':∀ i x,SetTable.below xs j<=i->xs[i]?=some x->j<x:=λi x hi hx=>by
  have q:=h2 i x hi hx;rcases Nat.lt_or_ge j x with q' | q'
  ·exact q'
  ·obtain rfl:x=j:=aZ q' q
   rcases eW hi with e | e
   ·exact absurd (by rw[e];exact hx) hn
   ·have hb:SetTable.below xs x<xs.size:=bO e (bG.mp hx).1
    exact absurd (hr _ _ e _ _ (aG hb) hx) (bg.mpr (h2 _ _ (aC _) (aG hb)))
 rw[T3,bK7];have hp:=T3.mp hr;refine bb.mpr ⟨hp.sublist (cZ _ _),cq.mpr ⟨λy hy=>?_,hp.sublist (dM _ _)⟩,λa ha b hb=>?_⟩
 ·refine c5 (dc.mp hy) λi hi=>?_
  rw[List.getElem?_drop,aD] at hi;exact h2' _ _ (aY _ _) hi
 ·refine c5 (dc.mp ha) λi hi=>?_
  have hlt:i<SetTable.below xs j:=by
   have:=(ay.mp hi).1;rw[cG] at this;exact aA this (be _ _)
  rw[fz hlt,aD] at hi;have q1:=h1 _ _ hlt hi;rcases au.mp hb with rfl | hb
  ·exact q1
  ·refine c5 (dc.mp hb) λk hk=>?_
   rw[List.getElem?_drop,aD] at hk;exact bO q1 (h2' _ _ (aY _ _) hk)
theorem bi2{xs:Array Nat}(hr:E1 xs):SetTable.below xs 0=0:=by
 refine k8 (ae8 (j:=0) hr) λh1 h2 h3=>?_
 rcases Nat.eq_zero_or_pos (SetTable.below xs 0) with e | e
 ·exact e
 ·exact absurd (h1 0 _ e (aG (aA e h3))) (bS _)
theorem br8{xs:Array Nat}{i x:Nat}(hr:E1 xs)(hx:xs[i]?=some x):SetTable.below xs (x+1)=i+1:=by
 refine k8 (ae8 (j:=x+1) hr) λh1 h2 h3=>?_
 have hi:=(bG.mp hx).1;rcases Nat.lt_trichotomy (SetTable.below xs (x+1)) (i+1) with q | q | q
 ·exact absurd (h2 i x (aR q) hx) (gz _)
 ·exact q
 ·have hb:i+1<xs.size:=aA q h3
  exact absurd (hr i (i+1) (bp _) _ _ hx (aG hb)) (bg.mpr (aR (h1 (i+1) _ q (aG hb))))
structure Tidy(t:SetTable)(led:Bool):Prop where
 rise:E1 t.place
 nod:t.dummies=#[]
 led:t.led=led
theorem cg9(led:Bool):Tidy (.fresh 0 0 led) led:=⟨λi j h x y hx=>by simp[SetTable.fresh] at hx,rfl,rfl⟩
theorem bB9(n:Nat):E1 (Array.range n):=by
 rw[T3];simp[fX]
theorem T9{t:SetTable}{led:Bool}(h:Tidy t led)(n:Nat):Tidy (t.standIn n) led:=⟨bB9 n,rfl,h.led⟩
theorem bU0{t:SetTable}{j:Nat}(h:t.dummies=#[]):t.slot j≠.dummy:=by
 unfold SetTable.slot;dsimp only
 split
 ·simp
 ·rw[if_neg]
  ·simp
  ·unfold SetTable.has;rw[h];simp
theorem bZ6{t:SetTable}{hashAt:Nat->Int}{h:Int}(hn:t.dummies=#[])(fuel:Nat):∀ (p:SetTable.Probe),p.dummy=none->∀ j d,SetTable.probe.go t hashAt h fuel p=some (.empty j d)->t.slot j=.empty/\d=none:=by
 induction fuel with
 | zero=>intro p hp j d e;cases e
 | succ fuel ih=>
  intro p hp j d e
  replace e:(match t.slot p.j with | .empty=>some (SetTable.Met.empty p.j p.dummy) | .dummy=>SetTable.probe.go t hashAt h fuel (t.advance {p with dummy:=some p.j}) | .live i=>if hashAt i==h then some (.candidate p.j i (t.advance p)) else SetTable.probe.go t hashAt h fuel (t.advance p))=some (.empty j d):=e
  cases hs:t.slot p.j with
  | empty=>rw[hs] at e;cases e;exact⟨hs,hp⟩
  | dummy=>exact absurd hs (bU0 hn)
  | live i=>
   rw[hs] at e;by_cases hb:(hashAt i==h)=true
   ·exact absurd ((if_pos hb).symm.trans e) (λq=>by cases q)
   ·refine ih _ ?_ j d ((if_neg hb).symm.trans e)
    unfold SetTable.advance
    split
    ·exact hp
    ·exact hp
theorem bU3{t:SetTable}{h:Int}{j:Nat}{b:Bool}(hn:t.dummies=#[])(e:t.freeSlot h=some (j,b)):t.slot j=.empty:=by
 unfold SetTable.freeSlot at e;cases hp:t.probe (λz_=>h+1) h (t.probeStart h) with
 | none=>rw[hp] at e;cases e
 | some m=>
  rw[hp] at e;cases m with
  | empty j' d=>
   refine c6 (bZ6 hn _ _ rfl _ _ hp) λh1 h2=>?_
   subst h2;cases e;exact h1
  | candidate j' i' n'=>exact f5 e
theorem br5{t:SetTable}{j:Nat}(h:t.slot j=.empty):t.place[SetTable.below t.place j]?≠some j:=λe=>by
 unfold SetTable.slot at h;dsimp only at h
 rw[if_pos (by rw[e];simp)] at h
 cases h
theorem bd0{t:SetTable}{led:Bool}{j:Nat}(ht:Tidy t led)(h:t.slot j=.empty):Tidy (t.put j).1 led:=by
 refine⟨aQ3 ht.rise (br5 h),?_,ht.led⟩;unfold SetTable.put;dsimp only
 rw[if_neg (by unfold SetTable.has;rw[ht.nod];simp)]
 exact ht.nod
set_option tactic.hygienic true in
theorem bi8{t:SetTable}{led:Bool}{es:Array (Int×Value)}{h:Int}{x:Value}(ht:Tidy t led):Tidy (layNew t es h x).2.1 led:=by
 unfold layNew
 split
 ·rename_i j b e
  have:=bd0 ht (bU3 ht.nod e);unfold SetTable.orStandIn;dsimp only
  split
  ·exact this
  ·exact T9 this _
 ·exact T9 ht _
theorem bp1{u3 finger moves:Nat}{led plain:Bool}{hashes:Array Int}{t:SetTable}{order:Array Nat}(e:SetTable.laid u3 finger moves led plain hashes=some (t,order)):Tidy t led:=by
 unfold SetTable.laid at e;simp only[Option.bind_eq_bind,Option.bind_eq_some_iff,Option.pure_def,Option.some.injEq,Prod.mk.injEq] at e
 obtain⟨owner,_,rfl,_⟩:=e;refine⟨?_,rfl,rfl⟩;rw[T3];simp only[List.map_filterMap]
 show List.Pairwise _ ((List.range (u3+1)).filterMap _);refine List.Pairwise.filterMap _ ?_ fX;intro a b hab x hx y hy;simp only[Option.mem_def,Option.map_map,aJ] at hx hy
 obtain⟨_,_,rfl⟩:=hx;obtain⟨_,_,rfl⟩:=hy;exact hab
set_option tactic.hygienic true in
theorem bL5{t:SetTable}{led:Bool}{es:Array (Int×Value)}{n:Nat}(ht:Tidy t led):Tidy (relayAll t es n).2.1 led:=by
 unfold relayAll
 split
 ·rename_i t' order e
  unfold SetTable.relaid at e;have:=bp1 e;rw[ht.led] at this;dsimp only
  split
  ·exact this
  ·exact T9 ht _
 ·exact T9 ht _
section
variable{prog:Program}{w:World}{K:Type}[DecidableEq K](knd:PySem.KeyKind prog w K)
class inductive KA:List (Int×Value)->List K->Prop
 | nil:KA [] []
 | cons {e:Int×Value} {k:K} {es:List (Int×Value)} {ks:List K}:knd.is k e.2=true->e.1=knd.hash k->e.2.scannable=true->KA es ks->KA (e::es) (k::ks)
variable{knd}
theorem KA.length{es:List (Int×Value)}{ks:List K}(h:KA knd es ks):es.length=ks.length:=by
 induction h with
 | nil=>rfl
 | cons _ _ _ _ ih=>rw[aN,aN,ih]
theorem KA.elems{es:List (Int×Value)}{ks:List K}(h:KA knd es ks):ElemsOf knd es:=by
 induction h with
 | nil=>exact λe he=>nomatch he
 | cons h1 h2 h3 h ih=>
  intro e he;rcases au.mp he with rfl | he
  ·exact⟨⟨_,h1,h2⟩,h3⟩
  ·exact ih e he
theorem KA.append{es fs:List (Int×Value)}{ks ls:List K}(h:KA knd es ks)(h':KA knd fs ls):KA knd (es++fs) (ks++ls):=by
 induction h with
 | nil=>exact h'
 | cons h1 h2 h3 _ ih=>exact .cons h1 h2 h3 ih
theorem KA.perm{es es':List (Int×Value)}(p:es.Perm es'):∀ {ks:List K},KA knd es ks->∃ ks',KA knd es' ks'/\ks.Perm ks':=by
 induction p with
 | nil=>intro ks h;exact⟨ks,h,.refl _⟩
 | cons x p ih=>
  intro ks h;cases h with
  | cons h1 h2 h3 h=>
   refine a9 (ih h) λks' q r=>?_
   exact⟨_,.cons h1 h2 h3 q,r.cons _⟩
 | swap x y l=>
  intro ks h;cases h with
  | cons h1 h2 h3 h=>
   cases h with
   | cons g1 g2 g3 h=>exact⟨_,.cons g1 g2 g3 (.cons h1 h2 h3 h),.swap _ _ _⟩
 | trans p q ih1 ih2=>
  intro ks h;refine a9 (ih1 h) λk1 a b=>?_
  refine a9 (ih2 a) λk2 c e=>?_
  exact⟨k2,c,b.trans e⟩
theorem KA.find{es:List (Int×Value)}{ks:List K}{k:K}(h:KA knd es ks):List.findIdx? (λe=>knd.is k e.2) es=none↔k∉ks:=by
 induction h with
 | nil=>simp
 | @cons e k' _ _ h1 h2 h3 h ih=>
  have his:knd.is k e.2=decide (k=k'):=KeyKind.is_eq_decide h1 k;rw[eV,his];by_cases hk:k=k'
  ·subst hk;simp
  ·simp[hk];simpa using ih
variable(knd)
def n7(h:Heap)(a:Addr)(led:Bool)(ks:List K):Prop:=
 ∀ P_:Prop,(∀ (o:Obj) (es:Array (Int×Value)) (ep:Nat) (t:SetTable) (ks':List K) (ho:h.get? a=some o) (hex:o.ExactSet) (hd:o.data=.set es ep t) (ka:KA knd es.toList ks') (hp:ks'.Perm ks) (hn:ks.Nodup) (hb:ks.length<scanBound) (hf:t.fits es.size=true) (ht:Tidy t led),P_)->P_
variable{knd}{A:Around}{E:Value->Shared->Prop}{s:Shared}
noncomputable def p9(ks:List K)(k:K):List K:=if k∈ks then ks else ks++[k]
theorem n7.store{h:Heap}{a:Addr}{o:Obj}{es es':Array (Int×Value)}{ep:Nat}{t t':SetTable}{ks ks':List K}{led:Bool}(ho:h.get? a=some o)(hex:o.ExactSet)(hd:o.data=.set es ep t)
  (ka:KA knd es'.toList ks') (hp:ks'.Perm ks) (hn:ks.Nodup) (hb:ks.length<scanBound) (hf:t'.fits es'.size=true) (ht:Tidy t' led) :
  (h.update a (fq es' t')).get? a=some {o with data:=.set es' (ep+1) t'}/\n7 knd (h.update a (fq es' t')) a led ks:=by
 have e:(h.update a (fq es' t')).get? a=some {o with data:=.set es' (ep+1) t'}:=by
  have:=co (fq es' t') ho (by rw[putSet_of es' t' hd];rfl)
  rw[putSet_of es' t' hd] at this;exact this
 exact⟨e,λz_ k_=>k_ _ es' _ t' ks' e hex rfl ka hp hn hb hf ht⟩
theorem n7.tail{g:Bool->Sem Unit}(hg:∀ (b:Bool) (sv:Shared) (Q':Unit->Shared->Prop),Q' () sv->wpAny (model prog w) A (g b) Q' E sv)
  {a:Addr} {o:Obj} {es es1:Array (Int×Value)} {ep:Nat} {t t2:SetTable} {ks ks':List K} {led:Bool} {wd:Bool} (ho:s.heap.get? a=some o) (hex:o.ExactSet) (hd:o.data=.set es ep t)
  (ka:KA knd es1.toList ks') (hp:ks'.Perm ks) (hn:ks.Nodup) (hb:ks.length<scanBound) (hf:t2.fits es1.size=true) (ht:Tidy t2 led) {R:Option Bool->Shared->Prop}
  (h:∀ h',Heap.SameBut a s.heap h'->n7 knd h' a led ks->R (some true) {s with heap:=h'}) :
  wpAny (model prog w) A (do
    storeSet a es1 t2
    if (!wd&&t2.tooFull)=true then do
      g (relayAll t2 es1 (SetTable.grown es1.size)).2.2
      storeSet a (relayAll t2 es1 (SetTable.grown es1.size)).1 (relayAll t2 es1 (SetTable.grown es1.size)).2.1
      pure (some true)
     else pure (some true)) R E s:=by
 have hsz1:es1.size=ks.length:=by rw[<- ao,ka.length,hp.length_eq]
 refine wpAny_bind (wpAny_storeSet_of ho hd ?_ (fits_of_scanBound (by rw[hsz1];exact hb)))
 refine c6 (n7.store ho hex hd ka hp hn hb hf ht) λho1 hS1=>?_
 have hsb1:=Heap.SameBut.update s.heap a (fq es1 t2)
 split
 ·have hpr:=relayAll_perm t2 es1 (SetTable.grown es1.size)
  have hfr:=relayAll_fits t2 es1 (SetTable.grown es1.size);have htr:=bL5 (es:=es1) (n:=SetTable.grown es1.size) ht;refine a9 (ka.perm hpr.symm) λks2 ka2 hp2=>?_
  have hsz:(relayAll t2 es1 (SetTable.grown es1.size)).1.size=ks.length:=by rw[<- ao,hpr.length_eq,ao,hsz1]
  refine wpAny_bind (hg _ _ _ ?_);refine wpAny_bind (wpAny_storeSet_of ho1 rfl ?_ (fits_of_scanBound (by rw[hsz];exact hb)))
  refine c6 (n7.store ho1 hex rfl ka2 (hp2.symm.trans hp) hn hb hfr htr) λz_ hS2=>?_
  exact wpAny_pure (h _ (hsb1.trans (Heap.SameBut.update _ a _)) hS2)
 ·exact wpAny_pure (h _ hsb1 hS1)
theorem aP3{t:SetTable}{led:Bool}(h:Tidy t led):Tidy {t with plain:=false} led:=⟨h.rise,h.nod,h.led⟩
theorem n7.add{a:Addr}{ks:List K}{led:Bool}{k:K}{x:Value}{Q:Bool->Shared->Prop}(hkey:knd.is k x=true)(hsc:x.scannable=true)(hS:n7 knd s.heap a led ks)(hroom:ks.length+1<scanBound)
  (h:∀ b h',Heap.SameBut a s.heap h'->n7 knd h' a led (p9 ks k)->Q b {s with heap:=h'}):wpAny (model prog w) A (setAddHashed a x (knd.hash k)) Q E s:=by
 refine hS _ ?_;clear hS;rintro o es ep t ks' ho hex hd ka hp hn hb hf ht;have hsz:es.size=ks.length:=by rw[<- ao,ka.length,hp.length_eq]
 unfold setAddHashed setAddHashedIn;refine wpAny_holding (wpAny_bind (wpAny_setState_of ho hd hf ?_));dsimp only
 rw[byScan_of hsc (by rw[hsz];exact hb) ka.elems]
 simp only[↓reduceIte]
 unfold setAddByScan;refine wpAny_bind (wpAny_bind (wpAny_rule (wpAny_bind (wpAny_setScan_of hkey ho hd hf ka.elems ?_))));cases hr:List.findIdx? (λe=>knd.is k e.2) es.toList with
 | some j=>
  dsimp only
  have hk:k∈ks:=by
   refine cx λq=>?_
   have:k∉ks':=λq'=>q (hp.mem_iff.mp q')
   rw[ka.find.mpr this] at hr;exact f5 hr
  refine wpAny_pure (wpAny_pure ?_);have:=h false s.heap (Heap.SameBut.refl a s.heap) (by unfold p9;rw[if_pos hk];exact(λz_ k_=>k_ o es ep t ks' ho hex hd ka hp hn hb hf ht))
  exact this
 | none=>
  dsimp only
  have hk:k∉ks:=λq=>ka.find.mp hr (hp.mem_iff.mpr q)
  have hgw:∀ (b:Bool) {sv:Shared} {Q':Unit->Shared->Prop},Q' () sv->wpAny (model prog w) A (match b with | true=>rule "set.scan.the-table-gave-way" | false=>pure ()) Q' E sv:=
   λb sv Q' hq=>by cases b<;>first | exact wpAny_pure hq | exact wpAny_rule hq
  have hperm:=layNew_perm t es (knd.hash k) x;have hfits:=layNew_fits t es (knd.hash k) x;have htl:=bi8 (es:=es) (h:=knd.hash k) (x:=x) ht;generalize hL:layNew t es (knd.hash k) x=L at hperm hfits htl ⊢;obtain⟨es1,t1,wd,gave⟩:=L;dsimp only at hperm hfits htl ⊢
  rw[cN] at hperm;refine a9 ((ka.append (.cons hkey rfl hsc .nil)).perm hperm.symm) λks1 ka1 hp1=>?_
  have hp':ks1.Perm (p9 ks k):=by unfold p9;rw[if_neg hk];exact hp1.symm.trans (hp.append_right _)
  have hn':(p9 ks k).Nodup:=by
   unfold p9;rw[if_neg hk];exact bk.mpr ⟨hn,by simp,λa ha b hb=>by simp at hb;subst hb;exact λe=>hk (e▸ha)⟩
  have hb':(p9 ks k).length<scanBound:=by unfold p9;rw[if_neg hk,az];simpa using hroom
  have hend:∀ h',Heap.SameBut a s.heap h'->n7 knd h' a led (p9 ks k)->Q true {s with heap:=h'}:=λh'=>h true h'
  refine wpAny_bind (hgw _ ?_)
  split
  ·refine wpAny_bind ?_
   rw[hashByValue_scannable 8 hsc];refine wpAny_pure ?_;refine n7.tail (led:=led) ?_ ho hex hd ka1 hp' hn' hb' ?_ ?_ ?_
   ·intro b sv Q' hq;cases b<;>first | exact wpAny_pure hq | exact wpAny_rule hq
   ·split
    ·exact hfits
    ·exact SetTable.fits_plain_off hfits
   ·split
    ·exact htl
    ·exact aP3 htl
   ·intro h' hsb hS';dsimp only;exact wpAny_pure (hend h' hsb hS')
  ·refine wpAny_bind (wpAny_pure ?_)
   simp only[↓reduceIte]
   refine n7.tail ?_ ho hex hd ka1 hp' hn' hb' hfits htl ?_
   ·intro b sv Q' hq;cases b<;>first | exact wpAny_pure hq | exact wpAny_rule hq
   ·intro h' hsb hS';dsimp only;exact wpAny_pure (hend h' hsb hS')
end
end Internal
set_option maxHeartbeats 4000000
set_option maxRecDepth 100000
namespace Internal
section
variable{prog:Program}{w:World}{K:Type}[DecidableEq K]{knd:PySem.KeyKind prog w K}{A:Around}{E:Value->Shared->Prop}{s:Shared}
noncomputable def u0(w:World):Bool:=!w.params.followText "set-order"
noncomputable def V8(knd:PySem.KeyKind prog w K)(v:Value)(k:K):Prop:=knd.is k v=true/\v.scannable=true
theorem aw3(ks:List K)(k:K):(p9 ks k).length<=ks.length+1:=by
 unfold p9;split<;>simp
theorem ax4:∀ (l ks:List K),(l.foldl p9 ks).length<=ks.length+l.length
 | [],ks=>by simp
 | k::l,ks=>by
  have:=ax4 l (p9 ks k);have:=aw3 ks k;simp only[dx,aN];lia
theorem n7.keep{h h':Heap}{a:Addr}{led:Bool}{ks:List K}(x:n7 knd h a led ks)(k:∀ o,h.get? a=some o->h'.get? a=some o):n7 knd h' a led ks:=by
 refine x _ ?_;clear x;rintro o es ep t ks' ho r1 r2 r3 r4 r5 r6 r7 r8;exact(λz_ k_=>k_ o es ep t ks' (k o ho) r1 r2 r3 r4 r5 r6 r7 r8)
theorem bo2{R:Result->Shared->Prop}{I:Addr}{fp wr:List Addr}{G:Array GenState->Array GenState->Prop}{n:Nat}{P:Nat->Value->Prop}{St:Nat->Shared->Prop}(W:WalksS prog w A.in1 I fp wr G n P St)(S:Addr)(hSf:S∉fp){led:Bool}
  (val:Nat->K) (hval:∀ i v,P i v->V8 knd v (val i)) (hb:n+1<scanBound) :
  ∀ (k i:Nat) (s:Shared) (ks:List K),n-i=k->i<=n->ks.length<=i->St i s->n7 knd s.heap S led ks->
   (∀ s',Moved (S::wr) G s s'->n7 knd s'.heap S led (((eQ i k).map val).foldl p9 ks)->R (.ok (.ret .none)) s')->
   codeAny (model prog w) A (.builtin "set.update.loop" ⟨[.ref S,.ref I],[]⟩) R s:=by
 have hSw:S∉wr:=λh=>hSf (W.sub _ h)
 have hsub:∀ b∈wr,b∈S::wr:=λb hb=>aP _ hb
 intro k;induction k with
 | zero=>
  intro i s ks hk hi hlen hst hS hR;have hin:i=n:=by lia
  subst hin;refine codeAny_builtin PyProof.Rows.F.entry_set_update_loop ?_;rw[Around.under_plainId PyProof.Rows.F.plain_set_update_loop _];show wpAny _ A.in1 (pyNext (.ref I) >>= _) _ _ s;refine wpAny_bind (W.done s _ _ hst λs' hm=>?_)
  show wpAny _ A.in1 (ret Value.none) _ _ s';exact wpAny_pure (hR s' (hm.mono hsub) (hS.keep λo ho=>hm.heap S _ hSw ho))
 | succ k ih=>
  intro i s ks hk hi hlen hst hS hR;have hlt:i<n:=by lia
  refine codeAny_builtin PyProof.Rows.F.entry_set_update_loop ?_;rw[Around.under_plainId PyProof.Rows.F.plain_set_update_loop _];show wpAny _ A.in1 (pyNext (.ref I) >>= _) _ _ s;refine wpAny_bind (W.item i s _ _ hlt hst λv s' hP hst' hm=>?_)
  refine c6 (hval i v hP) λhkey hsc=>?_
  have hS':n7 knd s'.heap S led ks:=hS.keep λo ho=>hm.heap S _ hSw ho
  show wpAny _ A.in1 (holding [v] (setAdd S v) >>= _) _ _ s';refine wpAny_bind (wpAny_holding ?_);unfold setAdd;refine wpAny_holding (wpAny_bind (knd.pyHash (k:=val i) hkey ?_));refine n7.add (s:={s' with toks:=s'.toks+1}) hkey hsc hS' (by lia) λb h' hsb hS2=>?_
  refine wpAny_pure ⟨plainId_quiet PyProof.Rows.F.plain_set_update_loop _,ih (i+1) _ (p9 ks (val i)) (by lia) hlt (by have:=aw3 ks (val i);lia) (W.frame _ s' _ _ hst' (dm _) λb hb o e=>?_) hS2 λs'' hm'' hS''=>?_⟩
  ·rw[hsb.2 b (λh:b=S=>hSf (by rw[<- h];exact hb))];exact e
  ·refine hR s'' (Moved.trans W.gtrans ((hm.mono hsub).then_heap (dm _) λb o hb e=>?_) hm'') (by
    rw[List.range'_succ];exact hS'')
   rw[hsb.2 b (λh:b=S=>hb (by rw[h];exact bH))];exact e
theorem ch4(a:Value){Q₁:Value->Shared->Prop}
  (h:Q₁ (.ref s.heap.objs.size) {s with heap:=s.heap.push {cls:=.type "set",dict:=none,data:=.set #[] 0 (.fresh 0 0 (u0 w))}}) :
  codeAny (model prog w) A (.call (.builtin "set.__new__") ⟨[.type "set",a],[]⟩) (wants Q₁ E) s:=by
 refine codeAny_of_tree ?_;show wpAny _ A.in1 (do checkBuiltinCall "set.__new__" ⟨[.type "set",a],[]⟩;again (.builtin "set.__new__" ⟨[.type "set",a],[]⟩)) _ _ s
 refine wpAny_bind (wpAny_of_eq (F.newCall_set_1 a) (wpAny_pure ⟨plainId_quiet F.plain_set_new _,codeAny_builtin F.entry_set_new ?_⟩));rw[Around.under_plainId F.plain_set_new _];unfold Builtin.«set.__new__» Builtin.Frozenset.newClass;have hsub:=sub_set_self;obtain⟨hp,g,d,tk,os⟩:=s;dsimp only
 wp_walk
 refine wpAny_askSetting (wpAny_pure ?_);dsimp only
 simp only[newObj]
 refine wpAny_bind (wpAny_alloc (wpAny_pure ?_));exact wpAny_pure h
theorem bj0{h:Heap}{a:Addr}{led:Bool}(e:h.get? a=some {cls:=.type "set",dict:=none,data:=.set #[] 0 (.fresh 0 0 led)}):n7 knd h a led []:=
 (λz_ k_=>k_ _ (#[]) 0 _ [] e ⟨rfl,rfl,rfl⟩ rfl .nil (.refl _) .nil (by unfold scanBound;simp) rfl (cg9 led))
theorem bl3{S l:Addr}{items:Array Value}{val:Nat->K}{led:Bool}{QF:PySem.Fin->Shared->Prop}(hh:A.handled=none)(hS:s.heap.get? S=some {cls:=.type "set",dict:=none,data:=.set #[] 0 (.fresh 0 0 led)})(hl:s.heap.IsList l items)(hlS:l≠S)
  (hval:∀ (i:Nat) (v:Value),items[i]?=some v->V8 knd v (val i)) (hb:items.size+1<scanBound)
  (h:∀ (h':Heap) (tk:Nat),n7 knd h' S led (((eQ 0 items.size).map val).foldl p9 [])->(∀ b o,b≠S->s.heap.get? b=some o->h'.get? b=some o)->QF (.done (.ret .none)) {s with heap:=h',toks:=tk}) :
  wpAny (model prog w) A (Builtin.«set.__init__» ⟨[.ref S,.ref l],[]⟩) QF E s:=by
 obtain⟨ol,hol,hcl,nl,hdl⟩:=id hl;obtain⟨ocls,odict,odata,oslots⟩:=ol;simp only at hcl hdl
 subst hcl;subst hdl;have hT:s.TypeIs (.ref S) "set":=⟨_,hS,rfl⟩;have hsls:=F.sub_list_set;have hslf:=F.sub_list_frozenset;have hne:(Value.type "list" == Value.type "dict")=false:=by decide
 unfold Builtin.«set.__init__» noKeywords Builtin.Frozenset.updateFrom;generalize hPI:pyIter=PI
 wp_walk
 subst hPI;refine wpAny_pyIter_list hl (wpAny_bind (wpAny_runValue ?_));have hlI:l≠s.heap.objs.size:=br (aU hol);have hSI:S≠s.heap.objs.size:=br (aU hS);have hh3:A.in1.handled=none:=hh;refine bo2 ((Walks.list hh3 _ l hlI items).toS) S (by simp only[au,aj,aO,or_false,not_or];exact⟨hSI,hlS.symm⟩) (led:=led) val hval hb (items.size-0) 0 _ [] (by lia) (aE _) (aE _)
  ⟨⟨_,aB _ rfl,rfl,rfl⟩,(hl.push _)⟩ (bj0 (an _ hS)) ?_
 intro s' hm hS';obtain⟨h',g',d',tk',os'⟩:=s';have eg:g'=s.gens:=hm.gens;have ed:d'=s.drawn:=hm.drawn;have eo:os'=s.os:=hm.os;subst eg;subst ed;subst eo;show wpAny _ _ _ _ _ _;refine wpAny_pure ?_;show wpAny _ _ (ret Value.none) _ _ _;refine wpAny_pure (h h' tk' hS' λb o hb e=>hm.heap b o (by simp only[au,aj,aO,or_false,not_or];exact⟨hb,br (aU e)⟩) (an _ e))
theorem aS9{l:Addr}{items:Array Value}{val:Nat->K}{Q:Value->Shared->Prop}
  (hh:A.handled=none) (hl:s.heap.IsList l items) (hval:∀ (i:Nat) (v:Value),items[i]?=some v->V8 knd v (val i)) (hb:items.size+1<scanBound)
  (h:∀ (h':Heap) (tk:Nat),n7 knd h' s.heap.objs.size (u0 w) (((eQ 0 items.size).map val).foldl p9 [])->
   (∀ b o,b<s.heap.objs.size->s.heap.get? b=some o->h'.get? b=some o)->Q (.ref s.heap.objs.size) {s with heap:=h',toks:=tk}) :
  wpAny (model prog w) A (call (.type "set") [.ref l]) Q E s:=by
 refine p8 F.called_set.mro λc tl hmro=>?_
 have hmade:=F.called_set.made;have hsub:=F.called_set.sub;refine wpAny_call (codeAny_of_tree ?_);show wpAny _ _ (callAny (.type "set") _) _ _ _;refine wpAny_pure ⟨Code.quiet_builtin _ (by decide +kernel),codeAny_builtin F.entry_type_call ?_⟩
 rw[Around.under_plain (weight_type_call_type "set" [.ref l] []) rfl];have h1:=F.called_set.notType;have h2:=F.called_set.canCreate;have hct:=F.typeCall_set_1 (.ref l)
 repeat (any_goals (first | assumption | wp_step))
 refine codeAny_mono (ch4 (.ref l) (E:=E) (Q₁:=λobj sv=>obj=.ref s.heap.objs.size/\sv={s with heap:=s.heap.push {cls:=.type "set",dict:=none,data:=.set #[] 0 (.fresh 0 0 (u0 w))}}) ⟨rfl,rfl⟩) λr sv hr=>?_
 generalize hled:u0 w=led at hr h;cases r with
 | error e=>exact hr
 | ok fl=>
  cases fl with
  | ret obj=>
   refine c6 hr λq1_ q2_=>?_;try clear hr;subst q1_;subst q2_
   have hS:(s.heap.push {cls:=.type "set",dict:=none,data:=.set #[] 0 (.fresh 0 0 led)}).get? s.heap.objs.size=some {cls:=.type "set",dict:=none,data:=.set #[] 0 (.fresh 0 0 led)}:=aB _ rfl;have hT:Shared.TypeIs {s with heap:=s.heap.push {cls:=.type "set",dict:=none,data:=.set #[] 0 (.fresh 0 0 led)}} (.ref s.heap.objs.size) "set":=⟨_,hS,rfl⟩
   have hli:=F.called_set.init.lookup;have hbi:=F.called_set.init.bind (.ref s.heap.objs.size)
   repeat (any_goals (first | assumption | wp_step))
   refine codeAny_mono (codeAny_call_builtin (R:=wants (λr s2=>r=.none/\∃ h' tk,s2={s with heap:=h',toks:=tk}/\
     n7 knd h' s.heap.objs.size led (((eQ 0 items.size).map val).foldl p9 [])/\
     (∀ b o,b<s.heap.objs.size->s.heap.get? b=some o->h'.get? b=some o)) E) F.called_set.init.plain F.entry_set_init (check_set_init_1 hT ?_)) λr2 s2 hr2=>?_
   ·exact bl3 (A:=A.in1.in1) hh hS (hl.push _) (br (by refine a9 hl λz_ e z_=>?_;exact aU e)) hval hb λh' tk h1 h2=>⟨rfl,h',tk,rfl,h1,λb o hb e=>h2 b o (br hb) (an _ e)⟩
   ·cases r2 with
    | error e=>exact hr2
    | ok fl2=>
     cases fl2 with
     | ret r=>
      obtain⟨rfl,h',tk,rfl,hS',hk'⟩:=hr2
      repeat (any_goals (first | assumption | wp_step))
      exact h _ _ hS' hk'
     | _=>exact hr2.elim
  | _=>exact hr.elim
end
theorem E2:Slot "set_iterator" "__next__" "set_iterator.__next__":=
 .of (owner:="set_iterator") (n:="__next__") (by rw[typeLookup_type,builtinLookup_eq_fast];kernel_rfl) (by decide +kernel) (by decide +kernel) (by decide +kernel)
  (by first | exact .inl (by decide +kernel) | exact .inr (by decide +kernel)) (by rw[isSubtype_type];kernel_rfl)
theorem ak8:entryFor table "set_iterator.__next__" = some Builtin.«set_iterator.__next__»:=entryFor_of_tree (by kernel_rfl)
section
variable{Ma:Model}{A:Around}{E:Value->Shared->Prop}{s:Shared}
theorem bd6{src:Source}{n:Nat}{Q:Nat->Shared->Prop}(hn:n≠0)(h:∀ i dr,i<n->Q i {s with drawn:=dr}):wpAny Ma A (choose src n) Q E s:=λΓ p hΓ=>by
 exact⟨hn,h _ _ (Nat.mod_lt _ (Nat.pos_of_ne_zero hn))⟩
theorem ac7{α:Type}:∀ {l:List α} {i:Nat} (h:i<l.length),(l[i]::l.eraseIdx i).Perm l
 | x::xs,0,h=>.refl _
 | x::xs,i+1,h=>by
  simp only[List.getElem_cons_succ,List.eraseIdx_cons_succ]
  exact(List.Perm.swap _ _ _).trans ((ac7 (l:=xs) (i:=i) (by simpa using h)).cons x)
theorem bP7{α:Type}(n:Nat):∀ (xs:List α) {s:Shared} {Q:List α->Shared->Prop},xs.length=n->(∀ l dr,l.Perm xs->Q l {s with drawn:=dr})->wpAny Ma A (drawOrder n xs) Q E s:=by
 induction n with
 | zero=>
  intro xs s Q hl h;obtain rfl:=cg.mp hl;exact wpAny_pure (a:=[]) (h [] s.drawn (.refl _))
 | succ n ih=>
  intro xs s Q hl h;cases xs with
  | nil=>cases hl
  | cons x xs=>
   show wpAny Ma A (choose .order (x::xs).length >>= _) Q E s;refine wpAny_bind (bd6 (fE _) λi dr hi=>?_)
   rw[aa hi];refine wpAny_bind (ih ((x::xs).eraseIdx i) (s:={s with drawn:=dr}) (by rw[fg hi];exact Nat.succ.inj hl) λl dr' hp=>?_)
   exact wpAny_pure (h _ dr' ((hp.cons _).trans (ac7 hi)))
end
theorem bd3{α:Type}{next:Nat->Nat}(fuel:Nat):∀ (k:Nat) (left:List α) (out:Array α),left.length=fuel->(pickOrder.go next fuel k left out).toList.Perm (out.toList++left):=by
 induction fuel with
 | zero=>
  intro k left out h;obtain rfl:=cg.mp h;rw[aS];exact .refl _
 | succ fuel ih=>
  intro k left out h;have hi:next k%left.length<left.length:=Nat.mod_lt _ (by rw[h];exact gQ _)
  have e:pickOrder.go next (fuel+1) k left out=pickOrder.go next fuel (k+1) (left.eraseIdx (next k%left.length)) (out.push left[next k%left.length]):=by
   show(match left[next k%left.length]? with | some x=>pickOrder.go next fuel (k+1) (left.eraseIdx (next k%left.length)) (out.push x) | none=>out)=_
   rw[aa hi]
  rw[e];refine(ih (k+1) _ _ (by rw[fg hi,h];rfl)).trans ?_
  rw[cN,aH];exact List.Perm.append_left _ (ac7 hi)
theorem bP0{α:Type}(next:Nat->Nat)(xs:Array α):(pickOrder next xs).toList.Perm xs.toList:=by
 have:=bd3 (next:=next) xs.size 0 xs.toList #[] (by simp)
 simpa[pickOrder] using this
noncomputable def u6(fst:Value)(i:Nat)(a:Addr)(n ep:Nat):Obj:={cls:=.type "set_iterator",data:=.fields #[fst,rawInt i,.ref a,rawInt n,rawInt ep]}
theorem aj0(a:Value):argsOk "set_iterator.__next__" ⟨[a],[]⟩:=by unfold argsOk;kernel_rfl
section
variable{prog:Program}{w:World}{A:Around}{E:Value->Shared->Prop}{s:Shared}
theorem ag3{I a:Addr}{o:Obj}{es:Array (Int×Value)}{ep i:Nat}{t:SetTable}{fst:Value}{QF:PySem.Fin->Shared->Prop}{E:Value->Shared->Prop}(hI:s.heap.get? I=some (u6 fst i a es.size ep))
  (ha:s.heap.get? a=some o) (hd:o.data=.set es ep t) (hf:t.fits es.size=true)
  (h:wpAny (model prog w) A (match fst with
   | .int slot _=>do
    match <- setNext a slot.toNat ((i:Int)).toNat ((ep:Int)).toNat with
    | some (x,next)=>
     setField (.ref I) 0 (rawInt next)
     setField (.ref I) 1 (rawInt ((i:Int)+1))
     ret x
    | none=>setField (.ref I) 2 .none;raiseNew (<- newExc (.type "StopIteration") [])
   | _=>do
    let some places <- seqItems? fst | unsupported "internal:set_iterator"
    match places[((i:Int)).toNat]? with
    | some (.int place _)=>
     let x <- setNextDrawn a place.toNat ((ep:Int)).toNat
     setField (.ref I) 1 (rawInt ((i:Int)+1))
     ret x
    | some _=>unsupported "internal:set_iterator"
    | none=>setField (.ref I) 0 (rawInt 0);setField (.ref I) 2 .none;raiseNew (<- newExc (.type "StopIteration") [])) QF E s) :
  wpAny (model prog w) A (Builtin.«set_iterator.__next__» ⟨[.ref I],[]⟩) QF E s:=by
 unfold Builtin.«set_iterator.__next__»;refine wpAny_bind (m:=slotArgs "__next__" 0 ⟨[.ref I],[]⟩) (wpAny_pure ?_);show wpAny _ _ (fieldsOf (.ref I) >>= _) _ _ s;refine wpAny_bind (wpAny_fieldsOf hI rfl ?_);show wpAny _ _ (setEntries a >>= _) _ _ s;refine wpAny_bind (wpAny_setEntries_of ha hd hf ?_);dsimp only
 rw[if_neg (by simp)]
 exact h
theorem ce8{I a tp:Addr}{o:Obj}{es:Array (Int×Value)}{ep i:Nat}{t:SetTable}{ps:List Nat}{x:Value}{h1:Int}{p:Nat}{Q:Option Value->Shared->Prop}(hI:s.heap.get? I=some (u6 (.ref tp) i a es.size ep))
  (ha:s.heap.get? a=some o) (hd:o.data=.set es ep t) (hf:t.fits es.size=true) (htp:s.heap.get? tp=some {cls:=.type "tuple",data:=.seq (ps.map fun(k:Nat)=>rawInt k).toArray})
  (hp:ps[i]?=some p) (hx:es[p]?=some (h1,x))
  (hQ:∀ h',h'.get? I=some (u6 (.ref tp) (i+1) a es.size ep)->Heap.SameBut I s.heap h'->Q (some x) {s with heap:=h'}):wpAny (model prog w) A (pyNext (.ref I)) Q E s:=by
 have hT:s.TypeIs (.ref I) "set_iterator":=⟨_,hI,rfl⟩;unfold pyNext;refine wpAny_bind (wpAny_attempt (wpAny_callSpecial?_slot (name:=Str.ofString "__next__") hT E2 (wpAny_call_entry E2 hT ak8 ?_ (aj0 _))));refine ag3 hI ha hd hf ?_;have hps:((ps.map fun(k:Nat)=>rawInt k).toArray)[((i:Int)).toNat]?=some (rawInt p):=by
  simp[hp]
 show wpAny _ _ (seqItems? (.ref tp) >>= _) _ _ s;refine wpAny_bind (wpAny_seqItems htp rfl ?_);dsimp only
 rw[hps];show wpAny _ _ (setNextDrawn a ((p:Int)).toNat ((ep:Int)).toNat >>= _) _ _ s;unfold setNextDrawn;refine wpAny_bind (wpAny_bind (wpAny_setState_of ha hd hf ?_));dsimp only
 rw[if_neg (by simp)]
 rw[show((p:Int)).toNat=p by lia,hx]
 refine wpAny_pure ?_;refine wpAny_bind (wpAny_setField_rec hI (by simp) λh' hI' hs'=>?_)
 refine wpAny_pure ⟨_,rfl,?_⟩;exact wpAny_pure (hQ h' hI' hs')
theorem bz0(hh:A.handled=none){Q:PySem.Fin->Shared->Prop}(h:∀ (h':Heap) (e:Addr) (o:Obj),(∀ b ob,s.heap.get? b=some ob->h'.get? b=some ob)->h'.get? e=some o->o.cls=.type "StopIteration"->E (.ref e) {s with heap:=h'}) :
  wpAny (model prog w) A (do raiseNew (<- newExc (.type "StopIteration") [])) Q E s:=by
 show wpAny _ _ (newExc (.type "StopIteration") [] >>= _) _ _ _;refine wpAny_bind ?_;simp only[newExc,newTuple]
 refine wpAny_bind (wpAny_newObj_type ?_ (by size_fits))
 refine wpAny_bind (m:=firstArgMember _ _) (wpAny_of_eq (a:=Value.none) (by first | rfl | (simp only[firstArgMember];rfl)) ?_)
 refine wpAny_newObj_type ?_ (by size_fits)
 unfold raiseNew;refine wpAny_bind (wpAny_handled ?_);rw[hh];refine wpAny_bind (wpAny_pure (wpAny_throw ?_));exact h _ _ _ (λb o e=>an _ (an _ e)) (aB _ rfl) rfl
theorem ag6{I a:Addr}{o:Obj}{es:Array (Int×Value)}{ep i:Nat}{t:SetTable}{fst:Value}{Q:Option Value->Shared->Prop}(hh:A.handled=none)(hI:s.heap.get? I=some (u6 fst i a es.size ep))
  (ha:s.heap.get? a=some o) (hd:o.data=.set es ep t) (hf:t.fits es.size=true)
  (hfst:(∃ slot tk,fst=.int slot tk/\∀ (Q':Option (Value×Nat)->Shared->Prop) (E':Value->Shared->Prop),Q' none s->wpAny (model prog w) A.in1 (setNext a slot.toNat ((i:Int)).toNat ((ep:Int)).toNat) Q' E' s)∨
   (∃ tp ps,fst=.ref tp/\s.heap.get? tp=some {cls:=.type "tuple",data:=.seq ps}/\ps.size<=i))
  (hQ:∀ h',Heap.ExtBut I s.heap h'->Q none {s with heap:=h'}):wpAny (model prog w) A (pyNext (.ref I)) Q E s:=by
 have hT:s.TypeIs (.ref I) "set_iterator":=⟨_,hI,rfl⟩;unfold pyNext;refine wpAny_bind (wpAny_attempt (wpAny_callSpecial?_slot (name:=Str.ofString "__next__") hT E2 (wpAny_call_entry E2 hT ak8 ?_ (aj0 _))));refine ag3 hI ha hd hf ?_;have fin:∀ {qz:Heap} {QF:PySem.Fin->Shared->Prop},Heap.SameBut I s.heap qz->wpAny (model prog w) A.in1 (do raiseNew (<- newExc (.type "StopIteration") [])) QF (λe s'=>wpAny (model prog w) A (do if (<- isInstance e (.type "StopIteration"))=true then pure none else throw e) Q E s') {s with heap:=qz}:=fun{qz QF} hs=>by
  refine bz0 (by exact hh) λh' e ob hx he hc=>?_
  refine wpAny_bind (wpAny_isInstance (T:="StopIteration") (b:=true) ⟨_,he,hc⟩ isSubtype_stop ?_);exact wpAny_pure (hQ h' λb o' hb e'=>hx b o' ((hs.2 b hb).trans e'))
 rcases hfst with ⟨slot,tk,rfl,hn⟩ | ⟨tp,ps,rfl,htp,hps⟩
 ·refine wpAny_bind (hn _ _ ?_)
  dsimp only
  refine wpAny_bind (wpAny_setField_rec hI (by simp) λh' hI' hs'=>?_)
  exact fin hs'
 ·show wpAny _ _ (seqItems? (.ref tp) >>= _) _ _ s
  refine wpAny_bind (wpAny_seqItems htp rfl ?_);dsimp only
  rw[show ps[((i:Int)).toNat]?=none by simp;omega]
  dsimp only
  refine wpAny_bind (wpAny_setField_rec hI (by simp) λh' hI' hs'=>?_)
  refine wpAny_bind (wpAny_setField_rec (s:={s with heap:=h'}) hI' (by simp) λh'' hI'' hs''=>?_)
  exact fin (hs'.trans hs'')
end
theorem bB8:entryFor table "set.__iter__" = some Builtin.«frozenset.__iter__»:=
 entryFor_alias (id':="frozenset.__iter__") (by kernel_rfl) rfl (by decide +kernel) (by kernel_rfl)
section
variable{prog:Program}{w:World}{A:Around}{E:Value->Shared->Prop}{s:Shared}
theorem Y0{Q:Bool->Shared->Prop}(h:Q (!u0 w) s):wpAny (model prog w) A setsByText Q E s:=by
 unfold setsByText;refine wpAny_bind (wpAny_askSetting (wpAny_pure ?_));unfold u0 at h;rw[Bool.not_not] at h;exact h
theorem aq9{a:Addr}{o:Obj}{es:Array (Int×Value)}{ep i slot:Nat}{t:SetTable}{Q:Option (Value×Nat)->Shared->Prop}(hw:u0 w=false)(ha:s.heap.get? a=some o)(hd:o.data=.set es ep t)(hf:t.fits es.size=true)
  (h:Q (((pickOrder (w.params.setOrder a ep) es)[i]?).map λe=>(e.2,slot)) s):wpAny (model prog w) A (setNext a slot i ep) Q E s:=by
 unfold setNext;refine wpAny_bind (wpAny_setState_of ha hd hf ?_);dsimp only
 refine wpAny_bind (Y0 ?_);rw[hw];rw[Bool.not_false,if_pos rfl];rw[if_neg (by simp)]
 refine wpAny_bind ?_;unfold setWalk;refine wpAny_bind (wpAny_setState_of ha hd hf ?_);dsimp only
 refine wpAny_bind (Y0 ?_);rw[hw];rw[Bool.not_false,if_pos rfl];refine wpAny_bind (wpAny_askSetting (wpAny_pure (wpAny_pure h)))
theorem aF3{a:Addr}{o:Obj}{es:Array (Int×Value)}{ep i slot:Nat}{t:SetTable}{Q:Option (Value×Nat)->Shared->Prop}(hw:u0 w=true)(ha:s.heap.get? a=some o)(hd:o.data=.set es ep t)(hf:t.fits es.size=true)
  (ht:Tidy t true) (hdr:(!t.plain&&decide (es.size > 1))=false) (hi:SetTable.below t.place slot=i)
  (h1:∀ x j h0,es[i]?=some (h0,x)->t.place[i]?=some j->Q (some (x,j+1)) s) (h2:es.size<=i->Q none s):wpAny (model prog w) A (setNext a slot i ep) Q E s:=by
 unfold setNext;refine wpAny_bind (wpAny_setState_of ha hd hf ?_);dsimp only
 refine wpAny_bind (Y0 ?_);rw[hw];rw[Bool.not_true,if_neg ag];show wpAny _ _ (if (!t.plain&&decide (es.size > 1))=true then _ else _) _ _ s
 rw[if_neg (by rw[hdr];simp)]
 show wpAny _ _ ((if (!t.led && !es.isEmpty)=true then unsupported "set:maker-not-led" else pure ()) >>= _) _ _ s
 rw[if_neg (by rw[ht.led];simp)]
 refine wpAny_bind (wpAny_pure (wpAny_pure ?_));have hsz:t.place.size=es.size:=by
  unfold SetTable.fits at hf;simp only[bo,beq_iff_eq] at hf
  exact hf.1
 rw[hi];by_cases hlt:i<es.size
 ·have e1:es[i]?=some (es[i].1,es[i].2):=aG hlt
  have e2:t.place[i]?=some t.place[i]:=aG (by lia)
  rw[e1,e2];exact h1 _ _ _ e1 e2
 ·rw[show es[i]?=none by simp;lia]
  exact h2 (by lia)
theorem aE9{I a:Addr}{o:Obj}{es:Array (Int×Value)}{ep i slot:Nat}{t:SetTable}{x:Value}{nx:Nat}{Q:Option Value->Shared->Prop}(hI:s.heap.get? I=some (u6 (rawInt slot) i a es.size ep))
  (ha:s.heap.get? a=some o) (hd:o.data=.set es ep t) (hf:t.fits es.size=true)
  (hn:∀ (Q':Option (Value×Nat)->Shared->Prop) (E':Value->Shared->Prop),Q' (some (x,nx)) s->wpAny (model prog w) A.in1 (setNext a slot i ep) Q' E' s)
  (hQ:∀ h',h'.get? I=some (u6 (rawInt nx) (i+1) a es.size ep)->Heap.SameBut I s.heap h'->Q (some x) {s with heap:=h'}):wpAny (model prog w) A (pyNext (.ref I)) Q E s:=by
 have hT:s.TypeIs (.ref I) "set_iterator":=⟨_,hI,rfl⟩;unfold pyNext;refine wpAny_bind (wpAny_attempt (wpAny_callSpecial?_slot (name:=Str.ofString "__next__") hT E2 (wpAny_call_entry E2 hT ak8 ?_ (aj0 _))));refine ag3 hI ha hd hf ?_;show wpAny _ _ (setNext a ((slot:Int)).toNat ((i:Int)).toNat ((ep:Int)).toNat >>= _) _ _ s;rw[show((slot:Int)).toNat=slot by lia,show((i:Int)).toNat=i by lia,show((ep:Int)).toNat=ep by lia]
 refine wpAny_bind (hn _ _ ?_);dsimp only
 refine wpAny_bind (wpAny_setField_rec hI (by simp) λh' hI' hs'=>?_)
 refine wpAny_bind (wpAny_setField_rec (s:={s with heap:=h'}) hI' (by simp) λh'' hI'' hs''=>?_)
 refine wpAny_pure ⟨_,rfl,?_⟩;exact wpAny_pure (hQ h'' hI'' (hs'.trans hs''))
end
theorem aJ1:Slot "set_iterator" "__iter__" "set_iterator.__iter__":=
 .of (owner:="set_iterator") (n:="__iter__") (by rw[typeLookup_type,builtinLookup_eq_fast];kernel_rfl) (by decide +kernel) (by decide +kernel) (by decide +kernel)
  (by first | exact .inl (by decide +kernel) | exact .inr (by decide +kernel)) (by rw[isSubtype_type];kernel_rfl)
theorem bq1:entryFor table "set_iterator.__iter__" = some Builtin.«dict_keyiterator.__iter__»:=
 entryFor_alias (id':="dict_keyiterator.__iter__") (by kernel_rfl) rfl (by decide +kernel) (by kernel_rfl)
theorem cb8(a:Value):argsOk "set_iterator.__iter__" ⟨[a],[]⟩:=by unfold argsOk;kernel_rfl
section
variable{prog:Program}{w:World}{A:Around}{E:Value->Shared->Prop}{s:Shared}
theorem aZ8{I:Addr}{o:Obj}{Q:Value->Shared->Prop}(hI:s.heap.get? I=some o)(hc:o.cls=.type "set_iterator")(h:Q (.ref I) s):wpAny (model prog w) A (pyIter (.ref I)) Q E s:=by
 have hT:s.TypeIs (.ref I) "set_iterator":=⟨_,hI,hc⟩;refine wpAny_pyIter_slot hT aJ1 (wpAny_call_entry aJ1 hT bq1 ?_ (cb8 _));show wpAny _ _ (ret (.ref I)) _ _ s;exact wpAny_pure ⟨_,rfl,"set_iterator",_,hT,E2.lookup,h⟩
noncomputable def Q0:Array GenState->Array GenState->Prop:=λa b=>b=a
theorem ae0{I a:Addr}{o:Obj}{es:Array (Int×Value)}{ep:Nat}{t:SetTable}{L:List Value}(X:List (Addr×Obj))(C:Nat->Value->Prop)(hIa:I≠a)(hX:∀ p∈X,p.1≠I)
  (item:∀ (i:Nat) (s:Shared) (fst:Value) (x:Value) (Q:Option Value->Shared->Prop) (E:Value->Shared->Prop),L[i]?=some x->C i fst->s.heap.get? I=some (u6 fst i a es.size ep)->s.heap.get? a=some o->(∀ p∈X,s.heap.get? p.1=some p.2)->
   (∀ h' fst',C (i+1) fst'->h'.get? I=some (u6 fst' (i+1) a es.size ep)->Heap.SameBut I s.heap h'->Q (some x) {s with heap:=h'})->wpAny (model prog w) A (pyNext (.ref I)) Q E s)
  (done:∀ (s:Shared) (fst:Value) (Q:Option Value->Shared->Prop) (E:Value->Shared->Prop),C L.length fst->s.heap.get? I=some (u6 fst L.length a es.size ep)->s.heap.get? a=some o->(∀ p∈X,s.heap.get? p.1=some p.2)->
   (∀ h',Heap.ExtBut I s.heap h'->Q none {s with heap:=h'})->wpAny (model prog w) A (pyNext (.ref I)) Q E s) :
  WalksS prog w A I (I::a::X.map (·.1)) [I] Q0 L.length (λi v=>L[i]?=some v) (λi s=>s.heap.get? a=some o/\(∀ p∈X,s.heap.get? p.1=some p.2)/\∃ fst,C i fst/\s.heap.get? I=some (u6 fst i a es.size ep)) where
 sub:=λb hb=>by simp at hb;simp[hb]
 grefl:=λz_=>rfl
 gtrans:=λz_ z_ z_ x y=>y.trans x
 frame:=λi s h' tk p0 z_ hk=>by obtain⟨h1,h2,fst,hc,h3⟩:=p0;exact⟨hk a (by simp) _ h1,λp hp=>hk p.1 (by simp;exact .inr (.inr ⟨_,hp⟩)) _ (h2 p hp),fst,hc,hk I (by simp) _ h3⟩
 item:=λi s Q E hi p0 hQ=>by
  obtain⟨h1,h2,fst,hc,h3⟩:=p0;refine item i s fst L[i] Q E (aa hi) hc h3 h1 h2 λh' fst' hc' h3' hs=>?_
  refine hQ _ _ (aa hi) ⟨(hs.2 a hIa.symm).trans h1,λp hp=>(hs.2 p.1 (hX p hp)).trans (h2 p hp),fst',hc',h3'⟩ ⟨λb ob hb e=>(hs.2 b (by simpa using hb)).trans e,rfl,rfl,rfl,aC _⟩
 done:=λs Q E p0 hQ=>by
  obtain⟨h1,h2,fst,hc,h3⟩:=p0;refine done s fst Q E hc h3 h1 h2 λh' hs=>?_
  exact hQ _ ⟨λb ob hb e=>hs b ob (by simpa using hb) e,rfl,rfl,rfl,aC _⟩
 self:=λi s Q E p0 hQ=>by obtain⟨h1,h2,fst,hc,h3⟩:=p0;exact aZ8 h3 rfl hQ
theorem bC8{I a:Addr}{o:Obj}{es:Array (Int×Value)}{ep:Nat}{t:SetTable}(hh:A.handled=none)(hIa:I≠a)(hw:u0 w=false)(hd:o.data=.set es ep t)(hf:t.fits es.size=true) :
  WalksS prog w A I [I,a] [I] Q0 ((pickOrder (w.params.setOrder a ep) es).toList.map (·.2)).length (λi v=>((pickOrder (w.params.setOrder a ep) es).toList.map (·.2))[i]?=some v)
   (λi s=>s.heap.get? a=some o/\(∀ p∈([]:List (Addr×Obj)),s.heap.get? p.1=some p.2)/\∃ fst,fst=rawInt (0:Nat)/\s.heap.get? I=some (u6 fst i a es.size ep)):=
 ae0 (L:=(pickOrder (w.params.setOrder a ep) es).toList.map (·.2)) (t:=t) [] (λz_ fst=>fst=rawInt (0:Nat)) hIa (by simp)
  (λi s fst x Q E hx hc h3 h1 z_ hQ=>by
   subst hc;rw[aw,aD] at hx;refine aE9 (slot:=0) (nx:=0) h3 h1 hd hf (λQ' E' hq=>aq9 hw h1 hd hf ?_) λh' h'' hs=>hQ h' _ rfl h'' hs
   cases hp:(pickOrder (w.params.setOrder a ep) es)[i]? with
   | none=>rw[hp] at hx;cases hx
   | some e=>rw[hp] at hx;simp at hx;subst hx;exact hq)
  (λs fst Q E hc h3 h1 z_ hQ=>by
   subst hc;refine ag6 hh h3 h1 hd hf (.inl ⟨_,_,rfl,λQ' E' hq=>?_⟩) hQ
   rw[show(((0:Nat):Int)).toNat=0 by rfl,show((ep:Int)).toNat=ep by lia]
   refine aq9 hw h1 hd hf ?_;rw[show(pickOrder (w.params.setOrder a ep) es)[(((((pickOrder (w.params.setOrder a ep) es).toList.map (·.2)).length:Nat):Int)).toNat]?=none by simp]
   exact hq)
theorem bQ5{I a:Addr}{o:Obj}{es:Array (Int×Value)}{ep:Nat}{t:SetTable}(hh:A.handled=none)(hIa:I≠a)(hw:u0 w=true)(ht:Tidy t true)(hdr:(!t.plain&&decide (es.size > 1))=false)(hd:o.data=.set es ep t)(hf:t.fits es.size=true) :
  WalksS prog w A I [I,a] [I] Q0 (es.toList.map (·.2)).length (λi v=>(es.toList.map (·.2))[i]?=some v)
   (λi s=>s.heap.get? a=some o/\(∀ p∈([]:List (Addr×Obj)),s.heap.get? p.1=some p.2)/\∃ fst,(∃ slot:Nat,fst=rawInt slot/\SetTable.below t.place slot=i)/\s.heap.get? I=some (u6 fst i a es.size ep)):=
 ae0 (L:=es.toList.map (·.2)) (t:=t) [] (λi fst=>∃ slot:Nat,fst=rawInt slot/\SetTable.below t.place slot=i) hIa (by simp)
  (λi s fst x Q E hx hc h3 h1 z_ hQ=>by
   obtain⟨slot,rfl,hb⟩:=hc;rw[aw,aD] at hx;have hsz:t.place.size=es.size:=by
    unfold SetTable.fits at hf;simp only[bo,beq_iff_eq] at hf
    exact hf.1
   have hlt:i<es.size:=by
    cases hp:es[i]? with
    | none=>rw[hp] at hx;cases hx
    | some e=>exact(bG.mp hp).1
   have e2:t.place[i]?=some t.place[i]:=aG (by lia)
   refine aE9 (slot:=slot) (nx:=t.place[i]+1) h3 h1 hd hf (λQ' E' hq=>aF3 hw h1 hd hf ht hdr hb ?_ λq=>by lia) λh' h'' hs=>hQ h' _ ⟨_,rfl,br8 ht.rise e2⟩ h'' hs
   intro y j h0 ey ej;rw[ey] at hx;simp at hx;subst hx;rw[e2] at ej;replace ej:=g8 ej;subst ej;exact hq)
  (λs fst Q E hc h3 h1 z_ hQ=>by
   obtain⟨slot,rfl,hb⟩:=hc;refine ag6 hh h3 h1 hd hf (.inl ⟨_,_,rfl,λQ' E' hq=>?_⟩) hQ
   rw[show((slot:Int)).toNat=slot by lia,show((ep:Int)).toNat=ep by lia]
   refine aF3 hw h1 hd hf ht hdr (by rw[hb];lia) (λy j h0 ey ej=>?_) λz_=>hq
   have:=(bG.mp ey).1;simp at this)
theorem bG4{I a tp:Addr}{o:Obj}{es:Array (Int×Value)}{ep:Nat}{t:SetTable}{ps:List Nat}{L:List Value}(hh:A.handled=none)(hIa:I≠a)(hItp:tp≠I)(hd:o.data=.set es ep t)(hf:t.fits es.size=true)(hL:L.length=ps.length)
  (hps:∀ (i:Nat) x,L[i]?=some x->∃ p h0,ps[i]?=some p/\es[p]?=some (h0,x)) :
  WalksS prog w A I [I,a,tp] [I] Q0 L.length (λi v=>L[i]?=some v)
   (λi s=>s.heap.get? a=some o/\(∀ p∈[(tp,({cls:=.type "tuple",data:=.seq (ps.map fun(k:Nat)=>rawInt k).toArray}:Obj))],s.heap.get? p.1=some p.2)/\∃ fst,fst=.ref tp/\s.heap.get? I=some (u6 fst i a es.size ep)):=
 ae0 (L:=L) (t:=t) [(tp,{cls:=.type "tuple",data:=.seq (ps.map fun(k:Nat)=>rawInt k).toArray})] (λz_ fst=>fst=.ref tp) hIa (by simp[hItp])
  (λi s fst x Q E hx hc h3 h1 h2 hQ=>by
   subst hc;refine j8 (hps i x hx) λp h0 e1 e2=>?_
   exact ce8 h3 h1 hd hf (h2 _ bH) e1 e2 λh' h'' hs=>hQ h' _ rfl h'' hs)
  (λs fst Q E hc h3 h1 h2 hQ=>by
   subst hc;exact ag6 hh h3 h1 hd hf (.inr ⟨tp,_,rfl,h2 _ bH,by simp[hL]⟩) hQ)
theorem bI4{a:Addr}{o:Obj}{es:Array (Int×Value)}{ep:Nat}{t:SetTable}{Q:Value->Shared->Prop}(ha:s.heap.get? a=some o)(hc:o.cls=.type "set")(hd:o.data=.set es ep t)(hf:t.fits es.size=true)(ht:Tidy t (u0 w))(hz:es.size<=4096)
  (h:∀ (I:Addr) (fp:List Addr) (L:List Value) (St:Nat->Shared->Prop) (h':Heap) (dr:Drawn),(∀ A':Around,A'.handled=none->WalksS prog w A' I fp [I] Q0 L.length (λi v=>L[i]?=some v) St)->St 0 {s with heap:=h',drawn:=dr}->
   (∀ b ob,s.heap.get? b=some ob->h'.get? b=some ob)->s.heap.get? I=none->L.Perm (es.toList.map (·.2))->(∀ b∈fp,b<h'.objs.size)->I∈fp->(∀ b∈fp,b=a∨s.heap.get? b=none)->Q (.ref I) {s with heap:=h',drawn:=dr}) :
  wpAny (model prog w) A (pyIter (.ref a)) Q E s:=by
 have hT:s.TypeIs (.ref a) "set":=⟨_,ha,hc⟩;have hlt:=aU ha;refine wpAny_pyIter_slot hT F.slot_set_iter (wpAny_call_entry F.slot_set_iter hT bB8 ?_ (F.args_set_iter_1 _));unfold Builtin.«frozenset.__iter__»;refine wpAny_bind (m:=Builtin.Frozenset.slot0 "__iter__" ⟨[.ref a],[]⟩) (wpAny_pure ?_);unfold Builtin.Frozenset.sizeOf;refine wpAny_bind (wpAny_bind (wpAny_setEntries_of ha hd hf (wpAny_pure ?_)));unfold setDrawn;refine wpAny_bind (wpAny_bind (wpAny_setState_of ha hd hf ?_));dsimp only
 refine wpAny_bind (Y0 (wpAny_pure ?_));show wpAny _ _ (if (!!u0 w&&(!t.plain&&decide (es.size > 1)))=true then _ else _) _ _ s
 have hfresh:s.heap.get? s.heap.objs.size=none:=v3 _;have hna:s.heap.objs.size≠a:=λe=>by rw[e] at hfresh;rw[hfresh] at ha;exact f5 ha
 by_cases hdr:(!!u0 w&&(!t.plain&&decide (es.size > 1)))=true
 ·rw[if_pos hdr]
  refine wpAny_bind (bP7 es.size (List.range es.size) (by simp) λps dr hp=>?_)
  refine wpAny_bind ?_;unfold newTuple;refine wpAny_newObj_type ?_ (by show(ps.map fun(k:Nat)=>rawInt k).toArray.size<=sizeLine;rw[cC,ac,hp.length_eq,bF];exact ae hz (by decide))
  have ha1:(s.heap.push {cls:=.type "tuple",data:=.seq (ps.map fun(k:Nat)=>rawInt k).toArray}).get? a=some o:=an _ ha
  refine wpAny_bind (wpAny_setEpoch_of (s:={s with heap:=s.heap.push {cls:=.type "tuple",data:=.seq (ps.map fun(k:Nat)=>rawInt k).toArray},drawn:=dr}) ha1 hd hf ?_)
  unfold newFields;refine wpAny_bind (wpAny_newObj_type ?_ (by size_fits))
  have htp:(s.heap.push {cls:=.type "tuple",data:=.seq (ps.map fun(k:Nat)=>rawInt k).toArray}).get? s.heap.objs.size=some {cls:=.type "tuple",data:=.seq (ps.map fun(k:Nat)=>rawInt k).toArray}:=aB _ rfl
  have hsz1:(s.heap.push {cls:=.type "tuple",data:=.seq (ps.map fun(k:Nat)=>rawInt k).toArray}).objs.size=s.heap.objs.size+1:=by rw[dH]
  refine wpAny_pure ⟨_,rfl,"set_iterator",_,⟨_,aB _ rfl,rfl⟩,E2.lookup,?_⟩;have hI1:s.heap.objs.size+1≠a:=dz (bE hlt);have hfresh1:s.heap.get? (s.heap.objs.size+1)=none:=by
   cases q:s.heap.get? (s.heap.objs.size+1) with
   | none=>rfl
   | some ob=>exact absurd (aU q) (bg.mpr (dm _))
  have hL:∀ p∈ps,p<es.size:=λp q=>by simpa using hp.mem_iff.mp q
  show Q (.ref (s.heap.push _).objs.size) _;rw[hsz1];refine h (s.heap.objs.size+1) [s.heap.objs.size+1,a,s.heap.objs.size] (ps.map λp=>((es[p]?).map (·.2)).getD .none) _ _ dr
   (λA' hh=>bG4 (o:=o) (t:=t) (ps:=ps) hh hI1 (br (bp _)) hd hf (by simp) λi x hx=>?_) ⟨an _ ha1,λp hp'=>?_,.ref s.heap.objs.size,rfl,?_⟩ (λb ob e=>an _ (an _ e)) hfresh1 ?_ ?_ (by simp) (λb hb=>by
    simp at hb
    rcases hb with rfl | rfl | rfl
    ·exact .inr hfresh1
    ·exact .inl rfl
    ·exact .inr hfresh)
  ·rw[aw] at hx
   cases hq:ps[i]? with
   | none=>rw[hq] at hx;cases hx
   | some p=>
    have hlt':=hL p (aI hq);rw[hq] at hx;have e1:es[p]?=some (es[p].1,es[p].2):=aG hlt';rw[Option.map_some,e1] at hx;simp at hx
    exact⟨p,es[p].1,rfl,by rw[e1,hx]⟩
  ·simp at hp';subst hp';exact an _ htp
  ·rw[<- hsz1];exact aB _ rfl
  ·refine(hp.map _).trans ?_
   rw[show(List.range es.size).map (λp=>((es[p]?).map (·.2)).getD Value.none)=es.toList.map (·.2) from ?_]
   refine List.ext_getElem (by simp) λi h1 h2=>?_
   simp at h1
   simp[h1]
  ·intro b hb
   rw[dH,hsz1];simp at hb
   rcases hb with rfl | rfl | rfl
   ·exact bp _
   ·exact bE (bE hlt)
   ·exact bE (bp _)
 ·rw[if_neg hdr]
  refine wpAny_bind (wpAny_pure ?_);refine wpAny_bind (wpAny_setEpoch_of ha hd hf ?_);unfold newFields;refine wpAny_bind (wpAny_newObj_type ?_ (by size_fits))
  refine wpAny_pure ⟨_,rfl,"set_iterator",_,⟨_,aB _ rfl,rfl⟩,E2.lookup,?_⟩;have hIo:(s.heap.push (u6 (rawInt (0:Nat)) 0 a es.size ep)).get? s.heap.objs.size=some (u6 (rawInt (0:Nat)) 0 a es.size ep):=aB _ rfl;cases hw:u0 w with
  | false=>
   refine h s.heap.objs.size [s.heap.objs.size,a] ((pickOrder (w.params.setOrder a ep) es).toList.map (·.2)) _ _ s.drawn (λA' hh=>bC8 (t:=t) hh hna hw hd hf) ⟨an _ ha,by simp,rawInt (0:Nat),rfl,hIo⟩ (λb ob e=>an _ e) hfresh ((bP0 _ _).map _) ?_ (by simp) (λb hb=>by
    simp at hb
    rcases hb with rfl | rfl
    ·exact .inr hfresh
    ·exact .inl rfl)
   intro b hb;rw[dH];simp at hb
   rcases hb with rfl | rfl
   ·exact bp _
   ·exact bE hlt
  | true=>
   rw[hw] at hdr ht;refine h s.heap.objs.size [s.heap.objs.size,a] (es.toList.map (·.2)) _ _ s.drawn (λA' hh=>bQ5 (t:=t) hh hna hw ht (by simpa using hdr) hd hf) ⟨an _ ha,by simp,rawInt (0:Nat),⟨0,rfl,bi2 ht.rise⟩,hIo⟩ (λb ob e=>an _ e) hfresh (.refl _) ?_ (by simp) (λb hb=>by
    simp at hb
    rcases hb with rfl | rfl
    ·exact .inr hfresh
    ·exact .inl rfl)
   intro b hb;rw[dH];simp at hb
   rcases hb with rfl | rfl
   ·exact bp _
   ·exact bE hlt
theorem bv2{a:Addr}{Q:Bool->Shared->Prop}(hT:s.TypeIs (.ref a) "set")(h:Q false s):wpAny (model prog w) A (Builtin.List.listLengthHint (.ref a)) Q E s:=by
 unfold Builtin.List.listLengthHint;refine wpAny_bind (wpAny_specialOf hT F.slot_set_len.lookup ?_);have hs:splitId "set.__len__" = some ("set","__len__"):=by kernel_rfl
 dsimp only
 rw[hs];dsimp only
 refine wpAny_bind (wpAny_isInstance (T:="set") (b:=true) hT sub_set_self ?_);rw[if_neg (by decide)]
 rw[if_pos]
 ·refine wpAny_bind (wpAny_typeOf hT ?_)
  exact wpAny_pure h
 ·decide +kernel
set_option tactic.hygienic true in
theorem br2{a:Addr}{o:Obj}{es:Array (Int×Value)}{ep:Nat}{t:SetTable}{Q:List Value->Shared->Prop}(hh:A.handled=none)(ha:s.heap.get? a=some o)(hc:o.cls=.type "set")(hd:o.data=.set es ep t)(hf:t.fits es.size=true)(ht:Tidy t (u0 w))(hz:es.size<=4096)
  (h:∀ (vs:List Value) (s':Shared),vs.Perm (es.toList.map (·.2))->(∀ b ob,s.heap.get? b=some ob->s'.heap.get? b=some ob)->s'.gens=s.gens->s'.os=s.os->Q vs s') :
  wpAny (model prog w) A (collect (.ref a)) Q E s:=by
 have hlt:=aU ha;unfold collect;refine wpAny_bind (wpAny_runValue (codeAny_builtin F.entry_proto_collect ?_));rw[Around.under_plainId F.plain_proto_collect _];show wpAny _ A.in1 (newList [] >>= λl=>again (.builtin "list.__iadd__" ⟨[l,.ref a],[]⟩)) _ _ s
 refine wpAny_bind (wpAny_newObj_type ?_);refine wpAny_pure ⟨plainId_quiet F.plain_list_iadd _,codeAny_builtin F.entry_list_iadd ?_⟩;rw[Around.under_plainId F.plain_list_iadd _];have ha1:(s.heap.push {cls:=.type "list",data:=.seq ([]:List Value).toArray}).get? a=some o:=an _ ha;have hT:Shared.TypeIs {s with heap:=s.heap.push {cls:=.type "list",data:=.seq ([]:List Value).toArray}} (.ref a) "set":=⟨_,ha1,hc⟩
 show wpAny _ A.in1 (Builtin.List.listExtendWith (.ref s.heap.objs.size) (.ref a) (.ref s.heap.objs.size)) _ _ _;unfold Builtin.List.listExtendWith;refine wpAny_bind (wpAny_typeOf hT ?_);have h1:Builtin.List.listSameRef (.ref s.heap.objs.size) (.ref a)=false:=by
  simp[Builtin.List.listSameRef];exact dz hlt
 have h2:(Value.type "set" == Value.type "list")=false:=by decide
 have h3:(Value.type "set" == Value.type "tuple")=false:=by decide
 rw[h1,h2,h3];rw[if_neg (by decide)]
 refine wpAny_bind (bI4 ha1 hc hd hf ht hz λI fp L St h' dr W hst hk hfr hp hfp hI hfa=>?_)
 refine wpAny_bind (wpAny_holding ?_);have haI:h'.get? a=some o:=hk _ _ ha1;have hS0:h'.get? s.heap.objs.size=some {cls:=.type "list",data:=.seq ([]:List Value).toArray}:=hk _ _ (aB _ rfl);refine bv2 ⟨_,haI,hc⟩ ?_;dsimp only
 have hSf:s.heap.objs.size∉fp:=λq=>by
  rcases hfa _ q with e | e
  ·exact absurd e (dz hlt)
  ·rw[aB _ rfl] at e;exact z9 e
 split
 ·refine wpAny_bind (wpAny_rule ?_)
  refine wpAny_bind ?_;show wpAny _ A.in1 (updateSeq s.heap.objs.size (·.push .none) >>= λ_=>updateSeq s.heap.objs.size (·.pop)) _ _ _
  refine wpAny_bind (wpAny_updateSeq hS0 rfl ?_);have hS2:=co (bh (·.push Value.none)) hS0 rfl
  refine wpAny_updateSeq (hz:=by seq_fits) hS2 rfl ?_
  have hS3:=co (bh (·.pop)) hS2 rfl
  have oth:∀ b ob,b≠s.heap.objs.size->h'.get? b=some ob->((h'.update s.heap.objs.size (bh (·.push Value.none))).update s.heap.objs.size (bh (·.pop))).get? b=some ob:=
   λb ob hb e=>(dP _ _ (Ne.symm hb)).trans ((dP _ _ (Ne.symm hb)).trans e)
  have W1:=W A.in1 (by exact hh)
  refine wpAny_pure ⟨plainId_quiet F.plain_extend_loop _,codeAny_extend_loopS W1 (by rw[hp.length_eq,ac,ao];exact ae hz (by decide)) _ hSf _ L.length 0 _ _ _ rfl (aE _)
   (W1.frame 0 ({s with heap:=h',drawn:=dr}:Shared) _ s.toks hst (aC _) λb hb ob e=>oth b ob (λq=>hSf (q▸hb)) e) hS3 (ItemsOf.nil _) λs' acc' c' hm hS' hacc=>?_⟩
  show wpAny _ A (load s.heap.objs.size >>= _) _ _ s';refine wpAny_bind (wpAny_load hS' (wpAny_pure (h _ s' ?_ ?_ hm.gens hm.os)))
  ·have:acc'.toList=L:=by
    refine List.ext_getElem? λi=>?_
    rw[aD];cases q:acc'[i]? with
    | none=>
     have:L.length<=i:=by have:=hacc.1;simp at q;lia
     rw[gj this]
    | some v=>rw[hacc.2 i v q]
   rw[this];exact hp
  ·intro b ob e
   have hb:b≠s.heap.objs.size:=br (aU e);have e1:=hk b ob (an _ e);refine hm.heap b ob ?_ (oth b ob hb e1);simp only[au,aO,or_false,not_or]
   refine⟨hb,λq=>?_⟩
   rw[q] at e;have:=an {cls:=.type "list",data:=.seq ([]:List Value).toArray} e;rw[hfr] at this;exact f5 this
 ·rename_i hc'
  exact absurd (by decide +kernel) hc'
end
end Internal
open PySem PyProof.Rows
namespace Internal
structure Ext(s s':Shared):Prop where
 heap:∀ b o,s.heap.get? b=some o->s'.heap.get? b=some o
 gens:s'.gens=s.gens
 os:s'.os=s.os
theorem Ext.trans{a b c:Shared}(x:Ext a b)(y:Ext b c):Ext a c:=⟨λb o e=>y.heap b o (x.heap b o e),y.gens.trans x.gens,y.os.trans x.os⟩
theorem Ext.step{fr own:Addr->Prop}{M:Hp}{s s':Shared}(x:Ext s s'):Step fr own M M s s':=
 ⟨⟨x.gens,x.os⟩,λb o e=>⟨o,x.heap b o e,id⟩,λb o e z_ z_=>⟨o,x.heap b o e,.inl rfl⟩,λb z_ z_ e=>x.heap b _ e,λz_ z_ z_ h=>h⟩
theorem Sim.no{g:G}{M:Hp}{h:Heap}{c:Addr}(x:Sim g M h)(hc:h.get? c=none):M c=none:=by
 cases q:M c with
 | none=>rfl
 | some o=>
  have:=(x.objs _ o q).1;refine c5 this.has λob e=>?_
  rw[hc] at e;exact f5 e
theorem aj7{g F A env Z M}{s s':Shared}{Q:V->Hp->Prop}{c:Addr}{o:AObj}(I:Inv g F A env Z M s)(x:Ext s s')(hc:s.heap.get? c=none)(r:u1 g s'.heap c o)(h:∀ a,M a=none->Q (.ref a) (upd M a o)):l4 g F A env Z M s Q (.ref c) s':=by
 have st0:=x.step (fr:=inF A) (own:=d9) (M:=M);have st:Step (inF A) d9 M (upd M c o) s s':=⟨st0.same,st0.dom,st0.keep,st0.tups,λb o e hM=>by rw[d6 _ _ (λq=>by rw[q,hc] at e;exact f5 e)];exact hM⟩
 refine(λz_ k_=>k_ _ _ (.ref _) (I.keep st ⟨(I.sim.grow x.heap).stays,λa o' e=>?_⟩) st (h _ (I.sim.no hc)))
 by_cases ha:a=c
 ·subst ha
  rw[c9] at e;refine Option.some.inj e▸⟨r,?_⟩;cases q:g.h₀.get? a with
  | none=>rfl
  | some o=>have:=I.sim.stays _ _ q;rw[hc] at this;exact f5 this
 ·rw[d6 _ _ ha] at e
  exact(I.sim.grow x.heap).objs a o' e
theorem O7{g F A env Z M}{s s':Shared}{Q:V->Hp->Prop}{c:Addr}{vs:Array Value}{n:Nat}{l:List V}(I:Inv g F A env Z M s)(x:Ext s s')(hc:s.heap.get? c=none)
  (ho:s'.heap.get? c=some {cls:=.type "list",data:=.seq vs n}) (r:d3 s'.heap vs.toList l) (h:∀ a,M a=none->Q (.ref a) (upd M a (.lst l))):l4 g F A env Z M s Q (.ref c) s':=aj7 (o:=.lst l) I x hc ⟨vs,⟨n,ho⟩,r⟩ h
noncomputable def leV:V->V->Prop
 | .int a,.int b=>a<=b
 | .str a,.str b=>a.cps.toList<=b.cps.toList
 | _,_=>False
noncomputable def ltV:V->V->Prop
 | .int a,.int b=>a<b
 | .str a,.str b=>a.cps.toList<b.cps.toList
 | _,_=>False
theorem aT1{a b:Str}(h:a.cps.toList=b.cps.toList):a=b:=by
 cases a;cases b;simp at h;rw[h]
theorem bg6(a:V):¬ ltV a a:=by
 cases a with
 | int i=>exact cU i
 | str x=>exact List.lt_irrefl x.cps.toList
 | _=>exact λh=>h
theorem bj3{a b:V}(h:leV a b)(hne:a≠b):ltV a b:=by
 cases a with
 | int i=>cases b with
  | int j=>exact gA.mpr ⟨h,λe=>hne (congrArg V.int e)⟩
  | _=>exact h.elim
 | str x=>cases b with
  | str y=>
   rcases Decidable.em (x.cps.toList<y.cps.toList) with q | q
   ·exact q
   ·exact absurd (congrArg V.str (aT1 (List.le_antisymm h (List.not_lt.mp q)))) hne
  | _=>exact h.elim
 | _=>exact h.elim
noncomputable def Srt(l:List V):Prop:=l.Pairwise ltV
theorem ag7{l:List V}(h:l.Pairwise leV)(hn:l.Nodup):Srt l:=
 List.Pairwise.imp₂ (λa b h1 h2=>bj3 h1 h2) h hn
section
variable{prog:Program}{w:World}{A:Around}{E:Value->Shared->Prop}{s:Shared}
noncomputable def T7(prog:Program)(w:World)(vs:List Value)(R:List Value->Prop):Prop:=
 ∀ (A:Around) (E:Value->Shared->Prop) (s:Shared) (a:Addr) (n:Nat) (P:PySem.Fin->Shared->Prop),s.heap.get? a=some (seqObj "list" vs.toArray n)->
  (∀ out:Array Value,R out.toList->P (.done (.ret .none)) {s with heap:=sortedHeap s.heap a vs out})->wpAny (model prog w) A (Builtin.«list.sort» ⟨[.ref a],[]⟩) P E s
theorem bc0{vs:List Value}{ns:List Int}(hI:IntsAre vs ns)(h64:vs.length<64):T7 prog w vs (λout=>∃ ns',IntsAre out ns'/\ns'.Perm ns/\ns'.Pairwise (·<=·)):=
 λA E s a n P ho h=>list_sort_tree ho hI h64 λout ns' a b c=>h out ⟨ns',a,b,c⟩
theorem bX1{vs:List Value}{ss:List Str}(hS:StrsAre vs ss)(h64:vs.length<64):T7 prog w vs (λout=>∃ ss',StrsAre out ss'/\ss'.Perm ss/\sortedS ss'=true):=
 λA E s a n P ho h=>list_sort_treeK strKind_oneLt ho hS.keysOf (λv1 v2 rest e=>keyKind_strs (by rw[<- e];exact hS)) h64 λst' hp hs=>
  by refine f9 (sorted_out_str hS hp hs) λss' h1 h2 h3=>?_;exact h _ ⟨ss',h1,h2,h3⟩
theorem ap6{x:Value}{Q:Value->Shared->Prop} (h:wpAny (model prog w) A.in1 (collect x) (λvs s'=>∃ R,T7 prog w vs R/\vs.length<=sizeLine/\∀ out:Array Value,R out.toList->
   Q (.ref s'.heap.objs.size) {s' with heap:=sortedHeap (s'.heap.push (seqObj "list" vs.toArray 0)) s'.heap.objs.size vs out}) E s):wpAny (model prog w) A (call (.builtin "sorted") [x]) Q E s:=by
 refine fu kind_sorted plain_sorted entry_sorted (args_sorted1 _) ?_;unfold Builtin.«sorted»;refine wpAny_bind (m:=checkCount "sorted" 1 1 _) (wpAny_pure ?_);refine wpAny_bind (wpAny_mono h (λvs s' p_=>?_) λz_ z_ e=>e)
 refine f9 p_ λR hS hz hQ=>?_
 refine wpAny_bind (wpAny_newList ?_ hz);have hoL:(s'.heap.push (seqObj "list" vs.toArray 0)).get? s'.heap.objs.size=some (seqObj "list" vs.toArray 0):=aB _ rfl;refine wpAny_bind (wpAny_holding (wpAny_call_entry slot_list_sort ⟨_,hoL,rfl⟩ entry_list_sort (hS _ _ _ _ _ _ hoL λout hR=>⟨_,rfl,?_⟩) (args_list_sort _)))
 exact wpAny_pure ⟨_,rfl,hQ out hR⟩
theorem au2{s:Shared}{vs:List Value}{out:Array Value}:Ext s {s with heap:=sortedHeap (s.heap.push (seqObj "list" vs.toArray 0)) s.heap.objs.size vs out}:=
 ⟨λb o e=>by
  have hlt:=aU e;rw[sortedHeap_old (br hlt) (by rw[size_push'];exact bE hlt)]
  exact an _ e,rfl,rfl⟩
end
noncomputable def SK(l:List V):Prop:=(∃ ns:List Int,l=ns.map .int)∨(∃ ss:List Str,l=ss.map .str)
theorem bv6{h:Heap}{vs:List Value}{ns:List Int}(r:d3 h vs (ns.map .int)):IntsAre vs ns:=by
 induction ns generalizing vs with
 | nil=>rw[r.ofNil];exact .nil
 | cons n ns ih=>refine f7 r.ofCons λv us q1_ r1 r2=>?_;subst q1_;refine c5 r1.ofInt λt q1_=>?_;subst q1_;exact .cons n t (ih r2)
theorem aT3{h:Heap}{vs:List Value}{ns:List Int}(r:IntsAre vs ns):d3 h vs (ns.map .int):=by
 induction r with
 | nil=>exact .nil
 | cons n t r ih=>exact .cons (.int n t) ih
theorem ca1{h:Heap}{vs:List Value}{ns:List Str}(r:d3 h vs (ns.map .str)):StrsAre vs ns:=by
 induction ns generalizing vs with
 | nil=>rw[r.ofNil];exact .nil
 | cons n ns ih=>refine f7 r.ofCons λv us q1_ r1 r2=>?_;subst q1_;refine c5 r1.ofStr λt q1_=>?_;subst q1_;exact .cons n t (ih r2)
theorem bC3{h:Heap}{vs:List Value}{ns:List Str}(r:StrsAre vs ns):d3 h vs (ns.map .str):=by
 induction r with
 | nil=>exact .nil
 | cons n t r ih=>exact .cons (.str n t) ih
theorem ci5(p:Str)(l:List Str):risingS p l=true->(p::l).Pairwise (λa b=>a.cps.toList<=b.cps.toList):=by
 induction l generalizing p with
 | nil=>intro _;exact .cons (λy hy=>by cases hy) .nil
 | cons x r ih0=>
  intro h;have h':(!PySem.Spec.ltCps x.cps.toList p.cps.toList&&risingS x r)=true:=h;refine c6 (ba.mp h') λh1 h2=>?_
  have ih:=ih0 x h2;have hpx:p.cps.toList<=x.cps.toList:=by
   rw[ltCps_eq] at h1;exact List.not_lt.mp (by simpa using h1)
  refine .cons (λy hy=>?_) ih
  rcases au.mp hy with e | e
  ·subst e;exact hpx
  ·exact List.le_trans hpx ((cq.mp ih).1 y e)
theorem aV7{l:List Str}(h:sortedS l=true):l.Pairwise (λa b=>a.cps.toList<=b.cps.toList):=by
 cases l with
 | nil=>exact .nil
 | cons p r=>exact ci5 p r h
section
variable{prog:Program}{w:World}
theorem aC0{h:Heap}{vs:List Value}{l:List V}(r:d3 h vs l)(hk:SK l)(h64:l.length<64):T7 prog w vs (λout=>∃ l',(∀ h',d3 h' out l')/\l'.Perm l/\l'.Pairwise leV):=by
 have hl:=r.length;rcases hk with ⟨ns,rfl⟩ | ⟨ss,rfl⟩
 ·intro A E s a n P ho hq
  refine bc0 (bv6 r) (by rw[hl];exact h64) A E s a n P ho λout p_=>?_
  refine f9 p_ λns' h1 h2 h3=>?_
  refine hq out ⟨ns'.map .int,λh'=>aT3 h1,h2.map _,?_⟩
  rw[cD];exact h3
 ·intro A E s a n P ho hq
  refine bX1 (ca1 r) (by rw[hl];exact h64) A E s a n P ho λout p_=>?_
  refine f9 p_ λns' h1 h2 h3=>?_
  refine hq out ⟨ns'.map .str,λh'=>bC3 h1,h2.map _,?_⟩
  rw[cD];exact aV7 h3
end
theorem az1{h:Heap}{n:Nat}(hn:h.objs.size<=n):h.get? n=none:=by
 cases q:h.get? n with
 | none=>rfl
 | some o=>exact absurd (aU q) (bg.mpr hn)
section
variable{g:G}{F:Blk}{Z:List (Option V)}{M:Hp}{Q:V->Hp->Prop}{X:Str->Hp->Prop}
theorem bI6{a:Addr}{l:List V}(hM:M a=some (.lst l))(hk:SK l)(h64:l.length<64)(h:∀ b l',M b=none->l'.Perm l->l'.Pairwise leV->Q (.ref b) (upd M b (.lst l'))) :
  Cl g F (.builtin "sorted") [.ref a] Z M Q X:=(λA env s vs I rs=>by
  obtain⟨_,rfl,r0⟩:=rs.one;obtain rfl:=r0.ofRef;obtain⟨items,hp,r⟩:=(I.sim.objs a _ hM).1;have hl:s.heap.IsList a items.toList.toArray:=by rw[eE];exact hp.isList
  have hz:items.toList.length<=sizeLine:=by rw[r.length];exact ae (aK h64) (by decide)
  refine ap6 (collect_list hl ?_ hz);refine⟨_,aC0 r hk h64,hz,λout p_=>?_⟩
  obtain⟨l',hr,hperm,hpw⟩:=p_;have x1:Ext s {s with heap:=(s.heap.push (seqObj "list" #[] 0)).update s.heap.objs.size (bh (· ++ items.toList.toArray))}:=⟨λb o e=>by
   show((s.heap.push (seqObj "list" #[] 0)).update s.heap.objs.size (bh (· ++ items.toList.toArray))).get? b=some o
   rw[eN _ _ _ _ (br (aU e))];exact an _ e,rfl,rfl⟩
  obtain⟨e,he⟩:=sortedHeap_at (out:=out) (vs:=items.toList) (n:=0) (h:=(((s.heap.push (seqObj "list" #[] 0)).update s.heap.objs.size (bh (· ++ items.toList.toArray))).push (seqObj "list" items.toList.toArray 0)))
   (a:=((s.heap.push (seqObj "list" #[] 0)).update s.heap.objs.size (bh (· ++ items.toList.toArray))).objs.size) (aB _ rfl)
  refine O7 I (x1.trans au2) (az1 ?_) he (hr _) λb hb=>h b l' hb hperm hpw
  rw[Heap.size_update,size_push'];lia)
theorem bh7{prog:Program}{w:World}{K:Type}[DecidableEq K](l:List K):∀ (ks:List K) (x:K),x∈l.foldl p9 ks↔x∈ks∨x∈l:=by
 induction l with
 | nil=>intro ks x;exact⟨.inl,λh=>h.elim id λq=>by cases q⟩
 | cons k l ih=>
  intro ks x;refine(ih (p9 ks k) x).trans ?_;have h0:x∈p9 ks k↔x∈ks∨x=k:=by
   unfold p9;by_cases hk:k∈ks
   ·rw[if_pos hk];exact⟨.inl,λh=>h.elim id λq=>q▸hk⟩
   ·rw[if_neg hk,aq,aj]
  rw[h0,au,or_assoc]
theorem bs4{prog:Program}{w:World}{K:Type}[DecidableEq K]{knd:PySem.KeyKind prog w K}{mk:K->V}(hmk:∀ h v k,knd.is k v=true->Rep h v (mk k)){h:Heap}:∀ {es:List (Int×Value)} {ks:List K},KA knd es ks->d3 h (es.map (·.2)) (ks.map mk):=by
 intro es ks r;induction r with
 | nil=>exact .nil
 | cons h1 _ _ r ih=>exact .cons (hmk _ _ _ h1) ih
theorem bU5{h:Heap}{vs us:List Value}(p:vs.Perm us):∀ {l:List V},d3 h vs l->∃ k,d3 h us k/\l.Perm k:=by
 induction p with
 | nil=>intro l r;exact⟨l,r,.refl _⟩
 | cons x _ ih=>
  intro l r;refine f7 r.uncons λy k q1_ r0 rs=>?_;subst q1_
  refine a9 (ih rs) λk hk hp=>?_
  exact⟨_::k,.cons r0 hk,hp.cons _⟩
 | swap x y l'=>
  intro l r;refine f7 r.uncons λz k q1_ r0 rs=>?_;subst q1_
  refine f7 rs.uncons λz' k' q1_ r1 rs'=>?_;subst q1_
  exact⟨_::_::_,.cons r1 (.cons r0 rs'),.swap ..⟩
 | trans _ _ ih1 ih2=>
  intro l r;refine a9 (ih1 r) λk hk hp=>?_
  refine a9 (ih2 hk) λk' hk' hp'=>?_
  exact⟨k',hk',hp.trans hp'⟩
theorem bG1{K:Type}[DecidableEq K]{knd:PySem.KeyKind g.prog g.w K}{mk:K->V}(hmk:∀ h v k,knd.is k v=true->Rep h v (mk k))(hsk:∀ ks:List K,SK (ks.map mk))(hinj:∀ a b,mk a=mk b->a=b)
  {A:Around} {env:Env} {s sv:Shared} {c:Addr} {ks:List K} {E:Value->Shared->Prop} (I:Inv g F A env Z M s) (hh:A.handled=none) (x:Ext s sv) (hset:n7 knd sv.heap c (u0 g.w) ks) (h64:ks.length<64)
  (h:∀ b l,M b=none->Srt l->(∀ y,y∈l↔y∈ks.map mk)->Q (.ref b) (upd M b (.lst l))) :
  wpAny (model g.prog g.w) A (call (.builtin "sorted") [.ref c]) (l4 g F A env Z M s Q) E sv:=by
 refine hset _ ?_;clear hset;rintro o es ep t ks' ho hex hd ka hp hn hb hf ht;have hlen:=ka.length;have hlen':=hp.length_eq;refine ap6 (br2 (A:=A.in1) hh ho hex.1 hd hf ht (by rw[<- ao,hlen,hlen'];lia) λvs s' hperm hkeep hg hos=>?_)
 refine a9 (bU5 (h:=s'.heap) hperm.symm (bs4 hmk ka)) λl hl hlp=>?_
 have hls:SK l:=by
  obtain⟨ks2,rfl⟩:∃ ks2:List K,l=ks2.map mk:=by
   have hmem:∀ y∈l,∃ k,y=mk k:=λy hy=>by
    refine a9 (ar.mp (hlp.mem_iff.mpr hy)) λk z_ e=>?_;exact⟨k,e.symm⟩
   clear hlp hl;induction l with
   | nil=>exact⟨[],rfl⟩
   | cons y l ih=>
    obtain⟨k,rfl⟩:=hmem y (by simp)
    obtain⟨ks3,e⟩:=ih λz hz=>hmem z (aP _ hz)
    exact⟨k::ks3,by rw[e];rfl⟩
  exact hsk ks2
 have hll:l.length=ks.length:=by rw[<- hlp.length_eq,ac,hlen']
 have hvl:vs.length=ks.length:=by rw[hl.length,hll]
 refine⟨_,aC0 hl hls (by lia),by rw[hvl];exact ae (aK h64) (by decide),λout p_=>?_⟩
 refine f9 p_ λl' hr hperm' hpw=>?_
 obtain⟨e,he⟩:=sortedHeap_at (out:=out) (vs:=vs) (n:=0) (h:=s'.heap.push (seqObj "list" vs.toArray 0)) (a:=s'.heap.objs.size) (aB _ rfl);have x2:Ext sv s':=⟨hkeep,hg,hos⟩;have hpm:l'.Perm (ks.map mk):=hperm'.trans (hlp.symm.trans (hp.map mk));refine O7 I ((x.trans x2).trans au2) ?_ he (hr _) λb hb=>h b l' hb (ag7 hpw (hpm.nodup_iff.mpr ?_)) λy=>hpm.mem_iff
 ·cases q:s.heap.get? s'.heap.objs.size with
  | none=>rfl
  | some o=>have:=(x.trans x2).heap _ _ q;rw[v3] at this;exact f5 this
 ·exact List.Pairwise.map mk (λa b hab q=>hab (hinj _ _ q)) hn
end
theorem bA3{K:Type}(d:K)(l:List K):(eQ 0 l.length).map (λi=>(l[i]?).getD d)=l:=by
 refine List.ext_getElem (by simp) λi h1 h2=>?_
 simp[h2]
theorem d3.at_map{K:Type}{mk:K->V}{h:Heap}{vs:List Value}{ks:List K}(r:d3 h vs (ks.map mk))(d:K){i:Nat}{v:Value}(hv:vs[i]?=some v):Rep h v (mk ((ks[i]?).getD d)):=by
 have hi:i<vs.length:=(ay.mp hv).1;have hlen:=r.length;rw[ac] at hlen;have hk:(ks.map mk)[i]?=some (mk (ks[i]'(by lia))):=by simp[show i<ks.length by lia]
 refine a9 (r.get hk) λv' e r'=>?_
 rw[hv] at e;replace e:=g8 e;subst e;rw[aa (show i<ks.length by lia)]
 exact r'
section
variable{g:G}{F:Blk}{Z:List (Option V)}{M:Hp}{Q:V->Hp->Prop}{X:Str->Hp->Prop}
theorem aD0{K:Type}[DecidableEq K](knd:PySem.KeyKind g.prog g.w K)(mk:K->V)(d:K)(hmk:∀ h v k,knd.is k v=true->Rep h v (mk k))(hsk:∀ ks:List K,SK (ks.map mk))(hinj:∀ a b,mk a=mk b->a=b)(hval:∀ h v k,Rep h v (mk k)->V8 knd v k)
  {A:Around} {env:Env} {s:Shared} {a:Addr} {ks:List K} {E:Value->Shared->Prop} (I:Inv g F A env Z M s) (hh:A.handled=none) (hM:M a=some (.lst (ks.map mk))) (h64:ks.length<64)
  (h:∀ b l,M b=none->Srt l->(∀ y,y∈l↔y∈ks.map mk)->Q (.ref b) (upd M b (.lst l))) :
  wpAny (model g.prog g.w) A (call (.type "set") [.ref a]) (λv s2=>wpAny (model g.prog g.w) A (call (.builtin "sorted") [v]) (l4 g F A env Z M s Q) E s2) E s:=by
 refine a9 ((I.sim.objs a _ hM).1) λitems hp r=>?_
 have hsz:items.size=ks.length:=by rw[<- ao,r.length,ac]
 refine aS9 (knd:=knd) (val:=λi=>(ks[i]?).getD d) hh hp.isList (λi v hv=>hval s.heap _ _ (r.at_map d (by rw[aD];exact hv))) (by rw[hsz];exact bO (Nat.succ_lt_succ h64) (by decide)) λh' tk hset hk=>?_
 rw[hsz,bA3] at hset;have hle:=ax4 ks ([]:List K);refine bG1 hmk hsk hinj I hh (sv:={s with heap:=h',toks:=tk}) ⟨λb o e=>hk b o (aU e) e,rfl,rfl⟩ hset (by simp at hle;lia) λb l hb hs hm=>h b l hb hs λy=>(hm y).trans ?_
 simp only[ar,bh7 (prog:=g.prog) (w:=g.w) ks [],aO,false_or]
theorem bb3{xs xt:Str}{np np' pos p':Pos}{e:Expr}(hb:Bi g xs (.builtin "sorted"))(hb':Bi g xt (.type "set"))(hk:F.sc.names.lookup xs=some .globalImplicit)(hk':F.sc.names.lookup xt=some .globalImplicit)(hq:F.q=true)
  (h:Ev g F e Z M (λv zs=>∃ a l,v=.ref a/\zs a=some (.lst l)/\SK l/\l.length<64/\∀ b L,zs b=none->Srt L->(∀ y,y∈L↔y∈l)->Q (.ref b) (upd zs b (.lst L))) X)
  (hd:(xs==("__debug__" : Str))=false) (hd':(xt==("__debug__" : Str))=false) (he:∀ env,starEach [e] env=[(false,eval e env)]) :
  Ev g F (.Call (.Name xs np) [.Call (.Name xt np') [e] [] p'] [] pos) Z M Q X:=(λA env s I=>by
 have hh:=I.quiet hq;have hEvs:Evs g F [e] Z M (λvs zs=>∃ v,vs=[v]/\∃ a l,v=.ref a/\zs a=some (.lst l)/\SK l/\l.length<64/\∀ b L,zs b=none->Srt L->(∀ y,y∈L↔y∈l)->Q (.ref b) (upd zs b (.lst L))) X:=
  P6 (h.mono λv zs hv=>U8 ⟨v,rfl,hv⟩) (by intros;rfl) he
 have inner:wpAny (model g.prog g.w) A (eval (.Call (.Name xt np') [e] [] p') env) (λv s2=>wpAny (model g.prog g.w) A (call (.builtin "sorted") [v]) (l4 g F A env Z M s Q) (k6 g F A env Z M s X) s2) (k6 g F A env Z M s X) s:=by
  refine wpAny_Call_ofName (Calls.Name_function_global I.fn (by show env.scope.names.lookup xt=_;rw[I.scope];exact hk') (aX (by rw[I.glob];exact g.ns.keeps I.sim.stays) hb'.1 (by rw[I.bltn];exact g.nb.keeps I.sim.stays) hb'.2 ?_) hd')
  refine c6 (hEvs A env s p' I) λhw hp=>?_
  refine callWith_excType hp (v5 hp (wpAny_mono hw (λvs sv p0=>?_) λz_ z_ p=>p))
  refine p0 _ ?_;clear p0;rintro Vs zs rs I1 st1 q;obtain⟨v,rfl,a,l,rfl,hM,hsk,h64,hQ⟩:=q;refine a9 rs.one λz_ q1_ r0=>?_;subst q1_
  obtain rfl:=r0.ofRef;rcases hsk with ⟨ns,rfl⟩ | ⟨ss,rfl⟩
  ·refine wpAny_mono (aD0 (intKind g.prog g.w) .int 0 (λh v k hv=>by refine c5 (Value.isInt_shape hv) λt q1_=>?_;subst q1_;exact .int _ _) (λks=>.inl ⟨ks,rfl⟩) (λa b e=>by cases e;rfl) (λh v k r=>by refine c5 r.ofInt λz_ q1_=>?_;subst q1_;exact⟨by simp[intKind,Value.isInt],rfl⟩) I1 hh hM (by simpa using h64) hQ)
    (λv s2 hv=>wpAny_mono hv (λz_ z_ p=>p.step st1) λz_ z_ p=>p) λz_ z_ p=>p
  ·refine wpAny_mono (aD0 (PySem.strKind g.prog g.w) .str ⟨#[]⟩ (λh v k hv=>by refine c5 (Value.isStrOf_shape hv) λt q1_=>?_;subst q1_;exact .str _ _) (λks=>.inr ⟨ks,rfl⟩) (λa b e=>by cases e;rfl) (λh v k r=>by refine c5 r.ofStr λz_ q1_=>?_;subst q1_;exact⟨by simp[PySem.strKind,Value.isStrOf],rfl⟩) I1 hh hM (by simpa using h64) hQ)
    (λv s2 hv=>wpAny_mono hv (λz_ z_ p=>p.step st1) λz_ z_ p=>p) λz_ z_ p=>p
 refine wpAny_Call_ofName (Calls.Name_function_global I.fn (by show env.scope.names.lookup xs=_;rw[I.scope];exact hk) (aX (by rw[I.glob];exact g.ns.keeps I.sim.stays) hb.1 (by rw[I.bltn];exact g.nb.keeps I.sim.stays) hb.2 ?_) hd)
 refine ch rfl (v5 rfl ?_);exact wpAny_items_cons (wpAny_mono inner (λv s2 h2=>wpAny_items_nil h2) λz_ z_ p=>p) rfl)
end
end Internal
open PySem PySem.Builtin.Str PySem.StrLaws
namespace Internal
noncomputable def E9(x:Str):List V:=x.cps.toList.map λc=>.str ⟨#[c]⟩
theorem aG6{x:Str}{i:Nat}{v:V}(h:(E9 x)[i]?=some v):∃ c,x.cps[i]?=some c/\v=.str ⟨#[c]⟩:=by
 unfold E9 at h;rw[aw,aD] at h;cases q:x.cps[i]? with
 | none=>rw[q] at h;cases h
 | some c=>rw[q] at h;exact⟨c,rfl,(Option.some.inj h).symm⟩
theorem aa4(x:Str):(E9 x).length=x.cps.size:=by simp[E9]
theorem ci7{g:G}{A:Around}(hh:A.handled=none){I:Addr}{x:Str}{t:Tok}:IterOK g A I (E9 x) (λz_=>True) (λi h=>h.IsStrIter I "str_ascii_iterator" x t i) where
 frame:=λi h h' st k z_=>by refine a9 st λo ho r=>?_;exact⟨o,k _ ho,r⟩
 obj:=λi h st=>by refine f9 st λo ho z_ hd=>?_;exact⟨o,_,ho,hd⟩
 item:=λi v M s Q E hx st sm hK hQ=>by
  refine a9 (aG6 hx) λc hc q1_=>?_;subst q1_
  exact wpAny_pyNext_ascii_item st hc λh' hit' hs'=>hQ _ h' _ (.str _ _) hit' hs'.extBut
 done:=λM s Q E st sm hK hQ=>by
  rw[aa4] at st;exact wpAny_pyNext_ascii_end hh st (by simp) λh' he=>hQ h' s.toks he
 self:=λi s Q E st hQ=>wpAny_pyIter_striter_ascii st hQ
 plain:=λi s v elts k pos Q E st hQ=>by refine f9 st λo ho hc hd=>?_;exact O9 ho hc hd (by decide) hQ
theorem aQ8{g:G}{A:Around}(hh:A.handled=none){I:Addr}{x:Str}{t:Tok}:IterOK g A I (E9 x) (λz_=>True) (λi h=>h.IsStrIter I "str_iterator" x t i) where
 frame:=λi h h' st k z_=>by refine a9 st λo ho r=>?_;exact⟨o,k _ ho,r⟩
 obj:=λi h st=>by refine f9 st λo ho z_ hd=>?_;exact⟨o,_,ho,hd⟩
 item:=λi v M s Q E hx st sm hK hQ=>by
  refine a9 (aG6 hx) λc hc q1_=>?_;subst q1_
  exact wpAny_pyNext_wide_item st hc λh' hit' hs'=>hQ _ h' _ (.str _ _) hit' hs'.extBut
 done:=λM s Q E st sm hK hQ=>by
  rw[aa4] at st;exact wpAny_pyNext_wide_end hh st (by simp) λh' he=>hQ h' s.toks he
 self:=λi s Q E st hQ=>wpAny_pyIter_striter_wide st hQ
 plain:=λi s v elts k pos Q E st hQ=>by refine f9 st λo ho hc hd=>?_;exact O9 ho hc hd (by decide) hQ
noncomputable def sls(lo hi:Option Int)(x:Str):Str:=⟨(slc lo hi x.cps.toList).toArray⟩
theorem X0(n:Nat)(i:Int):max 0 (min (if i<0 then i+n else i) (n:Int))=((clipAt n i:Nat):Int):=(clipAt_cast n i).symm
theorem U6(n:Nat)(i:Int):clipAt n i<=n:=by
 have:=clipAt_cast n i;exact gN.mp (this▸Int.max_le.mpr ⟨aT n,Int.min_le_right _ _⟩)
theorem bQ3(lo hi:Option Int)(n:Nat):Builtin.Str.strSliceIndices lo hi 1 n=Builtin.Str.strSliceIndices (some ((lo.elim 0 (clipAt n):Nat):Int)) (some ((hi.elim n (clipAt n):Nat):Int)) 1 n:=by
 have e:∀ k:Nat,k<=n->max (0:Int) (min (if ((k:Int)<0) then(k:Int)+n else k) (n:Int))=k:=λk hk=>by
  rw[if_neg (by lia)];lia
 unfold Builtin.Str.strSliceIndices;simp only[show((1:Int) > 0)=True from eq_true (by decide),if_true]
 have h1:(lo.elim 0 (clipAt n))<=n:=by cases lo with | none=>exact aE _ | some i=>exact U6 n i
 have h2:(hi.elim n (clipAt n))<=n:=by cases hi with | none=>exact aC _ | some i=>exact U6 n i
 rw[e _ h1,e _ h2];cases lo with
 | none=>
  cases hi with
  | none=>rfl
  | some j=>simp only[fT];rw[X0 n j];rfl
 | some i=>
  cases hi with
  | none=>simp only[fT];rw[X0 n i]
  | some j=>simp only[fT];rw[X0 n i,X0 n j]
set_option tactic.hygienic true in
theorem bN5(x:Str)(lo hi:Option Int):sliceText x lo hi=sls lo hi x:=by
 have h1:(lo.elim 0 (clipAt x.length))<=x.length:=by cases lo with | none=>exact aE _ | some i=>exact U6 _ i
 have h2:(hi.elim x.length (clipAt x.length))<=x.length:=by cases hi with | none=>exact aC _ | some i=>exact U6 _ i
 have hlen:x.cps.toList.length=x.length:=by simp[Str.length]
 have e0:sliceText x lo hi=sliceText x (some ((lo.elim 0 (clipAt x.length):Nat):Int)) (some ((hi.elim x.length (clipAt x.length):Nat):Int)):=by
  unfold sliceText;rw[<- bQ3 lo hi x.length]
 rw[e0];unfold sls slc;rw[hlen];generalize lo.elim 0 (clipAt x.length)=a at *;generalize hi.elim x.length (clipAt x.length)=b at *;by_cases hab:a<=b
 ·exact sliceText_nat x hab h2
 ·have e1:Builtin.Str.strSliceIndices (some (a:Int)) (some (b:Int)) 1 x.length=[]:=by
   unfold Builtin.Str.strSliceIndices;simp only[show((1:Int) > 0)=True from eq_true (by decide),if_true]
   rw[if_neg (by lia),if_neg (by lia)]
   have e2:max (0:Int) (min (a:Int) (x.length:Int))=a:=cc9 (by lia)
   have e3:max (0:Int) (min (b:Int) (x.length:Int))=b:=by lia
   rw[e2,e3];unfold sliceRange;simp
   lia
  unfold sliceText;rw[e1];have hb0:b-a=0:=by lia
  rw[hb0,List.take_zero]
  split
  ·rename_i h
   exfalso;simp at h
   lia
  ·rfl
section
variable{g:G}{F:Blk}{Z:List (Option V)}{M:Hp}{Q:V->Hp->Prop}{QB:Bool->Hp->Prop}{X:Str->Hp->Prop}
theorem ak5{A env s}{x:Str}{tk tk':Nat}(I:Inv g F A env Z M s)(h:Q (.str x) M):l4 g F A env Z M s Q (.str x tk) {s with toks:=tk'}:=
 (λz_ k_=>k_ _ M (.str _ _) (I.keep Step.toks I.sim) Step.toks h)
theorem R1{t:Value->Value->Sem Value}{a b:Str}(k:∀ A env s u v,Inv g F A env Z M s->wpAny (model g.prog g.w) A (t (.str a u) (.str b v)) (l4 g F A env Z M s Q) (k6 g F A env Z M s X) s):Op2 g F t (.str a) (.str b) Z M Q X:=(λA env s x y I rx ry=>by
 refine c5 rx.ofStr λu q1_=>?_;subst q1_;refine c5 ry.ofStr λv q1_=>?_;subst q1_;exact k A env s u v I)
theorem aT7{x y:Str}(hz:x.length+y.length<=10000)(h:Q (.str (x++y)) M):Op2 g F (binaryOp .Add) (.str x) (.str y) Z M Q X:=R1 λA env s z_ z_ I=>SB.add (λz_ z_=>ak5 I h) (ae hz (by decide))
theorem eq_str{x y:Str}(h:Q (.bool (x==y)) M):Op2 g F (compareOp .Eq) (.str x) (.str y) Z M Q X:=R1 λA env s z_ z_ I=>PyProof.Rows.eq_str (m9 I h)
theorem ne_str{x y:Str}(h:Q (.bool (x != y)) M):Op2 g F (compareOp .NotEq) (.str x) (.str y) Z M Q X:=R1 λA env s z_ z_ I=>PyProof.Rows.ne_str (m9 I h)
theorem bt9{x y:Str}(h:Q (.bool (Txt.contains x y)) M):Op2 g F (compareOp .In) (.str y) (.str x) Z M Q X:=R1 λA env s z_ z_ I=>SB.contains (m9 I h)
theorem bn3{x y:Str}(h:Q (.bool (!Txt.contains x y)) M):Op2 g F (compareOp .NotIn) (.str y) (.str x) Z M Q X:=R1 λA env s z_ z_ I=>SB.notContains (m9 I h)
theorem aR8{x:Str}(hfit:(x.length:Int)<2 ^ 63)(h:Q (.int x.length) M):Cl g F (.builtin "len") [.str x] Z M Q X:=(λA env s vs I r=>by
 refine a9 r.one λz_ q1_ r0=>?_;subst q1_;refine c5 r0.ofStr λz_ q1_=>?_;subst q1_;exact PyProof.Rows.len_str (by lia) (x7 I h))
theorem bf2{x:Str}{k:Int}{c:Nat}(h0:0<=k)(hhi:k<2 ^ 63)(hx:x.cps[k.toNat]?=some c)(h:Q (.str ⟨#[c]⟩) M):Itm g F (.str x) (.int k) Z M Q X:=(λA env s v y I rx ry=>by
 refine c5 rx.ofStr λz_ q1_=>?_;subst q1_;refine c5 ry.ofInt λz_ q1_=>?_;subst q1_
 exact⟨"str",_,typeIs_str _ _ _,PySem.F.slot_str_getitem.lookup,P.getItem_str (by simp;lia) (at_nonneg h0 hx) (ak5 I h)⟩)
theorem aZ6{x:Str}{k:Int}(h0:0<=k)(h1:k<x.length)(hz:k<2 ^ 63)(h:∀ c,x.cps[k.toNat]?=some c->Q (.str ⟨#[c]⟩) M):Itm g F (.str x) (.int k) Z M Q X:=by
 refine c5 (some_at h0 h1) λc hc=>?_
 exact bf2 h0 hz hc (h c hc)
theorem aV2{x:Str}{lo hi:Option Int}(hz:x.length<=10000)(h:Q (.str (sls lo hi x)) M):Slc g F (.str x) lo hi Z M Q X:=(λA env s v sl vl vu I r hs pl pu=>by
 refine c5 r.ofStr λt q1_=>?_;subst q1_
 obtain⟨l,hl,el⟩:∃ l:Option (Int×Tok),vl=partValue l/\l.map (·.1)=lo:=by
  cases pl with
  | none=>exact⟨none,rfl,rfl⟩
  | int i t=>exact⟨some (i,t),rfl,rfl⟩
 obtain⟨u,hu,eu⟩:∃ u:Option (Int×Tok),vu=partValue u/\u.map (·.1)=hi:=by
  cases pu with
  | none=>exact⟨none,rfl,rfl⟩
  | int i t=>exact⟨some (i,t),rfl,rfl⟩
 subst hl hu;refine f9 hs λo ho hc hd=>?_
 have e:Txt.slice x lo hi=sls lo hi x:=bN5 x lo hi;refine⟨"str",_,typeIs_str _ _ _,PySem.F.slot_str_getitem.lookup,wpAny_getItem_str_slice (l:=l) (u:=u) (st:=none) ⟨o,ho,hc,hd⟩ rfl (post_val_or_str ⟨?_,λt' k=>?_⟩)⟩
 ·subst el eu
  exact ae (Txt.slice_le x _ _) (ae hz (by decide))
 ·subst el eu
  exact ak5 I (by rw[<- e] at h;exact h))
theorem bO4{b:Bool}(h:Q (.int (if b then 1 else 0)) M):Cl g F (.type "int") [.bool b] Z M Q X:=(λA env s vs I r=>by
 refine a9 r.one λz_ q1_ r0=>?_;subst q1_;obtain rfl:=r0.ofBool;exact call_int_bool (x7 I h))
end
mutual
noncomputable def dat:V->PyData
 | .none=>.none
 | .bool b=>.bool b
 | .int i=>.int i
 | .str x=>.str x
 | .tup l=>.tuple (i4 l)
 | .ref _=>.none
noncomputable def i4:List V->List PyData
 | []=>[]
 | x::l=>dat x::i4 l
end
mutual
noncomputable def flat:V->Bool
 | .none=>true
 | .bool _=>true
 | .int _=>true
 | .str x=>PyData.strOk x
 | .tup l=>flatL l
 | .ref _=>false
noncomputable def flatL:List V->Bool
 | []=>true
 | x::l=>flat x&&flatL l
end
theorem Rep.reads{h:Heap}{v:Value}{a:V}(r:Rep h v a)(hf:flat a=true):Reads h v (dat a) []:=
 V.rec (motive_1:=λa=>∀ v,Rep h v a->flat a=true->Reads h v (dat a) []) (motive_2:=λl=>∀ vs,d3 h vs l->flatL l=true->ReadsAll h vs (i4 l) [])
  (λv r z_=>by rw[r.ofNone];exact .none) (λb v r z_=>by rw[r.ofBool];exact .bool b) (λi v r z_=>by refine c5 r.ofInt λt q1_=>?_;subst q1_;exact .int i t) (λx v r z_=>by refine c5 r.ofStr λt q1_=>?_;subst q1_;exact .str x t)
  (λl ih v r hf=>by refine l5 r.ofTup λa vs n q1_ ho r2=>?_;subst q1_;exact .tuple ho rfl rfl (ih _ r2 hf)) (λa v r hf=>(ag hf).elim)
  (λvs r z_=>by rw[r.ofNil];exact .nil)
  (λx l hx hl vs r hf=>by
   refine f7 r.ofCons λv us q1_ r1 r2=>?_;subst q1_
   have hf':(flat _&&flatL _)=true:=hf;refine c6 (ba.mp hf') λh1 h2=>?_
   exact .cons (as:=[]) (bs:=[]) (hx _ r1 h1) (hl _ r2 h2)) a v r hf
theorem d3.reads{h:Heap}{vs:List Value}{l:List V}(r:d3 h vs l)(hf:flatL l=true):ReadsAll h vs (i4 l) []:=by
 induction l generalizing vs with
 | nil=>rw[r.ofNil];exact .nil
 | cons x l ih=>
  refine f7 r.ofCons λv us q1_ r1 r2=>?_;subst q1_
  have hf':(flat _&&flatL _)=true:=hf;refine c6 (ba.mp hf') λh1 h2=>?_
  exact .cons (as:=[]) (bs:=[]) (r1.reads h1) (ih r2 h2)
theorem I5{a:V}:flat a=true->(dat a).canLay0=true:=
 V.rec (motive_1:=λa=>flat a=true->(dat a).canLay0=true) (motive_2:=λl=>flatL l=true->PyData.canLayAll0 (i4 l)=true) (λz_=>rfl) (λz_ z_=>rfl) (λz_ z_=>rfl) (λz_ h=>h) (λz_ ih h=>ih h) (λz_ h=>(ag h).elim) (λz_=>rfl)
  (λx l hx hl h=>by
   refine c6 (ba.mp (show(flat x&&flatL l)=true from h)) λh1 h2=>?_
   show((dat x).canLay0&&PyData.canLayAll0 (i4 l))=true;rw[hx h1,hl h2];rfl) a
theorem J5{l:List V}(h:flatL l=true):PyData.canLayAll0 (i4 l)=true:=I5 (a:=.tup l) h
mutual
noncomputable def D8:V->Bool
 | .none=>true
 | .int _=>true
 | .str _=>true
 | .tup l=>B7 l
 | _=>false
noncomputable def B7:List V->Bool
 | []=>true
 | x::l=>D8 x&&B7 l
end
theorem L8{a b:V}:D8 a=true->D8 b=true->(PyData.eqv (dat a) (dat b)=true↔a=b):=
 V.rec (motive_1:=λa=>∀ b,D8 a=true->D8 b=true->(PyData.eqv (dat a) (dat b)=true↔a=b)) (motive_2:=λl=>∀ k,B7 l=true->B7 k=true->(PyData.eqvAll (i4 l) (i4 k)=true↔l=k))
  (λb z_ hb=>by
   cases b with
   | none=>exact⟨λz_=>rfl,λz_=>rfl⟩
   | bool _=>exact(ag hb).elim
   | ref _=>exact(ag hb).elim
   | _=>exact⟨λh=>(ag h).elim,λh=>(by cases h)⟩)
  (λz_ z_ ha z_=>(ag ha).elim)
  (λi b z_ hb=>by
   cases b with
   | int j=>exact⟨λh=>congrArg V.int (eq_of_beq h),λh=>beq_iff_eq.mpr (V.int.inj h)⟩
   | bool _=>exact(ag hb).elim
   | ref _=>exact(ag hb).elim
   | _=>exact⟨λh=>(ag h).elim,λh=>(by cases h)⟩)
  (λi b z_ hb=>by
   cases b with
   | str j=>exact⟨λh=>congrArg V.str (eq_of_beq h),λh=>beq_iff_eq.mpr (V.str.inj h)⟩
   | bool _=>exact(ag hb).elim
   | ref _=>exact(ag hb).elim
   | _=>exact⟨λh=>(ag h).elim,λh=>(by cases h)⟩)
  (λl ih b ha hb=>by
   cases b with
   | tup k=>exact⟨λh=>congrArg V.tup ((ih k ha hb).mp h),λh=>(ih k ha hb).mpr (V.tup.inj h)⟩
   | bool _=>exact(ag hb).elim
   | ref _=>exact(ag hb).elim
   | _=>exact⟨λh=>(ag h).elim,λh=>(by cases h)⟩)
  (λz_ z_ ha z_=>(ag ha).elim)
  (λk z_ z_=>by
   cases k with
   | nil=>exact⟨λz_=>rfl,λz_=>rfl⟩
   | cons _ _=>exact⟨λh=>(ag h).elim,λh=>(by cases h)⟩)
  (λx l hx hl k ha hb=>by
   cases k with
   | nil=>exact⟨λh=>(ag h).elim,λh=>(by cases h)⟩
   | cons y k=>
    refine c6 (ba.mp (show(D8 x&&B7 l)=true from ha)) λh1 h2=>?_
    refine c6 (ba.mp (show(D8 y&&B7 k)=true from hb)) λh3 h4=>?_
    refine Iff.trans (show(PyData.eqv (dat x) (dat y)&&PyData.eqvAll (i4 l) (i4 k))=true↔_ from ba) ?_
    rw[hx y h1 h3,hl k h2 h4];exact⟨λh=>by rw[h.1,h.2],λh=>List.cons.inj h⟩) a b
theorem ch2{l k:List V}(h1:B7 l=true)(h2:B7 k=true):PyData.eqvAll (i4 l) (i4 k)=true↔l=k:=⟨λh=>V.tup.inj ((L8 (a:=.tup l) (b:=.tup k) h1 h2).mp h),λh=>(L8 (a:=.tup l) (b:=.tup k) h1 h2).mpr (congrArg V.tup h)⟩
theorem aN6(l:List V):i4 l=l.map dat:=by
 induction l with
 | nil=>rfl
 | cons x l ih=>simp[i4,ih]
noncomputable def dep(a:V):Nat:=(dat a).depth
noncomputable def depL(l:List V):Nat:=PyData.depthAll (i4 l)
section
variable{g:G}{F:Blk}{Z:List (Option V)}{M:Hp}{Q:V->Hp->Prop}{QB:Bool->Hp->Prop}{X:Str->Hp->Prop}
theorem ad8{a b:V}(ha:flat a=true)(hb:flat b=true)(hu:min (dep a) (dep b)<=8*F.d)(h:Q (.bool (PyData.eqv (dat a) (dat b))) M):Op2 g F (compareOp .Eq) a b Z M Q X:=(λA env s x y I rx ry=>
 SeqAt.compareEq_reads (rx.reads ha) (ry.reads hb) (I5 ha) (I5 hb) (by have:=I.units;unfold dep at hu;lia) (m9 I h))
theorem ae7{a b:V}(ha:flat a=true)(hb:flat b=true)(hu:min (dep a) (dep b)<=8*F.d)(h:Q (.bool (!PyData.eqv (dat a) (dat b))) M):Op2 g F (compareOp .NotEq) a b Z M Q X:=(λA env s x y I rx ry=>
 SeqAt.compareNe_reads (rx.reads ha) (ry.reads hb) (I5 ha) (I5 hb) (by have:=I.units;unfold dep at hu;lia) (m9 I h))
theorem K9{A env s}{a:Addr}{l:List V}(I:Inv g F A env Z M s)(hM:M a=some (.lst l))(hf:flatL l=true):Reads s.heap (.ref a) (.list (i4 l)) [a]:=by
 obtain⟨vs,⟨n,ho⟩,r⟩:=(I.sim.objs a _ hM).1;exact .list ho rfl rfl (r.reads hf)
theorem bw6{a b:Addr}{l k:List V}(ha:M a=some (.lst l))(hb:M b=some (.lst k))(hl:flatL l=true)(hk:flatL k=true)(hu:min (depL l) (depL k)+1<=8*F.d)(h:Q (.bool (PyData.eqvAll (i4 l) (i4 k))) M):Op2 g F (compareOp .Eq) (.ref a) (.ref b) Z M Q X:=(λA env s x y I rx ry=>by
 obtain rfl:=rx.ofRef;obtain rfl:=ry.ofRef;refine SeqAt.compareEq_reads (K9 I ha hl) (K9 I hb hk) (J5 hl) (J5 hk) ?_ (m9 I h);have:=I.units;show A.units+min (PyData.depthAll (i4 l)+1) (PyData.depthAll (i4 k)+1)<cLine;unfold depL at hu;lia)
theorem bf7{a b:Addr}{l k:List V}(ha:M a=some (.lst l))(hb:M b=some (.lst k))(hl:flatL l=true)(hk:flatL k=true)(hu:min (depL l) (depL k)+1<=8*F.d)(h:Q (.bool (!PyData.eqvAll (i4 l) (i4 k))) M):Op2 g F (compareOp .NotEq) (.ref a) (.ref b) Z M Q X:=(λA env s x y I rx ry=>by
 obtain rfl:=rx.ofRef;obtain rfl:=ry.ofRef;refine SeqAt.compareNe_reads (K9 I ha hl) (K9 I hb hk) (J5 hl) (J5 hk) ?_ (m9 I h);have:=I.units;show A.units+min (PyData.depthAll (i4 l)+1) (PyData.depthAll (i4 k)+1)<cLine;rw[ew];exact aM (aV hu _) I.units)
theorem be2{a:Addr}{l:List V}{x:V}(ha:M a=some (.lst l))(hl:flatL l=true)(hx:flat x=true)(hu:min (depL l) (dep x)+1<=8*F.d)(h:Q (.bool ((i4 l).any λy=>PyData.eqv y (dat x))) M):Op2 g F (compareOp .In) x (.ref a) Z M Q X:=(λA env s u v I ru rv=>by
 obtain rfl:=rv.ofRef;refine SeqAt.in_list_reads (K9 I ha hl) (ru.reads hx) (J5 hl) (I5 hx) ?_ (m9 I h);have:=I.units;unfold depL dep at hu;lia)
theorem bS2{a:Addr}{l:List V}{x:V}(ha:M a=some (.lst l))(hl:flatL l=true)(hx:flat x=true)(hu:min (depL l) (dep x)+1<=8*F.d)(h:Q (.bool (!(i4 l).any λy=>PyData.eqv y (dat x))) M):Op2 g F (compareOp .NotIn) x (.ref a) Z M Q X:=(λA env s u v I ru rv=>by
 obtain rfl:=rv.ofRef;refine SeqAt.notIn_list_reads (K9 I ha hl) (ru.reads hx) (J5 hl) (I5 hx) ?_ (m9 I h);have:=I.units;unfold depL dep at hu;lia)
theorem bk0{l:List V}(hd:0<F.d)(h:Q (.bool (l.length==0)) M):Op2 g F (compareOp .Eq) (.tup l) (.tup []) Z M Q X:=(λA env s u v I ru rv=>by
   refine l5 ru.ofTup λa us n q1_ h1 r1=>?_;subst q1_
   refine l5 rv.ofTup λb ws m q1_ h2 r2=>?_;subst q1_
   have e1:us.size=l.length:=by rw[<- r1.length,ao]
   have e2:ws.size=0:=by rw[<- ao,r2.length];rfl
   have hu:=I.units;refine SeqAt.eq_tupleAt (e:=λz_=>true) ⟨_,h1,rfl,_,rfl⟩ ⟨_,h2,rfl,_,rfl⟩ (by lia) (λj z_ hj=>by lia) ?_
   rw[e2,e1];simp only[Nat.min_zero,List.range_zero,List.all_nil,fh]
   exact m9 I h)
end
noncomputable def isS(x:Str):Value->Bool
 | .str y _=>y==x
 | _=>false
theorem ad6{x:Str}{h:Heap}{vs:List Value}{ss:List Str}(r:d3 h vs (ss.map .str)):(∀ y∈vs,∃ z t,y=.str z t)/\vs.any (isS x)=ss.any (· == x):=by
 induction ss generalizing vs with
 | nil=>rw[r.ofNil];exact⟨λy hy=>(nomatch hy),rfl⟩
 | cons n ns ih=>
  refine f7 r.ofCons λv us q1_ r1 r2=>?_;subst q1_
  refine c5 r1.ofStr λt q1_=>?_;subst q1_
  refine c6 (ih r2) λh1 h2=>?_
  refine⟨λy hy=>?_,by rw[List.any_cons,List.any_cons,h2];rfl⟩
  rcases au.mp hy with rfl | hy
  ·exact⟨_,_,rfl⟩
  ·exact h1 y hy
section
variable{g:G}{F:Blk}{Z:List (Option V)}{M:Hp}{Q:V->Hp->Prop}{QB:Bool->Hp->Prop}{X:Str->Hp->Prop}
theorem aj3{A:Around}{s:Shared}{vs:Array Value}{x:Str}{t:Tok}(h:∀ y∈vs.toList,∃ z t,y=.str z t):∀ y,y∈vs->SeqAt.EqAt A s y (.str x t) (isS x y):=λy hy=>by
 obtain⟨z,u,rfl⟩:=h y (by simpa using hy)
 exact λprog w E Q hq=>PyProof.Rows.eqBool_str hq
theorem bj1{a:Addr}{ss:List Str}{x:Str}(ha:M a=some (.lst (ss.map .str)))(h:Q (.bool (ss.any (· == x))) M):Op2 g F (compareOp .In) (.str x) (.ref a) Z M Q X:=(λA env s u v I ru rv=>by
 obtain rfl:=rv.ofRef;refine c5 ru.ofStr λz_ q1_=>?_;subst q1_
 refine a9 ((I.sim.objs a _ ha).1) λvs hp r=>?_
 refine c6 (ad6 (x:=x) r) λh1 h2=>?_
 refine SeqAt.in_listAt (isS x) hp.isList (aj3 h1) ?_;rw[<- fF,h2];exact m9 I h)
theorem bC0{a:Addr}{ss:List Str}{x:Str}(ha:M a=some (.lst (ss.map .str)))(h:Q (.bool (!ss.any (· == x))) M):Op2 g F (compareOp .NotIn) (.str x) (.ref a) Z M Q X:=(λA env s u v I ru rv=>by
 obtain rfl:=rv.ofRef;refine c5 ru.ofStr λz_ q1_=>?_;subst q1_
 refine a9 ((I.sim.objs a _ ha).1) λvs hp r=>?_
 refine c6 (ad6 (x:=x) r) λh1 h2=>?_
 refine SeqAt.notIn_listAt (isS x) hp.isList (aj3 h1) ?_;rw[<- fF,h2];exact m9 I h)
theorem bM5{ss:List Str}{l:List V}{x:Str}(hl:l=ss.map .str)(h:Q (.bool (ss.any (· == x))) M):Op2 g F (compareOp .In) (.str x) (.tup l) Z M Q X:=(λA env s u v I ru rv=>by
  subst hl;refine c5 ru.ofStr λz_ q1_=>?_;subst q1_
  refine l5 rv.ofTup λa us n q1_ ht r=>?_;subst q1_
  refine c6 (ad6 (x:=x) r) λh1 h2=>?_
  refine SeqAt.in_tupleAt (isS x) ⟨_,ht,rfl,_,rfl⟩ (aj3 h1) ?_;rw[<- fF,h2];exact m9 I h)
end
noncomputable def Gs(g:G)(x:Str)(y:Str):Prop:=∃ t,g.mg x=some (.str y t)
noncomputable def Gd(g:G)(x:Str)(D:List (Str×Int)):Prop:=∃ d,g.mg x=some (.ref d)/\StrTab g.prog g.w g.h₀ d (D.map λp=>(.str p.1,.int p.2))
noncomputable def aK9:Option Int->V
 | some i=>.int i
 | none=>.none
theorem bf8(D:List (Str×Int))(x:Str):PySem.Spec.lookup (.str x) (D.map λp=>(.str p.1,.int p.2))=(D.lookup x).map .int:=by
 induction D with
 | nil=>rfl
 | cons p D ih=>
  show(if PySem.Spec.same (.str p.1) (.str x)=true then some (PyData.int p.2) else PySem.Spec.lookup (.str x) (D.map λp=>(.str p.1,.int p.2)))=_
  rw[PyProof.V.same_str,ih,bu];by_cases h:p.1=x
  ·subst h;simp
  ·have h':(x==p.1)=false:=beq_eq_false_iff_ne.mpr (Ne.symm h)
   simp[h,h']
theorem cd2(n:Nat):Builtin.Range.rangeSize 0 (n:Int) 1=n:=by
 have h:=aw8 0 n;unfold Builtin.Range.rangeSize at h ⊢;simp only[show((1:Int) > 0)=True from eq_true (by decide),if_true] at h ⊢
 split
 ·simp
 ·lia
section
variable{g:G}{sc:Scope}{vs:List Str}{d:Nat}{q:Bool}{F:Blk}{Z:List (Option V)}{M:Hp}{Q:V->Hp->Prop}{QB:Bool->Hp->Prop}{X:Str->Hp->Prop}
theorem ch5{x:Str}{pos:Pos}{i:Str}(hf:Gs g x i)(hk:sc.names.lookup x=some .globalImplicit)(hd:(x==("__debug__" : Str))=false)(h:Q (.str i) M):Ev g ⟨sc,vs,d,q⟩ (.Name x pos) Z M Q X:=
 by refine c5 hf λt ht=>?_;exact aL6 hk ht (λz_=>.str i t) h hd
theorem cj5{x:Str}{np apos pos:Pos}{e:Expr}{D:List (Str×Int)}(hf:Gd g x D)(hk:sc.names.lookup x=some .globalImplicit)(hd:(x==("__debug__" : Str))=false)
  (h:Ev g ⟨sc,vs,d,q⟩ e Z M (λv zs=>∃ y,v=.str y/\Q (aK9 (D.lookup y)) zs) X)
  (hline:(apos.endLine==pos.line)=true) (hbase:∀ env,attributeBase (.Name x np) (Str.ofString "get") env (eval (.Name x np) env)=eval (.Name x np) env)
  (hfew:∀ env,((backTo pos (starEach [e] env)).all (λx=>!x.1)&&(backToKw pos (keywordEach [] env)).all (λx=>x.1.isSome)
   && decide ([e].length+([]:List Keyword).length+(if ([]:List Keyword).isEmpty then 0 else 1)<30))=true) (he:∀ env,starEach [e] env=[(false,eval e env)]) :
  Ev g ⟨sc,vs,d,q⟩ (.Call (.Attribute (.Name x np) (Str.ofString "get") apos) [e] [] pos) Z M Q X:=(λA env s I=>by
 refine a9 hf λdd hm T=>?_
 have T':StrTab g.prog g.w s.heap dd (D.map λp=>(.str p.1,.int p.2)):=T.keep I.sim.stays
 have hty:s.TypeIs (.ref dd) "dict":=by obtain⟨lo,kvs,hd,hf⟩:=T';exact hd.typeIs
 have hpl:∃ ob,s.heap.get? dd=some ob/\ob.dict=none:=by
  obtain⟨lo,kvs,hd,hf⟩:=T';refine l5 hd.mapOf λo es ep ho hc z_=>?_
  exact⟨o,ho,hc.2.1⟩
 refine wpAny_Call_method (hbase env) (hfew env) hline PySem.F.plainAttrs_dict PySem.F.slot_dict_get PySem.F.type_dict_get
  (Calls.Name_function_global I.fn (by show env.scope.names.lookup x=_;rw[I.scope];exact hk) (cT (by rw[I.glob];exact g.ns.keeps I.sim.stays) hm ⟨hty,λb e=>by cases e;exact hpl,?_⟩) hd)
 have hEvs:Evs g ⟨sc,vs,d,q⟩ [e] Z M (λvs zs=>∃ v,vs=[v]/\∃ y,v=.str y/\Q (aK9 (D.lookup y)) zs) X:=
  P6 (h.mono λv zs hv=>U8 ⟨v,rfl,hv⟩) (by intros;rfl) he
 refine c6 (hEvs A env s pos I) λhw hp=>?_
 refine ch hp (v5 hp (wpAny_mono hw (λvs sv p0=>?_) λz_ z_ p=>p))
 refine p0 _ ?_;clear p0;rintro Vs zs rs I1 st1 hq;obtain⟨v,rfl,y,rfl,hQ⟩:=hq;refine a9 rs.one λz_ q1_ r0=>?_;subst q1_
 refine c5 r0.ofStr λz_ q1_=>?_;subst q1_
 have T₁:StrTab g.prog g.w sv.heap dd (D.map λp=>(.str p.1,.int p.2)):=T.keep I1.sim.stays
 refine call_get1_strTab T₁ λv hv=>?_
 rw[bf8] at hv;refine l4.step st1 ?_;cases hl:D.lookup y with
 | none=>
  rw[hl] at hv hQ;obtain rfl:=PyProof.V.Flat.none_inv hv;exact(λz_ k_=>k_ .none zs .none (I1.keep Step.toks I1.sim) Step.toks hQ)
 | some i=>
  rw[hl] at hv hQ;refine c5 (PyProof.V.Flat.int_inv hv) λt q1_=>?_;subst q1_
  exact(λz_ k_=>k_ (.int i) zs (.int _ _) (I1.keep Step.toks I1.sim) Step.toks hQ))
set_option tactic.hygienic true in
theorem ch0{a b:Int}(h:Q (.int (min a b)) M):Cl g ⟨sc,vs,d,true⟩ (.builtin "min") [.int a,.int b] Z M Q X:=(λA env s us I r=>by
 refine f7 r.two λ_ _ q1_ r0 r'=>?_;subst q1_
 refine c5 r0.ofInt λ_ q1_=>?_;subst q1_;refine c5 r'.ofInt λ_ q1_=>?_;subst q1_
 refine min_two_ints (I.quiet rfl) λh' tk hk=>?_
 ·have st:Step (inF A) d9 M M s {s with heap:=h',toks:=tk}:=Step.grow hk
  have e:min a b=if b<a then b else a:=by split<;>lia
  rw[e] at h
  split
  ·rename_i hc;rw[if_pos hc] at h;exact(λ_ k_=>k_ _ M (.int _ _) (I.keep st (I.sim.grow hk)) st h)
  ·rename_i hc;rw[if_neg hc] at h;exact(λ_ k_=>k_ _ M (.int _ _) (I.keep st (I.sim.grow hk)) st h))
set_option tactic.hygienic true in
theorem bq8{a b:Int}(h:Q (.int (max a b)) M):Cl g ⟨sc,vs,d,true⟩ (.builtin "max") [.int a,.int b] Z M Q X:=(λA env s us I r=>by
 refine f7 r.two λ_ _ q1_ r0 r'=>?_;subst q1_
 refine c5 r0.ofInt λ_ q1_=>?_;subst q1_;refine c5 r'.ofInt λ_ q1_=>?_;subst q1_
 refine max_two_ints (I.quiet rfl) λh' tk hk=>?_
 ·have st:Step (inF A) d9 M M s {s with heap:=h',toks:=tk}:=Step.grow hk
  have e:max a b=if b > a then b else a:=by split<;>lia
  rw[e] at h
  split
  ·rename_i hc;rw[if_pos hc] at h;exact(λ_ k_=>k_ _ M (.int _ _) (I.keep st (I.sim.grow hk)) st h)
  ·rename_i hc;rw[if_neg hc] at h;exact(λ_ k_=>k_ _ M (.int _ _) (I.keep st (I.sim.grow hk)) st h))
theorem bb9{x:Str}{np pos:Pos}{e:Expr}(hb:Bi g x (.type "list"))(hk:sc.names.lookup x=some .globalImplicit)(hd:(x==("__debug__" : Str))=false)
  (h:Rng g ⟨sc,vs,d,true⟩ e Z M (λa b c zs=>∃ n:Nat,a=0/\c=1/\b=n/\n<=10000/\∀ l,zs l=none->Q (.ref l) (upd zs l (.lst (g9 0 1 n)))) X)
  (he:∀ env,starEach [e] env=[(false,eval e env)]):Ev g ⟨sc,vs,d,true⟩ (.Call (.Name x np) [e] [] pos) Z M Q X:=(λA env s I=>by
 refine wpAny_Call_ofName (Calls.Name_function_global I.fn (by show env.scope.names.lookup x=_;rw[I.scope];exact hk) (aX (by rw[I.glob];exact g.ns.keeps I.sim.stays) hb.1 (by rw[I.bltn];exact g.nb.keeps I.sim.stays) hb.2 ?_) hd)
 have hp:(backTo pos (starEach [e] env)).any (·.1)=false:=by rw[he];rfl
 refine callWith_excType hp (v5 hp (wpAny_items_cons (wpAny_mono (h A env s I) (λv sv p0=>wpAny_items_nil ?_) λz_ z_ p=>p) (he env)))
 refine p0 _ ?_;clear p0;rintro r a b c t u v' zs hx hr I1 st1 ⟨n,ha,hc,hb,hn,hQ⟩;subst hx ha hc hb;refine call_list_range (I1.quiet rfl) hr (aF9 (by unfold s8;lia) (by unfold s8;lia)) (cd2 n) (ae hn (by decide)) λh' tk acc c' hkeep hat hit=>?_
 refine l4.step st1 (O7 (s':={sv with heap:=h',toks:=tk}) I1 ⟨hkeep,rfl,rfl⟩ (v3 _) hat ?_ hQ)
 have hlen:=hit.1;have:∀ (k:Nat) (l:List Value) (m:Nat),(∀ i v,l[i]?=some v->∃ t,v=Value.int (((m+i:Nat):Int)) t)->l.length=k->d3 h' l ((List.range k).map fun(i:Nat)=>V.int (((m+i:Nat):Int))):=by
  intro k;induction k with
  | zero=>intro l m _ hl;obtain rfl:=cg.mp hl;exact .nil
  | succ k ih=>
   intro l m hi hl;cases l with
   | nil=>cases hl
   | cons v l=>
    refine c5 (hi 0 v rfl) λt q1_=>?_;subst q1_
    rw[List.range_succ_eq_map,dR,bI];refine .cons (.int _ t) ?_;have:=ih l (m+1) (λi v hv=>by
     refine c5 (hi (i+1) v hv) λt e=>?_
     exact⟨t,by rw[e];congr 2;lia⟩) (by simpa using hl)
    have e:((λi=>V.int (((m+i:Nat):Int)))∘Nat.succ)=λi=>V.int (((m+1+i:Nat):Int)):=by
     funext i;simp only[Function.comp];congr 2;lia
    rw[e];exact this
 have h3:=this n acc.toList 0 (λi v hv=>by
  obtain⟨t,e⟩:=hit.2 i v (by rw[<- aD];exact hv)
  exact⟨t,by rw[e];congr 1;lia⟩) (by rw[ao];exact hlen)
 unfold g9;have e:(fun(i:Nat)=>V.int (0+(i:Int)*1))=λi=>V.int (((0+i:Nat):Int)):=by funext i;congr 1;lia
 rw[e];exact h3)
end
noncomputable def af7:Expr->Bool:=fun | .Starred ..=>true | _=>false
theorem fm2{α β:Type}{f:α->Option β}{a b:α}{x y:β}(h1:f a=some x)(h2:f b=some y):[a,b].filterMap f=[x,y]:=by
 rw[fG h1,fG h2];rfl
theorem br9{env:Env}{x y:Str}{px py tpos p:Pos}{k k':Nat}{a b:Expr}(hb:env.blockKind=.function)(hx:env.kindOf x=some .local)(hy:env.kindOf y=some .local)(hl:(py.line==px.line)=true)(hxy:([x,y].eraseDups.length != 2)=false)
  (hs:([a,b].any af7)=false) (hf:[a,b].all (foldedForSure 8)=false) (hc:[a,b].all (constantsAlone 8)=false) :
  swappedStores [.Tuple [.Name x px,.Name y py] k tpos] (.Tuple [a,b] k' p) env=pure (some [x,y]):=by
 have e1:(if (env.kindOf x==some .local&&px.line==px.line)=true then some x else none)=some x:=if_pos (by rw[hx];simp)
 have e2:(if (env.kindOf y==some .local&&py.line==px.line)=true then some y else none)=some y:=if_pos (by rw[hy,hl];rfl)
 unfold swappedStores;refine(if_neg (by rw[hb];exact ag)).trans ?_
 refine(if_neg (λh=>ag (hs.symm.trans h))).trans ?_
 have key:∀ (names:List Str) (U:Sem (Option (List Str))),names=[x,y]->(if (names.length != 2||names.eraseDups.length != names.length)=true then(pure none:Sem (Option (List Str))) else if [a,b].all (foldedForSure 8)=true then pure none else if [a,b].all (constantsAlone 8)=true then U else pure (some names))=pure (some [x,y]):=by
  rintro _ U rfl;exact(if_neg λh=>ag (hxy.symm.trans h)).trans ((if_neg λh=>ag (hf.symm.trans h)).trans (if_neg λh=>ag (hc.symm.trans h)))
 exact key _ _ (fm2 e1 e2)
section
variable{g:G}{sc:Scope}{vs:List Str}{d:Nat}{q:Bool}{F:Blk}{Z:List (Option V)}{M:Hp}{Q:V->Hp->Prop}{QB:Bool->Hp->Prop}{X:Str->Hp->Prop}
theorem aW4{i:Int}(h:Q (.bool true) M):Op2 g F (compareOp .NotEq) .none (.int i) Z M Q X:=ae7 rfl rfl (aE _) h
theorem bK9{i:Int}(h:Q (.bool false) M):Op2 g F (compareOp .Eq) .none (.int i) Z M Q X:=ad8 rfl rfl (aE _) h
theorem ce0{a b:Bool}(h:Q (.bool (a != b)) M):Op2 g F (compareOp .NotEq) (.bool a) (.bool b) Z M Q X:=ae7 rfl rfl (aE _) h
theorem bb0{a b:Bool}(h:Q (.bool (a==b)) M):Op2 g F (compareOp .Eq) (.bool a) (.bool b) Z M Q X:=ad8 rfl rfl (aE _) h
end
noncomputable def ac8(P:Params)(p:Str×Nat×Int×Nat):DictEntry:=⟨PyData.keyHash P p.1,.str p.1 p.2.1,.int p.2.2.1 p.2.2.2⟩
theorem bN4{prog:Program}{w:World}{h:Heap}{d n:Nat}(l:List (Str×Nat×Int×Nat))(hn:(l.map (·.1)).Nodup)(hd:(d==sysModules)=false)(ho:h.get? d=some {cls:=.type "dict",data:=.dict (l.map (ac8 w.params)).toArray n}) :
  StrTab prog w h d ((l.map λp=>(p.1,p.2.2.1)).map λp=>(PyData.str p.1,PyData.int p.2)):=by
 refine TabAt.ofObj (kvs:=l.map λp=>(p.1,Value.int p.2.2.1 p.2.2.2)) hd ho ⟨_,_,⟨rfl,rfl,rfl⟩,rfl,?_,?_,?_⟩ ?_
 ·intro e he
  simp only[List.mem_toArray,ar] at he
  refine a9 he λp z_ q1_=>?_;try clear he;subst q1_
  exact⟨p.1,by simp[PySem.strKind,Value.isStrOf,ac8],rfl⟩
 ·rw[gI]
  clear ho hn;induction l with
  | nil=>exact .nil
  | cons p l ih=>exact .cons (by simp[PySem.strKind,Value.isStrOf,ac8]) rfl ih
 ·rw[bI];exact hn
 ·clear ho hn
  induction l with
  | nil=>exact .nil
  | cons p l ih=>exact .cons (PyProof.V.Flat.int _ _) ih
theorem E7{h:Heap}{a:Addr}{m:Str->Option Value}{o:Obj}{es:Array DictEntry}{ep:Nat}(hn:h.Ns a m)(ho:h.get? a=some o)(hd:o.data=.dict es ep)(x:Str):m x=nsFind es x:=by
 refine bE0 hn λo' es' ep' ho' hd' z_ hf=>?_
 rw[ho] at ho';replace ho':=g8 ho';subst ho';rw[hd] at hd';cases hd';exact(hf x).symm
theorem d3.erase{h:Heap}{vs:List Value}{l:List V}(i:Nat)(r:d3 h vs l):d3 h (vs.eraseIdx i) (l.eraseIdx i):=by
 induction l generalizing vs i with
 | nil=>rw[r.ofNil];exact .nil
 | cons y l ih=>
  refine f7 r.ofCons λu us q1_ r1 r2=>?_;subst q1_
  cases i with
  | zero=>exact r2
  | succ i=>exact .cons r1 (ih i r2)
section
variable{g:G}{F:Blk}{Z:List (Option V)}{M:Hp}{Q:V->Hp->Prop}{X:Str->Hp->Prop}
theorem bz5{A env s}{a:Addr}{l l':List V}{vs:Array Value}{n:Nat}{f:Array Value->Array Value}{fr own:Addr->Prop}{tk:Nat}(I:Inv g F A env Z M s)(hM:M a=some (.lst l))(ho:s.heap.get? a=some {cls:=.type "list",data:=.seq vs n})
  (r:d3 s.heap (f vs).toList l'):Inv g F A env Z (upd M a (.lst l')) {s with heap:=s.heap.update a (bh f),toks:=tk}/\Step fr own M (upd M a (.lst l')) s {s with heap:=s.heap.update a (bh f),toks:=tk}:=by
 have hs:Heap.SameBut a s.heap (s.heap.update a (bh f)):=Heap.SameBut.update ..;have hp:(s.heap.update a (bh f)).PlainList a (f vs):=⟨_,co _ ho rfl⟩;have tu:=V5 hs ⟨n,ho⟩;obtain⟨I',st⟩:=ag2 (own:=own) (tk:=tk) I ⟨_,hM⟩ hp (r.mono tu) hs ⟨vs,n,ho⟩;exact⟨I',st⟩
theorem bx5{a:Addr}{l:List V}{k:Int}{x:V}(hM:M a=some (.lst l))(hz:l.length<=10000)(h0:0<=k)(hk:k<l.length)(hx:l[k.toNat]?=some x)(h:Q x (upd M a (.lst (l.eraseIdx k.toNat)))):Cl g F (.builtin "list.pop") [.ref a,.int k] Z M Q X:=(λA env s us I r=>by
 refine f7 r.two λz_ z_ q1_ r0 r'=>?_;subst q1_
 obtain rfl:=r0.ofRef;refine c5 r'.ofInt λz_ q1_=>?_;subst q1_
 obtain⟨vs,⟨n,ho⟩,rl⟩:=(I.sim.objs a _ hM).1;have e:vs.size=l.length:=by rw[<- rl.length,ao]
 refine a9 (rl.get hx) λv hv rv=>?_
 have hv':vs[k.toNat]?=some v:=by rw[<- aD];exact hv
 refine call_meets PySem.F.slot_list_pop ⟨_,ho,rfl⟩ PySem.F.entry_list_pop (PySem.F.args_list_pop_2 _ _) (MeetsSeq.list_pop_at a vs n k _ k.toNat v (by simp[Builtin.List.listFitsIndex];lia) (by rw[e];exact af1 h0 hk) hv' (by rw[e];exact ae hz (by decide))) ⟨ho,?_⟩
 obtain⟨I',st⟩:=bz5 (own:=d9) (tk:=s.toks) (f:=λxs=>xs.eraseIdxIfInBounds k.toNat) (l':=l.eraseIdx k.toNat) I hM ho (by
  have:(vs.eraseIdxIfInBounds k.toNat).toList=vs.toList.eraseIdx k.toNat:=by simp
  rw[this];exact rl.erase _)
 exact(λz_ k_=>k_ x _ (rv.mono st.tups) I' st h))
theorem ax8{h:Heap}{vs:Array Value}{l:List V}(r:d3 h vs.toList l):∀ (n:Nat) (acc:Array Value) (k:List V),d3 h acc.toList k->d3 h (gB (λx y=>x++y) acc (List.replicate n vs)).toList (k++(List.replicate n l).flatten)
 | 0,acc,k,hk=>by simpa using hk
 | n+1,acc,k,hk=>by
  rw[gJ,dx,gJ,List.flatten_cons,<- aH];exact ax8 r n _ _ (by rw[bJ];exact hk.append r)
set_option tactic.hygienic true in
theorem bn5{a:Addr}{l:List V}{n:Int}(hM:M a=some (.lst l))(h0:0<=n)(hz:l.length*n.toNat<=10000)(hn:n<=10000)(h:∀ b,M b=none->Q (.ref b) (upd M b (.lst (List.replicate n.toNat l).flatten))):Op2 g F (binaryOp .Mult) (.ref a) (.int n) Z M Q X:=(λA env s x y I rx ry=>by
 obtain rfl:=rx.ofRef;refine c5 ry.ofInt λu q1_=>?_;subst q1_
 obtain⟨vs,⟨k,ho⟩,rl⟩:=(I.sim.objs a _ hM).1;have e:vs.size=l.length:=by rw[<- rl.length,ao]
 have hz':vs.size*n.toNat<=10000:=by rw[e];exact hz
 refine wpAny_binaryOp_repeat_ref (T:="list") (U:="int") (by decide) ⟨_,ho,rfl⟩ (λs'=>typeIs_int s' n u) noFill_list_mul PySem.F.fills_int_mul PySem.F.slot_int_rmul repeat_list PySem.F.slot_int_index.lookup
  (call_meets PySem.F.slot_int_rmul (typeIs_int s n u) PySem.F.entry_int_rmul (PySem.F.args_int_rmul_2 _ _) (int___rmul___int_list n u a vs k)
   ⟨ho,rfl,⟨_,ho,rfl⟩,call_meets PySem.F.slot_list_mul ⟨_,ho,rfl⟩ PySem.F.entry_list_mul (PySem.F.args_list_mul_2 _ _)
    (AutoListH.list___mul___list_int_3 a vs k n u (by simp[Builtin.List.listFitsIndex];lia) (by lia) (by simp[Builtin.List.listTooLong,sizeLine];lia))
    ⟨ho,?_⟩⟩)
 have st:=Step.push (fr:=inF A) (own:=d9) (M:=M) (s:=s) (o:={cls:=.type "list",data:=.seq (gB (λx1 x2=>x1++x2) #[] (List.replicate (if vs.isEmpty=true then 0 else n.toNat) vs))})
 refine O7 (s':={s with heap:=s.heap.push {cls:=.type "list",data:=.seq (gB (λx1 x2=>x1++x2) #[] (List.replicate (if vs.isEmpty=true then 0 else n.toNat) vs))}}) I ⟨λb o e=>an _ e,rfl,rfl⟩ (v3 _) (aB _ rfl) ?_ h
 have:d3 s.heap (gB (λx1 x2=>x1++x2) #[] (List.replicate (if vs.isEmpty=true then 0 else n.toNat) vs)).toList (List.replicate n.toNat l).flatten:=by
  split
  ·rename_i hemp
   have:vs=#[]:=by simpa using hemp
   subst this;obtain rfl:l=[]:=by cases l with | nil=>rfl | cons x l=>refine j8 rl.ofCons λ_ _ e _=>?_;cases e
   rw[show(List.replicate n.toNat ([]:List V)).flatten=[] by simp]
   exact .nil
  ·have:=ax8 rl n.toNat #[] [] .nil
   simpa using this
 exact this.mono st.tups)
end
section
variable{K:Type}{h:Heap}{kvs:List (K×Value)}{L:List (K×V)}
theorem KVs.nil:KVs (K:=K) h [] []:=⟨rfl,.nil⟩
theorem KVs.cons{k:K}{v:Value}{x:V}(r:Rep h v x)(s:KVs h kvs L):KVs h ((k,v)::kvs) ((k,x)::L):=⟨congrArg (k :: ·) s.1,.cons r s.2⟩
theorem KVs.ofNil(s:KVs h kvs []):kvs=[]:=List.map_eq_nil_iff.mp s.1
theorem KVs.ofCons{k:K}{x:V}(s:KVs h kvs ((k,x)::L)):∃ v us,kvs=(k,v)::us/\Rep h v x/\KVs h us L:=by
 cases kvs with
 | nil=>cases s.1
 | cons p us=>
  obtain⟨e1,e2⟩:=List.cons.inj s.1;obtain⟨k',v⟩:=p;obtain⟨v',us',e,r1,r2⟩:=s.2.ofCons;obtain⟨e3,e4⟩:=List.cons.inj e;subst e1 e3 e4;exact⟨v,us,rfl,r1,e2,r2⟩
variable[DecidableEq K]
noncomputable def A4(L:List (K×V))(k:K)(v:V):List (K×V):=if L.any (λp=>p.1=k) then L.map (λp=>if p.1=k then(p.1,v) else p) else L++[(k,v)]
noncomputable def i8(L:List (K×V))(k:K):Option V:=(L.find? λp=>p.1=k).map (·.2)
inductive Seen(h:Heap):Option Value->Option V->Prop
 | no:Seen h none none
 | yes {v:Value} {x:V} (r:Rep h v x):Seen h (some v) (some x)
theorem KVs.seen(k:K)(s:KVs h kvs L):Seen h (valueAt kvs k) (i8 L k):=by
 induction L generalizing kvs with
 | nil=>rw[s.ofNil];exact .no
 | cons p L ih=>
  obtain⟨k',x⟩:=p;obtain⟨v,us,rfl,r,s⟩:=s.ofCons;have h2:=ih s;unfold valueAt i8 at h2 ⊢;rw[fO,fO];by_cases e:k'=k
  ·rw[show decide ((k',v).1=k)=true from decide_eq_true e];exact .yes r
  ·rw[show decide ((k',v).1=k)=false from decide_eq_false e];exact h2
theorem aM0{α:Type}(l:List (K×α))(k:K):l.any (λp=>p.1=k)=(l.map (·.1)).any (λq=>q=k):=by rw[eG];rfl
theorem KVs.put{k:K}{v:Value}{x:V}(s:KVs h kvs L)(r:Rep h v x):KVs h (stored kvs k v) (A4 L k x):=by
 unfold stored A4;rw[aM0 kvs,aM0 L,s.1];cases(L.map (·.1)).any (λq=>q=k) with
 | true=>
  rw[if_pos rfl,if_pos rfl];induction L generalizing kvs with
  | nil=>rw[s.ofNil];exact .nil
  | cons p L ih=>
   obtain⟨k',y⟩:=p;obtain⟨u,us,rfl,r1,s⟩:=s.ofCons;rw[dR,dR];by_cases e:k'=k
   ·rw[if_pos e,if_pos e];exact .cons r (ih s)
   ·rw[if_neg e,if_neg e];exact .cons r1 (ih s)
 | false=>
  rw[if_neg ag,if_neg ag];refine⟨?_,?_⟩
  ·rw[av,av,s.1];rfl
  ·rw[av,av];exact s.2.append (.cons r .nil)
theorem KVs.len(s:KVs h kvs L):kvs.length=L.length:=by
 have:=congrArg List.length s.1;rw[ac,ac] at this;exact this
end
structure Kd(g:G)(K:Type)[DecidableEq K] where
 knd:KeyKind g.prog g.w K
 key:K->V
 ob:List (K×V)->AObj
 rep:∀ h v k,Rep h v (key k)->knd.is k v=true
 orep:∀ h a l,u1 g h a (ob l)=m7 knd h a l
noncomputable def kdI(g:G):Kd g Int where
 knd:=intKind g.prog g.w
 key:=.int
 ob:=.di
 rep:=λh v k r=>by refine c5 r.ofInt λt q1_=>?_;subst q1_;exact decide_eq_true rfl
 orep:=λz_ z_ z_=>rfl
noncomputable def kdS(g:G):Kd g Str where
 knd:=strKind g.prog g.w
 key:=.str
 ob:=.ds
 rep:=λh v k r=>by refine c5 r.ofStr λt q1_=>?_;subst q1_;exact beq_self_eq_true k
 orep:=λz_ z_ z_=>rfl
section
variable{g:G}{F:Blk}{Z:List (Option V)}{M:Hp}{Q:V->Hp->Prop}{X:Str->Hp->Prop}{K:Type}[DecidableEq K](D:Kd g K)
theorem Inv.dict{A env s}{a:Addr}{L:List (K×V)}(I:Inv g F A env Z M s)(hM:M a=some (D.ob L)):m7 D.knd s.heap a L:=by
 have:=(I.sim.objs a _ hM).1;rw[D.orep] at this;exact this
theorem aH8{h:Heap}{o:Option Value}{x:Option V}(s:Seen h o x):o.isSome=x.isSome:=by cases s<;>rfl
theorem bK0{a:Addr}{L:List (K×V)}{k:K}(hM:M a=some (D.ob L))(h:Q (.bool (i8 L k).isSome) M):Op2 g F (compareOp .In) (D.key k) (.ref a) Z M Q X:=(λA env s x y I rx ry=>by
 obtain rfl:=ry.ofRef;refine(I.dict D hM) _ ?_;rintro kvs hd hv hs;exact wpAny_in_of (D.rep _ _ _ rx) hs hd.mapOf (by rw[aH8 (hv.seen k)];exact m6 I h))
theorem bI3{a:Addr}{L:List (K×V)}{k:K}(hM:M a=some (D.ob L))(h:Q (.bool (!(i8 L k).isSome)) M):Op2 g F (compareOp .NotIn) (D.key k) (.ref a) Z M Q X:=(λA env s x y I rx ry=>by
 obtain rfl:=ry.ofRef;refine(I.dict D hM) _ ?_;rintro kvs hd hv hs;exact wpAny_notIn_of (D.rep _ _ _ rx) hs hd.mapOf (by rw[aH8 (hv.seen k)];exact m6 I h))
theorem at8{a:Addr}{L:List (K×V)}{k:K}{x:V}(hM:M a=some (D.ob L))(hx:i8 L k=some x)(h:Q x M):Itm g F (.ref a) (D.key k) Z M Q X:=(λA env s v y I rv ry=>by
 obtain rfl:=rv.ofRef;refine(I.dict D hM) _ ?_;rintro kvs hd hv hs;have q:=hv.seen k;rw[hx] at q;generalize e:valueAt kvs k=ov at q;cases q with
 | yes r=>exact⟨"dict",_,hd.typeIs,slot_dict_getitem.lookup,wpAny_getItem_of (D.rep _ _ _ ry) hd.mapOf e (λz_ k_=>k_ x M r (I.keep Step.toks I.sim) Step.toks h)⟩)
theorem aE1{h h':Heap}{a:Addr}{L:List (K×V)}(hs:Heap.SameBut a h h')(hd:m7 D.knd h a L):k9 h h':=λb ws n e=>by
 refine p8 hd.has λes ep ho=>?_
 exact(hs.2 b (λq=>by rw[q,ho] at e;simp at e)).trans e
theorem m7.isD{knd:KeyKind g.prog g.w K}{h:Heap}{a:Addr}{l:List (K×V)}(x:m7 knd h a l):∃ ob,h.get? a=some ob/\IsD ob:=by
 refine p8 x.has λes ep ho=>?_
 exact⟨_,ho,es,ep,rfl⟩
theorem ao4{b:Addr}{L:List (K×V)}{k:K}{v:V}{P:Hp->Prop}(hM:M b=some (D.ob L))(hz:L.length<=sizeLine)(hQ:P (upd M b (D.ob (A4 L k v)))):StI g F (.ref b) (D.key k) v Z M P:=(λA env s x y z E I rx ry rz=>by
 obtain rfl:=rx.ofRef;have hdr:=I.dict D hM;refine(id hdr) _ ?_;rintro kvs hd hv hsm;refine wpAny_setItem_pairs (D.rep _ _ _ ry) hd (λh' hd' hs'=>?_) (by rw[hv.len];exact hz)
 have tu:=aE1 D hs' hdr;have dr:m7 D.knd h' b (A4 L k v):=(λz_ k_=>k_ _ hd' ((hv.mono tu).put (rz.mono tu)) hsm)
 obtain⟨I4,st4⟩:=ak4 (fr:=inF A) (own:=j6 env) (tk:=s.toks+1) I hM (by rw[D.orep];exact dr) hs' tu λz_ z_ z_=>dr.isD
 exact⟨_,I4,st4,hQ⟩)
theorem aO0{A env s}(I:Inv g F A env Z M s):(s.heap.objs.size==sysModules)=false:=by
 refine x6 (g.ns.keeps I.sim.stays) λo es ep ho z_=>?_
 have h3:3<s.heap.objs.size:=aU ho;show(s.heap.objs.size==1)=false;rw[beq_eq_false_iff_ne];exact λe=>absurd (e▸h3) (by decide)
theorem aO3{h:Heap}(hs:(h.objs.size==sysModules)=false):m7 D.knd (h.push {cls:=.type "dict",data:=.dict #[]}) h.objs.size []:=(λz_ k_=>k_ [] (Heap.DictOf.new _) .nil hs)
theorem aP1{s:Shared}{o:Obj}:Ext s {s with heap:=s.heap.push o}:=⟨λb o e=>an _ e,rfl,rfl⟩
theorem az9{pos:Pos}(h:∀ a,M a=none->Q (.ref a) (upd M a (D.ob []))):Ev g F (.Dict [] [] pos) Z M Q X:=(λA env s I=>
 wpAny_Dict_empty (aj7 I aP1 (v3 _) (by rw[D.orep];exact aO3 D (aO0 I)) h))
theorem k6.unframe{A env s sv zs}{d:Addr}{o:AObj}{e:Value}{s':Shared}(st:Step (inF A) d9 M zs s sv)(p:k6 g F A env Z zs sv (λv M2=>∃ M',M2=upd M' d o/\M' d=none/\X v M') e s'):k6 g F A env Z M s X e s':=by
 refine p _ ?_;clear p;rintro x M2 f i y ⟨M',rfl,hn,q⟩;exact(λz_ k_=>k_ x M' ((f.step st).sub (Sub.upd hn)) (i.sub (Sub.upd hn)) ((st.trans y).sub (Sub.upd hn)) q)
theorem aH5{ke ve:Expr}{pos:Pos}(h:Ev g F ke Z M (λkv zs=>Ev g F ve Z zs (λv M2=>∃ k,kv=D.key k/\∀ a,M2 a=none->Q (.ref a) (upd M2 a (D.ob [(k,v)]))) X) X):Ev g F (.Dict [some ke] [ve] pos) Z M Q X:=(λA env s I=>by
 refine wpAny_Dict_pairs (knd:=D.knd) (pairs:=[(eval ke env,do let y <- eval ve env;standAt pos;pure y)]) rfl (by simp) (by simp) ?_
 refine(aj7 (Q:=λv zs=>∃ a,v=.ref a/\zs=upd M a (D.ob [])/\M a=none) (o:=D.ob []) I (aP1 (o:={cls:=.type "dict",data:=.dict #[]})) (v3 _) (by rw[D.orep];exact aO3 D (aO0 I)) λa ha=>⟨a,rfl,rfl,ha⟩) _ ?_;rintro V zs r I1 st1 ⟨a,rfl,rfl,ha⟩
 have e0:s.heap.objs.size=a:=Value.ref.inj r.ofRef;refine evalPairs_cons (pgo ((h.frame ha) A env _ I1) (λkv s2 Vk M2 rk I2 st2 hq=>?_) λe s' p=>p.unframe st1)
 refine f9 hq λM' q1_ hn qz=>?_;try clear hq;subst q1_
 have st12:=st1.trans st2;refine wpAny_bind (pgo ((qz.frame hn) A env s2 I2) (λvv s3 Vv M3 rv I3 st3 hq=>?_) λe s' p=>p.unframe st12)
 obtain⟨M'',rfl,hn',k,rfl,hQ⟩:=hq;have st13:=st12.trans st3;refine wpAny_bind (wpAny_standAt (wpAny_pure (evalPairs_nil ?_)));rw[e0];have hdr:=I3.dict D (c9 _ _ _);refine(id hdr) _ ?_;rintro kvs hd hv hsm;obtain rfl:=hv.ofNil;refine⟨[(k,vv)],⟨D.rep _ _ _ (rk.mono st3.tups),rfl,trivial⟩,hd,λh' hd' hs'=>?_⟩
 have tu:=aE1 D hs' hdr;have dr:m7 D.knd h' a [(k,Vv)]:=(λz_ k_=>k_ _ hd' (.cons (rv.mono tu) .nil) hsm)
 obtain⟨I4,st4⟩:=ak4 (fr:=inF A) (o':=D.ob [(k,Vv)]) (own:=d9) (tk:=s3.toks+1) I3 (c9 _ _ _) (by rw[D.orep];exact dr) hs' tu λz_ z_ z_=>dr.isD
 rw[N5] at I4 st4;exact(λz_ k_=>k_ (.ref a) _ (.ref a) I4 (st13.trans st4) (hQ a hn')))
end
section
variable{g:G}{F:Blk}{sc:Scope}{vs:List Str}{d:Nat}{q:Bool}{Z:List (Option V)}{M:Hp}{Q:V->Hp->Prop}{X:Str->Hp->Prop}
end
section
variable{g:G}{F:Blk}{Z:List (Option V)}{M:Hp}{Q:V->Hp->Prop}{X:Str->Hp->Prop}
theorem bi6{a:Addr}{bs:List Bool}(hq:F.q=true)(hM:M a=some (.lst (bs.map .bool)))(h:Q (.bool (bs.any id)) M):Cl g F (.builtin "any") [.ref a] Z M Q X:=(λA env s vs I r=>by
  refine a9 r.one λz_ q1_ r0=>?_;subst q1_
  obtain rfl:=r0.ofRef;refine a9 ((I.sim.objs a _ hM).1) λus hp rl=>?_
  have hus:=rl.bools;have hsz:us.size=bs.length:=by rw[<- ao,hus,ac]
  have hfr:s.heap.get? s.heap.objs.size=none:=v3 _;refine call_any_walk (wpAny_pyIter_list hp.isList ?_);have hne:a≠s.heap.objs.size:=λq=>by refine c5 hp λc hc=>?_;rw[q,hfr] at hc;exact f5 hc
  refine⟨_,_,_,_,_,_,λi=>bs.getD i false,rfl,Walks.list (A:=A.in1) (I.quiet hq) s.heap.objs.size a hne us,⟨⟨_,aB _ rfl,rfl,rfl⟩,hp.isList.push _⟩,λi v s' QB' E' hP hQ'=>?_,λh' tk hk=>?_⟩
  ·dsimp only at hP hQ'
   have:us.toList[i]?=some v:=by rw[aD];exact hP
   rw[hus,aw] at this;refine a9 (aJ.mp this) λb hb q1_=>?_;subst q1_
   refine wpAny_truthy_bool ?_;have e:bs.getD i false=b:=by rw[aF,hb];rfl
   rw[e] at hQ';exact hQ'
  ·have hk':∀ b o,s.heap.get? b=some o->h'.get? b=some o:=λb o e=>hk b o (λq=>by simp at q;rw[q,hfr] at e;exact f5 e) (an _ e)
   have e:(List.range us.size).any (λi=>bs.getD i false)=bs.any id:=by
    rw[hsz,dw,cH,cH];constructor
    ·rintro hh_;refine a9 hh_ λi hi h=>?_
     have hi':=cb.mp hi;rw[aF,aa hi'] at h;exact⟨_,bL hi',h⟩
    ·rintro hh_;refine a9 hh_ λb hb h=>?_
     obtain⟨i,hi,rfl⟩:=dt hb;exact⟨i,cb.mpr hi,by rw[aF,aa hi];exact h⟩
   rw[e];have st:Step (inF A) d9 M M s {s with heap:=h',toks:=tk}:=Step.grow hk'
   exact(λz_ k_=>k_ (.bool _) M (.bool _) (I.keep st (I.sim.grow hk')) st h))
theorem aS4{K:Type}[DecidableEq K](D:Kd g K){o e z:Expr}{apos pos:Pos}
  (h:Ev g F o Z M (λv zs=>∃ a L,v=.ref a/\zs a=some (D.ob L)/\Ev g F e Z zs (λu M2=>Ev g F z Z M2 (λy M3=>∃ k L',u=D.key k/\M3 a=some (D.ob L')/\Q ((i8 L' k).getD y) M3) X) X) X)
  (hline:(apos.endLine==pos.line)=true) (hbase:∀ env,attributeBase o (Str.ofString "get") env (eval o env)=eval o env)
  (hfew:∀ env,((backTo pos (starEach [e,z] env)).all (λx=>!x.1)&&(backToKw pos (keywordEach [] env)).all (λx=>x.1.isSome)
   && decide ([e,z].length+([]:List Keyword).length+(if ([]:List Keyword).isEmpty then 0 else 1)<30))=true) (he:∀ env,starEach [e,z] env=[(false,eval e env),(false,eval z env)]) :
  Ev g F (.Call (.Attribute o (Str.ofString "get") apos) [e,z] [] pos) Z M Q X:=(λA env s I=>by
 refine wpAny_Call_method (hbase env) (hfew env) hline PySem.F.plainAttrs_dict PySem.F.slot_dict_get PySem.F.type_dict_get (pgo (h A env s I) (λov sv V zs r I1 st1 hpq=>?_) λz_ z_ p=>p)
 refine f7 hpq λa L hv hM qz=>?_
 subst hv;obtain rfl:=r.ofRef;refine p8 ((I1.dict D hM).has) λes ep ho=>?_
 refine⟨⟨_,ho,rfl⟩,λb e=>by cases e;exact⟨_,ho,rfl⟩,?_⟩
 rw[he env];refine method2_meetsIn PySem.F.slot_dict_get PySem.F.entry_dict_get ?_;rw[if_neg ag,if_neg ag];refine pgo (qz A env sv I1) (λkv s2 Vk M2 rk I2 st2 hq=>?_) λz_ z_ p=>p.step st1
 have st12:=st1.trans st2;refine pgo (hq A env s2 I2) (λzv s3 Vz M3 rz I3 st3 hq=>?_) λz_ z_ p=>p.step st12
 refine f7 hq λk L' q1_ hM2 hQ=>?_;try clear hq;subst q1_
 refine(I3.dict D hM2) _ ?_;rintro kvs hd hv hs;refine⟨hd.typeIs,PySem.F.args_dict_get_3 _ _ _,_,meets_dict_get_default D.knd a (D.rep _ _ _ (rk.mono st3.tups)) hs zv,_,hd.mapOf,?_⟩;have q:=hv.seen k;refine l4.step (st12.trans st3) ?_;generalize valueAt kvs k=ov at q ⊢;generalize i8 L' k=od at q hQ;cases q with
 | no=>exact(λz_ k_=>k_ _ M3 rz (I3.keep Step.toks I3.sim) Step.toks hQ)
 | yes r=>exact(λz_ k_=>k_ _ M3 r (I3.keep Step.toks I3.sim) Step.toks hQ))
theorem bi7{es:List Expr}{k:Nat}{tp pos:Pos}{e:Expr}{Q:d4}{X:g7}(hq:F.q=true)(h:Ev g F e Z M (λv zs=>Asg g F (.Tuple es k tp) v Z zs (λZ'=>Q .next Z' zs)) (λx zs=>X x Z zs))
  (hs:∀ env,swapsWithSole [.Tuple es k tp] e pos.line env=pure false) (hw:∀ env,swappedStores [.Tuple es k tp] e env=pure none):Ex g F (.Assign [.Tuple es k tp] e pos) Z M Q X:=(λA env s I=>by
 refine PyProof.Rows.Assign_Tuple (wpAny_mono (h A env s I) (λv sv p=>?_) λz_ z_ p=>p.toS) (hs env) (hw env)
 refine p _ ?_;clear p;rintro V zs r I1 st1 a;exact a.run A env sv v _ _ I1 (I1.quiet hq) r λs2 Z' I2 st2 q=>(λz_ k_=>k_ .next Z' zs .next I2 ((st1.mono λz_ h=>h.elim).trans st2) q))
end
section
variable{g:G}{sc:Scope}{vs:List Str}{d:Nat}{q:Bool}{Z:List (Option V)}{M:Hp}{Q:V->Hp->Prop}{X:Str->Hp->Prop}
theorem ce5{a:Addr}:AnswersAll (λs=>s.TypeIs (.ref a) "list") (.ref a) [.type "list",.type "tuple"] [true,false]:=
 ⟨Answers.of_true (by kernel_rfl) (by rw[isSubtype_type];kernel_rfl),Answers.of_false_list (by decide) (by kernel_rfl) (by rw[isSubtype_type];kernel_rfl),trivial⟩
theorem bD7{a:Addr}:AnswersAll (λs=>s.TypeIs (.ref a) "tuple") (.ref a) [.type "list",.type "tuple"] [false,true]:=
 ⟨Answers.of_false_tuple (by decide) (by kernel_rfl) (by rw[isSubtype_type];kernel_rfl),Answers.of_true (by kernel_rfl) (by rw[isSubtype_type];kernel_rfl),trivial⟩
theorem bA9{x t u:Str}{np p1 p2 tp pos:Pos}{k:Nat}{e:Expr}(hb:Bi g x (.builtin "isinstance"))(h1:Bi g t (.type "list"))(h2:Bi g u (.type "tuple"))(hk:sc.names.lookup x=some .globalImplicit)(hk1:sc.names.lookup t=some .globalImplicit)(hk2:sc.names.lookup u=some .globalImplicit)
  (h:Ev g ⟨sc,vs,d,q⟩ e Z M (λv zs=>((∃ a l,v=.ref a/\zs a=some (.lst l))∨∃ l,v=.tup l)/\Q (.bool true) zs) X) (hd:(x==("__debug__" : Str))=false) (hd1:(t==("__debug__" : Str))=false) (hd2:(u==("__debug__" : Str))=false)
  (he:∀ env,starEach [e,.Tuple [.Name t p1,.Name u p2] k tp] env=(false,eval e env)::starEach [.Tuple [.Name t p1,.Name u p2] k tp] env):Ev g ⟨sc,vs,d,q⟩ (.Call (.Name x np) [e,.Tuple [.Name t p1,.Name u p2] k tp] [] pos) Z M Q X:=(λA env s I=>by
 refine wpAny_Call_ofName (Calls.Name_function_global I.fn (by show env.scope.names.lookup x=_;rw[I.scope];exact hk) (aX (by rw[I.glob];exact g.ns.keeps I.sim.stays) hb.1 (by rw[I.bltn];exact g.nb.keeps I.sim.stays) hb.2 ?_) hd)
 have hp:(backTo pos (starEach [e,.Tuple [.Name t p1,.Name u p2] k tp] env)).any (·.1)=false:=by rw[he];rfl
 refine ch hp (v5 hp (wpAny_items_cons (pgo (h A env s I) (λv sv V zs r I1 st1 hQ=>?_) λz_ z_ p=>p) (he env)))
 refine wpAny_items_cons (wpAny_Tuple ?_);refine wpAny_items_cons (Calls.Name_function_global I1.fn (by show env.scope.names.lookup t=_;rw[I1.scope];exact hk1) (aX (by rw[I1.glob];exact g.ns.keeps I1.sim.stays) h1.1 (by rw[I1.bltn];exact g.nb.keeps I1.sim.stays) h1.2 ?_) hd1)
 refine wpAny_items_cons (Calls.Name_function_global I1.fn (by show env.scope.names.lookup u=_;rw[I1.scope];exact hk2) (aX (by rw[I1.glob];exact g.ns.keeps I1.sim.stays) h2.1 (by rw[I1.bltn];exact g.nb.keeps I1.sim.stays) h2.2 (wpAny_items_nil ?_)) hd2)
 refine⟨by decide,wpAny_items_nil ?_⟩
 have kk:∀ b o,sv.heap.get? b=some o->(sv.heap.push {cls:=.type "tuple",data:=.seq [Value.type "list",Value.type "tuple"].toArray}).get? b=some o:=λb o e=>an _ e
 have st2:∀ tk,Step (inF A) d9 zs zs sv {sv with heap:=sv.heap.push {cls:=.type "tuple",data:=.seq [Value.type "list",Value.type "tuple"].toArray},toks:=tk}:=λtk=>Step.grow kk
 obtain⟨hv,hQ⟩:=hQ;rcases hv with ⟨a,l,rfl,hM⟩ | ⟨l,rfl⟩
 ·obtain rfl:=r.ofRef
  obtain⟨us,⟨n,ho⟩,-⟩:=(I1.sim.objs a _ hM).1;exact IsiPair.tupleOf ce5 ⟨_,kk _ _ ho,rfl⟩ (aB _ rfl) λtk=>(λz_ k_=>k_ (.bool true) zs (.bool true) (I1.keep (st2 tk) (I1.sim.grow kk)) (st1.trans (st2 tk)) hQ)
 ·obtain⟨a,us,n,rfl,ho,-⟩:=r.ofTup
  exact IsiPair.tupleOf bD7 ⟨_,kk _ _ ho,rfl⟩ (aB _ rfl) λtk=>(λz_ k_=>k_ (.bool true) zs (.bool true) (I1.keep (st2 tk) (I1.sim.grow kk)) (st1.trans (st2 tk)) hQ))
end
section
variable{g:G}{F:Blk}{sc:Scope}{vs:List Str}{d:Nat}{q:Bool}{Z:List (Option V)}{M:Hp}{Q:V->Hp->Prop}{X:Str->Hp->Prop}
end
section
variable{g:G}{F:Blk}{Z:List (Option V)}{M:Hp}{X:Str->Hp->Prop}
end
section
variable{prog:Program}{w:World}{K:Type}[DecidableEq K]{knd:KeyKind prog w K}{A:Around}{R:Result->Shared->Prop}{I:Addr}{fp wr:List Addr}{G:Array GenState->Array GenState->Prop}{n:Nat}{P:Nat->Value->Prop}{St:Nat->Shared->Prop}
end
section
variable{g:G}{F:Blk}{sc:Scope}{vs:List Str}{d:Nat}{q:Bool}{Z:List (Option V)}{M:Hp}{Q:V->Hp->Prop}{X:Str->Hp->Prop}
noncomputable def M8(p:Str×V):V:=.tup [.str p.1,p.2]
end
abbrev SM(α:Type):Type:=StateT SortSt Sem α
noncomputable def aa6:Bool->Keyed->Array Keyed->Nat->Nat->Nat->SM (Option Nat):=sortPriv% PySem.Builtin.gallop
noncomputable def be1:Array Keyed->Array Keyed->SM (Array Keyed):=sortPriv% PySem.Builtin.mergeLo
noncomputable def bs3:Array Keyed->Array Keyed->SM (Array Keyed):=sortPriv% PySem.Builtin.mergeHi
noncomputable def bb4:Nat->SM Bool:=sortPriv% PySem.Builtin.mergeAt
noncomputable def ci2:Nat->Nat->Nat->SM Bool:=sortPriv% PySem.Builtin.binarySort
noncomputable def bT4:Nat->Nat->SM (Option Nat):=sortPriv% PySem.Builtin.countRun
noncomputable def aN8:SM Unit:=sortPriv% PySem.Builtin.sortRuns
noncomputable def ay7:Nat->SM Unit:=sortPriv% PySem.Builtin.setMinGallop
abbrev WT:Type 1:=(α:Type)->SM α->(α->SortSt->Prop)->SortSt->Prop
def sPu(W:WT):Prop:=∀ {α:Type} {a:α} {Q:α->SortSt->Prop} {st:SortSt},Q a st->W α (pure a) Q st
def sBd(W:WT):Prop:=∀ {α β:Type} {m:SM α} {f:α->SM β} {Q:β->SortSt->Prop} {st:SortSt},W α m (λa st'=>W β (f a) Q st') st->W β (m >>= f) Q st
def sMo(W:WT):Prop:=∀ {α:Type} {m:SM α} {Q Q':α->SortSt->Prop} {st:SortSt},W α m Q st->(∀ a st',Q a st'->Q' a st')->W α m Q' st
def sMd(W:WT):Prop:=∀ {f:SortSt->SortSt} {Q:PUnit->SortSt->Prop} {st:SortSt},Q ⟨⟩ (f st)->W PUnit (modify f) Q st
def sGt(W:WT):Prop:=∀ {Q:SortSt->SortSt->Prop} {st:SortSt},Q st st->W SortSt get Q st
def sRl(W:WT):Prop:=∀ {x:String} {Q:Unit->SortSt->Prop} {st:SortSt},Q () st->W Unit (liftM (rule x)) Q st
def sFr(W:WT):Prop:=∀ {β:Type} {a b:Nat} {f:Nat->β->SM (ForInStep β)} (I:Nat->β->SortSt->Prop) {Q:β->SortSt->Prop},(∀ i c st,a<=i->i<b->I i c st->W (ForInStep β) (f i c) (λr st'=>match r with | .done c'=>Q c' st' | .yield c'=>I (i+1) c' st') st)->
 (∀ c st,I (max a b) c st->Q c st)->∀ {c:β} {st:SortSt},I a c st->W β (forIn [a:b] c f) Q st
def sLt(W:WT)(kd:SortKind)(r:Keyed->Int)(Ok:Keyed->Prop):Prop:=∀ {x y:Keyed} {st:SortSt} {Q:Option Bool->SortSt->Prop},Ok x->Ok y->kindOf st=kd->(r x<r y->Q (some true) st)->(¬ r x<r y->Q (some false) st)->W (Option Bool) (lt' x y) Q st
section
variable{W:WT}{kd:SortKind}{r:Keyed->Int}{Ok:Keyed->Prop}
theorem sEl(pu:sPu W){arr:Array Keyed}{i:Nat}{x:Keyed}{Q:Keyed->SortSt->Prop}{st:SortSt}(h:arr[i]?=some x)(q:Q x st):W Keyed (elem' arr i) Q st:=by
 rw[elem'_eq,h];exact pu q
theorem sIt{α:Type}{c:Prop}[Decidable c]{x y:SM α}{Q:α->SortSt->Prop}{st:SortSt}(h1:c->W α x Q st)(h2:¬c->W α y Q st):W α (if c then x else y) Q st:=by
 by_cases e:c
 ·rw[if_pos e];exact h1 e
 ·rw[if_neg e];exact h2 e
theorem frX(fr:sFr W)(mo:sMo W)(bd:sBd W){Z β γ:Type}{a b:Nat}{f:Nat->Option Z×β->SM (ForInStep (Option Z×β))}(I:Nat->β->SortSt->Prop)(D:β->SortSt->Prop)(E:Z->SortSt->Prop){g:Option Z×β->SM γ}{R:γ->SortSt->Prop}{c:β}{st:SortSt}(h:I a c st)
  (turn:∀ x c st (T:ForInStep (Option Z×β)->SortSt->Prop),(∀ {res c st},E res st->T (.done (some res,c)) st)->(∀ {c st},D c st->T (.done (none,c)) st)->(∀ {c st},I (x+1) c st->T (.yield (none,c)) st)->a<=x->x<b->I x c st->W _ (f x (none,c)) T st)
  (fin:∀ {c st},I (max a b) c st->D c st) (ret:∀ res c st,E res st->W _ (g (some res,c)) R st) (next:∀ c st,D c st->W _ (g (none,c)) R st):W _ (forIn [a:b] (none,c) f >>= g) R st:=by
 refine bd (mo (fr (λx c st=>c.1=none/\I x c.2 st) (Q:=λc st=>(∃ q,c.1=some q/\E q st)∨(c.1=none/\D c.2 st)) (λx c st ha hx h=>?_) (λc st h=>.inr ⟨h.1,fin h.2⟩) ⟨rfl,h⟩) λc st p=>?_)
 ·obtain⟨u,c⟩:=c
  obtain⟨rfl,h⟩:=h;exact turn x c st _ (λq=>.inl ⟨_,rfl,q⟩) (λq=>.inr ⟨rfl,q⟩) (λq=>⟨rfl,q⟩) ha hx h
 ·obtain⟨u,c⟩:=c
  rcases p with ⟨q,e,p⟩ | ⟨e,p⟩
  ·cases e;exact ret q c st p
  ·cases e;exact next c st p
theorem frC(fr:sFr W)(mo:sMo W)(bd:sBd W){Z β γ:Type}{a b:Nat}{f:Nat->Option Z×β->SM (ForInStep (Option Z×β))}(I:Nat->β->Prop)(D:β->Prop){g:Option Z×β->SM γ}{R:γ->SortSt->Prop}{c:β}{st:SortSt}(h:I a c)
  (turn:∀ x c (T:ForInStep (Option Z×β)->SortSt->Prop),(∀ {c},D c->T (.done (none,c)) st)->(∀ {c},I (x+1) c->T (.yield (none,c)) st)->a<=x->x<b->I x c->W _ (f x (none,c)) T st)
  (fin:∀ {c},I (max a b) c->D c) (next:∀ c,D c->W _ (g (none,c)) R st):W _ (forIn [a:b] (none,c) f >>= g) R st:=
 frX @fr @mo @bd (λx c st'=>st'=st/\I x c) (λc st'=>st'=st/\D c) (λz_ z_=>False) ⟨rfl,h⟩ (λx c st' T z_ k1 k2 ha hb h=>by obtain⟨rfl,h⟩:=h;exact turn x c T (λq=>k1 ⟨rfl,q⟩) (λq=>k2 ⟨rfl,q⟩) ha hb h) (λh=>⟨h.1,fin h.2⟩) (λz_ z_ z_ q=>q.elim) λc st' h=>by obtain⟨rfl,h⟩:=h;exact next c h
theorem frS(fr:sFr W)(mo:sMo W)(bd:sBd W){Z A B γ:Type}{n:Nat}{f:Nat->Option Z×A×B->SM (ForInStep (Option Z×A×B))}(I:Nat->A->B->Prop)(Q:A->B->Prop){st:SortSt}{g:Option Z×A×B->SM γ}{R:γ->SortSt->Prop}{a:A}{b:B}(h:I 0 a b)
  (turn:∀ x a b (T:ForInStep (Option Z×A×B)->SortSt->Prop),(∀ {a b},Q a b->T (.done (none,a,b)) st)->(∀ {a b},I (x+1) a b->T (.yield (none,a,b)) st)->x<n->I x a b->W _ (f x (none,a,b)) T st) (fin:∀ a b,I n a b->Q a b) (next:∀ a b,Q a b->W _ (g (none,a,b)) R st):W _ (forIn [0:n] (none,a,b) f >>= g) R st:=
 frC @fr @mo @bd (λx c=>I x c.1 c.2) (λc=>Q c.1 c.2) h (λx c T k1 k2 z_ hx h=>turn x c.1 c.2 T (λq=>k1 q) (λq=>k2 q) hx h) (λh=>fin _ _ (bZ (aE n)▸h)) λc h=>next c.1 c.2 h
def Bey(r:Keyed->Int)(left:Bool)(key x:Keyed):Prop:=match left with
 | true=>r x<r key
 | false=>¬ r key<r x
theorem bb1(pu:sPu W)(bd:sBd W)(lt:sLt W kd r Ok){left:Bool}{key x:Keyed}{arr:Array Keyed}{i:Nat}{Q:Option Bool->SortSt->Prop}{st:SortSt}(hk:kindOf st=kd)(h1:Ok key)(h2:Ok x)(e:arr[i]?=some x)(yes:Bey r left key x->Q (some true) st)(no:¬ Bey r left key x->Q (some false) st) :
  W _ (elem' arr i >>= λx=>if left=true then lt' x key else lt' key x >>= λz=>pure (Option.map (λx=>!x) z)) Q st:=by
 refine bd (sEl @pu e ?_);cases left with
 | true=>exact lt h2 h1 hk yes no
 | false=>exact bd (lt h1 h2 hk (λq=>pu (no λk=>k q)) λq=>pu (yes q))
theorem U4{lo hi:Nat}(h:lo<hi):lo+(hi-lo) / 2<hi:=de (Nat.div_lt_self (bP h) (by decide))
theorem bO5{lo hi n x:Nat}(h:lo<hi)(k:hi-lo<=n-x):hi-(lo+(hi-lo) / 2+1)<=n-(x+1):=ae (cF (bc (aY lo _)) hi) (cc k 1)
theorem ci6{lo hi n x:Nat}(h:lo<hi)(k:hi-lo<=n-x):lo+(hi-lo) / 2-lo<=n-(x+1):=by rw[cE];exact ae (bq (Nat.div_lt_self (bP h) (by decide))) (cc k 1)
theorem aq2{hint last n ofs:Nat}(h1:hint+last<n)(h2:last<ofs):hint+last+1<=hint+min ofs (n-hint)/\hint+min ofs (n-hint)<=n:=
 ⟨aV (fw.mpr ⟨h2,gC (dA hint last▸h1)⟩) hint,ae (aV (cm _ _) hint) (bf (cO (aK (aM (aY _ _) h1))))⟩
theorem bm3{hint last ofs:Nat}(h1:last<=hint)(h2:last<ofs):hint+1-min ofs (hint+1)<=hint-last:=ae (cF (fw.mpr ⟨h2,bc h1⟩) (hint+1)) (bf (Nat.add_sub_add_right hint 1 last))
structure sYes(P:Nat->Prop)(n:Nat):Prop where
 mono:∀ i j,i<=j->j<n->P j->P i
def sAt(P:Nat->Prop)(n k:Nat):Prop:=k<=n/\(∀ i,i<k->P i)/\∀ i,k<=i->i<n->¬ P i
def B8(P:Nat->Prop)(n lo hi:Nat):Prop:=lo<=hi/\hi<=n/\(∀ i,i<lo->P i)/\∀ i,hi<=i->i<n->¬ P i
theorem V1{P:Nat->Prop}{n lo hi:Nat}(b:B8 P n lo hi)(h:hi<=lo):sAt P n hi:=⟨b.2.1,λi hi'=>b.2.2.1 i (aA hi' h),b.2.2.2⟩
theorem al2{P:Nat->Prop}{n lo hi m:Nat}(y:sYes P n)(b:B8 P n lo hi)(h:m<hi)(q:P m):B8 P n (m+1) hi:=
 ⟨h,b.2.1,λi hi'=>y.mono i _ (aR hi') (aA h b.2.1) q,b.2.2.2⟩
theorem aD6{P:Nat->Prop}{n lo hi m:Nat}(y:sYes P n)(b:B8 P n lo hi)(h0:lo<=m)(h:m<hi)(q:¬ P m):B8 P n lo m:=
 ⟨h0,ae (aK h) b.2.1,b.2.2.1,λi h1 h2 p=>q (y.mono _ i h1 h2 p)⟩
theorem by1{P:Nat->Prop}{n hint last ofs:Nat}(y:sYes P n)(h1:hint+last<n)(h2:last<ofs)(p:P (hint+last))(q:ofs<n-hint->¬ P (hint+ofs)):B8 P n (hint+last+1) (hint+min ofs (n-hint)):=
 ⟨(aq2 h1 h2).1,(aq2 h1 h2).2,λi hi=>y.mono i _ (aR hi) h1 p,λi h3 h4 k=>by
  by_cases e:ofs<n-hint
  ·rw[bt (aK e)] at h3;exact q e (y.mono _ i h3 h4 k)
  ·rw[dh (bg.mp e),cO (aK (aM (aY _ _) h1))] at h3
   exact bn _ (aA h4 h3)⟩
theorem bd4{P:Nat->Prop}{n hint last ofs:Nat}(y:sYes P n)(hn:hint<n)(h1:last<=hint)(h2:last<ofs)(p:¬ P (hint-last))(q:ofs<hint+1->P (hint-ofs)):B8 P n (hint+1-min ofs (hint+1)) (hint-last):=
 ⟨bm3 h1 h2,ae (cj _ _) (aK hn),λi hi=>by
  by_cases e:ofs<hint+1
  ·rw[bt (aK e),Nat.succ_sub (aR e)] at hi
   exact y.mono i _ (aR hi) (aM (cj _ _) hn) (q e)
  ·rw[dh (bg.mp e),cS] at hi;exact absurd hi (bS _),λi h3 h4 k=>p (y.mono _ i h3 h4 k)⟩
theorem av6{hint n ofs:Nat}(e:¬ ofs≥n-hint):hint+ofs<n:=de (cI.mp e)
theorem aw7{ofs:Nat}:ofs<2*ofs+1:=fj (fY _ (by decide))
theorem aM4{x ofs:Nat}(h:x+1<=ofs):x+1+1<=2*ofs+1:=bc (ae h (fY _ (by decide)))
theorem aV5{hint n ofs:Nat}(h:n+1<=ofs):¬ ofs<n-hint:=bg.mpr (ae (cj _ _) (aK h))
theorem bd9{hint n ofs:Nat}(k:hint<n)(h:n+1<=ofs):¬ ofs<hint+1:=bg.mpr (ae k (aK h))
theorem aS8(pu:sPu W)(bd:sBd W)(mo:sMo W)(fr:sFr W)(lt:sLt W kd r Ok){left:Bool}{key:Keyed}{arr:Array Keyed}{base n hint:Nat}{st:SortSt}{Q:Option Nat->SortSt->Prop}(hk:kindOf st=kd)(hkey:Ok key){P:Nat->Prop}(y:sYes P n)
  (hP:∀ i,i<n->∃ x,arr[base+i]?=some x/\Ok x/\(P i↔Bey r left key x)) (hh:hint<n) (h':∀ k,sAt P n k->Q (some k) st):W _ (aa6 left key arr base n hint) Q st:=by
 have ak:∀ i,i<n->∀ {R:Option Bool->SortSt->Prop},(P i->R (some true) st)->(¬ P i->R (some false) st)->W _ (elem' arr (base+i) >>= λx=>if left=true then lt' x key else lt' key x >>= λz=>pure (Option.map (λx=>!x) z)) R st:=λi hi R q1 q2=>by
  obtain⟨x,e,ox,ep⟩:=hP i hi;exact bb1 @pu @bd @lt hk hkey ox e (λz=>q1 (ep.mpr z)) λz=>q2 λw=>z (ep.mp w)
 have fin:∀ {γ:Type} {lo hi:Nat},B8 P n lo hi->∀ {f:Nat->Option (Option Nat)×Nat×Nat->SM (ForInStep (Option (Option Nat)×Nat×Nat))} {g:Option (Option Nat)×Nat×Nat->SM γ} {S:γ->SortSt->Prop},(∀ x lo hi (T:ForInStep (Option (Option Nat)×Nat×Nat)->SortSt->Prop),(lo≥hi->T (.done (none,lo,hi)) st)->(¬ lo≥hi->P (lo+(hi-lo) / 2)->T (.yield (none,lo+(hi-lo) / 2+1,hi)) st)->(¬ lo≥hi->¬ P (lo+(hi-lo) / 2)->T (.yield (none,lo,lo+(hi-lo) / 2)) st)->hi<=n->W _ (f x (none,lo,hi)) T st)->
   (∀ lo hi,sAt P n hi->W _ (g (none,lo,hi)) S st)->W _ (forIn [0:n] (none,lo,hi) f >>= g) S st:=fun{γ lo hi} b {f g S} hf hg=>
  frS @fr @mo @bd (λx lo hi=>B8 P n lo hi/\hi-lo<=n-x) (λlo hi=>sAt P n hi) ⟨b,ae (cj _ _) b.2.1⟩ (λx lo hi T k1 k2 hx h=>hf x lo hi T (λq=>k1 (V1 h.1 q)) (λq p=>k2 ⟨al2 y h.1 (U4 (cI.mp q)) p,bO5 (cI.mp q) h.2⟩) (λq p=>k2 ⟨aD6 y h.1 (aY _ _) (U4 (cI.mp q)) p,ci6 (cI.mp q) h.2⟩) h.1.2.1) (λlo hi h=>V1 h.1 (cr (fW.mp (ae h.2 (bf (cS n)))))) hg
 refine bd (ak hint hh (λe0=>?_) λe0=>?_)
 ·refine sIt (λz_=>?_) λe=>absurd rfl e
  refine frS @fr @mo @bd (λx last ofs=>P (hint+last)/\hint+last<n/\last<ofs/\x+1<=ofs) (λlast ofs=>P (hint+last)/\hint+last<n/\last<ofs/\(ofs<n-hint->¬ P (hint+ofs))) ⟨e0,hh,cy,aC _⟩ (λx last ofs T k1 k2 hx h=>?_) (λlast ofs h=>⟨h.1,h.2.1,h.2.2.1,λq=>absurd q (aV5 h.2.2.2)⟩) λlast ofs h=>?_
  ·refine sIt (λe=>pu (k1 ⟨h.1,h.2.1,h.2.2.1,λq=>absurd e (cI.mpr q)⟩)) λe=>?_
   exact bd (ak (hint+ofs) (av6 e) (λq=>pu (k2 ⟨q,av6 e,aw7,aM4 h.2.2.2⟩)) λq=>pu (k1 ⟨h.1,h.2.1,h.2.2.1,λz_=>q⟩))
  ·refine fin (by1 y h.2.1 h.2.2.1 h.1 h.2.2.2) (λx lo hi T k1 k2 k3 hn=>?_) λlo hi k=>?_
   ·refine sIt (λe=>pu (k1 e)) λe=>?_
    exact bd (ak _ (aA (U4 (cI.mp e)) hn) (λq=>pu (k2 e q)) λq=>pu (k3 e q))
   ·exact pu (h' _ k)
 ·refine sIt (λe=>absurd e (by decide)) λz_=>?_
  refine frS @fr @mo @bd (λx last ofs=>last<=hint/\¬ P (hint-last)/\last<ofs/\x+1<=ofs) (λlast ofs=>last<=hint/\¬ P (hint-last)/\last<ofs/\(ofs<hint+1->P (hint-ofs))) ⟨aE _,e0,cy,aC _⟩ (λx last ofs T k1 k2 hx h=>?_) (λlast ofs h=>⟨h.1,h.2.1,h.2.2.1,λq=>absurd q (bd9 hh h.2.2.2)⟩) λlast ofs h=>?_
  ·refine sIt (λe=>pu (k1 ⟨h.1,h.2.1,h.2.2.1,λq=>absurd e (cI.mpr q)⟩)) λe=>?_
   exact bd (ak (hint-ofs) (aM (cj _ _) hh) (λq=>pu (k1 ⟨h.1,h.2.1,h.2.2.1,λz_=>q⟩)) λq=>pu (k2 ⟨aR (cI.mp e),q,aw7,aM4 h.2.2.2⟩))
  ·refine fin (bd4 y hh h.1 h.2.2.1 h.2.1 h.2.2.2) (λx lo hi T k1 k2 k3 hn=>?_) λlo hi k=>?_
   ·refine sIt (λe=>pu (k1 e)) λe=>?_
    exact bd (ak _ (aA (U4 (cI.mp e)) hn) (λq=>pu (k2 e q)) λq=>pu (k3 e q))
   ·exact pu (h' _ k)
theorem bC4{left:Bool}{key x y:Keyed}(h:r x<=r y)(b:Bey r left key y):Bey r left key x:=by
 cases left with
 | true=>exact dB h b
 | false=>exact λq=>b (dC q h)
theorem by3(pu:sPu W)(bd:sBd W)(mo:sMo W)(fr:sFr W)(lt:sLt W kd r Ok){left:Bool}{key:Keyed}{arr:Array Keyed}{base n hint:Nat}{st:SortSt}{Q:Option Nat->SortSt->Prop}(hk:kindOf st=kd)(hkey:Ok key){S:List Keyed}(hn:S.length=n)
  (hS:∀ i,i<n->arr[base+i]?=S[i]?) (hO:∀ x∈S,Ok x) (ss:S.Pairwise λx y=>r x<=r y) (hh:hint<n)
  (h:∀ k,k<=n->(∀ x∈S.take k,Bey r left key x)->(∀ x∈S.drop k,¬ Bey r left key x)->Q (some k) st):W _ (aa6 left key arr base n hint) Q st:=by
 subst hn;have at':∀ i (hi:i<S.length),(∃ x,S[i]?=some x/\Bey r left key x)↔Bey r left key S[i]:=λi hi=>⟨λq=>by obtain⟨x,e,q⟩:=q;rw[aa hi] at e;rw[Option.some.inj e];exact q,λq=>⟨_,aa hi,q⟩⟩
 refine aS8 @pu @bd @mo @fr @lt hk hkey (P:=λi=>∃ x,S[i]?=some x/\Bey r left key x) ⟨λi j hij hj e=>?_⟩ (λi hi=>⟨S[i],(hS i hi).trans (aa hi),hO _ (bL hi),at' i hi⟩) hh λk hk=>h k hk.1 (λx hx=>?_) λx hx=>?_
 ·rcases Nat.lt_or_ge i j with q | q
  ·exact(at' i (bO q hj)).mpr (bC4 (cw.mp ss i j (bO q hj) hj q) ((at' j hj).mp e))
  ·rw[aZ hij q];exact e
 ·obtain⟨i,hi,rfl⟩:=eH.mp hx
  rw[cG] at hi;rw[List.getElem_take];exact(at' i _).mp (hk.2.1 i (aA hi (be _ _)))
 ·obtain⟨i,hi,rfl⟩:=eH.mp hx
  rw[bX] at hi;rw[List.getElem_drop];exact λq=>hk.2.2 (k+i) (aY _ _) (de hi) ((at' (k+i) _).mpr q)
structure Mg(r:Keyed->Int)(L out A B:List Keyed):Prop where
 sa:(out++A).Pairwise λx y=>r x<=r y
 sb:(out++B).Pairwise λx y=>r x<=r y
 pm:(out++(A++B)).Perm L
variable{L out A1 A2 B B1 B2:List Keyed}
theorem Mg.onA(m:Mg r L out (A1++A2) B)(h:∀ x∈A1,∀ y∈B,r x<=r y):Mg r L (out++A1) A2 B:=
 ⟨by rw[aH];exact m.sa,by
  have h1:=m.sa;have h2:=m.sb;rw[bb] at h1 h2 ⊢;refine⟨?_,h2.2.1,λx hx y hy=>?_⟩
  ·rw[bb]
   rw[bb] at h1;exact⟨h1.1,h1.2.1.1,λx hx y hy=>h1.2.2 x hx y (gD _ hy)⟩
  ·rcases aq.mp hx with q | q
   ·exact h2.2.2 x q y hy
   ·exact h x q y hy,by have:=m.pm;simpa using this⟩
theorem Mg.sw(m:Mg r L out A1 B):Mg r L out B A1:=⟨m.sb,m.sa,(List.Perm.append_left out List.perm_append_comm).trans m.pm⟩
theorem Mg.onB(m:Mg r L out A1 (B1++B2))(h:∀ x∈B1,∀ y∈A1,r x<=r y):Mg r L (out++B1) A1 B2:=(m.sw.onA h).sw
structure Fine(r:Keyed->Int)(L out:List Keyed):Prop where
 s:out.Pairwise λx y=>r x<=r y
 p:out.Perm L
theorem Mg.noB(m:Mg r L out A1 []):Fine r L (out++A1):=⟨m.sa,by have:=m.pm;rwa[aS] at this⟩
theorem Mg.fin(m:Mg r L out A1 B)(h:∀ x∈A1,∀ y∈B,r x<=r y):Fine r L (out++A1++B):=
 (Mg.sw (Mg.onA (A2:=[]) (by rw[aS];exact m) h)).noB
structure Like(st st':SortSt):Prop where
 k:kindOf st'=kindOf st
 a:arrOf st'=arrOf st
 p:pendingOf st'=pendingOf st
 f:failedOf st'=failedOf st
theorem aJ2(a:Array Keyed)(i:Nat):(a.toList.drop i).length=a.size-i:=by simp
theorem aj9(a:Array Keyed)(i j:Nat):a[i+j]?=(a.toList.drop i)[j]?:=by simp
theorem G2{i n:Nat}(h:i<n)(e:¬(i+1==n)=true):i+1<n:=by
 rw[beq_iff_eq] at e;lia
theorem ad0{a:Array Keyed}{i:Nat}(h:i<a.size):a.toList.drop i=a[i]::a.toList.drop (i+1):=by
 rw[cu (by simpa using h)];simp
theorem Y6(a:Array Keyed)(i:Nat):(a.extract i a.size).toList=a.toList.drop i:=by
 rw[cB,bU];exact bA (by simp)
theorem aA0(a:Array Keyed)(i k:Nat):(a.extract i (i+k)).toList=(a.toList.drop i).take k:=by
 rw[cB,bU,cE]
variable{st:SortSt}{a b:Array Keyed}{ia ib:Nat}{out:Array Keyed}
theorem Y9(m:Mg r L out.toList (a.toList.drop ia) (b.toList.drop ib))(h:ib<b.size)(q:∀ x∈a.toList.drop ia,r b[ib]<=r x):Mg r L (out.push b[ib]).toList (a.toList.drop ia) (b.toList.drop (ib+1)):=by
 rw[ad0 h] at m;rw[cN];exact Mg.onB (B1:=[b[ib]]) m λx hx y hy=>by rw[aj.mp hx];exact q y hy
theorem av7(m:Mg r L out.toList (a.toList.drop ia) (b.toList.drop ib))(h:ia<a.size)(q:∀ x∈b.toList.drop ib,r a[ia]<=r x):Mg r L (out.push a[ia]).toList (a.toList.drop (ia+1)) (b.toList.drop ib):=(Y9 m.sw h q).sw
theorem ay5{k:Nat}(m:Mg r L out.toList (a.toList.drop ia) (b.toList.drop ib))(q:∀ x∈(a.toList.drop ia).take k,∀ y∈b.toList.drop ib,r x<=r y):Mg r L (out++a.extract ia (ia+k)).toList (a.toList.drop (ia+k)) (b.toList.drop ib):=by
 rw[bJ,aA0];refine Mg.onA (A1:=(a.toList.drop ia).take k) ?_ q;rw[<- gk,bW];exact m
theorem ca7{k:Nat}(m:Mg r L out.toList (a.toList.drop ia) (b.toList.drop ib))(q:∀ x∈(b.toList.drop ib).take k,∀ y∈a.toList.drop ia,r x<=r y):Mg r L (out++b.extract ib (ib+k)).toList (a.toList.drop ia) (b.toList.drop (ib+k)):=(ay5 m.sw q).sw
theorem Mg.head(m:Mg r L out.toList (a.toList.drop ia) (b.toList.drop ib))(h:ia<a.size):∀ x∈a.toList.drop ia,r a[ia]<=r x:=by
 have:=m.sa;rw[bb] at this;have:=this.2.1;rw[ad0 h,cq] at this;rw[ad0 h];intro x hx;rcases au.mp hx with q | q
 ·rw[q];exact bK _
 ·exact this.1 x q
theorem bE8(m:Mg r L out.toList (a.toList.drop ia) (b.toList.drop ib))(h:b.size<=ib):Fine r L (out++a.extract ia a.size++b.extract ib b.size).toList:=by
 rw[bJ,bJ,Y6,Y6];have e:b.toList.drop ib=[]:=dQ (by simpa using h)
 rw[e] at m ⊢;rw[aS];exact m.noB
theorem aP0(m:Mg r L out.toList (a.toList.drop ia) (b.toList.drop ib))(h:∀ x∈b.toList.drop ib,∀ y∈a.toList.drop ia,r x<=r y):Fine r L (out++b.extract ib b.size++a.extract ia a.size).toList:=by
 rw[bJ,bJ,Y6,Y6];exact m.sw.fin h
end
section
variable{W:WT}{kd:SortKind}{r:Keyed->Int}{Ok:Keyed->Prop}
theorem aN3{i k n:Nat}(hk:k<=n-i)(hi:i<n)(e:¬(i+k==n)=true):i+k<n:=
 ca (gm (aK hi) hk) λq=>e (beq_iff_eq.mpr q)
theorem bZ8{i k n:Nat}(hk:k<=n-i)(hi:i<n)(e1:¬(i+k+1==n)=true)(e2:¬(i+k==n)=true):i+k+1<n:=
 ca (aN3 hk hi e2) λq=>e1 (beq_iff_eq.mpr q)
theorem ar7(pu:sPu W)(bd:sBd W)(lt:sLt W kd r Ok){γ:Type}{a1 a2:Array Keyed}{i j:Nat}{x y:Keyed}{F:Option Bool->SM γ}{T:γ->SortSt->Prop}{st:SortSt}(e1:a1[i]?=some x/\Ok x)(e2:a2[j]?=some y/\Ok y)(hk:kindOf st=kd)(yes:r x<r y->W _ (F (some true)) T st)(no:¬ r x<r y->W _ (F (some false)) T st) :
  W _ (elem' a1 i >>= λx=>elem' a2 j >>= λy=>lt' x y >>= F) T st:=bd (sEl @pu e1.1 (bd (sEl @pu e2.1 (bd (lt e1.2 e2.2 hk yes no)))))
theorem L6(pu:sPu W)(bd:sBd W)(mo:sMo W)(fr:sFr W)(lt:sLt W kd r Ok){γ:Type}{a0:Array Keyed}{j:Nat}{F:Option Nat->SM γ}{T:γ->SortSt->Prop}{left:Bool}{key:Keyed}{arr:Array Keyed}{base n hint:Nat}{st:SortSt}(hk:kindOf st=kd)(e:a0[j]?=some key/\Ok key){S:List Keyed}(hn:S.length=n)
  (hS:∀ i,i<n->arr[base+i]?=S[i]?) (hO:∀ x∈S,Ok x) (ss:S.Pairwise λx y=>r x<=r y) (hh:hint<n)
  (h:∀ k,k<=n->(∀ x∈S.take k,Bey r left key x)->(∀ x∈S.drop k,¬ Bey r left key x)->W _ (F (some k)) T st):W _ (elem' a0 j >>= λx=>aa6 left x arr base n hint >>= F) T st:=
 bd (sEl @pu e.1 (bd (by3 @pu @bd @mo @fr @lt hk e.2 hn hS hO ss hh h)))
theorem frM(fr:sFr W)(mo:sMo W)(bd:sBd W){Z A B C τ γ:Type}{n:Nat}{f:Nat->Option Z×A×B×C×τ->SM (ForInStep (Option Z×A×B×C×τ))}(I:Nat->A->B->C->SortSt->Prop)(D:A->B->C->SortSt->Prop)(E:Z->SortSt->Prop)
  {g:Option Z×A×B×C×τ->SM γ} {R:γ->SortSt->Prop} {u:A} {v:B} {w:C} {t:τ} {st:SortSt} (h:I 0 u v w st)
  (turn:∀ x u v w t st (T:ForInStep (Option Z×A×B×C×τ)->SortSt->Prop),(∀ {res c st},E res st->T (.done (some res,c)) st)->(∀ {u v w t st},D u v w st->T (.done (none,u,v,w,t)) st)->(∀ {u v w t st},I (x+1) u v w st->T (.yield (none,u,v,w,t)) st)->x<n->I x u v w st->W _ (f x (none,u,v,w,t)) T st)
  (fin:∀ {u v w st},I n u v w st->D u v w st) (ret:∀ res c st,E res st->W _ (g (some res,c)) R st) (next:∀ u v w t st,D u v w st->W _ (g (none,u,v,w,t)) R st):W _ (forIn [0:n] (none,u,v,w,t) f >>= g) R st:=
 frX @fr @mo @bd (λx c=>I x c.1 c.2.1 c.2.2.1) (λc=>D c.1 c.2.1 c.2.2.1) E h (λx c st T kr k1 k2 z_ hx h=>turn x c.1 c.2.1 c.2.2.1 c.2.2.2 st T kr (λq=>k1 q) (λq=>k2 q) hx h) (λh=>fin (bZ (aE n)▸h)) ret λc st h=>next c.1 c.2.1 c.2.2.1 c.2.2.2 st h
def GoL(r:Keyed->Int)(st₀:SortSt)(a b:Array Keyed)(L:List Keyed)(n:Nat)(out:Array Keyed)(ia ib:Nat)(st:SortSt):Prop:=
 Like st₀ st/\Mg r L out.toList (a.toList.drop ia) (b.toList.drop ib)/\ia+1<a.size/\ib<b.size/\n<=ia+ib
def EnL(r:Keyed->Int)(st₀:SortSt)(L:List Keyed)(res:Array Keyed)(st:SortSt):Prop:=Like st₀ st/\Fine r L res.toList
theorem GoL.end{st₀ st:SortSt}{a b out:Array Keyed}{L:List Keyed}{n ia ib:Nat}(h:GoL r st₀ a b L n out ia ib st)(k:a.size+b.size<=n):False:=
 bn _ (aA (Nat.add_lt_add (bQ h.2.2.1) h.2.2.2.1) (ae k h.2.2.2.2))
variable{st:SortSt}{a b:Array Keyed}
theorem mlo(pu:sPu W)(bd:sBd W)(mo:sMo W)(md:sMd W)(gt:sGt W)(rl:sRl W)(fr:sFr W)(lt:sLt W kd r Ok){Q:Array Keyed->SortSt->Prop}(hk:kindOf st=kd)(oa:∀ x∈a.toList,Ok x)(ob:∀ x∈b.toList,Ok x)(ha:0<a.size)(hb:0<b.size)
  (sa:a.toList.Pairwise λx y=>r x<=r y) (sb:b.toList.Pairwise λx y=>r x<=r y) (h0:∀ x∈a.toList,r b[0]<=r x) (hl:∀ i,a.size<=i+1->∀ x∈a.toList.drop i,∀ y∈b.toList,r y<=r x)
  (h:∀ out st',EnL r st (a.toList++b.toList) out st'->Q out st'):W _ (be1 a b) Q st:=by
 have ga:∀ i (hi:i<a.size),a[i]?=some a[i]/\Ok a[i]:=λi hi=>⟨aG hi,oa _ (by simp)⟩
 have gb:∀ i (hi:i<b.size),b[i]?=some b[i]/\Ok b[i]:=λi hi=>⟨aG hi,ob _ (by simp)⟩
 have last:∀ {out:Array Keyed} {ia ib:Nat} {st'},Like st st'->Mg r (a.toList++b.toList) out.toList (a.toList.drop ia) (b.toList.drop ib)->(ia+1==a.size)=true->EnL r st (a.toList++b.toList) (out++b.extract ib b.size++a.extract ia a.size) st':=fun{out ia ib st'} l m e=>
  ⟨l,aP0 m λx hx y hy=>hl ia (bf (beq_iff_eq.mp e).symm) y hy x (bN hx)⟩
 have don:∀ {out:Array Keyed} {ia ib:Nat} {st'},Like st st'->Mg r (a.toList++b.toList) out.toList (a.toList.drop ia) (b.toList.drop ib)->(ib==b.size)=true->EnL r st (a.toList++b.toList) (out++a.extract ia a.size++b.extract ib b.size) st':=fun{out ia ib st'} l m e=>
  ⟨l,bE8 m (bf (beq_iff_eq.mp e).symm)⟩
 refine bd (rl ?_)
 extract_lets total done lastOfA
 refine bd (sEl @pu (gb 0 hb).1 ?_);have m0:Mg r (a.toList++b.toList) (#[b[0]]:Array Keyed).toList (a.toList.drop 0) (b.toList.drop 1):=Y9 (out:=#[]) (ia:=0) (ib:=0) ⟨by simpa using sa,by simpa using sb,by simp⟩ hb h0
 have l0:Like st st:=⟨rfl,rfl,rfl,rfl⟩;refine sIt (λe=>pu (h _ _ (don l0 m0 e))) λe1=>sIt (λe=>pu (h _ _ (last l0 m0 e))) λe2=>?_
 refine bd (gt ?_);refine frM @fr @mo @bd (λx=>GoL r st a b (a.toList++b.toList) (x+1)) (λz_ z_ z_ z_=>False) (EnL r st (a.toList++b.toList)) ?_ (λx out ia ib t st' T kr kd ky hx hg=>?_) (λq=>q.end (dm _)) (λres c st' q=>pu (h _ _ q)) λz_ z_ z_ z_ z_ q=>q.elim
 ·refine⟨l0,m0,G2 ha e2,G2 hb e1,aC _⟩
 have hL:∀ {st':SortSt} {n:Nat} {R:Unit->SortSt->Prop},Like st st'->(∀ st2,Like st st2->R () st2)->W _ (ay7 n) R st':=λl q=>md (q _ ⟨l.k,l.a,l.p,l.f⟩)
 refine frM @fr @mo @bd (λy=>GoL r st a b (a.toList++b.toList) (x+1+y)) (GoL r st a b (a.toList++b.toList) (x+2)) (EnL r st (a.toList++b.toList)) hg (λy out ia ib t st' T kr kd ky hy hg=>?_) (λq=>(q.end (aQ _ _)).elim) (λres c st' q=>pu (kr q)) λout ia ib t st' hg=>?_
 ·have l:=hg.1
  have m:=hg.2.1;have h1:=hg.2.2.1;have h2:=hg.2.2.2.1;have h3:=bc hg.2.2.2.2;have h4:x+2<=ia+ib+1:=ae (bc (aY _ y)) h3;have hia:ia<a.size:=bQ h1;have e5:=bf (eZ ia ib 1);refine ar7 @pu @bd @lt (gb ib h2) (ga ia hia) (l.k.trans hk) (λq=>?_) λq=>?_
  ·have m':=Y9 m h2 λx hx=>bw (bY q) (m.head hia x hx)
   refine sIt (λz_=>bd (sEl @pu (gb ib h2).1 ?_)) λe=>absurd rfl e
   exact sIt (λe=>pu (kr (don l m' e))) λe=>sIt (λz_=>pu (kd ⟨l,m',h1,G2 h2 e,h4⟩)) λz_=>pu (ky ⟨l,m',h1,G2 h2 e,h3⟩)
  ·have m':=av7 m hia λx hx=>bw (bM.mp q) (m.sw.head h2 x hx)
   refine sIt (λe=>absurd e (by decide)) λz_=>bd (sEl @pu (ga ia hia).1 ?_)
   exact sIt (λe=>pu (kr (last l m' e))) λe=>sIt (λz_=>pu (kd ⟨l,m',G2 h1 e,h2,ae h4 e5⟩)) λz_=>pu (ky ⟨l,m',G2 h1 e,h2,ae h3 e5⟩)
 refine bd (rl ?_);refine frM @fr @mo @bd (λz_=>GoL r st a b (a.toList++b.toList) (x+2)) (GoL r st a b (a.toList++b.toList) (x+2)) (EnL r st (a.toList++b.toList)) hg (λy out ia ib t st' T kr kd ky hy hg=>?_) (λq=>q) (λres c st' q=>pu (kr q)) λout ia ib t st' hg=>bd (hL hg.1 λst2 l2=>pu (ky ⟨l2,hg.2⟩))
 extract_lets s1 out1 s2 ia1 s3 ib1 s4 mg1 s5 ac1 bc1 ib2 jp mg2
 have l:=hg.1;have m:=hg.2.1;have h1:=hg.2.2.1;have h2:=hg.2.2.2.1;have h3:=hg.2.2.2.2;have hia:ia<a.size:=bQ h1;have hjp:∀ mg,W _ (jp () mg) T st':=λmg=>by
  refine bd (hL l λst2 l2=>L6 @pu @bd @mo @fr @lt (S:=a.toList.drop ia) (l2.k.trans hk) (gb ib h2) (aJ2 a ia) (λi z_=>aj9 a ia i) (λx hx=>oa x (bN hx)) (sa.sublist (dM _ _)) (bP hia) λk hkn hyes hno=>?_)
  have hyes:∀ x∈(a.toList.drop ia).take k,r x<=r b[ib]:=λx hx=>bM.mp (hyes x hx)
  have hno:∀ x∈a.toList.drop (ia+k),r b[ib]<=r x:=λx hx=>by rw[<- gk] at hx;exact bY (da.mp (hno x hx))
  dsimp -zeta -zetaHave only
  extract_lets ac2 jp2 out3 ia3
  have hjp2:∀ out ia,Mg r (a.toList++b.toList) out.toList (a.toList.drop ia) (b.toList.drop ib)->ia+1<a.size->x+2<=ia+ib->(∀ x∈a.toList.drop ia,r b[ib]<=r x)->W _ (jp2 () out ia) T st2:=λout ia m h1 h3 hle=>by
   have hia:ia<a.size:=bQ h1;refine bd (sEl @pu (gb ib h2).1 ?_);have m2:=Y9 m h2 hle;refine sIt (λe=>pu (kr (don l2 m2 e))) λe=>?_
   have h2':=G2 h2 e;refine L6 @pu @bd @mo @fr @lt (S:=b.toList.drop (ib+1)) (l2.k.trans hk) (ga ia hia) (aJ2 b (ib+1)) (λi z_=>aj9 b (ib+1) i) (λx hx=>ob x (bN hx)) (sb.sublist (dM _ _)) (bP h2') λk hkn hyes hno=>?_
   have hyes:∀ x∈(b.toList.drop (ib+1)).take k,r x<=r a[ia]:=λx hx=>bY (hyes x hx)
   have hno:∀ x∈b.toList.drop (ib+1+k),r a[ia]<=r x:=λx hx=>by rw[<- gk] at hx;exact bM.mp (hno x hx)
   have hd:=m2.head hia;dsimp -zeta -zetaHave only
   extract_lets bc2 ia5 jp3 out4 ib4
   have hjp3:∀ out ib',Mg r (a.toList++b.toList) out.toList (a.toList.drop ia) (b.toList.drop ib')->ib'<b.size->x+2<=ia+ib'->(∀ x∈b.toList.drop ib',r a[ia]<=r x)->W _ (jp3 () out ib') T st2:=λout ib' m h2 h3 hle=>by
    refine bd (sEl @pu (ga ia hia).1 ?_);have m3:=av7 m hia hle;refine sIt (λe=>pu (kr (last l2 m3 e))) λe=>?_
    have q:GoL r st a b (a.toList++b.toList) (x+2) _ (ia+1) ib' st2:=⟨l2,m3,G2 h1 e,h2,ae h3 (cf (dm ia) ib')⟩;exact sIt (λz_=>pu (kd q)) λz_=>pu (ky q)
   clear_value jp3
   refine sIt (λe=>?_) λe=>?_
   ·have m3:=ca7 (k:=k) m2 λx hx y hy=>bw (hyes x hx) (hd y hy)
    exact sIt (λe=>pu (kr (don l2 m3 e))) λe=>hjp3 _ _ m3 (aN3 hkn h2' e) (ae h3 (aV (ae (dm ib) (aY _ k)) ia)) hno
   ·obtain rfl:k=0:=cY e
    exact hjp3 _ _ m2 h2' (dN h3) hno
  clear_value jp2
  have hd:=m.sw.head h2;refine sIt (λe=>?_) λe=>?_
  ·have m2:=ay5 (k:=k) m λx hx y hy=>bw (hyes x hx) (hd y hy)
   refine sIt (λe=>pu (kr (last l2 m2 e))) λe1=>sIt (λe=>pu (kr ⟨l2,?_⟩)) λe2=>hjp2 _ _ m2 (bZ8 hkn hia e1 e2) (ae h3 (cf (aY ia k) ib)) hno
   exact aP0 m2.sw λx hx=>by rw[dQ (bf ((ao ..).trans (beq_iff_eq.mp e).symm))] at hx;cases hx
  ·obtain rfl:k=0:=cY e
   exact hjp2 _ _ m h1 h3 hno
 clear_value jp
 exact sIt (λz_=>hjp _) λz_=>hjp _
end
section
variable{W:WT}{kd:SortKind}{r:Keyed->Int}{Ok:Keyed->Prop}
def rev(a:Array Keyed)(n:Nat):List Keyed:=(a.toList.take n).reverse
def ngv(r:Keyed->Int)(x:Keyed):Int:=-r x
theorem P7{x y:Keyed}(h:r y<=r x):ngv r x<=ngv r y:=Int.neg_le_neg h
theorem Fine.rev{L l:List Keyed}(f:Fine (ngv r) L l):Fine r L l.reverse:=
 ⟨eA.mpr (f.s.imp λh=>gE h),(fk l).trans f.p⟩
theorem Z0{a:Array Keyed}{n:Nat}(h:n<a.size):rev a (n+1)=a[n]::rev a n:=by
 unfold Internal.rev;rw[dY (by simpa using h),du];simp
theorem bq6(a:Array Keyed){i n:Nat}(h:i<=n):rev a n=(a.extract i n).reverse.toList++rev a i:=by
 unfold Internal.rev;rw[eI,cB,bU,<- du,<- gn]
 congr 1
 conv=>lhs;rw[<- bW i (a.toList.take n)]
 rw[dI,bt h]
theorem aq4{a:Array Keyed}{n:Nat}{x:Keyed}(h:x∈rev a n):x∈a.toList:=bx (dZ.mp h)
theorem ak2{a:Array Keyed}{n i:Nat}(h:i<n):a[0+i]?=(a.toList.take n)[i]?:=by rw[fz h];simp
theorem bo1(a:Array Keyed):rev a 0=[]:=rfl
variable{st:SortSt}{a b:Array Keyed}{L:List Keyed}{na nb:Nat}{out:Array Keyed}
theorem t6{n m:Nat}(h0:0<n)(h:n<=m):n-1<m:=aA (cW h0 cy) h
theorem ce9(m:Mg (ngv r) L out.toList (rev a (na+1)) (rev b nb))(h:na<a.size)(q:∀ x∈rev b nb,r x<=r a[na]):Mg (ngv r) L (out.push a[na]).toList (rev a na) (rev b nb):=by
 rw[Z0 h] at m;rw[cN];exact Mg.onA (A1:=[a[na]]) m λx hx y hy=>by rw[aj.mp hx];exact P7 (q y hy)
theorem T1(m:Mg (ngv r) L out.toList (rev a na) (rev b nb))(h0:0<na)(h:na<=a.size)(q:∀ x∈rev b nb,r x<=r (a[na-1]'(t6 h0 h))):Mg (ngv r) L (out.push (a[na-1]'(t6 h0 h))).toList (rev a (na-1)) (rev b nb):=by
 cases na with
 | zero=>exact absurd h0 (bn _)
 | succ n=>exact ce9 m h q
theorem aJ4{i:Nat}(m:Mg (ngv r) L out.toList (rev a na) (rev b nb))(h:i<=na)(q:∀ x∈(a.toList.take na).drop i,∀ y∈rev b nb,r y<=r x):Mg (ngv r) L (out++(a.extract i na).reverse).toList (rev a i) (rev b nb):=by
 rw[bJ];refine Mg.onA (A1:=(a.extract i na).reverse.toList) ?_ λx hx y hy=>P7 (q x ?_ y hy)
 ·rw[<- bq6 a h];exact m
 ·rw[eI,cB,bU,dZ,<- gn] at hx;exact hx
theorem bT2(m:Mg (ngv r) L out.toList (rev a (na+1)) (rev b nb))(h:na<a.size):∀ x∈rev a (na+1),r x<=r a[na]:=by
 have:=m.sa;rw[bb] at this;have:=this.2.1;rw[Z0 h,cq] at this;rw[Z0 h];intro x hx;rcases au.mp hx with q | q
 ·rw[q];exact bK _
 ·exact gE (this.1 x q)
theorem V3(m:Mg (ngv r) L out.toList (rev a na) (rev b nb))(h0:0<na)(h:na<=a.size):∀ x∈rev a na,r x<=r (a[na-1]'(t6 h0 h)):=by
 cases na with
 | zero=>exact absurd h0 (bn _)
 | succ n=>exact bT2 m h
theorem at4(a:Array Keyed)(n:Nat):(a.extract 0 n).toList=(rev a n).reverse:=by
 unfold Internal.rev;rw[cB,bU,List.reverse_reverse];rfl
theorem ak3(m:Mg (ngv r) L out.toList (rev a na) (rev b nb))(h:∀ x∈rev b nb,∀ y∈rev a na,r y<=r x):Fine r L (a.extract 0 na++b.extract 0 nb++out.reverse).toList:=by
 rw[bJ,bJ,at4,at4,eI,<- du,<- du];exact(by have:=m.sw.fin λx hx y hy=>P7 (h x hx y hy);rw[aH] at this;exact this:Fine (ngv r) L _).rev
def GoH(r:Keyed->Int)(st₀:SortSt)(a b:Array Keyed)(L:List Keyed)(n:Nat)(na nb:Nat)(out:Array Keyed)(st:SortSt):Prop:=
 Like st₀ st/\Mg (ngv r) L out.toList (rev a na) (rev b nb)/\(0<na/\na<=a.size)/\(1<nb/\nb<=b.size)/\na+nb+n<=a.size+b.size
theorem GoH.end{st₀ st:SortSt}{n:Nat}(h:GoH r st₀ a b L n na nb out st)(k:a.size+b.size<=n):False:=
 bn _ (aM (ae h.2.2.2.2 k) (Nat.lt_add_of_pos_left (aA h.2.2.1.1 (aY _ _))))
theorem J7{n:Nat}(e:¬(n==0)=true):0<n:=Nat.pos_of_ne_zero λq=>e (beq_iff_eq.mpr q)
theorem W9{n:Nat}(h:0<n)(e:¬(n==1)=true):1<n:=ca h λq=>e (beq_iff_eq.mpr q.symm)
theorem goA{u v n t:Nat}(h0:0<u)(h:u+v+n<=t):u-1+v+(n+1)<=t:=by
 cases u with
 | zero=>exact absurd h0 (bn _)
 | succ u=>exact ae (bf (by rw[Nat.add_sub_cancel,eZ u 1 v,eZ (u+v) 1 n];rfl)) h
theorem goB{u v n t:Nat}(h0:0<v)(h:u+v+n<=t):u+(v-1)+(n+1)<=t:=by
 rw[dA u];exact goA h0 (by rw[dA v];exact h)
theorem bB1{u v u' v' n t:Nat}(h1:u'<=u)(h2:v'<=v)(h:u+v+n<=t):u'+v'+n<=t:=ae (cf (dJ h1 h2) n) h
theorem goN{u v n m t:Nat}(h1:m<=n)(h:u+v+n<=t):u+v+m<=t:=ae (aV h1 _) h
theorem Y8{a:Array Keyed}{n:Nat}(h:n<=a.size):(a.toList.take n).length=n:=by rw[cG,ao,bt h]
theorem mhi(pu:sPu W)(bd:sBd W)(mo:sMo W)(md:sMd W)(gt:sGt W)(rl:sRl W)(fr:sFr W)(lt:sLt W kd r Ok){Q:Array Keyed->SortSt->Prop}(hk:kindOf st=kd)(oa:∀ x∈a.toList,Ok x)(ob:∀ x∈b.toList,Ok x)(ha:0<a.size)(hb:0<b.size)
  (sa:a.toList.Pairwise λx y=>r x<=r y) (sb:b.toList.Pairwise λx y=>r x<=r y) (h0:∀ x∈a.toList,r b[0]<=r x) (hl:∀ y∈b.toList,r y<=r (a[a.size-1]'(t6 ha (aC _))))
  (h:∀ out st',EnL r st (a.toList++b.toList) out st'->Q out st'):W _ (bs3 a b) Q st:=by
 have ga:∀ i (hi:i<a.size),a[i]?=some a[i]/\Ok a[i]:=λi hi=>⟨aG hi,oa _ (by simp)⟩
 have gb:∀ i (hi:i<b.size),b[i]?=some b[i]/\Ok b[i]:=λi hi=>⟨aG hi,ob _ (by simp)⟩
 have fst:∀ {out:Array Keyed} {na nb:Nat} {st'},Like st st'->Mg (ngv r) (a.toList++b.toList) out.toList (rev a na) (rev b nb)->(nb==1)=true->EnL r st (a.toList++b.toList) (b.extract 0 nb++a.extract 0 na++out.reverse) st':=fun{out na nb st'} l m e=>
  ⟨l,ak3 m.sw λx hx y hy=>by
   obtain rfl:=beq_iff_eq.mp e;rw[Z0 hb] at hy;rw[aj.mp hy];exact h0 x (aq4 hx)⟩
 have don:∀ {out:Array Keyed} {na nb:Nat} {st'},Like st st'->Mg (ngv r) (a.toList++b.toList) out.toList (rev a na) (rev b nb)->(na==0)=true->EnL r st (a.toList++b.toList) (a.extract 0 na++b.extract 0 nb++out.reverse) st':=fun{out na nb st'} l m e=>
  ⟨l,ak3 m λx hx y hy=>by
   obtain rfl:=beq_iff_eq.mp e;rw[bo1] at hy;cases hy⟩
 refine bd (rl ?_)
 extract_lets total done firstOfB na nb ac0
 have hn0:=t6 ha (aC a.size);have l0:Like st st:=⟨rfl,rfl,rfl,rfl⟩;have m0:Mg (ngv r) (a.toList++b.toList) (#[a[a.size-1]]:Array Keyed).toList (rev a (a.size-1)) (rev b b.size):=by
  refine T1 (out:=#[]) ⟨?_,?_,?_⟩ ha (aC _) λx hx=>hl x (aq4 hx)
  ·unfold Internal.rev;rw[fP,bA (by simp)];exact eA.mpr (sa.imp λh=>P7 h)
  ·unfold Internal.rev;rw[fP,bA (by simp)];exact eA.mpr (sb.imp λh=>P7 h)
  ·unfold Internal.rev;rw[fP,bA (by simp),bA (by simp)];exact List.Perm.append (fk _) (fk _)
 refine bd (sEl @pu (ga _ hn0).1 ?_);refine sIt (λe=>pu (h _ _ (don l0 m0 e))) λe1=>sIt (λe=>pu (h _ _ (fst l0 m0 e))) λe2=>?_
 refine bd (gt ?_);refine frM @fr @mo @bd (λx=>GoH r st a b (a.toList++b.toList) (x+1)) (λz_ z_ z_ z_=>False) (EnL r st (a.toList++b.toList)) ⟨l0,m0,⟨J7 e1,aK hn0⟩,⟨W9 hb e2,aC _⟩,goA ha (aC _)⟩ (λx na nb out t st' T kr kd ky hx hg=>?_) (λq=>q.end (dm _)) (λres c st' q=>pu (h _ _ q)) λz_ z_ z_ z_ z_ q=>q.elim
 have hL:∀ {st':SortSt} {n:Nat} {R:Unit->SortSt->Prop},Like st st'->(∀ st2,Like st st2->R () st2)->W _ (ay7 n) R st':=λl q=>md (q _ ⟨l.k,l.a,l.p,l.f⟩)
 refine frM @fr @mo @bd (λy=>GoH r st a b (a.toList++b.toList) (x+1+y)) (GoH r st a b (a.toList++b.toList) (x+2)) (EnL r st (a.toList++b.toList)) hg (λy na nb out t st' T kr kd ky hy hg=>?_) (λq=>(q.end (aQ _ _)).elim) (λres c st' q=>pu (kr q)) λna nb out t st' hg=>?_
 ·have l:=hg.1
  have m:=hg.2.1;have h1:=hg.2.2.1;have h2:=hg.2.2.2.1;have h3:=hg.2.2.2.2;have h2p:=bQ h2.1;have pa:=t6 h1.1 h1.2;have pb:=t6 h2p h2.2;have hx2:x+2<=x+1+y+1:=bc (aY _ y);refine ar7 @pu @bd @lt (gb _ pb) (ga _ pa) (l.k.trans hk) (λq=>?_) λq=>?_
  ·have m':=T1 m h1.1 h1.2 λx hx=>bw (V3 m.sw h2p h2.2 x hx) (bY q)
   refine sIt (λz_=>bd (sEl @pu (ga _ pa).1 ?_)) λe=>absurd rfl e
   refine sIt (λe=>pu (kr (don l m' e))) λe=>?_
   have g:GoH r st a b (a.toList++b.toList) (x+1+(y+1)) _ _ _ st':=⟨l,m',⟨J7 e,aK pa⟩,h2,goA h1.1 h3⟩;exact sIt (λz_=>pu (kd ⟨g.1,g.2.1,g.2.2.1,g.2.2.2.1,goN hx2 g.2.2.2.2⟩)) λz_=>pu (ky g)
  ·have m':=(T1 m.sw h2p h2.2 λx hx=>bw (V3 m h1.1 h1.2 x hx) (bM.mp q)).sw
   refine sIt (λe=>absurd e (by decide)) λz_=>bd (sEl @pu (gb _ pb).1 ?_)
   refine sIt (λe=>pu (kr (fst l m' e))) λe=>?_
   have g:GoH r st a b (a.toList++b.toList) (x+1+(y+1)) _ _ _ st':=⟨l,m',h1,⟨W9 (bP h2.1) e,aK pb⟩,goB h2p h3⟩;exact sIt (λz_=>pu (kd ⟨g.1,g.2.1,g.2.2.1,g.2.2.2.1,goN hx2 g.2.2.2.2⟩)) λz_=>pu (ky g)
 refine bd (rl ?_);refine frM @fr @mo @bd (λz_=>GoH r st a b (a.toList++b.toList) (x+2)) (GoH r st a b (a.toList++b.toList) (x+2)) (EnL r st (a.toList++b.toList)) hg (λy na nb out t st' T kr kd ky hy hg=>?_) (λq=>q) (λres c st' q=>pu (kr q)) λna nb out t st' hg=>bd (hL hg.1 λst2 l2=>pu (ky ⟨l2,hg.2⟩))
 extract_lets s1 na1 s2 nb1 s3 out1 s4 mg1 s5 ac1 bc1 nb2 jp mg2
 have l:=hg.1;have m:=hg.2.1;have h1:=hg.2.2.1;have h2:=hg.2.2.2.1;have h3:=hg.2.2.2.2;have h2p:=bQ h2.1;have pa:=t6 h1.1 h1.2;have pb:=t6 h2p h2.2;have hjp:∀ mg,W _ (jp () mg) T st':=λmg=>by
  refine bd (hL l λst2 l2=>L6 @pu @bd @mo @fr @lt (S:=a.toList.take na) (l2.k.trans hk) (gb _ pb) (Y8 h1.2) (λi hi=>ak2 hi) (λx hx=>oa x (bx hx)) (sa.sublist (cZ _ _)) (cW h1.1 cy) λat_ hkn hyes hno=>?_)
  have hyes:∀ x∈rev a at_,r x<=r (b[nb-1]'pb):=λx hx=>bM.mp (hyes x (by rw[dI,bt hkn];exact dZ.mp hx))
  have hno:∀ x∈(a.toList.take na).drop at_,r (b[nb-1]'pb)<=r x:=λx hx=>bY (da.mp (hno x hx))
  have hd:=V3 m.sw h2p h2.2;have m2:=aJ4 m hkn λx hx y hy=>bw (hd y hy) (hno x hx)
  dsimp -zeta -zetaHave only
  extract_lets k ac2 jp2 out3 na3
  have hjp2:∀ na' out,Mg (ngv r) (a.toList++b.toList) out.toList (rev a na') (rev b nb)->0<na'->na'<=na->(∀ x∈rev a na',r x<=r (b[nb-1]'pb))->W _ (jp2 () na' out) T st2:=λna' out m hn0 hna hle=>by
   have h1':=ae hna h1.2;have pa':=t6 hn0 h1';refine bd (sEl @pu (gb _ pb).1 ?_);have m2:=(T1 m.sw h2p h2.2 hle).sw;refine sIt (λe=>pu (kr (fst l2 m2 e))) λe=>?_
   have hnb:=W9 (bP h2.1) e;refine L6 @pu @bd @mo @fr @lt (S:=b.toList.take (nb-1)) (l2.k.trans hk) (ga _ pa') (Y8 (aK pb)) (λi hi=>ak2 hi) (λx hx=>ob x (bx hx)) (sb.sublist (cZ _ _)) (cW (bQ hnb) cy) λat_ hkn hyes hno=>?_
   have hyes:∀ x∈rev b at_,r x<=r (a[na'-1]'pa'):=λx hx=>bY (hyes x (by rw[dI,bt hkn];exact dZ.mp hx))
   have hno:∀ x∈(b.toList.take (nb-1)).drop at_,r (a[na'-1]'pa')<=r x:=λx hx=>bM.mp (hno x hx)
   have hd:=V3 m2 hn0 h1';have m3:=(aJ4 m2.sw hkn λx hx y hy=>bw (hd y hy) (hno x hx)).sw
   dsimp -zeta -zetaHave only
   extract_lets k bc2 na4 jp3 out4 nb4
   have hjp3:∀ nb' out,Mg (ngv r) (a.toList++b.toList) out.toList (rev a na') (rev b nb')->1<nb'->nb'<=nb-1->(∀ x∈rev b nb',r x<=r (a[na'-1]'pa'))->W _ (jp3 () nb' out) T st2:=λnb' out m hb1 hnb hle=>by
    refine bd (sEl @pu (ga _ pa').1 ?_);have m3:=T1 m hn0 h1' hle;refine sIt (λe=>pu (kr (don l2 m3 e))) λe=>?_
    have q:GoH r st a b (a.toList++b.toList) (x+2) (na'-1) nb' _ st2:=⟨l2,m3,⟨J7 e,aK pa'⟩,⟨hb1,ae hnb (aK pb)⟩,bB1 (ae (cj _ _) hna) (ae hnb (cj _ _)) h3⟩;exact sIt (λz_=>pu (kd q)) λz_=>pu (ky q)
   clear_value jp3
   refine sIt (λe=>?_) λe=>?_
   ·refine sIt (λe=>pu (kr (fst l2 m3 e))) λe1=>sIt (λe=>pu (kr ⟨l2,ak3 m3 ?_⟩)) λe2=>hjp3 _ _ m3 (W9 (J7 e2) e1) hkn hyes
    intro x hx
    change x∈rev b at_ at hx
    rw[show at_=0 from beq_iff_eq.mp e] at hx;cases hx
   ·exact hjp3 _ _ m2 hnb (aC _) (by rw[<- aZ hkn (cr (cY e))];exact hyes)
  clear_value jp2
  refine sIt (λe=>?_) λe=>?_
  ·exact sIt (λe=>pu (kr (don l2 m2 e))) λe1=>hjp2 _ _ m2 (J7 e1) hkn hyes
  ·exact hjp2 _ _ m h1.1 (aC _) (by rw[<- aZ hkn (cr (cY e))];exact hyes)
 clear_value jp
 exact sIt (λz_=>hjp _) λz_=>hjp _
end
section
variable{W:WT}{kd:SortKind}{r:Keyed->Int}{Ok:Keyed->Prop}{L:List Keyed}
def kf(r:Keyed->Int)(a:Array Keyed)(i:Nat):Int:=(a[i]?.map r).getD 0
structure SrI(kd:SortKind)(r:Keyed->Int)(Ok:Keyed->Prop)(L:List Keyed)(st:SortSt):Prop where
 k:kindOf st=kd
 f:failedOf st=none
 p:(arrOf st).toList.Perm L
 o:∀ x∈L,Ok x
 d:(L.map r).Nodup
variable{st:SortSt}
theorem SrI.size(I:SrI kd r Ok L st):(arrOf st).size=L.length:=by rw[<- ao];exact I.p.length_eq
theorem SrI.ok(I:SrI kd r Ok L st){i:Nat}(h:i<(arrOf st).size):Ok (arrOf st)[i]:=I.o _ (I.p.mem_iff.mp (by simp))
theorem M9{a:Array Keyed}{i:Nat}(h:i<a.size):kf r a i=r a[i]:=by unfold kf;rw[aG h];rfl
theorem SrI.ne(I:SrI kd r Ok L st){i j:Nat}(hi:i<L.length)(hj:j<L.length)(e:kf r (arrOf st) i=kf r (arrOf st) j):i=j:=by
 have hn:((arrOf st).toList.map r).Nodup:=(I.p.map r).nodup_iff.mpr I.d;have hi':i<(arrOf st).size:=by rw[I.size];exact hi
 have hj':j<(arrOf st).size:=by rw[I.size];exact hj
 rw[M9 hi',M9 hj'] at e;refine(dX (xs:=(arrOf st).toList.map r) (h₀:=by simpa using hi') (h₁:=by simpa using hj') hn).mp ?_
 simpa using e
theorem SrI.lt(pu:sPu W)(bd:sBd W)(gt:sGt W)(lt:sLt W kd r Ok)(I:SrI kd r Ok L st){i j:Nat}{Q:Option Bool->SortSt->Prop}(hi:i<L.length)(hj:j<L.length)(yes:kf r (arrOf st) i<kf r (arrOf st) j->Q (some true) st)(no:¬ kf r (arrOf st) i<kf r (arrOf st) j->Q (some false) st):W _ (ltAt' i j) Q st:=by
 have hi':i<(arrOf st).size:=by rw[I.size];exact hi
 have hj':j<(arrOf st).size:=by rw[I.size];exact hj
 rw[M9 hi',M9 hj'] at yes no;exact bd (gt (bd (sEl @pu (aG hi') (bd (sEl @pu (aG hj') (lt (I.ok hi') (I.ok hj') I.k yes no))))))
theorem SrI.set(I:SrI kd r Ok L st){a:Array Keyed}(h:a.Perm (arrOf st)):SrI kd r Ok L (setArr st a):=⟨I.k,I.f,(Array.perm_iff_toList_perm.mp h).trans I.p,I.o,I.d⟩
def RS(r:Keyed->Int)(a:Array Keyed)(lo hi:Nat):Prop:=∀ i j,lo<=i->i<=j->j<hi->kf r a i<=kf r a j
theorem aj5{a:Array Keyed}{i j:Nat}(hj:j<=a.size)(k:Nat):kf r (mirror a i j ((j-i) / 2)) k=if i<=k/\k<j then kf r a (i+j-1-k) else kf r a k:=by
 unfold kf;rw[getElem?_mirror_all hj];split<;>rfl
theorem ae5{a:Array Keyed}{src d:Nat}(hs:src<a.size)(hd:d<=src)(k:Nat):kf r (bubble a src d) k=if k=src-d then kf r a src else if src-d<k/\k<=src then kf r a (k-1) else kf r a k:=by
 unfold kf;rw[getElem?_bubble hs d hd];split
 ·rfl
 ·split<;>rfl
def DS(r:Keyed->Int)(a:Array Keyed)(lo hi:Nat):Prop:=∀ i j,lo<=i->i<=j->j<hi->kf r a j<=kf r a i
theorem RS.one{a:Array Keyed}{lo:Nat}:RS r a lo (lo+1):=λi j hi hij hj=>by rw[aZ hij (ae (aR hj) hi)];exact bK _
theorem RS.snoc{a:Array Keyed}{lo n:Nat}(h:RS r a lo (lo+n))(hn:1<=n)(q:kf r a (lo+n-1)<=kf r a (lo+n)):RS r a lo (lo+(n+1)):=λi j hi hij hj=>by
 rcases dD (aR hj) with e | e
 ·exact h i j hi hij e
 ·subst e
  rcases dD hij with e | e
  ·exact bw (h i _ hi (bq e) (cW (aA hn (aQ _ _)) cy)) q
  ·rw[e];exact bK _
theorem DS.snoc{a:Array Keyed}{lo n:Nat}(h:DS r a lo (lo+n))(hn:1<=n)(q:kf r a (lo+n)<=kf r a (lo+n-1)):DS r a lo (lo+(n+1)):=λi j hi hij hj=>by
 rcases dD (aR hj) with e | e
 ·exact h i j hi hij e
 ·subst e
  rcases dD hij with e | e
  ·exact bw q (h i _ hi (bq e) (cW (aA hn (aQ _ _)) cy))
  ·rw[e];exact bK _
theorem DS.one{a:Array Keyed}{lo:Nat}:DS r a lo (lo+1):=λi j hi hij hj=>by rw[aZ hij (ae (aR hj) hi)];exact bK _
theorem aq3{lo x i:Nat}(h1:lo<=i)(h2:i<lo+x):lo<=lo+(lo+x)-1-i/\lo+(lo+x)-1-i<lo+x:=
 ⟨Nat.le_sub_of_add_le (bq (bR h2 lo)),Nat.sub_lt_left_of_lt_add (ae (bq h2) (cc (aQ _ _) 1)) (aA (cW (aA (aM (aE _) h2) (aQ _ _)) cy) (cf h1 _))⟩
theorem DS.mirror{a:Array Keyed}{lo x:Nat}(h:DS r a lo (lo+x))(hz:lo+x<=a.size):RS r (mirror a lo (lo+x) ((lo+x-lo) / 2)) lo (lo+x):=λi j hi hij hj=>by
 have h1:=aM hij hj;have h2:=ae hi hij;rw[aj5 hz,aj5 hz,if_pos ⟨hi,h1⟩,if_pos ⟨h2,hj⟩];exact h _ _ (aq3 h2 hj).1 (cF hij _) (aq3 hi h1).2
theorem bC7{a:Array Keyed}{lo x i:Nat}(hz:lo+x<=a.size)(h:i<lo):kf r (mirror a lo (lo+x) ((lo+x-lo) / 2)) i=kf r a i:=by
 rw[aj5 hz,if_neg λq=>bn _ (aA h q.1)]
theorem ltl{lo nrem l n:Nat}(hl:lo+nrem=l)(h:n<nrem):lo+n<l:=hl▸bR h lo
theorem K6{lo l n:Nat}(h:lo+n<l):lo+n-1<l:=aM (cj _ _) h
theorem bm2{lo n:Nat}(h:1<n):¬ lo=lo+n-1:=br (gC (bR h lo))
theorem bW2{n:Nat}(h:0<n):¬ n=n-1:=dz (cW h cy)
theorem aI0(fr:sFr W)(mo:sMo W)(bd:sBd W){lo nrem a:Nat}{A:Array Keyed}(h1:1<=a)(h2:a<=nrem)(hs:RS r A lo (lo+a)){Z γ:Type}{f:Nat->Option Z×Nat->SM (ForInStep (Option Z×Nat))}{g:Option Z×Nat->SM γ}{R:γ->SortSt->Prop}
  (hf:∀ x n (T:ForInStep (Option Z×Nat)->SortSt->Prop),(kf r A (lo+n)<kf r A (lo+n-1)->T (.done (none,n)) st)->(¬ kf r A (lo+n)<kf r A (lo+n-1)->T (.yield (none,n+1)) st)->n<nrem->W _ (f x (none,n)) T st)
  (next:∀ n,1<=n->n<=nrem->RS r A lo (lo+n)->(n<nrem->kf r A (lo+n)<kf r A (lo+n-1))->W _ (g (none,n)) R st):W _ (forIn [a:nrem] (none,a) f >>= g) R st:=
 frC @fr @mo @bd (λx n=>n=x/\1<=n/\RS r A lo (lo+n)) (λn=>1<=n/\n<=nrem/\RS r A lo (lo+n)/\(n<nrem->kf r A (lo+n)<kf r A (lo+n-1))) ⟨rfl,h1,hs⟩
  (λx n T k1 k2 z_ hx h=>hf x n T (λq=>k1 ⟨h.2.1,aK (h.1▸hx),h.2.2,λz_=>q⟩) (λq=>k2 ⟨congrArg (· + 1) h.1,dN h.2.1,h.2.2.snoc h.2.1 (bM.mp q)⟩) (h.1▸hx))
  (fun{n} h=>⟨h.2.1,bf (h.1.trans (bZ h2)),h.2.2,λq=>absurd q (bg.mpr (bf (h.1.trans (bZ h2)).symm))⟩) λn h=>next n h.1 h.2.1 h.2.2.1 h.2.2.2
theorem bG8(pu:sPu W)(bd:sBd W)(mo:sMo W)(md:sMd W)(gt:sGt W)(rl:sRl W)(fr:sFr W)(lt:sLt W kd r Ok)(I:SrI kd r Ok L st){lo nrem:Nat}(hl:lo+nrem=L.length)(h1:1<=nrem){Q:Option Nat->SortSt->Prop}
  (h':∀ n st',1<=n->n<=nrem->SrI kd r Ok L st'->pendingOf st'=pendingOf st->RS r (arrOf st') lo (lo+n)->(∀ i,i<lo->kf r (arrOf st') i=kf r (arrOf st) i)->Q (some n) st'):W _ (bT4 lo nrem) Q st:=by
 have hlo:lo<L.length:=ltl (n:=0) hl h1;refine aI0 @fr @mo @bd (A:=arrOf st) (aC 1) h1 RS.one (λx n T k1 k2 hn=>bd (I.lt @pu @bd @gt @lt (ltl hl hn) (K6 (ltl hl hn)) (λq=>pu (k1 q)) λq=>pu (k2 q))) λn hn hnr hs hlt=>?_
 refine sIt (λz_=>pu (h' n st hn hnr I rfl hs λz_ z_=>rfl)) λe=>?_
 have hnr:n<nrem:=ca hnr λq=>e (beq_iff_eq.mpr q)
 have hlt:=hlt hnr;have hpl:=K6 (ltl hl hnr);refine sIt (λe=>bd (I.lt @pu @bd @gt @lt hlo hpl (λq=>pu (h' n st hn (aK hnr) I rfl hs λz_ z_=>rfl)) λq=>?_)) λe=>?_
 ·have e:1<n:=e
  have q1:=I.ne hlo hpl (Int.le_antisymm (hs lo _ (aC _) (bq (fK (bQ e))) (cW (aA hn (aQ _ _)) cy)) (bM.mp q));exact absurd q1 (bm2 e)
 ·have hn1:n=1:=aZ (bg.mp e) hn
  refine bd (rl ?_);refine frC @fr @mo @bd (λx c=>c.1=x/\c.2=0/\2<=c.1/\DS r (arrOf st) lo (lo+c.1)) (λc=>c.2=0/\2<=c.1/\c.1<=nrem/\DS r (arrOf st) lo (lo+c.1)) ⟨rfl,rfl,bc hn,DS.snoc (by rw[hn1];exact DS.one) hn (bY hlt)⟩ (λx c T k1 k2 z_ hx h=>?_) (fun{c} h=>⟨h.2.1,h.2.2.1,bf (h.1.trans (bZ hnr)),h.2.2.2⟩) λc h=>?_
  ·have hc:c.1<nrem:=h.1▸hx
   have hc1:1<=c.1:=Nat.le_of_succ_le h.2.2.1;have p1:=ltl hl hc;refine bd (I.lt @pu @bd @gt @lt p1 (K6 p1) (λq=>?_) λq=>?_)
   ·refine sIt (λz_=>sIt (λe=>absurd e (by rw[show c.2=0 from h.2.1];exact bn _)) λz_=>pu (k2 ⟨congrArg (· + 1) h.1,rfl,dN h.2.2.1,h.2.2.2.snoc hc1 (bY q)⟩)) λe=>absurd rfl e
   ·refine bd (I.lt @pu @bd @gt @lt (K6 p1) p1 (λq=>pu (k1 ⟨h.2.1,h.2.2.1,aK hc,h.2.2.2⟩)) λq2=>?_)
    have:=I.ne p1 (K6 p1) (Int.le_antisymm (bM.mp q2) (bM.mp q));exact absurd this (bW2 (aA hc1 (aQ _ _)))
  ·refine sIt (λe=>absurd e (by rw[show c.2=0 from h.1];exact bn _)) λz_=>bd (md ?_)
   have hsz:lo+c.1<=(arrOf st).size:=by rw[I.size,<- hl];exact aV h.2.2.1 lo
   have I2:SrI kd r Ok L (setArr st (mirror (arrOf st) lo (lo+c.1) ((lo+c.1-lo) / 2))):=I.set (mirror_perm _ _ _ _);exact aI0 @fr @mo @bd (A:=arrOf (setArr st (mirror (arrOf st) lo (lo+c.1) ((lo+c.1-lo) / 2)))) (Nat.le_of_succ_le h.2.1) h.2.2.1 (h.2.2.2.mirror hsz) (λx n T k1 k2 hn=>bd (I2.lt @pu @bd @gt @lt (ltl hl hn) (K6 (ltl hl hn)) (λq=>pu (k1 q)) λq=>pu (k2 q))) λn hn hnr hs z_=>pu (h' n _ hn hnr I2 rfl hs λi hi=>bC7 hsz hi)
theorem V4{l u:Nat}(h:l<u):l<=(l+u) / 2/\(l+u) / 2<u:=
 ⟨(gh (by decide)).mpr (by rw[gU];exact aV (aK h) l),(Nat.div_lt_iff_lt_mul (by decide)).mpr (by rw[gU];exact gx h u)⟩
theorem bc7{l u k x:Nat}(h:l<u)(b:u-l<=k-x):u-((l+u) / 2+1)<=k-(x+1):=ae (cF (bc (V4 h).1) u) (cc b 1)
theorem bF5{l u k x:Nat}(h:l<u)(b:u-l<=k-x):(l+u) / 2-l<=k-(x+1):=ae (bq (gy (V4 h).1 (V4 h).2)) (cc b 1)
theorem RS.put{a:Array Keyed}{lo k l:Nat}(h:RS r a lo (lo+k))(hz:lo+k<a.size)(hat:sAt (λi=>¬ kf r a (lo+k)<kf r a (lo+i)) k l):RS r (bubble a (lo+k) (lo+k-(lo+l))) lo (lo+(k+1))/\∀ i,i<lo->kf r (bubble a (lo+k) (lo+k-(lo+l))) i=kf r a i:=by
 obtain⟨hlk,h1,h2⟩:=hat;have ed:lo+k-(lo+l)<=lo+k:=cj _ _;have es:lo+k-(lo+k-(lo+l))=lo+l:=Nat.sub_sub_self (aV hlk lo);have g1:∀ i,lo<=i->i<lo+l->kf r a i<=kf r a (lo+k):=λi q1 q2=>by
  obtain⟨m,rfl⟩:=fL q1;exact bM.mp (h1 m (fx q2))
 have g2:∀ i,lo+l<=i->i<lo+k->kf r a (lo+k)<=kf r a i:=λi q1 q2=>by
  obtain⟨m,rfl⟩:=fL (ae (aY lo l) q1);exact bY (da.mp (h2 m (Nat.le_of_add_le_add_left q1) (fx q2)))
 refine⟨λi j hi hij hj=>?_,λi hi=>?_⟩
 ·rw[ae5 hz ed,ae5 hz ed,es]
  have hj:j<=lo+k:=aR hj;by_cases a1:i=lo+l
  ·rw[if_pos a1]
   by_cases b1:j=lo+l
   ·rw[if_pos b1];exact bK _
   ·have b2:lo+l<j:=ca (a1▸hij) (Ne.symm b1)
    rw[if_neg b1,if_pos ⟨b2,hj⟩];exact g2 _ (bq b2) (t6 (aM (aE _) b2) hj)
  ·rw[if_neg a1]
   by_cases a2:lo+l<i
   ·have b2:=aA a2 hij
    rw[if_pos ⟨a2,ae hij hj⟩,if_neg (dz b2),if_pos ⟨b2,hj⟩];exact h _ _ (ae (aY lo l) (bq a2)) (cc hij 1) (t6 (aM (aE _) b2) hj)
   ·have a3:i<lo+l:=ca (bg.mp a2) a1
    rw[if_neg λq=>a2 q.1]
    by_cases b1:j=lo+l
    ·rw[if_pos b1];exact g1 i hi a3
    ·rw[if_neg b1]
     by_cases b2:lo+l<j
     ·rw[if_pos ⟨b2,hj⟩];exact bw (g1 i hi a3) (g2 _ (bq b2) (t6 (aM (aE _) b2) hj))
     ·rw[if_neg λq=>b2 q.1];exact h i j hi hij (aA (ca (bg.mp b2) b1) (aV hlk lo))
 ·have q:=aA hi (aY lo l)
  rw[ae5 hz ed,es,if_neg (br q),if_neg λq'=>bn _ (bO q q'.1)]
theorem aT8(pu:sPu W)(bd:sBd W)(mo:sMo W)(md:sMd W)(gt:sGt W)(fr:sFr W)(lt:sLt W kd r Ok)(I:SrI kd r Ok L st){lo n ok:Nat}(hl:lo+n<=L.length)(ho:ok<=n)(hn:1<=n)(hs:RS r (arrOf st) lo (lo+ok)){Q:Bool->SortSt->Prop}
  (h:∀ st',SrI kd r Ok L st'->pendingOf st'=pendingOf st->RS r (arrOf st') lo (lo+n)->(∀ i,i<lo->kf r (arrOf st') i=kf r (arrOf st) i)->Q true st'):W _ (ci2 lo n ok) Q st:=by
 have s0:RS r (arrOf st) lo (lo+max ok 1):=by
  rcases Nat.eq_zero_or_pos ok with e | e
  ·rw[e];exact RS.one
  ·rw[Nat.max_eq_left e];exact hs
 refine frX @fr @mo @bd (λk z_ st'=>SrI kd r Ok L st'/\pendingOf st'=pendingOf st/\RS r (arrOf st') lo (lo+k)/\∀ i,i<lo->kf r (arrOf st') i=kf r (arrOf st) i) (λz_ st'=>SrI kd r Ok L st'/\pendingOf st'=pendingOf st/\RS r (arrOf st') lo (lo+n)/\∀ i,i<lo->kf r (arrOf st') i=kf r (arrOf st) i) (λz_ z_=>False) ⟨I,rfl,s0,λz_ z_=>rfl⟩ (λk c st' T z_ z_ ky z_ hkn hg=>?_) (fun{c st'} q=>by rw[bZ (eJ.mpr ⟨ho,hn⟩)] at q;exact q) (λz_ z_ z_ q=>q.elim) λc st' q=>pu (h st' q.1 q.2.1 q.2.2.1 q.2.2.2)
 have I:=hg.1;have hk:lo+k<L.length:=aA (bR hkn lo) hl;have y:sYes (λi=>¬ kf r (arrOf st') (lo+k)<kf r (arrOf st') (lo+i)) k:=⟨λi j hij hj q p=>q (dC p (hg.2.2.1 _ _ (aY _ _) (aV hij lo) (bR hj lo)))⟩
 refine frS @fr @mo @bd (λx l u=>B8 (λi=>¬ kf r (arrOf st') (lo+k)<kf r (arrOf st') (lo+i)) k l u/\u-l<=k-x) (λl u=>sAt (λi=>¬ kf r (arrOf st') (lo+k)<kf r (arrOf st') (lo+i)) k l) ⟨⟨aE _,aC _,λi q=>absurd q (bS _),λi q1 q2=>absurd q2 (bg.mpr q1)⟩,aC _⟩ (λx l u T k1 k2 hx h=>?_) (λl u h=>?_) λl u h=>bd (md (pu (ky ?_)))
 ·refine sIt (λe=>pu (k1 (by rw[aZ h.1.1 e];exact V1 h.1 e))) λe=>?_
  have e:=cI.mp e;have ai:=V4 e;exact bd (I.lt @pu @bd @gt @lt hk (bO (bR (aA ai.2 h.1.2.1) lo) hk) (λq=>pu (k2 ⟨aD6 y h.1 ai.1 ai.2 λz=>z q,bF5 e h.2⟩)) λq=>pu (k2 ⟨al2 y h.1 ai.2 q,bc7 e h.2⟩))
 ·have e:u<=l:=cr (fW.mp (ae h.2 (bf (cS k))))
  rw[aZ h.1.1 e];exact V1 h.1 e
 ·have g:=hg.2.2.1.put (by rw[I.size];exact hk) h
  exact⟨I.set (bubble_perm _ (lo+k) (lo+k-(lo+l))),hg.2.1,g.1,λi hi=>(g.2 i hi).trans (hg.2.2.2 i hi)⟩
end
section
variable{W:WT}{kd:SortKind}{r:Keyed->Int}{Ok:Keyed->Prop}{L:List Keyed}{st:SortSt}
theorem bY5:∀ (l mid pre post:List Keyed) (k i:Nat) (a:Array Keyed),a.toList=pre++(mid++post)->pre.length=i+k->mid.length=l.length->((l.zipIdx k).foldl (λa p=>a.setIfInBounds (i+p.2) p.1) a).toList=pre++(l++post):=by
 intro l;induction l with
 | nil=>intro mid pre post k i a e h1 h2;rw[List.eq_nil_of_length_eq_zero h2] at e;exact e
 | cons x l ih=>
  intro mid pre post k i a e h1 h2;cases mid with
  | nil=>cases h2
  | cons y mid=>
   rw[List.zipIdx_cons,dx,ih mid (pre++[x]) post (k+1) i (a.setIfInBounds (i+k) x) ?_ (by rw[az,h1];rfl) (Nat.succ.inj h2),aH]
   ·rfl
   ·rw[fc,e,<- h1,aH]
    exact(List.set_append_right _ _ (aC _)).trans (by rw[cS];rfl)
theorem RS.list{a:Array Keyed}{lo n:Nat}(h:RS r a lo (lo+n))(hn:lo+n<=a.size):((a.toList.drop lo).take n).Pairwise λx y=>r x<=r y:=by
 rw[cw];intro i j hi hj hij;have hj':j<n:=by rw[cG] at hj;exact aA hj (be _ _)
 have p2:=bR hj' lo;have p1:=bO (bR hij lo) p2;have:=h (lo+i) (lo+j) (aY _ _) (aV (aK hij) lo) p2;rw[M9 (aA p1 hn),M9 (aA p2 hn)] at this
 simpa using this
theorem bH2{A1 X Y B2 m:List Keyed}{b0 aL:Int}(sA:(A1++X).Pairwise λx y=>r x<=r y)(sB:(Y++B2).Pairwise λx y=>r x<=r y)(h1:∀ x∈A1,r x<=b0)(h2:∀ y∈Y++B2,b0<=r y)(h3:∀ x∈A1++X,r x<=aL)(h4:∀ y∈B2,aL<=r y)(f:Fine r (X++Y) m) :
  Fine r (A1++((X++Y)++B2)) (A1++(m++B2)):=by
 have sA:=bb.mp sA;have sB:=bb.mp sB;have hm:∀ x∈m,x∈X∨x∈Y:=λx hx=>aq.mp (f.p.mem_iff.mp hx)
 refine⟨bb.mpr ⟨sA.1,bb.mpr ⟨f.s,sB.2.1,λx hx y hy=>?_⟩,λx hx y hy=>?_⟩,List.Perm.append_left _ (List.Perm.append_right _ f.p)⟩
 ·rcases hm x hx with q | q
  ·exact bw (h3 x (gq _ q)) (h4 y hy)
  ·exact sB.2.2 x q y hy
 ·rcases aq.mp hy with hy | hy
  ·rcases hm y hy with q | q
   ·exact sA.2.2 x hx y q
   ·exact bw (h1 x hx) (h2 y (gD _ q))
  ·exact bw (h1 x hx) (h2 y (gq _ hy))
theorem T8(md:sMd W){f:SortSt->SortSt}{Q:PUnit->SortSt->Prop}(h:∀ st1,st1=f st->Q ⟨⟩ st1):W _ (modify f) Q st:=md (h _ rfl)
theorem bq7(md:sMd W){st':SortSt}{Q:PUnit->SortSt->Prop}(h:∀ st1,st1=st'->Q ⟨⟩ st1):W PUnit (set st') Q st:=md (f:=λz_=>st') (h _ rfl)
theorem cb9{l:List Keyed}{n:Nat}(s:(l.take n).Pairwise λx y=>r x<=r y)(h:n-1<l.length)(h0:0<n):∀ x∈l.take n,r x<=r l[n-1]:=by
 intro x hx;have e:=dY h;rw[fb h0] at e;rw[e] at hx s;rcases aq.mp hx with e | e
 ·exact(bb.mp s).2.2 x e _ (by simp)
 ·rw[aj.mp e];exact bK _
theorem aX1{l:List Keyed}{n:Nat}(s:(l.drop n).Pairwise λx y=>r x<=r y)(h:n<l.length):∀ x∈l.drop n,r l[n]<=r x:=by
 rw[cu h] at s ⊢;intro y hy;rcases au.mp hy with e | e
 ·rw[e];exact bK _
 ·exact(cq.mp s).1 y e
theorem bh5{x:Array Keyed}{i:Nat}(s:x.toList.Pairwise λx y=>r x<=r y)(h:0<x.size)(hi:x.size<=i+1):∀ z∈x.toList.drop i,r (x[x.size-1]'(t6 h (aC _)))<=r z:=λz hz=>by
 obtain⟨j,hj,rfl⟩:=eH.mp hz;rw[bX,ao] at hj;rw[List.getElem_drop,Array.getElem_toList];have h2:i+j<x.size:=de hj;have e:x.size-1=i+j:=aZ (Nat.sub_le_of_le_add (ae hi (bc (aY _ _)))) (bq h2);have:x[x.size-1]'(t6 h (aC _))=x[i+j]:=by congr 1
 rw[this];exact bK _
theorem bZ3(pu:sPu W)(bd:sBd W)(mo:sMo W)(md:sMd W)(gt:sGt W)(rl:sRl W)(fr:sFr W)(lt:sLt W kd r Ok)(I:SrI kd r Ok L st){n1 n2 p q:Nat}(hp:pendingOf st=#[(0,n1,p),(n1,n2,q)])(p1:0<n1)(p2:0<n2)(hn:n1+n2=L.length)(s1:RS r (arrOf st) 0 (0+n1))(s2:RS r (arrOf st) n1 (n1+n2)){Q:Bool->SortSt->Prop}
  (h:∀ st',SrI kd r Ok L st'->(pendingOf st').size<=1->((arrOf st').toList.Pairwise λx y=>r x<=r y)->Q true st'):W _ (bb4 0) Q st:=by
 refine bd (gt ?_);have e0:(pendingOf st)[0]?=some (0,n1,p):=by rw[hp];rfl
 have e1:(pendingOf st)[0+1]?=some (n1,n2,q):=by rw[hp];rfl
 rw[e0,e1];refine bd (bq7 @md λst1 hst=>?_)
 have I1:SrI kd r Ok L st1/\arrOf st1=arrOf st/\(pendingOf st1).size<=1:=by
  subst hst;refine⟨⟨I.k,I.f,I.p,I.o,I.d⟩,rfl,?_⟩;show(((pendingOf st).setIfInBounds 0 (0,n1+n2,p)).eraseIdxIfInBounds (0+1)).size<=1;rw[hp];simp
 clear hst;have hk1:=I1.1.k;have zz:(arrOf st).size=n1+n2:=I.size.trans hn.symm;have zl:(arrOf st).toList.length=n1+n2:=ao.trans zz;have i1:n1<(arrOf st).size:=by rw[zz];exact fK p2
 have i2:n1-1<(arrOf st).size:=t6 p1 (aK i1);have fA:((arrOf st).toList.take n1).Pairwise λx y=>r x<=r y:=s1.list (by rw[bC];exact aK i1)
 have fB:((arrOf st).toList.drop n1).Pairwise λx y=>r x<=r y:=by have:=s2.list (bf zz.symm);rwa[bA (by rw[bX,zl,cE];exact aC _)] at this
 have hA:∀ x∈(arrOf st).toList.take n1,r x<=r (arrOf st)[n1-1]:=cb9 fA (by rw[ao];exact i2) p1
 have hB:∀ y∈(arrOf st).toList.drop n1,r (arrOf st)[n1]<=r y:=aX1 fB (by rw[ao];exact i1)
 have g:∀ i (hi:i<(arrOf st).size),(arrOf st)[i]?=some (arrOf st)[i]/\Ok (arrOf st)[i]:=λi hi=>⟨aG hi,I.ok hi⟩
 have okm:∀ x∈(arrOf st).toList,Ok x:=λx hx=>I.o x (I.p.mem_iff.mp hx)
 have whole:(∀ x∈(arrOf st).toList.take n1,∀ y∈(arrOf st).toList.drop n1,r x<=r y)->Q true st1:=λq=>h st1 I1.1 I1.2.2 (by
  rw[I1.2.1,<- bW n1 (arrOf st).toList];exact bb.mpr ⟨fA,fB,q⟩)
 refine L6 @pu @bd @mo @fr @lt (S:=(arrOf st).toList.take n1) hk1 (g n1 i1) (Y8 (aK i1)) (λi hi=>ak2 hi) (λx hx=>okm x (bx hx)) fA p1 λk hk hyes hno=>?_
 have hyes:∀ x∈(arrOf st).toList.take k,r x<=r (arrOf st)[n1]:=λx hx=>bM.mp (hyes x (by rw[dI,bt hk];exact hx))
 have hno:∀ x∈((arrOf st).toList.take n1).drop k,r (arrOf st)[n1]<=r x:=λx hx=>bY (da.mp (hno x hx))
 refine sIt (λe=>pu (whole λx hx y hy=>?_)) λe=>?_
 ·exact bw (hyes x (by rw[aZ hk (cr (beq_iff_eq.mp e))];exact hx)) (hB y hy)
 have hk':k<n1:=ca hk λq=>e (beq_iff_eq.mpr (by rw[q];exact cS _))
 have ek:0+k+(n1-k)-1=n1-1:=by rw[bC,cO hk]
 refine L6 @pu @bd @mo @fr @lt (S:=(arrOf st).toList.drop n1) hk1 (key:=(arrOf st)[n1-1]) (by rw[ek];exact g (n1-1) i2) (by rw[bX,zl];exact cE ..) (λi z_=>aj9 _ _ i) (λx hx=>okm x (bN hx)) fB (cW p2 cy) λnb hnb hyes2 hno2=>?_
 have hyes2:∀ x∈((arrOf st).toList.drop n1).take nb,r x<=r (arrOf st)[n1-1]:=λx hx=>bY (hyes2 x hx)
 have hno2:∀ x∈((arrOf st).toList.drop n1).drop nb,r (arrOf st)[n1-1]<=r x:=λx hx=>bM.mp (hno2 x hx)
 refine sIt (λe=>pu (whole λx hx y hy=>?_)) λe=>?_
 ·exact bw (hA x hx) (hno2 y (by rw[show nb=0 from beq_iff_eq.mp e];exact hy))
 have hnb0:0<nb:=J7 e;have eX:((arrOf st).extract (0+k) n1).toList=((arrOf st).toList.take n1).drop k:=by rw[bC,cB,bU,<- gn]
 have eY:((arrOf st).extract n1 (n1+nb)).toList=((arrOf st).toList.drop n1).take nb:=aA0 _ _ _;have tk:((arrOf st).toList.take n1).take k=(arrOf st).toList.take k:=by rw[dI,bt hk]
 have zA:(arrOf st).toList.take k++((arrOf st).toList.take n1).drop k=(arrOf st).toList.take n1:=by rw[<- tk];exact bW _ _
 have zB:((arrOf st).toList.drop n1).take nb++((arrOf st).toList.drop n1).drop nb=(arrOf st).toList.drop n1:=bW _ _
 extract_lets x y jp
 have hjp:∀ (m:Array Keyed) st2,EnL r st1 (x.toList++y.toList) m st2->W _ (jp m) Q st2:=λm st2 f=>by
  have l:=f.1;have fm:Fine r (((arrOf st).toList.take n1).drop k++((arrOf st).toList.drop n1).take nb) m.toList:=by rw[<- eX,<- eY];exact f.2
  have sp:(arrOf st).toList=(arrOf st).toList.take k++((((arrOf st).toList.take n1).drop k++((arrOf st).toList.drop n1).take nb)++((arrOf st).toList.drop n1).drop nb):=by
   rw[aH,<- aH,zA,zB];exact(bW _ _).symm
  have ff:=bH2 (by rw[zA];exact fA) (by rw[zB];exact fB) hyes (by rw[zB];exact hB) (by rw[zA];exact hA) hno2 fm
  rw[<- sp] at ff;refine bd (T8 @md λst3 hst3=>bd (gt ?_))
  have ea:(arrOf st3).toList=(arrOf st).toList.take k++(m.toList++((arrOf st).toList.drop n1).drop nb):=by
   rw[hst3];refine bY5 m.toList _ ((arrOf st).toList.take k) (((arrOf st).toList.drop n1).drop nb) 0 (0+k) (arrOf st2) (by rw[l.a,I1.2.1];exact sp) ?_ fm.p.length_eq.symm
   rw[bC];exact Y8 (ae hk (aK i1))
  have I3:SrI kd r Ok L st3:=⟨(by rw[hst3];exact l.k.trans hk1),(by rw[hst3];exact l.f.trans I1.1.f),by rw[ea];exact ff.p.trans I.p,I.o,I.d⟩
  have e3:failedOf st3=none:=I3.f;show W _ (pure (failedOf st3).isNone) Q st3;rw[e3];exact pu (h st3 I3 (by rw[hst3];show(pendingOf st2).size<=1;rw[l.p];exact I1.2.2) (by rw[ea];exact ff.s))
 clear_value jp
 have zX:x.size=n1-k:=by rw[gR,bt (aK i1),bC]
 have zY:y.size=nb:=by rw[gR,bt (by rw[zz];exact aV hnb n1),cE]
 have hX:0<x.size:=by rw[zX];exact bP hk'
 have hY:0<y.size:=by rw[zY];exact hnb0
 have oX:∀ z∈x.toList,Ok z:=λz hz=>by rw[eX] at hz;exact okm z (bx (bN hz))
 have oY:∀ z∈y.toList,Ok z:=λz hz=>by rw[eY] at hz;exact okm z (bN (bx hz))
 have sX:x.toList.Pairwise λx y=>r x<=r y:=by rw[eX];exact fA.sublist (dM _ _)
 have sY:y.toList.Pairwise λx y=>r x<=r y:=by rw[eY];exact fB.sublist (cZ _ _)
 have hX0:∀ z∈x.toList,r y[0]<=r z:=λz hz=>by rw[eX] at hz;rw[gu];exact hno z hz
 have lX:r (x[x.size-1]'(t6 hX (aC _)))=r (arrOf st)[n1-1]:=by
  rw[gu]
  congr 2
  rw[zX,bC,<- Nat.add_sub_assoc (bP hk'),cO hk]
 have hYl:∀ w∈y.toList,r w<=r (x[x.size-1]'(t6 hX (aC _))):=λw hw=>by rw[lX];rw[eY] at hw;exact hyes2 w hw
 refine sIt (λz_=>?_) λz_=>?_
 ·refine bd (mlo @pu @bd @mo @md @gt @rl @fr @lt hk1 oX oY hX hY sX sY hX0 (λi hi z hz w hw=>bw (hYl w hw) (bh5 sX hX hi z hz)) hjp)
 ·exact bd (mhi @pu @bd @mo @md @gt @rl @fr @lt hk1 oX oY hX hY sX sY hX0 hYl hjp)
end
noncomputable def bQ4:Nat->Nat->Nat->Nat:=sortPriv% PySem.Builtin.minRun
section
variable{W:WT}{kd:SortKind}{r:Keyed->Int}{Ok:Keyed->Prop}{L:List Keyed}{st:SortSt}
theorem bz4{n:Nat}(h:n<=64):bQ4 n n 0=if n<64 then n else 32:=by
 by_cases e:n<64
 ·rw[if_pos e]
  cases n with
  | zero=>rfl
  | succ m=>
   show(if m+1<64 then m+1+0 else _)=m+1
   rw[if_pos e]
 ·rw[aZ h (bg.mp e)];rfl
theorem bg1{α:Type}{P:Array α}{x:α}{f:α->α}(h:P=#[x]):P.modify (P.size-1) f=#[f x]:=by
 subst h;simp
def Z5(r:Keyed->Int)(n:Nat)(st:SortSt):Prop:=(pendingOf st=#[(0,n,0)]/\RS r (arrOf st) 0 (0+n))∨
 ∃ n1 n2 p q,pendingOf st=#[(0,n1,p),(n1,n2,q)]/\0<n1/\0<n2/\n1+n2=n/\RS r (arrOf st) 0 (0+n1)/\RS r (arrOf st) n1 (n1+n2)
def cc2(r:Keyed->Int)(n mr lo:Nat)(st:SortSt):Prop:=pendingOf st=#[(0,lo,0)]/\RS r (arrOf st) 0 (0+lo)/\1<=lo/\lo<=n/\min n mr<=lo
def sPh(r:Keyed->Int)(n mr x lo:Nat)(st:SortSt):Prop:=(x=0/\lo=0/\pendingOf st=#[])∨(x=1/\cc2 r n mr lo st)∨(lo=n/\Z5 r n st)
def sRn(kd:SortKind)(r:Keyed->Int)(Ok:Keyed->Prop)(L:List Keyed)(st:SortSt)(mr lo n:Nat)(st2:SortSt):Prop:=
 SrI kd r Ok L st2/\pendingOf st2=pendingOf st/\RS r (arrOf st2) lo (lo+n)/\(∀ i,i<lo->kf r (arrOf st2) i=kf r (arrOf st) i)/\1<=n/\n<=L.length-lo/\min (L.length-lo) mr<=n
theorem bA5{n lo m:Nat}(h:n<=64)(h3:min n (if n<64 then n else 32)<=lo)(hl:lo<n)(h4:m<=n-lo)(h5:min (n-lo) (if n<64 then n else 32)<=m):lo+m=n:=by
 by_cases q:n<64
 ·rw[if_pos q,dE] at h3;exact absurd hl (bg.mpr h3)
 ·rw[if_neg q] at h3 h5
  obtain rfl:n=64:=aZ h (bg.mp q);have h3:32<=lo:=h3;rw[bt (cF h3 64)] at h5;rw[aZ h4 h5,cO (aK hl)]
theorem bu3(pu:sPu W)(bd:sBd W)(mo:sMo W)(md:sMd W)(gt:sGt W)(rl:sRl W)(fr:sFr W)(lt:sLt W kd r Ok)(I:SrI kd r Ok L st)(hp:pendingOf st=#[])(h2:2<=L.length)(h64:L.length<=64){Q:Unit->SortSt->Prop}(h:∀ st',SrI kd r Ok L st'->((arrOf st').toList.Pairwise λx y=>r x<=r y)->Q () st'):W _ aN8 Q st:=by
 refine bd (gt ?_)
 extract_lets size minrun lo
 have hsz:size=L.length:=I.size;have hmr:minrun=if L.length<64 then L.length else 32:=by rw[<- hsz];exact bz4 (by rw[hsz];exact h64)
 clear_value size minrun
 subst hsz;refine frX @fr @mo @bd (λx lo st'=>SrI kd r Ok L st'/\sPh r L.length minrun x lo st') (λz_ st'=>SrI kd r Ok L st'/\Z5 r L.length st') (λz_ z_=>False) ⟨I,.inl ⟨rfl,rfl,hp⟩⟩ (λx lo st' T z_ kd' ky z_ hx hg=>?_) (fun{lo st'} q=>⟨q.1,?_⟩) (λz_ z_ z_ q=>q.elim) λlo st' hg=>?_
 ·refine sIt (λe=>pu (kd' ⟨hg.1,?_⟩)) λe=>?_
  ·have e:L.length<=lo:=e
   rcases hg.2 with q | q | q
   ·exact absurd (ae h2 (q.2.1▸e)) (by decide)
   ·exact .inl (by rw[aZ e q.2.2.2.2.1];exact⟨q.2.1,q.2.2.1⟩)
   ·exact q.2
  have e:lo<L.length:=Nat.lt_of_not_le e;have el:=cO (aK e);have hl1:1<=L.length-lo:=bP e;refine bd (bG8 @pu @bd @mo @md @gt @rl @fr @lt hg.1 (lo:=lo) (nrem:=L.length-lo) el hl1 λn st2 hn1 hn2 I2 hp2 hs2 hl2=>?_)
  dsimp -zeta -zetaHave only
  extract_lets n' jp force
  have hjp:∀ n st2,sRn kd r Ok L st' minrun lo n st2->W _ (jp () n) T st2:=λn st2 g=>by
   refine bd (gt ?_);rcases hg.2 with q | q | q
   ·rw[show(pendingOf st2).back?=none by rw[g.2.1,q.2.2];rfl]
    refine bd (T8 @md λst3 hst3=>pu (ky ?_))
    have el0:lo=0:=q.2.1;refine⟨⟨by rw[hst3];exact g.1.k,by rw[hst3];exact g.1.f,by rw[hst3];exact g.1.p,g.1.o,g.1.d⟩,.inr (.inl ⟨by rw[q.1],?_⟩)⟩
    refine⟨?_,?_,ae g.2.2.2.2.1 (aQ _ _),ae (aV g.2.2.2.2.2.1 lo) (bf el),?_⟩
    ·rw[hst3];show(pendingOf st2).push (lo,n,0)=_;rw[g.2.1,q.2.2,el0,bC];rfl
    ·rw[hst3];show RS r (arrOf st2) 0 _;have:=g.2.2.1;rw[el0] at this ⊢;rw[bC] at this ⊢;rw[bC];exact this
    ·have:=g.2.2.2.2.2.2;rw[el0] at this ⊢;rw[bC];exact this
   ·rw[show(pendingOf st2).back?=some (0,lo,0) by rw[g.2.1,q.2.1];rfl]
    have hn:lo+n=L.length:=bA5 h64 (hmr▸q.2.2.2.2.2) e g.2.2.2.2.2.1 (hmr▸g.2.2.2.2.2.2);refine frC @fr @mo @bd (λz_ z_=>True) (λz_=>True) trivial (λx c T k1 z_ z_ z_ z_=>bd (gt ?_)) (λq=>q) λz_ z_=>?_
    ·extract_lets p
     have ep:p=#[(0,lo,0)]:=g.2.1.trans q.2.1
     clear_value p
     subst ep;exact pu (k1 trivial)
    ·refine bd (T8 @md λst4 hst4=>bd (T8 @md λst5 hst5=>pu (ky ?_)))
     have e8:∃ p,pendingOf st4=#[(0,lo,p)]:=⟨_,(congrArg (λs:SortSt=>pendingOf s) hst4).trans (bg1 (f:=λx=>(x.1,x.2.1,_)) (g.2.1.trans q.2.1))⟩
     refine⟨⟨by rw[hst5,hst4];exact g.1.k,by rw[hst5,hst4];exact g.1.f,by rw[hst5,hst4];exact g.1.p,g.1.o,g.1.d⟩,.inr (.inr ⟨hn,.inr ?_⟩)⟩
     obtain⟨p,e8⟩:=e8;refine⟨lo,n,p,0,by rw[hst5];show(pendingOf st4).push _=_;rw[e8];rfl,q.2.2.2.1,g.2.2.2.2.1,hn,λi j hi hij hj=>?_,by rw[hst5,hst4];exact g.2.2.1⟩
     have hj':j<lo:=by rwa[bC] at hj
     rw[hst5,hst4];show kf r (arrOf st2) i<=kf r (arrOf st2) j;rw[g.2.2.2.1 i (aM hij hj'),g.2.2.2.1 j hj'];exact q.2.2.1 i j hi hij hj
   ·exact absurd e (bg.mpr (bf q.1.symm))
  clear_value jp
  refine sIt (λq=>?_) λq=>?_
  ·have q:n<minrun:=q
   have hf:force=min (L.length-lo) minrun:=rfl
   clear_value force
   have f1:force<=L.length-lo:=hf▸be _ _;have f2:n<=force:=hf▸fw.mpr ⟨hn2,aK q⟩;refine bd (rl (bd (aT8 @pu @bd @mo @md @gt @fr @lt I2 (lo:=lo) (n:=force) (ok:=n) (ae (aV f1 lo) (bf el)) f2 (ae hn1 f2) hs2 λst3 I3 hp3 hs3 hl3=>?_)))
   exact hjp _ _ ⟨I3,hp3.trans hp2,hs3,λi hi=>(hl3 i hi).trans (hl2 i hi),ae hn1 f2,f1,bf hf.symm⟩
  ·have q:¬n<minrun:=q
   exact hjp n st2 ⟨I2,hp2,hs2,hl2,hn1,hn2,ae (cm _ _) (bg.mp q)⟩
 ·rcases q.2 with q | q | q
  ·exact absurd (ae h2 (bf ((bZ (aE _)).symm.trans q.1))) (by decide)
  ·exact absurd (ae h2 (bf ((bZ (aE _)).symm.trans q.1))) (by decide)
  ·exact q.2
 ·have ones:∀ {st'},SrI kd r Ok L st'->RS r (arrOf st') 0 (0+L.length)->((arrOf st').toList.Pairwise λx y=>r x<=r y):=fun{st'} I s=>by
   have:=s.list (by rw[I.size,bC];exact aC _)
   rwa[gg,bA (by rw[ao,I.size];exact aC _)] at this
  refine frX @fr @mo @bd (λx z_ st'=>SrI kd r Ok L st'/\((x=0/\Z5 r L.length st')∨((pendingOf st').size<=1/\((arrOf st').toList.Pairwise λx y=>r x<=r y)))) (λz_ st'=>SrI kd r Ok L st'/\((arrOf st').toList.Pairwise λx y=>r x<=r y)) (λz_ z_=>False) ⟨hg.1,.inl ⟨rfl,hg.2⟩⟩ (λx c st' T z_ kd' ky z_ hx hg=>?_) (fun{c st'} q=>⟨q.1,?_⟩) (λz_ z_ z_ q=>q.elim) λc st' q=>pu (h st' q.1 q.2)
  ·refine bd (gt ?_)
   have one:(pendingOf st').size<=1->((arrOf st').toList.Pairwise λx y=>r x<=r y):=λz=>by
    rcases hg.2 with q | q
    ·rcases q.2 with q | ⟨n1,n2,p,q',e,-⟩
     ·exact ones hg.1 q.2
     ·rw[e] at z;exact absurd z (gz 1)
    ·exact q.2
   refine sIt (λe=>pu (kd' ⟨hg.1,one e⟩)) λe=>?_
   extract_lets i before j
   rcases hg.2 with q | q
   ·rcases q.2 with q | ⟨n1,n2,p,q',e1,e2,e3,e4,e5,e6⟩
    ·exact absurd (show(pendingOf st').size<=1 by rw[q.1];exact aC _) e
    ·have ej:j=0:=by
      have ei:i=0:=by show(pendingOf st').size-2=0;rw[e1];rfl
      show(if _ then i-1 else i)=0
      rw[ei];split<;>rfl
     clear_value j
     subst ej;exact bd (bZ3 @pu @bd @mo @md @gt @rl @fr @lt hg.1 e1 e2 e3 e4 e5 e6 λst2 I2 z s=>pu (ky ⟨I2,.inr ⟨z,s⟩⟩))
   ·exact absurd q.1 e
  ·rcases q.2 with q | q
   ·exact absurd (ae h2 (bf ((bZ (aE _)).symm.trans q.1))) (by decide)
   ·exact q.2
end
noncomputable def tp(p:Int×Int):V:=.tup [.int p.1,.int p.2]
noncomputable def leP(p q:Int×Int):Prop:=p.1*1000+p.2<=q.1*1000+q.2
theorem Q5{h:Heap}{v:Value}{p:Int×Int}(a:Rep h v (tp p)){C:Prop}(k:∀ (c:Addr) (vs:Array Value) (n:Nat) (t u:Tok),v=.ref c->h.get? c=some (seqObj "tuple" vs n)->vs.toList=[.int p.1 t,.int p.2 u]->C):C:=by
 refine l5 a.ofTup λc vs n e ho r=>?_
 refine f7 r.two λx y e3 r1 r2=>?_
 refine c5 r1.ofInt λt q1=>?_
 refine c5 r2.ofInt λu q2=>?_
 exact k c vs n t u e ho (by rw[e3,q1,q2])
theorem bc8{h:Heap}{v:Value}{p q:Int×Int}(a:Rep h v (tp p))(b:Rep h v (tp q)):p=q:=by
 refine Q5 a λc vs n t u e ho e1=>?_
 refine Q5 b λc' us m t' u' e' ho' e2=>?_
 rw[Value.ref.inj (e.symm.trans e'),ho'] at ho;rw[<- (Data.seq.inj (congrArg Obj.data (Option.some.inj ho))).1,e2] at e1;injection e1 with q1 e1
 injection e1 with q2 e1
 exact Prod.ext (Value.int.inj q1).1.symm (Value.int.inj q2).1.symm
open Classical in
noncomputable def pv(h:Heap)(v:Value):Int×Int:=if e:∃ p,Rep h v (tp p) then e.choose else(0,0)
theorem U7{h:Heap}{v:Value}{p:Int×Int}(a:Rep h v (tp p)):pv h v=p:=by
 unfold pv;have e:∃ p,Rep h v (tp p):=⟨p,a⟩;rw[dif_pos e];exact bc8 e.choose_spec a
noncomputable def prk(h:Heap)(x:Keyed):Int:=(pv h x.1).1*1000+(pv h x.1).2
def OkP(h:Heap)(x:Keyed):Prop:=∃ p:Int×Int,0<=p.2/\p.2<1000/\Rep h x.1 (tp p)
section
variable{prog:Program}{w:World}{A:Around}{E:Value->Shared->Prop}{s:Shared}
theorem bV9{a b:Int}{t u:Tok}{Q:Bool->Shared->Prop}(h:Q (decide (a<b)) s):wpAny (model prog w) A (oneLt' false (.int a t) (.int b u)) Q E s:=by
 rw[oneLt'_eq];exact wpAny_bind (wpAny_richCompare_same (typeIs_int s a t) (typeIs_int s b u) slot_int_lt (call_int_lt ⟨by simp,wpAny_truthy_bool h⟩))
theorem bp3{p q:Int×Int}(hp:0<=p.2/\p.2<1000)(hq:0<=q.2/\q.2<1000)(e:p.1*1000+p.2=q.1*1000+q.2):p=q:=Prod.ext (by lia) (by lia)
theorem bY3{a b c d:Int}(h1:0<=b)(h2:b<1000)(h3:0<=d)(h4:d<1000)(h:a≠c):a*1000+b<c*1000+d↔a<c:=by lia
theorem bb6{x y:Value}{p q:Int×Int}{R:Bool->Shared->Prop}(rp:Rep s.heap x (tp p))(rq:Rep s.heap y (tp q))(p1:0<=p.2)(p2:p.2<1000)(q1:0<=q.2)(q2:q.2<1000)(yes:p.1*1000+p.2<q.1*1000+q.2->R true s)(no:¬ p.1*1000+p.2<q.1*1000+q.2->R false s) :
  wpAny (model prog w) A (keyLt' (tuples' true) x y) R E s:=by
 refine Q5 rp λc vs n t u e ho e1=>?_
 refine Q5 rq λc' us m t' u' e' ho' e2=>?_
 rw[e,e'];have dec:∀ {P:Prop} [Decidable P],(P↔p.1*1000+p.2<q.1*1000+q.2)->R (decide P) s:=fun{P} _ k=>by
  by_cases z:P
  ·rw[decide_eq_true z];exact yes (k.mp z)
  ·rw[decide_eq_false z];exact no λw=>z (k.mpr w)
 refine PySem.W.kat_lt ho rfl ho' rfl ?_;rw[e1,e2,<- ao,e1,<- ao,e2];refine PySem.W.kat_cons (wpAny_eqBool_int (PySem.W.kat_go (λz=>PySem.W.kat_yes (PySem.W.kat_cons (wpAny_eqBool_int (PySem.W.kat_go (λz2=>PySem.W.kat_yes (PySem.W.kat_nil ?_)) λz2=>PySem.W.kat_no (bV9 ?_))))) λz=>PySem.W.kat_no (oneLt_int ?_)))
 ·refine no λk=>?_
  rw[beq_iff_eq.mp z,beq_iff_eq.mp z2] at k;exact cU _ k
 ·exact dec (by rw[beq_iff_eq.mp z];exact(Int.add_lt_add_iff_left _).symm)
 ·exact dec (bY3 p1 p2 q1 q2 (beq_eq_false_iff_ne.mp z)).symm
abbrev wSo(Ma:Model)(A:Around)(E:Value->Shared->Prop)(s:Shared):WT:=λz_ m Q st=>wpS Ma A E s m Q st
theorem bn7:sLt (wSo (model prog w) A E s) (tuples' true) (prk s.heap) (OkP s.heap):=by
 intro x y st Q ox oy hk yes no;obtain⟨p,p1,p2,rp⟩:=ox;obtain⟨q,q1,q2,rq⟩:=oy;unfold prk at yes no;rw[U7 rp,U7 rq] at yes no;refine wpS_bind (wpS_get (wpS_bind (wpS_lift (wpAny_attempt ?_))));have hk:gK st=tuples' true:=hk;show wpAny _ _ (keyLt' (gK st) _ _) _ _ _;rw[hk];exact bb6 rp rq p1 p2 q1 q2 (λz=>⟨rfl,wpS_pure (yes z)⟩) λz=>⟨rfl,wpS_pure (no z)⟩
theorem bq2{L:List Keyed}{st:SortSt}(I:SrI (tuples' true) (prk s.heap) (OkP s.heap) L st)(hp:pendingOf st=#[])(h2:2<=L.length)(h64:L.length<=64){Q:Unit->SortSt->Prop}(h:∀ st',SrI (tuples' true) (prk s.heap) (OkP s.heap) L st'->((arrOf st').toList.Pairwise λx y=>prk s.heap x<=prk s.heap y)->Q () st'):wpS (model prog w) A E s aN8 Q st:=
 bu3 (W:=wSo (model prog w) A E s) (λh=>wpS_pure h) (λh=>wpS_bind h) (λh k=>wpS_mono h k) (λh=>wpS_modify h) (λh=>wpS_get h) (λh=>wpS_lift (wpAny_rule ⟨rfl,h⟩)) (@λz_ z_ z_ z_ I z_ h1 h2 z_ z_ h=>wpS_forRange I h1 h2 h) bn7 I hp h2 h64 h
theorem bB6{vs:List Value}{ps:List (Int×Int)}(r:d3 s.heap vs (ps.map tp)):∃ fs,IntsAre fs (ps.map (·.1))/\PySem.W.KatTups s.heap vs fs:=by
 induction ps generalizing vs with
 | nil=>rw[r.ofNil];exact⟨[],.nil,.nil⟩
 | cons p ps ih=>
  refine f7 r.ofCons λv us e r1 r2=>?_
  refine Q5 r1 λc xs n t u e1 ho e2=>?_
  refine a9 (ih r2) λfs h1 h2=>?_
  rw[e,e1];exact⟨.int p.1 t::fs,.cons _ _ h1,.cons ho rfl rfl (by rw[<- aD,e2];rfl) h2⟩
theorem bi0{vs:List Value}{ps:List (Int×Int)}(r:d3 s.heap vs (ps.map tp))(hn:ps≠[]){Q:SortKind->Shared->Prop}(h:Q (tuples' true) s):wpAny (model prog w) A (keyKind' vs.toArray) Q E s:=by
 refine a9 (bB6 r) λfs hf ht=>?_
 refine PySem.W.kat_kind (T:=.type "int") ht ?_ (λv hv=>?_) (by decide) h
 ·cases fs with
  | nil=>cases ps with
   | nil=>exact absurd rfl hn
   | cons p ps=>cases hf
  | cons f k=>exact gQ _
 ·obtain⟨n,t,e⟩:=hf.all v hv
  rw[e];exact .now
theorem pw_short{α:Type}{R:α->α->Prop}{l:List α}(h:l.length<2):l.Pairwise R:=by
 cases l with
 | nil=>exact .nil
 | cons a l=>cases l with
  | nil=>exact .cons (λy hy=>by cases hy) .nil
  | cons b l=>exact absurd h (bg.mpr (aQ _ _))
theorem ao6{α:Type}{Ma:Model}{c:Prop}[Decidable c]{x y:Sem α}{Q:α->Shared->Prop}(h1:c->wpAny Ma A x Q E s)(h2:¬c->wpAny Ma A y Q E s):wpAny Ma A (if c then x else y) Q E s:=by
 by_cases e:c
 ·rw[if_pos e];exact h1 e
 ·rw[if_neg e];exact h2 e
theorem ar4{h:Heap}{vs:List Value}{ps:List (Int×Int)}(r:d3 h vs (ps.map tp)):vs.map (pv h)=ps:=by
 induction ps generalizing vs with
 | nil=>rw[r.ofNil];rfl
 | cons p ps ih=>obtain⟨v,us,rfl,r1,r2⟩:=r.ofCons;rw[dR,U7 r1,ih r2]
theorem ay4{h:Heap}{vs:List Value}{ps:List (Int×Int)}(r:d3 h vs (ps.map tp)){v:Value}(hv:v∈vs):∃ p∈ps,Rep h v (tp p):=by
 induction ps generalizing vs with
 | nil=>rw[r.ofNil] at hv;cases hv
 | cons p ps ih=>
  obtain⟨u,us,rfl,r1,r2⟩:=r.ofCons;rcases au.mp hv with rfl | q
  ·exact⟨p,bH ..,r1⟩
  ·obtain⟨p',hp,rp⟩:=ih r2 q;exact⟨p',aP _ hp,rp⟩
theorem bY0{a:Addr}{vs:List Value}{ps:List (Int×Int)}{n:Nat}{P:PySem.Fin->Shared->Prop}(ho:s.heap.get? a=some (seqObj "list" vs.toArray n))(r:d3 s.heap vs (ps.map tp))(hb:∀ p∈ps,0<=p.2/\p.2<1000)(hd:ps.Nodup)(h64:ps.length<=64)
  (h:∀ (out:Array Value) (ps':List (Int×Int)),d3 s.heap out.toList (ps'.map tp)->ps'.Perm ps->ps'.Pairwise leP->P (.done (.ret .none)) {s with heap:=sortedHeap s.heap a vs out}) :
  wpAny (model prog w) A (Builtin.«list.sort» ⟨[.ref a],[]⟩) P E s:=by
 have hlen:vs.length=ps.length:=by rw[r.length,ac]
 have ha:a<s.heap.objs.size:=aU ho;rw[list_sort_plain];refine wpAny_bind (listItems_at ho rfl ?_);refine wpAny_bind (listUpdate_at ho rfl ?_ (by rw[cC,hlen];exact ae h64 (by decide)))
 obtain⟨e1,ho1⟩:∃ e1,(s.heap.update a (bh λz_=>#[])).get? a=some (seqObj "list" #[] e1):=⟨_,get?_update_seq ho (λz_=>#[])⟩
 refine wpAny_bind (seqEpoch_at ho1 rfl ?_);refine wpAny_bind (wpAny_newTuple ?_ (by rw[hlen];exact ae h64 (by decide)))
 refine wpAny_bind (wpAny_newList ?_);refine wpAny_holding ?_;have ho6:(((s.heap.update a (bh λz_=>#[])).push (seqObj "tuple" vs.toArray 0)).push (seqObj "list" #[] 0)).get? a=some (seqObj "list" #[] e1):=
  an _ (an _ ho1)
 have tu:k9 s.heap (((s.heap.update a (bh λz_=>#[])).push (seqObj "tuple" vs.toArray 0)).push (seqObj "list" #[] 0)):=λb xs m e=>by
  have hb:b≠a:=λq=>by rw[q,ho] at e;have:=congrArg Obj.cls (Option.some.inj e);simp at this
  exact an _ (an _ (by rw[eN _ _ _ _ hb];exact e))
 show wpAny (model prog w) A _ P E {s with heap:=((s.heap.update a (bh λz_=>#[])).push (seqObj "tuple" vs.toArray 0)).push (seqObj "list" #[] 0)}
 generalize hH:((s.heap.update a (bh λz_=>#[])).push (seqObj "tuple" vs.toArray 0)).push (seqObj "list" #[] 0)=H6 at ho6 tu ⊢
 have fin:∀ xs:Array Keyed,xs.toList.Perm (vs.zip vs)->(xs.toList.Pairwise λx y=>prk H6 x<=prk H6 y)->P (.done (.ret .none)) {s with heap:=H6.update a (bh λz_=>xs.map (·.2))}:=λxs hp hs=>by
  have:=h (xs.map (·.2)) (xs.toList.map λx=>pv H6 x.1) ?_ ?_ ?_
  ·unfold sortedHeap at this;rw[hH] at this;exact this
  ·have hm:∀ x∈xs.toList,Rep s.heap x.2 (tp (pv H6 x.1)):=λx hx=>by
    obtain⟨e,hv⟩:=mem_zip_self (hp.mem_iff.mp hx);obtain⟨p,hp',rp⟩:=ay4 r hv;rw[U7 (rp.mono tu),<- e];exact rp
   rw[Array.toList_map];generalize xs.toList=l at hm;induction l with
   | nil=>exact .nil
   | cons x l ih=>exact .cons (hm x (bH ..)) (ih λy hy=>hm y (aP _ hy))
  ·have h1:=hp.map λx=>pv H6 x.1
   have e2:(vs.zip vs).map (λx=>pv H6 x.1)=ps:=by
    have:(vs.zip vs).map (λx=>pv H6 x.1)=((vs.zip vs).map Prod.fst).map (pv H6):=by rw[bI];rfl
    rw[this,List.map_fst_zip (aC _),ar4 (r.mono tu)]
   rwa[e2] at h1
  ·rw[cD];exact hs
 extract_lets jp0 jp
 have hjp:∀ kd:SortKind,(2<=vs.length->kd=tuples' true)->wpAny (model prog w) A (jp kd) P E {s with heap:=H6}:=λkd hkd=>by
  refine wpAny_bind (wpAny_mono (Q:=λr s'=>s'={s with heap:=H6}/\(arrOf r.2).toList.Perm (vs.zip vs)/\failedOf r.2=none/\((arrOf r.2).toList.Pairwise λx y=>prk H6 x<=prk H6 y)) ?_ ?_ λz_ z_ e=>e)
  ·by_cases h2:vs.toArray.size<2
   ·rw[if_pos h2,StateT.run_pure]
    refine wpAny_pure ⟨rfl,?_,rfl,?_⟩
    ·show(pairsOf vs).toList.Perm _
     rw[pairsOf_toList]
    ·show(pairsOf vs).toList.Pairwise _
     rw[pairsOf_toList];rw[cC] at h2;exact pw_short (by rw[eK,dE];exact h2)
   ·rw[if_neg h2]
    rw[cC] at h2;have e:kd=tuples' true:=hkd (bg.mp h2);refine bq2 (A:=A) (E:=E) (Q:=λz_ st'=>(arrOf st').toList.Perm (vs.zip vs)/\failedOf st'=none/\((arrOf st').toList.Pairwise λx y=>prk H6 x<=prk H6 y)) (L:=vs.zip vs) (st:=SortSt.mk' kd (vs.toArray.zip vs.toArray) #[] 7 none) ⟨e,rfl,?_,λx hx=>?_,?_⟩ rfl (by rw[eK,dE];exact bg.mp h2) (by rw[eK,dE,hlen];exact h64) λst' I hs=>⟨I.p,I.f,hs⟩
    ·show(pairsOf vs).toList.Perm _
     rw[pairsOf_toList]
    ·obtain⟨p,hp,rp⟩:=ay4 r (mem_zip_self hx).2
     exact⟨p,(hb p hp).1,(hb p hp).2,rp.mono tu⟩
    ·have e3:(vs.zip vs).map (prk H6)=ps.map λp=>p.1*1000+p.2:=by
      have:(vs.zip vs).map (prk H6)=(((vs.zip vs).map Prod.fst).map (pv H6)).map λp=>p.1*1000+p.2:=by rw[bI,bI];rfl
      rw[this,List.map_fst_zip (aC _),ar4 (r.mono tu)]
     show((vs.zip vs).map (prk H6)).Nodup;rw[e3];refine cD.mpr (List.Pairwise.imp_of_mem (fun{p q} hp hq hne e=>hne ?_) hd)
     exact bp3 (hb p hp) (hb q hq) e
  ·rintro⟨⟨⟩,st'⟩ s' ⟨rfl,hp,hf,hs⟩
   refine wpAny_bind (seqEpoch_at ho6 rfl ?_);refine wpAny_bind (listUpdate_at ho6 rfl ?_ (hsz2:=by
    show((arrOf st').map _).size<=_;rw[Array.size_map,<- ao,hp.length_eq,eK,dE,hlen];exact ae h64 (by decide)))
   show wpAny _ _ (match failedOf st' with | some e=>_ | x=>_) _ _ _
   rw[hf];refine ao6 (λe=>absurd e (by simp)) λz_=>?_
   exact wpAny_pure (fin _ hp hs)
 clear_value jp
 refine ao6 (λe=>wpAny_bind (wpAny_pure (hjp _ λq=>?_))) λe=>wpAny_bind (bi0 (r.mono tu) ?_ (hjp _ λz_=>rfl))
 ·rw[cC] at e;lia
 ·rintro rfl;rw[cC,hlen] at e;simp at e
end
section
variable{g:G}{F:Blk}{Z:List (Option V)}{M:Hp}{Q:V->Hp->Prop}{X:Str->Hp->Prop}
theorem bI2{h:Heap}{a:Addr}{vs:List Value}{out:Array Value}{n:Nat}(ho:h.get? a=some (seqObj "list" vs.toArray n)):k9 h (sortedHeap h a vs out):=λb xs m e=>
 (sortedHeap_old (λq=>by rw[q,ho] at e;have:=congrArg Obj.cls (Option.some.inj e);simp at this) (aU e)).trans e
theorem cg3{a:Addr}{ps:List (Int×Int)}(hM:M a=some (.lst (ps.map tp)))(hb:∀ p∈ps,0<=p.2/\p.2<1000)(hd:ps.Nodup)(h64:ps.length<=64)(h:∀ b (ps':List (Int×Int)),M b=none->ps'.Perm ps->ps'.Pairwise leP->Q (.ref b) (upd M b (.lst (ps'.map tp)))) :
  Cl g F (.builtin "sorted") [.ref a] Z M Q X:=(λA env s vs I rs=>by
  obtain⟨_,rfl,r0⟩:=rs.one;obtain rfl:=r0.ofRef;obtain⟨items,hp,r⟩:=(I.sim.objs a _ hM).1;have hl:s.heap.IsList a items.toList.toArray:=by rw[eE];exact hp.isList
  have hz:items.toList.length<=sizeLine:=by rw[r.length,ac];exact ae h64 (by decide)
  refine fu kind_sorted plain_sorted entry_sorted (args_sorted1 _) ?_;unfold Builtin.«sorted»;refine wpAny_bind (m:=checkCount "sorted" 1 1 _) (wpAny_pure ?_);refine wpAny_bind (collect_list hl ?_ hz);have x1:∀ b o,s.heap.get? b=some o->((s.heap.push (seqObj "list" #[] 0)).update s.heap.objs.size (bh (· ++ items.toList.toArray))).get? b=some o:=λb o e=>by
   rw[eN _ _ _ _ (br (aU e))];exact an _ e
  have x0:s.heap.objs.size<=((s.heap.push (seqObj "list" #[] 0)).update s.heap.objs.size (bh (· ++ items.toList.toArray))).objs.size:=by rw[Heap.size_update,size_push'];lia
  generalize (s.heap.push (seqObj "list" #[] 0)).update s.heap.objs.size (bh (· ++ items.toList.toArray))=H1 at x1 x0 ⊢
  refine wpAny_bind (wpAny_newList ?_ hz);have hoL:(H1.push (seqObj "list" items.toList.toArray 0)).get? H1.objs.size=some (seqObj "list" items.toList.toArray 0):=aB _ rfl;have x2:k9 s.heap (H1.push (seqObj "list" items.toList.toArray 0)):=λb z_ z_ e=>an _ (x1 b _ e)
  refine wpAny_bind (wpAny_holding (wpAny_call_entry slot_list_sort ⟨_,hoL,rfl⟩ entry_list_sort (bY0 hoL (r.mono x2) hb hd h64 λout ps' hr hperm hpw=>⟨_,rfl,?_⟩) (args_list_sort _)))
  refine wpAny_pure ⟨_,rfl,?_⟩;obtain⟨e,he⟩:=sortedHeap_at (out:=out) (vs:=items.toList) (n:=0) hoL;have x3:Ext s {s with heap:=sortedHeap (H1.push (seqObj "list" items.toList.toArray 0)) H1.objs.size items.toList out}:=⟨λb o e=>by
   have hlt:=aU (x1 b o e);show(sortedHeap _ _ _ _).get? b=some o;rw[sortedHeap_old (br hlt) (by rw[size_push'];exact bE hlt)]
   exact an _ (x1 b o e),rfl,rfl⟩
  have x5:=hr.mono (bI2 (out:=out) hoL);exact O7 (Q:=Q) (c:=H1.objs.size) (l:=ps'.map tp) I x3 (az1 x0) he x5 λb hb=>h b ps' hb hperm hpw)
end
noncomputable def szs:List (Str×Int):=[("number",2),("paper",2),("line",2),("earlier",2),("add",3),("take",3),("least",3),("most",3),("part",3),("table",3),("where",4),("choose",4)]
noncomputable def siz(w:Str):Option Int:=szs.lookup w
noncomputable def E5:Str:="abcdefghijklmnopqrstuvwxyz"
noncomputable def m8(v:V)(lo hi:Int):Bool:=match v with
 | .int i=>decide (lo<=i)&&decide (i<=hi)
 | _=>false
noncomputable def j7(x:Str):Bool:=decide (1<=x.length)&&decide (x.length<=8)&&x.cps.toList.all λc=>Txt.contains E5 ⟨#[c]⟩
noncomputable def F6(v:V):Bool:=match v with
 | .str x=>j7 x
 | _=>false
noncomputable def Y5(w:Str):Bool:=[("number" : Str),"paper","line","earlier"].any (· == w)
noncomputable def f4(w:Str)(args:List V):List V:=
 if Y5 w then[] else if w == "part" then args.take 1 else if w == "table" || w == "choose" then args.drop 1 else args
noncomputable def arg(args:List V)(k:Nat):V:=(args[k]?).getD .none
structure Lim where
 L:Int
 T:Int
 C:Int
noncomputable def fit(z:Lim)(w:Str)(args:List V):Bool:=
 if w == "number" then m8 (arg args 0) (0-1000000000) 1000000000
 else if w == "paper" then F6 (arg args 0)
 else if w == "line" || w == "earlier" then m8 (arg args 0) 0 (z.L-1)
 else if w == "part" then m8 (arg args 1) 0 100
 else if w == "table" then m8 (arg args 0) 0 (z.T-1)
 else if w == "choose" then m8 (arg args 0) 0 (z.C-1)
 else true
noncomputable def ok(z:Lim):Nat->V->Bool
 | 0,_=>false
 | n+1,.tup (.str w::args)=>(siz w==some ((args.length:Int)+1))&&fit z w args&&(f4 w args).all (ok z n)
 | _+1,_=>false
noncomputable def d5:Nat->V->Str->List V
 | 0,_,_=>[]
 | n+1,.tup (.str w::args),u=>(if w==u then[arg args 0] else[])++((f4 w args).map λr=>d5 n r u).flatten
 | _+1,_,_=>[]
theorem L0(z:Lim)(n:Nat)(w:Str)(args:List V):ok z (n+1) (.tup (.str w::args))=((siz w==some ((args.length:Int)+1))&&fit z w args&&(f4 w args).all (ok z n)):=rfl
theorem B6(n:Nat)(w:Str)(args:List V)(u:Str):d5 (n+1) (.tup (.str w::args)) u=(if w==u then[arg args 0] else[])++((f4 w args).map λr=>d5 n r u).flatten:=rfl
theorem ff{P:Prop}(h:false=true):P:=(ag h).elim
theorem ci9{α β:Type}[BEq α][LawfulBEq α]{l:List (α×β)}{a:α}{b:β}(h:l.lookup a=some b):(a,b)∈l:=by
 induction l with
 | nil=>cases h
 | cons p l ih=>
  obtain⟨x,y⟩:=p;rw[bu] at h;cases hx:a==x with
  | true=>rw[hx] at h;replace h:=g8 h;subst h;rw[beq_iff_eq.mp hx];exact bH
  | false=>rw[hx] at h;exact aP _ (ih h)
theorem S7{w:Str}{n:Int}(h:siz w=some n):(w,n)∈szs:=ci9 h
class inductive GR (z:Lim) (see:Int->Prop) (wd:Str->Prop):Nat->V->Prop
 | num {d:Nat} {i:Int}:0-1000000000<=i->i<=1000000000->GR z see wd (d+1) (.tup [.str "number",.int i])
 | line {d:Nat} {i:Int}:see i->GR z see wd (d+1) (.tup [.str "line",.int i])
 | earlier {d:Nat} {i:Int}:0<=i->i<z.L->GR z see wd (d+1) (.tup [.str "earlier",.int i])
 | paper {d:Nat} {x:Str}:wd x->GR z see wd (d+1) (.tup [.str "paper",.str x])
 | part {d:Nat} {r:V} {i:Int}:GR z see wd d r->0<=i->i<=100->GR z see wd (d+1) (.tup [.str "part",r,.int i])
 | table {d:Nat} {r:V} {i:Int}:GR z see wd d r->0<=i->i<z.T->GR z see wd (d+1) (.tup [.str "table",.int i,r])
 | twol {d:Nat} {w:Str} {r t:V}:w∈[("add" : Str),"take","least","most"]->GR z see wd d r->GR z see wd (min d 2) t->GR z see wd (d+1) (.tup [.str w,r,t])
 | twor {d:Nat} {w:Str} {r t:V}:w∈[("add" : Str),"take","least","most"]->GR z see wd (min d 2) r->GR z see wd d t->GR z see wd (d+1) (.tup [.str w,r,t])
 | wherl {d:Nat} {r t u:V}:GR z see wd d r->GR z see wd (min d 2) t->GR z see wd (min d 2) u->GR z see wd (d+1) (.tup [.str "where",r,t,u])
 | wherr {d:Nat} {r t u:V}:GR z see wd (min d 2) r->GR z see wd d t->GR z see wd (min d 2) u->GR z see wd (d+1) (.tup [.str "where",r,t,u])
 | chol {d:Nat} {r t:V} {i:Int}:0<=i->i<z.C->GR z see wd d r->GR z see wd (min d 2) t->GR z see wd (d+1) (.tup [.str "choose",.int i,r,t])
 | chor {d:Nat} {r t:V} {i:Int}:0<=i->i<z.C->GR z see wd (min d 2) r->GR z see wd d t->GR z see wd (d+1) (.tup [.str "choose",.int i,r,t])
theorem n9{d e:Nat}(h:d+1<=e):∃ k,e=k+1/\d<=k:=by
 cases e with
 | zero=>exact absurd h (Nat.not_succ_le_zero _)
 | succ e=>exact⟨e,rfl,Nat.le_of_succ_le_succ h⟩
theorem G5{d k:Nat}(h:d<=k):min d 2<=min k 2:=fw.mpr ⟨ae (be _ _) h,cm _ _⟩
theorem GR.le{z:Lim}{see:Int->Prop}{wd:Str->Prop}{d:Nat}{r:V}(h:GR z see wd d r):∀ {e:Nat},d<=e->GR z see wd e r:=by
 induction h with
 | num a b=>intro e he;refine a9 (n9 he) λe q1_ hk=>?_;subst q1_;exact .num a b
 | line a=>intro e he;refine a9 (n9 he) λe q1_ hk=>?_;subst q1_;exact .line a
 | earlier a b=>intro e he;refine a9 (n9 he) λe q1_ hk=>?_;subst q1_;exact .earlier a b
 | paper a=>intro e he;refine a9 (n9 he) λe q1_ hk=>?_;subst q1_;exact .paper a
 | part _ a b ih=>intro e he;refine a9 (n9 he) λe q1_ hk=>?_;subst q1_;exact .part (ih hk) a b
 | table _ a b ih=>intro e he;refine a9 (n9 he) λe q1_ hk=>?_;subst q1_;exact .table (ih hk) a b
 | twol a _ _ i1 i2=>intro e he;refine a9 (n9 he) λe q1_ hk=>?_;subst q1_;exact .twol a (i1 hk) (i2 (G5 hk))
 | twor a _ _ i1 i2=>intro e he;refine a9 (n9 he) λe q1_ hk=>?_;subst q1_;exact .twor a (i1 (G5 hk)) (i2 hk)
 | wherl _ _ _ i1 i2 i3=>intro e he;refine a9 (n9 he) λe q1_ hk=>?_;subst q1_;exact .wherl (i1 hk) (i2 (G5 hk)) (i3 (G5 hk))
 | wherr _ _ _ i1 i2 i3=>intro e he;refine a9 (n9 he) λe q1_ hk=>?_;subst q1_;exact .wherr (i1 (G5 hk)) (i2 hk) (i3 (G5 hk))
 | chol a b _ _ i1 i2=>intro e he;refine a9 (n9 he) λe q1_ hk=>?_;subst q1_;exact .chol a b (i1 hk) (i2 (G5 hk))
 | chor a b _ _ i1 i2=>intro e he;refine a9 (n9 he) λe q1_ hk=>?_;subst q1_;exact .chor a b (i1 (G5 hk)) (i2 hk)
theorem bn2:siz "number" = some 2:=by decide +kernel
theorem aa3(a:List V):f4 "number" a=[]:=if_pos (by decide +kernel)
theorem V6(z:Lim)(a:List V):fit z "number" a=m8 (arg a 0) (0-1000000000) 1000000000:=if_pos (by decide +kernel)
theorem aQ0:siz "paper" = some 2:=by decide +kernel
theorem ae9(a:List V):f4 "paper" a=[]:=if_pos (by decide +kernel)
theorem P5(z:Lim)(a:List V):fit z "paper" a=F6 (arg a 0):=(if_neg (by decide +kernel)).trans (if_pos (by decide +kernel))
theorem bj7:siz "line" = some 2:=by decide +kernel
theorem aa0(a:List V):f4 "line" a=[]:=if_pos (by decide +kernel)
theorem P8(z:Lim)(a:List V):fit z "line" a=m8 (arg a 0) 0 (z.L-1):=(if_neg (by decide +kernel)).trans ((if_neg (by decide +kernel)).trans (if_pos (by decide +kernel)))
theorem bc9:siz "earlier" = some 2:=by decide +kernel
theorem Z9(a:List V):f4 "earlier" a=[]:=if_pos (by decide +kernel)
theorem P4(z:Lim)(a:List V):fit z "earlier" a=m8 (arg a 0) 0 (z.L-1):=(if_neg (by decide +kernel)).trans ((if_neg (by decide +kernel)).trans (if_pos (by decide +kernel)))
theorem ck0:siz "add" = some 3:=by decide +kernel
theorem X3(a:List V):f4 "add" a=a:=(if_neg (by decide +kernel)).trans ((if_neg (by decide +kernel)).trans (if_neg (by decide +kernel)))
theorem az2(z:Lim)(a:List V):fit z "add" a=true:=(if_neg (by decide +kernel)).trans ((if_neg (by decide +kernel)).trans ((if_neg (by decide +kernel)).trans ((if_neg (by decide +kernel)).trans ((if_neg (by decide +kernel)).trans (if_neg (by decide +kernel))))))
theorem bt0:siz "take" = some 3:=by decide +kernel
theorem V0(a:List V):f4 "take" a=a:=(if_neg (by decide +kernel)).trans ((if_neg (by decide +kernel)).trans (if_neg (by decide +kernel)))
theorem aI7(z:Lim)(a:List V):fit z "take" a=true:=(if_neg (by decide +kernel)).trans ((if_neg (by decide +kernel)).trans ((if_neg (by decide +kernel)).trans ((if_neg (by decide +kernel)).trans ((if_neg (by decide +kernel)).trans (if_neg (by decide +kernel))))))
theorem bM1:siz "least" = some 3:=by decide +kernel
theorem X5(a:List V):f4 "least" a=a:=(if_neg (by decide +kernel)).trans ((if_neg (by decide +kernel)).trans (if_neg (by decide +kernel)))
theorem ap0(z:Lim)(a:List V):fit z "least" a=true:=(if_neg (by decide +kernel)).trans ((if_neg (by decide +kernel)).trans ((if_neg (by decide +kernel)).trans ((if_neg (by decide +kernel)).trans ((if_neg (by decide +kernel)).trans (if_neg (by decide +kernel))))))
theorem bY7:siz "most" = some 3:=by decide +kernel
theorem Y7(a:List V):f4 "most" a=a:=(if_neg (by decide +kernel)).trans ((if_neg (by decide +kernel)).trans (if_neg (by decide +kernel)))
theorem at3(z:Lim)(a:List V):fit z "most" a=true:=(if_neg (by decide +kernel)).trans ((if_neg (by decide +kernel)).trans ((if_neg (by decide +kernel)).trans ((if_neg (by decide +kernel)).trans ((if_neg (by decide +kernel)).trans (if_neg (by decide +kernel))))))
theorem aA7:siz "part" = some 3:=by decide +kernel
theorem G1(a:List V):f4 "part" a=a.take 1:=(if_neg (by decide +kernel)).trans (if_pos (by decide +kernel))
theorem X4(z:Lim)(a:List V):fit z "part" a=m8 (arg a 1) 0 100:=(if_neg (by decide +kernel)).trans ((if_neg (by decide +kernel)).trans ((if_neg (by decide +kernel)).trans (if_pos (by decide +kernel))))
theorem bm6:siz "table" = some 3:=by decide +kernel
theorem G3(a:List V):f4 "table" a=a.drop 1:=(if_neg (by decide +kernel)).trans ((if_neg (by decide +kernel)).trans (if_pos (by decide +kernel)))
theorem R8(z:Lim)(a:List V):fit z "table" a=m8 (arg a 0) 0 (z.T-1):=(if_neg (by decide +kernel)).trans ((if_neg (by decide +kernel)).trans ((if_neg (by decide +kernel)).trans ((if_neg (by decide +kernel)).trans (if_pos (by decide +kernel)))))
theorem au6:siz "where" = some 4:=by decide +kernel
theorem v0(a:List V):f4 "where" a=a:=(if_neg (by decide +kernel)).trans ((if_neg (by decide +kernel)).trans (if_neg (by decide +kernel)))
theorem aa8(z:Lim)(a:List V):fit z "where" a=true:=(if_neg (by decide +kernel)).trans ((if_neg (by decide +kernel)).trans ((if_neg (by decide +kernel)).trans ((if_neg (by decide +kernel)).trans ((if_neg (by decide +kernel)).trans (if_neg (by decide +kernel))))))
theorem aG8:siz "choose" = some 4:=by decide +kernel
theorem v7(a:List V):f4 "choose" a=a.drop 1:=(if_neg (by decide +kernel)).trans ((if_neg (by decide +kernel)).trans (if_pos (by decide +kernel)))
theorem Ma2(z:Lim)(a:List V):fit z "choose" a=m8 (arg a 0) 0 (z.C-1):=(if_neg (by decide +kernel)).trans ((if_neg (by decide +kernel)).trans ((if_neg (by decide +kernel)).trans ((if_neg (by decide +kernel)).trans ((if_neg (by decide +kernel)).trans (if_pos (by decide +kernel))))))
noncomputable def B(n:Nat):Nat:=Nat.casesOn n 0 λn=>Nat.casesOn n 1 λn=>9*n+4
theorem ao7{n a b c:Nat}(hn:n≠0)(ha:a<=B n)(hb:b<=B n)(hb4:b<=4)(hc:c<=B n)(hc4:c<=4):1+a+b+c<=B (n+1):=by
 cases n with
 | zero=>exact absurd rfl hn
 | succ n=>cases n with
  | zero=>
   have h1:B (0+1)=1:=rfl;rw[h1] at ha hb hc;have h:1+a+b+c<=1+1+1+1:=dJ (dJ (aV ha 1) hb) hc;exact h
  | succ n=>
   have h:1+a+b+c<=1+(9*n+4)+4+4:=dJ (dJ (aV ha 1) hb4) hc4;exact ae h (bf (show 1+(9*n+4)+4+4=9*(n+1)+4 by lia))
theorem O0{n m:Nat}(h:n<=m):B n<=B m:=by
 induction h with
 | refl=>exact aC _
 | @step m _ ih=>
  refine ae ih ?_;cases m with
  | zero=>exact aE _
  | succ m=>exact ae (aQ _ _) (ao7 (a:=B (m+1)) (b:=0) (c:=0) (fE _) (aC _) (aE _) (aE _) (aE _) (aE _))
theorem aH9{k:Nat}(h:k<=2):B k<=4:=O0 h
noncomputable def Few(z:Lim)(r:V):Prop:=∀ n u,ok z n r=true->(d5 n r u).length<=B n
theorem bu6{c:Bool}{x:V}:(if c=true then[x] else[]).length<=1:=by cases c;exact aE 1;exact aC 1
theorem D4{z:Lim}{n:Nat}{w:Str}{args:List V}(h:ok z n (.tup (.str w::args))=true):∃ m,n=m+1/\siz w=some ((args.length:Int)+1)/\fit z w args=true/\∀ x∈f4 w args,ok z m x=true:=by
 cases n with
 | zero=>exact ff h
 | succ m=>
  simp only[L0,bo,aW,beq_iff_eq] at h
  exact⟨m,rfl,h.1.1,h.1.2,h.2⟩
theorem ax5{n:Nat}{w:Str}{args:List V}{u:Str}:(d5 (n+1) (.tup (.str w::args)) u).length<=1+((f4 w args).map λr=>(d5 n r u).length).sum:=by
 simp only[B6,az,gL,bI,Function.comp_def]
 exact cf bu6 _
structure Sz(z:Lim)(r:V)(k:Nat):Prop where
 pos:k≠0
 le:∀ n,ok z n r=true->k<=n
 few:∀ n u,ok z n r=true->(d5 n r u).length<=B k
section
variable{z:Lim}{w:Str}{args:List V}{x y t:V}{a b c:Nat}
theorem Z1(e:f4 w args=[]):Sz z (.tup (.str w::args)) 1:=by
 refine⟨Nat.one_ne_zero,λn h=>?_,λn u h=>?_⟩
 ·refine a9 (D4 h) λm q1_ z_=>?_;subst q1_;exact aQ _ _
 ·refine a9 (D4 h) λm q1_ z_=>?_;subst q1_
  have:=ax5 (n:=m) (w:=w) (args:=args) (u:=u);rw[e] at this;exact this
theorem aC6{k:Nat}(hk:k≠0)(hle:∀ n,(∀ y∈f4 w args,ok z n y=true)->k<=n)(hs:∀ n u,(∀ y∈f4 w args,ok z n y=true)->∃ p q r,((f4 w args).map λr=>(d5 n r u).length).sum=p+q+r/\p<=B k/\(q<=B k/\q<=4)/\r<=B k/\r<=4):Sz z (.tup (.str w::args)) (k+1):=by
 refine⟨fE _,λn h=>?_,λn u h=>?_⟩
 ·refine z8 (D4 h) λm q1_ z_ z_ hi=>?_;subst q1_;exact bc (hle m hi)
 ·refine z8 (D4 h) λm q1_ z_ z_ hi=>?_;subst q1_
  obtain⟨p,q,r,e,h1,⟨h2,h3⟩,h4,h5⟩:=hs m u hi;have h6:=ax5 (n:=m) (w:=w) (args:=args) (u:=u);rw[e,<- dU,<- dU] at h6;exact ae h6 (ao7 hk h1 h2 h3 h4 h5)
theorem sz1(e:f4 w args=[x])(hx:Sz z x a):Sz z (.tup (.str w::args)) (a+1):=
 aC6 hx.pos (λn h=>hx.le n (h x (by rw[e];exact fM _))) λn u h=>⟨(d5 n x u).length,0,0,by rw[e];rfl,hx.few n u (h x (by rw[e];exact fM _)),⟨aE _,aE _⟩,aE _,aE _⟩
theorem sz3{cs:List V}(e:f4 w args=cs)(h1:x∈cs)(h2:y∈cs)(h3:t∈cs)(f:Nat->Str->Nat)(hf:∀ n u,f n u=0∨f n u=(d5 n t u).length)(hsum:∀ n u,(cs.map λr=>(d5 n r u).length).sum=(d5 n x u).length+(d5 n y u).length+f n u)(hx:Sz z x a)(hy:Sz z y b)(ht:Sz z t c)(hb:b<=2)(hc:c<=2):Sz z (.tup (.str w::args)) (max a (max b c)+1):=by
 subst e;have ha:a<=max a (max b c):=Nat.le_max_left _ _;have hbm:b<=max a (max b c):=ae (Nat.le_max_left _ _) (fH _ _);have hcm:c<=max a (max b c):=ae (fH _ _) (fH _ _);refine aC6 (λq=>hx.pos (fW.mp (q▸ha))) (λn h=>eJ.mpr ⟨hx.le n (h x h1),eJ.mpr ⟨hy.le n (h y h2),ht.le n (h t h3)⟩⟩) λn u h=>?_
 have k2:=hy.few n u (h y h2);have k3:f n u<=B c:=by
  rcases hf n u with q | q
  ·rw[q];exact aE _
  ·rw[q];exact ht.few n u (h t h3)
 exact⟨_,_,_,hsum n u,ae (hx.few n u (h x h1)) (O0 ha),⟨ae k2 (O0 hbm),ae k2 (aH9 hb)⟩,ae k3 (O0 hcm),ae k3 (aH9 hc)⟩
theorem aG2(e:f4 w args=[x,y])(hx:Sz z x a)(hy:Sz z y b)(hb:b<=2):Sz z (.tup (.str w::args)) (max a (max b b)+1):=
 sz3 (t:=y) e (.head _) (.tail _ (.head _)) (.tail _ (.head _)) (λz_ z_=>0) (λz_ z_=>.inl rfl) (λn u=>rfl) hx hy hy hb hb
theorem aL0(e:f4 w args=[y,x])(hx:Sz z x a)(hy:Sz z y b)(hb:b<=2):Sz z (.tup (.str w::args)) (max a (max b b)+1):=
 sz3 (t:=y) e (.tail _ (.head _)) (.head _) (.head _) (λz_ z_=>0) (λz_ z_=>.inl rfl) (λn u=>(dA (d5 n y u).length (d5 n x u).length)) hx hy hy hb hb
theorem bx9(e:f4 w args=[x,y,t])(hx:Sz z x a)(hy:Sz z y b)(ht:Sz z t c)(hb:b<=2)(hc:c<=2):Sz z (.tup (.str w::args)) (max a (max b c)+1):=
 sz3 e (.head _) (.tail _ (.head _)) (.tail _ (.tail _ (.head _))) (λn u=>(d5 n t u).length) (λz_ z_=>.inr rfl) (λn u=>(dU _ _ _).symm) hx hy ht hb hc
theorem be0(e:f4 w args=[y,x,t])(hx:Sz z x a)(hy:Sz z y b)(ht:Sz z t c)(hb:b<=2)(hc:c<=2):Sz z (.tup (.str w::args)) (max a (max b c)+1):=
 sz3 e (.tail _ (.head _)) (.head _) (.tail _ (.tail _ (.head _))) (λn u=>(d5 n t u).length) (λz_ z_=>.inr rfl) (λn u=>by rw[dA (d5 n x u).length];exact(dU _ _ _).symm) hx hy ht hb hc
end
theorem le2{k d:Nat}(h:k<=min d 2):k<=2:=ae h (cm _ _)
theorem led{k d:Nat}(h:k<=min d 2):k<=d:=ae h (be _ _)
theorem L3{a b c d:Nat}(ha:a<=d)(hb:b<=d)(hc:c<=d):max a (max b c)+1<=d+1:=bc (eJ.mpr ⟨ha,eJ.mpr ⟨hb,hc⟩⟩)
theorem K1{w:Str}{l:List V}(a:w∈[("add" : Str),"take","least","most"]):f4 w l=l:=by
 simp only[au,aO,or_false] at a
 rcases a with rfl | rfl | rfl | rfl
 ·exact X3 _
 ·exact V0 _
 ·exact X5 _
 ·exact Y7 _
theorem aG1{w:Str}(a:w∈[("add" : Str),"take","least","most"]):siz w=some 3:=by
 simp only[au,aO,or_false] at a
 rcases a with rfl | rfl | rfl | rfl
 ·exact ck0
 ·exact bt0
 ·exact bM1
 ·exact bY7
theorem GR.sz{z:Lim}{see:Int->Prop}{wd:Str->Prop}{d:Nat}{r:V}(h:GR z see wd d r):∃ k,k<=d/\Sz z r k:=by
 induction h with
 | num a b=>exact⟨1,aQ _ _,Z1 (aa3 _)⟩
 | line a=>exact⟨1,aQ _ _,Z1 (aa0 _)⟩
 | earlier a b=>exact⟨1,aQ _ _,Z1 (Z9 _)⟩
 | paper a=>exact⟨1,aQ _ _,Z1 (ae9 _)⟩
 | part _ a b ih=>refine a9 ih λk hk s=>?_;exact⟨k+1,bc hk,sz1 (G1 _) s⟩
 | table _ a b ih=>refine a9 ih λk hk s=>?_;exact⟨k+1,bc hk,sz1 (G3 _) s⟩
 | twol a _ _ i1 i2=>refine a9 i1 λk hk s=>?_;refine a9 i2 λj hj t=>?_;exact⟨_,L3 hk (led hj) (led hj),aG2 (K1 a) s t (le2 hj)⟩
 | twor a _ _ i2 i1=>refine a9 i1 λk hk s=>?_;refine a9 i2 λj hj t=>?_;exact⟨_,L3 hk (led hj) (led hj),aL0 (K1 a) s t (le2 hj)⟩
 | wherl _ _ _ i1 i2 i3=>refine a9 i1 λk hk s=>?_;refine a9 i2 λj hj t=>?_;refine a9 i3 λi hi v=>?_;exact⟨_,L3 hk (led hj) (led hi),bx9 (v0 _) s t v (le2 hj) (le2 hi)⟩
 | wherr _ _ _ i2 i1 i3=>refine a9 i1 λk hk s=>?_;refine a9 i2 λj hj t=>?_;refine a9 i3 λi hi v=>?_;exact⟨_,L3 hk (led hj) (led hi),be0 (v0 _) s t v (le2 hj) (le2 hi)⟩
 | chol a b _ _ i1 i2=>refine a9 i1 λk hk s=>?_;refine a9 i2 λj hj t=>?_;exact⟨_,L3 hk (led hj) (led hj),aG2 (v7 _) s t (le2 hj)⟩
 | chor a b _ _ i2 i1=>refine a9 i1 λk hk s=>?_;refine a9 i2 λj hj t=>?_;exact⟨_,L3 hk (led hj) (led hj),aL0 (v7 _) s t (le2 hj)⟩
theorem GR.few{z:Lim}{see:Int->Prop}{wd:Str->Prop}{d:Nat}{r:V}(h:GR z see wd d r):Few z r:=λn u hk=>by
 refine a9 h.sz λk z_ s=>?_
 exact ae (s.few n u hk) (O0 (s.le n hk))
class inductive Cld (M:Hp):V->Prop
 | none:Cld M .none
 | bool (b:Bool):Cld M (.bool b)
 | int (i:Int):Cld M (.int i)
 | str {x:Str} (h:x.length<=10000):Cld M (.str x)
 | ref {a:Addr} {l:List V} (h:M a=some (.lst l)):Cld M (.ref a)
 | tup {l:List V} (hz:l.length<=100) (h:∀ x∈l,Cld M x):Cld M (.tup l)
noncomputable def Ok(M:Hp)(v:V):Prop:=∀ a,v=.ref a->∃ l,M a=some (.lst l)
theorem Cld.ok{M:Hp}{v:V}(h:Cld M v):Ok M v:=λa e=>by subst e;cases h with | ref h=>exact⟨_,h⟩
theorem Cld.strz{M:Hp}{x:Str}(h:Cld M (.str x)):x.length<=10000:=by cases h;assumption
theorem Cld.tups{M:Hp}{l:List V}(h:Cld M (.tup l)):l.length<=100/\∀ x∈l,Cld M x:=by cases h with | tup a b=>exact⟨a,b⟩
theorem Cld.sub{M M':Hp}{v:V}(h:Cld M v)(k:Sub M M'):Cld M' v:=by
 induction h with
 | none=>exact .none
 | bool b=>exact .bool b
 | int i=>exact .int i
 | str h=>exact .str h
 | ref h=>exact .ref (k _ _ h)
 | tup hz _ ih=>exact .tup hz ih
theorem al7{w:Str}{args:List V}{x:V}(h:x∈f4 w args):x∈args:=by
 unfold f4 at h
 split at h
 ·cases h
 ·split at h
  ·exact bx h
  ·split at h
   ·exact bN h
   ·exact h
theorem bU2{α:Type}{lo hi:Option Int}{l:List α}:(slc lo hi l).length<=l.length:=by
 exact ae (eF _ _) (by rw[bX];exact cj _ _)
theorem bz8{α:Type}{lo hi:Option Int}{l:List α}{x:α}(h:x∈slc lo hi l):x∈l:=bN (bx h)
section
variable{g:G}{F:Blk}{Z:List (Option V)}{M:Hp}{Q:V->Hp->Prop}{X:Str->Hp->Prop}
end
section
variable{g:G}{sc:Scope}{vs:List Str}{d:Nat}{Z:List (Option V)}{M:Hp}{Q:V->Hp->Prop}{X:Str->Hp->Prop}
end
theorem aE4(x:V)(l:List V):slc (some 1) none (x::l)=l:=by rw[ai1 (by lia)];rfl
theorem aA4(x:V)(l:List V):slc (some 2) none (x::l)=l.drop 1:=by rw[ai1 (by lia)];rfl
noncomputable def Let(x:Str):Prop:=∀ c∈x.cps.toList,Txt.contains E5 ⟨#[c]⟩=true
theorem aR3:E5.cps.toList.all (λc=>Txt.contains E5 ⟨#[c]⟩)=true:=by decide +kernel
theorem aJ5{c k:Nat}(h:E5.cps[k]?=some c):Let ⟨#[c]⟩:=λd hd=>by
 have:d=c:=by simpa using hd
 subst this;refine aW.mp aR3 d ?_;rw[<- aD] at h;exact aI h
theorem Let.nil:Let (Str.ofString ""):=λc hc=>by rw[show(Str.ofString "").cps.toList=[] from by decide +kernel] at hc;cases hc
theorem at1(x y:Str):(x++y).cps.toList=x.cps.toList++y.cps.toList:=by
 show(x.cps++y.cps).toList=_;simp
theorem L4(x:Str):x.length=x.cps.toList.length:=by simp[Str.length]
theorem ag4(x y:Str):(x++y).length=x.length+y.length:=by
 rw[L4,at1,az,<- L4,<- L4]
theorem Let.app{x y:Str}(hx:Let x)(hy:Let y):Let (x++y):=λc hc=>by
 rw[at1] at hc;rcases aq.mp hc with h | h
 ·exact hx c h
 ·exact hy c h
theorem Let.sls{x:Str}(hx:Let x)(lo hi:Option Int):Let (sls lo hi x):=λc hc=>hx c (bz8 (by simpa[Internal.sls] using hc))
theorem al1(lo hi:Option Int)(x:Str):(sls lo hi x).length=(slc lo hi x.cps.toList).length:=by
 rw[L4];simp[sls]
theorem am5{x:Str}{j:Int}(h0:0<=j)(h1:j<=x.length):(sls none (some j) x).length=j.toNat:=by
 rw[al1,Z7 h0,cG,<- L4];lia
theorem bb5{x:Str}{i j:Int}(h0:0<=i)(h1:i<=x.length):(sls (some i) (some j) x).length<=x.length-i.toNat:=by
 rw[al1];unfold slc;rw[cG,bX,<- L4];refine ae (cm _ _) ?_;show x.length-clipAt x.length i<=_;rw[ac5 h0,bt (gP.mpr h1)];exact aC _
theorem Let.word{x:Str}(h:Let x)(h1:1<=x.length)(h8:x.length<=8):j7 x=true:=by
 unfold j7;simp only[bo,decide_eq_true_eq,aW]
 exact⟨⟨h1,h8⟩,h⟩
theorem O3{x:Str}(h:j7 x=true):Let x/\1<=x.length/\x.length<=8:=by
 unfold j7 at h;simp only[bo,decide_eq_true_eq,aW] at h
 exact⟨h.2,h.1.1,h.1.2⟩
theorem aV8:j7 "line" = true:=by decide +kernel
theorem bt8:j7 "paper" = true:=by decide +kernel
theorem bk4:j7 "add" = true:=by decide +kernel
theorem cf2{c:Nat}(h:Txt.contains E5 ⟨#[c]⟩=true):c<128:=by
 unfold Txt.contains at h;rw[StrLaws.found_one] at h;have h2:E5.cps.toList.all (λc=>decide (c<128))=true:=by decide +kernel
 exact of_decide_eq_true (aW.mp h2 c (of_decide_eq_true h))
theorem Let.strOk{x:Str}(h:Let x):PyData.strOk x=true:=by
 unfold PyData.strOk;rw[<- Array.all_toList,aW];exact λc hc=>decide_eq_true (bO (cf2 (h c hc)) (by decide))
set_option tactic.hygienic true in
theorem L7{M:Hp}{a:Addr}{o:AObj}(h:M a=some o):upd M a o=M:=by
 funext b;unfold upd;split
 ·rename_i e;rw[e,h]
 ·rfl
set_option tactic.hygienic true in
theorem bR4{M τ:Hp}{a:Addr}{x:AObj}(h:∀ b o,b≠a->M b=some o->τ b=some o):Sub (upd M a x) (upd τ a x):=λb o e=>by
 unfold upd at e ⊢
 split
 ·rename_i q;rw[if_pos q] at e;exact e
 ·rename_i q;rw[if_neg q] at e;exact h b o q e
theorem c7.deep{g:G}{d d':Nat}{q:Bool}{f:Str}{as:List V}{M:Hp}{Q:V->Hp->Prop}{X:Str->Hp->Prop}(h:c7 g d q f as M Q X)(hd:d<=d'):c7 g d' q f as M Q X:=(λA s vs a h1 h2 h3 h4 h5 h6=>
 h A s vs a h1 (by lia) (by lia) h4 h5 h6)
theorem U3{α:Type}{f:α->V}{l:List α}{k:Nat}{x:V}(h:(l.map f)[k]?=some x):∃ y∈l,x=f y:=by
 rw[aw] at h;cases q:l[k]? with
 | none=>rw[q] at h;cases h
 | some y=>rw[q] at h;exact⟨y,aI q,(Option.some.inj h).symm⟩
section
variable{g:G}{F:Blk}{Z:List (Option V)}{M:Hp}{Q:V->Hp->Prop}{QB:Bool->Hp->Prop}{X:Str->Hp->Prop}
end
theorem D0:∀ {l k:List V},l.Nodup->(∀ y∈l,y∈k)->l.length<=k.length
 | [],k,_,_=>aE _
 | x::l,k,hn,hs=>by
  refine c6 (cz.mp hn) λh1 h2=>?_
  obtain⟨s,t,rfl⟩:=List.append_of_mem (hs x (by simp))
  have:=D0 (l:=l) (k:=s++t) h2 λy hy=>by
   have hy':=hs y (aP _ hy);rcases aq.mp hy' with q | q
   ·exact aq.mpr (.inl q)
   ·rcases au.mp q with q | q
    ·subst q;exact absurd hy h1
    ·exact aq.mpr (.inr q)
  simp only[az,aN] at this ⊢
  lia
theorem Srt.nodup{l:List V}(h:Srt l):l.Nodup:=List.Pairwise.imp (fun{a b} hab e=>by subst e;exact bg6 _ hab) h
noncomputable def j9(y:V):Prop:=(∃ i,y=.int i)∨∃ x,y=.str x/\PyData.strOk x=true
theorem j9.flat{y:V}(h:j9 y):flat y=true:=by
 rcases h with ⟨i,rfl⟩ | ⟨x,rfl,hx⟩
 ·rfl
 ·exact hx
theorem j9.pure{y:V}(h:j9 y):D8 y=true:=by
 rcases h with ⟨i,rfl⟩ | ⟨x,rfl,hx⟩<;>rfl
theorem j9.dep{y:V}(h:j9 y):dep y=0:=by
 rcases h with ⟨i,rfl⟩ | ⟨x,rfl,hx⟩<;>rfl
theorem j9.flatL:∀ {l:List V},(∀ y∈l,j9 y)->flatL l=true
 | [],_=>rfl
 | x::l,h=>by
  show(Internal.flat x&&Internal.flatL l)=true;rw[(h x (by simp)).flat,j9.flatL λy hy=>h y (aP _ hy)];rfl
theorem j9.depL:∀ {l:List V},(∀ y∈l,j9 y)->depL l=0
 | [],_=>rfl
 | x::l,h=>by
  have h1:=(h x (by simp)).dep
  have h2:=j9.depL (l:=l) λy hy=>h y (aP _ hy)
  show max (dat x).depth (PyData.depthAll (i4 l))=0;unfold Internal.dep at h1;unfold Internal.depL at h2;lia
noncomputable def B3(F:List V)(x:V):Bool:=(i4 F).any λy=>PyData.eqv y (dat x)
theorem Q2{F:List V}{x:V}(hF:∀ y∈F,j9 y)(hx:j9 x):B3 F x=true↔x∈F:=by
 unfold B3;rw[aN6,eG,cH];constructor
 ·rintro hh_;refine a9 hh_ λy hy e=>?_
  have:=(L8 (hF y hy).pure hx.pure).mp e;subst this;exact hy
 ·intro h
  exact⟨x,h,(L8 hx.pure hx.pure).mpr rfl⟩
theorem SK.sub{l k:List V}(h:SK l)(hs:∀ y∈k,y∈l):SK k:=by
 rcases h with ⟨ns,rfl⟩ | ⟨ss,rfl⟩
 ·left
  induction k with
  | nil=>exact⟨[],rfl⟩
  | cons y k ih=>
   obtain⟨ms,rfl⟩:=ih λz hz=>hs z (aP _ hz)
   obtain⟨i,-,rfl⟩:=ar.mp (hs y (by simp))
   exact⟨i::ms,rfl⟩
 ·right
  induction k with
  | nil=>exact⟨[],rfl⟩
  | cons y k ih=>
   obtain⟨ms,rfl⟩:=ih λz hz=>hs z (aP _ hz)
   obtain⟨i,-,rfl⟩:=ar.mp (hs y (by simp))
   exact⟨i::ms,rfl⟩
theorem SK.of_ints{l:List V}(h:∀ y∈l,∃ i,y=.int i):SK l:=by
 left;induction l with
 | nil=>exact⟨[],rfl⟩
 | cons y k ih=>
  obtain⟨ms,rfl⟩:=ih λz hz=>h z (aP _ hz)
  obtain⟨i,rfl⟩:=h y (by simp)
  exact⟨i::ms,rfl⟩
theorem SK.of_strs{l:List V}(h:∀ y∈l,∃ i,y=.str i):SK l:=by
 right;induction l with
 | nil=>exact⟨[],rfl⟩
 | cons y k ih=>
  obtain⟨ms,rfl⟩:=ih λz hz=>h z (aP _ hz)
  obtain⟨i,rfl⟩:=h y (by simp)
  exact⟨i::ms,rfl⟩
theorem I6{z:Lim}{n:Nat}{x:V}(h:ok z n x=true):∃ w args,x=.tup (.str w::args):=by
 cases n with
 | zero=>exact ff h
 | succ n=>
  cases x with
  | tup l=>
   cases l with
   | nil=>exact ff h
   | cons y l=>
    cases y with
    | str w=>exact⟨w,l,rfl⟩
    | _=>exact ff h
  | _=>exact ff h
theorem q9{v:V}{a b:Int}(h:m8 v a b=true):∃ i,v=.int i/\a<=i/\i<=b:=by
 cases v with
 | int i=>
  refine c6 (ba.mp (show(decide (a<=i)&&decide (i<=b))=true from h)) λh1 h2=>?_
  exact⟨i,rfl,of_decide_eq_true h1,of_decide_eq_true h2⟩
 | _=>exact ff h
theorem X9{v:V}(h:F6 v=true):∃ x,v=.str x/\j7 x=true:=by
 cases v with
 | str x=>exact⟨x,rfl,h⟩
 | _=>exact ff h
set_option tactic.hygienic true in
theorem J0{z:Lim}{u:Str}(hu:u = "line"∨u = "earlier"∨u = "table"∨u = "choose"):∀ {n:Nat} {v:V},ok z n v=true->∀ y∈d5 n v u,∃ i,y=.int i:=by
 intro n;induction n with
 | zero=>intro v h;exact ff h
 | succ n ih=>
  intro v h;refine p8 (I6 h) λw args q1_=>?_;subst q1_
  refine z8 (D4 h) λm hm hs hf hin=>?_
  obtain rfl:n=m:=by lia
  intro y hy;simp only[B6,aq,dj,ar] at hy
  rcases hy with hy | ⟨_,⟨r,hr,rfl⟩,hy⟩
  ·split at hy
   ·rename_i e
    simp only[au,aO,or_false] at hy
    subst hy;have e:w=u:=by simpa using e
    subst e;rcases hu with rfl | rfl | rfl | rfl
    ·rw[P8] at hf;refine a9 (q9 hf) λi e _=>?_;exact⟨i,e⟩
    ·rw[P4] at hf;refine a9 (q9 hf) λi e _=>?_;exact⟨i,e⟩
    ·rw[R8] at hf;refine a9 (q9 hf) λi e _=>?_;exact⟨i,e⟩
    ·rw[Ma2] at hf;refine a9 (q9 hf) λi e _=>?_;exact⟨i,e⟩
   ·cases hy
  ·exact ih (hin r hr) y hy
set_option tactic.hygienic true in
theorem bS8{z:Lim}:∀ {n:Nat} {v:V},ok z n v=true->∀ y∈d5 n v "paper",∃ x,y=.str x/\j7 x=true:=by
 intro n;induction n with
 | zero=>intro v h;exact ff h
 | succ n ih=>
  intro v h;refine p8 (I6 h) λw args q1_=>?_;subst q1_
  refine z8 (D4 h) λm hm hs hf hin=>?_
  obtain rfl:n=m:=by lia
  intro y hy;simp only[B6,aq,dj,ar] at hy
  rcases hy with hy | ⟨_,⟨r,hr,rfl⟩,hy⟩
  ·split at hy
   ·rename_i e
    simp only[au,aO,or_false] at hy
    subst hy;have e:w = "paper":=by simpa using e
    subst e;rw[P5] at hf;exact X9 hf
   ·cases hy
  ·exact ih (hin r hr) y hy
noncomputable def NW(u:Str):Prop:=u = "line"∨u = "earlier"∨u = "table"∨u = "choose"∨u = "paper"
theorem O4{z:Lim}{u:Str}(hu:NW u){n:Nat}{v:V}(h:ok z n v=true):(∀ y∈d5 n v u,j9 y)/\SK (d5 n v u):=by
 rcases hu with hu | hu | hu | hu | hu
 ·have:=J0 (.inl hu) h;exact⟨λy hy=>.inl (this y hy),.of_ints this⟩
 ·have:=J0 (.inr (.inl hu)) h;exact⟨λy hy=>.inl (this y hy),.of_ints this⟩
 ·have:=J0 (.inr (.inr (.inl hu))) h;exact⟨λy hy=>.inl (this y hy),.of_ints this⟩
 ·have:=J0 (.inr (.inr (.inr hu))) h;exact⟨λy hy=>.inl (this y hy),.of_ints this⟩
 ·subst hu
  have:=bS8 h;exact⟨λy hy=>by refine a9 (this y hy) λx e hx=>?_;exact .inr ⟨x,e,(O3 hx).1.strOk⟩,.of_strs λy hy=>by refine a9 (this y hy) λx e z_=>?_;exact⟨x,e⟩⟩
theorem w7{l:List V}(h:l.length=1):∃ x,l=[x]:=List.length_eq_one_iff.mp h
theorem F4{l:List V}(h:l.length=2):∃ x y,l=[x,y]:=by
 cases l with
 | nil=>cases h
 | cons x l=>refine c5 (w7 (Nat.succ.inj h)) λy q1_=>?_;subst q1_;exact⟨x,y,rfl⟩
theorem J9{l:List V}(h:l.length=3):∃ x y t,l=[x,y,t]:=by
 cases l with
 | nil=>cases h
 | cons x l=>refine p8 (F4 (Nat.succ.inj h)) λy t q1_=>?_;subst q1_;exact⟨x,y,t,rfl⟩
theorem au8{z:Lim}{w:Str}{args:List V}(hs:siz w=some ((args.length:Int)+1))(hf:fit z w args=true){x:V}(hx:x∈args):x∈f4 w args∨(∃ i,x=.int i)∨∃ s,x=.str s:=by
 have hm:=S7 hs;simp only[szs,au,Prod.mk.injEq,aO,or_false] at hm
 rcases hm with ⟨rfl,hn⟩ | ⟨rfl,hn⟩ | ⟨rfl,hn⟩ | ⟨rfl,hn⟩ | ⟨rfl,hn⟩ | ⟨rfl,hn⟩ | ⟨rfl,hn⟩ | ⟨rfl,hn⟩ | ⟨rfl,hn⟩ | ⟨rfl,hn⟩ | ⟨rfl,hn⟩ | ⟨rfl,hn⟩
 ·obtain⟨a,rfl⟩:=w7 (l:=args) (by first | exact hn | lia | (simp only[aN] at hn;lia))
  rw[V6] at hf;refine a9 (q9 hf) λi e z_=>?_
  simp at hx;subst hx;exact .inr (.inl ⟨i,e⟩)
 ·obtain⟨a,rfl⟩:=w7 (l:=args) (by first | exact hn | lia | (simp only[aN] at hn;lia))
  rw[P5] at hf;refine a9 (X9 hf) λi e z_=>?_
  simp at hx;subst hx;exact .inr (.inr ⟨i,e⟩)
 ·obtain⟨a,rfl⟩:=w7 (l:=args) (by first | exact hn | lia | (simp only[aN] at hn;lia))
  rw[P8] at hf;refine a9 (q9 hf) λi e z_=>?_
  simp at hx;subst hx;exact .inr (.inl ⟨i,e⟩)
 ·obtain⟨a,rfl⟩:=w7 (l:=args) (by first | exact hn | lia | (simp only[aN] at hn;lia))
  rw[P4] at hf;refine a9 (q9 hf) λi e z_=>?_
  simp at hx;subst hx;exact .inr (.inl ⟨i,e⟩)
 ·rw[X3];exact .inl hx
 ·rw[V0];exact .inl hx
 ·rw[X5];exact .inl hx
 ·rw[Y7];exact .inl hx
 ·obtain⟨a,b,rfl⟩:=F4 (l:=args) (by first | exact hn | lia | (simp only[aN] at hn;lia))
  rw[X4] at hf;refine a9 (q9 hf) λi e z_=>?_
  have e:b=.int i:=e;subst e;rw[G1];simp only[au,aO,or_false] at hx
  rcases hx with rfl | rfl
  ·exact .inl (by simp)
  ·exact .inr (.inl ⟨i,rfl⟩)
 ·obtain⟨a,b,rfl⟩:=F4 (l:=args) (by first | exact hn | lia | (simp only[aN] at hn;lia))
  rw[R8] at hf;refine a9 (q9 hf) λi e z_=>?_
  have e:a=.int i:=e;subst e;rw[G3];simp only[au,aO,or_false] at hx
  rcases hx with rfl | rfl
  ·exact .inr (.inl ⟨i,rfl⟩)
  ·exact .inl (by simp)
 ·rw[v0];exact .inl hx
 ·obtain⟨a,b,c,rfl⟩:=J9 (l:=args) (by first | exact hn | lia | (simp only[aN] at hn;lia))
  rw[Ma2] at hf;refine a9 (q9 hf) λi e z_=>?_
  have e:a=.int i:=e;subst e;rw[v7];simp only[au,aO,or_false] at hx
  rcases hx with rfl | rfl | rfl
  ·exact .inr (.inl ⟨i,rfl⟩)
  ·exact .inl (by simp)
  ·exact .inl (by simp)
theorem bF2{z:Lim}{w:Str}{args:List V}(hs:siz w=some ((args.length:Int)+1))(hf:fit z w args=true){x:V}(hx:x∈args){l:List V}(e:x=.tup l):x∈f4 w args:=by
 rcases au8 hs hf hx with q | ⟨i,q⟩ | ⟨i,q⟩
 ·exact q
 ·rw[e] at q;cases q
 ·rw[e] at q;cases q
theorem aG0:∀ {l:List Nat} {x:Nat},x∈l->x<=l.sum
 | y::l,x,h=>by
  rw[List.sum_cons];rcases au.mp h with rfl | h
  ·lia
  ·have:=aG0 h;lia
section
variable{z:Lim}{M:Hp}
theorem Cld.t2{a b:V}(ha:Cld M a)(hb:Cld M b):Cld M (.tup [a,b]):=.tup (by simp) λx hx=>by
 simp only[au,aO,or_false] at hx;rcases hx with rfl | rfl<;>assumption
theorem Cld.t3{a b c:V}(ha:Cld M a)(hb:Cld M b)(hc:Cld M c):Cld M (.tup [a,b,c]):=.tup (by simp) λx hx=>by
 simp only[au,aO,or_false] at hx;rcases hx with rfl | rfl | rfl<;>assumption
theorem Cld.t4{a b c d:V}(ha:Cld M a)(hb:Cld M b)(hc:Cld M c)(hd:Cld M d):Cld M (.tup [a,b,c,d]):=.tup (by simp) λx hx=>by
 simp only[au,aO,or_false] at hx;rcases hx with rfl | rfl | rfl | rfl<;>assumption
theorem GR.cld{see:Int->Prop}{wd:Str->Prop}(hw:∀ x,wd x->j7 x=true){d:Nat}{r:V}(h:GR z see wd d r):Cld M r:=by
 induction h with
 | num a b=>exact .t2 (.str (by decide)) (.int _)
 | line a=>exact .t2 (.str (by decide)) (.int _)
 | earlier a b=>exact .t2 (.str (by decide)) (.int _)
 | paper a=>exact .t2 (.str (by decide)) (.str (by have:=(O3 (hw _ a)).2.2;lia))
 | part _ a b ih=>exact .t3 (.str (by decide)) ih (.int _)
 | table _ a b ih=>exact .t3 (.str (by decide)) (.int _) ih
 | twol a _ _ i1 i2=>
  simp only[au,aO,or_false] at a
  exact .t3 (.str (by rcases a with rfl | rfl | rfl | rfl<;>decide)) i1 i2
 | twor a _ _ i1 i2=>
  simp only[au,aO,or_false] at a
  exact .t3 (.str (by rcases a with rfl | rfl | rfl | rfl<;>decide)) i1 i2
 | wherl _ _ _ i1 i2 i3=>exact .t4 (.str (by decide)) i1 i2 i3
 | wherr _ _ _ i1 i2 i3=>exact .t4 (.str (by decide)) i1 i2 i3
 | chol a b _ _ i1 i2=>exact .t4 (.str (by decide)) (.int _) i1 i2
 | chor a b _ _ i1 i2=>exact .t4 (.str (by decide)) (.int _) i1 i2
end
noncomputable def u4(st:Addr)(M M':Hp):Prop:=∀ a o,a≠st->M a=some o->M' a=some o
theorem u4.sub{st:Addr}{M zs M2:Hp}(h:u4 st M zs)(k:Sub zs M2):u4 st M M2:=λa o ha e=>k a o (h a o ha e)
theorem u4.trans{st:Addr}{M zs M2:Hp}(h:u4 st M zs)(k:u4 st zs M2):u4 st M M2:=λa o ha e=>k a o ha (h a o ha e)
theorem u4.upd{st:Addr}{M:Hp}{o:AObj}:u4 st M (upd M st o):=λa o ha e=>by rw[d6 _ _ ha];exact e
section
variable{g:G}{sc:Scope}{vs:List Str}{d:Nat}{Z:List (Option V)}{M:Hp}
end
theorem Few.lt{z:Lim}{r:V}(h:Few z r)(u:Str)(hk:ok z 8 r=true):(d5 8 r u).length<64:=aM (h 8 u hk) (by decide)
section
variable{g:G}{sc:Scope}{vs:List Str}{d:Nat}{q:Bool}{F:Blk}{Z:List (Option V)}{M:Hp}{Q:V->Hp->Prop}{X:Str->Hp->Prop}
end
noncomputable def toI(v:V):Int:=match v with
 | .int i=>i
 | _=>0
noncomputable def toS(v:V):Str:=match v with
 | .str s=>s
 | _=>Str.ofString ""
noncomputable def Q4(n f:Int)(v:V):Int:=match v with
 | .tup l=>if toI (arg l 0)<=n then toI (arg l 1)+(n-toI (arg l 0))*toI (arg l 2) / 100 else f
 | _=>f
noncomputable def atN(t:V)(n:Int):Int:=match t with
 | .tup l=>l.foldl (Q4 n) 0
 | _=>0
structure Yr where
 P:List (Str×Int)
 E:List Int
 T:List Bool
 tabs:List V
noncomputable def dS(P:List (Str×Int)):List (Str×V):=P.map λp=>(p.1,.int p.2)
noncomputable def D9(P:List (Str×Int))(x:Str):Int:=toI ((i8 (dS P) x).getD (.int 0))
noncomputable def lf(y:Yr)(f:Int->Int)(w:Str)(a:V):Int:=
 if w == "number" then toI a else if w == "paper" then D9 y.P (toS a) else if w == "line" then f (toI a) else y.E.getD (toI a).toNat 0
noncomputable def H7(w:Str)(a b:Int):Int:=if w == "add" then a+b else if w == "take" then a-b else if w == "least" then min a b else max a b
noncomputable def wv(y:Yr)(f:Int->Int):Nat->V->Int
 | 0,_=>0
 | n+1,.tup (.str w::args)=>
  if Y5 w then lf y f w (arg args 0)
  else if w == "part" then wv y f n (arg args 0)*toI (arg args 1) / 100
  else if w == "table" then atN (y.tabs.getD (toI (arg args 0)).toNat .none) (wv y f n (arg args 1))
  else if w == "where" then(if 0<wv y f n (arg args 0) then wv y f n (arg args 1) else wv y f n (arg args 2))
  else if w == "choose" then(if y.T.getD (toI (arg args 0)).toNat false then wv y f n (arg args 2) else wv y f n (arg args 1))
  else H7 w (wv y f n (arg args 0)) (wv y f n (arg args 1))
 | _+1,_=>0
section
variable{y:Yr}{f:Int->Int}{n:Nat}
theorem P9{i:Int}:wv y f (n+1) (.tup [.str "number",.int i])=i:=(if_pos (by decide +kernel)).trans (if_pos (by decide +kernel))
theorem N8{x:Str}:wv y f (n+1) (.tup [.str "paper",.str x])=D9 y.P x:=(if_pos (by decide +kernel)).trans ((if_neg (by decide +kernel)).trans (if_pos (by decide +kernel)))
theorem R0{i:Int}:wv y f (n+1) (.tup [.str "line",.int i])=f i:=(if_pos (by decide +kernel)).trans ((if_neg (by decide +kernel)).trans ((if_neg (by decide +kernel)).trans (if_pos (by decide +kernel))))
theorem R7{i:Int}:wv y f (n+1) (.tup [.str "earlier",.int i])=y.E.getD i.toNat 0:=(if_pos (by decide +kernel)).trans ((if_neg (by decide +kernel)).trans ((if_neg (by decide +kernel)).trans (if_neg (by decide +kernel))))
theorem Q6{r:V}{i:Int}:wv y f (n+1) (.tup [.str "part",r,.int i])=wv y f n r*i / 100:=(if_neg (by decide +kernel)).trans (if_pos (by decide +kernel))
theorem P3{r:V}{i:Int}:wv y f (n+1) (.tup [.str "table",.int i,r])=atN (y.tabs.getD i.toNat .none) (wv y f n r):=(if_neg (by decide +kernel)).trans ((if_neg (by decide +kernel)).trans (if_pos (by decide +kernel)))
theorem O2{r t u:V}:wv y f (n+1) (.tup [.str "where",r,t,u])=if 0<wv y f n r then wv y f n t else wv y f n u:=(if_neg (by decide +kernel)).trans ((if_neg (by decide +kernel)).trans ((if_neg (by decide +kernel)).trans (if_pos (by decide +kernel))))
theorem S5{r t:V}{i:Int}:wv y f (n+1) (.tup [.str "choose",.int i,r,t])=if y.T.getD i.toNat false then wv y f n t else wv y f n r:=(if_neg (by decide +kernel)).trans ((if_neg (by decide +kernel)).trans ((if_neg (by decide +kernel)).trans ((if_neg (by decide +kernel)).trans (if_pos (by decide +kernel)))))
inductive W2:Str->Prop
 | add:W2 "add"
 | take:W2 "take"
 | least:W2 "least"
 | most:W2 "most"
theorem Q1{w:Str}{r t:V}(h:W2 w):wv y f (n+1) (.tup [.str w,r,t])=H7 w (wv y f n r) (wv y f n t):=by
 cases h<;>exact(if_neg (by decide +kernel)).trans ((if_neg (by decide +kernel)).trans ((if_neg (by decide +kernel)).trans ((if_neg (by decide +kernel)).trans (if_neg (by decide +kernel)))))
end
inductive Nd(z:Lim)(n:Nat):V->Prop
 | num (i:Int):Nd z n (.tup [.str "number",.int i])
 | paper (x:Str):Nd z n (.tup [.str "paper",.str x])
 | line (i:Int) (h0:0<=i) (h1:i<z.L):Nd z n (.tup [.str "line",.int i])
 | earlier (i:Int) (h0:0<=i) (h1:i<z.L):Nd z n (.tup [.str "earlier",.int i])
 | part (r:V) (i:Int) (hr:ok z n r=true) (h0:0<=i) (h1:i<=100):Nd z n (.tup [.str "part",r,.int i])
 | table (i:Int) (r:V) (h0:0<=i) (h1:i<z.T) (hr:ok z n r=true):Nd z n (.tup [.str "table",.int i,r])
 | two (w:Str) (r t:V) (h:W2 w) (hr:ok z n r=true) (ht:ok z n t=true):Nd z n (.tup [.str w,r,t])
 | wher (r t u:V) (hr:ok z n r=true) (ht:ok z n t=true) (hu:ok z n u=true):Nd z n (.tup [.str "where",r,t,u])
 | choo (i:Int) (r t:V) (h0:0<=i) (h1:i<z.C) (hr:ok z n r=true) (ht:ok z n t=true):Nd z n (.tup [.str "choose",.int i,r,t])
section
variable{z:Lim}{n:Nat}{args:List V}
theorem K2{x:V}{l:List V}:arg (x::l) 0=x:=rfl
theorem ca6(hn:(args.length:Int)+1=2)(hf:fit z "number" args=true):Nd z n (.tup (.str "number" :: args)):=by
 obtain⟨x,rfl⟩:=w7 (l:=args) (by lia)
 rw[V6,K2] at hf;refine a9 (q9 hf) λi q1_ z_=>?_;subst q1_
 exact .num i
theorem bg0(hn:(args.length:Int)+1=2)(hf:fit z "paper" args=true):Nd z n (.tup (.str "paper" :: args)):=by
 obtain⟨x,rfl⟩:=w7 (l:=args) (by lia)
 rw[P5,K2] at hf;refine a9 (X9 hf) λi q1_ z_=>?_;subst q1_
 exact .paper i
theorem cd4(hn:(args.length:Int)+1=2)(hf:fit z "line" args=true):Nd z n (.tup (.str "line" :: args)):=by
 obtain⟨x,rfl⟩:=w7 (l:=args) (by lia)
 rw[P8,K2] at hf;refine f9 (q9 hf) λi q1_ h0 h1=>?_;subst q1_
 exact .line i h0 (dk h1)
theorem bY8(hn:(args.length:Int)+1=2)(hf:fit z "earlier" args=true):Nd z n (.tup (.str "earlier" :: args)):=by
 obtain⟨x,rfl⟩:=w7 (l:=args) (by lia)
 rw[P4,K2] at hf;refine f9 (q9 hf) λi q1_ h0 h1=>?_;subst q1_
 exact .earlier i h0 (dk h1)
theorem W5{w:Str}(hw:W2 w)(hi:∀ a,f4 w a=a)(hn:(args.length:Int)+1=3)(hin:∀ x∈f4 w args,ok z n x=true):Nd z n (.tup (.str w::args)):=by
 obtain⟨x,y,rfl⟩:=F4 (l:=args) (by lia)
 rw[hi] at hin;exact .two w x y hw (hin _ (.head _)) (hin _ (.tail _ (.head _)))
theorem bI8(hn:(args.length:Int)+1=3)(hf:fit z "part" args=true)(hin:∀ x∈f4 "part" args,ok z n x=true):Nd z n (.tup (.str "part" :: args)):=by
 obtain⟨x,y,rfl⟩:=F4 (l:=args) (by lia)
 rw[X4] at hf;refine f9 (q9 hf) λi e h0 h1=>?_
 obtain rfl:y=.int i:=e;rw[G1] at hin;exact .part x i (hin x (.head _)) h0 h1
theorem bu5(hn:(args.length:Int)+1=3)(hf:fit z "table" args=true)(hin:∀ x∈f4 "table" args,ok z n x=true):Nd z n (.tup (.str "table" :: args)):=by
 obtain⟨x,y,rfl⟩:=F4 (l:=args) (by lia)
 rw[R8,K2] at hf;refine f9 (q9 hf) λi q1_ h0 h1=>?_;subst q1_
 rw[G3] at hin;exact .table i y h0 (dk h1) (hin y (.head _))
theorem bU7(hn:(args.length:Int)+1=4)(hin:∀ x∈f4 "where" args,ok z n x=true):Nd z n (.tup (.str "where" :: args)):=by
 obtain⟨x,y,t,rfl⟩:=J9 (l:=args) (by lia)
 rw[v0] at hin;exact .wher x y t (hin _ (.head _)) (hin _ (.tail _ (.head _))) (hin _ (.tail _ (.tail _ (.head _))))
theorem ba3(hn:(args.length:Int)+1=4)(hf:fit z "choose" args=true)(hin:∀ x∈f4 "choose" args,ok z n x=true):Nd z n (.tup (.str "choose" :: args)):=by
 obtain⟨x,y,t,rfl⟩:=J9 (l:=args) (by lia)
 rw[Ma2,K2] at hf;refine f9 (q9 hf) λi q1_ h0 h1=>?_;subst q1_
 rw[v7] at hin;exact .choo i y t h0 (dk h1) (hin _ (.head _)) (hin _ (.tail _ (.head _)))
end
theorem J1{z:Lim}{n:Nat}{v:V}(h:ok z (n+1) v=true):Nd z n v:=by
 refine p8 (I6 h) λw args q1_=>?_;subst q1_
 refine z8 (D4 h) λm hm hs hf hin=>?_
 obtain rfl:n=m:=Nat.succ.inj hm;have hm:=S7 hs;clear h hs;simp only[szs,au,Prod.mk.injEq,aO,or_false] at hm
 rcases hm with ⟨rfl,hn⟩ | ⟨rfl,hn⟩ | ⟨rfl,hn⟩ | ⟨rfl,hn⟩ | ⟨rfl,hn⟩ | ⟨rfl,hn⟩ | ⟨rfl,hn⟩ | ⟨rfl,hn⟩ | ⟨rfl,hn⟩ | ⟨rfl,hn⟩ | ⟨rfl,hn⟩ | ⟨rfl,hn⟩
 ·exact ca6 hn hf
 ·exact bg0 hn hf
 ·exact cd4 hn hf
 ·exact bY8 hn hf
 ·exact W5 .add X3 hn hin
 ·exact W5 .take V0 hn hin
 ·exact W5 .least X5 hn hin
 ·exact W5 .most Y7 hn hin
 ·exact bI8 hn hf hin
 ·exact bu5 hn hf hin
 ·exact bU7 hn hin
 ·exact ba3 hn hf hin
theorem v9{n:Nat}{w:Str}{args:List V}{r:V}{u:Str}(hr:r∈f4 w args):∀ y∈d5 n r u,y∈d5 (n+1) (.tup (.str w::args)) u:=λy hy=>by
 rw[B6];exact aq.mpr (.inr (dj.mpr ⟨_,ar.mpr ⟨r,hr,rfl⟩,hy⟩))
theorem bD2{n:Nat}{i:Int}:V.int i∈d5 (n+1) (.tup [.str "line",.int i]) "line":=by
 rw[B6,if_pos (by decide +kernel)]
 exact aq.mpr (.inl (.head _))
noncomputable def Nms(p:Int->Prop)(n:Nat)(v:V):Prop:=∀ i,V.int i∈d5 n v "line"->p i
section
variable{p:Int->Prop}{n:Nat}{r t u:V}{i:Int}{w:Str}
theorem Nms.line(h:Nms p (n+1) (.tup [.str "line",.int i])):p i:=h i bD2
theorem Nms.part(h:Nms p (n+1) (.tup [.str "part",r,.int i])):Nms p n r:=λj hj=>h j (v9 (by rw[G1];simp) _ hj)
theorem Nms.table(h:Nms p (n+1) (.tup [.str "table",.int i,r])):Nms p n r:=λj hj=>h j (v9 (by rw[G3];simp) _ hj)
theorem W2.ins(h:W2 w)(a:List V):f4 w a=a:=by
 cases h
 ·exact X3 a
 ·exact V0 a
 ·exact X5 a
 ·exact Y7 a
theorem Nms.two1(hw:W2 w)(h:Nms p (n+1) (.tup [.str w,r,t])):Nms p n r:=λj hj=>h j (v9 (by rw[hw.ins];simp) _ hj)
theorem Nms.two2(hw:W2 w)(h:Nms p (n+1) (.tup [.str w,r,t])):Nms p n t:=λj hj=>h j (v9 (by rw[hw.ins];simp) _ hj)
theorem Nms.wher1(h:Nms p (n+1) (.tup [.str "where",r,t,u])):Nms p n r:=λj hj=>h j (v9 (by rw[v0];simp) _ hj)
theorem Nms.wher2(h:Nms p (n+1) (.tup [.str "where",r,t,u])):Nms p n t:=λj hj=>h j (v9 (by rw[v0];simp) _ hj)
theorem Nms.wher3(h:Nms p (n+1) (.tup [.str "where",r,t,u])):Nms p n u:=λj hj=>h j (v9 (by rw[v0];simp) _ hj)
theorem Nms.choo1(h:Nms p (n+1) (.tup [.str "choose",.int i,r,t])):Nms p n r:=λj hj=>h j (v9 (by rw[v7];simp) _ hj)
theorem Nms.choo2(h:Nms p (n+1) (.tup [.str "choose",.int i,r,t])):Nms p n t:=λj hj=>h j (v9 (by rw[v7];simp) _ hj)
end
theorem an4{z:Lim}{y:Yr}{f f':Int->Int}:∀ {n:Nat} {v:V},ok z n v=true->Nms (λi=>f i=f' i) n v->wv y f n v=wv y f' n v:=by
 intro n;induction n with
 | zero=>intro v h;exact ff h
 | succ n ih=>
  intro v hk h;cases J1 hk with
  | num i=>rw[P9,P9]
  | paper x=>rw[N8,N8]
  | line i=>rw[R0,R0];exact h.line
  | earlier i=>rw[R7,R7]
  | part r i hr=>rw[Q6,Q6,ih hr h.part]
  | table i r _ _ hr=>rw[P3,P3,ih hr h.table]
  | two w r t hw hr ht=>rw[Q1 hw,Q1 hw,ih hr (h.two1 hw),ih ht (h.two2 hw)]
  | wher r t u hr ht hu=>rw[O2,O2,ih hr h.wher1,ih ht h.wher2,ih hu h.wher3]
  | choo i r t _ _ hr ht=>rw[S5,S5,ih hr h.choo1,ih ht h.choo2]
noncomputable def ac6(rules:List V)(y:Yr):Nat->Int->Int
 | 0,_=>0
 | k+1,i=>wv y (ac6 rules y k) 8 (rules.getD i.toNat .none)
noncomputable def sol(rules:List V)(y:Yr)(rk:Int->Nat)(i:Int):Int:=ac6 rules y (rk i+1) i
structure Lnk(z:Lim)(rules:List V)(rk:Int->Nat):Prop where
 ok:∀ (i:Nat),i<rules.length->Internal.ok z 8 (rules.getD i .none)=true
 dn:∀ (i:Nat),i<rules.length->Nms (λj=>(0<=j/\j<rules.length)/\rk j<rk i) 8 (rules.getD i .none)
theorem aV0{z:Lim}{rules:List V}{y:Yr}{rk:Int->Nat}(h:Lnk z rules rk):∀ (k:Nat) (i:Int),0<=i->i<rules.length->rk i<k->ac6 rules y k i=sol rules y rk i:=by
 intro k;induction k using fQ with
 | ind k ih=>
  intro i h0 h1 hk;cases k with
  | zero=>exact absurd hk (bS _)
  | succ m=>
   have hi:i.toNat<rules.length:=by lia
   have e:((i.toNat:Nat):Int)=i:=bD h0;refine an4 (h.ok _ hi) λj hj=>?_
   obtain⟨⟨j0,j1⟩,j2⟩:=h.dn _ hi j hj;rw[e] at j2;rw[ih m (bp _) j j0 j1 (by lia),ih (rk i) (by lia) j j0 j1 j2]
theorem ag9{z:Lim}{rules:List V}{y:Yr}{rk:Int->Nat}(h:Lnk z rules rk){i:Nat}(hi:i<rules.length):wv y (sol rules y rk) 8 (rules.getD i .none)=sol rules y rk i:=by
 refine an4 (h.ok _ hi) λj hj=>?_
 obtain⟨⟨j0,j1⟩,j2⟩:=h.dn _ hi j hj;exact(aV0 h _ j j0 j1 j2).symm
theorem ch6{P:List (Str×Int)}{x:Str}:(i8 (dS P) x).getD (.int 0)=.int (D9 P x):=by
 unfold D9;cases e:i8 (dS P) x with
 | none=>rfl
 | some v=>
  unfold i8 at e;refine a9 (aJ.mp e) λp hp q1_=>?_;subst q1_
  obtain⟨q,-,rfl⟩:=ar.mp (dy hp);rfl
noncomputable def vbm:List Value:=[.type "ValueError",.type "Exception",.type "BaseException",.type "object"]
noncomputable def V9:List Str:=["__getattribute__","__getattr__","__class__"]
class inductive OwnTailC (h:Heap) (bmB:List Value):List Value->Prop
 | base:OwnTailC h bmB bmB
 | own {A:Addr} {c0:Value} {dd:Option Addr} {cd:ClassData} {sl:Array (Option Value)} {mA:Str->Option Value} {tl:List Value} :
   h.get? A=some {cls:=c0,dict:=dd,data:=.cls cd,slots:=sl}->h.Ns cd.ns mA->(∀ n∈V9,mA n=none)->OwnTailC h bmB tl->OwnTailC h bmB (.ref A::tl)
def XOb(g:G)(C:Addr)(bm:List Value):Prop:=
 ∀ P_:Prop,(∀ (N:Addr) (nm q:Str) (bs:List Value) (hdct:Bool) (sn:List Str) (sub:List Value) (ab:Bool) (col:Option Bool) (dd:Option Addr) (k0 k1 k2 k3 k5:Option Value) (mN:Str->Option Value)
  (hC:g.h₀.get? C=some (excClassObj nm q C N bs bm hdct sn sub ab col dd k0 k1 k2 k3 k5 "ValueError.__new__")) (hN:g.h₀.Ns N mN) (hi:mN "__init__" = none) (hc:∀ n∈V9,mN n=none) (T:OwnTail g.h₀ vbm bm) (U:OwnTailC g.h₀ vbm bm),P_)->P_
structure XC(g:G)(x:Str)(C:Addr)(bm:List Value):Prop where
 bound:g.mg x=some (.ref C)
 obj:XOb g C bm
section
variable{g:G}{F:Blk}{Z:List (Option V)}{M:Hp}{QS:d4}{XS:g7}
theorem bU9{x:Str}{np cpos pos:Pos}{args:List Expr}{C:Addr}{bm:List Value}(hc:XC g x C bm)(hk:F.sc.names.lookup x=some .globalImplicit)(hq:F.q=true)(hd:(x==("__debug__" : Str))=false)
  (h:Evs g F args Z M (λvs zs=>vs.length<=sizeLine/\XS x Z zs) (λx zs=>XS x Z zs)):Ex g F (.Raise (some (.Call (.Name x np) args [] cpos)) none pos) Z M QS XS:=(λA env s I=>by
 refine hc.obj _ ?_;rintro N nm q bs hdct sn sub ab col dd k0 k1 k2 k3 k5 mN hC hN hni-T -;refine c6 (h A env s cpos I) λhw hp=>?_
 have FB:ExcBaseFacts "ValueError" "ValueError.__new__" "ValueError.__init__" vbm:=PySem.F.excBase_ValueError;refine wpAny_Raise_call_subT (C:=C) (nm:=nm) (q:=q) (N:=N) (bs:=bs) (bm:=bm) (hdct:=hdct) (sn:=sn) (sub:=sub) (ab:=ab) (col:=col) (dd:=dd) (k0:=k0) (k1:=k1) (k2:=k2) (k3:=k3) (k5:=k5)
  FB (mN:=mN) (T.hasType FB.hasBase) (I.quiet hq) hp hni
  (Calls.Name_function_global I.fn (by show env.scope.names.lookup x=_;rw[I.scope];exact hk) (cT (by rw[I.glob];exact g.ns.keeps I.sim.stays) hc.bound ⟨rfl,?_⟩) hd)
 refine v5 hp (Ma3 hw (λvs sv Vs zs rs I1 st1 hq=>?_) λz_ z_ p=>p.toS)
 refine⟨rfl,by rw[rs.length];exact hq.1,I1.sim.stays _ _ hC,hN.keeps I1.sim.stays,T.keeps I1.sim.stays,λh' e hm=>?_⟩
 refine f9 hm.there λt he z_ z_=>?_
 have st:Step (inF A) d9 zs zs sv {sv with heap:=h'}:=Step.grow (tk:=sv.toks) hm.keeps
 have st2:=st1.trans st;refine(λz_ k_=>k_ x Z zs (.made e _ (λz_ k_=>k_ C _ _ rfl (st1.nix hm.new) ?_ ?_ he rfl hc.bound rfl rfl) rfl) (I1.keep st (I1.sim.grow hm.keeps)) (st2.mono λz_ h=>h.elim) hq.2)
 ·cases q:g.h₀.get? e with
  | none=>rfl
  | some o=>have:=I1.sim.stays _ _ q;rw[hm.new] at this;exact f5 this
 ·cases q:zs e with
  | none=>rfl
  | some o=>refine c5 ((I1.sim.objs _ _ q).1.has) λob e2=>?_;rw[hm.new] at e2;exact f5 e2)
end
section
variable{Ma:Model}{A:Around}{E:Value->Shared->Prop}
end
section
variable{g:G}{F:Blk}{Z:List (Option V)}{M:Hp}{QS:d4}{XS:g7}
end
section
variable{prog:Program}{w:World}{Ma:Model}{A:Around}{E:Value->Shared->Prop}{h:Heap}{g:Array GenState}{d:Drawn}{t:Nat}{os:OsState}{a:Addr}{o:Obj}
 {nm q:Str} {C N:Addr} {bs bm bmB:List Value} {hdct:Bool} {sn:List Str} {sub:List Value} {ab:Bool} {col:Option Bool} {dd:Option Addr} {k0 k1 k2 k3 k5:Option Value} {newId:String} {mN:Str->Option Value}
end
abbrev Lo:=List (Option V)
abbrev VP:=V->Hp->Prop
abbrev BP:=Bool->Hp->Prop
abbrev XP:=Str->Hp->Prop
noncomputable def xK(X:XP):g7:=λx z_ M=>X x M
noncomputable def xE(X:g7)(Z:Lo):XP:=λx M=>X x Z M
inductive Req(P K:Prop):Prop
 | mk (p:P) (k:K):Req P K
inductive New(M:Hp)(K:Addr->Prop):Prop
 | mk (k:∀ a,M a=none->K a):New M K
inductive Look(M:Hp)(a:Addr)(K:List V->Prop):Prop
 | mk (l:List V) (h:M a=some (.lst l)) (k:K l):Look M a K
inductive LookR(g:G)(M:Hp)(a:Addr)(K:List V->Prop):Prop
 | mk (l:List V) (h:M a=some (.lst l)) (k:K l):LookR g M a K
 | scr (ns:List Int) (h:Scr g a ns) (k:K (ns.map .int)):LookR g M a K
inductive Own:Hp->Addr->(Hp->List V->Prop)->Prop
 | top {M:Hp} {a:Addr} {l:List V} {K:Hp->List V->Prop} (k:K M l):Own (upd M a (.lst l)) a K
 | mk {M:Hp} {a:Addr} {K:Hp->List V->Prop} (l:List V) (h:M a=some (.lst l)) (k:K M l):Own M a K
inductive LookI(M:Hp)(a:Addr)(K:List (Int×V)->Prop):Prop
 | mk (l:List (Int×V)) (h:M a=some (.di l)) (k:K l):LookI M a K
inductive LookS(M:Hp)(a:Addr)(K:List (Str×V)->Prop):Prop
 | mk (l:List (Str×V)) (h:M a=some (.ds l)) (k:K l):LookS M a K
inductive OwnI:Hp->Addr->(Hp->List (Int×V)->Prop)->Prop
 | top {M:Hp} {a:Addr} {l:List (Int×V)} {K:Hp->List (Int×V)->Prop} (k:K M l):OwnI (upd M a (.di l)) a K
 | mk {M:Hp} {a:Addr} {K:Hp->List (Int×V)->Prop} (l:List (Int×V)) (h:M a=some (.di l)) (k:K M l):OwnI M a K
inductive OwnS:Hp->Addr->(Hp->List (Str×V)->Prop)->Prop
 | top {M:Hp} {a:Addr} {l:List (Str×V)} {K:Hp->List (Str×V)->Prop} (k:K M l):OwnS (upd M a (.ds l)) a K
 | mk {M:Hp} {a:Addr} {K:Hp->List (Str×V)->Prop} (l:List (Str×V)) (h:M a=some (.ds l)) (k:K M l):OwnS M a K
inductive DAt(o:Option V)(K:V->Prop):Prop
 | mk (v:V) (h:o=some v) (k:K v):DAt o K
inductive Ite(b:Bool)(A B:Prop):Prop
 | mk (h1:b=true->A) (h2:b=false->B):Ite b A B
inductive Stop(P:Prop):Prop
 | mk (p:P):Stop P
inductive Drop(M:Hp)(K:Hp->Prop):Prop
 | mk {M':Hp} (h:Sub M' M) (k:K M'):Drop M K
inductive Ret(v:V)(M:Hp)(Q:VP):Prop
 | mk {M':Hp} (h:Sub M' M) (k:Q v M'):Ret v M Q
inductive Pick(l:List V)(n:Int)(K:V->Prop):Prop
 | mk (h0:0<=n) (h1:n<l.length) (k:∀ x,l[n.toNat]?=some x->K x):Pick l n K
inductive Idx(l:List V)(k:Int)(K:V->Prop):Prop
 | mk (h0:0<=k) (h1:k<l.length) (hz:k<2 ^ 63) (h:∀ x,l[k.toNat]?=some x->K x):Idx l k K
inductive IdxS(x:Str)(k:Int)(K:V->Prop):Prop
 | mk (h0:0<=k) (h1:k<x.length) (hz:k<2 ^ 63) (h:∀ c,x.cps[k.toNat]?=some c->K (.str ⟨#[c]⟩)):IdxS x k K
inductive DGet(D:List (Str×Int))(s:Str)(K:V->Prop):Prop
 | none (e:D.lookup s=Option.none) (k:K .none):DGet D s K
 | some (i:Int) (e:D.lookup s=Option.some i) (k:K (.int i)):DGet D s K
inductive Srted(M:Hp)(a:Addr)(Q:VP):Prop
 | mk (l:List V) (h:M a=some (.lst l)) (hk:SK l) (h64:l.length<64) (k:∀ b l',M b=none->l'.Perm l->l'.Pairwise leV->Q (.ref b) (upd M b (.lst l'))):Srted M a Q
 | prs (ps:List (Int×Int)) (h:M a=some (.lst (ps.map tp))) (hb:∀ p∈ps,0<=p.2/\p.2<1000) (hd:ps.Nodup) (h64:ps.length<=64) (k:∀ b (ps':List (Int×Int)),M b=none->ps'.Perm ps->ps'.Pairwise leP->Q (.ref b) (upd M b (.lst (ps'.map tp)))):Srted M a Q
inductive SSet(M:Hp)(a:Addr)(Q:VP):Prop
 | mk (l:List V) (h:M a=some (.lst l)) (hk:SK l) (h64:l.length<64) (k:∀ b L,M b=none->Srt L->(∀ y,y∈L↔y∈l)->Q (.ref b) (upd M b (.lst L))):SSet M a Q
inductive AllB(M:Hp)(a:Addr)(Q:VP):Prop
 | mk (bs:List Bool) (h:M a=some (.lst (bs.map .bool))) (k:Q (.bool (bs.all id)) M):AllB M a Q
inductive AnyB(M:Hp)(a:Addr)(Q:VP):Prop
 | mk (bs:List Bool) (h:M a=some (.lst (bs.map .bool))) (k:Q (.bool (bs.any id)) M):AnyB M a Q
inductive InL(n:Bool)(d:Nat)(l:List V)(x:V)(M:Hp)(Q:VP):Prop
 | ofStrs (ss:List Str) (y:Str) (hx:x=.str y) (hl:l=ss.map .str) (k:Q (.bool (n ^^ ss.any (· == y))) M):InL n d l x M Q
 | mk (hl:flatL l=true) (hx:flat x=true) (hu:min (depL l) (dep x)+1<=8*d) (k:Q (.bool (n ^^ (i4 l).any λy=>PyData.eqv y (dat x))) M):InL n d l x M Q
inductive EqL(n:Bool)(d:Nat)(l k:List V)(M:Hp)(Q:VP):Prop
 | mk (hl:flatL l=true) (hk:flatL k=true) (hu:min (depL l) (depL k)+1<=8*d) (h:Q (.bool (n ^^ PyData.eqvAll (i4 l) (i4 k))) M):EqL n d l k M Q
inductive EqT(n:Bool)(d:Nat)(l k:List V)(M:Hp)(Q:VP):Prop
 | nil (hk:k=[]) (hn:n=false) (hd:0<d) (h:Q (.bool (l.length==0)) M):EqT n d l k M Q
 | mk (hl:flatL l=true) (hk:flatL k=true) (hu:min (depL l) (depL k)+1<=8*d) (h:Q (.bool (n ^^ PyData.eqvAll (i4 l) (i4 k))) M):EqT n d l k M Q
inductive InR(n:Bool)(d:Nat)(M:Hp)(a:Addr)(x:V)(Q:VP):Prop
 | l (h:Look M a λl=>InL n d l x M Q):InR n d M a x Q
 | i (k:Int) (e:x=.int k) (h:LookI M a λl=>Q (.bool (n ^^ (i8 l k).isSome)) M):InR n d M a x Q
 | s (k:Str) (e:x=.str k) (h:LookS M a λl=>Q (.bool (n ^^ (i8 l k).isSome)) M):InR n d M a x Q
inductive ItR(g:G)(M:Hp)(a:Addr)(k:Int)(Q:VP):Prop
 | l (h:LookR g M a λl=>Idx l k λx=>Q x M):ItR g M a k Q
 | d (h:LookI M a λl=>DAt (i8 l k) λx=>Q x M):ItR g M a k Q
inductive PtR(M:Hp)(a:Addr)(k:Int)(v:V)(K:Hp->Prop):Prop
 | l (h:Own M a λM l=>Req (0<=k/\k<l.length/\l.length<=10000) (K (upd M a (.lst (l.set k.toNat v))))):PtR M a k v K
 | d (h:OwnI M a λM l=>Req (l.length<=10000) (K (upd M a (.di (A4 l k v))))):PtR M a k v K
inductive Loop(L:List V)(K:Hp->Prop)(Z:Lo)(M:Hp)(turn:V->Lo->Hp->d4->Prop)(Q:d4):Prop
 | mk (J:List V->Lo->Hp->Prop) (h0:J L Z M) (ht:∀ v l Z' M',J (v::l) Z' M'->K M'/\turn v Z' M' (C2 Q J l)) (he:∀ Z' M',J [] Z' M'->K M'/\Q .next Z' M'):Loop L K Z M turn Q
inductive LoopR:Hp->Addr->Lo->(V->Lo->Hp->d4->Prop)->d4->Prop
 | held {M:Hp} {a:Addr} {Z:Lo} {turn:V->Lo->Hp->d4->Prop} {Q:d4} (l:List V) (h:M a=some (.lst l)) (k:Loop l (λM=>M a=some (.lst l)) Z M turn Q):LoopR M a Z turn Q
 | tmp {M:Hp} {a:Addr} {l:List V} {Z:Lo} {turn:V->Lo->Hp->d4->Prop} {Q:d4} (hn:M a=none) (k:Loop l (λz_=>True) Z M turn Q):LoopR (upd M a (.lst l)) a Z turn Q
inductive CLoop(L:List V)(K:Hp->Prop)(M:Hp)(turn:V->Hp->VP->(Hp->Prop)->Prop)(Q:VP):Prop
 | mk (J:List V->List V->Hp->Prop) (hz:L.length<=10000) (h0:J L [] M) (ht:∀ v l acc M',J (v::l) acc M'->K M'/\turn v M' (λy M=>J l (acc++[y]) M) (λM=>J l acc M))
   (he:∀ acc M',J [] acc M'->K M'/\∀ a,M' a=none->Q (.ref a) (upd M' a (.lst acc))):CLoop L K M turn Q
noncomputable def whQ(Q:d4)(J:Nat->Lo->Hp->Prop)(n:Nat):d4:=λf Z M=>match f with
 | .next=>∃ m,m<n/\J m Z M
 | .cont=>∃ m,m<n/\J m Z M
 | .brk=>Q .next Z M
 | .ret v=>Q (.ret v) Z M
inductive Whl(Z:Lo)(M:Hp)(turn:Lo->Hp->d4->(Hp->Prop)->Prop)(Q:d4):Prop
 | mk (J:Nat->Lo->Hp->Prop) (n:Nat) (h0:J n Z M) (ht:∀ n Z' M',J n Z' M'->turn Z' M' (whQ Q J n) (λzs=>Q .next Z' zs)):Whl Z M turn Q
inductive LoopZ(a b:Addr)(Z:Lo)(M:Hp)(turn:List V->Lo->Hp->d4->Prop)(Q:d4):Prop
 | mk (l m:List V) (ha:M a=some (.lst l)) (hb:M b=some (.lst m)) (J:Nat->Lo->Hp->Prop) (h0:J 0 Z M) (ht:∀ i x y Z' M',l[i]?=some x->m[i]?=some y->J i Z' M'->ZipK a b l m Z' M'/\turn [x,y] Z' M' (af9 Q J (i+1))) (he:∀ Z' M',J (min l.length m.length) Z' M'->ZipK a b l m Z' M'/\Q .next Z' M'):LoopZ a b Z M turn Q
inductive BI where
 | len | all | int | min | max | sorted | tuple | list | anyb
inductive ME where
 | append | pop
inductive TY where
 | int | bool | str | tuple | list
set_option genCtorIdx false
mutual
inductive IE where
 | k (v:V)
 | v (i:Nat)
 | bin (op:Operator) (a b:IE)
 | cmp (op:CmpOp) (a b:IE)
 | chain (o p:CmpOp) (a b c:IE)
 | not (a:IE)
 | neg (a:IE)
 | and (a b:IE)
 | or (a b:IE)
 | tup (es:IEs)
 | lst (es:IEs)
 | itm (a b:IE)
 | itk (a:IE) (n:Nat)
 | pick (es:IEs) (i:IE)
 | slc (a lo hi:IE)
 | call (f:Str) (es:IEs)
 | bi (b:BI) (es:IEs)
 | isi (a:IE) (t:TY)
 | meth (m:ME) (o:IE) (es:IEs)
 | get (D:List (Str×Int)) (a:IE)
 | lrng (a:IE)
 | sset (a:IE)
 | comp (js:List Nat) (elt:IE) (it:II) (cs:IEs)
 | pw (n:Nat) (v:Int)
 | dic0 (s:Bool)
 | dic1 (s:Bool) (a b:IE)
 | dg2 (a k z:IE)
 | isl (a:IE)
inductive IEs where
 | nil
 | cons (e:IE) (es:IEs)
inductive II where
 | e (a:IE)
 | r1 (a:IE)
 | r2 (a b:IE)
end
mutual
inductive IS where
 | ret (e:IE)
 | iff (t:IE) (a b:ISs)
 | asg (i:Nat) (e:IE)
 | seti (o i e:IE)
 | swap (i j:Nat) (a b:IE)
 | unp (is:List Nat) (i:Nat)
 | expr (e:IE)
 | brk
 | loop (t:Nat) (it:II) (body:ISs)
 | loops (ts:List Nat) (it:II) (body:ISs)
 | loopz (ts:List Nat) (es:IEs) (body:ISs)
 | whil (t:IE) (body:ISs)
 | rais (x:Str) (es:IEs)
inductive ISs where
 | nil
 | cons (s:IS) (ss:ISs)
 | stop (ss:ISs)
 | drop (ss:ISs)
 | any
end
set_option genCtorIdx true
noncomputable def oAt:Option V->(V->Prop)->Prop
 | some v,K=>K v
 | none,_=>False
noncomputable def vAt:Lo->Nat->(V->Prop)->Prop
 | x::_,0,K=>oAt x K
 | _::l,n+1,K=>vAt l n K
 | [],_,_=>False
noncomputable def lAt:List V->Nat->(V->Prop)->Prop
 | x::_,0,K=>K x
 | _::l,n+1,K=>lAt l n K
 | [],_,_=>False
noncomputable def ak0:List V->(List Str->Prop)->Prop
 | [],K=>K []
 | .str x::l,K=>ak0 l λss=>K (x::ss)
 | _,_=>False
noncomputable def ai9:V->(Option Int->Prop)->Prop
 | .none,K=>K none
 | .int i,K=>K (some i)
 | _,_=>False
noncomputable def aN1:V->V->Hp->VP->Prop
 | .int a,.int b,M,Q=>Q (.int (a+b)) M
 | .str x,.str y,M,Q=>Req (x.length+y.length<=10000) (Q (.str (x++y)) M)
 | .tup l,.tup k,M,Q=>Req (l.length+k.length<=10000) (Q (.tup (l++k)) M)
 | .ref a,.ref b,M,Q=>Look M a λl=>Look M b λk=>Req (l.length+k.length<=10000) (New M λc=>Q (.ref c) (upd M c (.lst (l++k))))
 | _,_,_,_=>False
noncomputable def am8:V->V->Hp->VP->Prop
 | .int a,.int b,M,Q=>Req (s8 a∨s8 b) (Q (.int (a*b)) M)
 | .ref a,.int n,M,Q=>Look M a λl=>Req (0<=n/\l.length*n.toNat<=10000/\n<=10000) (New M λb=>Q (.ref b) (upd M b (.lst (List.replicate n.toNat l).flatten)))
 | _,_,_,_=>False
noncomputable def B4(P:Int->Int->Prop):V->V->Prop
 | .int a,.int b=>P a b
 | _,_=>False
noncomputable def aH0(op:Operator)(x y:V)(M:Hp)(Q:VP):Prop:=match op with
 | .Add=>aN1 x y M Q
 | .Sub=>B4 (λa b=>Q (.int (a-b)) M) x y
 | .Mult=>am8 x y M Q
 | .Mod=>B4 (λa b=>Req (0<b) (Q (.int (a%b)) M)) x y
 | .FloorDiv=>B4 (λa b=>Req (0<b/\b<2 ^ 64) (Q (.int (a / b)) M)) x y
 | _=>False
noncomputable def bS4(n:Bool)(M:Hp)(Q:VP)(y:Str):V->Prop
 | .str x=>match n with
  | true=>Q (.bool (!Txt.contains y x)) M
  | false=>Q (.bool (Txt.contains y x)) M
 | _=>False
noncomputable def bT9(n:Bool)(M:Hp)(Q:VP)(l:List V):V->Prop
 | .str x=>match n with
  | true=>False
  | false=>ak0 l λss=>Q (.bool (ss.any (· == x))) M
 | _=>False
noncomputable def wIn(n:Bool)(d:Nat)(M:Hp)(Q:VP)(x:V):V->Prop
 | .str y=>bS4 n M Q y x
 | .tup l=>bT9 n M Q l x
 | .ref a=>InR n d M a x Q
 | _=>False
noncomputable def wEq(d:Nat)(M:Hp)(Q:VP):V->V->Prop
 | .int a,.int b=>Q (.bool (a==b)) M
 | .str a,.str b=>Q (.bool (a==b)) M
 | .bool a,.bool b=>Q (.bool (a==b)) M
 | .none,.int _=>Q (.bool false) M
 | .tup l,.tup k=>EqT false d l k M Q
 | .ref a,.ref b=>Look M a λl=>Look M b λk=>EqL false d l k M Q
 | _,_=>False
noncomputable def wNe(d:Nat)(M:Hp)(Q:VP):V->V->Prop
 | .int a,.int b=>Q (.bool (a != b)) M
 | .str a,.str b=>Q (.bool (a != b)) M
 | .bool a,.bool b=>Q (.bool (a != b)) M
 | .none,.int _=>Q (.bool true) M
 | .tup l,.tup k=>EqT true d l k M Q
 | .ref a,.ref b=>Look M a λl=>Look M b λk=>EqL true d l k M Q
 | _,_=>False
noncomputable def K0(d:Nat)(op:CmpOp)(x y:V)(M:Hp)(Q:VP):Prop:=match op with
 | .Lt=>B4 (λa b=>Q (.bool (decide (a<b))) M) x y
 | .LtE=>B4 (λa b=>Q (.bool (decide (a<=b))) M) x y
 | .Gt=>B4 (λa b=>Q (.bool (decide (a > b))) M) x y
 | .GtE=>B4 (λa b=>Q (.bool (decide (a≥b))) M) x y
 | .Eq=>wEq d M Q x y
 | .NotEq=>wNe d M Q x y
 | .In=>wIn false d M Q x y
 | .NotIn=>wIn true d M Q x y
 | _=>False
noncomputable def C3:V->Hp->BP->Prop
 | .bool b,M,Q=>Q b M
 | .int i,M,Q=>Q (i != 0) M
 | _,_,_=>False
noncomputable def ac4(g:G):V->V->Hp->VP->Prop
 | .tup l,.int k,M,Q=>Idx l k λx=>Q x M
 | .str x,.int k,M,Q=>IdxS x k λx=>Q x M
 | .ref a,.int k,M,Q=>ItR g M a k Q
 | .ref a,.str k,M,Q=>LookS M a λl=>DAt (i8 l k) λx=>Q x M
 | _,_,_,_=>False
noncomputable def aM5(M:Hp)(a:Addr)(v:V)(K:Hp->Prop):V->Prop
 | .int k=>PtR M a k v K
 | .str k=>OwnS M a λM l=>Req (l.length<=10000) (K (upd M a (.ds (A4 l k v))))
 | _=>False
noncomputable def aC4(g:G)(n:Nat):V->Hp->VP->Prop
 | .tup l,M,Q=>lAt l n λx=>Q x M
 | .ref a,M,Q=>LookR g M a λl=>lAt l n λx=>Q x M
 | _,_,_=>False
noncomputable def bZ7(l:List V):V->Hp->VP->Prop
 | .int n,M,Q=>Pick l n λx=>Q x M
 | _,_,_=>False
noncomputable def aD8(lo hi:Option Int):V->Hp->VP->Prop
 | .tup l,M,Q=>Req (l.length<=10000) (Q (.tup (slc lo hi l)) M)
 | .str x,M,Q=>Req (x.length<=10000) (Q (.str (sls lo hi x)) M)
 | .ref a,M,Q=>Look M a λl=>Req (l.length<=10000) (New M λb=>Q (.ref b) (upd M b (.lst (slc lo hi l))))
 | _,_,_=>False
noncomputable def aJ6(t:TY):V->Hp->VP->Prop
 | .none,M,Q=>Q (.bool false) M
 | .bool _,M,Q=>match t with
  | .int=>Q (.bool true) M
  | .bool=>Q (.bool true) M
  | _=>Q (.bool false) M
 | .int _,M,Q=>match t with
  | .int=>Q (.bool true) M
  | _=>Q (.bool false) M
 | .str _,M,Q=>match t with
  | .str=>Q (.bool true) M
  | _=>Q (.bool false) M
 | .tup _,M,Q=>match t with
  | .tuple=>Q (.bool true) M
  | _=>Q (.bool false) M
 | .ref a,M,Q=>Look M a λz_=>match t with
  | .list=>Q (.bool true) M
  | _=>Q (.bool false) M
noncomputable def ar3(g:G)(Q:VP)(M:Hp):V->Prop
 | .tup l=>Req (l.length<=10000) (Q (.int l.length) M)
 | .str x=>Req (x.length<=10000) (Q (.int x.length) M)
 | .ref a=>LookR g M a λl=>Req (l.length<=10000) (Q (.int l.length) M)
 | _=>False
noncomputable def aL9(Q:VP)(M:Hp):V->Prop
 | .tup l=>Q (.tup l) M
 | .ref a=>Look M a λl=>Req (l.length<=10000) (Q (.tup l) M)
 | _=>False
noncomputable def aA5(Q:VP)(M:Hp):V->Prop
 | .tup l=>Req (l.length<=10000) (New M λb=>Q (.ref b) (upd M b (.lst l)))
 | .ref a=>Look M a λl=>Req (l.length<=10000) (New M λb=>Q (.ref b) (upd M b (.lst l)))
 | _=>False
noncomputable def x8(P:Addr->Prop):V->Prop
 | .ref a=>P a
 | _=>False
noncomputable def aN5(P:Bool->Prop):V->Prop
 | .bool a=>P a
 | _=>False
noncomputable def U0(P:Str->Prop):V->Prop
 | .str a=>P a
 | _=>False
noncomputable def K5(P:Int->Prop):V->Prop
 | .int a=>P a
 | _=>False
noncomputable def un(P:V->Prop):List V->Prop
 | [x]=>P x
 | _=>False
noncomputable def duo(P:V->V->Prop):List V->Prop
 | [x,y]=>P x y
 | _=>False
noncomputable def aM2(M:Hp)(Q:VP):List V->Prop
 | [x,y]=>B4 (λa b=>Q (.int (min a b)) M) x y
 | _=>False
noncomputable def bw9(s:Bool)(x y:V)(M:Hp)(Q:VP):Prop:=match s with
 | true=>U0 (λk=>New M λc=>Q (.ref c) (upd M c (.ds [(k,y)]))) x
 | false=>K5 (λk=>New M λc=>Q (.ref c) (upd M c (.di [(k,y)]))) x
noncomputable def b2i(b:Bool):Int:=bif b then 1 else 0
noncomputable def wBi(g:G)(q:Bool)(b:BI)(l:List V)(M:Hp)(Q:VP):Prop:=match b with
 | .len=>un (ar3 g Q M) l
 | .all=>match q with
  | true=>un (x8 λa=>AllB M a Q) l
  | false=>False
 | .int=>un (aN5 λb=>Q (.int (b2i b)) M) l
 | .min=>match q with
  | true=>aM2 M Q l
  | false=>False
 | .max=>match q with
  | true=>duo (B4 λa b=>Q (.int (max a b)) M) l
  | false=>False
 | .sorted=>match q with
  | true=>un (x8 λa=>Srted M a Q) l
  | false=>False
 | .tuple=>un (aL9 Q M) l
 | .list=>un (aA5 Q M) l
 | .anyb=>match q with
  | true=>un (x8 λa=>AnyB M a Q) l
  | false=>False
noncomputable def wMe(m:ME)(a:Addr)(l:List V)(M:Hp)(Q:VP):Prop:=match m with
 | .append=>un (λv=>Own M a λM k=>Req (k.length<=10000) (Q .none (upd M a (.lst (k++[v]))))) l
 | .pop=>un (K5 λn=>Own M a λM k=>Req (k.length<=10000/\0<=n/\n<k.length) (∀ x,k[n.toNat]?=some x->Q x (upd M a (.lst (k.eraseIdx n.toNat))))) l
noncomputable def aH2(M:Hp)(Q:VP):V->Prop
 | .tup _=>Q (.bool true) M
 | .ref a=>Look M a λz_=>Q (.bool true) M
 | _=>False
noncomputable def wIt(Q:List V->(Hp->Prop)->Hp->Prop)(M:Hp):V->Prop
 | .tup L=>Q L (λz_=>True) M
 | .str x=>Q (E9 x) (λz_=>True) M
 | .ref a=>Look M a λL=>Q L (λM=>M a=some (.lst L)) M
 | _=>False
noncomputable def wLt(Z:Lo)(turn:V->Lo->Hp->d4->Prop)(Q:d4)(M:Hp):V->Prop
 | .tup L=>Loop L (λz_=>True) Z M turn Q
 | .str x=>Loop (E9 x) (λz_=>True) Z M turn Q
 | .ref a=>LoopR M a Z turn Q
 | _=>False
noncomputable def k2(F:Lo->Hp->VP->XP->Prop)(Z:Lo)(K:V->VP)(X:XP):VP:=λx M=>F Z M (K x) X
noncomputable def cj7(op:Operator)(Q:VP):V->VP:=λx y M=>aH0 op x y M Q
noncomputable def ay3(d:Nat)(op:CmpOp)(Q:VP):V->VP:=λx y M=>K0 d op x y M Q
noncomputable def ay8(g:G)(Q:VP):V->VP:=λx y M=>ac4 g x y M Q
noncomputable def aK0(g:G)(n:Nat)(Q:VP):VP:=λx M=>aC4 g n x M Q
noncomputable def I8(Q:BP):VP:=λv M=>C3 v M Q
noncomputable def bx8(Q:VP):BP:=λb M=>Q (.bool (!b)) M
noncomputable def ci4(F:Lo->Hp->VP->XP->Prop)(Z:Lo)(Q:VP)(X:XP):VP:=λx M=>C3 x M λt M=>Ite t (F Z M Q X) (Q x M)
noncomputable def orK(F:Lo->Hp->VP->XP->Prop)(Z:Lo)(Q:VP)(X:XP):VP:=λx M=>C3 x M λt M=>Ite t (Q x M) (F Z M Q X)
noncomputable def bl6(F:Lo->Hp->BP->XP->Prop)(Z:Lo)(Q:BP)(X:XP):BP:=λt M=>Ite t (F Z M Q X) (Q false M)
noncomputable def orT(F:Lo->Hp->BP->XP->Prop)(Z:Lo)(Q:BP)(X:XP):BP:=λt M=>Ite t (Q true M) (F Z M Q X)
noncomputable def bD5(Q:List V->Hp->Prop)(v:V):List V->Hp->Prop:=λl M=>Q (v::l) M
noncomputable def esK(F:Lo->Hp->(List V->Hp->Prop)->XP->Prop)(Z:Lo)(Q:List V->Hp->Prop)(X:XP):VP:=λv M=>F Z M (bD5 Q v) X
noncomputable def bO9(Q:VP):List V->Hp->Prop:=λl M=>Q (.tup l) M
noncomputable def aP4(Q:VP):List V->Hp->Prop:=λl M=>New M λa=>Q (.ref a) (upd M a (.lst l))
noncomputable def clK(g:G)(d:Nat)(q:Bool)(f:Str)(Q:VP)(X:XP):List V->Hp->Prop:=λl M=>c7 g d q f l M Q X
noncomputable def biK(g:G)(q:Bool)(b:BI)(Q:VP):List V->Hp->Prop:=λl M=>wBi g q b l M Q
noncomputable def itK(Q:List V->(Hp->Prop)->Hp->Prop):VP:=λx M=>wIt Q M x
noncomputable def bA1(Q:List V->(Hp->Prop)->Hp->Prop):VP:=λx M=>K5 (λb=>Req (s8 b) (Q (g9 0 1 (b-0).toNat) (λz_=>True) M)) x
noncomputable def bT6(Z:Lo)(turn:V->Lo->Hp->d4->Prop)(Q:d4):VP:=λx M=>wLt Z turn Q M x
noncomputable def sq(F:Lo->Hp->d4->g7->Prop)(Q:d4)(X:g7):d4:=λf Z M=>match f with
 | .next=>F Z M Q X
 | f=>Q f Z M
noncomputable def bw3(Z:Lo)(Q:d4):VP:=λv M=>Q (.ret v) Z M
noncomputable def bQ2(F H:Lo->Hp->d4->g7->Prop)(Z:Lo)(Q:d4)(X:g7):BP:=λc M=>Ite c (F Z M Q X) (H Z M Q X)
noncomputable def aV4(i:Nat)(Z:Lo)(Q:d4):VP:=λv M=>Q .next (Z.set i (some v)) M
noncomputable def bM6(Z:Lo)(Q:d4):VP:=λz_ M=>Q .next Z M
noncomputable def lpK(F:Lo->Hp->d4->g7->Prop)(i:Nat)(X:g7):V->Lo->Hp->d4->Prop:=λv Z M Q=>F (Z.set i (some v)) M Q X
noncomputable def aX3(F:Lo->Hp->d4->g7->Prop)(Z:Lo)(Q:d4)(X:g7)(no:Hp->Prop):BP:=λb M=>Ite b (F Z M Q X) (no M)
noncomputable def bk7(E:Lo->Hp->VP->XP->Prop)(Z:Lo)(yes:VP)(no:Hp->Prop):BP:=λb M=>Ite b (E Z M yes noX) (no M)
noncomputable def whK(T:Lo->Hp->BP->XP->Prop)(F:Lo->Hp->d4->g7->Prop)(X:g7):Lo->Hp->d4->(Hp->Prop)->Prop:=λZ M Q' no=>T Z M (aX3 F Z Q' X no) (xE X Z)
noncomputable def cj1(C:Lo->Hp->BP->Prop)(E:Lo->Hp->VP->XP->Prop)(Z:Lo)(js:List Nat):V->Hp->VP->(Hp->Prop)->Prop:=λv M yes no=>C (some v::u9 Z js) M (bk7 E (some v::u9 Z js) yes no)
noncomputable def bL2(turn:V->Hp->VP->(Hp->Prop)->Prop)(Q:VP):List V->(Hp->Prop)->Hp->Prop:=λL K M=>CLoop L K M turn Q
noncomputable def bB3(m:ME)(a:Addr)(Q:VP):List V->Hp->Prop:=λl M=>wMe m a l M Q
noncomputable def bm8(m:ME)(F:Lo->Hp->(List V->Hp->Prop)->XP->Prop)(Z:Lo)(Q:VP)(X:XP):VP:=λx M=>x8 (λa=>Look M a λz_=>F Z M (bB3 m a Q) X) x
noncomputable def ar8(t:TY)(Q:VP):VP:=λx M=>aJ6 t x M Q
mutual
noncomputable def wE(g:G)(d:Nat)(q:Bool):IE->Lo->Hp->VP->XP->Prop
 | .k v,Z,M,Q,X=>Q v M
 | .v i,Z,M,Q,X=>vAt Z i λv=>Q v M
 | .bin op a b,Z,M,Q,X=>wE g d q a Z M (k2 (wE g d q b) Z (cj7 op Q) X) X
 | .cmp op a b,Z,M,Q,X=>wE g d q a Z M (k2 (wE g d q b) Z (ay3 d op Q) X) X
 | .chain o p a b c,Z,M,Q,X=>wE g d q a Z M (λx M=>wE g d q b Z M (λy M=>K0 d o x y M λt M=>C3 t M λtt M=>Ite tt (wE g d q c Z M (λz M=>K0 d p y z M Q) X) (Q t M)) X) X
 | .not a,Z,M,Q,X=>wE g d q a Z M (I8 (bx8 Q)) X
 | .neg a,Z,M,Q,X=>wE g d q a Z M (λx M=>K5 (λi=>Q (.int (-i)) M) x) X
 | .and a b,Z,M,Q,X=>wE g d q a Z M (ci4 (wE g d q b) Z Q X) X
 | .or a b,Z,M,Q,X=>wE g d q a Z M (orK (wE g d q b) Z Q X) X
 | .tup es,Z,M,Q,X=>wEs g d q es Z M (bO9 Q) X
 | .lst es,Z,M,Q,X=>wEs g d q es Z M (aP4 Q) X
 | .itm a b,Z,M,Q,X=>wE g d q a Z M (k2 (wE g d q b) Z (ay8 g Q) X) X
 | .itk a n,Z,M,Q,X=>wE g d q a Z M (aK0 g n Q) X
 | .pick es i,Z,M,Q,X=>wEs g d q es Z M (λl M=>wE g d q i Z M (λk M=>bZ7 l k M Q) X) X
 | .slc a lo hi,Z,M,Q,X=>wE g d q a Z M (λx M=>wE g d q lo Z M (λu M=>wE g d q hi Z M (λw M=>ai9 u λu=>ai9 w λw=>aD8 u w x M Q) X) X) X
 | .call f es,Z,M,Q,X=>wEs g d q es Z M (clK g d q f Q X) X
 | .bi b es,Z,M,Q,X=>wEs g d q es Z M (biK g q b Q) X
 | .isi a t,Z,M,Q,X=>wE g d q a Z M (ar8 t Q) X
 | .meth m o es,Z,M,Q,X=>wE g d q o Z M (bm8 m (wEs g d q es) Z Q X) X
 | .get D a,Z,M,Q,X=>wE g d q a Z M (λx M=>U0 (λs=>DGet D s λv=>Q v M) x) X
 | .lrng a,Z,M,Q,X=>match q with
  | true=>wE g d true a Z M (λx M=>K5 (λn=>Req (0<=n/\n<=10000) (New M λb=>Q (.ref b) (upd M b (.lst (g9 0 1 n.toNat))))) x) X
  | false=>False
 | .sset a,Z,M,Q,X=>match q with
  | true=>wE g d true a Z M (λx M=>x8 (λa=>SSet M a Q) x) X
  | false=>False
 | .comp js elt it cs,Z,M,Q,X=>match q with
  | true=>wI g d true it Z M (bL2 (cj1 (wC g d true cs) (wE g d true elt) Z js) Q) X
  | false=>False
 | .pw _ v,Z,M,Q,X=>Q (.int v) M
 | .dic0 s,Z,M,Q,X=>match s with
  | true=>New M λc=>Q (.ref c) (upd M c (.ds []))
  | false=>New M λc=>Q (.ref c) (upd M c (.di []))
 | .dic1 s a b,Z,M,Q,X=>wE g d q a Z M (λx M=>wE g d q b Z M (λy M=>bw9 s x y M Q) X) X
 | .dg2 a k z,Z,M,Q,X=>wE g d q a Z M (λx M=>x8 (λa=>LookS M a λz_=>wE g d q k Z M (λy M=>wE g d q z Z M (λw M=>U0 (λn=>LookS M a λl=>Q ((i8 l n).getD w) M) y) X) X) x) X
 | .isl a,Z,M,Q,X=>wE g d q a Z M (λx M=>aH2 M Q x) X
noncomputable def wEs(g:G)(d:Nat)(q:Bool):IEs->Lo->Hp->(List V->Hp->Prop)->XP->Prop
 | .nil,Z,M,Q,X=>Q [] M
 | .cons e es,Z,M,Q,X=>wE g d q e Z M (esK (wEs g d q es) Z Q X) X
noncomputable def wI(g:G)(d:Nat)(q:Bool):II->Lo->Hp->(List V->(Hp->Prop)->Hp->Prop)->XP->Prop
 | .e a,Z,M,Q,X=>wE g d q a Z M (itK Q) X
 | .r1 a,Z,M,Q,X=>wE g d q a Z M (bA1 Q) X
 | .r2 a b,Z,M,Q,X=>wE g d q a Z M (λx M=>wE g d q b Z M (λy M=>B4 (λa b=>Req (s8 a/\s8 b) (Q (g9 a 1 (b-a).toNat) (λz_=>True) M)) x y) X) X
noncomputable def wT(g:G)(d:Nat)(q:Bool):IE->Lo->Hp->BP->XP->Prop
 | .and a b,Z,M,Q,X=>wT g d q a Z M (bl6 (wT g d q b) Z Q X) X
 | .or a b,Z,M,Q,X=>wT g d q a Z M (orT (wT g d q b) Z Q X) X
 | .not a,Z,M,Q,X=>wT g d q a Z M (λt M=>Q (!t) M) X
 | .chain o p a b c,Z,M,Q,X=>wE g d q a Z M (λx M=>wE g d q b Z M (λy M=>K0 d o x y M λt M=>C3 t M λtt M=>Ite tt (wE g d q c Z M (λz M=>K0 d p y z M λt M=>C3 t M Q) X) (Q false M)) X) X
 | .cmp op a b,Z,M,Q,X=>wE g d q a Z M (k2 (wE g d q b) Z (ay3 d op (I8 Q)) X) X
 | .v i,Z,M,Q,X=>vAt Z i λv=>C3 v M Q
 | .call f es,Z,M,Q,X=>wEs g d q es Z M (clK g d q f (I8 Q) X) X
 | .isi a t,Z,M,Q,X=>wE g d q a Z M (ar8 t (I8 Q)) X
 | .isl a,Z,M,Q,X=>wE g d q a Z M (λx M=>aH2 M (λv M=>C3 v M Q) x) X
 | .bi b es,Z,M,Q,X=>wEs g d q es Z M (biK g q b (I8 Q)) X
 | .itm a b,Z,M,Q,X=>wE g d q a Z M (k2 (wE g d q b) Z (ay8 g (I8 Q)) X) X
 | .itk a n,Z,M,Q,X=>wE g d q a Z M (aK0 g n (I8 Q)) X
 | _,_,_,_,_=>False
noncomputable def wC(g:G)(d:Nat)(q:Bool):IEs->Lo->Hp->BP->Prop
 | .nil,Z,M,Q=>Q true M
 | .cons t .nil,Z,M,Q=>wT g d q t Z M Q noX
 | _,_,_,_=>False
end
noncomputable def N3:List Nat->List V->Lo->(Lo->Prop)->Prop
 | [],[],Z,K=>K Z
 | i::is,v::vs,Z,K=>N3 is vs (Z.set i (some v)) K
 | _,_,_,_=>False
noncomputable def ad7(P:List V->Prop):V->Prop
 | .tup a=>P a
 | _=>False
noncomputable def ab5(g:G)(d:Nat)(it:II)(Z:Lo)(M:Hp)(turn:V->Lo->Hp->d4->Prop)(Q:d4)(X:XP):Prop:=match it with
 | .e a=>wE g d true a Z M (bT6 Z turn Q) X
 | it=>wI g d true it Z M (λL K M=>Loop L K Z M turn Q) X
mutual
noncomputable def wS(g:G)(d:Nat)(q:Bool):IS->Lo->Hp->d4->g7->Prop
 | .ret e,Z,M,Q,X=>wE g d q e Z M (bw3 Z Q) (xE X Z)
 | .iff t a b,Z,M,Q,X=>wT g d q t Z M (bQ2 (wSs g d q a) (wSs g d q b) Z Q X) (xE X Z)
 | .asg i e,Z,M,Q,X=>wE g d q e Z M (aV4 i Z Q) (xE X Z)
 | .seti o i e,Z,M,Q,X=>wE g d q e Z M (λv M=>wE g d q o Z M (λa M=>wE g d q i Z M (λk M=>
   x8 (λa=>aM5 M a v (λM=>Q .next Z M) k) a) (xE X Z)) (xE X Z)) (xE X Z)
 | .swap i j a b,Z,M,Q,X=>match q with
  | true=>wE g d true a Z M (λu M=>wE g d true b Z M (λw M=>Q .next ((Z.set j (some w)).set i (some u)) M) (xE X Z)) (xE X Z)
  | false=>False
 | .unp is i,Z,M,Q,X=>match q with
  | true=>vAt Z i λv=>ad7 (λl=>N3 is l Z λZ=>Q .next Z M) v
  | false=>False
 | .expr e,Z,M,Q,X=>wE g d q e Z M (bM6 Z Q) (xE X Z)
 | .brk,Z,M,Q,X=>Q .brk Z M
 | .loop i it body,Z,M,Q,X=>match q with
  | true=>ab5 g d it Z M (lpK (wSs g d true body) i X) Q (xE X Z)
  | false=>False
 | .loops is it body,Z,M,Q,X=>match q with
  | true=>ab5 g d it Z M (λv Z M Q=>ad7 (λl=>N3 is l Z λZ=>wSs g d true body Z M Q X) v) Q (xE X Z)
  | false=>False
 | .loopz is es body,Z,M,Q,X=>match q with
  | true=>wEs g d true es Z M (λl M=>duo (λx y=>x8 (λa=>x8 (λb=>LoopZ a b Z M (λv Z M Q=>N3 is v Z λZ=>wSs g d true body Z M Q X) Q) y) x) l) (xE X Z)
  | false=>False
 | .whil t body,Z,M,Q,X=>Whl Z M (whK (wT g d q t) (wSs g d q body) X) Q
 | .rais x es,Z,M,Q,X=>match q with
  | true=>wEs g d true es Z M (λz_ M=>X x Z M) (xE X Z)
  | false=>False
noncomputable def wSs(g:G)(d:Nat)(q:Bool):ISs->Lo->Hp->d4->g7->Prop
 | .nil,Z,M,Q,X=>Q .next Z M
 | .cons s ss,Z,M,Q,X=>wS g d q s Z M (sq (wSs g d q ss) Q X) X
 | .stop ss,Z,M,Q,X=>Stop (wSs g d q ss Z M Q X)
 | .drop ss,Z,M,Q,X=>Drop M λM=>wSs g d q ss Z M Q X
 | .any,_,_,_,_=>False
end
noncomputable def e9(Q:VP):d4:=λf z_ M=>match f with
 | .ret v=>Ret v M Q
 | _=>Ret .none M Q
inductive Item where
 | fn (k:Nat)
 | int (i:Int)
 | str (s:Str)
 | bi (id:String)
 | ty (id:String)
 | dict (D:List (Str×Int))
 | cls (C:Addr) (bm:List Value)
abbrev Tab:=List (Str×Item)
noncomputable def ag8(g:G)(x:Str):Item->Prop
 | .fn k=>FnAt g x (f3 g.prog k).params (f3 g.prog k).body (f3 g.prog k).scope
 | .int i=>Gi g x i
 | .str s=>Gs g x s
 | .bi id=>Bi g x (.builtin id)
 | .ty id=>Bi g x (.type id)
 | .dict D=>Gd g x D
 | .cls C bm=>XC g x C bm
class inductive TabOK (g:G):Tab->Prop
 | nil:TabOK g []
 | cons {x:Str} {it:Item} {T:Tab} (h:ag8 g x it) (r:TabOK g T):TabOK g ((x,it)::T)
theorem TabOK.at'{g:G}{T:Tab}(h:TabOK g T):∀ {x:Str} {it:Item},T.lookup x=some it->ag8 g x it:=by
 induction h with
 | nil=>intro x it e;cases e
 | @cons y jt T h r ih=>
  intro x it e;rw[bu] at e;cases hy:x==y with
  | true=>rw[hy] at e;cases e;rw[beq_iff_eq.mp hy];exact h
  | false=>rw[hy] at e;exact ih e
theorem no{α:Type}{t:α}{P:Prop}(h:none=some t):P:=nomatch h
structure EP where
 name:Option Str:=none
 const:Option Const:=none
 bin:Option (Expr×Operator×Expr):=none
 un:Option (UnaryOp×Expr):=none
 bool:Option (BoolOp×List Expr×Pos):=none
 cmp:Option (Expr×List CmpOp×List Expr):=none
 tup:Option (List Expr):=none
 lst:Option (List Expr):=none
 sub:Option (Expr×Expr):=none
 slc:Option (Option Expr×Option Expr×Option Expr):=none
 call:Option (Expr×List Expr×List Keyword×Pos):=none
 attr:Option (Expr×Str×Pos):=none
 comp:Option (Expr×List Comprehension×Scope):=none
 dict:Option (List (Option Expr)×List Expr):=none
 star:Bool:=false
 set:Bool:=false
 odd:Bool:=false
noncomputable def EP.z:EP:={}
noncomputable def EP.o:EP:={odd:=true}
noncomputable def ep(e:Expr):EP:=Expr.casesOn (motive_1:=λz_=>EP) e (λo l p=>{bool:=some (o,l,p)}) (λz_ z_ z_=>.z) (λl o r z_=>{bin:=some (l,o,r)}) (λo r z_=>{un:=some (o,r)}) (λz_ z_ z_ z_=>.z) (λz_ z_ z_ z_=>.o) (λk v z_=>{dict:=some (k,v)}) (λz_ z_ z_=>{set:=true,odd:=true}) (λe l s z_=>{comp:=some (e,l,s),odd:=true}) (λz_ z_ z_ z_=>.o) (λz_ z_ z_ z_ z_=>.o) (λz_ z_ z_ z_=>.z) (λz_ z_=>.z) (λz_ z_=>.z) (λz_ z_=>.z) (λl o r z_=>{cmp:=some (l,o,r)}) (λf a k p=>{call:=some (f,a,k,p)}) (λz_ z_ z_ z_=>.z) (λz_ z_=>.z) (λc z_ z_=>{const:=some c}) (λo x p=>{attr:=some (o,x,p)}) (λa b z_=>{sub:=some (a,b)}) (λz_ z_=>{star:=true,odd:=true}) (λx z_=>{name:=some x}) (λl z_=>{lst:=some l}) (λl z_ z_=>{tup:=some l}) (λa b c z_=>{slc:=some (a,b,c)})
structure EOK(p:EP)(x:Expr):Prop where
 name:∀ t,p.name=some t->∃ p,x=.Name t p
 const:∀ t,p.const=some t->∃ k p,x=.Constant t k p
 bin:∀ t,p.bin=some t->∃ p,x=.BinOp t.1 t.2.1 t.2.2 p
 un:∀ t,p.un=some t->∃ p,x=.UnaryOp t.1 t.2 p
 bool:∀ t,p.bool=some t->x=.BoolOp t.1 t.2.1 t.2.2
 cmp:∀ t,p.cmp=some t->∃ p,x=.Compare t.1 t.2.1 t.2.2 p
 tup:∀ t,p.tup=some t->∃ k p,x=.Tuple t k p
 lst:∀ t,p.lst=some t->∃ p,x=.List t p
 sub:∀ t,p.sub=some t->∃ p,x=.Subscript t.1 t.2 p
 slc:∀ t,p.slc=some t->∃ p,x=.Slice t.1 t.2.1 t.2.2 p
 call:∀ t,p.call=some t->x=.Call t.1 t.2.1 t.2.2.1 t.2.2.2
 attr:∀ t,p.attr=some t->x=.Attribute t.1 t.2.1 t.2.2
 comp:∀ t,p.comp=some t->∃ p,x=.ListComp t.1 t.2.1 t.2.2 p
 dict:∀ t,p.dict=some t->∃ p,x=.Dict t.1 t.2 p
theorem n6{x:Expr}:EOK .z x:=⟨λz_=>no,λz_=>no,λz_=>no,λz_=>no,λz_=>no,λz_=>no,λz_=>no,λz_=>no,λz_=>no,λz_=>no,λz_=>no,λz_=>no,λz_=>no,λz_=>no⟩
theorem af2{x:Expr}:EOK .o x:=⟨λz_=>no,λz_=>no,λz_=>no,λz_=>no,λz_=>no,λz_=>no,λz_=>no,λz_=>no,λz_=>no,λz_=>no,λz_=>no,λz_=>no,λz_=>no,λz_=>no⟩
theorem v6(e:Expr):EOK (ep e) e:=Expr.casesOn (motive_1:=λe=>EOK (ep e) e) e
 (λo l p=>{(n6:EOK .z _) with bool:=λt h=>by obtain rfl:=Option.some.inj h;rfl})
 (λz_ z_ z_=>n6)
 (λl o r p=>{(n6:EOK .z _) with bin:=λt h=>by obtain rfl:=Option.some.inj h;exact⟨p,rfl⟩})
 (λo r p=>{(n6:EOK .z _) with un:=λt h=>by obtain rfl:=Option.some.inj h;exact⟨p,rfl⟩})
 (λz_ z_ z_ z_=>n6) (λz_ z_ z_ z_=>af2) (λk v p=>{(n6:EOK .z _) with dict:=λt h=>by obtain rfl:=Option.some.inj h;exact⟨p,rfl⟩}) (λz_ z_ z_=>{(n6:EOK .z _) with})
 (λe l s p=>{(n6:EOK .z _) with comp:=λt h=>by obtain rfl:=Option.some.inj h;exact⟨p,rfl⟩})
 (λz_ z_ z_ z_=>af2) (λz_ z_ z_ z_ z_=>af2) (λz_ z_ z_ z_=>n6) (λz_ z_=>n6) (λz_ z_=>n6) (λz_ z_=>n6)
 (λl o r p=>{(n6:EOK .z _) with cmp:=λt h=>by obtain rfl:=Option.some.inj h;exact⟨p,rfl⟩})
 (λf a k p=>{(n6:EOK .z _) with call:=λt h=>by obtain rfl:=Option.some.inj h;rfl})
 (λz_ z_ z_ z_=>n6) (λz_ z_=>n6)
 (λc k p=>{(n6:EOK .z _) with const:=λt h=>by obtain rfl:=Option.some.inj h;exact⟨k,p,rfl⟩})
 (λo x p=>{(n6:EOK .z _) with attr:=λt h=>by obtain rfl:=Option.some.inj h;rfl})
 (λa b p=>{(n6:EOK .z _) with sub:=λt h=>by obtain rfl:=Option.some.inj h;exact⟨p,rfl⟩})
 (λz_ z_=>{(n6:EOK .z _) with})
 (λx p=>{(n6:EOK .z _) with name:=λt h=>by obtain rfl:=Option.some.inj h;exact⟨p,rfl⟩})
 (λl p=>{(n6:EOK .z _) with lst:=λt h=>by obtain rfl:=Option.some.inj h;exact⟨p,rfl⟩})
 (λl k p=>{(n6:EOK .z _) with tup:=λt h=>by obtain rfl:=Option.some.inj h;exact⟨k,p,rfl⟩})
 (λa b c p=>{(n6:EOK .z _) with slc:=λt h=>by obtain rfl:=Option.some.inj h;exact⟨p,rfl⟩})
noncomputable def s7(e:Expr):Option Str:=(ep e).name
theorem G0{x:Expr}{t:Str}(h:s7 x=some t):∃ p,x=.Name t p:=(v6 x).name t h
noncomputable def D6(e:Expr):Option Const:=(ep e).const
theorem aP2{x:Expr}{t:Const}(h:D6 x=some t):∃ k p,x=.Constant t k p:=(v6 x).const t h
noncomputable def V2(e:Expr):Option (Expr×Operator×Expr):=(ep e).bin
theorem bl1{x:Expr}{t:(Expr×Operator×Expr)}(h:V2 x=some t):∃ p,x=.BinOp t.1 t.2.1 t.2.2 p:=(v6 x).bin t h
noncomputable def R4(e:Expr):Option (UnaryOp×Expr):=(ep e).un
theorem aY3{x:Expr}{t:(UnaryOp×Expr)}(h:R4 x=some t):∃ p,x=.UnaryOp t.1 t.2 p:=(v6 x).un t h
noncomputable def S8(e:Expr):Option (BoolOp×List Expr×Pos):=(ep e).bool
theorem bE4{x:Expr}{t:(BoolOp×List Expr×Pos)}(h:S8 x=some t):x=.BoolOp t.1 t.2.1 t.2.2:=(v6 x).bool t h
noncomputable def P0(e:Expr):Option (Expr×List CmpOp×List Expr):=(ep e).cmp
theorem aj2{x:Expr}{t:(Expr×List CmpOp×List Expr)}(h:P0 x=some t):∃ p,x=.Compare t.1 t.2.1 t.2.2 p:=(v6 x).cmp t h
noncomputable def C7(e:Expr):Option (List Expr):=(ep e).tup
theorem R6{x:Expr}{t:(List Expr)}(h:C7 x=some t):∃ k p,x=.Tuple t k p:=(v6 x).tup t h
noncomputable def Z4(e:Expr):Option (List Expr):=(ep e).lst
theorem at2{x:Expr}{t:(List Expr)}(h:Z4 x=some t):∃ p,x=.List t p:=(v6 x).lst t h
noncomputable def G8(e:Expr):Option (Expr×Expr):=(ep e).sub
theorem ap2{x:Expr}{t:(Expr×Expr)}(h:G8 x=some t):∃ p,x=.Subscript t.1 t.2 p:=(v6 x).sub t h
noncomputable def H9(e:Expr):Option (Option Expr×Option Expr×Option Expr):=(ep e).slc
theorem cf5{x:Expr}{t:(Option Expr×Option Expr×Option Expr)}(h:H9 x=some t):∃ p,x=.Slice t.1 t.2.1 t.2.2 p:=(v6 x).slc t h
noncomputable def E6(e:Expr):Option (Expr×List Expr×List Keyword×Pos):=(ep e).call
theorem aL4{x:Expr}{t:(Expr×List Expr×List Keyword×Pos)}(h:E6 x=some t):x=.Call t.1 t.2.1 t.2.2.1 t.2.2.2:=(v6 x).call t h
noncomputable def Q8(e:Expr):Option (Expr×Str×Pos):=(ep e).attr
theorem bq4{x:Expr}{t:(Expr×Str×Pos)}(h:Q8 x=some t):x=.Attribute t.1 t.2.1 t.2.2:=(v6 x).attr t h
noncomputable def ae3(e:Expr):Option (Expr×List Comprehension×Scope):=(ep e).comp
theorem bs6{x:Expr}{t:(Expr×List Comprehension×Scope)}(h:ae3 x=some t):∃ p,x=.ListComp t.1 t.2.1 t.2.2 p:=(v6 x).comp t h
noncomputable def Z6(e:Expr):Option (List (Option Expr)×List Expr):=(ep e).dict
theorem aM8{x:Expr}{t:List (Option Expr)×List Expr}(h:Z6 x=some t):∃ p,x=.Dict t.1 t.2 p:=(v6 x).dict t h
noncomputable def star(e:Expr):Bool:=(ep e).star
noncomputable def ab2(e:Expr):Bool:=(ep e).set
noncomputable def odd(e:Expr):Bool:=(ep e).odd
noncomputable def Ma6(e:Expr):Bool:=!odd e&&(R4 e).isNone&&(S8 e).isNone&&(P0 e).isNone
structure EOF(x:Expr):Prop where
 star:star x=false->∀ (es:List Expr) (env:Env),starEach (x::es) env=(false,eval x env)::starEach es env
 swaps:odd x=false->∀ (t:Option Expr) (n:Nat) (env:Env),swapsWith x t n env=pure false
 swsub:∀ (o i:Expr) (p:Pos) (n:Nat) (env:Env),swapsWith x (some (.Subscript o i p)) n env=pure false
 fold:ab2 x=false->∀ (env:Env) (v:Value),foldedSetIterable x env v=pure v
 subs:H9 x=none->∀ (o i:Value),subscripted x false o i=operate [o,i] (getItem o i)
 base:E6 x=none->∀ (n:Str) (env:Env) (w:Sem Value),attributeBase x n env w=w
 tru:Ma6 x=true->∀ (env:Env) (w:Sem Value),isTrue x env w=(do let v <- w;standAt x.pos;holding [v] (truthy v))
theorem ft{P:Prop}(h:true=false):P:=(ag h.symm).elim
theorem tf{P:Prop}(h:false=true):P:=(ag h).elim
theorem sn{α:Type}{t:α}{P:Prop}(h:some t=none):P:=nomatch h
theorem I0(x:Expr):EOF x:=by
 refine Expr.casesOn (motive_1:=λx=>EOF x) x ?_ ?_ ?_ ?_ ?_ ?_ ?_ ?_ ?_ ?_ ?_ ?_ ?_ ?_ ?_ ?_ ?_ ?_ ?_ ?_ ?_ ?_ ?_ ?_ ?_ ?_ ?_<;>intros<;>refine⟨?_,?_,λz_ z_ z_ z_ z_=>rfl,?_,?_,?_,?_⟩
 all_goals first | exact λz_ z_ z_=>rfl | exact λz_ z_ z_ z_=>rfl | exact ft | exact sn | exact tf
theorem u8{e:Expr}(h:star e=false){es:List Expr}{env:Env}:starEach (e::es) env=(false,eval e env)::starEach es env:=(I0 e).star h _ _
theorem aF4{e:Expr}(h:odd e=false){t:Option Expr}{n:Nat}{env:Env}:swapsWith e t n env=pure false:=(I0 e).swaps h _ _ _
theorem bv0{e o i:Expr}{p:Pos}{n:Nat}{env:Env}:swapsWith e (some (.Subscript o i p)) n env=pure false:=(I0 e).swsub _ _ _ _ _
theorem ao9{e:Expr}(h:ab2 e=false){env:Env}{x:Value}:foldedSetIterable e env x=pure x:=(I0 e).fold h _ _
theorem ae4{e:Expr}(h:H9 e=none){o i:Value}:subscripted e false o i=operate [o,i] (getItem o i):=(I0 e).subs h _ _
theorem by9{e:Expr}(h:E6 e=none){x:Str}{env:Env}{w:Sem Value}:attributeBase e x env w=w:=(I0 e).base h _ _ _
theorem bp4{e:Expr}(h:Ma6 e=true){env:Env}{w:Sem Value}:isTrue e env w=(do let v <- w;standAt e.pos;holding [v] (truthy v)):=(I0 e).tru h _ _
noncomputable def S6(o:BoolOp)(p:Pos)(e:Expr):List Expr->Expr
 | []=>e
 | es=>.BoolOp o (e::es) p
noncomputable def gl(sc:Scope)(x:Str):Bool:=decide (sc.names.lookup x=some .globalImplicit) && !(x==("__debug__" : Str))
noncomputable def aG3:Option Item->Bool
 | some (.fn _)=>true
 | _=>false
noncomputable def C1(id:String):Option Item->Bool
 | some (.bi x)=>decide (x=id)
 | _=>false
noncomputable def z0(id:String):Option Item->Bool
 | some (.ty x)=>decide (x=id)
 | _=>false
noncomputable def aI8(D:List (Str×Int)):Option Item->Bool
 | some (.dict x)=>decide (x=D)
 | _=>false
noncomputable def aN4:Option Item->Bool
 | some (.cls _ _)=>true
 | _=>false
noncomputable def isV:Option Item->V->Bool
 | some (.int i),.int j=>decide (i=j)
 | some (.str i),.str j=>decide (i=j)
 | _,_=>false
noncomputable def isC:Option Const->V->Bool
 | some .none,.none=>true
 | some (.bool i),.bool j=>decide (i=j)
 | some (.int i),.int j=>decide (i=j)
 | some (.str i),.str j=>decide (i=j)
 | _,_=>false
noncomputable def isG(T:Tab)(sc:Scope)(v:V):Option Str->Bool
 | some n=>gl sc n&&isV (T.lookup n) v
 | none=>false
noncomputable def BI.has(b:BI)(o:Option Item):Bool:=match b with
 | .len=>C1 "len" o
 | .all=>C1 "all" o
 | .anyb=>C1 "any" o
 | .int=>z0 "int" o
 | .min=>C1 "min" o
 | .max=>C1 "max" o
 | .sorted=>C1 "sorted" o
 | .tuple=>z0 "tuple" o
 | .list=>z0 "list" o
noncomputable def TY.nm:TY->String
 | .int=>"int"
 | .bool=>"bool"
 | .str=>"str"
 | .tuple=>"tuple"
 | .list=>"list"
noncomputable def ME.nm:ME->Str
 | .append=>Str.ofString "append"
 | .pop=>Str.ofString "pop"
noncomputable def ai6:IE->Bool
 | .k .none=>true
 | _=>false
noncomputable def ab8(f:Expr->Bool)(z:Bool):Option Expr->Bool
 | none=>z
 | some e=>f e
noncomputable def d8{α:Type}(o:Option α)(f:α->Bool):Bool:=match o with
 | some t=>f t
 | none=>false
noncomputable def one{α:Type}(l:List α)(f:α->Bool):Bool:=match l with
 | [x]=>f x
 | _=>false
noncomputable def two{α:Type}(l:List α)(f:α->α->Bool):Bool:=match l with
 | [x,y]=>f x y
 | _=>false
noncomputable def ag0{α:Type}(l:List α)(f:α->α->List α->Bool):Bool:=match l with
 | x::y::r=>f x y r
 | _=>false
theorem b9{a b:Bool}(h:(a&&b)=true):a=true/\b=true:=by cases a<;>cases b<;>first | exact⟨rfl,rfl⟩ | exact(ag h).elim
inductive A7(a b c d e f g:Bool):Prop
 | mk (h1:a=true) (h2:b=true) (h3:c=true) (h4:d=true) (h5:e=true) (h6:f=true) (h7:g=true):A7 a b c d e f g
theorem an1{a b c d e f g:Bool}(h:(a&&(b&&(c&&(d&&(e&&(f&&g))))))=true):A7 a b c d e f g:=
 ⟨(b9 h).1,(b9 (b9 h).2).1,(b9 (b9 (b9 h).2).2).1,(b9 (b9 (b9 (b9 h).2).2).2).1,(b9 (b9 (b9 (b9 (b9 h).2).2).2).2).1,(b9 (b9 (b9 (b9 (b9 (b9 h).2).2).2).2).2).1,(b9 (b9 (b9 (b9 (b9 (b9 h).2).2).2).2).2).2⟩
theorem l6{a:Bool}(h:(!a)=true):a=false:=by cases a<;>first | rfl | exact(ag h).elim
theorem i5{α:Type}{o:Option α}{f:α->Bool}(h:d8 o f=true):∃ t,o=some t/\f t=true:=by
 cases o with
 | none=>exact(ag h).elim
 | some t=>exact⟨t,rfl,h⟩
theorem s6{α:Type}{l:List α}{f:α->Bool}(h:one l f=true):∃ t,l=[t]/\f t=true:=by
 cases l with
 | nil=>exact(ag h).elim
 | cons x l=>cases l with
  | nil=>exact⟨x,rfl,h⟩
  | cons _ _=>exact(ag h).elim
theorem x4{α:Type}{l:List α}{f:α->α->Bool}(h:two l f=true):∃ t u,l=[t,u]/\f t u=true:=by
 cases l with
 | nil=>exact(ag h).elim
 | cons x l=>cases l with
  | nil=>exact(ag h).elim
  | cons y l=>cases l with
   | nil=>exact⟨x,y,rfl,h⟩
   | cons _ _=>exact(ag h).elim
theorem Z2{α:Type}{l:List α}{f:α->α->List α->Bool}(h:ag0 l f=true):∃ t u r,l=t::u::r/\f t u r=true:=by
 cases l with
 | nil=>exact(ag h).elim
 | cons x l=>cases l with
  | nil=>exact(ag h).elim
  | cons y l=>exact⟨x,y,l,rfl,h⟩
noncomputable def u5(x:Expr)(P:Str->List Expr->Bool):Bool:=d8 (E6 x) λt=>t.2.2.1.isEmpty&&d8 (s7 t.1) λn=>P n t.2.1
theorem v4{x:Expr}{P:Str->List Expr->Bool}(h:u5 x P=true):∃ n as np p,x=.Call (.Name n np) as [] p/\P n as=true:=by
 refine a9 (i5 h) λt e h=>?_
 refine c6 (b9 h) λh0 h=>?_
 refine a9 (i5 h) λn e' h=>?_
 refine c5 (G0 e') λnp e'=>?_
 exact⟨n,t.2.1,np,t.2.2.2,by rw[aL4 e,e',bj.mp h0],h⟩
theorem bp9{x:Expr}{F:Str->List Expr->Bool}{P:Expr->Prop}(h:u5 x F=true)(k:∀ n as np p,F n as=true->P (.Call (.Name n np) as [] p)):P x:=by
 refine B0 (v4 h) λn as np p q1_ e=>?_;subst q1_
 exact k n as np p e
theorem bk8{α:Type}{l:List α}{f:α->α->Bool}{P:List α->Prop}(h:two l f=true)(k:∀ t u,f t u=true->P [t,u]):P l:=by
 refine j8 (x4 h) λt u q1_ e=>?_;subst q1_
 exact k t u e
noncomputable def ak9(x:Expr):Bool:=(E6 x).isNone||u5 x λz_ as=>!as.isEmpty
theorem an5{x:Expr}(h:ak9 x=true){n:Str}{env:Env}{w:Sem Value}:attributeBase x n env w=w:=by
 rcases(dv _ _).mp h with e | e
 ·exact by9 (bV.mp e)
 ·obtain⟨m,as,np,p,rfl,e⟩:=v4 (P:=λz_ as=>!as.isEmpty) e
  cases as with
  | nil=>exact tf e
  | cons a as=>rfl
noncomputable def biC(T:Tab)(sc:Scope)(f:Option Item->Bool)(k:List Expr->Bool)(n:Str)(as:List Expr):Bool:=gl sc n&&(f (T.lookup n)&&k as)
noncomputable def aI9(k:Expr->Bool)(e:Expr):Bool:=!star e&&k e
noncomputable def Y2(k:Expr->Bool)(as:List Expr):Bool:=one as k
noncomputable def av1(T:Tab)(sc:Scope)(id:String)(k:Expr->Bool)(r:Expr):Bool:=u5 r (biC T sc (z0 id) (Y2 (aI9 k)))
noncomputable def bb8(k r:Expr->Bool)(e ty:Expr):Bool:=!star e&&(k e&&r ty)
noncomputable def as2(k r:Expr->Bool)(as:List Expr):Bool:=two as (bb8 k r)
noncomputable def bT3(f:Str->Bool)(x:Expr):Bool:=d8 (s7 x) f
noncomputable def tyN(T:Tab)(sc:Scope)(id:String)(m:Str):Bool:=gl sc m&&z0 id (T.lookup m)
noncomputable def aY6(T:Tab)(sc:Scope)(m1 m2:Expr):Bool:=d8 (s7 m1) (tyN T sc "list")&&d8 (s7 m2) (tyN T sc "tuple")
noncomputable def be6(T:Tab)(sc:Scope)(l:List Expr):Bool:=two l (aY6 T sc)
noncomputable def bw7(T:Tab)(sc:Scope)(ty:Expr):Bool:=d8 (C7 ty) (be6 T sc)
noncomputable def bX4(T:Tab)(sc:Scope)(f:Str)(k:List Expr->Bool)(n:Str)(as:List Expr):Bool:=decide (n=f)&&(gl sc n&&(aG3 (T.lookup n)&&k as))
noncomputable def bO1(op:Operator)(k1 k2:Expr->Bool)(t:Expr×Operator×Expr):Bool:=decide (t.2.1=op)&&(k1 t.1&&k2 t.2.2)
noncomputable def bD6(op:CmpOp)(k1 k2:Expr->Bool)(l:Expr)(o:CmpOp)(r:Expr):Bool:=decide (o=op)&&(!behindInMarks o r&&(k1 l&&k2 r))
noncomputable def bW8(op:CmpOp)(k1 k2:Expr->Bool)(l:Expr)(rs:List Expr)(o:CmpOp):Bool:=one rs (bD6 op k1 k2 l o)
noncomputable def bg9(op:CmpOp)(k1 k2:Expr->Bool)(t:Expr×List CmpOp×List Expr):Bool:=one t.2.1 (bW8 op k1 k2 t.1 t.2.2)
noncomputable def bI9(o p:CmpOp)(k1 k2 k3:Expr->Bool)(l:Expr)(o' p':CmpOp)(r s:Expr):Bool:=decide (o'=o)&&(decide (p'=p)&&(!lastMarks [o',p'] [r,s]&&(k1 l&&(k2 r&&k3 s))))
noncomputable def bJ7(o p:CmpOp)(k1 k2 k3:Expr->Bool)(l:Expr)(rs:List Expr)(o' p':CmpOp):Bool:=two rs (bI9 o p k1 k2 k3 l o' p')
noncomputable def bv3(o p:CmpOp)(k1 k2 k3:Expr->Bool)(t:Expr×List CmpOp×List Expr):Bool:=two t.2.1 (bJ7 o p k1 k2 k3 t.1 t.2.2)
noncomputable def ab9(k:List Expr->Bool)(l:List Expr):Bool:=decide (l.length<=10000)&&k l
noncomputable def bi5(k1 k2:Expr->Bool)(t:Expr×Expr):Bool:=(H9 t.2).isNone&&(k1 t.1&&k2 t.2)
noncomputable def bx7(n:Nat)(k:Expr->Bool)(t:Expr×Expr):Bool:=isC (D6 t.2) (.int n)&&(decide (n<=10000)&&k t.1)
noncomputable def bJ8(k1:Expr->Bool)(k2:List Expr->Bool)(t:Expr×Expr):Bool:=(H9 t.2).isNone&&(k1 t.2&&d8 (Z4 t.1) (ab9 k2))
noncomputable def bp0(k1:Expr->Bool)(k2 k3:Option Expr->Bool)(l:Expr)(u:Option Expr×Option Expr×Option Expr):Bool:=u.2.2.isNone&&(k1 l&&(k2 u.1&&k3 u.2.1))
noncomputable def bn4(k1:Expr->Bool)(k2 k3:Option Expr->Bool)(t:Expr×Expr):Bool:=d8 (H9 t.2) (bp0 k1 k2 k3 t.1)
noncomputable def bC2(nm:Str)(k1:Expr->Bool)(k2:List Expr->Bool)(as:List Expr)(p:Pos)(u:Expr×Str×Pos):Bool:=decide (u.2.1=nm)&&((u.2.2.endLine==p.line)&&(ak9 u.1&&(decide (as.length<20)&&(k1 u.1&&k2 as))))
noncomputable def bs1(k2 k3:Expr->Bool)(e y:Expr):Bool:=!star e&&(!star y&&(k2 e&&k3 y))
noncomputable def bT5(k1 k2 k3:Expr->Bool)(as:List Expr)(p:Pos)(u:Expr×Str×Pos):Bool:=decide (u.2.1=Str.ofString "get")&&((u.2.2.endLine==p.line)&&(ak9 u.1&&(k1 u.1&&two as (bs1 k2 k3))))
mutual
noncomputable def f6(T:Tab):IE->Scope->List Str->Expr->Bool
 | .k v,sc,vs,x=>isC (D6 x) v||isG T sc v (s7 x)
 | .v i,sc,vs,x=>d8 (s7 x) λn=>decide (vs[i]?=some n) && !(n==("__debug__" : Str))
 | .bin op a b,sc,vs,x=>d8 (V2 x) (bO1 op (f6 T a sc vs) (f6 T b sc vs))
 | .cmp op a b,sc,vs,x=>d8 (P0 x) (bg9 op (f6 T a sc vs) (f6 T b sc vs))
 | .chain o p a b c,sc,vs,x=>d8 (P0 x) (bv3 o p (f6 T a sc vs) (f6 T b sc vs) (f6 T c sc vs))
 | .not a,sc,vs,x=>d8 (R4 x) λt=>decide (t.1=.Not)&&f6 T a sc vs t.2
 | .neg a,sc,vs,x=>d8 (R4 x) λt=>decide (t.1=.USub)&&f6 T a sc vs t.2
 | .and a b,sc,vs,x=>d8 (S8 x) λt=>decide (t.1=.And)&&ag0 t.2.1 λl r es=>f6 T a sc vs l&&f6 T b sc vs (S6 .And t.2.2 r es)
 | .or a b,sc,vs,x=>d8 (S8 x) λt=>decide (t.1=.Or)&&ag0 t.2.1 λl r es=>f6 T a sc vs l&&f6 T b sc vs (S6 .Or t.2.2 r es)
 | .tup es,sc,vs,x=>d8 (C7 x) (ab9 (v8 T es sc vs))
 | .lst es,sc,vs,x=>d8 (Z4 x) (ab9 (v8 T es sc vs))
 | .itm a b,sc,vs,x=>d8 (G8 x) (bi5 (f6 T a sc vs) (f6 T b sc vs))
 | .itk a n,sc,vs,x=>d8 (G8 x) (bx7 n (f6 T a sc vs))
 | .pick es i,sc,vs,x=>d8 (G8 x) (bJ8 (f6 T i sc vs) (v8 T es sc vs))
 | .slc a lo hi,sc,vs,x=>d8 (G8 x) (bn4 (f6 T a sc vs) (ab8 (f6 T lo sc vs) (ai6 lo)) (ab8 (f6 T hi sc vs) (ai6 hi)))
 | .call f es,sc,vs,x=>u5 x (bX4 T sc f (v8 T es sc vs))
 | .bi b es,sc,vs,x=>u5 x (biC T sc b.has (v8 T es sc vs))
 | .isi a t,sc,vs,x=>u5 x (biC T sc (C1 "isinstance") (as2 (f6 T a sc vs) (bT3 (tyN T sc t.nm))))
 | .meth m o es,sc,vs,x=>d8 (E6 x) λt=>t.2.2.1.isEmpty&&d8 (Q8 t.1) (bC2 m.nm (f6 T o sc vs) (v8 T es sc vs) t.2.1 t.2.2.2)
 | .get D a,sc,vs,x=>d8 (E6 x) λt=>t.2.2.1.isEmpty&&d8 (Q8 t.1) λu=>decide (u.2.1=Str.ofString "get")&&((u.2.2.endLine==t.2.2.2.line)&&one t.2.1 λe=>!star e&&(f6 T a sc vs e&&d8 (s7 u.1) λd=>gl sc d&&aI8 D (T.lookup d)))
 | .lrng a,sc,vs,x=>u5 x (biC T sc (z0 "list") (Y2 (av1 T sc "range" (f6 T a sc vs))))
 | .sset a,sc,vs,x=>u5 x (biC T sc (C1 "sorted") (Y2 (av1 T sc "set" (f6 T a sc vs))))
 | .comp js elt it cs,sc,vs,x=>d8 (ae3 x) λt=>one t.2.1 λc=>decide (c.is_async=0)&&d8 (s7 c.target) λy=>D3 ⟨sc,vs,0,true⟩ t.2.2 y js&&(f6 T elt (rl t.2.2 sc) (y::t7 t.2.2) t.1&&(Q9 T it sc vs c.iter&&v8 T cs (rl t.2.2 sc) (y::t7 t.2.2) c.ifs))
 | .pw n v,sc,vs,x=>d8 (V2 x) λt=>decide (t.2.1=.Pow)&&(isC (D6 t.1) (.int 10)&&(isC (D6 t.2.2) (.int n)&&(decide (n<=12)&&decide (v=10 ^ n))))
 | .dic0 _,sc,vs,x=>d8 (Z6 x) λt=>t.1.isEmpty&&t.2.isEmpty
 | .dic1 _ a b,sc,vs,x=>d8 (Z6 x) λt=>one t.1 λko=>d8 ko λke=>one t.2 λve=>f6 T a sc vs ke&&f6 T b sc vs ve
 | .dg2 a k z,sc,vs,x=>d8 (E6 x) λt=>t.2.2.1.isEmpty&&d8 (Q8 t.1) (bT5 (f6 T a sc vs) (f6 T k sc vs) (f6 T z sc vs) t.2.1 t.2.2.2)
 | .isl a,sc,vs,x=>u5 x (biC T sc (C1 "isinstance") (as2 (f6 T a sc vs) (bw7 T sc)))
noncomputable def v8(T:Tab):IEs->Scope->List Str->List Expr->Bool
 | .nil,sc,vs,l=>l.isEmpty
 | .cons a es,sc,vs,l=>match l with
  | e::l=>!star e&&(f6 T a sc vs e&&v8 T es sc vs l)
  | []=>false
noncomputable def Q9(T:Tab):II->Scope->List Str->Expr->Bool
 | .e a,sc,vs,x=>!ab2 x&&f6 T a sc vs x
 | .r1 a,sc,vs,x=>u5 x (biC T sc (z0 "range") (Y2 (aI9 (f6 T a sc vs))))
 | .r2 a b,sc,vs,x=>u5 x λn as=>gl sc n&&(z0 "range" (T.lookup n)&&two as λe r=>!star e&&(!star r&&(f6 T a sc vs e&&f6 T b sc vs r)))
end
structure SP where
 ret:Option (Option Expr):=none
 iff:Option (Expr×List Stmt×List Stmt):=none
 asg:Option (List Expr×Expr×Pos):=none
 expr:Option Expr:=none
 loop:Option (Expr×Expr×List Stmt×List Stmt):=none
 whl:Option (Expr×List Stmt×List Stmt):=none
 pass:Option Unit:=none
 brk:Option Unit:=none
 rais:Option (Option Expr×Option Expr):=none
 tri:Option (List Stmt×List ExceptHandler×List Stmt×List Stmt):=none
noncomputable def SP.z:SP:={}
noncomputable def sp(e:Stmt):SP:=Stmt.casesOn (motive_2:=λz_=>SP) e (λz_ z_ z_ z_ z_ z_ z_ z_ z_ z_=>.z) (λz_ z_ z_ z_ z_ z_ z_ z_ z_ z_=>.z) (λz_ z_ z_ z_ z_ z_ z_ z_ z_ z_ z_=>.z) (λa b=>{ret:=some a}) (λz_ z_=>.z) (λa b c=>{asg:=some (a,b,c)}) (λz_ z_ z_ z_ z_ z_ z_=>.z) (λz_ z_ z_ z_=>.z) (λz_ z_ z_ z_ z_=>.z) (λa b c d e=>{loop:=some (a,b,c,d)}) (λz_ z_ z_ z_ z_=>.z) (λa b c d=>{whl:=some (a,b,c)}) (λa b c d=>{iff:=some (a,b,c)}) (λz_ z_ z_=>.z) (λz_ z_ z_=>.z) (λz_ z_ z_=>.z) (λa b z_=>{rais:=some (a,b)}) (λa b c d z_=>{tri:=some (a,b,c,d)}) (λz_ z_ z_ z_ z_=>.z) (λz_ z_ z_=>.z) (λz_ z_=>.z) (λz_ z_ z_ z_=>.z) (λz_ z_=>.z) (λz_ z_=>.z) (λa b=>{expr:=some a}) (λa=>{pass:=some ()}) (λa=>{brk:=some ()}) (λz_=>.z)
structure SOK(p:SP)(x:Stmt):Prop where
 ret:∀ t,p.ret=some t->∃ p,x=.Return t p
 iff:∀ t,p.iff=some t->∃ p,x=.If t.1 t.2.1 t.2.2 p
 asg:∀ t,p.asg=some t->x=.Assign t.1 t.2.1 t.2.2
 expr:∀ t,p.expr=some t->∃ p,x=.Expr t p
 loop:∀ t,p.loop=some t->∃ p,x=.For t.1 t.2.1 t.2.2.1 t.2.2.2 p
 whl:∀ t,p.whl=some t->∃ p,x=.While t.1 t.2.1 t.2.2 p
 pass:∀ t,p.pass=some t->∃ p,x=.Pass p
 brk:∀ t,p.brk=some t->∃ p,x=.Break p
 rais:∀ t,p.rais=some t->∃ p,x=.Raise t.1 t.2 p
 tri:∀ t,p.tri=some t->∃ p,x=.Try t.1 t.2.1 t.2.2.1 t.2.2.2 p
theorem l8{x:Stmt}:SOK .z x:=⟨λz_=>no,λz_=>no,λz_=>no,λz_=>no,λz_=>no,λz_=>no,λz_=>no,λz_=>no,λz_=>no,λz_=>no⟩
theorem G7(e:Stmt):SOK (sp e) e:=Stmt.casesOn (motive_2:=λe=>SOK (sp e) e) e (λz_ z_ z_ z_ z_ z_ z_ z_ z_ z_=>l8) (λz_ z_ z_ z_ z_ z_ z_ z_ z_ z_=>l8) (λz_ z_ z_ z_ z_ z_ z_ z_ z_ z_ z_=>l8) (λz_ z_=>{(l8:SOK .z _) with ret:=λt h=>by obtain rfl:=Option.some.inj h;exact⟨_,rfl⟩}) (λz_ z_=>l8) (λz_ z_ z_=>{(l8:SOK .z _) with asg:=λt h=>by obtain rfl:=Option.some.inj h;exact rfl}) (λz_ z_ z_ z_ z_ z_ z_=>l8) (λz_ z_ z_ z_=>l8) (λz_ z_ z_ z_ z_=>l8) (λz_ z_ z_ z_ z_=>{(l8:SOK .z _) with loop:=λt h=>by obtain rfl:=Option.some.inj h;exact⟨_,rfl⟩}) (λz_ z_ z_ z_ z_=>l8) (λz_ z_ z_ z_=>{(l8:SOK .z _) with whl:=λt h=>by obtain rfl:=Option.some.inj h;exact⟨_,rfl⟩}) (λz_ z_ z_ z_=>{(l8:SOK .z _) with iff:=λt h=>by obtain rfl:=Option.some.inj h;exact⟨_,rfl⟩}) (λz_ z_ z_=>l8) (λz_ z_ z_=>l8) (λz_ z_ z_=>l8) (λz_ z_ z_=>{(l8:SOK .z _) with rais:=λt h=>by obtain rfl:=Option.some.inj h;exact⟨_,rfl⟩}) (λz_ z_ z_ z_ z_=>{(l8:SOK .z _) with tri:=λt h=>by obtain rfl:=Option.some.inj h;exact⟨_,rfl⟩}) (λz_ z_ z_ z_ z_=>l8) (λz_ z_ z_=>l8) (λz_ z_=>l8) (λz_ z_ z_ z_=>l8) (λz_ z_=>l8) (λz_ z_=>l8) (λz_ z_=>{(l8:SOK .z _) with expr:=λt h=>by obtain rfl:=Option.some.inj h;exact⟨_,rfl⟩}) (λz_=>{(l8:SOK .z _) with pass:=λt h=>by obtain rfl:=Option.some.inj h;exact⟨_,rfl⟩}) (λz_=>{(l8:SOK .z _) with brk:=λt h=>by obtain rfl:=Option.some.inj h;exact⟨_,rfl⟩}) (λz_=>l8)
noncomputable def ah0(e:Stmt):Option (Option Expr):=(sp e).ret
theorem bd8{x:Stmt}{t:(Option Expr)}(h:ah0 x=some t):∃ p,x=.Return t p:=(G7 x).ret t h
noncomputable def ak1(e:Stmt):Option (Expr×List Stmt×List Stmt):=(sp e).iff
theorem bn0{x:Stmt}{t:(Expr×List Stmt×List Stmt)}(h:ak1 x=some t):∃ p,x=.If t.1 t.2.1 t.2.2 p:=(G7 x).iff t h
noncomputable def K7(e:Stmt):Option (List Expr×Expr×Pos):=(sp e).asg
theorem bv8{x:Stmt}{t:(List Expr×Expr×Pos)}(h:K7 x=some t):x=.Assign t.1 t.2.1 t.2.2:=(G7 x).asg t h
noncomputable def ag1(e:Stmt):Option Expr:=(sp e).expr
theorem bw5{x:Stmt}{t:Expr}(h:ag1 x=some t):∃ p,x=.Expr t p:=(G7 x).expr t h
noncomputable def S0(e:Stmt):Option (Expr×Expr×List Stmt×List Stmt):=(sp e).loop
theorem bp8{x:Stmt}{t:(Expr×Expr×List Stmt×List Stmt)}(h:S0 x=some t):∃ p,x=.For t.1 t.2.1 t.2.2.1 t.2.2.2 p:=(G7 x).loop t h
noncomputable def aa1(e:Stmt):Option (Expr×List Stmt×List Stmt):=(sp e).whl
theorem bU6{x:Stmt}{t:(Expr×List Stmt×List Stmt)}(h:aa1 x=some t):∃ p,x=.While t.1 t.2.1 t.2.2 p:=(G7 x).whl t h
noncomputable def aC9(e:Stmt):Bool:=(sp e).brk.isSome
theorem cj0{x:Stmt}(h:aC9 x=true):∃ p,x=.Break p:=(G7 x).brk () (cA.mp h).choose_spec
theorem R9{x:Expr}{F:_->Bool}{P:Expr->Prop}(h:d8 (s7 x) F=true)(k:∀ n p,F n=true->P (.Name n p)):P x:=by
 refine a9 (i5 h) λn0 e1 hf=>?_
 refine c5 (G0 e1) λp0 q1_=>?_;subst q1_
 exact k _ _ hf
theorem aE2{x:Expr}{F:_->Bool}{P:Expr->Prop}(h:d8 (V2 x) F=true)(k:∀ l o r p,F (l,o,r)=true->P (.BinOp l o r p)):P x:=by
 obtain⟨⟨l0,o0,r0⟩,e1,hf⟩:=i5 h;refine c5 (bl1 e1) λp0 q1_=>?_;subst q1_
 exact k _ _ _ _ hf
theorem ad9{x:Expr}{F:_->Bool}{P:Expr->Prop}(h:d8 (R4 x) F=true)(k:∀ o r p,F (o,r)=true->P (.UnaryOp o r p)):P x:=by
 obtain⟨⟨o0,r0⟩,e1,hf⟩:=i5 h;refine c5 (aY3 e1) λp0 q1_=>?_;subst q1_
 exact k _ _ _ hf
theorem U9{x:Expr}{F:_->Bool}{P:Expr->Prop}(h:d8 (S8 x) F=true)(k:∀ o l p,F (o,l,p)=true->P (.BoolOp o l p)):P x:=by
 obtain⟨⟨o0,l0,p0⟩,e1,hf⟩:=i5 h;obtain rfl:=bE4 e1;exact k _ _ _ hf
theorem aI1{x:Expr}{F:_->Bool}{P:Expr->Prop}(h:d8 (P0 x) F=true)(k:∀ l o r p,F (l,o,r)=true->P (.Compare l o r p)):P x:=by
 obtain⟨⟨l0,o0,r0⟩,e1,hf⟩:=i5 h;refine c5 (aj2 e1) λp0 q1_=>?_;subst q1_
 exact k _ _ _ _ hf
theorem ac3{x:Expr}{F:_->Bool}{P:Expr->Prop}(h:d8 (C7 x) F=true)(k:∀ l k p,F l=true->P (.Tuple l k p)):P x:=by
 refine a9 (i5 h) λl0 e1 hf=>?_
 refine p8 (R6 e1) λk0 p0 q1_=>?_;subst q1_
 exact k _ _ _ hf
theorem cb1{x:Expr}{F:_->Bool}{P:Expr->Prop}(h:d8 (Z4 x) F=true)(k:∀ l p,F l=true->P (.List l p)):P x:=by
 refine a9 (i5 h) λl0 e1 hf=>?_
 refine c5 (at2 e1) λp0 q1_=>?_;subst q1_
 exact k _ _ hf
theorem O5{x:Expr}{F:_->Bool}{P:Expr->Prop}(h:d8 (G8 x) F=true)(k:∀ a b p,F (a,b)=true->P (.Subscript a b p)):P x:=by
 obtain⟨⟨a0,b0⟩,e1,hf⟩:=i5 h;refine c5 (ap2 e1) λp0 q1_=>?_;subst q1_
 exact k _ _ _ hf
theorem aj1{x:Expr}{F:_->Bool}{P:Expr->Prop}(h:d8 (E6 x) F=true)(k:∀ f as ks p,F (f,as,ks,p)=true->P (.Call f as ks p)):P x:=by
 obtain⟨⟨f0,as0,ks0,p0⟩,e1,hf⟩:=i5 h;obtain rfl:=aL4 e1;exact k _ _ _ _ hf
theorem af0{x:Expr}{F:_->Bool}{P:Expr->Prop}(h:d8 (Q8 x) F=true)(k:∀ o n p,F (o,n,p)=true->P (.Attribute o n p)):P x:=by
 obtain⟨⟨o0,n0,p0⟩,e1,hf⟩:=i5 h;obtain rfl:=bq4 e1;exact k _ _ _ hf
theorem ar9{x:Expr}{F:_->Bool}{P:Expr->Prop}(h:d8 (ae3 x) F=true)(k:∀ e l s p,F (e,l,s)=true->P (.ListComp e l s p)):P x:=by
 obtain⟨⟨e0,l0,s0⟩,e1,hf⟩:=i5 h;refine c5 (bs6 e1) λp0 q1_=>?_;subst q1_
 exact k _ _ _ _ hf
theorem bL7{x:Stmt}{F:_->Bool}{P:Stmt->Prop}(h:d8 (ak1 x) F=true)(k:∀ t a b p,F (t,a,b)=true->P (.If t a b p)):P x:=by
 obtain⟨⟨t0,a0,b0⟩,e1,hf⟩:=i5 h;refine c5 (bn0 e1) λp0 q1_=>?_;subst q1_
 exact k _ _ _ _ hf
theorem S9{x:Stmt}{F:_->Bool}{P:Stmt->Prop}(h:d8 (K7 x) F=true)(k:∀ t e p,F (t,e,p)=true->P (.Assign t e p)):P x:=by
 obtain⟨⟨t0,e0,p0⟩,e1,hf⟩:=i5 h;obtain rfl:=bv8 e1;exact k _ _ _ hf
theorem bv5{x:Stmt}{F:_->Bool}{P:Stmt->Prop}(h:d8 (ah0 x) F=true)(k:∀ t p,F t=true->P (.Return t p)):P x:=by
 refine a9 (i5 h) λt0 e1 hf=>?_
 refine c5 (bd8 e1) λp0 q1_=>?_;subst q1_
 exact k _ _ hf
theorem bu8{x:Stmt}{F:_->Bool}{P:Stmt->Prop}(h:d8 (ag1 x) F=true)(k:∀ e p,F e=true->P (.Expr e p)):P x:=by
 refine a9 (i5 h) λe0 e1 hf=>?_
 refine c5 (bw5 e1) λp0 q1_=>?_;subst q1_
 exact k _ _ hf
theorem ai5{x:Stmt}{F:_->Bool}{P:Stmt->Prop}(h:d8 (S0 x) F=true)(k:∀ t i b o p,F (t,i,b,o)=true->P (.For t i b o p)):P x:=by
 obtain⟨⟨t0,i0,b0,o0⟩,e1,hf⟩:=i5 h;refine c5 (bp8 e1) λp0 q1_=>?_;subst q1_
 exact k _ _ _ _ _ hf
theorem ba1{x:Stmt}{F:_->Bool}{P:Stmt->Prop}(h:d8 (aa1 x) F=true)(k:∀ t b o p,F (t,b,o)=true->P (.While t b o p)):P x:=by
 obtain⟨⟨t0,b0,o0⟩,e1,hf⟩:=i5 h;refine c5 (bU6 e1) λp0 q1_=>?_;subst q1_
 exact k _ _ _ _ hf
theorem cc7{x:Stmt}{F:_->Bool}{P:Stmt->Prop}(h:d8 (sp x).rais F=true)(k:∀ a b p,F (a,b)=true->P (.Raise a b p)):P x:=by
 obtain⟨⟨a0,b0⟩,e1,hf⟩:=i5 h;refine c5 ((G7 x).rais _ e1) λp0 q1_=>?_;subst q1_
 exact k _ _ _ hf
noncomputable def L9(vs:List Str)(i:Nat)(x:Expr):Bool:=d8 (s7 x) λn=>decide (vs[i]?=some n)
noncomputable def L5(vs:List Str):List Nat->List Expr->Bool
 | [],l=>l.isEmpty
 | i::is,l=>match l with
  | x::l=>L9 vs i x&&L5 vs is l
  | []=>false
noncomputable def aM6:IE->Bool
 | .comp _ _ _ _=>true
 | _=>false
mutual
noncomputable def aL2(T:Tab)(sc:Scope)(vs:List Str):IS->Stmt->Bool
 | .ret e,x=>d8 (ah0 x) λt=>d8 t λy=>f6 T e sc vs y
 | .iff t a b,x=>d8 (ak1 x) λu=>f6 T t sc vs u.1&&(z7 T sc vs a u.2.1&&z7 T sc vs b u.2.2)
 | .asg i e,x=>d8 (K7 x) λt=>one t.1 λn=>L9 vs i n&&((aM6 e || !odd t.2.1)&&f6 T e sc vs t.2.1)
 | .seti o i e,x=>d8 (K7 x) λt=>one t.1 λn=>f6 T e sc vs t.2.1&&d8 (G8 n) λu=>f6 T o sc vs u.1&&f6 T i sc vs u.2
 | .swap i j a b,x=>d8 (K7 x) λt=>one t.1 λn=>d8 (C7 n) λl=>two l λm n=>L9 vs i m&&(L9 vs j n&&((n.pos.line==m.pos.line)&&(decide (sc.names.lookup ((s7 m).getD default)=some .local)&&(decide (sc.names.lookup ((s7 n).getD default)=some .local)&&(!([(s7 m).getD default,(s7 n).getD default].eraseDups.length != 2) &&
   d8 (C7 t.2.1) λl=>two l λu w=>!([u,w].any af7)&&(!([u,w].all (foldedForSure 8))&&(!([u,w].all (constantsAlone 8))&&(!star u&&(!star w&&(f6 T a sc vs u&&f6 T b sc vs w))))))))))
 | .unp is i,x=>d8 (K7 x) λt=>one t.1 λn=>d8 (C7 n) λl=>L5 vs is l&&d8 (s7 t.2.1) λm=>decide (vs[i]?=some m) && !(m==("__debug__" : Str))
 | .expr e,x=>d8 (ag1 x) λy=>!odd y&&f6 T e sc vs y
 | .brk,x=>aC9 x
 | .loop i it body,x=>d8 (S0 x) λt=>t.2.2.2.isEmpty&&(L9 vs i t.1&&(Q9 T it sc vs t.2.1&&z7 T sc vs body t.2.2.1))
 | .loops is it body,x=>d8 (S0 x) λt=>t.2.2.2.isEmpty&&(Q9 T it sc vs t.2.1&&(z7 T sc vs body t.2.2.1&&d8 (C7 t.1) λl=>L5 vs is l))
 | .loopz is es body,x=>d8 (S0 x) λt=>t.2.2.2.isEmpty&&(z7 T sc vs body t.2.2.1&&(d8 (C7 t.1) (λl=>L5 vs is l)&&u5 t.2.1 λn as=>gl sc n&&(z0 "zip" (T.lookup n)&&two as λx y=>v8 T es sc vs [x,y])))
 | .whil t body,x=>d8 (aa1 x) λu=>u.2.2.isEmpty&&(f6 T t sc vs u.1&&z7 T sc vs body u.2.1)
 | .rais y es,x=>d8 (sp x).rais λu=>u.2.isNone&&d8 u.1 λc=>u5 c λn as=>decide (n=y)&&(gl sc n&&(aN4 (T.lookup n)&&(decide (as.length<20)&&v8 T es sc vs as)))
noncomputable def z7(T:Tab)(sc:Scope)(vs:List Str):ISs->List Stmt->Bool
 | .nil,l=>l.isEmpty
 | .cons s ss,l=>match l with
  | x::l=>aL2 T sc vs s x&&z7 T sc vs ss l
  | []=>false
 | .stop ss,l=>z7 T sc vs ss l
 | .drop ss,l=>z7 T sc vs ss l
 | .any,_=>true
end
noncomputable def aA3(T:Tab)(f:DefRec)(vs:List Str)(ir:ISs):Bool:=ae2 f.params f.scope vs&&z7 T f.scope vs ir f.body
noncomputable def Bnd(f:Str)(df:DefRec)(n:Nat):Prop:=∀ pm cd doc us,us.length=n->bindArgs (cJ f df.params df.body df.scope pm cd doc) ⟨us,[]⟩=pure ((df.params.args.map (·.arg)).zip us)
noncomputable def fnT(p:Program)(ks:List Nat):Tab:=ks.map λk=>((f3 p k).name,.fn k)
theorem TabOK.fns{g:G}{ks:List Nat}{T:Tab}(h:∀ k∈ks,ag8 g (f3 g.prog k).name (.fn k))(r:TabOK g T):TabOK g (fnT g.prog ks++T):=by
 induction ks with
 | nil=>exact r
 | cons k ks ih=>exact .cons (h k (.head _)) (ih λj hj=>h j (.tail _ hj))
noncomputable def itV:Item->Value
 | .bi id=>.builtin id
 | .ty id=>.type id
 | _=>.none
noncomputable def isB:Item->Bool
 | .bi _=>true
 | .ty _=>true
 | _=>false
theorem TabOK.bis{g:G}{T:Tab}(h:∀ p∈T,Bi g p.1 (itV p.2))(k:∀ p∈T,isB p.2=true):TabOK g T:=by
 induction T with
 | nil=>exact .nil
 | cons p T ih=>
  have r:=ih (λq hq=>h q (.tail _ hq)) λq hq=>k q (.tail _ hq)
  have h1:=h p (.head _);have k1:=k p (.head _);obtain⟨x,it⟩:=p;cases it with
  | bi id=>exact .cons h1 r
  | ty id=>exact .cons h1 r
  | _=>cases k1
section
variable{g:G}{F:Blk}{sc:Scope}{vs:List Str}{d:Nat}{q:Bool}{Z:Lo}{M:Hp}{Q:VP}{QB:BP}{X:XP}
theorem u2{n:Nat}(h:n<=10000):n<=sizeLine:=ae h (by decide)
theorem aP9{x y:V}(h:aN1 x y M Q):Op2 g F (binaryOp .Add) x y Z M Q X:=by
 cases x with
 | int a=>cases y with
  | int b=>exact aX6 h
  | _=>exact h.elim
 | str a=>cases y with
  | str b=>obtain⟨p,k⟩:=h;exact aT7 p k
  | _=>exact h.elim
 | tup a=>cases y with
  | tup b=>obtain⟨p,k⟩:=h;exact aQ4 (u2 p) k
  | _=>exact h.elim
 | ref a=>cases y with
  | ref b=>obtain⟨l,h1,k,h2,p,⟨r⟩⟩:=h;exact bm7 h1 h2 (u2 p) r
  | _=>exact h.elim
 | _=>exact h.elim
theorem bG0{x y:V}(h:am8 x y M Q):Op2 g F (binaryOp .Mult) x y Z M Q X:=by
 cases x with
 | int a=>cases y with
  | int b=>
   obtain⟨p,k⟩:=h;rcases p with p | p
   ·exact bJ2 p.1 p.2 k
   ·exact bZ0 p.1 p.2 k
  | _=>exact h.elim
 | ref a=>cases y with
  | int b=>obtain⟨l,h1,p,⟨r⟩⟩:=h;exact bn5 h1 p.1 p.2.1 p.2.2 r
  | _=>exact h.elim
 | _=>exact h.elim
theorem C4{P:Int->Int->Prop}{x y:V}(h:B4 P x y):∃ a b,x=.int a/\y=.int b/\P a b:=by
 cases x with
 | int a=>cases y with
  | int b=>exact⟨a,b,rfl,rfl,h⟩
  | _=>exact h.elim
 | _=>exact h.elim
theorem Q7{P:Int->Prop}{x:V}(h:K5 P x):∃ a,x=.int a/\P a:=by
 cases x with
 | int a=>exact⟨a,rfl,h⟩
 | _=>exact h.elim
theorem E3{P:Addr->Prop}{x:V}(h:x8 P x):∃ a,x=.ref a/\P a:=by
 cases x with
 | ref a=>exact⟨a,rfl,h⟩
 | _=>exact h.elim
theorem aa9{P:Str->Prop}{x:V}(h:U0 P x):∃ a,x=.str a/\P a:=by
 cases x with
 | str a=>exact⟨a,rfl,h⟩
 | _=>exact h.elim
theorem aS3{P:Bool->Prop}{x:V}(h:aN5 P x):∃ a,x=.bool a/\P a:=by
 cases x with
 | bool a=>exact⟨a,rfl,h⟩
 | _=>exact h.elim
theorem aF6{P:List V->Prop}{x:V}(h:ad7 P x):∃ a,x=.tup a/\P a:=by
 cases x with
 | tup a=>exact⟨a,rfl,h⟩
 | _=>exact h.elim
theorem E4{P:V->Prop}{x:List V}(h:un P x):∃ a,x=[a]/\P a:=by
 cases x with
 | nil=>exact h.elim
 | cons a l=>cases l with
  | nil=>exact⟨a,rfl,h⟩
  | cons _ _=>exact h.elim
theorem an3{P:V->V->Prop}{x:List V}(h:duo P x):∃ a b,x=[a,b]/\P a b:=by
 cases x with
 | nil=>exact h.elim
 | cons a l=>cases l with
  | nil=>exact h.elim
  | cons b l=>cases l with
   | nil=>exact⟨a,b,rfl,h⟩
   | cons _ _=>exact h.elim
theorem aJ8{P:Option Int->Prop}{x:V}(h:ai9 x P):∃ k,OptInt x k/\P k:=by
 cases x with
 | none=>exact⟨_,.none,h⟩
 | int i=>exact⟨_,.int i,h⟩
 | _=>exact h.elim
theorem bB2{l:List V}:∀ {P:List Str->Prop},ak0 l P->∃ ss,l=ss.map .str/\P ss:=by
 induction l with
 | nil=>intro P h;exact⟨[],rfl,h⟩
 | cons x l ih=>
  intro P h;cases x with
  | str x=>
   refine a9 (ih h) λss e k=>?_
   exact⟨x::ss,by rw[e];rfl,k⟩
  | _=>exact h.elim
theorem aH3{l:Lo}:∀ {i:Nat} {P:V->Prop},vAt l i P->∃ v,l[i]?=some (some v)/\P v:=by
 induction l with
 | nil=>intro i P h;cases i<;>exact h.elim
 | cons x l ih=>
  intro i P h;cases i with
  | zero=>cases x with
   | none=>exact h.elim
   | some v=>exact⟨v,rfl,h⟩
  | succ i=>exact ih h
theorem ai0{l:List V}:∀ {i:Nat} {P:V->Prop},lAt l i P->∃ v,l[i]?=some v/\P v:=by
 induction l with
 | nil=>intro i P h;cases i<;>exact h.elim
 | cons x l ih=>
  intro i P h;cases i with
  | zero=>exact⟨x,rfl,h⟩
  | succ i=>exact ih h
theorem bX7{op:Operator}{x y:V}(h:aH0 op x y M Q):Op2 g F (binaryOp op) x y Z M Q X:=by
 cases op with
 | Add=>exact aP9 h
 | Mult=>exact bG0 h
 | Sub=>refine f7 (C4 h) λa b q1_ q2_ k=>?_;subst q1_;subst q2_;exact bq9 k
 | Mod=>obtain⟨a,b,rfl,rfl,p,k⟩:=C4 h;exact cf0 p k
 | FloorDiv=>obtain⟨a,b,rfl,rfl,p,k⟩:=C4 h;exact bC1 p.1 p.2 k
 | _=>exact h.elim
theorem by8{n:Bool}{x:V}{a:Addr}(h:Look M a λl=>InL n F.d l x M Q):Op2 g F (compareOp (bif n then .NotIn else .In)) x (.ref a) Z M Q X:=by
 obtain⟨l,e,k⟩:=h;cases k with
 | ofStrs ss y hx hl k=>
  subst hx hl;cases n with
  | true=>exact bC0 e (by rw[cM] at k;exact k)
  | false=>exact bj1 e (by rw[ct] at k;exact k)
 | mk hl hx hu k=>
  cases n with
  | true=>exact bS2 e hl hx hu (by rw[cM] at k;exact k)
  | false=>exact be2 e hl hx hu (by rw[ct] at k;exact k)
theorem al6{K:Type}[DecidableEq K](D:Kd g K){n:Bool}{k:K}{a:Addr}{l:List (K×V)}(e:M a=some (D.ob l))(h:Q (.bool (n ^^ (i8 l k).isSome)) M):Op2 g F (compareOp (bif n then .NotIn else .In)) (D.key k) (.ref a) Z M Q X:=by
 cases n with
 | true=>exact bI3 D e (by rw[cM] at h;exact h)
 | false=>exact bK0 D e (by rw[ct] at h;exact h)
theorem aL7{n:Bool}{x y:V}(h:wIn n F.d M Q x y):Op2 g F (compareOp (bif n then .NotIn else .In)) x y Z M Q X:=by
 cases y with
 | ref a=>cases h with
  | l h=>exact by8 h
  | i k e h=>subst e;obtain⟨l,e,h⟩:=h;exact al6 (kdI g) e h
  | s k e h=>subst e;obtain⟨l,e,h⟩:=h;exact al6 (kdS g) e h
 | str y=>cases x with
  | str x=>cases n with
   | true=>exact bn3 h
   | false=>exact bt9 h
  | _=>exact h.elim
 | tup l=>cases x with
  | str x=>cases n with
   | true=>exact h.elim
   | false=>refine a9 (bB2 h) λss e k=>?_;exact bM5 e k
  | _=>exact h.elim
 | _=>exact h.elim
theorem bv9{l k:List V}(h:EqT false F.d l k M Q):Op2 g F (compareOp .Eq) (.tup l) (.tup k) Z M Q X:=by
 cases h with
 | nil hk hn hd h=>subst hk;exact bk0 hd h
 | mk hl hk hu h=>exact ad8 hl hk (by show min (PyData.depthAll (i4 l)+1) (PyData.depthAll (i4 k)+1)<=_;rw[ew];exact hu) (by rw[ct] at h;exact h)
theorem bg4{l k:List V}(h:EqT true F.d l k M Q):Op2 g F (compareOp .NotEq) (.tup l) (.tup k) Z M Q X:=by
 cases h with
 | nil hk hn hd h=>cases hn
 | mk hl hk hu h=>exact ae7 hl hk (by show min (PyData.depthAll (i4 l)+1) (PyData.depthAll (i4 k)+1)<=_;rw[ew];exact hu) (by rw[cM] at h;exact h)
theorem bN3{a b:Addr}{l k:List V}(h1:M a=some (.lst l))(h2:M b=some (.lst k))(h:EqL false F.d l k M Q):Op2 g F (compareOp .Eq) (.ref a) (.ref b) Z M Q X:=by
 cases h with
 | mk a b c r=>exact bw6 h1 h2 a b c (by rw[ct] at r;exact r)
theorem bt1{a b:Addr}{l k:List V}(h1:M a=some (.lst l))(h2:M b=some (.lst k))(h:EqL true F.d l k M Q):Op2 g F (compareOp .NotEq) (.ref a) (.ref b) Z M Q X:=by
 cases h with
 | mk a b c r=>exact bf7 h1 h2 a b c (by rw[cM] at r;exact r)
theorem cc5{x y:V}(h:wEq F.d M Q x y):Op2 g F (compareOp .Eq) x y Z M Q X:=by
 cases x with
 | int a=>cases y with
  | int b=>exact bP1 h
  | _=>exact h.elim
 | str a=>cases y with
  | str b=>exact eq_str h
  | _=>exact h.elim
 | bool a=>cases y with
  | bool b=>exact bb0 h
  | _=>exact h.elim
 | none=>cases y with
  | int b=>exact bK9 h
  | _=>exact h.elim
 | tup a=>cases y with
  | tup b=>exact bv9 h
  | _=>exact h.elim
 | ref a=>cases y with
  | ref b=>obtain⟨l,h1,k,h2,r⟩:=h;exact bN3 h1 h2 r
  | _=>exact h.elim
theorem ce7{x y:V}(h:wNe F.d M Q x y):Op2 g F (compareOp .NotEq) x y Z M Q X:=by
 cases x with
 | int a=>cases y with
  | int b=>exact bk1 h
  | _=>exact h.elim
 | str a=>cases y with
  | str b=>exact ne_str h
  | _=>exact h.elim
 | bool a=>cases y with
  | bool b=>exact ce0 h
  | _=>exact h.elim
 | none=>cases y with
  | int b=>exact aW4 h
  | _=>exact h.elim
 | tup a=>cases y with
  | tup b=>exact bg4 h
  | _=>exact h.elim
 | ref a=>cases y with
  | ref b=>obtain⟨l,h1,k,h2,r⟩:=h;exact bt1 h1 h2 r
  | _=>exact h.elim
theorem J6{op:CmpOp}{x y:V}(h:K0 F.d op x y M Q):Op2 g F (compareOp op) x y Z M Q X:=by
 cases op with
 | Lt=>refine f7 (C4 h) λa b q1_ q2_ k=>?_;subst q1_;subst q2_;exact aR7 k
 | LtE=>refine f7 (C4 h) λa b q1_ q2_ k=>?_;subst q1_;subst q2_;exact aP6 k
 | Gt=>refine f7 (C4 h) λa b q1_ q2_ k=>?_;subst q1_;subst q2_;exact bt6 k
 | GtE=>refine f7 (C4 h) λa b q1_ q2_ k=>?_;subst q1_;subst q2_;exact bY6 k
 | Eq=>exact cc5 h
 | NotEq=>exact ce7 h
 | In=>exact aL7 (n:=false) h
 | NotIn=>exact aL7 (n:=true) h
 | _=>exact h.elim
theorem F8{x:V}(h:C3 x M QB):Tru g F x Z M QB X:=by
 cases x with
 | bool b=>exact aR1 h
 | int b=>exact bj5 h
 | _=>exact h.elim
theorem bh0{x y:V}(h:ac4 g x y M Q):Itm g F x y Z M Q X:=by
 cases x with
 | tup l=>cases y with
  | int k=>obtain⟨h0,h1,hz,r⟩:=h;exact bb7 h0 h1 hz r
  | _=>exact h.elim
 | str x=>cases y with
  | int k=>obtain⟨h0,h1,hz,r⟩:=h;exact aZ6 h0 h1 hz r
  | _=>exact h.elim
 | ref a=>cases y with
  | int k=>
   cases h with
   | d h=>obtain⟨l,e,v,hv,r⟩:=h;exact at8 (kdI g) e hv r
   | l h=>
    cases h with
    | mk l e r=>obtain⟨h0,h1,hz,r⟩:=r;exact bN1 e h0 h1 hz r
    | scr ns e r=>
     obtain⟨h0,h1,hz,r⟩:=r;rw[ac] at h1;have hl:k.toNat<ns.length:=ah4 h0 h1;exact au3 e h0 hz (aa hl) (r _ (by rw[aw,aa hl];rfl))
  | str k=>obtain⟨l,e,v,hv,r⟩:=h;exact at8 (kdS g) e hv r
  | _=>exact h.elim
 | _=>exact h.elim
theorem bg5{n:Nat}{x:V}(hn:n<=10000)(h:aC4 g n x M Q):Itm g F x (.int n) Z M Q X:=by
 have hz:(n:Int)<2 ^ 63:=by lia
 cases x with
 | tup l=>
  refine a9 (ai0 h) λv e p=>?_
  have hl:=(ay.mp e).1;exact au0 (by lia) hz (af1 (aT n) (by lia)) e p
 | ref a=>
  cases h with
  | mk l e r=>
   refine a9 (ai0 r) λv e' p=>?_
   exact ai3 e (aT n) hz e' p
  | scr ns e r=>
   refine a9 (ai0 r) λv e' p=>?_
   rw[aw] at e';refine a9 (aJ.mp e') λm e1 e2=>?_
   subst e2;exact au3 e (aT n) hz e1 p
 | _=>exact h.elim
theorem bK1{lo hi:Option Int}{x:V}(h:aD8 lo hi x M Q):Slc g F x lo hi Z M Q X:=by
 cases x with
 | tup l=>obtain⟨p,k⟩:=h;exact bH1 (u2 p) k
 | str l=>obtain⟨p,k⟩:=h;exact aV2 p k
 | ref a=>obtain⟨l,e,p,⟨k⟩⟩:=h;exact bD3 e (u2 p) k
 | _=>exact h.elim
theorem bW5{t:TY}{x:V}(h:aJ6 t x M Q):Op1 g F (λy=>call (.builtin "isinstance") [y,.type t.nm]) x Z M Q X:=(λA env s y I r=>by
 cases x with
 | none=>
  obtain rfl:=r.ofNone;cases t
  ·exact IsiPair.NoneType_int (m6 I h)
  ·exact IsiPair.NoneType_bool (m6 I h)
  ·exact IsiPair.NoneType_str (m6 I h)
  ·exact IsiPair.NoneType_tuple (m6 I h)
  ·exact IsiPair.NoneType_list (m6 I h)
 | bool c=>
  obtain rfl:=r.ofBool;cases t
  ·first | exact IsiPair.bool_int (m9 I h) | exact IsiPair.bool_int (m6 I h)
  ·exact IsiPair.bool_bool (m9 I h)
  ·exact IsiPair.bool_str (m6 I h)
  ·exact IsiPair.bool_tuple (m6 I h)
  ·exact IsiPair.bool_list (m6 I h)
 | int i=>
  refine c5 r.ofInt λu q1_=>?_;subst q1_
  cases t
  ·exact IsiPair.int_int (m9 I h)
  ·exact IsiPair.int_bool (m6 I h)
  ·exact IsiPair.int_str (m6 I h)
  ·exact IsiPair.int_tuple (m6 I h)
  ·exact IsiPair.int_list (m6 I h)
 | str i=>
  refine c5 r.ofStr λu q1_=>?_;subst q1_
  cases t
  ·exact IsiPair.str_int (m6 I h)
  ·exact IsiPair.str_bool (m6 I h)
  ·exact IsiPair.str_str (m9 I h)
  ·exact IsiPair.str_tuple (m6 I h)
  ·exact IsiPair.str_list (m6 I h)
 | tup l=>
  refine l5 r.ofTup λa vs n q1_ ht0 z_=>?_;subst q1_
  cases t
  ·exact IsiPair.tuple_int ht0 rfl (m6 I h)
  ·exact IsiPair.tuple_bool ht0 rfl (m6 I h)
  ·exact IsiPair.tuple_str ht0 rfl (m6 I h)
  ·exact IsiPair.tuple_tuple ht0 rfl (m9 I h)
  ·exact IsiPair.tuple_list ht0 rfl (m6 I h)
 | ref a=>
  obtain rfl:=r.ofRef;obtain⟨l,e,h⟩:=h;obtain⟨vs,⟨n,hp⟩,-⟩:=(I.sim.objs a _ e).1;cases t
  ·exact IsiPair.list_int hp rfl (m6 I h)
  ·exact IsiPair.list_bool hp rfl (m6 I h)
  ·exact IsiPair.list_str hp rfl (m6 I h)
  ·exact IsiPair.list_tuple hp rfl (m6 I h)
  ·exact IsiPair.list_list hp rfl (m9 I h))
theorem bd1{x:V}(h:ar3 g Q M x):Cl g F (.builtin "len") [x] Z M Q X:=by
 cases x with
 | tup l=>obtain⟨p,k⟩:=h;exact bX8 (by lia) k
 | str l=>obtain⟨p,k⟩:=h;exact aR8 (by lia) k
 | ref a=>
  cases h with
  | mk l e r=>obtain⟨p,k⟩:=r;exact bQ6 e (by lia) k
  | scr ns e r=>obtain⟨p,k⟩:=r;rw[ac] at p k;exact aY9 e (by lia) k
 | _=>exact h.elim
theorem ci0{x:V}(h:aL9 Q M x):Cl g F (.type "tuple") [x] Z M Q X:=by
 cases x with
 | tup l=>exact bP4 h
 | ref a=>obtain⟨l,e,p,k⟩:=h;exact ce2 e (u2 p) k
 | _=>exact h.elim
theorem cc6{x:V}(h:aA5 Q M x):Cl g F (.type "list") [x] Z M Q X:=by
 cases x with
 | tup l=>obtain⟨p,⟨k⟩⟩:=h;exact aW9 (u2 p) k
 | ref a=>obtain⟨l,e,p,⟨k⟩⟩:=h;exact bt4 e (u2 p) k
 | _=>exact h.elim
noncomputable def BI.val:BI->Value
 | .len=>.builtin "len"
 | .all=>.builtin "all"
 | .anyb=>.builtin "any"
 | .int=>.type "int"
 | .min=>.builtin "min"
 | .max=>.builtin "max"
 | .sorted=>.builtin "sorted"
 | .tuple=>.type "tuple"
 | .list=>.type "list"
theorem bs7{l:List V}(h:aM2 M Q l):Cl g ⟨sc,vs,d,true⟩ (.builtin "min") l Z M Q X:=by
 cases l with
 | nil=>exact h.elim
 | cons x l=>cases l with
  | nil=>exact h.elim
  | cons y l=>cases l with
   | nil=>refine f7 (C4 h) λa b q1_ q2_ k=>?_;subst q1_;subst q2_;exact ch0 k
   | cons _ _=>exact h.elim
theorem ce1{b:BI}{l:List V}(h:wBi g q b l M Q):Cl g ⟨sc,vs,d,q⟩ b.val l Z M Q X:=by
 cases b with
 | len=>refine a9 (E4 h) λx q1_ k=>?_;subst q1_;exact bd1 k
 | int=>refine a9 (E4 h) λx q1_ k=>?_;subst q1_;refine a9 (aS3 k) λb q1_ k=>?_;subst q1_;exact bO4 (by cases b<;>exact k)
 | tuple=>refine a9 (E4 h) λx q1_ k=>?_;subst q1_;exact ci0 k
 | list=>refine a9 (E4 h) λx q1_ k=>?_;subst q1_;exact cc6 k
 | all=>cases q with
  | true=>refine a9 (E4 h) λx q1_ k=>?_;subst q1_;obtain⟨a,rfl,bs,e,k⟩:=E3 k;exact bE5 rfl e k
  | false=>exact h.elim
 | min=>cases q with
  | true=>exact bs7 h
  | false=>exact h.elim
 | max=>cases q with
  | true=>refine j8 (an3 h) λx y q1_ k=>?_;subst q1_;refine f7 (C4 k) λa b q1_ q2_ k=>?_;subst q1_;subst q2_;exact bq8 k
  | false=>exact h.elim
 | sorted=>cases q with
  | true=>refine a9 (E4 h) λx q1_ k=>?_;subst q1_;refine a9 (E3 k) λa q1_ k=>?_;subst q1_;cases k with | mk l e h1 h2 k=>exact bI6 e h1 h2 k | prs ps e h1 h2 h3 k=>exact cg3 e h1 h2 h3 k
  | false=>exact h.elim
 | anyb=>cases q with
  | true=>refine a9 (E4 h) λx q1_ k=>?_;subst q1_;obtain⟨a,rfl,bs,e,k⟩:=E3 k;exact bi6 rfl e k
  | false=>exact h.elim
noncomputable def ME.id:ME->String
 | .append=>"list.append"
 | .pop=>"list.pop"
theorem Own.elim{a:Addr}{K:Hp->List V->Prop}(h:Own M a K):∃ l M',M a=some (.lst l)/\K M' l/\∀ o,upd M a o=upd M' a o:=by
 cases h with
 | top k=>exact⟨_,_,c9 _ _ _,k,λo=>N5 _ _ _ _⟩
 | mk l h k=>exact⟨l,M,h,k,λz_=>rfl⟩
theorem OwnI.elim{a:Addr}{K:Hp->List (Int×V)->Prop}(h:OwnI M a K):∃ l M',M a=some (.di l)/\K M' l/\∀ o,upd M a o=upd M' a o:=by
 cases h with
 | top k=>exact⟨_,_,c9 _ _ _,k,λo=>N5 _ _ _ _⟩
 | mk l h k=>exact⟨l,M,h,k,λz_=>rfl⟩
theorem OwnS.elim{a:Addr}{K:Hp->List (Str×V)->Prop}(h:OwnS M a K):∃ l M',M a=some (.ds l)/\K M' l/\∀ o,upd M a o=upd M' a o:=by
 cases h with
 | top k=>exact⟨_,_,c9 _ _ _,k,λo=>N5 _ _ _ _⟩
 | mk l h k=>exact⟨l,M,h,k,λz_=>rfl⟩
theorem aZ4{a:Addr}{k v:V}{K:Hp->Prop}(h:aM5 M a v K k):StI g F (.ref a) k v Z M K:=by
 cases k with
 | int n=>
  cases h with
  | l h=>
   obtain⟨l,M',e,⟨⟨h0,h1,h2⟩,k⟩,u⟩:=h.elim;exact bm0 e h0 h1 (dB (gN.mpr h2) (by decide)) (by rw[u];exact k)
  | d h=>
   obtain⟨l,M',e,⟨p,k⟩,u⟩:=h.elim;exact ao4 (kdI g) e (u2 p) (by show K (upd M a _);rw[u];exact k)
 | str n=>
  obtain⟨l,M',e,⟨p,k⟩,u⟩:=OwnS.elim h;exact ao4 (kdS g) e (u2 p) (by show K (upd M a _);rw[u];exact k)
 | _=>exact h.elim
theorem bt7{m:ME}{a:Addr}{l:List V}(h:wMe m a l M Q):Cl g F (.builtin m.id) (.ref a::l) Z M Q X:=by
 cases m with
 | append=>
  refine a9 (E4 h) λx q1_ k=>?_;subst q1_
  obtain⟨l,M',e,⟨p,k⟩,u⟩:=k.elim;exact bm4 e (u2 p) (by rw[u];exact k)
 | pop=>
  refine a9 (E4 h) λx q1_ k=>?_;subst q1_
  refine a9 (Q7 k) λn q1_ k=>?_;subst q1_
  obtain⟨l,M',e,⟨p,k⟩,u⟩:=k.elim;have hlt:n.toNat<l.length:=ah4 p.2.1 p.2.2;exact bx5 e p.1 p.2.1 p.2.2 (aa hlt) (by rw[u];exact k _ (aa hlt))
end
section
variable{g:G}{T:Tab}{sc:Scope}{vs:List Str}{d:Nat}{q:Bool}{Z:Lo}{M:Hp}{Q:VP}{QB:BP}{X:XP}
theorem s9{x:Str}(h:gl sc x=true):sc.names.lookup x=some .globalImplicit/\(x==("__debug__" : Str))=false:=⟨of_decide_eq_true (b9 h).1,l6 (b9 h).2⟩
theorem cd5{x:Str}(hT:TabOK g T)(h:aG3 (T.lookup x)=true):Fn g x:=by
 cases e:T.lookup x with
 | none=>rw[e] at h;exact(ag h).elim
 | some it=>cases it with
  | fn k=>exact⟨_,_,_,hT.at' e⟩
  | _=>rw[e] at h;exact(ag h).elim
theorem D5{x:Str}{id:String}(hT:TabOK g T)(h:C1 id (T.lookup x)=true):Bi g x (.builtin id):=by
 cases e:T.lookup x with
 | none=>rw[e] at h;exact(ag h).elim
 | some it=>cases it with
  | bi k=>rw[e] at h;exact(of_decide_eq_true h:k=id)▸hT.at' e
  | _=>rw[e] at h;exact(ag h).elim
theorem w5{x:Str}{id:String}(hT:TabOK g T)(h:z0 id (T.lookup x)=true):Bi g x (.type id):=by
 cases e:T.lookup x with
 | none=>rw[e] at h;exact(ag h).elim
 | some it=>cases it with
  | ty k=>rw[e] at h;exact(of_decide_eq_true h:k=id)▸hT.at' e
  | _=>rw[e] at h;exact(ag h).elim
theorem bL9{x:Str}{D:List (Str×Int)}(hT:TabOK g T)(h:aI8 D (T.lookup x)=true):Gd g x D:=by
 cases e:T.lookup x with
 | none=>rw[e] at h;exact(ag h).elim
 | some it=>cases it with
  | dict k=>rw[e] at h;exact(of_decide_eq_true h:k=D)▸hT.at' e
  | _=>rw[e] at h;exact(ag h).elim
theorem aP5{x:Str}{b:BI}(hT:TabOK g T)(h:b.has (T.lookup x)=true):Bi g x b.val:=by
 cases b with
 | len=>exact D5 hT h
 | all=>exact D5 hT h
 | anyb=>exact D5 hT h
 | int=>exact w5 hT h
 | min=>exact D5 hT h
 | max=>exact D5 hT h
 | sorted=>exact D5 hT h
 | tuple=>exact w5 hT h
 | list=>exact w5 hT h
theorem ch9{c:Const}{k:Nat}{p:Pos}{v:V}(h:isC (some c) v=true)(hq:Q v M):Ev g ⟨sc,vs,d,q⟩ (.Constant c k p) Z M Q X:=by
 cases c with
 | none=>cases v with
  | none=>exact ba4 hq
  | _=>exact(ag h).elim
 | bool b=>cases v with
  | bool c=>exact bV3 ((of_decide_eq_true h:b=c)▸hq)
  | _=>exact(ag h).elim
 | int b=>cases v with
  | int c=>exact bc5 ((of_decide_eq_true h:b=c)▸hq)
  | _=>exact(ag h).elim
 | str b=>cases v with
  | str c=>exact bo4 ((of_decide_eq_true h:b=c)▸hq)
  | _=>exact(ag h).elim
 | _=>exact(ag h).elim
theorem W6{x:Expr}{v:V}(h:isC (D6 x) v=true)(hq:Q v M):Ev g ⟨sc,vs,d,q⟩ x Z M Q X:=by
 cases e:D6 x with
 | none=>rw[e] at h;exact(ag h).elim
 | some c=>refine p8 (aP2 e) λk p q1_=>?_;subst q1_;rw[e] at h;exact ch9 h hq
theorem bo7{x:Expr}{v:V}(hT:TabOK g T)(h:isG T sc v (s7 x)=true)(hq:Q v M):Ev g ⟨sc,vs,d,q⟩ x Z M Q X:=by
 cases e:s7 x with
 | none=>rw[e] at h;exact(ag h).elim
 | some n=>
  refine c5 (G0 e) λp q1_=>?_;subst q1_
  rw[e] at h;refine c6 (b9 h) λh1 h2=>?_
  refine c6 (s9 h1) λh3 h4=>?_
  cases e:T.lookup n with
  | none=>rw[e] at h2;exact(ag h2).elim
  | some it=>cases it with
   | int i=>cases v with
    | int j=>rw[e] at h2;exact aT4 (hT.at' e) h3 h4 ((of_decide_eq_true h2:i=j)▸hq)
    | _=>rw[e] at h2;exact(ag h2).elim
   | str i=>cases v with
    | str j=>rw[e] at h2;exact ch5 (hT.at' e) h3 h4 ((of_decide_eq_true h2:i=j)▸hq)
    | _=>rw[e] at h2;exact(ag h2).elim
   | _=>rw[e] at h2;exact(ag h2).elim
theorem Op2.mono{F:Blk}{t:Value->Value->Sem Value}{a b:V}{Q':VP}(h:Op2 g F t a b Z M Q X)(k:∀ v M,Q v M->Q' v M):Op2 g F t a b Z M Q' X:=(λA env s x y I r1 r2=>
 pgo (h A env s x y I r1 r2) (λz_ z_ V M' r i y q=>(λz_ k_=>k_ V M' r i y (k _ _ q))) λz_ z_ p=>p)
theorem Tru.mono{F:Blk}{a:V}{Q':BP}(h:Tru g F a Z M QB X)(k:∀ v M,QB v M->Q' v M):Tru g F a Z M Q' X:=(λA env s x I r=>
 y0 (h A env s x I r) (λz_ z_ M' i y q=>(λz_ k_=>k_ M' i y (k _ _ q))) λz_ z_ p=>p)
theorem Tst.mono{F:Blk}{e:Expr}{Q':BP}(h:Tst g F e Z M QB X)(k:∀ v M,QB v M->Q' v M):Tst g F e Z M Q' X:=(λA env s I=>
 y0 (h A env s I) (λz_ z_ M' i y q=>(λz_ k_=>k_ M' i y (k _ _ q))) λz_ z_ p=>p)
def SE(g:G)(T:Tab)(d:Nat)(q:Bool)(e:IE):Prop:=∀ {sc vs x Z M Q X},f6 T e sc vs x=true->wE g d q e Z M Q X->Ev g ⟨sc,vs,d,q⟩ x Z M Q X
def SEs(g:G)(T:Tab)(d:Nat)(q:Bool)(e:IEs):Prop:=∀ {sc vs x Z M Q X},v8 T e sc vs x=true->wEs g d q e Z M Q X->Evs g ⟨sc,vs,d,q⟩ x Z M (λl M=>l.length=x.length/\Q l M) X
def SI(g:G)(T:Tab)(d:Nat)(q:Bool)(e:II):Prop:=∀ {sc vs x Z M Q X},Q9 T e sc vs x=true->wI g d q e Z M Q X->Itr g ⟨sc,vs,d,q⟩ x Z M Q X
def ST(g:G)(T:Tab)(d:Nat)(q:Bool)(e:IE):Prop:=∀ {sc vs x Z M Q X},f6 T e sc vs x=true->wT g d q e Z M Q X->Tst g ⟨sc,vs,d,q⟩ x Z M Q X
def SC(g:G)(T:Tab)(d:Nat)(q:Bool)(e:IEs):Prop:=∀ {sc vs x Z M Q},v8 T e sc vs x=true->wC g d q e Z M Q->C6 g ⟨sc,vs,d,q⟩ x Z M Q
theorem s_k{v:V}(hT:TabOK g T):SE g T d q (.k v):=fun{sc vs x Z M Q X} hc h=>by
 rcases(dv _ _).mp hc with e | e
 ·exact W6 e h
 ·exact bo7 hT e h
theorem s_v{i:Nat}:SE g T d q (.v i):=fun{sc vs x Z M Q X} hc h=>by
 apply R9 hc;intro n p hc1;refine a9 (aH3 h) λv e1 k=>?_
 exact au4 (of_decide_eq_true (b9 hc1).1) e1 k (l6 (b9 hc1).2)
theorem bV5{op:Operator}{a b:IE}(ha:SE g T d q a)(hb:SE g T d q b):SE g T d q (.bin op a b):=fun{sc vs x Z M Q X} hc h=>by
 apply aE2 hc;intro l o r p hc1;refine k8 ((b9 hc1).imp id b9) λh1 h2 h3=>?_
 obtain rfl:=of_decide_eq_true h1;exact au9 ((ha h2 h).mono λx M h=>(hb h3 h).mono λy M h=>bX7 h)
theorem br7{op:CmpOp}{a b:IE}(ha:SE g T d q a)(hb:SE g T d q b):SE g T d q (.cmp op a b):=fun{sc vs x Z M Q X} hc h=>by
 apply aI1 hc;intro l o r p hc1;refine a9 (s6 hc1) λo' q1_ hc2=>?_;subst q1_
 refine a9 (s6 hc2) λr' q1_ hc3=>?_;subst q1_
 obtain⟨h1,h2,h3,h4⟩:=(b9 hc3).imp id λh=>(b9 h).imp id b9
 obtain rfl:=of_decide_eq_true h1;exact cd1 ((ha h3 h).mono λx M h=>(hb h4 h).mono λy M h=>J6 h) (l6 h2)
theorem ca3{op:CmpOp}{a b:IE}(ha:SE g T d q a)(hb:SE g T d q b):ST g T d q (.cmp op a b):=fun{sc vs x Z M Q X} hc h=>by
 apply aI1 hc;intro l o r p hc1;refine a9 (s6 hc1) λo' q1_ hc2=>?_;subst q1_
 refine a9 (s6 hc2) λr' q1_ hc3=>?_;subst q1_
 obtain⟨h1,h2,h3,h4⟩:=(b9 hc3).imp id λh=>(b9 h).imp id b9
 obtain rfl:=of_decide_eq_true h1;exact bJ4 ((ha h3 h).mono λx M h=>(hb h4 h).mono λy M h=>(J6 (F:=⟨sc,vs,d,q⟩) h).mono λt M h=>F8 h) (l6 h2)
theorem bV1{o p:CmpOp}{a b c:IE}(ha:SE g T d q a)(hb:SE g T d q b)(hz:SE g T d q c):SE g T d q (.chain o p a b c):=fun{sc vs x Z M Q X} hc h=>by
 obtain⟨⟨l,o',r⟩,e,hc1⟩:=i5 hc;refine c5 (aj2 e) λp' q1_=>?_;subst q1_
 refine j8 (x4 hc1) λo1 o2 q1_ hc2=>?_;subst q1_
 refine j8 (x4 hc2) λr1 r2 q1_ hc3=>?_;subst q1_
 obtain⟨h1,h2,h3,h4,h5,h6⟩:=(b9 hc3).imp id λh=>(b9 h).imp id λh=>(b9 h).imp id λh=>(b9 h).imp id b9
 obtain rfl:=of_decide_eq_true h1;obtain rfl:=of_decide_eq_true h2;exact bF7 ((ha h4 h).mono λx M h=>(hb h5 h).mono λy M h=>(J6 (F:=⟨sc,vs,d,q⟩) h).mono λt M h=>(F8 h).mono λtt M i=>
  ⟨λe=>(hz h6 (i.1 e)).mono λz M h=>J6 h,i.2⟩) (l6 h3)
theorem bO0{o p:CmpOp}{a b c:IE}(ha:SE g T d q a)(hb:SE g T d q b)(hz:SE g T d q c):ST g T d q (.chain o p a b c):=fun{sc vs x Z M Q X} hc h=>by
 obtain⟨⟨l,o',r⟩,e,hc1⟩:=i5 hc;refine c5 (aj2 e) λp' q1_=>?_;subst q1_
 refine j8 (x4 hc1) λo1 o2 q1_ hc2=>?_;subst q1_
 refine j8 (x4 hc2) λr1 r2 q1_ hc3=>?_;subst q1_
 obtain⟨h1,h2,h3,h4,h5,h6⟩:=(b9 hc3).imp id λh=>(b9 h).imp id λh=>(b9 h).imp id λh=>(b9 h).imp id b9
 obtain rfl:=of_decide_eq_true h1;obtain rfl:=of_decide_eq_true h2;exact aU9 ((ha h4 h).mono λx M h=>(hb h5 h).mono λy M h=>(J6 (F:=⟨sc,vs,d,q⟩) h).mono λt M h=>(F8 h).mono λtt M i=>
  ⟨λe=>(hz h6 (i.1 e)).mono λz M h=>(J6 (F:=⟨sc,vs,d,q⟩) h).mono λt M h=>F8 h,i.2⟩) (l6 h3)
theorem bA2{a:IE}(ha:SE g T d q a):SE g T d q (.not a):=fun{sc vs x Z M Q X} hc h=>by
 apply ad9 hc;intro l r p hc1;obtain rfl:=of_decide_eq_true (b9 hc1).1;exact ax3 ((ha (b9 hc1).2 h).mono λx M h=>bS1 (F8 h))
theorem be3{a:IE}(ha:ST g T d q a):ST g T d q (.not a):=fun{sc vs x Z M Q X} hc h=>by
 apply ad9 hc;intro l r p hc1;obtain rfl:=of_decide_eq_true (b9 hc1).1;exact bN9 (ha (b9 hc1).2 h)
theorem bH8{a:IE}(ha:SE g T d q a):SE g T d q (.neg a):=fun{sc vs x Z M Q X} hc h=>by
 apply ad9 hc;intro l r p hc1;obtain rfl:=of_decide_eq_true (b9 hc1).1;refine ax3 ((ha (b9 hc1).2 h).mono λx M h=>?_)
 refine a9 (Q7 h) λi q1_ k=>?_;subst q1_
 exact bo0 k
theorem aF2{o:BoolOp}{p:Pos}{r:Expr}{es:List Expr}{env:Env}:eval (S6 o p r es) env=boolOp p o (evalEach (r::es) env):=by cases es<;>rfl
theorem cd0{a b:IE}(ha:SE g T d q a)(hb:SE g T d q b):SE g T d q (.and a b):=fun{sc vs x Z M Q X} hc h=>by
 apply U9 hc;intro o l p hc1;obtain rfl:=of_decide_eq_true (b9 hc1).1;refine x6 (Z2 (b9 hc1).2) λl r es q1_ hc2=>?_;subst q1_
 have ev:=(ha (b9 hc2).1 h).mono λx M h=>(F8 (g:=g) (F:=⟨sc,vs,d,q⟩) (Z:=Z) (X:=X) h)
 refine(λA env s I=>?_)
 show wpAny _ A (do
  let v <- eval l env
  standAt p
  let t <- holding [v] (truthy v)
  match BoolOp.And,t with
  | .And,false | .Or,true=>pure v
  | _,_=>boolOp p .And (evalEach (r::es) env)) _ _ s
 refine wpAny_bind (pgo (ev A env s I) (λv sv V zs r I1 st1 qz=>wpAny_bind (wpAny_standAt (wpAny_bind (wpAny_holding (y0 (qz A env sv v I1 r) (λt s2 M2 I2 st2 h2=>?_) λz_ z_ p=>p.step st1))))) λz_ z_ p=>p)
 have st12:=st1.trans st2;obtain⟨i1,i2⟩:=h2;cases t with
 | false=>exact wpAny_pure (λz_ k_=>k_ V M2 (r.mono st2.tups) I2 st12 (i2 rfl))
 | true=>
  show wpAny _ A (boolOp p .And _) _ _ s2;rw[<- aF2];exact wpAny_mono ((hb (b9 hc2).2 (i1 rfl)) A env s2 I2) (λz_ z_ p=>p.step st12) λz_ z_ p=>p.step st12
theorem bf9{a b:IE}(ha:SE g T d q a)(hb:SE g T d q b):SE g T d q (.or a b):=fun{sc vs x Z M Q X} hc h=>by
 apply U9 hc;intro o l p hc1;obtain rfl:=of_decide_eq_true (b9 hc1).1;refine x6 (Z2 (b9 hc1).2) λl r es q1_ hc2=>?_;subst q1_
 have ev:=(ha (b9 hc2).1 h).mono λx M h=>(F8 (g:=g) (F:=⟨sc,vs,d,q⟩) (Z:=Z) (X:=X) h)
 refine(λA env s I=>?_)
 show wpAny _ A (do
  let v <- eval l env
  standAt p
  let t <- holding [v] (truthy v)
  match BoolOp.Or,t with
  | .And,false | .Or,true=>pure v
  | _,_=>boolOp p .Or (evalEach (r::es) env)) _ _ s
 refine wpAny_bind (pgo (ev A env s I) (λv sv V zs r I1 st1 qz=>wpAny_bind (wpAny_standAt (wpAny_bind (wpAny_holding (y0 (qz A env sv v I1 r) (λt s2 M2 I2 st2 h2=>?_) λz_ z_ p=>p.step st1))))) λz_ z_ p=>p)
 have st12:=st1.trans st2;obtain⟨i1,i2⟩:=h2;cases t with
 | true=>exact wpAny_pure (λz_ k_=>k_ V M2 (r.mono st2.tups) I2 st12 (i1 rfl))
 | false=>
  show wpAny _ A (boolOp p .Or _) _ _ s2;rw[<- aF2];exact wpAny_mono ((hb (b9 hc2).2 (i2 rfl)) A env s2 I2) (λz_ z_ p=>p.step st12) λz_ z_ p=>p.step st12
theorem ca5{F:Blk}{p:Pos}{r:Expr}{es:List Expr}(h:Tst g F (S6 .And p r es) Z M QB X):E0 g F .And (r::es) Z M QB X:=by
 cases es with
 | nil=>exact aA1 (Tst.mono h λb M hb=>⟨λe=>bh3 (e▸hb),λe=>e▸hb⟩)
 | cons _ _=>exact(λA env s I=>h A env s I)
theorem bM9{F:Blk}{p:Pos}{r:Expr}{es:List Expr}(h:Tst g F (S6 .Or p r es) Z M QB X):E0 g F .Or (r::es) Z M QB X:=by
 cases es with
 | nil=>exact aK3 (Tst.mono h λb M hb=>⟨λe=>e▸hb,λe=>bO6 (e▸hb)⟩)
 | cons _ _=>exact(λA env s I=>h A env s I)
theorem bM8{a b:IE}(ha:ST g T d q a)(hb:ST g T d q b):ST g T d q (.and a b):=fun{sc vs x Z M Q X} hc h=>by
 apply U9 hc;intro o l p hc1;obtain rfl:=of_decide_eq_true (b9 hc1).1;refine x6 (Z2 (b9 hc1).2) λl r es q1_ hc2=>?_;subst q1_
 exact ao2 (aA1 ((ha (b9 hc2).1 h).mono λt M i=>⟨λe=>ca5 (hb (b9 hc2).2 (i.1 e)),i.2⟩))
theorem bR5{a b:IE}(ha:ST g T d q a)(hb:ST g T d q b):ST g T d q (.or a b):=fun{sc vs x Z M Q X} hc h=>by
 apply U9 hc;intro o l p hc1;obtain rfl:=of_decide_eq_true (b9 hc1).1;refine x6 (Z2 (b9 hc1).2) λl r es q1_ hc2=>?_;subst q1_
 exact ao2 (aK3 ((ha (b9 hc2).1 h).mono λt M i=>⟨i.1,λe=>bM9 (hb (b9 hc2).2 (i.2 e))⟩))
theorem aD4{es:IEs}:∀ {sc:Scope} {vs:List Str} {l:List Expr},v8 T es sc vs l=true->∀ env pos,(backTo pos (starEach l env)).any (·.1)=false:=fun{sc vs l}=>by
 induction l generalizing es with
 | nil=>intro _ env pos;rfl
 | cons e l ih=>
  intro hc env pos;cases es with
  | nil=>exact(ag hc).elim
  | cons a es=>
   refine k8 ((b9 hc).imp id b9) λh1 h2 h3=>?_
   rw[u8 (l6 h1)];exact ih h3 env pos
theorem by2:SEs g T d q .nil:=fun{sc vs x Z M Q X} hc h=>by
 obtain rfl:=bj.mp hc;exact U8 ⟨rfl,h⟩
theorem bx3{a:IE}{es:IEs}(ha:SE g T d q a)(he:SEs g T d q es):SEs g T d q (.cons a es):=fun{sc vs x Z M Q X} hc h=>by
 cases x with
 | nil=>exact(ag hc).elim
 | cons e l=>
  refine k8 ((b9 hc).imp id b9) λh1 h2 h3=>?_
  exact P6 ((ha h2 h).mono λv M h=>(he h3 h).mono λl M h=>⟨congrArg (· + 1) h.1,h.2⟩) (aD4 h3) (λenv=>u8 (l6 h1))
theorem bF6{es:IEs}(he:SEs g T d q es):SE g T d q (.tup es):=fun{sc vs x Z M Q X} hc h=>by
 apply ac3 hc;intro l k p hc1;have hl:=of_decide_eq_true (b9 hc1).1;exact aO8 ((he (b9 hc1).2 h).mono λl M h=>⟨u2 (h.1▸hl),h.2⟩)
theorem bU8{es:IEs}(he:SEs g T d q es):SE g T d q (.lst es):=fun{sc vs x Z M Q X} hc h=>by
 apply cb1 hc;intro l p hc1;have hl:=of_decide_eq_true (b9 hc1).1;exact aK2 ((he (b9 hc1).2 h).mono λl M h=>⟨u2 (h.1▸hl),h.2.1⟩)
theorem aB8{a b:IE}(ha:SE g T d q a)(hb:SE g T d q b):SE g T d q (.itm a b):=fun{sc vs x Z M Q X} hc h=>by
 apply O5 hc;intro l r p hc1;refine k8 ((b9 hc1).imp id b9) λh1 h2 h3=>?_
 exact ah7 ((ha h2 h).mono λx M h=>(hb h3 h).mono λy M h=>bh0 h) (λz_ z_=>ae4 (bV.mp h1))
theorem aU2{x:Expr}{v:V}(h:isC (D6 x) v=true):H9 x=none:=by
 cases e:D6 x with
 | none=>rw[e] at h;exact(ag h).elim
 | some c=>refine p8 (aP2 e) λk p q1_=>?_;subst q1_;rfl
theorem az5{a:IE}{n:Nat}(ha:SE g T d q a):SE g T d q (.itk a n):=fun{sc vs x Z M Q X} hc h=>by
 apply O5 hc;intro l r p hc1;refine k8 ((b9 hc1).imp id b9) λh1 h2 h3=>?_
 exact ah7 ((ha h3 h).mono λx M h=>W6 h1 (bg5 (of_decide_eq_true h2) h)) (λz_ z_=>ae4 (aU2 h1))
theorem bj2{es:IEs}{i:IE}(he:SEs g T d q es)(hi:SE g T d q i):SE g T d q (.pick es i):=fun{sc vs x Z M Q X} hc h=>by
 apply O5 hc;intro l r p hc1;refine k8 ((b9 hc1).imp id b9) λh1 h2 h3=>?_
 refine a9 (i5 h3) λl e hc2=>?_
 refine c5 (at2 e) λp' q1_=>?_;subst q1_
 have hl:=of_decide_eq_true (b9 hc2).1;refine bw2 ((he (b9 hc2).2 h).mono λl M h=>⟨u2 (h.1▸hl),(hi h2 h.2).mono λk M h=>?_⟩) (λz_ z_=>ae4 (bV.mp h1))
 cases k with
 | int n=>
  obtain⟨h0,h1,k⟩:=h;have hlt:n.toNat<l.length:=ah4 h0 h1;exact⟨n,_,rfl,h0,by lia,aa hlt,k _ (aa hlt)⟩
 | _=>exact h.elim
theorem aM1{a:IE}(ha:SE g T d q a){x:Option Expr}(hc:ab8 (f6 T a sc vs) (ai6 a) x=true)(h:wE g d q a Z M Q X):EvO g ⟨sc,vs,d,q⟩ x Z M Q X:=by
 cases x with
 | some e=>exact bM0 (ha hc h)
 | none=>
  cases a with
  | k v=>cases v with
   | none=>exact bt5 h
   | _=>exact(ag hc).elim
  | _=>exact(ag hc).elim
theorem EvO.mono{F:Blk}{e:Option Expr}{Q':VP}(h:EvO g F e Z M Q X)(k:∀ v M,Q v M->Q' v M):EvO g F e Z M Q' X:=(λA env s I=>
 pgo (h A env s I) (λz_ z_ V M' r i y q=>(λz_ k_=>k_ V M' r i y (k _ _ q))) λz_ z_ p=>p)
theorem bu1{a lo hi:IE}(ha:SE g T d q a)(hlo:SE g T d q lo)(hhi:SE g T d q hi):SE g T d q (.slc a lo hi):=fun{sc vs x Z M Q X} hc h=>by
 apply O5 hc;intro l r p hc1;obtain⟨⟨u,w,z⟩,e,hc2⟩:=i5 hc1;refine c5 (cf5 e) λp' q1_=>?_;subst q1_
 obtain⟨h1,h2,h3,h4⟩:=(b9 hc2).imp id λh=>(b9 h).imp id b9
 obtain rfl:=bV.mp h1;refine bo8 ((ha h2 h).mono λx M h=>(aM1 hlo h3 h).mono λu M h=>(aM1 hhi h4 h).mono λw M h=>?_)
 refine a9 (aJ8 h) λk1 o1 h=>?_
 refine a9 (aJ8 h) λk2 o2 h=>?_
 exact⟨k1,k2,o1,o2,bK1 h⟩
theorem aJ9{f:Str}{es:IEs}(hT:TabOK g T)(he:SEs g T d q es):SE g T d q (.call f es):=fun{sc vs x Z M Q X} hc h=>by
 refine B0 (v4 hc) λn as np p q1_ hc1=>?_;subst q1_
 obtain⟨h1,h2,h3,h4⟩:=(b9 hc1).imp id λh=>(b9 h).imp id b9
 obtain rfl:=of_decide_eq_true h1;refine c6 (s9 h2) λh5 h6=>?_
 exact bL8 (cd5 hT h3) h5 h6 ((he h4 h).mono λl M h=>h.2)
set_option tactic.hygienic true in
theorem aI3{b:BI}{es:IEs}(hT:TabOK g T)(he:SEs g T d q es):SE g T d q (.bi b es):=fun{sc vs x Z M Q X} hc h=>by
 refine B0 (v4 hc) λn as np p q1_ hc1=>?_;subst q1_
 refine k8 ((b9 hc1).imp id b9) λh1 h2 h3=>?_
 refine c6 (s9 h1) λh5 h6=>?_
 have hb:=aP5 hT h2;have ev:=(he h3 h).mono λl M h=>ce1 (sc:=sc) (vs:=vs) (d:=d) (Z:=Z) (X:=X) h.2
 cases b
 case int=>exact u_t hb h5 ev h6
 case tuple=>exact u_t hb h5 ev h6
 case list=>exact u_t hb h5 ev h6
 all_goals exact u_b hb h5 ev h6
theorem aw2{a:IE}{t:TY}(hT:TabOK g T)(ha:SE g T d q a):SE g T d q (.isi a t):=fun{sc vs x Z M Q X} hc h=>by
 refine B0 (v4 hc) λn as np p q1_ hc1=>?_;subst q1_
 refine k8 ((b9 hc1).imp id b9) λh1 h2 h3=>?_
 refine j8 (x4 h3) λe ty q1_ hc2=>?_;subst q1_
 refine k8 ((b9 hc2).imp id b9) λk3 h4 h5=>?_
 refine a9 (i5 h5) λm e' hc3=>?_
 refine c5 (G0 e') λp' q1_=>?_;subst q1_
 refine c6 (s9 h1) λh6 h7=>?_
 refine c6 (s9 (b9 hc3).1) λh8 h9=>?_
 exact bA6 (D5 hT h2) (w5 hT (b9 hc3).2) h6 h8 ((ha h4 h).mono λv M h=>bW5 h) h7 h9 (λenv=>u8 (l6 k3))
theorem bR6{l:List (Bool×Sem Value)}(h:l.any (·.1)=false):l.all (λx=>!x.1)=true:=by
 rw[List.all_eq_not_any_not];simp only[Bool.not_not];rw[h];rfl
theorem ag5{as:List Expr}{p:Pos}{env:Env}(h:(backTo p (starEach as env)).any (·.1)=false)(hl:as.length<20):((backTo p (starEach as env)).all (λx=>!x.1)&&(backToKw p (keywordEach [] env)).all (λx=>x.1.isSome)
   && decide (as.length+([]:List Keyword).length+(if ([]:List Keyword).isEmpty then 0 else 1)<30))=true:=by
 rw[bR6 h];exact decide_eq_true (by simp;lia)
theorem bR7{m:ME}{o:IE}{es:IEs}(ho:SE g T d q o)(he:SEs g T d q es):SE g T d q (.meth m o es):=fun{sc vs x Z M Q X} hc h=>by
 apply aj1 hc;intro f as ks p hc1;refine c6 (b9 hc1) λh0 hc2=>?_
 obtain rfl:ks=[]:=bj.mp h0;apply af0 (x:=f) hc2;intro ob n ap hc3;obtain⟨h1,h2,h3,h4,h5,h6⟩:=(b9 hc3).imp id λh=>(b9 h).imp id λh=>(b9 h).imp id λh=>(b9 h).imp id b9
 obtain rfl:n=m.nm:=of_decide_eq_true h1;have hl:as.length<20:=of_decide_eq_true h4;have ev:Ev g ⟨sc,vs,d,q⟩ ob Z M (λv zs=>∃ a l,v=.ref a/\zs a=some (.lst l)/\Evs g ⟨sc,vs,d,q⟩ as Z zs (λus M2=>Cl g ⟨sc,vs,d,q⟩ (.builtin m.id) (.ref a::us) Z M2 Q X) X) X:=(ho h5 h).mono λv M h=>by
  obtain⟨a,rfl,l,e,h⟩:=E3 h;exact⟨a,l,rfl,e,(he h6 h).mono λus M h=>bt7 h.2⟩
 have hb:=λenv=>an5 h3 (n:=m.nm) (env:=env) (w:=eval ob env)
 have hf:=λenv=>ag5 (aD4 h6 env p) hl
 cases m with
 | append=>exact aM3 slot_list_append type_list_append ev h2 hb hf
 | pop=>exact aM3 PySem.F.slot_list_pop PySem.F.type_list_pop ev h2 hb hf
theorem cj9{D:List (Str×Int)}{a:IE}(hT:TabOK g T)(ha:SE g T d q a):SE g T d q (.get D a):=fun{sc vs x Z M Q X} hc h=>by
 apply aj1 hc;intro f as ks p hc1;refine c6 (b9 hc1) λh0 hc2=>?_
 obtain rfl:ks=[]:=bj.mp h0;apply af0 (x:=f) hc2;intro ob n ap hc3;refine k8 ((b9 hc3).imp id b9) λh1 h2 hc4=>?_
 obtain rfl:n=Str.ofString "get":=of_decide_eq_true h1;refine a9 (s6 hc4) λe1 q1_ hc5=>?_;subst q1_
 refine k8 ((b9 hc5).imp id b9) λh3 h4 hc6=>?_
 apply R9 (x:=ob) hc6;intro dn np hc7;refine c6 (s9 (b9 hc7).1) λh5 h6=>?_
 have hs:∀ env,starEach [e1] env=[(false,eval e1 env)]:=λenv=>u8 (l6 h3)
 refine cj5 (bL9 hT (b9 hc7).2) h5 h6 ((ha h4 h).mono λv M h=>?_) h2 (λenv=>rfl) (λenv=>ag5 (by rw[hs];rfl) (by simp)) hs
 refine a9 (aa9 h) λy q1_ h=>?_;subst q1_
 refine⟨y,rfl,?_⟩;cases h with
 | none e k=>rw[e];exact k
 | some i e k=>rw[e];exact k
theorem aS0{b:Bool}:SE g T d q (.dic0 b):=fun{sc vs x Z M Q X} hc h=>by
 refine a9 (i5 hc) λt e hc1=>?_
 refine c5 (aM8 e) λp q1_=>?_;subst q1_
 rw[bj.mp (b9 hc1).1,bj.mp (b9 hc1).2];cases b with
 | true=>obtain⟨k⟩:=h;exact az9 (kdS g) k
 | false=>obtain⟨k⟩:=h;exact az9 (kdI g) k
theorem bI7{b:Bool}{k v:IE}(hk:SE g T d q k)(hv:SE g T d q v):SE g T d q (.dic1 b k v):=fun{sc vs x Z M Q X} hc h=>by
 obtain⟨⟨ks,ws⟩,e,hc1⟩:=i5 hc;refine c5 (aM8 e) λp q1_=>?_;subst q1_
 refine a9 (s6 hc1) λko e1 hc2=>?_
 refine a9 (i5 hc2) λke e2 hc3=>?_
 refine a9 (s6 hc3) λve e3 hc4=>?_
 obtain rfl:ks=[some ke]:=by rw[<- e2];exact e1
 obtain rfl:ws=[ve]:=e3;cases b with
 | true=>exact aH5 (kdS g) ((hk (b9 hc4).1 h).mono λx M h=>(hv (b9 hc4).2 h).mono λy M h=>by obtain⟨k,rfl,⟨h⟩⟩:=aa9 h;exact⟨k,rfl,h⟩)
 | false=>exact aH5 (kdI g) ((hk (b9 hc4).1 h).mono λx M h=>(hv (b9 hc4).2 h).mono λy M h=>by obtain⟨k,rfl,⟨h⟩⟩:=Q7 h;exact⟨k,rfl,h⟩)
theorem by4{n:Nat}{v:Int}:SE g T d q (.pw n v):=fun{sc vs x Z M Q X} hc h=>by
 apply aE2 hc;intro l o r p hc1;obtain⟨h1,h2,h3,h4,h5⟩:=(b9 hc1).imp id λh=>(b9 h).imp id λh=>(b9 h).imp id b9
 obtain rfl:=of_decide_eq_true h1;have hn:=of_decide_eq_true h4;obtain rfl:=of_decide_eq_true h5;refine au9 (W6 h2 (W6 h3 (cg7 (aT n) ?_ h)));have:(Builtin.Int.intBits 10:Int)=4:=by decide +kernel
 rw[this];lia
theorem bl7{a k z:IE}(ha:SE g T d q a)(hk:SE g T d q k)(hz:SE g T d q z):SE g T d q (.dg2 a k z):=fun{sc vs x Z M Q X} hc h=>by
 apply aj1 hc;intro f as ks p hc1;refine c6 (b9 hc1) λh0 hc2=>?_
 obtain rfl:ks=[]:=bj.mp h0;apply af0 (x:=f) hc2;intro ob n ap hc3;obtain⟨h1,h2,h3,h4,hc4⟩:=(b9 hc3).imp id λh=>(b9 h).imp id λh=>(b9 h).imp id b9
 obtain rfl:n=Str.ofString "get":=of_decide_eq_true h1;refine j8 (x4 hc4) λe y q1_ hc5=>?_;subst q1_
 obtain⟨h5,h6,h7,h8⟩:=(b9 hc5).imp id λh=>(b9 h).imp id b9
 have hs:∀ env,starEach [e,y] env=[(false,eval e env),(false,eval y env)]:=λenv=>by rw[u8 (l6 h5),u8 (l6 h6)];rfl
 refine aS4 (kdS g) ((ha h4 h).mono λv M h=>?_) h2 (λenv=>an5 h3) (λenv=>ag5 (by rw[hs];rfl) (show 2<20 by decide)) hs
 obtain⟨b,rfl,l,e,h⟩:=E3 h;refine⟨b,l,rfl,e,(hk h7 h).mono λu M h=>(hz h8 h).mono λw M h=>?_⟩
 obtain⟨n,rfl,l',e',h⟩:=aa9 h;exact⟨n,l',rfl,e',h⟩
theorem aB2{a:IE}(hT:TabOK g T)(ha:SE g T d q a):SE g T d q (.isl a):=fun{sc vs x Z M Q X} hc h=>by
 refine B0 (v4 hc) λn as np p q1_ hc1=>?_;subst q1_
 refine k8 ((b9 hc1).imp id b9) λh1 h2 h3=>?_
 refine j8 (x4 h3) λe ty q1_ hc2=>?_;subst q1_
 refine k8 ((b9 hc2).imp id b9) λk3 h4 h5=>?_
 refine a9 (i5 h5) λl e' hc3=>?_
 refine p8 (R6 e') λk' p' q1_=>?_;subst q1_
 refine j8 (x4 hc3) λm1 m2 q1_ hc4=>?_;subst q1_
 refine a9 (i5 (b9 hc4).1) λt1 e1 hc5=>?_
 refine c5 (G0 e1) λp1 q1_=>?_;subst q1_
 refine a9 (i5 (b9 hc4).2) λt2 e2 hc6=>?_
 refine c5 (G0 e2) λp2 q1_=>?_;subst q1_
 refine c6 (s9 h1) λh6 h7=>?_
 refine c6 (s9 (b9 hc5).1) λh8 h9=>?_
 refine c6 (s9 (b9 hc6).1) λh10 h11=>?_
 refine bA9 (D5 hT h2) (w5 hT (b9 hc5).2) (w5 hT (b9 hc6).2) h6 h8 h10 ((ha h4 h).mono λv M h=>?_) h7 h9 h11 (λenv=>u8 (l6 k3))
 cases v with
 | tup l=>exact⟨.inr ⟨l,rfl⟩,h⟩
 | ref a=>obtain⟨l,e,h⟩:=h;exact⟨.inl ⟨a,l,rfl,e⟩,h⟩
 | _=>exact h.elim
theorem cb2{x:Str}(hT:TabOK g T)(h:aN4 (T.lookup x)=true):∃ C bm,T.lookup x=some (.cls C bm)/\XC g x C bm:=by
 cases e:T.lookup x with
 | none=>rw[e] at h;exact(ag h).elim
 | some it=>cases it with
  | cls C bm=>exact⟨C,bm,rfl,hT.at' e⟩
  | _=>rw[e] at h;exact(ag h).elim
end
section
variable{g:G}{T:Tab}{F:Blk}{sc:Scope}{vs:List Str}{d:Nat}{q:Bool}{Z:Lo}{M:Hp}{Q:VP}{QB:BP}{X:XP}
theorem ci3{a:IE}(hT:TabOK g T)(ha:SE g T d q a):SE g T d q (.lrng a):=fun{sc vs x Z M Q X} hc h=>by
 refine B0 (v4 hc) λn as np p q1_ hc1=>?_;subst q1_
 refine k8 ((b9 hc1).imp id b9) λh1 h2 hc2=>?_
 refine a9 (s6 hc2) λr q1_ hc3=>?_;subst q1_
 refine B0 (v4 hc3) λm bs mp p' q1_ hc4=>?_;subst q1_
 refine k8 ((b9 hc4).imp id b9) λh3 h4 hc5=>?_
 refine a9 (s6 hc5) λe q1_ hc6=>?_;subst q1_
 refine c6 (s9 h1) λk1 k2=>?_
 refine c6 (s9 h3) λk3 k4=>?_
 have hs:∀ env,starEach [e] env=[(false,eval e env)]:=λenv=>u8 (l6 (b9 hc6).1)
 cases q with
 | false=>exact h.elim
 | true=>
  refine bb9 (w5 hT h2) k1 k2 (am4 (w5 hT h4) k3 ((ha (b9 hc6).2 h).mono λv M h=>?_) k4 hs) (λenv=>rfl)
  obtain⟨n,rfl,⟨h0,h1⟩,⟨k⟩⟩:=Q7 h;exact⟨n,rfl,n.toNat,rfl,rfl,by lia,by lia,k⟩
theorem aW0{a:IE}(hT:TabOK g T)(ha:SE g T d q a):SE g T d q (.sset a):=fun{sc vs x Z M Q X} hc h=>by
 refine B0 (v4 hc) λn as np p q1_ hc1=>?_;subst q1_
 refine k8 ((b9 hc1).imp id b9) λh1 h2 hc2=>?_
 refine a9 (s6 hc2) λr q1_ hc3=>?_;subst q1_
 refine B0 (v4 hc3) λm bs mp p' q1_ hc4=>?_;subst q1_
 refine k8 ((b9 hc4).imp id b9) λh3 h4 hc5=>?_
 refine a9 (s6 hc5) λe q1_ hc6=>?_;subst q1_
 refine c6 (s9 h1) λk1 k2=>?_
 refine c6 (s9 h3) λk3 k4=>?_
 have hs:∀ env,starEach [e] env=[(false,eval e env)]:=λenv=>u8 (l6 (b9 hc6).1)
 cases q with
 | false=>exact h.elim
 | true=>
  refine bb3 (D5 hT h2) (w5 hT h4) k1 k3 rfl ((ha (b9 hc6).2 h).mono λv M h=>?_) k2 k4 hs
  obtain⟨b,rfl,l,e,hk,h64,k⟩:=E3 h;exact⟨b,l,rfl,e,hk,h64,k⟩
theorem H4{x:Expr}(hp:Ma6 x=true)(h:Ev g F x Z M (λv M=>C3 v M QB) X):Tst g F x Z M QB X:=Ev.tst_of (h.mono λv M h=>F8 h) (λenv w=>bp4 hp)
theorem ch8{x:Expr}{n:Str}(h:s7 x=some n):Ma6 x=true:=by refine c5 (G0 h) λp q1_=>?_;subst q1_;rfl
theorem aL5{x:Expr}{n}(h:G8 x=some n):Ma6 x=true:=by refine c5 (ap2 h) λp q1_=>?_;subst q1_;rfl
theorem Y3{x:Expr}{P}(h:u5 x P=true):Ma6 x=true:=by refine B0 (v4 h) λn as np p q1_ z_=>?_;subst q1_;rfl
theorem t_v{i:Nat}:ST g T d q (.v i):=fun{sc vs x Z M QB X} hc h=>by
 refine a9 (i5 hc) λn e z_=>?_
 exact H4 (ch8 e) (s_v hc h)
theorem bN0{f:Str}{es:IEs}(hT:TabOK g T)(he:SEs g T d q es):ST g T d q (.call f es):=fun{sc vs x Z M QB X} hc h=>H4 (Y3 hc) (aJ9 hT he hc h)
theorem bG6{b:BI}{es:IEs}(hT:TabOK g T)(he:SEs g T d q es):ST g T d q (.bi b es):=fun{sc vs x Z M QB X} hc h=>H4 (Y3 hc) (aI3 hT he hc h)
theorem bc4{a:IE}{t:TY}(hT:TabOK g T)(ha:SE g T d q a):ST g T d q (.isi a t):=fun{sc vs x Z M QB X} hc h=>H4 (Y3 hc) (aw2 hT ha hc h)
theorem bK3{a:IE}(hT:TabOK g T)(ha:SE g T d q a):ST g T d q (.isl a):=fun{sc vs x Z M QB X} hc h=>H4 (Y3 hc) (aB2 hT ha hc h)
theorem bh2{a b:IE}(ha:SE g T d q a)(hb:SE g T d q b):ST g T d q (.itm a b):=fun{sc vs x Z M QB X} hc h=>by
 refine a9 (i5 hc) λn e z_=>?_
 exact H4 (aL5 e) (aB8 ha hb hc h)
theorem aZ3{a:IE}{n:Nat}(ha:SE g T d q a):ST g T d q (.itk a n):=fun{sc vs x Z M QB X} hc h=>by
 refine a9 (i5 hc) λn e z_=>?_
 exact H4 (aL5 e) (az5 ha hc h)
theorem cc4:SC g T d q .nil:=fun{sc vs x Z M Q} hc h=>by
 obtain rfl:=bj.mp hc;exact bD9 h
theorem bF0{t:IE}(ht:ST g T d q t):SC g T d q (.cons t .nil):=fun{sc vs x Z M Q} hc h=>by
 cases x with
 | nil=>exact(ag hc).elim
 | cons e l=>
  refine k8 ((b9 hc).imp id b9) λh1 h2 h3=>?_
  obtain rfl:=bj.mp h3;exact by0 (ht h2 h)
theorem ay6{e:Expr}{Q:List V->(Hp->Prop)->Hp->Prop}(h:Ev g F e Z M (λv zs=>wIt Q zs v) X)(hf:∀ env x,foldedSetIterable e env x=pure x):Itr g F e Z M Q X:=
 ⟨λA env s I hh=>wpAny_mono (h A env s I) (λx sv p=>by
  refine p _ ?_;clear p;rintro v zs r I1 st1 hQ;cases v with
  | ref a=>
   obtain rfl:=r.ofRef;obtain⟨L,hM,hQ⟩:=hQ;refine a9 ((I1.sim.objs a _ hM).1) λvs hp rs=>?_
   refine wpAny_pyIter_list hp.isList ?_;exact(λz_ k_=>k_ _ L _ _ zs rfl (aZ2 hh (ax:=a)) ⟨_,aB _ rfl,rfl,rfl⟩ st1.freshSize I1.sim.fresh (I1.keep Step.push I1.sim.push) st1.push' hQ)
  | tup l=>
   refine l5 r.ofTup λa vs n q1_ ht rs=>?_;subst q1_
   refine wpAny_pyIter_tuple ⟨_,ht,rfl,_,rfl⟩ ?_;exact(λz_ k_=>k_ _ _ _ _ zs rfl (be7 hh) ⟨⟨_,aB _ rfl,rfl,rfl⟩,an _ ht,rs.mono (Step.push (fr:=inF A) (own:=d9) (M:=M)).tups⟩ st1.freshSize I1.sim.fresh (I1.keep Step.push I1.sim.push) st1.push' hQ)
  | str x=>
   refine c5 r.ofStr λt q1_=>?_;subst q1_
   cases q:x.cps.all (· < 128) with
   | true=>exact wpAny_pyIter_ascii q (λz_ k_=>k_ _ _ _ _ zs rfl (ci7 hh) ⟨_,aB _ rfl,rfl,rfl⟩ st1.freshSize I1.sim.fresh (I1.keep Step.push I1.sim.push) st1.push' hQ)
   | false=>exact wpAny_pyIter_wide q (λz_ k_=>k_ _ _ _ _ zs rfl (aQ8 hh) ⟨_,aB _ rfl,rfl,rfl⟩ st1.freshSize I1.sim.fresh (I1.keep Step.push I1.sim.push) st1.push' hQ)
  | _=>exact hQ.elim) λz_ z_ p=>p,hf⟩
theorem i_e{a:IE}(ha:SE g T d q a):SI g T d q (.e a):=fun{sc vs x Z M Q X} hc h=>ay6 (ha (b9 hc).2 h) λenv v=>ao9 (l6 (b9 hc).1)
theorem Rng.itr{e:Expr}{Q:List V->(Hp->Prop)->Hp->Prop}(h:Rng g F e Z M (λa b c zs=>c=1/\s8 a/\s8 b/\Q (g9 a 1 (b-a).toNat) (λz_=>True) zs) X)(hf:∀ env x,foldedSetIterable e env x=pure x):Itr g F e Z M Q X:=by
 refine bk5 (λA env s I=>wpAny_mono (h A env s I) (λx sv p=>?_) λz_ z_ p=>p) hf
 refine p _ ?_;clear p;rintro r a b c t u v M' h1 h2 h3 h4 ⟨rfl,ha,hb,h5⟩;exact(λz_ k_=>k_ r a b 1 t u v M' h1 h2 h3 h4 ⟨aF9 ha hb,by rw[aw8];exact h5⟩)
theorem aR4{a:IE}(hT:TabOK g T)(ha:SE g T d q a):SI g T d q (.r1 a):=fun{sc vs x Z M Q X} hc h=>by
 obtain⟨n,as,np,p,rfl,hc1⟩:=v4 (x:=x) (P:=λn as=>gl sc n&&(z0 "range" (T.lookup n)&&one as λe=>!star e&&f6 T a sc vs e)) hc
 refine k8 ((b9 hc1).imp id b9) λh1 h2 hc2=>?_
 refine a9 (s6 hc2) λe q1_ hc3=>?_;subst q1_
 refine c6 (s9 h1) λk1 k2=>?_
 refine(am4 (w5 hT h2) k1 ((ha (b9 hc3).2 h).mono λv M h=>?_) k2 λenv=>u8 (l6 (b9 hc3).1)).itr λenv x=>rfl
 obtain⟨b,rfl,hb,k⟩:=Q7 h;exact⟨b,rfl,rfl,by unfold s8;lia,hb,k⟩
theorem bP6{x:Str}{np pos:Pos}{e e':Expr}{Q:Int->Int->Int->Hp->Prop}(hb:Bi g x (.type "range"))(hk:sc.names.lookup x=some .globalImplicit)
  (h:Ev g ⟨sc,vs,d,q⟩ e Z M (λv zs=>Ev g ⟨sc,vs,d,q⟩ e' Z zs (λw M2=>∃ a b,v=.int a/\w=.int b/\Q a b 1 M2) X) X) (hd:(x==("__debug__" : Str))=false) (he:∀ env,starEach [e,e'] env=(false,eval e env)::starEach [e'] env) (he':∀ env,starEach [e'] env=(false,eval e' env)::starEach [] env):Rng g ⟨sc,vs,d,q⟩ (.Call (.Name x np) [e,e'] [] pos) Z M Q X:=(λA env s I=>by
 refine wpAny_Call_ofName (Calls.Name_function_global I.fn (by show env.scope.names.lookup x=_;rw[I.scope];exact hk) (aX (by rw[I.glob];exact g.ns.keeps I.sim.stays) hb.1 (by rw[I.bltn];exact g.nb.keeps I.sim.stays) hb.2 ?_) hd)
 have hp:(backTo pos (starEach [e,e'] env)).any (·.1)=false:=by rw[he,he'];rfl
 refine callWith_excType hp (v5 hp (wpAny_items_cons (wpAny_mono (h A env s I) (λv sv p=>?_) λz_ z_ p=>p) (he env)))
 refine p _ ?_;clear p;rintro V zs r I1 st1 qz;refine wpAny_items_cons (wpAny_mono (qz A env sv I1) (λv' s2 p=>wpAny_items_nil ?_) λz_ z_ p=>p.step st1) (he' env)
 refine p _ ?_;clear p;rintro V' M2 r' I2 st2 ⟨a,b,hV,hV',hQ⟩;subst hV hV';refine c5 r.ofInt λz_ q1_=>?_;subst q1_;refine c5 r'.ofInt λz_ q1_=>?_;subst q1_
 refine call_range_2 (λz_ k_=>k_ _ a b 1 _ _ _ M2 rfl (aB _ rfl) ?_ ?_ hQ)
 ·exact I2.keep (Step.grow λb o e=>an _ e) I2.sim.push
 ·exact(st1.trans st2).trans (Step.grow λb o e=>an _ e))
theorem bj8{a b:IE}(hT:TabOK g T)(ha:SE g T d q a)(hb:SE g T d q b):SI g T d q (.r2 a b):=fun{sc vs x Z M Q X} hc h=>by
 obtain⟨n,as,np,p,rfl,hc1⟩:=v4 (x:=x) (P:=λn as=>gl sc n&&(z0 "range" (T.lookup n)&&two as λe r=>!star e&&(!star r&&(f6 T a sc vs e&&f6 T b sc vs r)))) hc
 obtain⟨h1,h2,hc2⟩:=(b9 hc1).imp id b9;obtain⟨e,r,rfl,hc3⟩:=x4 hc2;obtain⟨h3,h4,h5,h6⟩:=(b9 hc3).imp id λh=>(b9 h).imp id b9
 obtain⟨k1,k2⟩:=s9 h1;refine(bP6 (w5 hT h2) k1 ((ha h5 h).mono λv M h=>(hb h6 h).mono λw M h=>?_) k2 (λenv=>u8 (l6 h3)) (λenv=>u8 (l6 h4))).itr λenv x=>rfl
 obtain⟨a,b,rfl,rfl,⟨h1,h2⟩,k⟩:=C4 h;exact⟨a,b,rfl,rfl,rfl,h1,h2,k⟩
theorem ba7{js:List Nat}{elt:IE}{it:II}{cs:IEs}(he:SE g T d q elt)(hi:SI g T d q it)(hs:SC g T d q cs):SE g T d q (.comp js elt it cs):=fun{sc vs x Z M Q X} hc h=>by
 apply ar9 hc;intro e l scope p hc1;obtain⟨⟨tg,iter,ifs,as⟩,rfl,hc2⟩:=s6 hc1;refine c6 (b9 hc2) λh1 hc3=>?_
 obtain rfl:as=0:=of_decide_eq_true h1;apply R9 (x:=tg) hc3;intro y py hc4;obtain⟨h2,h3,h4,h5⟩:=(b9 hc4).imp id λh=>(b9 h).imp id b9
 cases q with
 | false=>exact h.elim
 | true=>
  refine ax9 (F:=⟨sc,vs,d,true⟩) js h2 rfl ((hi h4 h).mono λL K M h=>?_)
  obtain⟨J,hz,h0,ht,hend⟩:=h;exact⟨J,u2 hz,h0,λv l acc M' hj=>⟨(ht v l acc M' hj).1,(hs h5 (ht v l acc M' hj).2).mono λb M i=>⟨λe=>he h3 (i.1 e),i.2⟩⟩,hend⟩
end
section
variable{g:G}{T:Tab}{F:Blk}{sc:Scope}{vs:List Str}{d:Nat}{q:Bool}{Z:Lo}{M:Hp}{Q:d4}{X:g7}
theorem Inv.at'{A:Around}{env:Env}{s:Shared}{i:Nat}{x:Str}(I:Inv g F A env Z M s)(hx:F.vars[i]?=some x):∃ w,Z[i]?=some w:=by
 have h:=(ay.mp hx).1;rw[<- I.loc.len] at h;exact⟨_,aa h⟩
theorem aR5{x:Str}{p' pos:Pos}{e:Expr}{i:Nat}(hx:F.vars[i]?=some x)(h:Ev g F e Z M (λv zs=>Q .next (Z.set i (some v)) zs) (λx zs=>X x Z zs))
  (hs:∀ env,swapsWith e (some (.Name x p')) pos.line env=pure false):Ex g F (.Assign [.Name x p'] e pos) Z M Q X:=(λA env s I=>by
 refine wpAny_Assign_Name (wpAny_mono (h A env s I) (λv sv p=>?_) λz_ z_ p=>p.toS) (hs env)
 refine p _ ?_;clear p;rintro V zs r I1 st1 q;refine c5 (I1.at' hx) λw hw=>?_
 exact I7 I1 hx hw r λs2 I2 st2=>(λz_ k_=>k_ .next _ zs .next I2 ((st1.mono λz_ h=>h.elim).trans st2) q))
theorem aV3{x:Str}{p:Pos}{v:V}{i:Nat}{P:Lo->Prop}(hx:F.vars[i]?=some x)(h:P (Z.set i (some v))):Asg g F (.Name x p) v Z M P:=
 ⟨λA env s xv QU E I hh r k=>by
  refine c5 (I.at' hx) λw hw=>?_
  exact wpAny_assign_Name (I7 I hx hw r λs' I' st=>k s' _ I' st h),.inl ⟨x,p,rfl⟩⟩
theorem bO7{x:Str}{p:Pos}{es:List Expr}{v:V}{l:List V}{i:Nat}{P:Lo->Prop}(hx:F.vars[i]?=some x)(h:AsgL g F es l (Z.set i (some v)) M P):AsgL g F (.Name x p::es) (v::l) Z M P:=
 ⟨λA env s xs QU E I r k=>by
  refine c5 (I.at' hx) λw hw=>?_
  exact(cc3 hx hw h).run A env s xs QU E I r k,λenv=>by
  show((false,assign (.Name x p) env)::assignEach es env).length=_;rw[aN,h.len env,aN],λenv=>by
  show((false,assign (.Name x p) env)::assignEach es env).findIdx? _=none;rw[eV,h.star env];rfl⟩
theorem Ma1{i:Nat}{x:Expr}(h:L9 vs i x=true):∃ n p,x=.Name n p/\vs[i]?=some n:=by
 apply R9 h;intro n p h;exact⟨n,p,rfl,of_decide_eq_true h⟩
theorem ab7{is:List Nat}:∀ {es:List Expr} {l:List V} {Z:Lo} {P:Lo->Prop},L5 vs is es=true->N3 is l Z P->AsgL g ⟨sc,vs,d,q⟩ es l Z M P:=by
 induction is with
 | nil=>
  intro es l Z P hc h;obtain rfl:=bj.mp hc;cases l with
  | nil=>exact bw8 h
  | cons _ _=>exact h.elim
 | cons i is ih=>
  intro es l Z P hc h;cases es with
  | nil=>exact(ag hc).elim
  | cons e es=>
   cases l with
   | nil=>exact h.elim
   | cons v l=>
    refine j8 (Ma1 (b9 hc).1) λn p q1_ hx=>?_;subst q1_
    exact bO7 hx (ih (b9 hc).2 h)
theorem bW6{elt iter:Expr}{x y:Str}{px pos p' cpos:Pos}{ifs:List Expr}{scope:Scope}{i:Nat}(js:List Nat)(ok:D3 F scope x js=true)(hq:F.q=true)(hy:F.vars[i]?=some y)
  (h:Itr g F iter Z M (λL K zs=>∃ J:List V->List V->Hp->Prop,L.length<=sizeLine/\J L [] zs/\
   (∀ v l acc M',J (v::l) acc M'->K M'/\C6 g (A9 F scope x) ifs (some v::u9 Z js) M' (λb M2=>(b=true->Ev g (A9 F scope x) elt (some v::u9 Z js) M2 (λy M3=>J l (acc++[y]) M3) noX)/\(b=false->J l acc M2)))/\
   ∀ acc M',J [] acc M'->K M'/\∀ a,M' a=none->Q .next (Z.set i (some (.ref a))) (upd M' a (.lst acc))) (λx zs=>X x Z zs)) :
  Ex g F (.Assign [.Name y p'] (.ListComp elt [⟨.Name x px,iter,ifs,0⟩] scope cpos) pos) Z M Q X:=(λA env s I=>by
 refine c5 (@aR0 elt [⟨.Name x px,iter,ifs,0⟩] scope cpos p' y pos.line env) λb hb=>?_
 cases b with
 | false=>
  refine wpAny_Assign_Name (wpAny_mono ((ax9 (Q:=λv zs=>Q .next (Z.set i (some v)) zs) js ok hq h) A env s I) (λv sv p=>?_) λz_ z_ p=>p.toS) hb
  refine p _ ?_;clear p;rintro V zs r I1 st1 q;refine c5 (I1.at' hy) λw hw=>?_
  exact I7 I1 hy hw r λs2 I2 st2=>(λz_ k_=>k_ .next _ zs .next I2 ((st1.mono λz_ h=>h.elim).trans st2) q)
 | true=>
  rw[exec_Assign_Name_used _ _ _ _ hb];refine wpAny_bind (wpAny_standAt (wpAny_bind ?_));show wpAny _ A (comprehension (.ListComp elt [⟨.Name x px,iter,ifs,0⟩] scope cpos) scope env (firstIterPos [⟨.Name x px,iter,ifs,0⟩] cpos) (newList []) false (eval iter env) (some (assign (.Name y p') env)) >>= λz_=>pure ()) _ _ s
  refine wpAny_bind (aG4 ok hq (λacc M'=>∀ a,M' a=none->Q .next (Z.set i (some (.ref a))) (upd M' a (.lst acc))) h I (λz_ z_ p=>p.toS) λD C acc M' s' hJ hD I' st' hC hC0 hMC=>?_)
  refine c5 hC λm hm=>?_
  refine c5 (I'.at' hy) λw hw=>?_
  refine wpAny_assign_Name (I7 I' hy hw (.ref D) λs2 I2 st2=>?_)
  have hm2:s2.heap.Ns C m:=Ns.kept hm λo e=>by refine a9 (st2.keep C o e hMC (I.notOwn hC0)) λo' e' k=>?_;exact⟨o',e',k.data⟩
  refine⟨m,hm2,λh' hs=>wpAny_pure (wpAny_pure ?_)⟩
  have tu:k9 s2.heap h':=R5 hm2 hs;have st3:Step (inF A) (j6 env) M (upd M' D (.lst acc)) s s2:=(st'.mono λz_ h=>h.elim).trans st2
  exact(λz_ k_=>k_ .next _ _ .next (I2.but (tk:=s2.toks) hs.extBut tu hMC (I.notOwn hC0) (I.notBase hC0) (I.notFr hC0)) (st3.but (tk:=s2.toks) hs.extBut hC0) (hJ D hD)))
def SS(g:G)(T:Tab)(d:Nat)(q:Bool)(e:IS):Prop:=∀ {sc vs x Z M Q X},aL2 T sc vs e x=true->wS g d q e Z M Q X->Ex g ⟨sc,vs,d,q⟩ x Z M Q X
def SSs(g:G)(T:Tab)(d:Nat)(q:Bool)(e:ISs):Prop:=∀ {sc vs x Z M Q X},z7 T sc vs e x=true->wSs g d q e Z M Q X->Exs g ⟨sc,vs,d,q⟩ x Z M Q X
theorem bg2{e:IE}(he:SE g T d q e):SS g T d q (.ret e):=fun{sc vs x Z M Q X} hc h=>by
 apply bv5 hc;intro t p hc1;refine a9 (i5 hc1) λy q1_ hc2=>?_;subst q1_
 exact bF9 (he hc2 h)
theorem cc8{t:IE}{a b:ISs}(ht:ST g T d q t)(ha:SSs g T d q a)(hb:SSs g T d q b):SS g T d q (.iff t a b):=fun{sc vs x Z M Q X} hc h=>by
 apply bL7 hc;intro t u w p hc1;refine k8 ((b9 hc1).imp id b9) λh1 h2 h3=>?_
 exact bP2 ((ht h1 h).mono λb M i=>⟨λe=>ha h2 (i.1 e),λe=>hb h3 (i.2 e)⟩)
theorem bu2{i:Nat}{e:IE}(hn:aM6 e=false)(he:SE g T d q e):SS g T d q (.asg i e):=fun{sc vs x Z M Q X} hc h=>by
 apply S9 hc;intro t u w hc1;refine a9 (s6 hc1) λn e2 hc2=>?_
 refine k8 ((b9 hc2).imp id b9) λh1 h2 h3=>?_
 refine j8 (Ma1 h1) λn p q1_ hx=>?_;subst q1_
 obtain rfl:t=[.Name n p]:=e2;rw[hn] at h2;exact aR5 (F:=⟨sc,vs,d,q⟩) hx (he h3 h) λenv=>aF4 (l6 h2)
theorem cd3{i:Nat}{js:List Nat}{elt:IE}{it:II}{cs:IEs}(he:SE g T d q elt)(hi:SI g T d q it)(hs:SC g T d q cs):SS g T d q (.asg i (.comp js elt it cs)):=fun{sc vs x Z M Q X} hc h=>by
 apply S9 hc;intro t u w hc1;refine a9 (s6 hc1) λn e2 hc2=>?_
 refine k8 ((b9 hc2).imp id b9) λh1 h2 h3=>?_
 refine j8 (Ma1 h1) λn p q1_ hx=>?_;subst q1_
 obtain rfl:t=[.Name n p]:=e2;apply ar9 (x:=u) h3;intro e l scope p hc3;obtain⟨⟨tg,iter,ifs,as⟩,e3,hc4⟩:=s6 hc3;obtain rfl:l=[_]:=e3;refine c6 (b9 hc4) λh1 hc5=>?_
 obtain rfl:as=0:=of_decide_eq_true h1;apply R9 (x:=tg) hc5;intro y py hc6;obtain⟨h2,h3,h4,h5⟩:=(b9 hc6).imp id λh=>(b9 h).imp id b9
 cases q with
 | false=>exact h.elim
 | true=>
  refine bW6 (F:=⟨sc,vs,d,true⟩) js h2 rfl hx ((hi h4 h).mono λL K M h=>?_)
  obtain⟨J,hz,h0,ht,hend⟩:=h;exact⟨J,u2 hz,h0,λv l acc M' hj=>⟨(ht v l acc M' hj).1,(hs h5 (ht v l acc M' hj).2).mono λb M i=>⟨λe=>he h3 (i.1 e),i.2⟩⟩,hend⟩
theorem aS7{o i e:IE}(ho:SE g T d q o)(hi:SE g T d q i)(he:SE g T d q e):SS g T d q (.seti o i e):=fun{sc vs x Z M Q X} hc h=>by
 apply S9 hc;intro t u w hc1;refine a9 (s6 hc1) λn e2 hc2=>?_
 refine c6 (b9 hc2) λh1 hc3=>?_
 obtain rfl:t=[n]:=e2;apply O5 (x:=n) hc3;intro a b p hc4;refine aW3 ((he h1 h).mono λv M h=>(ho (b9 hc4).1 h).mono λa M h=>(hi (b9 hc4).2 h).mono λk M h=>?_) λenv=>bv0
 refine a9 (E3 h) λb q1_ h=>?_;subst q1_
 exact aZ4 h
theorem br1{e:IE}(he:SE g T d q e):SS g T d q (.expr e):=fun{sc vs x Z M Q X} hc h=>by
 apply bu8 hc;intro y p hc1;exact bT8 (he (b9 hc1).2 h) λenv=>aF4 (l6 (b9 hc1).1)
theorem aX4{t:IE}{body:ISs}(ht:ST g T d q t)(hb:SSs g T d q body):SS g T d q (.whil t body):=fun{sc vs x Z M Q X} hc h=>by
 apply ba1 hc;intro t u w p hc1;refine k8 ((b9 hc1).imp id b9) λh1 h2 h3=>?_
 obtain rfl:w=[]:=bj.mp h1;obtain⟨J,n,h0,hturn⟩:=h;exact bI1 J h0 λn Z' M' hj=>(ht h2 (hturn n Z' M' hj)).mono λb M i=>⟨λe=>hb h3 (i.1 e),i.2⟩
theorem cg5{x y:Str}{px py tpos p pos:Pos}{k k' i j:Nat}{a b:Expr}(hi:vs[i]?=some x)(hj:vs[j]?=some y)(hx:sc.names.lookup x=some .local)(hy:sc.names.lookup y=some .local)(hl:(py.line==px.line)=true)(hxy:([x,y].eraseDups.length != 2)=false)
  (hs:([a,b].any af7)=false) (hf:[a,b].all (foldedForSure 8)=false) (hc:[a,b].all (constantsAlone 8)=false)
  (h:Ev g ⟨sc,vs,d,true⟩ (.Tuple [a,b] k' p) Z M (λv zs=>∃ u w,v=.tup [u,w]/\Q .next ((Z.set j (some w)).set i (some u)) zs) (λx zs=>X x Z zs)) :
  Ex g ⟨sc,vs,d,true⟩ (.Assign [.Tuple [.Name x px,.Name y py] k tpos] (.Tuple [a,b] k' p) pos) Z M Q X:=(λA env s I=>by
 have hkind:∀ z,env.kindOf z=sc.names.lookup z:=λz=>by
  show env.scope.names.lookup z=_;rw[I.scope]
 have hbk:env.blockKind=.function:=by
  unfold Env.blockKind;rw[I.fn];rfl
 refine PyProof.Rows.Assign_Tuple_swapped (names:=[x,y]) (wpAny_mono (h A env s I) (λv sv p=>?_) λz_ z_ p=>p.toS) rfl (br9 hbk (by rw[hkind];exact hx) (by rw[hkind];exact hy) hl hxy hs hf hc)
 refine p _ ?_;clear p;rintro V zs r I1 st1 ⟨u,w,rfl,hQ⟩;refine l5 r.ofTup λt us n q1_ ht rl=>?_;subst q1_
 have e:us.size=2:=by rw[<- ao,rl.length];rfl
 have hun:∀ (Q':List Value->Shared->Prop) (E:Value->Shared->Prop),(∀ h',Heap.ExtBut sv.heap.objs.size sv.heap h'->Q' us.toList {sv with heap:=h'})->wpAny (model g.prog g.w) A (unpackItems (.ref t) 2 none) Q' E sv:=λQ' E hq=>by
  have:=unpackItems_tuple (E:=E) (prog:=g.prog) (w:=g.w) (I1.quiet rfl) (t:=t) (items:=us) ⟨_,ht,rfl,_,rfl⟩ hq;rw[e] at this;exact this
 refine hun _ _ λh' hx'=>?_
 have hk:∀ b o,sv.heap.get? b=some o->h'.get? b=some o:=λb o eb=>hx' b o (br (aU eb)) eb
 have st2:∀ own,Step (inF A) own zs zs sv {sv with heap:=h'}:=λown=>Step.grow (tk:=sv.toks) hk
 have I2:=I1.keep (st2 d9) (I1.sim.grow hk);have rl':=rl.mono (st2 d9).tups;generalize us.toList=ul at rl' ⊢;refine f7 rl'.two λv1 v2 q1_ r1 r2=>?_;subst q1_
 refine c5 (I2.at' hj) λw1 e1=>?_
 show wpAny _ A (do holding _ (bindName env y v2);assignInOrder [bindName env x] [v1]) _ _ _
 refine wpAny_bind (wpAny_holding (fZ (I7 I2 hj e1 r2 λs3 I3 st3=>?_)))
 refine c5 (I3.at' hi) λw2 e2=>?_
 show wpAny _ A (do holding _ (bindName env x v1);assignInOrder [] []) _ _ _
 refine wpAny_bind (wpAny_holding (fZ (I7 I3 hi e2 (r1.mono st3.tups) λs4 I4 st4=>?_)))
 exact wpAny_pure (λz_ k_=>k_ .next _ zs .next I4 ((((st1.mono λz_ h=>h.elim).trans (st2 _)).trans st3).trans st4) hQ))
theorem bT0{a b:Expr}{k:Nat}{p:Pos}{F:Blk}{Q:VP}{X:XP}(ha:star a=false)(hb:star b=false)(h:Ev g F a Z M (λu M=>Ev g F b Z M (λw M=>Q (.tup [u,w]) M) X) X):Ev g F (.Tuple [a,b] k p) Z M Q X:=
 aO8 (P6 (h.mono λu M h=>P6 (h.mono λw M h=>U8 ⟨(by decide:2<=sizeLine),h⟩) (λz_ z_=>rfl) λenv=>u8 hb) (λenv p=>by rw[u8 hb];rfl) λenv=>u8 ha)
theorem aZ5{i j:Nat}{a b:IE}(ha:SE g T d q a)(hb:SE g T d q b):SS g T d q (.swap i j a b):=fun{sc vs x Z M Q X} hc h=>by
 apply S9 hc;intro t u w hc1;refine a9 (s6 hc1) λn e2 hc2=>?_
 obtain rfl:t=[n]:=e2;apply ac3 (x:=n) hc2;intro l k tp hc3;refine j8 (x4 hc3) λm n q1_ hc4=>?_;subst q1_
 obtain⟨h1,h2,h3,h4,h5,h6,hc5⟩:=an1 hc4;refine j8 (Ma1 h1) λmx mp q1_ hm=>?_;subst q1_
 refine j8 (Ma1 h2) λnx np q1_ hn=>?_;subst q1_
 refine a9 (i5 hc5) λl e4 hc6=>?_
 refine p8 (R6 e4) λk' tp' e5=>?_
 obtain rfl:u=_:=e5;refine j8 (x4 hc6) λea eb q1_ hc7=>?_;subst q1_
 obtain⟨h7,h8,h9,h10,h11,h12,h13⟩:=an1 hc7;cases q with
 | false=>exact h.elim
 | true=>
  exact cg5 hm hn (of_decide_eq_true h4) (of_decide_eq_true h5) h3 (l6 h6) (l6 h7) (l6 h8) (l6 h9) (bT0 (l6 h10) (l6 h11) ((ha h12 h).mono λu M h=>(hb h13 h).mono λw M h=>⟨u,w,rfl,h⟩))
theorem Itr.xmono{e:Expr}{Q:List V->(Hp->Prop)->Hp->Prop}{X X':XP}(h:Itr g F e Z M Q X)(k:∀ v M,X v M->X' v M):Itr g F e Z M Q X':=⟨λA env s I hh=>
 wpAny_mono (h.run A env s I hh) (λx sv p=>wpAny_mono p (λz_ z_ p=>p) λz_ z_ p=>by refine p _ ?_;clear p;rintro x M' a b c e;exact(λz_ k_=>k_ x M' a b c (k _ _ e))) (λz_ z_ p=>by refine p _ ?_;clear p;rintro x M' a b c e;exact(λz_ k_=>k_ x M' a b c (k _ _ e))),h.fold⟩
inductive LoopX(Z:Lo)(turn:V->Lo->Hp->d4->Prop)(Q:d4):List V->(Hp->Prop)->Hp->Prop
 | stay {L:List V} {K:Hp->Prop} {M:Hp} (h:Loop L K Z M turn Q):LoopX Z turn Q L K M
 | tmp {L:List V} {M:Hp} {a:Addr} (hn:M a=none) (h:Loop L (λz_=>True) Z M turn Q):LoopX Z turn Q L (λM=>M a=some (.lst L)) (upd M a (.lst L))
theorem bO3{Q Q':d4}{J:List V->Lo->Hp->Prop}{l:List V}(k:∀ f Z M,Q f Z M->Q' f Z M){f:Flo}{Z:Lo}{M:Hp}(h:C2 Q J l f Z M):C2 Q' J l f Z M:=by
 cases f with
 | next=>exact h
 | cont=>exact h
 | brk=>exact k _ _ _ h
 | ret v=>exact k _ _ _ h
theorem am0{t iter:Expr}{body:List Stmt}{pos:Pos}{turn:V->Lo->Hp->d4->Prop}(hq:F.q=true)(hb:∀ v Z' M' Q',turn v Z' M' Q'->Asg g F t v Z' M' (λZ''=>Exs g F body Z'' M' Q' X))
  (h:Itr g F iter Z M (LoopX Z turn Q) (λx zs=>X x Z zs)):Ex g F (.For t iter body [] pos) Z M Q X:=by
 refine Ex.xdrop (bu4 hq ((h.xmono λx M h=>⟨M,Sub.refl _,h⟩).mono λL K zs p=>?_))
 cases p with
 | stay p=>
  obtain⟨J,h0,ht,he⟩:=p;refine⟨J,h0,λv l Z' M' hj=>⟨(ht v l Z' M' hj).1,(hb _ _ _ _ (ht v l Z' M' hj).2).mono λZ'' ex=>?_⟩,λZ' M' hj=>⟨(he Z' M' hj).1,M',Sub.refl _,(he Z' M' hj).2⟩⟩
  exact(ex.mono λf Z M h=>bO3 (λf Z M h=>⟨M,Sub.refl _,h⟩) h).xmono λf Z M h=>⟨M,Sub.refl _,h⟩
 | @tmp M2 b hn p=>
  obtain⟨J,h0,ht,he⟩:=p;refine⟨λl Z' M2=>∃ M',M2=upd M' b (.lst L)/\M' b=none/\J l Z' M',⟨M2,rfl,hn,h0⟩,?_,?_⟩
  ·rintro v l Z' _ hh_;refine f9 hh_ λM' q1_ hn hj=>?_;clear hh_;subst q1_
   refine⟨c9 _ _ _,((hb _ _ _ _ (ht v l Z' M' hj).2).frame hn).mono λZ'' ex=>?_⟩
   refine((ex.frame hn).mono ?_).xmono ?_
   ·rintro f Z₃ _ hh_;refine f9 hh_ λM3 q1_ hn3 hq=>?_;clear hh_;subst q1_
    cases f with
    | next=>exact⟨M3,rfl,hn3,hq⟩
    | cont=>exact⟨M3,rfl,hn3,hq⟩
    | brk=>exact⟨M3,Sub.upd hn3,hq⟩
    | ret v=>exact⟨M3,Sub.upd hn3,hq⟩
   ·rintro f Z₃ _ hh_;refine f9 hh_ λM3 q1_ hn3 hq=>?_;clear hh_;subst q1_
    exact⟨M3,Sub.upd hn3,hq⟩
  ·rintro Z' _ hh_;refine f9 hh_ λM' q1_ hn hj=>?_;clear hh_;subst q1_
   exact⟨c9 _ _ _,M',Sub.upd hn,(he _ _ hj).2⟩
theorem cj4{Z:Lo}{turn:V->Lo->Hp->d4->Prop}{Q:d4}{M:Hp}{v:V}(h:wLt Z turn Q M v):wIt (LoopX Z turn Q) M v:=by
 cases v with
 | tup L=>exact .stay h
 | str x=>exact .stay h
 | ref a=>cases h with
  | held l e k=>exact⟨l,e,.stay k⟩
  | tmp hn k=>exact⟨_,c9 _ _ _,.tmp hn k⟩
 | _=>exact h.elim
theorem aE6{it:II}{turn:V->Lo->Hp->d4->Prop}{x:Expr}(hE:∀ a,it=.e a->SE g T d true a)(hI:SI g T d true it)(hc:Q9 T it sc vs x=true)(h:ab5 g d it Z M turn Q (λx M=>X x Z M)):Itr g ⟨sc,vs,d,true⟩ x Z M (LoopX Z turn Q) (λx M=>X x Z M):=by
 cases it with
 | e a=>exact ay6 ((hE a rfl (b9 hc).2 h).mono λv M h=>cj4 h) λenv v=>ao9 (l6 (b9 hc).1)
 | r1 a=>exact(hI hc (show wI g d true (.r1 a) Z M (λL K M=>Loop L K Z M turn Q) (λx M=>X x Z M) from h)).mono λL K M h=>.stay h
 | r2 a b=>exact(hI hc (show wI g d true (.r2 a b) Z M (λL K M=>Loop L K Z M turn Q) (λx M=>X x Z M) from h)).mono λL K M h=>.stay h
theorem bS3{i:Nat}{it:II}{body:ISs}(hE:∀ a,it=.e a->SE g T d q a)(hI:SI g T d q it)(hb:SSs g T d q body):SS g T d q (.loop i it body):=fun{sc vs x Z M Q X} hc h=>by
 apply ai5 hc;intro t u b w p hc1;obtain⟨h1,h2,h3,h4⟩:=(b9 hc1).imp id λh=>(b9 h).imp id b9
 obtain rfl:w=[]:=bj.mp h1;refine j8 (Ma1 h2) λn p' e2 hx=>?_
 obtain rfl:t=_:=e2;cases q with
 | false=>exact h.elim
 | true=>exact am0 (F:=⟨sc,vs,d,true⟩) rfl (λv Z' M' Q' h=>aV3 (F:=⟨sc,vs,d,true⟩) hx (hb h4 h)) (aE6 hE hI h3 h)
theorem aY7{is:List Nat}{it:II}{body:ISs}(hE:∀ a,it=.e a->SE g T d q a)(hI:SI g T d q it)(hb:SSs g T d q body):SS g T d q (.loops is it body):=fun{sc vs x Z M Q X} hc h=>by
 apply ai5 hc;intro t u b w p hc1;obtain⟨h1,h2,h3,hc2⟩:=(b9 hc1).imp id λh=>(b9 h).imp id b9
 obtain rfl:w=[]:=bj.mp h1;refine a9 (i5 hc2) λl e2 hc3=>?_
 refine p8 (R6 e2) λk p' e3=>?_
 obtain rfl:t=_:=e3;cases q with
 | false=>exact h.elim
 | true=>
  refine am0 (F:=⟨sc,vs,d,true⟩) rfl (λv Z' M' Q' h=>?_) (aE6 hE hI h2 h)
  refine a9 (aF6 h) λl' q1_ h=>?_;subst q1_
  exact ad3 (ab7 hc3 h) |>.mono λZ h=>hb h3 h
theorem bo9{is:List Nat}{body:ISs}{es:List Expr}{k:Nat}{tp:Pos}{b:List Stmt}(hn:L5 vs is es=true)(hb:∀ {Z M Q},wSs g d true body Z M Q X->Exs g ⟨sc,vs,d,true⟩ b Z M Q X){l:List V}
  (h:duo (λx y=>x8 (λa=>x8 (λb=>LoopZ a b Z M (λv Z M Q=>N3 is v Z λZ=>wSs g d true body Z M Q X) Q) y) x) l):ax7 g ⟨sc,vs,d,true⟩ es k tp b Q X Z l M:=by
 refine j8 (an3 h) λx y q1_ h=>?_;subst q1_
 refine a9 (E3 h) λa q1_ h=>?_;subst q1_
 refine a9 (E3 h) λb q1_ h=>?_;subst q1_
 obtain⟨l,m,ha,hb',J,h0,ht,hend⟩:=h;exact(λz_ k_=>k_ a b l m rfl ha hb' J h0 (λi x y Z' M' e1 e2 hj=>(ht i x y Z' M' e1 e2 hj).imp id λw=>(ad3 (ab7 hn w)).mono λZ h=>hb h) hend)
theorem bq0{is:List Nat}{es:IEs}{body:ISs}(hT:TabOK g T)(he:SEs g T d q es)(hb:SSs g T d q body):SS g T d q (.loopz is es body):=fun{sc vs x Z M Q X} hc h=>by
 apply ai5 hc;intro t u b w p hc1;obtain⟨h1,hbd,h3,hc2⟩:=(b9 hc1).imp id λh=>(b9 h).imp id b9
 cases q with
 | false=>exact h.elim
 | true=>
  obtain rfl:w=[]:=bj.mp h1;apply ac3 (x:=t) h3;intro l k p' hc3;apply bp9 (x:=u) hc2;intro n as np cp hc4;refine k8 ((b9 hc4).imp id b9) λk1 k2 k3=>?_
  apply bk8 (l:=as) k3;intro ea eb k4;refine by6 (F:=⟨sc,vs,d,true⟩) rfl (s9 k1).1 (w5 hT k2).1 (w5 hT k2).2 (s9 k1).2 ((he k4 h).mono λl M h=>?_)
  exact bo9 hc3 (λw=>hb hbd w) h.2
theorem aS1{is:List Nat}{i:Nat}:SS g T d q (.unp is i):=fun{sc vs x Z M Q X} hc h=>by
 apply S9 hc;intro t e p hc1;refine a9 (s6 hc1) λn e1 hc2=>?_
 obtain rfl:t=[n]:=e1;refine a9 (i5 hc2) λl e2 hc3=>?_
 refine p8 (R6 e2) λk p' q1_=>?_;subst q1_
 refine c6 (b9 hc3) λh1 hc4=>?_
 refine a9 (i5 hc4) λm e3 hc5=>?_
 refine c5 (G0 e3) λp2 e4=>?_
 obtain rfl:e=_:=e4;cases q with
 | false=>exact h.elim
 | true=>
  refine a9 (aH3 h) λv ev hk=>?_
  refine a9 (aF6 hk) λl' q1_ hk=>?_;subst q1_
  exact bi7 (F:=⟨sc,vs,d,true⟩) rfl (au4 (of_decide_eq_true (b9 hc5).1) ev (ad3 (ab7 h1 hk)) (l6 (b9 hc5).2)) (λenv=>rfl) (λenv=>rfl)
theorem cj6:SSs g T d q .nil:=fun{sc vs x Z M Q X} hc h=>by
 obtain rfl:=bj.mp hc;exact bE1 h
theorem Ex.mono'{s:Stmt}{Q':d4}(h:Ex g F s Z M Q X)(k:∀ f Z M,Q f Z M->Q' f Z M):Ex g F s Z M Q' X:=(λA env s I=>
 wpAny_mono (h A env s I) (λz_ z_ p=>by refine p _ ?_;clear p;rintro V Z' M' r i y q;exact(λz_ k_=>k_ V Z' M' r i y (k _ _ _ q))) λz_ z_ p=>p)
theorem bo3{s:IS}{ss:ISs}(hs:SS g T d q s)(hss:SSs g T d q ss):SSs g T d q (.cons s ss):=fun{sc vs x Z M Q X} hc h=>by
 cases x with
 | nil=>exact(ag hc).elim
 | cons e l=>
  refine bh8 ((hs (b9 hc).1 h).mono' λf Z M h=>?_)
  cases f with
  | next=>exact hss (b9 hc).2 h
  | brk=>exact h
  | cont=>exact h
  | ret v=>exact h
theorem bO8{ss:ISs}(hss:SSs g T d q ss):SSs g T d q (.stop ss):=fun{sc vs x Z M Q X} hc h=>by obtain⟨h⟩:=h;exact hss hc h
theorem aY1{ss:ISs}(hss:SSs g T d q ss):SSs g T d q (.drop ss):=fun{sc vs x Z M Q X} hc h=>by obtain⟨k,h⟩:=h;exact(hss hc h).sub k
theorem bJ1{y:Str}{es:IEs}(hT:TabOK g T)(he:SEs g T d q es):SS g T d q (.rais y es):=fun{sc vs x Z M Q X} hc h=>by
 apply cc7 hc;intro a b p hc1;refine c6 (b9 hc1) λh0 hc2=>?_
 obtain rfl:b=none:=bV.mp h0;refine a9 (i5 hc2) λc e1 hc3=>?_
 obtain rfl:a=some c:=e1;refine B0 (v4 hc3) λn as np p' e2 hc4=>?_
 obtain rfl:c=_:=e2;obtain⟨h1,h2,h3,h4,h5⟩:=(b9 hc4).imp id λh=>(b9 h).imp id λh=>(b9 h).imp id b9
 obtain rfl:n=y:=of_decide_eq_true h1;refine j8 (cb2 hT h3) λC bm z_ hx=>?_
 refine c6 (s9 h2) λk1 k2=>?_
 have hl:as.length<20:=of_decide_eq_true h4;cases q with
 | false=>exact h.elim
 | true=>exact bU9 hx k1 rfl k2 ((he h5 h).mono λl M h=>⟨u2 (by have:=h.1;lia),h.2⟩)
theorem bq5:SSs g T d q .any:=fun{sc vs x Z M Q X} hc h=>h.elim
end
section
variable{g:G}{T:Tab}{d:Nat}{q:Bool}
mutual
theorem sE(hT:TabOK g T):(e:IE)->SE g T d q e
 | .k v=>s_k hT
 | .v i=>s_v
 | .bin op a b=>bV5 (@sE hT a) (@sE hT b)
 | .cmp op a b=>br7 (@sE hT a) (@sE hT b)
 | .chain o p a b c=>bV1 (@sE hT a) (@sE hT b) (@sE hT c)
 | .not a=>bA2 (@sE hT a)
 | .neg a=>bH8 (@sE hT a)
 | .and a b=>cd0 (@sE hT a) (@sE hT b)
 | .or a b=>bf9 (@sE hT a) (@sE hT b)
 | .tup es=>bF6 (@sEs hT es)
 | .lst es=>bU8 (@sEs hT es)
 | .itm a b=>aB8 (@sE hT a) (@sE hT b)
 | .itk a n=>az5 (@sE hT a)
 | .pick es i=>bj2 (@sEs hT es) (@sE hT i)
 | .slc a lo hi=>bu1 (@sE hT a) (@sE hT lo) (@sE hT hi)
 | .call f es=>aJ9 hT (@sEs hT es)
 | .bi b es=>aI3 hT (@sEs hT es)
 | .isi a t=>aw2 hT (@sE hT a)
 | .meth m o es=>bR7 (@sE hT o) (@sEs hT es)
 | .get D a=>cj9 hT (@sE hT a)
 | .lrng a=>ci3 hT (@sE hT a)
 | .sset a=>aW0 hT (@sE hT a)
 | .comp js elt it cs=>ba7 (@sE hT elt) (@sI hT it) (@sC hT cs)
 | .pw n v=>by4
 | .dic0 b=>aS0
 | .dic1 _ a b=>bI7 (@sE hT a) (@sE hT b)
 | .dg2 a k z=>bl7 (@sE hT a) (@sE hT k) (@sE hT z)
 | .isl a=>aB2 hT (@sE hT a)
theorem sEs(hT:TabOK g T):(e:IEs)->SEs g T d q e
 | .nil=>by2
 | .cons e es=>bx3 (@sE hT e) (@sEs hT es)
theorem sI(hT:TabOK g T):(e:II)->SI g T d q e
 | .e a=>i_e (@sE hT a)
 | .r1 a=>aR4 hT (@sE hT a)
 | .r2 a b=>bj8 hT (@sE hT a) (@sE hT b)
theorem sT(hT:TabOK g T):(e:IE)->ST g T d q e
 | .cmp op a b=>ca3 (@sE hT a) (@sE hT b)
 | .chain o p a b c=>bO0 (@sE hT a) (@sE hT b) (@sE hT c)
 | .not a=>be3 (@sT hT a)
 | .and a b=>bM8 (@sT hT a) (@sT hT b)
 | .or a b=>bR5 (@sT hT a) (@sT hT b)
 | .v i=>t_v
 | .call f es=>bN0 hT (@sEs hT es)
 | .bi b es=>bG6 hT (@sEs hT es)
 | .isi a t=>bc4 hT (@sE hT a)
 | .isl a=>bK3 hT (@sE hT a)
 | .itm a b=>bh2 (@sE hT a) (@sE hT b)
 | .itk a n=>aZ3 (@sE hT a)
 | .k _=>λz_ h=>h.elim
 | .bin _ _ _=>λz_ h=>h.elim
 | .neg _=>λz_ h=>h.elim
 | .tup _=>λz_ h=>h.elim
 | .lst _=>λz_ h=>h.elim
 | .pick _ _=>λz_ h=>h.elim
 | .slc _ _ _=>λz_ h=>h.elim
 | .meth _ _ _=>λz_ h=>h.elim
 | .get _ _=>λz_ h=>h.elim
 | .lrng _=>λz_ h=>h.elim
 | .sset _=>λz_ h=>h.elim
 | .comp _ _ _ _=>λz_ h=>h.elim
 | .pw _ _=>λz_ h=>h.elim
 | .dic0 _=>λz_ h=>h.elim
 | .dic1 _ _ _=>λz_ h=>h.elim
 | .dg2 _ _ _=>λz_ h=>h.elim
theorem sC(hT:TabOK g T):(e:IEs)->SC g T d q e
 | .nil=>cc4
 | .cons t .nil=>bF0 (@sT hT t)
 | .cons _ (.cons _ _)=>λz_ h=>h.elim
end
theorem sA(hT:TabOK g T)(i:Nat)(e:IE):SS g T d q (.asg i e):=by
 cases e with
 | comp js elt it cs=>exact cd3 (@sE _ _ _ _ hT elt) (@sI _ _ _ _ hT it) (@sC _ _ _ _ hT cs)
 | _=>exact bu2 rfl (@sE _ _ _ _ hT _)
mutual
theorem sS(hT:TabOK g T){q:Bool}:(e:IS)->SS g T d q e
 | .ret e=>bg2 (@sE _ _ _ _ hT e)
 | .iff t a b=>cc8 (@sT _ _ _ _ hT t) (@sSs hT _ a) (@sSs hT _ b)
 | .asg i e=>sA hT i e
 | .seti o i e=>aS7 (@sE _ _ _ _ hT o) (@sE _ _ _ _ hT i) (@sE _ _ _ _ hT e)
 | .swap i j a b=>aZ5 (@sE _ _ _ _ hT a) (@sE _ _ _ _ hT b)
 | .unp is i=>aS1
 | .expr e=>br1 (@sE _ _ _ _ hT e)
 | .brk=>λhc h=>by refine c5 (cj0 hc) λp q1_=>?_;subst q1_;exact ch3 h
 | .loop i it body=>bS3 (λa z_=>@sE _ _ _ _ hT a) (@sI _ _ _ _ hT it) (@sSs hT _ body)
 | .loops is it body=>aY7 (λa z_=>@sE _ _ _ _ hT a) (@sI _ _ _ _ hT it) (@sSs hT _ body)
 | .loopz is es body=>bq0 hT (@sEs _ _ _ _ hT es) (@sSs hT _ body)
 | .whil t body=>aX4 (@sT _ _ _ _ hT t) (@sSs hT _ body)
 | .rais x es=>bJ1 hT (@sEs _ _ _ _ hT es)
theorem sSs(hT:TabOK g T){q:Bool}:(e:ISs)->SSs g T d q e
 | .nil=>cj6
 | .cons s ss=>bo3 (@sS hT _ s) (@sSs hT _ ss)
 | .stop ss=>bO8 (@sSs hT _ ss)
 | .drop ss=>aY1 (@sSs hT _ ss)
 | .any=>bq5
end
theorem cj8{f:Str}{k:Nat}{ir:ISs}{vs:List Str}{as:List V}{Z:Lo}{M:Hp}{Q:VP}{X:XP}(hT:TabOK g T)(hl:T.lookup f=some (.fn k))(hc:aA3 T (f3 g.prog k) vs ir=true)(ha:(f3 g.prog k).params.args.length=as.length)(hb:Bnd f (f3 g.prog k) as.length)(hn:as.map some++List.replicate (vs.length-as.length) none=Z)
  (h:wSs g d q ir Z M (e9 Q) (xK X)):c7 g (d+1) q f as M Q X:=by
 subst hn;exact bY4 (hT.at' hl) (b9 hc).1 ha (λpm cd doc us e=>hb pm cd doc us (e.trans ha)) ((sSs hT ir (b9 hc).2 h).mono λfl Z' M' p=>by
   cases fl with
   | ret v=>obtain⟨k,p⟩:=p;exact⟨_,k,p⟩
   | _=>obtain⟨k,p⟩:=p;exact⟨_,k,p⟩)
end
noncomputable def ad2(T:Tab)(f:Str)(k:Nat):Bool:=match T.lookup f with
 | some (.fn j)=>j==k
 | _=>false
theorem bH5{T:Tab}{f:Str}{k:Nat}(h:ad2 T f k=true):T.lookup f=some (.fn k):=by
 unfold ad2 at h;cases e:T.lookup f with
 | none=>rw[e] at h;exact tf h
 | some it=>
  rw[e] at h;cases it with
  | fn j=>rw[beq_iff_eq.mp (show(j==k)=true from h)]
  | _=>exact tf h
noncomputable def f8(T:Tab)(f:Str)(k:Nat)(df:DefRec)(vs:List Str)(ir:ISs)(n:Nat):Bool:=ad2 T f k&&(aA3 T df vs ir&&(df.params.args.length==n))
theorem vs1{P:List Value->Prop}(h:∀ a,P [a])(us:List Value)(e:us.length=1):P us:=by
 cases us with
 | nil=>cases e
 | cons a us=>cases us with
  | nil=>exact h a
  | cons _ _=>cases e
theorem vs2{P:List Value->Prop}(h:∀ a b,P [a,b])(us:List Value)(e:us.length=2):P us:=by
 cases us with
 | nil=>cases e
 | cons a us=>exact vs1 (P:=λus=>P (a::us)) (h a) us (Nat.succ.inj e)
theorem vs3{P:List Value->Prop}(h:∀ a b c,P [a,b,c])(us:List Value)(e:us.length=3):P us:=by
 cases us with
 | nil=>cases e
 | cons a us=>exact vs2 (P:=λus=>P (a::us)) (h a) us (Nat.succ.inj e)
theorem vs4{P:List Value->Prop}(h:∀ a b c d,P [a,b,c,d])(us:List Value)(e:us.length=4):P us:=by
 cases us with
 | nil=>cases e
 | cons a us=>exact vs3 (P:=λus=>P (a::us)) (h a) us (Nat.succ.inj e)
theorem vs5{P:List Value->Prop}(h:∀ a b c d e,P [a,b,c,d,e])(us:List Value)(e:us.length=5):P us:=by
 cases us with
 | nil=>cases e
 | cons a us=>exact vs4 (P:=λus=>P (a::us)) (h a) us (Nat.succ.inj e)
theorem g6{g:G}{T:Tab}{P:Program}{d:Nat}{q:Bool}{f:Str}{k:Nat}{ir:ISs}{vs:List Str}{as:List V}{Z:Lo}{M:Hp}{Q:VP}{X:XP}(hT:TabOK g T)(hp:g.prog=P)(hc:f8 T f k (f3 P k) vs ir as.length=true)(hb:Bnd f (f3 P k) as.length)(hn:as.map some++List.replicate (vs.length-as.length) none=Z)
  (h:wSs g d q ir Z M (e9 Q) (xK X)):c7 g (d+1) q f as M Q X:=by
 rw[<- hp] at hc hb;exact cj8 hT (bH5 (b9 hc).1) (b9 (b9 hc).2).1 (beq_iff_eq.mp (b9 (b9 hc).2).2) hb hn h
section
variable{A B:Prop}
theorem bH9{b:Bool}(h:Ite b A B):Ite b A B:=h
theorem aJ3(h:A):Ite true A B:=⟨λz_=>h,λe=>(nomatch e)⟩
theorem au7(h:B):Ite false A B:=⟨λe=>(nomatch e),λz_=>h⟩
theorem bF3{b:Bool}(h:Ite b B A):Ite (!b) A B:=by
 cases h with | mk h1 h2=>cases b with
 | true=>exact⟨λe=>(nomatch e),λz_=>h1 rfl⟩
 | false=>exact⟨λz_=>h2 rfl,λe=>(nomatch e)⟩
theorem cg2{b:Bool}(hb:b=true)(h:A):Ite b A B:=by subst hb;exact aJ3 h
theorem bV7{b:Bool}(hb:b=false)(h:B):Ite b A B:=by subst hb;exact au7 h
theorem aU8{p:Prop}[Decidable p](h1:p->A)(h2:¬ p->B):Ite (decide p) A B:=⟨λh=>h1 (of_decide_eq_true h),λh=>h2 (of_decide_eq_false h)⟩
theorem bM3{a b:Int}(h1:a=b->A)(h2:a≠b->B):Ite (a==b) A B:=⟨λh=>h1 (beq_iff_eq.mp h),λh=>h2 (beq_eq_false_iff_ne.mp h)⟩
theorem bK2{a b:Int}(h1:a≠b->A)(h2:a=b->B):Ite (a != b) A B:=⟨λh=>h1 (bne_iff_ne.mp h),λh=>h2 (bne_eq_false_iff_eq.mp h)⟩
theorem bK5{a b:Nat}(h1:a=b->A)(h2:a≠b->B):Ite (a==b) A B:=⟨λh=>h1 (beq_iff_eq.mp h),λh=>h2 (beq_eq_false_iff_ne.mp h)⟩
theorem aQ2{a b:Str}(h1:a=b->A)(h2:a≠b->B):Ite (a==b) A B:=⟨λh=>h1 (beq_iff_eq.mp h),λh=>h2 (beq_eq_false_iff_ne.mp h)⟩
theorem aU3{a b:Str}(h1:a≠b->A)(h2:a=b->B):Ite (a != b) A B:=⟨λh=>h1 (bne_iff_ne.mp h),λh=>h2 (bne_eq_false_iff_eq.mp h)⟩
theorem bt3{a b:Bool}(h1:a≠b->A)(h2:a=b->B):Ite (a != b) A B:=⟨λh=>h1 (bne_iff_ne.mp h),λh=>h2 (bne_eq_false_iff_eq.mp h)⟩
end
theorem cf6{g:G}{d:Nat}{q:Bool}{f:Str}{as:List V}{M:Hp}{Q:VP}{X:XP}(h:c7 g d q f as M Q X):c7 g d q f as M Q X:=h
section
variable{M:Hp}{Q:VP}{v:V}
theorem d0(h:Q v M):Ret v M Q:=⟨Sub.refl _,h⟩
theorem t9{M':Hp}(k:Sub M' M)(h:Q v M'):Ret v M Q:=⟨k,h⟩
theorem r_b{b c:Bool}(e:c=b)(h:Q (.bool b) M):Ret (.bool c) M Q:=by subst e;exact d0 h
end
theorem as5{P:Nat->V->Prop}:∀ {l:List V} {i j:Nat} {x:V},N2 P i l->l[j]?=some x->P (i+j) x
 | y::l,i,0,x,h,e=>by cases e;exact h.1
 | y::l,i,j+1,x,h,e=>by
  have:=as5 (l:=l) (j:=j) h.2 e;rw[dU,dA 1 j] at this;exact this
theorem bH6{l:List V}{n:Int}{K:V->Prop}(h0:0<=n)(h1:n<l.length)(h:N2 (λi x=>n=(i:Nat)->K x) 0 l):Pick l n K:=
 ⟨h0,h1,λx e=>as5 (P:=λi x=>n=(i:Nat)->K x) h e (by rw[bC];exact(bD h0).symm)⟩
theorem aj6{n:Bool}{d:Nat}{l:List V}{x:V}{M:Hp}{Q:VP}(h:InL n d l x M Q):InL n d l x M Q:=h
inductive RJ(a b:Int)(J:Nat->Lo->Hp->Prop):List V->Lo->Hp->Prop
 | mk {Z:Lo} {M:Hp} (i:Nat) (e:i<=(b-a).toNat) (k:J i Z M):RJ a b J ((g9 a 1 (b-a).toNat).drop i) Z M
theorem RJ.inv{a b:Int}{J:Nat->Lo->Hp->Prop}{l:List V}{Z:Lo}{M:Hp}(h:RJ a b J l Z M):∃ i,i<=(b-a).toNat/\l=(g9 a 1 (b-a).toNat).drop i/\J i Z M:=by
 cases h with | mk i e k=>exact⟨i,e,rfl,k⟩
theorem as4{a b:Int}{i:Nat}(h:a+i<b):i+1<=(b-a).toNat:=by lia
theorem RJ.next{a b:Int}{J:Nat->Lo->Hp->Prop}{Z:Lo}{M:Hp}{i:Nat}(h:a+i<b)(k:J (i+1) Z M):RJ a b J ((g9 a 1 (b-a).toNat).drop (i+1)) Z M:=.mk _ (as4 h) k
theorem bz6{a b:Int}{Z:Lo}{M:Hp}{turn:V->Lo->Hp->d4->Prop}{Q:d4}(J:Nat->Lo->Hp->Prop)(h0:J 0 Z M)
  (ht:∀ (i:Nat) Z' M',a+i<b->J i Z' M'->turn (.int (a+i)) Z' M' (C2 Q (RJ a b J) ((g9 a 1 (b-a).toNat).drop (i+1)))) (he:∀ Z' M',J (b-a).toNat Z' M'->Q .next Z' M') :
  Loop (g9 a 1 (b-a).toNat) (λz_=>True) Z M turn Q:=by
 refine⟨RJ a b J,.mk 0 (aE _) h0,λv l Z' M' h=>?_,λZ' M' h=>?_⟩
 ·refine f9 h.inv λi e hl k=>?_
  refine k8 (an7 hl) λh1 q1_ q2_=>?_;subst q1_;subst q2_
  exact⟨trivial,ht i Z' M' (fy (Int.lt_toNat.mp h1)) k⟩
 ·refine f9 h.inv λi e hl k=>?_
  obtain rfl:=az8 e hl;exact⟨trivial,he Z' M' k⟩
inductive CJ(a b:Int)(J:Nat->List V->Hp->Prop):List V->List V->Hp->Prop
 | mk {acc:List V} {M:Hp} (i:Nat) (e:i<=(b-a).toNat) (k:J i acc M):CJ a b J ((g9 a 1 (b-a).toNat).drop i) acc M
theorem CJ.inv{a b:Int}{J:Nat->List V->Hp->Prop}{l acc:List V}{M:Hp}(h:CJ a b J l acc M):∃ i,i<=(b-a).toNat/\l=(g9 a 1 (b-a).toNat).drop i/\J i acc M:=by
 cases h with | mk i e k=>exact⟨i,e,rfl,k⟩
theorem CJ.next{a b:Int}{J:Nat->List V->Hp->Prop}{acc:List V}{M:Hp}{i:Nat}(h:a+i<b)(k:J (i+1) acc M):CJ a b J ((g9 a 1 (b-a).toNat).drop (i+1)) acc M:=.mk _ (as4 h) k
theorem bs9{a b:Int}{M:Hp}{turn:V->Hp->VP->(Hp->Prop)->Prop}{Q:VP}(J:Nat->List V->Hp->Prop)(hz:b-a<=10000)(h0:J 0 [] M)
  (ht:∀ (i:Nat) acc M',a+i<b->J i acc M'->turn (.int (a+i)) M' (λy M=>CJ a b J ((g9 a 1 (b-a).toNat).drop (i+1)) (acc++[y]) M) (λM=>CJ a b J ((g9 a 1 (b-a).toNat).drop (i+1)) acc M))
  (he:∀ acc M',J (b-a).toNat acc M'->∀ c,M' c=none->Q (.ref c) (upd M' c (.lst acc))) :
  CLoop (g9 a 1 (b-a).toNat) (λz_=>True) M turn Q:=by
 refine⟨CJ a b J,?_,.mk 0 (aE _) h0,λv l acc M' h=>?_,λacc M' h=>?_⟩
 ·rw[K4];exact gP.mpr hz
 ·refine f9 h.inv λi e hl k=>?_
  refine k8 (an7 hl) λh1 q1_ q2_=>?_;subst q1_;subst q2_
  exact⟨trivial,ht i acc M' (fy (Int.lt_toNat.mp h1)) k⟩
 ·refine f9 h.inv λi e hl k=>?_
  obtain rfl:=az8 e hl;exact⟨trivial,he acc M' k⟩
theorem Loop.g{L:List V}{K:Hp->Prop}{Z:Lo}{M:Hp}{turn:V->Lo->Hp->d4->Prop}{Q:d4}(P:List V->Lo->Hp->Prop)(h0:P L Z M)
  (k:∀ (R:d4) (J:List V->Lo->Hp->Prop),(∀ {f Z M},Q f Z M->R f Z M)->(∀ {l Z M},P l Z M->J l Z M)->∀ v l Z' M',P (v::l) Z' M'->K M'/\turn v Z' M' (C2 R J l)) (he:∀ Z' M',P [] Z' M'->K M'/\Q .next Z' M'):Loop L K Z M turn Q:=
 Loop.mk P h0 (k Q P id id) he
theorem CLoop.g{L:List V}{K:Hp->Prop}{M:Hp}{turn:V->Hp->VP->(Hp->Prop)->Prop}{Q:VP}(P:List V->List V->Hp->Prop)(hz:L.length<=10000)(h0:P L [] M)
  (k:∀ J:List V->List V->Hp->Prop,(∀ {l acc M},P l acc M->J l acc M)->∀ v l acc M',P (v::l) acc M'->K M'/\turn v M' (λy M=>J l (acc++[y]) M) (λM=>J l acc M)) (he:∀ acc M',P [] acc M'->K M'/\∀ a,M' a=none->Q (.ref a) (upd M' a (.lst acc))):CLoop L K M turn Q:=
 CLoop.mk P hz h0 (k P id) he
theorem Whl.g{Z:Lo}{M:Hp}{turn:Lo->Hp->d4->(Hp->Prop)->Prop}{Q:d4}(P:Nat->Lo->Hp->Prop)(n:Nat)(h0:P n Z M)
  (k:∀ (R:d4) (J:Nat->Lo->Hp->Prop),(∀ {f Z M},Q f Z M->R f Z M)->(∀ {n Z M},(∃ m,m<n/\P m Z M)->∃ m,m<n/\J m Z M)->∀ n Z' M',P n Z' M'->turn Z' M' (whQ R J n) (λzs=>R .next Z' zs)):Whl Z M turn Q:=
 Whl.mk P n h0 (k Q P id id)
theorem A6{a b:Int}{Z:Lo}{M:Hp}{turn:V->Lo->Hp->d4->Prop}{Q:d4}(P:Nat->Lo->Hp->Prop)(h0:P 0 Z M)
  (k:∀ (R:d4) (J:Nat->Lo->Hp->Prop),(∀ {f Z M},Q f Z M->R f Z M)->(∀ {i Z M},P i Z M->J i Z M)->∀ (i:Nat) Z' M',a+i<b->P i Z' M'->turn (.int (a+i)) Z' M' (C2 R (RJ a b J) ((g9 a 1 (b-a).toNat).drop (i+1)))) (he:∀ Z' M',P (b-a).toNat Z' M'->Q .next Z' M') :
  Loop (g9 a 1 (b-a).toNat) (λz_=>True) Z M turn Q:=bz6 P h0 (k Q P id id) he
theorem N0{a b:Int}{M:Hp}{turn:V->Hp->VP->(Hp->Prop)->Prop}{Q:VP}(P:Nat->List V->Hp->Prop)(hz:b-a<=10000)(h0:P 0 [] M)
  (k:∀ J:Nat->List V->Hp->Prop,(∀ {i acc M},P i acc M->J i acc M)->∀ (i:Nat) acc M',a+i<b->P i acc M'->turn (.int (a+i)) M' (λy M=>CJ a b J ((g9 a 1 (b-a).toNat).drop (i+1)) (acc++[y]) M) (λM=>CJ a b J ((g9 a 1 (b-a).toNat).drop (i+1)) acc M))
  (he:∀ acc M',P (b-a).toNat acc M'->∀ c,M' c=none->Q (.ref c) (upd M' c (.lst acc))) :
  CLoop (g9 a 1 (b-a).toNat) (λz_=>True) M turn Q:=bs9 P hz h0 (k P id) he
end Internal
set_option maxRecDepth 20000
namespace Internal
theorem aB6(n:Nat):((n:Int)-0).toNat=n:=by rw[gS];rfl
theorem bC6(n:Nat):((n:Int)-1-0).toNat=n-1:=by rw[gS];exact Int.toNat_sub n 1
theorem ao1{n a:Nat}(h:a<n):n-(a+1)<n-a:=Nat.sub_lt_sub_left h (bp a)
noncomputable def tab:Tab:=[(Str.ofString "is_from",.fn 11),
 (Str.ofString "is_number",.fn 12),
 (Str.ofString "is_row",.fn 13),
 (Str.ofString "is_table",.fn 14),
 (Str.ofString "at_number",.fn 15),
 (Str.ofString "is_word",.fn 21),
 (Str.ofString "within",.fn 22),
 (Str.ofString "is_fitting",.fn 23),
 (Str.ofString "is_one",.fn 24),
 (Str.ofString "is_rule",.fn 25),
 (Str.ofString "gathered",.fn 26),
 (Str.ofString "named",.fn 27),
 (Str.ofString "steps_to",.fn 32),
 (Str.ofString "ring_from",.fn 33),
 (Str.ofString "ring_of",.fn 34),
 (Str.ofString "form_of",.fn 35),
 (Str.ofString "order_of",.fn 36),
 (Str.ofString "papers_of",.fn 38),
 (Str.ofString "need_taken",.fn 39),
 (Str.ofString "of_two",.fn 40),
 (Str.ofString "leaf",.fn 41),
 (Str.ofString "worth",.fn 42),
 (Str.ofString "reckoned",.fn 43),
 (Str.ofString "history",.fn 44),
 (Str.ofString "hanging_on",.fn 45),
 (Str.ofString "hanging",.fn 46),
 (Str.ofString "hanging_choice",.fn 47),
 (Str.ofString "_law_cell_at",.fn 49),
 (Str.ofString "_law_mixed",.fn 50),
 (Str.ofString "_law_next",.fn 51),
 (Str.ofString "_law_number",.fn 52),
 (Str.ofString "_law_table",.fn 53),
 (Str.ofString "_law_words",.fn 54),
 (Str.ofString "_law_plain",.fn 55),
 (Str.ofString "_law_rule",.fn 56),
 (Str.ofString "_law_sizes",.fn 57),
 (Str.ofString "_law_order",.fn 58),
 (Str.ofString "_law_form",.fn 59),
 (Str.ofString "_law_named",.fn 60),
 (Str.ofString "_law_papers",.fn 61),
 (Str.ofString "_law_taken",.fn 62),
 (Str.ofString "_law_hangs",.fn 63),
 (Str.ofString "_law_others_stay",.fn 64),
 (Str.ofString "_law_pairs",.fn 65),
 (Str.ofString "law",.fn 66),
 (Str.ofString "DEEPEST",.int 8),
 (Str.ofString "FormError",.cls 24 (vbm)),
 (Str.ofString "GREATEST",.int 1000000000),
 (Str.ofString "LETTERS",.str "abcdefghijklmnopqrstuvwxyz"),
 (Str.ofString "LONGEST",.int 8),
 (Str.ofString "MOST_CHOICES",.int 8),
 (Str.ofString "MOST_LINES",.int 40),
 (Str.ofString "MOST_ROWS",.int 20),
 (Str.ofString "MOST_TABLES",.int 5),
 (Str.ofString "NoChoice",.cls 97 (.ref 24::vbm)),
 (Str.ofString "NoForm",.cls 49 (.ref 24::vbm)),
 (Str.ofString "NoPaper",.cls 85 (.ref 24::vbm)),
 (Str.ofString "NoRule",.cls 61 (.ref 24::vbm)),
 (Str.ofString "NoTable",.cls 37 (.ref 24::vbm)),
 (Str.ofString "Ring",.cls 73 (.ref 24::vbm)),
 (Str.ofString "SIZES",.dict szs),
 (Str.ofString "all",.bi "all"),
 (Str.ofString "any",.bi "any"),
 (Str.ofString "bool",.ty "bool"),
 (Str.ofString "int",.ty "int"),
 (Str.ofString "isinstance",.bi "isinstance"),
 (Str.ofString "len",.bi "len"),
 (Str.ofString "list",.ty "list"),
 (Str.ofString "max",.bi "max"),
 (Str.ofString "min",.bi "min"),
 (Str.ofString "range",.ty "range"),
 (Str.ofString "set",.ty "set"),
 (Str.ofString "sorted",.bi "sorted"),
 (Str.ofString "str",.ty "str"),
 (Str.ofString "tuple",.ty "tuple"),
 (Str.ofString "zip",.ty "zip")]
noncomputable def pq:Program:=Challenge.pw_uf010038_08
structure Nm(g:G):Prop where
 prog:g.prog=pq
 tab:TabOK g tab
section
variable{g:G}{d:Nat}{q:Bool}{M:Hp}{Q:VP}{X:XP}
noncomputable def aO7:ISs:=(.cons (.ret (.and (.isi (.v 0) .int) (.and (.not (.isi (.v 0) .bool)) (.chain .LtE .LtE (.v 1) (.v 0) (.v 2))))) .nil)
theorem ca4:f8 tab "is_from" 11 (f3 pq 11) ["thing","low","high"] aO7 3=true:=by decide +kernel
theorem bo6(N:Nm g){a0 a1 a2:V}(h:wSs g d q aO7 [some a0,some a1,some a2] M (e9 Q) (xK X)):c7 g (d+1) q "is_from" [a0,a1,a2] M Q X:=g6 N.tab N.prog ca4 (λz_ z_ z_=>vs3 λz_ z_ z_=>rfl) rfl h
noncomputable def ar5:ISs:=(.cons (.ret (.call "is_from" (.cons (.v 0) (.cons (.bin .Sub (.k (.int 0)) (.k (.int 1000000000))) (.cons (.k (.int 1000000000)) .nil))))) .nil)
theorem bl5:f8 tab "is_number" 12 (f3 pq 12) ["thing"] ar5 1=true:=by decide +kernel
theorem bK6(N:Nm g){a0:V}(h:wSs g d q ar5 [some a0] M (e9 Q) (xK X)):c7 g (d+1) q "is_number" [a0] M Q X:=g6 N.tab N.prog bl5 (λz_ z_ z_=>vs1 λz_=>rfl) rfl h
noncomputable def aF7:ISs:=(.cons (.iff (.or (.not (.isi (.v 0) .tuple)) (.cmp .NotEq (.bi .len (.cons (.v 0) .nil)) (.k (.int 3)))) (.cons (.ret (.k (.bool false))) .nil) .nil) (.cons (.ret (.and (.call "is_number" (.cons (.itk (.v 0) 0) .nil)) (.and (.call "is_number" (.cons (.itk (.v 0) 1) .nil)) (.call "is_from" (.cons (.itk (.v 0) 2) (.cons (.k (.int 0)) (.cons (.k (.int 100)) .nil))))))) .nil))
theorem bO2:f8 tab "is_row" 13 (f3 pq 13) ["thing"] aF7 1=true:=by decide +kernel
theorem bY9(N:Nm g){a0:V}(h:wSs g d q aF7 [some a0] M (e9 Q) (xK X)):c7 g (d+1) q "is_row" [a0] M Q X:=g6 N.tab N.prog bO2 (λz_ z_ z_=>vs1 λz_=>rfl) rfl h
noncomputable def aK1:ISs:=(.cons (.iff (.or (.not (.isi (.v 0) .tuple)) (.not (.chain .LtE .LtE (.k (.int 1)) (.bi .len (.cons (.v 0) .nil)) (.k (.int 20))))) (.cons (.ret (.k (.bool false))) .nil) .nil) (.cons (.loop 1 (.e (.v 0)) (.cons (.iff (.not (.call "is_row" (.cons (.v 1) .nil))) (.cons (.ret (.k (.bool false))) .nil) .nil) .nil)) (.cons (.ret (.bi .all (.cons (.comp [0] (.cmp .Lt (.itk (.itm (.v 1) (.v 0)) 0) (.itk (.itm (.v 1) (.bin .Add (.v 0) (.k (.int 1)))) 0)) (.r1 (.bin .Sub (.bi .len (.cons (.v 0) .nil)) (.k (.int 1)))) .nil) .nil))) .nil)))
theorem bT1:f8 tab "is_table" 14 (f3 pq 14) ["thing","row"] aK1 1=true:=by decide +kernel
theorem be4(N:Nm g){a0:V}(h:wSs g d q aK1 [some a0,none] M (e9 Q) (xK X)):c7 g (d+1) q "is_table" [a0] M Q X:=g6 N.tab N.prog bT1 (λz_ z_ z_=>vs1 λz_=>rfl) rfl h
noncomputable def an9:ISs:=(.cons (.asg 2 (.k (.int 0))) (.cons (.loops [3,4,5] (.e (.v 0)) (.cons (.iff (.cmp .LtE (.v 3) (.v 1)) (.cons (.asg 2 (.bin .Add (.v 4) (.bin .FloorDiv (.bin .Mult (.bin .Sub (.v 1) (.v 3)) (.v 5)) (.k (.int 100))))) .nil) .nil) .nil)) (.cons (.ret (.v 2)) .nil)))
theorem bw4:f8 tab "at_number" 15 (f3 pq 15) ["table","number","found","start","plus","percent"] an9 2=true:=by decide +kernel
theorem bS0(N:Nm g){a0 a1:V}(h:wSs g d q an9 [some a0,some a1,none,none,none,none] M (e9 Q) (xK X)):c7 g (d+1) q "at_number" [a0,a1] M Q X:=g6 N.tab N.prog bw4 (λz_ z_ z_=>vs2 λz_ z_=>rfl) rfl h
noncomputable def ax6:ISs:=(.cons (.iff (.or (.not (.isi (.v 0) .str)) (.not (.chain .LtE .LtE (.k (.int 1)) (.bi .len (.cons (.v 0) .nil)) (.k (.int 8))))) (.cons (.ret (.k (.bool false))) .nil) .nil) (.cons (.ret (.bi .all (.cons (.comp [] (.cmp .In (.v 0) (.k (.str "abcdefghijklmnopqrstuvwxyz"))) (.e (.v 0)) .nil) .nil))) .nil))
theorem bZ2:f8 tab "is_word" 21 (f3 pq 21) ["thing"] ax6 1=true:=by decide +kernel
theorem aQ9(N:Nm g){a0:V}(h:wSs g d q ax6 [some a0] M (e9 Q) (xK X)):c7 g (d+1) q "is_word" [a0] M Q X:=g6 N.tab N.prog bZ2 (λz_ z_ z_=>vs1 λz_=>rfl) rfl h
noncomputable def aB5:ISs:=(.cons (.asg 1 (.itk (.v 0) 0)) (.cons (.iff (.cmp .In (.v 1) (.tup (.cons (.k (.str "number")) (.cons (.k (.str "paper")) (.cons (.k (.str "line")) (.cons (.k (.str "earlier")) .nil)))))) (.cons (.ret (.lst .nil)) .nil) .nil) (.cons (.iff (.cmp .Eq (.v 1) (.k (.str "part"))) (.cons (.ret (.lst (.cons (.itk (.v 0) 1) .nil))) .nil) .nil) (.cons (.iff (.or (.cmp .Eq (.v 1) (.k (.str "table"))) (.cmp .Eq (.v 1) (.k (.str "choose")))) (.cons (.ret (.bi .list (.cons (.slc (.v 0) (.k (.int 2)) (.k .none)) .nil))) .nil) .nil) (.cons (.ret (.bi .list (.cons (.slc (.v 0) (.k (.int 1)) (.k .none)) .nil))) .nil)))))
theorem ba5:f8 tab "within" 22 (f3 pq 22) ["rule","word"] aB5 1=true:=by decide +kernel
theorem aU4(N:Nm g){a0:V}(h:wSs g d q aB5 [some a0,none] M (e9 Q) (xK X)):c7 g (d+1) q "within" [a0] M Q X:=g6 N.tab N.prog ba5 (λz_ z_ z_=>vs1 λz_=>rfl) rfl h
noncomputable def aA9:ISs:=(.cons (.asg 4 (.itk (.v 0) 0)) (.cons (.iff (.cmp .Eq (.v 4) (.k (.str "number"))) (.cons (.ret (.call "is_number" (.cons (.itk (.v 0) 1) .nil))) .nil) .nil) (.cons (.iff (.cmp .Eq (.v 4) (.k (.str "paper"))) (.cons (.ret (.call "is_word" (.cons (.itk (.v 0) 1) .nil))) .nil) .nil) (.cons (.iff (.or (.cmp .Eq (.v 4) (.k (.str "line"))) (.cmp .Eq (.v 4) (.k (.str "earlier")))) (.cons (.ret (.call "is_from" (.cons (.itk (.v 0) 1) (.cons (.k (.int 0)) (.cons (.bin .Sub (.v 1) (.k (.int 1))) .nil))))) .nil) .nil) (.cons (.iff (.cmp .Eq (.v 4) (.k (.str "part"))) (.cons (.ret (.call "is_from" (.cons (.itk (.v 0) 2) (.cons (.k (.int 0)) (.cons (.k (.int 100)) .nil))))) .nil) .nil) (.cons (.iff (.cmp .Eq (.v 4) (.k (.str "table"))) (.cons (.ret (.call "is_from" (.cons (.itk (.v 0) 1) (.cons (.k (.int 0)) (.cons (.bin .Sub (.v 2) (.k (.int 1))) .nil))))) .nil) .nil) (.cons (.iff (.cmp .Eq (.v 4) (.k (.str "choose"))) (.cons (.ret (.call "is_from" (.cons (.itk (.v 0) 1) (.cons (.k (.int 0)) (.cons (.bin .Sub (.v 3) (.k (.int 1))) .nil))))) .nil) .nil) (.cons (.ret (.k (.bool true))) .nil))))))))
theorem ca0:f8 tab "is_fitting" 23 (f3 pq 23) ["rule","lines","tables","choices","word"] aA9 4=true:=by decide +kernel
theorem G4(N:Nm g){a0 a1 a2 a3:V}(h:wSs g d q aA9 [some a0,some a1,some a2,some a3,none] M (e9 Q) (xK X)):c7 g (d+1) q "is_fitting" [a0,a1,a2,a3] M Q X:=g6 N.tab N.prog ca0 (λz_ z_ z_=>vs4 λz_ z_ z_ z_=>rfl) rfl h
noncomputable def aq7:ISs:=(.cons (.iff (.or (.cmp .Eq (.v 1) (.k (.int 0))) (.or (.not (.isi (.v 0) .tuple)) (.or (.cmp .Eq (.v 0) (.tup .nil)) (.not (.isi (.itk (.v 0) 0) .str))))) (.cons (.ret (.k (.bool false))) .nil) .nil) (.cons (.iff (.or (.cmp .NotEq (.get szs (.itk (.v 0) 0)) (.bi .len (.cons (.v 0) .nil))) (.not (.call "is_fitting" (.cons (.v 0) (.cons (.v 2) (.cons (.v 3) (.cons (.v 4) .nil))))))) (.cons (.ret (.k (.bool false))) .nil) .nil) (.cons (.loop 5 (.e (.call "within" (.cons (.v 0) .nil))) (.cons (.iff (.not (.call "is_one" (.cons (.v 5) (.cons (.bin .Sub (.v 1) (.k (.int 1))) (.cons (.v 2) (.cons (.v 3) (.cons (.v 4) .nil))))))) (.cons (.ret (.k (.bool false))) .nil) .nil) .nil)) (.cons (.ret (.k (.bool true))) .nil))))
theorem bS7:f8 tab "is_one" 24 (f3 pq 24) ["thing","room","lines","tables","choices","one"] aq7 5=true:=by decide +kernel
theorem aO1(N:Nm g){a0 a1 a2 a3 a4:V}(h:wSs g d q aq7 [some a0,some a1,some a2,some a3,some a4,none] M (e9 Q) (xK X)):c7 g (d+1) q "is_one" [a0,a1,a2,a3,a4] M Q X:=g6 N.tab N.prog bS7 (λz_ z_ z_=>vs5 λz_ z_ z_ z_ z_=>rfl) rfl h
noncomputable def ao5:ISs:=(.cons (.ret (.call "is_one" (.cons (.v 0) (.cons (.k (.int 8)) (.cons (.v 1) (.cons (.v 2) (.cons (.v 3) .nil))))))) .nil)
theorem bF8:f8 tab "is_rule" 25 (f3 pq 25) ["thing","lines","tables","choices"] ao5 4=true:=by decide +kernel
theorem by5(N:Nm g){a0 a1 a2 a3:V}(h:wSs g d q ao5 [some a0,some a1,some a2,some a3] M (e9 Q) (xK X)):c7 g (d+1) q "is_rule" [a0,a1,a2,a3] M Q X:=g6 N.tab N.prog bF8 (λz_ z_ z_=>vs4 λz_ z_ z_ z_=>rfl) rfl h
noncomputable def aI4:ISs:=(.cons (.loop 3 (.e (.call "within" (.cons (.v 0) .nil))) (.cons (.asg 2 (.bin .Add (.v 2) (.call "gathered" (.cons (.v 3) (.cons (.v 1) .nil))))) (.drop .nil))) (.cons (.ret (.v 2)) .nil))
noncomputable def aH1:ISs:=(.cons (.asg 2 (.lst .nil)) (.cons (.iff (.cmp .Eq (.itk (.v 0) 0) (.v 1)) (.cons (.expr (.meth .append (.v 2) (.cons (.itk (.v 0) 1) .nil))) .nil) .nil) (.stop aI4)))
theorem aQ7:f8 tab "gathered" 26 (f3 pq 26) ["rule","word","found","one"] aH1 2=true:=by decide +kernel
theorem aV9(N:Nm g){a0 a1:V}(h:wSs g d q aH1 [some a0,some a1,none,none] M (e9 Q) (xK X)):c7 g (d+1) q "gathered" [a0,a1] M Q X:=g6 N.tab N.prog aQ7 (λz_ z_ z_=>vs2 λz_ z_=>rfl) rfl h
noncomputable def ar1:ISs:=(.cons (.ret (.sset (.call "gathered" (.cons (.v 0) (.cons (.v 1) .nil))))) .nil)
theorem cc0:f8 tab "named" 27 (f3 pq 27) ["rule","word"] ar1 2=true:=by decide +kernel
theorem bR3(N:Nm g){a0 a1:V}(h:wSs g d q ar1 [some a0,some a1] M (e9 Q) (xK X)):c7 g (d+1) q "named" [a0,a1] M Q X:=g6 N.tab N.prog cc0 (λz_ z_ z_=>vs2 λz_ z_=>rfl) rfl h
noncomputable def aH6:ISs:=(.cons (.asg 2 (.dic1 false (.v 1) (.k (.int 0)))) (.cons (.asg 3 (.lst (.cons (.v 1) .nil))) (.cons (.asg 4 (.k (.int 0))) (.cons (.whil (.cmp .Lt (.v 4) (.bi .len (.cons (.v 3) .nil))) (.cons (.asg 5 (.itm (.v 3) (.v 4))) (.cons (.loop 6 (.r1 (.bi .len (.cons (.v 0) .nil))) (.cons (.iff (.and (.cmp .In (.v 5) (.itm (.v 0) (.v 6))) (.cmp .NotIn (.v 6) (.v 2))) (.cons (.seti (.v 2) (.v 6) (.bin .Add (.itm (.v 2) (.v 5)) (.k (.int 1)))) (.cons (.expr (.meth .append (.v 3) (.cons (.v 6) .nil))) .nil)) .nil) .nil)) (.cons (.asg 4 (.bin .Add (.v 4) (.k (.int 1)))) .nil)))) (.cons (.ret (.v 2)) .nil)))))
theorem bA4:f8 tab "steps_to" 32 (f3 pq 32) ["names","goal","found","some","at","line","other"] aH6 2=true:=by decide +kernel
theorem cd6(N:Nm g){a0 a1:V}(h:wSs g d q aH6 [some a0,some a1,none,none,none,none,none] M (e9 Q) (xK X)):c7 g (d+1) q "steps_to" [a0,a1] M Q X:=g6 N.tab N.prog bA4 (λz_ z_ z_=>vs2 λz_ z_=>rfl) rfl h
noncomputable def as8:ISs:=(.cons (.asg 2 (.call "steps_to" (.cons (.v 0) (.cons (.v 1) .nil)))) (.cons (.asg 3 (.comp [2] (.itm (.v 1) (.v 0)) (.e (.itm (.v 0) (.v 1))) (.cons (.cmp .In (.v 0) (.v 1)) .nil))) (.cons (.iff (.cmp .Eq (.v 3) (.lst .nil)) (.cons (.ret (.lst .nil)) .nil) .nil) .any)))
theorem bA8:f8 tab "ring_from" 33 (f3 pq 33) ["names","start","far","nexts","found","left"] as8 2=true:=by decide +kernel
theorem bZ4(N:Nm g){a0 a1:V}(h:wSs g d q as8 [some a0,some a1,none,none,none,none] M (e9 Q) (xK X)):c7 g (d+1) q "ring_from" [a0,a1] M Q X:=g6 N.tab N.prog bA8 (λz_ z_ z_=>vs2 λz_ z_=>rfl) rfl h
noncomputable def ao3:ISs:=(.cons (.asg 1 (.comp [] (.call "named" (.cons (.v 0) (.cons (.k (.str "line")) .nil))) (.e (.v 0)) .nil)) (.cons (.asg 2 (.lst .nil)) (.cons (.loop 3 (.r1 (.bi .len (.cons (.v 0) .nil))) (.cons (.asg 4 (.call "ring_from" (.cons (.v 1) (.cons (.v 3) .nil)))) (.cons (.iff (.and (.cmp .NotEq (.v 4) (.lst .nil)) (.or (.cmp .Eq (.v 2) (.lst .nil)) (.cmp .Lt (.bi .len (.cons (.v 4) .nil)) (.bi .len (.cons (.v 2) .nil))))) (.cons (.asg 2 (.v 4)) .nil) .nil) .nil))) (.cons (.ret (.v 2)) .nil))))
theorem bM4:f8 tab "ring_of" 34 (f3 pq 34) ["lines","names","best","start","ring"] ao3 1=true:=by decide +kernel
theorem bX0(N:Nm g){a0:V}(h:wSs g d q ao3 [some a0,none,none,none,none] M (e9 Q) (xK X)):c7 g (d+1) q "ring_of" [a0] M Q X:=g6 N.tab N.prog bM4 (λz_ z_ z_=>vs1 λz_=>rfl) rfl h
noncomputable def as3:ISs:=(.cons (.iff (.or (.cmp .Gt (.bi .len (.cons (.v 1) .nil)) (.k (.int 5))) (.not (.bi .all (.cons (.comp [] (.call "is_table" (.cons (.v 0) .nil)) (.e (.v 1)) .nil) .nil)))) (.cons (.rais "NoTable" (.cons (.k (.str "no tables")) .nil)) .nil) .nil) (.cons (.asg 4 (.bi .len (.cons (.v 0) .nil))) (.cons (.iff (.or (.not (.chain .LtE .LtE (.k (.int 1)) (.v 4) (.k (.int 40)))) (.or (.not (.call "is_from" (.cons (.v 2) (.cons (.k (.int 0)) (.cons (.k (.int 8)) .nil))))) (.not (.call "is_from" (.cons (.v 3) (.cons (.k (.int 0)) (.cons (.bin .Sub (.v 4) (.k (.int 1))) .nil))))))) (.cons (.rais "NoForm" (.cons (.k (.str "no form")) .nil)) .nil) .nil) (.cons (.loop 5 (.e (.v 0)) (.cons (.iff (.not (.call "is_rule" (.cons (.v 5) (.cons (.v 4) (.cons (.bi .len (.cons (.v 1) .nil)) (.cons (.v 2) .nil)))))) (.cons (.rais "NoRule" (.cons (.k (.str "no rule")) .nil)) .nil) .nil) .nil)) (.cons (.iff (.cmp .NotEq (.call "ring_of" (.cons (.v 0) .nil)) (.lst .nil)) (.cons (.rais "Ring" (.cons (.k (.str "lines in a ring")) .nil)) .nil) .nil) (.cons (.ret (.tup (.cons (.bi .tuple (.cons (.v 0) .nil)) (.cons (.bi .tuple (.cons (.v 1) .nil)) (.cons (.v 2) (.cons (.v 3) .nil)))))) .nil))))))
theorem cf1:f8 tab "form_of" 35 (f3 pq 35) ["lines","tables","choices","owed","many","rule"] as3 4=true:=by decide +kernel
theorem bl4(N:Nm g){a0 a1 a2 a3:V}(h:wSs g d q as3 [some a0,some a1,some a2,some a3,none,none] M (e9 Q) (xK X)):c7 g (d+1) q "form_of" [a0,a1,a2,a3] M Q X:=g6 N.tab N.prog cf1 (λz_ z_ z_=>vs4 λz_ z_ z_ z_=>rfl) rfl h
noncomputable def aw0:ISs:=(.cons (.asg 1 (.comp [] (.call "named" (.cons (.v 0) (.cons (.k (.str "line")) .nil))) (.e (.itk (.v 0) 0)) .nil)) (.cons (.asg 2 (.lst .nil)) (.cons (.whil (.cmp .Lt (.bi .len (.cons (.v 2) .nil)) (.bi .len (.cons (.v 1) .nil))) (.cons (.loop 3 (.r1 (.bi .len (.cons (.v 1) .nil))) (.cons (.iff (.and (.cmp .NotIn (.v 3) (.v 2)) (.bi .all (.cons (.comp [2] (.cmp .In (.v 0) (.v 1)) (.e (.itm (.v 1) (.v 3))) .nil) .nil))) (.cons (.expr (.meth .append (.v 2) (.cons (.v 3) .nil))) (.cons .brk .nil)) .nil) .nil)) .nil)) (.cons (.ret (.v 2)) .nil))))
theorem bE2:f8 tab "order_of" 36 (f3 pq 36) ["form","names","found","line"] aw0 1=true:=by decide +kernel
theorem bf4(N:Nm g){a0:V}(h:wSs g d q aw0 [some a0,none,none,none] M (e9 Q) (xK X)):c7 g (d+1) q "order_of" [a0] M Q X:=g6 N.tab N.prog bE2 (λz_ z_ z_=>vs1 λz_=>rfl) rfl h
noncomputable def an2:ISs:=(.cons (.iff (.not (.isi (.v 0) .list)) (.cons (.rais "NoPaper" (.cons (.k (.str "no papers")) .nil)) .nil) .nil) (.cons (.asg 1 (.dic0 true)) (.cons (.loop 2 (.e (.v 0)) (.cons (.iff (.or (.not (.isi (.v 2) .tuple)) (.or (.cmp .NotEq (.bi .len (.cons (.v 2) .nil)) (.k (.int 2))) (.or (.not (.call "is_word" (.cons (.itk (.v 2) 0) .nil))) (.not (.call "is_number" (.cons (.itk (.v 2) 1) .nil)))))) (.cons (.rais "NoPaper" (.cons (.k (.str "no paper")) .nil)) .nil) .nil) (.cons (.iff (.cmp .In (.itk (.v 2) 0) (.v 1)) (.cons (.rais "NoPaper" (.cons (.k (.str "a paper twice")) .nil)) .nil) .nil) (.cons (.seti (.v 1) (.itk (.v 2) 0) (.itk (.v 2) 1)) .nil)))) (.cons (.ret (.v 1)) .nil))))
theorem bG2:f8 tab "papers_of" 38 (f3 pq 38) ["pairs","found","pair"] an2 1=true:=by decide +kernel
theorem ba6(N:Nm g){a0:V}(h:wSs g d q an2 [some a0,none,none] M (e9 Q) (xK X)):c7 g (d+1) q "papers_of" [a0] M Q X:=g6 N.tab N.prog bG2 (λz_ z_ z_=>vs1 λz_=>rfl) rfl h
noncomputable def az0:ISs:=(.cons (.iff (.or (.not (.isl (.v 1))) (.cmp .NotEq (.bi .len (.cons (.v 1) .nil)) (.itk (.v 0) 2))) (.cons (.rais "NoChoice" (.cons (.k (.str "not as many choices")) .nil)) .nil) .nil) (.cons (.loop 2 (.e (.v 1)) (.cons (.iff (.not (.isi (.v 2) .bool)) (.cons (.rais "NoChoice" (.cons (.k (.str "no truth")) .nil)) .nil) .nil) .nil)) .nil))
theorem bp2:f8 tab "need_taken" 39 (f3 pq 39) ["form","taken","one"] az0 2=true:=by decide +kernel
theorem bi3(N:Nm g){a0 a1:V}(h:wSs g d q az0 [some a0,some a1,none] M (e9 Q) (xK X)):c7 g (d+1) q "need_taken" [a0,a1] M Q X:=g6 N.tab N.prog bp2 (λz_ z_ z_=>vs2 λz_ z_=>rfl) rfl h
noncomputable def aD9:ISs:=(.cons (.iff (.cmp .Eq (.v 0) (.k (.str "add"))) (.cons (.ret (.bin .Add (.v 1) (.v 2))) .nil) .nil) (.cons (.iff (.cmp .Eq (.v 0) (.k (.str "take"))) (.cons (.ret (.bin .Sub (.v 1) (.v 2))) .nil) .nil) (.cons (.iff (.cmp .Eq (.v 0) (.k (.str "least"))) (.cons (.ret (.bi .min (.cons (.v 1) (.cons (.v 2) .nil)))) .nil) .nil) (.cons (.ret (.bi .max (.cons (.v 1) (.cons (.v 2) .nil)))) .nil))))
theorem bc6:f8 tab "of_two" 40 (f3 pq 40) ["word","one","other"] aD9 3=true:=by decide +kernel
theorem aZ1(N:Nm g){a0 a1 a2:V}(h:wSs g d q aD9 [some a0,some a1,some a2] M (e9 Q) (xK X)):c7 g (d+1) q "of_two" [a0,a1,a2] M Q X:=g6 N.tab N.prog bc6 (λz_ z_ z_=>vs3 λz_ z_ z_=>rfl) rfl h
noncomputable def am2:ISs:=(.cons (.unp [2,3,4,5,6] 1) (.cons (.iff (.cmp .Eq (.itk (.v 0) 0) (.k (.str "number"))) (.cons (.ret (.itk (.v 0) 1)) .nil) .nil) (.cons (.iff (.cmp .Eq (.itk (.v 0) 0) (.k (.str "paper"))) (.cons (.ret (.dg2 (.v 2) (.itk (.v 0) 1) (.k (.int 0)))) .nil) .nil) (.cons (.iff (.cmp .Eq (.itk (.v 0) 0) (.k (.str "line"))) (.cons (.ret (.itm (.v 6) (.itk (.v 0) 1))) .nil) .nil) (.cons (.iff (.cmp .Eq (.bi .len (.cons (.v 3) .nil)) (.k (.int 0))) (.cons (.ret (.k (.int 0))) .nil) .nil) (.cons (.ret (.itm (.v 3) (.itk (.v 0) 1))) .nil))))))
theorem bT7:f8 tab "leaf" 41 (f3 pq 41) ["rule","year","papers","earlier","taken","tables","values"] am2 2=true:=by decide +kernel
theorem bI0(N:Nm g){a0 a1:V}(h:wSs g d q am2 [some a0,some a1,none,none,none,none,none] M (e9 Q) (xK X)):c7 g (d+1) q "leaf" [a0,a1] M Q X:=g6 N.tab N.prog bT7 (λz_ z_ z_=>vs2 λz_ z_=>rfl) rfl h
noncomputable def al3:ISs:=(.cons (.asg 2 (.itk (.v 0) 0)) (.cons (.iff (.cmp .In (.v 2) (.tup (.cons (.k (.str "number")) (.cons (.k (.str "paper")) (.cons (.k (.str "line")) (.cons (.k (.str "earlier")) .nil)))))) (.cons (.ret (.call "leaf" (.cons (.v 0) (.cons (.v 1) .nil)))) .nil) .nil) (.cons (.iff (.cmp .Eq (.v 2) (.k (.str "part"))) (.cons (.ret (.bin .FloorDiv (.bin .Mult (.call "worth" (.cons (.itk (.v 0) 1) (.cons (.v 1) .nil))) (.itk (.v 0) 2)) (.k (.int 100)))) .nil) .nil) (.cons (.iff (.cmp .Eq (.v 2) (.k (.str "table"))) (.cons (.ret (.call "at_number" (.cons (.itm (.itk (.v 1) 3) (.itk (.v 0) 1)) (.cons (.call "worth" (.cons (.itk (.v 0) 2) (.cons (.v 1) .nil))) .nil)))) .nil) .nil) (.cons (.iff (.cmp .Eq (.v 2) (.k (.str "where"))) (.cons (.iff (.cmp .Gt (.call "worth" (.cons (.itk (.v 0) 1) (.cons (.v 1) .nil))) (.k (.int 0))) (.cons (.ret (.call "worth" (.cons (.itk (.v 0) 2) (.cons (.v 1) .nil)))) .nil) .nil) (.cons (.ret (.call "worth" (.cons (.itk (.v 0) 3) (.cons (.v 1) .nil)))) .nil)) .nil) (.cons (.iff (.cmp .Eq (.v 2) (.k (.str "choose"))) (.cons (.iff (.itm (.itk (.v 1) 2) (.itk (.v 0) 1)) (.cons (.ret (.call "worth" (.cons (.itk (.v 0) 3) (.cons (.v 1) .nil)))) .nil) .nil) (.cons (.ret (.call "worth" (.cons (.itk (.v 0) 2) (.cons (.v 1) .nil)))) .nil)) .nil) (.cons (.ret (.call "of_two" (.cons (.v 2) (.cons (.call "worth" (.cons (.itk (.v 0) 1) (.cons (.v 1) .nil))) (.cons (.call "worth" (.cons (.itk (.v 0) 2) (.cons (.v 1) .nil))) .nil))))) .nil)))))))
theorem aW7:f8 tab "worth" 42 (f3 pq 42) ["rule","year","word"] al3 2=true:=by decide +kernel
theorem bx0(N:Nm g){a0 a1:V}(h:wSs g d q al3 [some a0,some a1,none] M (e9 Q) (xK X)):c7 g (d+1) q "worth" [a0,a1] M Q X:=g6 N.tab N.prog aW7 (λz_ z_ z_=>vs2 λz_ z_=>rfl) rfl h
noncomputable def aO9:ISs:=(.cons (.asg 4 (.call "papers_of" (.cons (.v 1) .nil))) (.cons (.expr (.call "need_taken" (.cons (.v 0) (.cons (.v 3) .nil)))) (.cons (.asg 5 (.dic0 false)) (.cons (.asg 6 (.tup (.cons (.v 4) (.cons (.v 2) (.cons (.v 3) (.cons (.itk (.v 0) 1) (.cons (.v 5) .nil))))))) (.cons (.loop 7 (.e (.call "order_of" (.cons (.v 0) .nil))) (.cons (.seti (.v 5) (.v 7) (.call "worth" (.cons (.itm (.itk (.v 0) 0) (.v 7)) (.cons (.v 6) .nil)))) .nil)) (.cons (.ret (.comp [5] (.itm (.v 1) (.v 0)) (.r1 (.bi .len (.cons (.itk (.v 0) 0) .nil))) .nil)) .nil))))))
theorem bR9:f8 tab "reckoned" 43 (f3 pq 43) ["form","pairs","earlier","taken","papers","values","year","line"] aO9 4=true:=by decide +kernel
theorem bH4(N:Nm g){a0 a1 a2 a3:V}(h:wSs g d q aO9 [some a0,some a1,some a2,some a3,none,none,none,none] M (e9 Q) (xK X)):c7 g (d+1) q "reckoned" [a0,a1,a2,a3] M Q X:=g6 N.tab N.prog bR9 (λz_ z_ z_=>vs4 λz_ z_ z_ z_=>rfl) rfl h
noncomputable def at6:ISs:=(.cons (.asg 3 (.lst .nil)) (.cons (.asg 4 (.lst .nil)) (.cons (.loopz [5,6] (.cons (.v 1) (.cons (.v 2) .nil)) (.cons (.asg 4 (.call "reckoned" (.cons (.v 0) (.cons (.v 5) (.cons (.v 4) (.cons (.v 6) .nil)))))) (.cons (.expr (.meth .append (.v 3) (.cons (.v 4) .nil))) .nil))) (.cons (.ret (.comp [] (.bi .list (.cons (.v 0) .nil)) (.e (.v 3)) .nil)) .nil))))
theorem bQ7:f8 tab "history" 44 (f3 pq 44) ["form","years","taken","found","earlier","pairs","truths"] at6 3=true:=by decide +kernel
theorem bG7(N:Nm g){a0 a1 a2:V}(h:wSs g d q at6 [some a0,some a1,some a2,none,none,none,none] M (e9 Q) (xK X)):c7 g (d+1) q "history" [a0,a1,a2] M Q X:=g6 N.tab N.prog bQ7 (λz_ z_ z_=>vs3 λz_ z_ z_=>rfl) rfl h
noncomputable def ao0:ISs:=(.cons (.asg 6 (.bin .Add (.v 6) (.comp [8] (.tup (.cons (.v 1) (.cons (.v 0) .nil))) (.e (.bi .sorted (.cons (.v 9) .nil))) .nil))) (.cons (.asg 7 (.v 9)) .nil))
noncomputable def ax1:ISs:=(.cons (.iff (.or (.v 12) (.bi .anyb (.cons (.comp [7] (.cmp .In (.v 0) (.v 1)) (.e (.call "named" (.cons (.v 11) (.cons (.k (.str "earlier")) .nil)))) .nil) .nil))) (.cons (.expr (.meth .append (.v 9) (.cons (.v 10) .nil))) .nil) .nil) .nil)
noncomputable def af8:ISs:=(.cons (.asg 12 (.or (.v 12) (.bi .anyb (.cons (.comp [9] (.cmp .In (.v 0) (.v 1)) (.e (.call "named" (.cons (.v 11) (.cons (.k (.str "line")) .nil)))) .nil) .nil)))) (.stop ax1))
noncomputable def aE7:ISs:=(.cons (.asg 5 (.call "order_of" (.cons (.v 0) .nil))) (.cons (.asg 6 (.lst .nil)) (.cons (.asg 7 (.lst .nil)) (.cons (.loop 8 (.r1 (.v 1)) (.cons (.asg 9 (.lst .nil)) (.cons (.loop 10 (.e (.v 5)) (.cons (.asg 11 (.itm (.itk (.v 0) 0) (.v 10))) (.cons (.asg 12 (.and (.cmp .Eq (.v 8) (.v 2)) (.cmp .In (.v 4) (.call "named" (.cons (.v 11) (.cons (.v 3) .nil)))))) (.stop af8)))) (.stop ao0)))) (.cons (.ret (.v 6)) .nil)))))
theorem bn9:f8 tab "hanging_on" 45 (f3 pq 45) ["form","count","year","word","thing","order","found","ahead","number","here","line","rule","hangs"] aE7 5=true:=by decide +kernel
theorem bm1(N:Nm g){a0 a1 a2 a3 a4:V}(h:wSs g d q aE7 [some a0,some a1,some a2,some a3,some a4,none,none,none,none,none,none,none,none] M (e9 Q) (xK X)):c7 g (d+1) q "hanging_on" [a0,a1,a2,a3,a4] M Q X:=g6 N.tab N.prog bn9 (λz_ z_ z_=>vs5 λz_ z_ z_ z_ z_=>rfl) rfl h
noncomputable def ar6:ISs:=(.cons (.ret (.call "hanging_on" (.cons (.v 0) (.cons (.v 1) (.cons (.v 2) (.cons (.k (.str "paper")) (.cons (.v 3) .nil))))))) .nil)
theorem cf9:f8 tab "hanging" 46 (f3 pq 46) ["form","count","year","word"] ar6 4=true:=by decide +kernel
theorem bR0(N:Nm g){a0 a1 a2 a3:V}(h:wSs g d q ar6 [some a0,some a1,some a2,some a3] M (e9 Q) (xK X)):c7 g (d+1) q "hanging" [a0,a1,a2,a3] M Q X:=g6 N.tab N.prog cf9 (λz_ z_ z_=>vs4 λz_ z_ z_ z_=>rfl) rfl h
noncomputable def al8:ISs:=(.cons (.ret (.call "hanging_on" (.cons (.v 0) (.cons (.v 1) (.cons (.v 2) (.cons (.k (.str "choose")) (.cons (.v 3) .nil))))))) .nil)
theorem cj2:f8 tab "hanging_choice" 47 (f3 pq 47) ["form","count","year","choice"] al8 4=true:=by decide +kernel
theorem bu0(N:Nm g){a0 a1 a2 a3:V}(h:wSs g d q al8 [some a0,some a1,some a2,some a3] M (e9 Q) (xK X)):c7 g (d+1) q "hanging_choice" [a0,a1,a2,a3] M Q X:=g6 N.tab N.prog cj2 (λz_ z_ z_=>vs4 λz_ z_ z_ z_=>rfl) rfl h
noncomputable def aB4:ISs:=(.cons (.iff (.cmp .Lt (.v 1) (.bi .len (.cons (.v 0) .nil))) (.cons (.ret (.itm (.v 0) (.v 1))) .nil) .nil) (.cons (.ret (.k (.int 0))) .nil))
theorem bj6:f8 tab "_law_cell_at" 49 (f3 pq 49) ["_law_script","_law_k"] aB4 2=true:=by decide +kernel
theorem bR2(N:Nm g){a0 a1:V}(h:wSs g d q aB4 [some a0,some a1] M (e9 Q) (xK X)):c7 g (d+1) q "_law_cell_at" [a0,a1] M Q X:=g6 N.tab N.prog bj6 (λz_ z_ z_=>vs2 λz_ z_=>rfl) rfl h
noncomputable def aq8:ISs:=(.cons (.ret (.bin .Mod (.bin .Mult (.bin .Add (.v 0) (.bin .Mult (.k (.int 7919)) (.v 1))) (.k (.int 48271))) (.k (.int 2147483647)))) .nil)
theorem aS6:f8 tab "_law_mixed" 50 (f3 pq 50) ["_law_cell","_law_k"] aq8 2=true:=by decide +kernel
theorem bf1(N:Nm g){a0 a1:V}(h:wSs g d q aq8 [some a0,some a1] M (e9 Q) (xK X)):c7 g (d+1) q "_law_mixed" [a0,a1] M Q X:=g6 N.tab N.prog aS6 (λz_ z_ z_=>vs2 λz_ z_=>rfl) rfl h
noncomputable def aF1:ISs:=(.cons (.seti (.v 0) (.k (.int 0)) (.bin .Mod (.bin .Add (.bin .Mult (.itk (.v 0) 0) (.k (.int 48271))) (.k (.int 11))) (.k (.int 2147483647)))) (.cons (.ret (.bin .Mod (.bin .FloorDiv (.itk (.v 0) 0) (.k (.int 7))) (.v 1))) .nil))
theorem bn8:f8 tab "_law_next" 51 (f3 pq 51) ["_law_state","_law_size"] aF1 2=true:=by decide +kernel
theorem aT2(N:Nm g){a0 a1:V}(h:wSs g d q aF1 [some a0,some a1] M (e9 Q) (xK X)):c7 g (d+1) q "_law_next" [a0,a1] M Q X:=g6 N.tab N.prog bn8 (λz_ z_ z_=>vs2 λz_ z_=>rfl) rfl h
noncomputable def al5:ISs:=(.cons (.asg 1 (.call "_law_next" (.cons (.v 0) (.cons (.k (.int 6)) .nil)))) (.cons (.iff (.cmp .Eq (.v 1) (.k (.int 0))) (.cons (.ret (.pick (.cons (.neg (.pw 9 1000000000)) (.cons (.pw 9 1000000000) (.cons (.bin .Sub (.pw 9 1000000000) (.k (.int 1))) (.cons (.bin .Sub (.k (.int 1)) (.pw 9 1000000000)) .nil)))) (.call "_law_next" (.cons (.v 0) (.cons (.k (.int 4)) .nil))))) .nil) .nil) (.cons (.iff (.cmp .Eq (.v 1) (.k (.int 1))) (.cons (.ret (.bin .Sub (.call "_law_next" (.cons (.v 0) (.cons (.k (.int 2000001)) .nil))) (.k (.int 1000000)))) .nil) .nil) (.cons (.ret (.bin .Sub (.call "_law_next" (.cons (.v 0) (.cons (.k (.int 61)) .nil))) (.k (.int 20)))) .nil))))
theorem bl8:f8 tab "_law_number" 52 (f3 pq 52) ["_law_state","_law_kind"] al5 1=true:=by decide +kernel
theorem bD8(N:Nm g){a0:V}(h:wSs g d q al5 [some a0,none] M (e9 Q) (xK X)):c7 g (d+1) q "_law_number" [a0] M Q X:=g6 N.tab N.prog bl8 (λz_ z_ z_=>vs1 λz_=>rfl) rfl h
noncomputable def aM7:ISs:=(.cons (.expr (.meth .append (.v 3) (.cons (.tup (.cons (.v 2) (.cons (.call "_law_number" (.cons (.v 0) .nil)) (.cons (.v 5) .nil)))) .nil))) (.cons (.asg 2 (.bin .Add (.bin .Add (.v 2) (.k (.int 1))) (.pick (.cons (.call "_law_next" (.cons (.v 0) (.cons (.k (.int 40)) .nil))) (.cons (.call "_law_next" (.cons (.v 0) (.cons (.k (.int 20000)) .nil))) .nil)) (.call "_law_next" (.cons (.v 0) (.cons (.k (.int 2)) .nil)))))) .nil))
noncomputable def Z8:ISs:=(.cons (.asg 3 (.lst .nil)) (.cons (.loop 4 (.r1 (.v 1)) (.cons (.asg 5 (.pick (.cons (.k (.int 0)) (.cons (.k (.int 100)) (.cons (.call "_law_next" (.cons (.v 0) (.cons (.k (.int 101)) .nil))) .nil))) (.call "_law_next" (.cons (.v 0) (.cons (.k (.int 3)) .nil))))) (.stop aM7))) (.cons (.ret (.bi .tuple (.cons (.v 3) .nil))) .nil)))
noncomputable def aN0:ISs:=(.cons (.asg 2 (.pick (.cons (.neg (.pw 9 1000000000)) (.cons (.bin .Sub (.call "_law_next" (.cons (.v 0) (.cons (.k (.int 2001)) .nil))) (.k (.int 1000))) (.cons (.bin .Sub (.pw 9 1000000000) (.bin .Mult (.k (.int 20000)) (.v 1))) .nil))) (.bin .FloorDiv (.call "_law_next" (.cons (.v 0) (.cons (.k (.int 12)) .nil))) (.k (.int 5))))) (.stop Z8))
noncomputable def aK4:ISs:=(.cons (.asg 1 (.bin .Add (.k (.int 1)) (.call "_law_next" (.cons (.v 0) (.cons (.k (.int 4)) .nil))))) (.cons (.iff (.cmp .Eq (.call "_law_next" (.cons (.v 0) (.cons (.k (.int 8)) .nil))) (.k (.int 1))) (.cons (.asg 1 (.bin .Add (.k (.int 5)) (.call "_law_next" (.cons (.v 0) (.cons (.k (.int 16)) .nil))))) .nil) .nil) (.stop aN0)))
theorem aT6:f8 tab "_law_table" 53 (f3 pq 53) ["_law_state","_law_many","_law_start","_law_rows","_law_k","_law_percent"] aK4 1=true:=by decide +kernel
theorem bi9(N:Nm g){a0:V}(h:wSs g d q aK4 [some a0,none,none,none,none,none] M (e9 Q) (xK X)):c7 g (d+1) q "_law_table" [a0] M Q X:=g6 N.tab N.prog aT6 (λz_ z_ z_=>vs1 λz_=>rfl) rfl h
noncomputable def aB7:ISs:=(.cons (.asg 1 (.k (.str "abcdefghijklmnopqrstuvwxyz"))) (.cons (.asg 2 (.k (.str ""))) (.cons (.loop 3 (.r1 (.k (.int 8))) (.cons (.asg 2 (.bin .Add (.v 2) (.itm (.v 1) (.call "_law_next" (.cons (.v 0) (.cons (.k (.int 26)) .nil)))))) .nil)) (.cons (.asg 4 (.lst (.cons (.slc (.v 2) (.k .none) (.bin .Add (.k (.int 1)) (.call "_law_next" (.cons (.v 0) (.cons (.k (.int 8)) .nil))))) (.cons (.v 2) .nil)))) (.cons (.loop 3 (.r1 (.k (.int 3))) (.cons (.asg 5 (.call "_law_next" (.cons (.v 0) (.cons (.k (.int 8)) .nil)))) (.cons (.expr (.meth .append (.v 4) (.cons (.bin .Add (.bin .Add (.slc (.v 2) (.k .none) (.v 5)) (.itm (.v 1) (.call "_law_next" (.cons (.v 0) (.cons (.k (.int 26)) .nil))))) (.slc (.v 2) (.bin .Add (.v 5) (.k (.int 1))) (.bin .Add (.bin .Add (.k (.int 1)) (.v 5)) (.call "_law_next" (.cons (.v 0) (.cons (.k (.int 8)) .nil)))))) .nil))) .nil))) (.cons (.ret (.bin .Add (.v 4) (.slc (.lst (.cons (.k (.str "line")) (.cons (.k (.str "paper")) (.cons (.k (.str "add")) .nil)))) (.k .none) (.call "_law_next" (.cons (.v 0) (.cons (.k (.int 4)) .nil)))))) .nil))))))
theorem bf0:f8 tab "_law_words" 54 (f3 pq 54) ["_law_state","_law_letters","_law_base","_law_k","_law_words_here","_law_at"] aB7 1=true:=by decide +kernel
theorem bt2(N:Nm g){a0:V}(h:wSs g d q aB7 [some a0,none,none,none,none,none] M (e9 Q) (xK X)):c7 g (d+1) q "_law_words" [a0] M Q X:=g6 N.tab N.prog bf0 (λz_ z_ z_=>vs1 λz_=>rfl) rfl h
noncomputable def an8:ISs:=(.cons (.asg 4 (.call "_law_next" (.cons (.v 0) (.cons (.k (.int 5)) .nil)))) (.cons (.iff (.cmp .Eq (.v 4) (.k (.int 0))) (.cons (.ret (.tup (.cons (.k (.str "number")) (.cons (.call "_law_number" (.cons (.v 0) .nil)) .nil)))) .nil) .nil) (.cons (.iff (.and (.cmp .Lt (.v 4) (.k (.int 3))) (.cmp .Gt (.bi .len (.cons (.v 1) .nil)) (.k (.int 0)))) (.cons (.ret (.tup (.cons (.k (.str "line")) (.cons (.itm (.v 1) (.call "_law_next" (.cons (.v 0) (.cons (.bi .len (.cons (.v 1) .nil)) .nil)))) .nil)))) .nil) .nil) (.cons (.iff (.cmp .Eq (.v 4) (.k (.int 3))) (.cons (.ret (.tup (.cons (.k (.str "earlier")) (.cons (.call "_law_next" (.cons (.v 0) (.cons (.itk (.v 2) 0) .nil))) .nil)))) .nil) .nil) (.cons (.ret (.tup (.cons (.k (.str "paper")) (.cons (.itm (.v 3) (.call "_law_next" (.cons (.v 0) (.cons (.bi .len (.cons (.v 3) .nil)) .nil)))) .nil)))) .nil)))))
theorem bD1:f8 tab "_law_plain" 55 (f3 pq 55) ["_law_state","_law_seen","_law_sizes_here","_law_words_here","_law_kind"] an8 4=true:=by decide +kernel
theorem bg7(N:Nm g){a0 a1 a2 a3:V}(h:wSs g d q an8 [some a0,some a1,some a2,some a3,none] M (e9 Q) (xK X)):c7 g (d+1) q "_law_plain" [a0,a1,a2,a3] M Q X:=g6 N.tab N.prog bD1 (λz_ z_ z_=>vs4 λz_ z_ z_ z_=>rfl) rfl h
noncomputable def aN9:ISs:=(.cons (.asg 5 (.call "_law_next" (.cons (.v 0) (.cons (.k (.int 12)) .nil)))) (.cons (.iff (.or (.cmp .Lt (.v 1) (.k (.int 2))) (.cmp .Lt (.v 5) (.k (.int 2)))) (.cons (.ret (.call "_law_plain" (.cons (.v 0) (.cons (.v 2) (.cons (.v 3) (.cons (.v 4) .nil)))))) .nil) .nil) (.cons (.asg 6 (.call "_law_rule" (.cons (.v 0) (.cons (.bin .Sub (.v 1) (.k (.int 1))) (.cons (.v 2) (.cons (.v 3) (.cons (.v 4) .nil))))))) (.cons (.iff (.cmp .Eq (.v 5) (.k (.int 6))) (.cons (.ret (.tup (.cons (.k (.str "part")) (.cons (.v 6) (.cons (.pick (.cons (.k (.int 0)) (.cons (.k (.int 100)) (.cons (.call "_law_next" (.cons (.v 0) (.cons (.k (.int 101)) .nil))) .nil))) (.call "_law_next" (.cons (.v 0) (.cons (.k (.int 3)) .nil)))) .nil))))) .nil) .nil) (.cons (.iff (.and (.cmp .Eq (.v 5) (.k (.int 7))) (.cmp .Gt (.itk (.v 3) 1) (.k (.int 0)))) (.cons (.ret (.tup (.cons (.k (.str "table")) (.cons (.call "_law_next" (.cons (.v 0) (.cons (.itk (.v 3) 1) .nil))) (.cons (.v 6) .nil))))) .nil) .nil) (.cons (.iff (.cmp .Eq (.v 5) (.k (.int 7))) (.cons (.ret (.v 6)) .nil) .nil) (.cons (.asg 7 (.call "_law_rule" (.cons (.v 0) (.cons (.bi .min (.cons (.bin .Sub (.v 1) (.k (.int 1))) (.cons (.k (.int 2)) .nil))) (.cons (.v 2) (.cons (.v 3) (.cons (.v 4) .nil))))))) (.cons (.iff (.cmp .Eq (.call "_law_next" (.cons (.v 0) (.cons (.k (.int 2)) .nil))) (.k (.int 1))) (.cons (.swap 6 7 (.v 7) (.v 6)) .nil) .nil) (.cons (.iff (.cmp .Lt (.v 5) (.k (.int 6))) (.cons (.ret (.tup (.cons (.pick (.cons (.k (.str "add")) (.cons (.k (.str "take")) (.cons (.k (.str "least")) (.cons (.k (.str "most")) .nil)))) (.bin .Sub (.v 5) (.k (.int 2)))) (.cons (.v 6) (.cons (.v 7) .nil))))) .nil) .nil) (.cons (.iff (.cmp .Lt (.v 5) (.k (.int 10))) (.cons (.ret (.tup (.cons (.k (.str "where")) (.cons (.v 6) (.cons (.v 7) (.cons (.call "_law_rule" (.cons (.v 0) (.cons (.bi .min (.cons (.bin .Sub (.v 1) (.k (.int 1))) (.cons (.k (.int 2)) .nil))) (.cons (.v 2) (.cons (.v 3) (.cons (.v 4) .nil)))))) .nil)))))) .nil) .nil) (.cons (.iff (.cmp .Gt (.itk (.v 3) 2) (.k (.int 0))) (.cons (.ret (.tup (.cons (.k (.str "choose")) (.cons (.call "_law_next" (.cons (.v 0) (.cons (.itk (.v 3) 2) .nil))) (.cons (.v 6) (.cons (.v 7) .nil)))))) .nil) .nil) (.cons (.ret (.tup (.cons (.k (.str "take")) (.cons (.v 7) (.cons (.v 6) .nil))))) .nil))))))))))))
theorem bS9:f8 tab "_law_rule" 56 (f3 pq 56) ["_law_state","_law_deep","_law_seen","_law_sizes_here","_law_words_here","_law_kind","_law_one","_law_other"] aN9 5=true:=by decide +kernel
theorem bW7(N:Nm g){a0 a1 a2 a3 a4:V}(h:wSs g d q aN9 [some a0,some a1,some a2,some a3,some a4,none,none,none] M (e9 Q) (xK X)):c7 g (d+1) q "_law_rule" [a0,a1,a2,a3,a4] M Q X:=g6 N.tab N.prog bS9 (λz_ z_ z_=>vs5 λz_ z_ z_ z_ z_=>rfl) rfl h
noncomputable def aA6:ISs:=(.cons (.asg 4 (.bin .Mod (.bin .FloorDiv (.v 0) (.k (.int 88128))) (.k (.int 4)))) (.cons (.iff (.cmp .Eq (.bin .Mod (.bin .FloorDiv (.v 0) (.k (.int 352512))) (.k (.int 8))) (.k (.int 1))) (.cons (.asg 4 (.bin .Add (.k (.int 4)) (.bin .Mod (.bin .FloorDiv (.v 0) (.k (.int 2820096))) (.k (.int 5))))) .nil) .nil) (.cons (.ret (.tup (.cons (.v 2) (.cons (.v 3) (.cons (.v 4) .nil))))) .nil)))
noncomputable def al0:ISs:=(.cons (.asg 3 (.bin .Mod (.bin .FloorDiv (.v 0) (.k (.int 1224))) (.k (.int 3)))) (.cons (.iff (.cmp .Eq (.bin .Mod (.bin .FloorDiv (.v 0) (.k (.int 3672))) (.k (.int 8))) (.k (.int 1))) (.cons (.asg 3 (.bin .Add (.k (.int 3)) (.bin .Mod (.bin .FloorDiv (.v 0) (.k (.int 29376))) (.k (.int 3))))) .nil) .nil) (.stop aA6)))
noncomputable def aA8:ISs:=(.cons (.asg 2 (.bin .Add (.k (.int 1)) (.bin .Mod (.v 0) (.k (.int 6))))) (.cons (.iff (.cmp .Eq (.bin .Mod (.bin .FloorDiv (.v 0) (.k (.int 6))) (.k (.int 6))) (.k (.int 1))) (.cons (.asg 2 (.bin .Add (.k (.int 7)) (.bin .Mod (.bin .FloorDiv (.v 0) (.k (.int 36))) (.bin .Sub (.v 1) (.k (.int 6)))))) .nil) .nil) (.stop al0)))
theorem bp7:f8 tab "_law_sizes" 57 (f3 pq 57) ["_law_cell","_law_most","_law_many","_law_tables","_law_choices"] aA8 2=true:=by decide +kernel
theorem bf6(N:Nm g){a0 a1:V}(h:wSs g d q aA8 [some a0,some a1,none,none,none] M (e9 Q) (xK X)):c7 g (d+1) q "_law_sizes" [a0,a1] M Q X:=g6 N.tab N.prog bp7 (λz_ z_ z_=>vs2 λz_ z_=>rfl) rfl h
noncomputable def ar2:ISs:=(.cons (.asg 2 (.lrng (.v 1))) (.cons (.asg 3 (.lst .nil)) (.cons (.whil (.cmp .Gt (.bi .len (.cons (.v 2) .nil)) (.k (.int 0))) (.cons (.expr (.meth .append (.v 3) (.cons (.meth .pop (.v 2) (.cons (.call "_law_next" (.cons (.v 0) (.cons (.bi .len (.cons (.v 2) .nil)) .nil))) .nil)) .nil))) .nil)) (.cons (.ret (.v 3)) .nil))))
theorem bu7:f8 tab "_law_order" 58 (f3 pq 58) ["_law_state","_law_many","_law_left","_law_found"] ar2 2=true:=by decide +kernel
theorem bh9(N:Nm g){a0 a1:V}(h:wSs g d q ar2 [some a0,some a1,none,none] M (e9 Q) (xK X)):c7 g (d+1) q "_law_order" [a0,a1] M Q X:=g6 N.tab N.prog bu7 (λz_ z_ z_=>vs2 λz_ z_=>rfl) rfl h
noncomputable def aN2:ISs:=(.cons (.asg 9 (.comp [2] (.call "_law_table" (.cons (.v 1) .nil)) (.r1 (.itk (.v 3) 1)) .nil)) (.cons (.ret (.lst (.cons (.v 5) (.cons (.v 9) (.cons (.itk (.v 3) 2) (.cons (.call "_law_next" (.cons (.v 2) (.cons (.itk (.v 3) 0) .nil))) (.cons (.v 4) .nil))))))) .nil))
noncomputable def aM9:ISs:=(.cons (.seti (.v 5) (.v 7) (.call "_law_rule" (.cons (.v 2) (.cons (.v 8) (.cons (.bi .list (.cons (.v 6) .nil)) (.cons (.v 3) (.cons (.v 4) .nil))))))) (.cons (.expr (.meth .append (.v 6) (.cons (.v 7) .nil))) .nil))
noncomputable def ap8:ISs:=(.cons (.asg 2 (.lst (.cons (.call "_law_mixed" (.cons (.call "_law_cell_at" (.cons (.v 0) (.cons (.k (.int 0)) .nil))) (.cons (.k (.int 1)) .nil))) .nil))) (.cons (.asg 3 (.call "_law_sizes" (.cons (.call "_law_mixed" (.cons (.call "_law_cell_at" (.cons (.v 0) (.cons (.k (.int 1)) .nil))) (.cons (.k (.int 2)) .nil))) (.cons (.v 1) .nil)))) (.cons (.asg 4 (.call "_law_words" (.cons (.v 2) .nil))) (.cons (.asg 5 (.bin .Mult (.lst (.cons (.tup (.cons (.k (.str "number")) (.cons (.k (.int 0)) .nil))) .nil)) (.itk (.v 3) 0))) (.cons (.asg 6 (.lst .nil)) (.cons (.loop 7 (.e (.call "_law_order" (.cons (.v 2) (.cons (.itk (.v 3) 0) .nil)))) (.cons (.asg 8 (.bin .Add (.k (.int 1)) (.call "_law_next" (.cons (.v 2) (.cons (.k (.int 3)) .nil))))) (.cons (.iff (.cmp .Eq (.call "_law_next" (.cons (.v 2) (.cons (.k (.int 12)) .nil))) (.k (.int 1))) (.cons (.asg 8 (.bin .Add (.k (.int 4)) (.call "_law_next" (.cons (.v 2) (.cons (.k (.int 5)) .nil))))) .nil) .nil) (.stop aM9)))) (.stop aN2)))))))
theorem be5:f8 tab "_law_form" 59 (f3 pq 59) ["_law_script","_law_most","_law_state","_law_sizes_here","_law_words_here","_law_lines","_law_seen","_law_line","_law_deep","_law_tables"] ap8 2=true:=by decide +kernel
theorem bN6(N:Nm g){a0 a1:V}(h:wSs g d q ap8 [some a0,some a1,none,none,none,none,none,none,none,none] M (e9 Q) (xK X)):c7 g (d+1) q "_law_form" [a0,a1] M Q X:=g6 N.tab N.prog be5 (λz_ z_ z_=>vs2 λz_ z_=>rfl) rfl h
noncomputable def aK5:ISs:=(.cons (.loop 3 (.e (.slc (.v 0) (.k (.int 1)) (.k .none))) (.cons (.iff (.isi (.v 3) .tuple) (.cons (.asg 2 (.bin .Add (.v 2) (.comp [2] (.v 0) (.e (.call "_law_named" (.cons (.v 3) (.cons (.v 1) .nil)))) (.cons (.cmp .NotIn (.v 0) (.v 1)) .nil)))) .nil) .nil) (.drop .nil))) (.cons (.ret (.bi .sorted (.cons (.v 2) .nil))) .nil))
noncomputable def am7:ISs:=(.cons (.asg 2 (.lst .nil)) (.cons (.iff (.cmp .Eq (.itk (.v 0) 0) (.v 1)) (.cons (.expr (.meth .append (.v 2) (.cons (.itk (.v 0) 1) .nil))) .nil) .nil) (.stop aK5)))
theorem bd2:f8 tab "_law_named" 60 (f3 pq 60) ["_law_rule_here","_law_word","_law_found","_law_one"] am7 2=true:=by decide +kernel
theorem bl0(N:Nm g){a0 a1:V}(h:wSs g d q am7 [some a0,some a1,none,none] M (e9 Q) (xK X)):c7 g (d+1) q "_law_named" [a0,a1] M Q X:=g6 N.tab N.prog bd2 (λz_ z_ z_=>vs2 λz_ z_=>rfl) rfl h
noncomputable def aC1:ISs:=(.cons (.asg 2 (.lst .nil)) (.cons (.loop 3 (.e (.v 1)) (.cons (.iff (.and (.cmp .Gt (.call "_law_next" (.cons (.v 0) (.cons (.k (.int 3)) .nil))) (.k (.int 0))) (.cmp .NotIn (.v 3) (.comp [] (.itk (.v 0) 0) (.e (.v 2)) .nil))) (.cons (.expr (.meth .append (.v 2) (.cons (.tup (.cons (.v 3) (.cons (.call "_law_number" (.cons (.v 0) .nil)) .nil))) .nil))) .nil) .nil) .nil)) (.cons (.ret (.v 2)) .nil)))
theorem aT9:f8 tab "_law_papers" 61 (f3 pq 61) ["_law_state","_law_words_here","_law_found","_law_word"] aC1 2=true:=by decide +kernel
theorem cf7(N:Nm g){a0 a1:V}(h:wSs g d q aC1 [some a0,some a1,none,none] M (e9 Q) (xK X)):c7 g (d+1) q "_law_papers" [a0,a1] M Q X:=g6 N.tab N.prog aT9 (λz_ z_ z_=>vs2 λz_ z_=>rfl) rfl h
noncomputable def aO5:ISs:=(.cons (.ret (.comp [0] (.cmp .Eq (.call "_law_next" (.cons (.v 1) (.cons (.k (.int 2)) .nil))) (.k (.int 1))) (.r1 (.v 1)) .nil)) .nil)
theorem bW9:f8 tab "_law_taken" 62 (f3 pq 62) ["_law_state","_law_many"] aO5 2=true:=by decide +kernel
theorem aY4(N:Nm g){a0 a1:V}(h:wSs g d q aO5 [some a0,some a1] M (e9 Q) (xK X)):c7 g (d+1) q "_law_taken" [a0,a1] M Q X:=g6 N.tab N.prog bW9 (λz_ z_ z_=>vs2 λz_ z_=>rfl) rfl h
noncomputable def X2:ISs:=(.cons (.iff (.and (.v 10) (.cmp .NotIn (.tup (.cons (.v 7) (.cons (.v 8) .nil))) (.v 5))) (.cons (.expr (.meth .append (.v 5) (.cons (.tup (.cons (.v 7) (.cons (.v 8) .nil))) .nil))) (.cons (.asg 6 (.k (.bool true))) .nil)) .nil) .nil)
noncomputable def aE8:ISs:=(.cons (.loop 11 (.e (.call "_law_named" (.cons (.v 9) (.cons (.k (.str "earlier")) .nil)))) (.cons (.asg 10 (.or (.v 10) (.cmp .In (.tup (.cons (.bin .Sub (.v 7) (.k (.int 1))) (.cons (.v 11) .nil))) (.v 5)))) .nil)) (.stop X2))
noncomputable def af4:ISs:=(.cons (.loop 11 (.e (.call "_law_named" (.cons (.v 9) (.cons (.k (.str "line")) .nil)))) (.cons (.asg 10 (.or (.v 10) (.cmp .In (.tup (.cons (.v 7) (.cons (.v 11) .nil))) (.v 5)))) .nil)) (.stop aE8))
noncomputable def aH4:ISs:=(.cons (.asg 5 (.lst .nil)) (.cons (.asg 6 (.k (.bool true))) (.cons (.whil (.v 6) (.cons (.asg 6 (.k (.bool false))) (.cons (.loop 7 (.r2 (.v 2) (.v 1)) (.cons (.loop 8 (.r1 (.bi .len (.cons (.itk (.v 0) 0) .nil))) (.cons (.asg 9 (.itm (.itk (.v 0) 0) (.v 8))) (.cons (.asg 10 (.and (.cmp .Eq (.v 7) (.v 2)) (.cmp .In (.v 4) (.call "_law_named" (.cons (.v 9) (.cons (.v 3) .nil)))))) (.stop af4)))) .nil)) .nil))) (.cons (.ret (.bi .sorted (.cons (.v 5) .nil))) .nil))))
theorem bF4:f8 tab "_law_hangs" 63 (f3 pq 63) ["_law_form_here","_law_count","_law_year","_law_word","_law_thing","_law_found","_law_more","_law_here","_law_line","_law_rule_here","_law_one","_law_other"] aH4 5=true:=by decide +kernel
theorem bs8(N:Nm g){a0 a1 a2 a3 a4:V}(h:wSs g d q aH4 [some a0,some a1,some a2,some a3,some a4,none,none,none,none,none,none,none] M (e9 Q) (xK X)):c7 g (d+1) q "_law_hangs" [a0,a1,a2,a3,a4] M Q X:=g6 N.tab N.prog bF4 (λz_ z_ z_=>vs5 λz_ z_ z_ z_ z_=>rfl) rfl h
noncomputable def aB1:ISs:=(.cons (.loop 3 (.r1 (.bi .len (.cons (.v 0) .nil))) (.cons (.loop 4 (.r1 (.bi .len (.cons (.itm (.v 0) (.v 3)) .nil))) (.cons (.iff (.and (.cmp .NotIn (.tup (.cons (.v 3) (.cons (.v 4) .nil))) (.v 2)) (.cmp .NotEq (.itm (.itm (.v 0) (.v 3)) (.v 4)) (.itm (.itm (.v 1) (.v 3)) (.v 4)))) (.cons (.ret (.k (.bool false))) .nil) .nil) .nil)) .nil)) (.cons (.ret (.k (.bool true))) .nil))
theorem aY5:f8 tab "_law_others_stay" 64 (f3 pq 64) ["_law_first","_law_second","_law_hang","_law_year","_law_line"] aB1 3=true:=by decide +kernel
theorem bj4(N:Nm g){a0 a1 a2:V}(h:wSs g d q aB1 [some a0,some a1,some a2,none,none] M (e9 Q) (xK X)):c7 g (d+1) q "_law_others_stay" [a0,a1,a2] M Q X:=g6 N.tab N.prog aY5 (λz_ z_ z_=>vs3 λz_ z_ z_=>rfl) rfl h
noncomputable def ap3:ISs:=(.cons (.iff (.or (.not (.isi (.v 0) .list)) (.cmp .NotEq (.v 0) (.v 1))) (.cons (.ret (.k (.bool false))) .nil) .nil) (.cons (.loop 2 (.e (.v 0)) (.cons (.iff (.not (.isi (.v 2) .tuple)) (.cons (.ret (.k (.bool false))) .nil) .nil) .nil)) (.cons (.ret (.k (.bool true))) .nil)))
theorem bx6:f8 tab "_law_pairs" 65 (f3 pq 65) ["_law_found","_law_hang","_law_pair"] ap3 2=true:=by decide +kernel
theorem bz3(N:Nm g){a0 a1:V}(h:wSs g d q ap3 [some a0,some a1,none] M (e9 Q) (xK X)):c7 g (d+1) q "_law_pairs" [a0,a1] M Q X:=g6 N.tab N.prog bx6 (λz_ z_ z_=>vs2 λz_ z_=>rfl) rfl h
noncomputable def al9:ISs:=(.cons (.seti (.itm (.v 8) (.v 5)) (.v 12) (.not (.itm (.itm (.v 8) (.v 5)) (.v 12)))) (.cons (.ret (.call "_law_others_stay" (.cons (.v 9) (.cons (.call "history" (.cons (.v 2) (.cons (.v 7) (.cons (.v 8) .nil)))) (.cons (.v 10) .nil))))) .nil))
noncomputable def az3:ISs:=(.cons (.asg 12 (.call "_law_next" (.cons (.v 3) (.cons (.itk (.v 1) 2) .nil)))) (.cons (.asg 10 (.call "_law_hangs" (.cons (.v 2) (.cons (.v 4) (.cons (.v 5) (.cons (.k (.str "choose")) (.cons (.v 12) .nil))))))) (.cons (.iff (.not (.call "_law_pairs" (.cons (.call "hanging_choice" (.cons (.v 2) (.cons (.v 4) (.cons (.v 5) (.cons (.v 12) .nil))))) (.cons (.v 10) .nil)))) (.cons (.ret (.k (.bool false))) .nil) .nil) (.stop al9))))
noncomputable def aw1:ISs:=(.cons (.iff (.cmp .Eq (.itk (.v 1) 2) (.k (.int 0))) (.cons (.ret (.k (.bool true))) .nil) .nil) (.stop az3))
noncomputable def aD1:ISs:=(.cons (.asg 11 (.bin .Add (.comp [6] (.v 0) (.e (.itm (.v 7) (.v 5))) (.cons (.cmp .NotEq (.itk (.v 0) 0) (.v 1)) .nil)) (.lst (.cons (.tup (.cons (.v 6) (.cons (.call "_law_number" (.cons (.v 3) .nil)) .nil))) .nil)))) (.cons (.iff (.not (.call "_law_others_stay" (.cons (.v 9) (.cons (.call "history" (.cons (.v 2) (.cons (.bin .Add (.bin .Add (.slc (.v 7) (.k .none) (.v 5)) (.lst (.cons (.v 11) .nil))) (.slc (.v 7) (.bin .Add (.v 5) (.k (.int 1))) (.k .none))) (.cons (.v 8) .nil)))) (.cons (.v 10) .nil))))) (.cons (.ret (.k (.bool false))) .nil) .nil) (.stop aw1)))
noncomputable def ay2:ISs:=(.cons (.asg 10 (.call "_law_hangs" (.cons (.v 2) (.cons (.v 4) (.cons (.v 5) (.cons (.k (.str "paper")) (.cons (.v 6) .nil))))))) (.cons (.iff (.not (.call "_law_pairs" (.cons (.call "hanging" (.cons (.v 2) (.cons (.v 4) (.cons (.v 5) (.cons (.v 6) .nil))))) (.cons (.v 10) .nil)))) (.cons (.ret (.k (.bool false))) .nil) .nil) (.stop aD1)))
noncomputable def aI5:ISs:=(.cons (.asg 9 (.call "history" (.cons (.v 2) (.cons (.v 7) (.cons (.v 8) .nil))))) (.stop ay2))
noncomputable def av5:ISs:=(.cons (.asg 7 (.comp [1,3] (.call "_law_papers" (.cons (.v 2) (.cons (.itk (.v 1) 4) .nil))) (.r1 (.v 4)) .nil)) (.cons (.asg 8 (.comp [1,3] (.call "_law_taken" (.cons (.v 2) (.cons (.itk (.v 1) 2) .nil))) (.r1 (.v 4)) .nil)) (.stop aI5)))
noncomputable def aO6:ISs:=(.cons (.asg 1 (.call "_law_form" (.cons (.v 0) (.cons (.k (.int 16)) .nil)))) (.cons (.asg 2 (.call "form_of" (.cons (.itk (.v 1) 0) (.cons (.itk (.v 1) 1) (.cons (.itk (.v 1) 2) (.cons (.itk (.v 1) 3) .nil)))))) (.drop (.cons (.asg 3 (.lst (.cons (.call "_law_mixed" (.cons (.call "_law_cell_at" (.cons (.v 0) (.cons (.k (.int 2)) .nil))) (.cons (.k (.int 3)) .nil))) .nil))) (.cons (.asg 4 (.bin .Add (.k (.int 1)) (.call "_law_next" (.cons (.v 3) (.cons (.k (.int 4)) .nil))))) (.cons (.asg 5 (.call "_law_next" (.cons (.v 3) (.cons (.v 4) .nil)))) (.cons (.asg 6 (.itm (.bin .Add (.itk (.v 1) 4) (.lst (.cons (.k (.str "other")) .nil))) (.call "_law_next" (.cons (.v 3) (.cons (.bin .Add (.bi .len (.cons (.itk (.v 1) 4) .nil)) (.k (.int 1))) .nil))))) (.stop av5))))))))
theorem cb5:f8 tab "law" 66 (f3 pq 66) ["_law_script","_law_parts","_law_form_here","_law_state","_law_count","_law_year","_law_word","_law_years","_law_taken_here","_law_values","_law_hang","_law_others","_law_choice"] aO6 1=true:=by decide +kernel
theorem bZ9(N:Nm g){a0:V}(h:wSs g d q aO6 [some a0,none,none,none,none,none,none,none,none,none,none,none,none] M (e9 Q) (xK X)):c7 g (d+1) q "law" [a0] M Q X:=g6 N.tab N.prog cb5 (λz_ z_ z_=>vs1 λz_=>rfl) rfl h
end
theorem cl1:True:=by
 k_with_none
 k_with "mem"=>first | exact .head _ | exact .tail _ (.head _) | exact .tail _ (.tail _ (.head _)) | (simp;done)
 k_with "n"=>first | (with_reducible assumption) | (decide +kernel) | lia | (unfold s8;lia)
 k_with "heap"=>repeat (with_reducible first | assumption | apply c9 | refine i9 ?_ (by assumption) | refine aZ0 ?_ (by first | assumption | (apply Ne.symm;assumption)))
 k_with "len"=>first | (with_unfolding_all decide) | (simp;done) | (simp only[aN,List.length_nil,az];lia) | (simp;lia) | (refine ae bU2 ?_;simp;lia)
 k_with "side"=>first | k_extra "n" | k_extra "len" | ((first | refine .inl ?_ | refine .inr ?_);unfold s8;lia) | (refine⟨?_,?_,?_⟩<;>first | lia | k_extra "len")
 k_with "hyp"=>(intro kwh;first | (exact absurd rfl kwh) | ((try simp only[aN,List.length_nil] at kwh);first | (exfalso;lia) | (revert kwh;intro _)))
 k_with "s"=>first | (refine bH9 ?_;with_reducible first | apply aJ3 | apply au7 | apply bF3 | ((first | apply aU8 | apply bM3 | apply bK2 | apply bK5)<;>k_extra "hyp") | ((first | apply aQ2 | apply aU3)<;>intro kwh<;>first | (exact absurd rfl kwh) | (exact absurd kwh (by first | assumption | decide +kernel)) | (revert kwh;intro _)) | (apply bt3<;>intro _) | refine cg2 (by first | assumption | decide +kernel) ?_ | refine bV7 (by first | assumption | decide +kernel) ?_ | (apply Ite.mk<;>intro _)) | refine Req.mk (by k_extra "side") ?_ | (refine New.mk ?_;intro _ _) | (refine cf6 ?_;k_extra "call") | refine Look.mk _ (by k_extra "heap") ?_ | refine InR.l (Look.mk _ (by k_extra "heap") ?_) | refine InR.i _ rfl (LookI.mk _ (by k_extra "heap") ?_) | refine InR.s _ rfl (LookS.mk _ (by k_extra "heap") ?_) | refine ItR.l (LookR.mk _ (by k_extra "heap") ?_) | refine ItR.l (LookR.scr _ (by assumption) ?_) | refine ItR.d (LookI.mk _ (by k_extra "heap") ?_) | refine LookI.mk _ (by k_extra "heap") ?_ | refine LookS.mk _ (by k_extra "heap") ?_ | refine Hit.yes (by decide +kernel) ?_ | refine Hit.no (by decide +kernel) ?_ | refine PtR.l (Own.top ?_) | refine PtR.l (Own.mk _ (by k_extra "heap") ?_) | refine PtR.d (OwnI.top ?_) | refine PtR.d (OwnI.mk _ (by k_extra "heap") ?_) | refine OwnS.top ?_ | refine OwnS.mk _ (by k_extra "heap") ?_ | refine EqT.nil rfl rfl (by k_extra "n") ?_ | refine LookR.mk _ (by k_extra "heap") ?_ | refine LookR.scr _ (by assumption) ?_ | refine Own.top ?_ | refine Own.mk _ (by k_extra "heap") ?_ | (refine bH6 ?_ ?_ ?_;lia;k_extra "len") | (with_reducible apply bB7) | (with_reducible apply bV8;k_extra "hyp") | refine RJ.next (by assumption) ?_ | refine CJ.next (by assumption) ?_
 k_with "w"=>repeat' (k_extra "s")
 trivial
section
variable{g:G}{d:Nat}{M:Hp}{Q:V->Hp->Prop}{X:Str->Hp->Prop}
theorem O6(N:Nm g){v:V}{lo hi:Int}(ok:Ok M v)(h:Q (.bool (m8 v lo hi)) M):c7 g (d+1) true "is_from" [v,.int lo,.int hi] M Q X:=by
 refine bo6 N ?_;cases v with
 | int n=>
  k_extra "w";all_goals exact d0 (by simpa[m8, *] using h)
 | ref a=>
  refine c5 (ok a rfl) λl hl=>?_
  k_extra "w";all_goals exact d0 h
 | _=>
  k_extra "w";all_goals exact d0 h
open Internal renaming O6->y1
theorem cl6:True:=by
 k_with "call"=>refine y1 (by assumption) (by first | assumption | (intro _ e;cases e)) ?_
 trivial
theorem T4(N:Nm g){v:V}(ok:Ok M v)(h:Q (.bool (m8 v (0-1000000000) 1000000000)) M):c7 g (d+2) true "is_number" [v] M Q X:=by
 refine bK6 N ?_;k_extra "w";all_goals exact d0 h
open Internal renaming T4->y2
theorem ck8:True:=by
 k_with "call"=>refine y2 (by assumption) (by first | assumption | (intro _ e;cases e)) ?_
 trivial
theorem aL1(N:Nm g){v:V}(ok:Cld M v)(h:Q (.bool (F6 v)) M):c7 g (d+1) true "is_word" [v] M Q X:=by
 refine aQ9 N ?_;cases v with
 | str x=>
  have hz:=ok.strz;k_extra "w"
  ·refine CLoop.g (λrest acc M'=>M=M'/\∃ done todo,x.cps.toList=done++todo/\rest=todo.map (λc=>.str ⟨#[c]⟩)/\acc=(done.map λc=>Txt.contains E5 ⟨#[c]⟩).map .bool) ?_ ⟨rfl,[],_,rfl,rfl,rfl⟩ (λJ hJ=>?_) ?_
   ·rw[aa4];exact ae hz (by decide)
   ·rintro v l acc _ hh_;obtain⟨rfl,done,todo,e,hr,rfl⟩:=hh_
    refine⟨trivial,?_⟩;cases todo with
    | nil=>cases hr
    | cons c todo=>
     cases hr;k_extra "w";exact hJ ⟨rfl,done++[c],todo,by simp[e],rfl,by simp;rfl⟩
   ·rintro acc _ hh_;obtain⟨rfl,done,todo,e,hr,rfl⟩:=hh_
    refine⟨trivial,λa hn=>?_⟩
    cases todo with
    | cons=>cases hr
    | nil=>
     k_extra "w";refine AllB.mk _ (c9 _ _ _) ?_;refine t9 (Sub.upd hn) ?_;have e2:x.cps.toList=done:=by simpa using e
     have:F6 (.str x)=(done.map λc=>Txt.contains E5 ⟨#[c]⟩).all id:=by
      show j7 x=_;unfold j7;rw[e2,fJ];have h1:decide (1<=x.length)=true:=by simp;lia
      have h2:decide (x.length<=8)=true:=by simp;lia
      simp only[h1,h2,fh];rfl
     rw[<- this];exact h
  all_goals
   have e:F6 (.str x)=false:=by
    unfold F6 j7;have:¬ (1<=x.length)∨¬ (x.length<=8):=by lia
    rcases this with q | q<;>simp[q]
   rw[e] at h;exact d0 h
 | ref a=>
  refine c5 (ok.ok a rfl) λl hl=>?_
  k_extra "w";all_goals exact d0 h
 | _=>
  k_extra "w";all_goals exact d0 h
end
section
variable{g:G}{d:Nat}{M:Hp}{Q:V->Hp->Prop}{X:Str->Hp->Prop}
set_option tactic.hygienic true in
theorem aC7(N:Nm g){w:Str}{args:List V}(hz:args.length<=100)(h1:w = "part"->1<=args.length)(h:∀ b,M b=none->Q (.ref b) (upd M b (.lst (f4 w args)))):c7 g (d+1) true "within" [.tup (.str w::args)] M Q X:=by
 refine aU4 N ?_;k_extra "w"
 ·rename_i hl b hb
  refine d0 ?_;have e:f4 w args=[]:=if_pos hl;rw[<- e];exact h b hb
 ·rename_i hl hw
  subst hw;cases args with
  | nil=>have:=h1 rfl;simp at this
  | cons x l=>
   k_extra "w";rename_i b hb;refine d0 ?_;have e:=G1 (x::l);rw[<- show f4 "part" (x::l)=[x] from e];exact h b hb
 ·rename_i hl hp hw b hb
  refine d0 ?_;subst hw;rw[aA4,<- G3];exact h b hb
 ·rename_i hl hp hw hw' b hb
  refine d0 ?_;subst hw';rw[aA4,<- v7];exact h b hb
 ·rename_i hl hp hw hw' b hb
  refine d0 ?_;have e:f4 w args=args:=by
   unfold f4;rw[if_neg (by rw[show Y5 w=false from hl];decide),if_neg (by simpa using hp),if_neg (by simp[hw,hw'])]
  rw[aE4,<- e];exact h b hb
open Internal renaming T4->y3,O6->y4,aL1->y5
theorem cl7:True:=by
 k_with "call"=>first | refine y3 (by assumption) (Cld.ok (by assumption)) ?_ | refine y4 (by assumption) (Cld.ok (by assumption)) ?_ | refine y5 (by assumption) (by assumption) ?_
 trivial
theorem O1(N:Nm g){w:Str}{args:List V}{z:Lim}(h1:w≠Str.ofString "number")(h2:w≠Str.ofString "paper")(h3:w≠Str.ofString "line")(h4:w≠Str.ofString "earlier")(h5:w≠Str.ofString "part")(h6:w≠Str.ofString "table")(h7:w≠Str.ofString "choose")(h:Q (.bool true) M):c7 g (d+3) true "is_fitting" [.tup (.str w::args),.int z.L,.int z.T,.int z.C] M Q X:=by
 refine G4 N ?_;k_extra "w";exact d0 h
theorem bQ1(N:Nm g){w:Str}{args:List V}{z:Lim}(hc:Cld M (.tup (.str w::args)))(hs:siz w=some ((args.length:Int)+1))(h:Q (.bool (fit z w args)) M):c7 g (d+3) true "is_fitting" [.tup (.str w::args),.int z.L,.int z.T,.int z.C] M Q X:=by
 refine c6 hc.tups λhz hx=>?_
 have hm:=S7 hs;simp only[szs,au,Prod.mk.injEq,aO,or_false] at hm
 rcases hm with ⟨rfl,hn⟩ | ⟨rfl,hn⟩ | ⟨rfl,hn⟩ | ⟨rfl,hn⟩ | ⟨rfl,hn⟩ | ⟨rfl,hn⟩ | ⟨rfl,hn⟩ | ⟨rfl,hn⟩ | ⟨rfl,hn⟩ | ⟨rfl,hn⟩ | ⟨rfl,hn⟩ | ⟨rfl,hn⟩
 ·obtain⟨x,rfl⟩:=w7 (l:=args) (by lia)
  have kx:=hx x (by k_extra "mem")
  refine G4 N ?_;k_extra "w";exact d0 (by rw[V6] at h;exact h)
 ·obtain⟨x,rfl⟩:=w7 (l:=args) (by lia)
  have kx:=hx x (by k_extra "mem")
  refine G4 N ?_;k_extra "w";exact d0 (by rw[P5] at h;exact h)
 ·obtain⟨x,rfl⟩:=w7 (l:=args) (by lia)
  have kx:=hx x (by k_extra "mem")
  refine G4 N ?_;k_extra "w";exact d0 (by rw[P8] at h;exact h)
 ·obtain⟨x,rfl⟩:=w7 (l:=args) (by lia)
  have kx:=hx x (by k_extra "mem")
  refine G4 N ?_;k_extra "w";exact d0 (by rw[P4] at h;exact h)
 ·exact O1 N (by decide +kernel) (by decide +kernel) (by decide +kernel) (by decide +kernel) (by decide +kernel) (by decide +kernel) (by decide +kernel) (by rw[az2] at h;exact h)
 ·exact O1 N (by decide +kernel) (by decide +kernel) (by decide +kernel) (by decide +kernel) (by decide +kernel) (by decide +kernel) (by decide +kernel) (by rw[aI7] at h;exact h)
 ·exact O1 N (by decide +kernel) (by decide +kernel) (by decide +kernel) (by decide +kernel) (by decide +kernel) (by decide +kernel) (by decide +kernel) (by rw[ap0] at h;exact h)
 ·exact O1 N (by decide +kernel) (by decide +kernel) (by decide +kernel) (by decide +kernel) (by decide +kernel) (by decide +kernel) (by decide +kernel) (by rw[at3] at h;exact h)
 ·obtain⟨x,y,rfl⟩:=F4 (l:=args) (by lia)
  have kx:=hx y (by k_extra "mem")
  refine G4 N ?_;k_extra "w";exact d0 (by rw[X4] at h;exact h)
 ·obtain⟨x,y,rfl⟩:=F4 (l:=args) (by lia)
  have kx:=hx x (by k_extra "mem")
  refine G4 N ?_;k_extra "w";exact d0 (by rw[R8] at h;exact h)
 ·exact O1 N (by decide +kernel) (by decide +kernel) (by decide +kernel) (by decide +kernel) (by decide +kernel) (by decide +kernel) (by decide +kernel) (by rw[aa8] at h;exact h)
 ·obtain⟨x,y,t,rfl⟩:=J9 (l:=args) (by lia)
  have kx:=hx x (by k_extra "mem")
  refine G4 N ?_;k_extra "w";exact d0 (by rw[Ma2] at h;exact h)
end
section
variable{g:G}{d:Nat}{X:Str->Hp->Prop}
open Internal renaming bQ1->y6,aC7->y7
theorem ck7:True:=by
 k_with "call"=>first | refine y6 (by assumption) (by assumption) (by assumption) ?_ | (refine y7 (by assumption) (by assumption) (by assumption) ?_;intro _ _)
 trivial
set_option tactic.hygienic true in
theorem bc3(N:Nm g){z:Lim}:∀ (n:Nat) {r:Int} {v:V} {M:Hp} {Q:V->Hp->Prop},r=(n:Int)->Cld M v->Q (.bool (ok z n v)) M->c7 g (d+n+4) true "is_one" [v,.int r,.int z.L,.int z.T,.int z.C] M Q X:=by
 intro n;induction n with
 | zero=>
  intro r v M Q hr hc h;refine aO1 N ?_;k_extra "w";exact d0 h
 | succ n ih=>
  intro r v M Q hr hc h;refine aO1 N ?_;cases v with
  | tup l=>
   refine c6 hc.tups λhz hx=>?_
   cases l with
   | nil=>
    k_extra "w";exact d0 h
   | cons x args=>
    have kx:=hx x (by k_extra "mem")
    have hz':args.length<=100:=by simp at hz;lia
    cases x with
    | str w=>
     k_extra "w";cases hsz:siz w with
     | none=>
      refine DGet.none hsz ?_;k_extra "w";refine d0 ?_;have e:ok z (n+1) (.tup (.str w::args))=false:=by rw[L0,hsz];rfl
      rw[e] at h;exact h
     | some k=>
      refine DGet.some k hsz ?_;k_extra "w"
      ·rename_i hk
       refine d0 ?_;have e:ok z (n+1) (.tup (.str w::args))=false:=by
        have:¬ (k=(args.length:Int)+1):=λq=>hk (by simp[q])
        rw[L0,hsz,show(some k==some ((args.length:Int)+1))=false from beq_eq_false_iff_ne.mpr λq=>this (Option.some.inj q)];rfl
       rw[e] at h;exact h
      ·rename_i hk
       have hk':siz w=some ((args.length:Int)+1):=by rw[hsz,hk];simp
       have hp:w = "part"->1<=args.length:=λe=>by
        subst e;rw[aA7] at hk';injection hk' with hk';lia
       k_extra "w"
       ·rename_i hf b hb
        refine LoopR.tmp hb (Loop.g (λrest Z' M'=>M=M'/\(f4 w args).all (ok z n)=rest.all (ok z n)/\(∀ x∈rest,Cld M x)/\∃ o,Z'=[some (.tup (.str w::args)),some (.int r),some (.int z.L),some (.int z.T),some (.int z.C),o]) ⟨rfl,rfl,λx hx'=>hx x (aP _ (al7 hx')),none,rfl⟩ (λR J hR hJ=>?_) ?_)
        ·rintro v rest _ _ hh_;obtain⟨rfl,h1,h2,o,rfl⟩:=hh_
         refine⟨trivial,?_⟩;have kv:=h2 v (by k_extra "mem")
         k_extra "w";refine ih (by k_extra "n") kv ?_
         k_extra "w"
         ·rename_i hv
          exact hJ ⟨rfl,by rw[h1,fi,hv,fh],λx hx=>h2 x (.tail _ hx),_,rfl⟩
         ·rename_i hv
          refine hR<|d0 ?_
          have e:ok z (n+1) (.tup (.str w::args))=false:=by rw[L0,h1,fi,hv,db,dK]
          rw[e] at h;exact h
        ·rintro _ _ hh_;obtain⟨rfl,h1,h2,o,rfl⟩:=hh_
         refine⟨trivial,?_⟩;k_extra "w";refine d0 ?_;have e:ok z (n+1) (.tup (.str w::args))=true:=by rw[L0,hk',hf,h1,beq_self_eq_true];rfl
         rw[e] at h;exact h
       ·rename_i hf
        refine d0 ?_;have e:ok z (n+1) (.tup (.str w::args))=false:=by rw[L0,hf,dK,db]
        rw[e] at h;exact h
    | ref a=>
     refine c5 (kx.ok a rfl) λl hl=>?_
     k_extra "w";all_goals exact d0 h
    | _=>
     k_extra "w";all_goals exact d0 h
  | ref a=>
   refine c5 (hc.ok a rfl) λl hl=>?_
   k_extra "w";all_goals exact d0 h
  | _=>
   k_extra "w";all_goals exact d0 h
end
theorem aX7{w:Str}{n:Nat}(h:siz w=some ((n:Int)+1)):n<=100/\1<=n:=by
 have:2<=(n:Int)+1/\(n:Int)+1<=4:=(show ∀ p∈szs,2<=p.2/\p.2<=4 by decide +kernel) _ (S7 h)
 lia
section
variable{g:G}{d:Nat}{X:Str->Hp->Prop}
theorem bN7(N:Nm g){z:Lim}{v:V}{M:Hp}{Q:V->Hp->Prop}(hc:Cld M v)(h:Q (.bool (ok z 8 v)) M):c7 g (d+13) true "is_rule" [v,.int z.L,.int z.T,.int z.C] M Q X:=by
 refine by5 N ?_;k_extra "w";refine bc3 N 8 rfl hc ?_;exact d0 h
open Internal renaming aC7->y8
theorem ck2:True:=by
 k_with "call"=>(refine y8 (by assumption) (by assumption) (by assumption) ?_;intro _ _)
 trivial
set_option tactic.hygienic true in
theorem aU7(N:Nm g){z:Lim}{u:Str}:∀ (n:Nat) {v:V} {M:Hp} {Q:V->Hp->Prop},ok z n v=true->(d5 n v u).length<=100->(∀ b,M b=none->Q (.ref b) (upd M b (.lst (d5 n v u))))->c7 g (d+n+2) true "gathered" [v,.str u] M Q X:=by
 intro n;induction n with
 | zero=>intro v M Q hk;exact ff hk
 | succ n ih=>
  intro v M Q hk hl h;refine p8 (I6 hk) λw args q1_=>?_;subst q1_
  refine z8 (D4 hk) λm hm hs _ hin=>?_
  obtain rfl:n=m:=by lia
  have hsz:=aX7 hs;refine c6 hsz λhz h1=>?_
  have hp:w = "part"->1<=args.length:=λ_=>h1
  refine aV9 N ?_;refine New.mk ?_;intro b hb;have k2:wSs g (d+n+2) true aI4 [some (.tup (.str w::args)),some (.str u),some (.ref b),none] (upd M b (.lst (if w==u then[arg args 0] else[]))) (e9 Q) (xK X):=by
   k_extra "w";rename_i t ht;refine LoopR.tmp ht (Loop.g (λrest Z' M'=>∃ c L o,M c=none/\M'=upd M c (.lst L)/\L++(rest.map λr=>d5 n r u).flatten=d5 (n+1) (.tup (.str w::args)) u/\(∀ x∈rest,ok z n x=true)/\Z'=[some (.tup (.str w::args)),some (.str u),some (.ref c),o]) ⟨b,_,none,hb,rfl,by rw[B6],hin,rfl⟩ (λR J hR hJ=>?_) ?_)
   ·rintro v rest _ _ hh_;refine M0 hh_ λc L o hc q1_ hL hok q2_=>?_;clear hh_;subst q1_;subst q2_
    refine⟨trivial,?_⟩;have hlen:L.length+(d5 n v u).length<=100:=by
     have:=congrArg List.length hL;simp only[dR,List.flatten_cons,az] at this
     lia
    k_extra "w";refine ih (hok v (by k_extra "mem")) (by k_extra "n") λe he=>?_
    have hec:e≠c:=λq=>by rw[q,c9] at he;cases he
    k_extra "w";rename_i f hf;refine c6 (j5 hf) λhfe hf'=>?_
    refine c6 (j5 hf') λhfc hf''=>?_
    refine Drop.mk (B5 ((Sub.upd hc).trans (Sub.upd he))) ?_;exact hJ ⟨f,_,_,hf'',rfl,by rw[<- hL];simp,λx hx=>hok x (.tail _ hx),rfl⟩
   ·rintro _ _ hh_;refine M0 hh_ λc L o hc q1_ hL hok q2_=>?_;clear hh_;subst q1_;subst q2_
    refine⟨trivial,?_⟩;k_extra "w";refine d0 ?_;have e:L=d5 (n+1) (.tup (.str w::args)) u:=by rw[<- hL];simp
    rw[e];exact h c hc
  cases args with
  | nil=>simp at h1
  | cons x args=>
   k_extra "w"
   ·rename_i e
    refine Stop.mk ?_;rw[if_pos (by simp[e])] at k2;exact k2
   ·rename_i e
    refine Stop.mk ?_;rw[if_neg (by simp[e])] at k2;exact k2
theorem ad1(N:Nm g){z:Lim}{u:Str}{n:Nat}{v:V}{M:Hp}{Q:V->Hp->Prop}(hk:ok z n v=true)(hl:(d5 n v u).length<64)(hs:SK (d5 n v u))
  (h:∀ b L,M b=none->Srt L->(∀ y,y∈L↔y∈d5 n v u)->Q (.ref b) (upd M b (.lst L))):c7 g (d+n+3) true "named" [v,.str u] M Q X:=by
 refine bR3 N ?_;k_extra "w";refine aU7 N n hk (by k_extra "n") λb hb=>?_
 refine SSet.mk _ (c9 _ _ _) hs hl λc L hc hS hm=>?_
 k_extra "w";refine c6 (j5 hc) λhcb hc'=>?_
 exact t9 (B5 (Sub.upd hb)) (h c L hc' hS hm)
end
section
variable{g:G}{d:Nat}{M:Hp}{Q:V->Hp->Prop}{X:Str->Hp->Prop}
theorem aJ0(N:Nm g){a:Addr}{ns:List Int}{k:Int}(hs:Scr g a ns)(hl:ns.length<=100)(h0:0<=k)(h1:k<100)(h:∀ x,Q (.int x) M):c7 g (d+1) true "_law_cell_at" [.ref a,.int k] M Q X:=by
 refine bR2 N ?_;k_extra "w"
 ·refine Idx.mk h0 (by assumption) (by k_extra "n") λx e=>?_
  rw[aw] at e;refine a9 (aJ.mp e) λy z_ q1_=>?_;subst q1_
  exact d0 (h _)
 ·exact d0 (h _)
theorem aD3(N:Nm g){c k:Int}(hk:s8 k)(h:∀ x,0<=x->x<2147483647->Q (.int x) M):c7 g (d+1) true "_law_mixed" [.int c,.int k] M Q X:=by
 refine bf1 N ?_;k_extra "w";exact d0 (h _ (by k_extra "n") (by k_extra "n"))
theorem K3(N:Nm g){st:Addr}{n k:Int}(h0:0<=n)(h1:n<2147483647)(hk:0<k)(hk':k<2 ^ 60)(h:∀ r n',0<=r->r<k->0<=n'->n'<2147483647->Q (.int r) (upd M st (.lst [.int n']))) :
  c7 g (d+1) true "_law_next" [.ref st,.int k] (upd M st (.lst [.int n])) Q X:=by
 refine aT2 N ?_;k_extra "w";exact d0 (h _ _ (Int.emod_nonneg _ (by k_extra "n")) (Int.emod_lt_of_pos _ hk) (by k_extra "n") (by k_extra "n"))
open Internal renaming K3->y9
theorem cl9:True:=by
 k_with "call"=>(refine y9 (by assumption) (by k_extra "n") (by k_extra "n") (by k_extra "n") (by k_extra "n") ?_;intro _ _ _ _ _ _)
 trivial
theorem av3(N:Nm g){st:Addr}{n:Int}(h0:0<=n)(h1:n<2147483647)(h:∀ r n',-1000000000<=r->r<=1000000000->0<=n'->n'<2147483647->Q (.int r) (upd M st (.lst [.int n']))) :
  c7 g (d+2) true "_law_number" [.ref st] (upd M st (.lst [.int n])) Q X:=by
 refine bD8 N ?_;k_extra "w";all_goals exact d0 (h _ _ (by k_extra "n") (by k_extra "n") (by k_extra "n") (by k_extra "n"))
theorem aS2(N:Nm g){st b:Addr}{lo:List V}{n k:Int}(hf:M b=none)(hne:b≠st)(h0:0<=n)(h1:n<2147483647)(hk:0<k)(hk':k<2 ^ 60)(h:∀ r n',0<=r->r<k->0<=n'->n'<2147483647->Q (.int r) (upd (upd M st (.lst [.int n'])) b (.lst lo))) :
  c7 g (d+1) true "_law_next" [.ref st,.int k] (upd (upd M st (.lst [.int n])) b (.lst lo)) Q X:=
 ((K3 (Q:=λv M'=>∃ r n',v=.int r/\0<=r/\r<k/\0<=n'/\n'<2147483647/\M'=upd M st (.lst [.int n'])) N h0 h1 hk hk' λr n' a b c e=>⟨r,n',rfl,a,b,c,e,rfl⟩).under (N6 hf hne)).mono (by
  rintro _ _ hh_;obtain⟨_,rfl,_,r,n',rfl,a,b,c,e,rfl⟩:=hh_;exact h r n' a b c e)
theorem G6(N:Nm g){st:Addr}{n k:Int}(hst:M st=some (.lst [.int n]))(h0:0<=n)(h1:n<2147483647)(hk:0<k)(hk':k<2 ^ 60)(h:∀ r n',0<=r->r<k->0<=n'->n'<2147483647->Q (.int r) (upd M st (.lst [.int n']))) :
  c7 g (d+1) true "_law_next" [.ref st,.int k] M Q X:=by
 have:=K3 (d:=d) (M:=M) (Q:=Q) (X:=X) N (st:=st) h0 h1 hk hk' h;rw[L7 hst] at this;exact this
end
theorem bd7{a:Int}{L:Nat}(h0:0<=a)(h8:a<8)(e:L<=8-(a+1).toNat):a.toNat+1+L<=8:=by
 obtain⟨k,rfl⟩:=bv h0;exact gm (eL.mp h8) e
section
variable{g:G}{d:Nat}{M:Hp}{Q:V->Hp->Prop}{X:Str->Hp->Prop}
open Internal renaming aS2->y10,K3->y11
theorem ck9:True:=by
 k_with "call"=>first | (refine y10 (by assumption) (by assumption) (by assumption) (by k_extra "n") (by k_extra "n") (by k_extra "n") (by k_extra "n") ?_;intro _ _ _ _ _ _) | (refine y11 (by assumption) (by k_extra "n") (by k_extra "n") (by k_extra "n") (by k_extra "n") ?_;intro _ _ _ _ _ _)
 trivial
set_option tactic.hygienic true in
theorem bG9(N:Nm g){st:Addr}{n:Int}(h0:0<=n)(h1:n<2147483647)(h:∀ b (ws:List Str) n',b≠st->M b=none->5<=ws.length->ws.length<=8->(∀ x∈ws,j7 x=true)->0<=n'->n'<2147483647->Q (.ref b) (upd (upd M st (.lst [.int n'])) b (.lst (ws.map .str)))) :
  c7 g (d+2) true "_law_words" [.ref st] (upd M st (.lst [.int n])) Q X:=by
 have h26:(Str.ofString "abcdefghijklmnopqrstuvwxyz").length=26:=by decide +kernel
 refine bt2 N ?_;k_extra "w";refine A6 (λi Z' M'=>∃ (base:Str) (n:Int) (k:Option V),Let base/\base.length=i/\0<=n/\n<2147483647/\M'=upd M st (.lst [.int n])/\Z'=[some (.ref st),some (.str (Str.ofString "abcdefghijklmnopqrstuvwxyz")),some (.str base),k,none,none]) ⟨Str.ofString "",n,none,Let.nil,rfl,h0,h1,rfl,rfl⟩ (λR J hR hJ=>?_) ?_
 ·rintro i _ _ hi hh_;refine aB3 hh_ λbase n k hlet hlen hn hn' q1_ q2_=>?_;clear hh_;subst q1_;subst q2_
  k_extra "w";refine IdxS.mk (by k_extra "n") (by rw[h26];lia) (by k_extra "n") λc hc=>?_
  have hc1:(⟨#[c]⟩:Str).length=1:=rfl;k_extra "w";exact hJ ⟨_,_,_,hlet.app (aJ5 hc),by rw[ag4,hlen,hc1],by lia,by lia,rfl,rfl⟩
 clear h0 h1 n;rintro _ _ hh_;refine aB3 hh_ λbase n k hlet hlen h0 h1 q1_ q2_=>?_;clear hh_;subst q1_;subst q2_
 have hlen:base.length=8:=hlen;k_extra "w";rename_i r n' _ _ _ _ b hb;refine c6 (j5 hb) λhne hb'=>?_
 have hw:∀ x∈[sls none (some (1+r)) base,base],j7 x=true:=by
  intro x hx;simp only[au,aO,or_false] at hx
  rcases hx with rfl | rfl
  ·have:=am5 (x:=base) (j:=1+r) (by k_extra "n") (by k_extra "n")
   exact(hlet.sls _ _).word (by rw[this];lia) (by rw[this];lia)
  ·exact hlet.word (by k_extra "n") (by k_extra "n")
 refine A6 (λi Z' M'=>∃ (ws:List Str) (n:Int) (k a:Option V),ws.length=2+i/\(∀ x∈ws,j7 x=true)/\0<=n/\n<2147483647/\M'=upd (upd M st (.lst [.int n])) b (.lst (ws.map .str))/\Z'=[some (.ref st),some (.str (Str.ofString "abcdefghijklmnopqrstuvwxyz")),some (.str base),k,some (.ref b),a]) ⟨[sls none (some (1+r)) base,base],n',k,none,rfl,hw,by assumption,by assumption,rfl,rfl⟩ (λR J hR hJ=>?_) ?_
 ·rintro i _ _ hi hh_;refine ao8 hh_ λws n k a hl hw h0 h1 q1_ q2_=>?_;clear hh_;subst q1_;subst q2_
  k_extra "w";rename_i at' n1 ha0 ha8 _ _ r2 n2 _ _ _ _;have e1:=am5 (x:=base) (j:=at') (by k_extra "n") (by k_extra "n")
  refine IdxS.mk (by k_extra "n") (by rw[h26];lia) (by k_extra "n") λc hc=>?_
  have hc1:(⟨#[c]⟩:Str).length=1:=rfl;have hl1:=ag4 (sls none (some at') base) ⟨#[c]⟩;k_extra "w";rename_i r3 n3 _ _ _ _;have e3:=bb5 (x:=base) (i:=at'+1) (j:=1+at'+r3) (by k_extra "n") (by k_extra "n")
  have hs1:(sls none (some at') base++⟨#[c]⟩).length=at'.toNat+1:=by rw[hl1,e1,hc1]
  have w3:=bd7 ha0 ha8 (hlen▸e3);refine Req.mk (by rw[hs1];exact ae w3 (by decide)) ?_
  have hl2:=ag4 (sls none (some at') base++⟨#[c]⟩) (sls (some (at'+1)) (some (1+at'+r3)) base);rw[hs1] at hl2;have hz:(ws.map V.str).length<=10000:=by rw[ac];lia
  k_extra "w";refine hJ ⟨ws++[_],_,_,_,?_,?_,by assumption,by assumption,by rw[av];rfl,rfl⟩
  ·rw[az,hl];simp;lia
  ·intro x hx
   rcases aq.mp hx with hx | hx
   ·exact hw x hx
   ·simp only[au,aO,or_false] at hx
    subst hx;exact(((hlet.sls _ _).app (aJ5 hc)).app (hlet.sls _ _)).word (by rw[hl2];exact ae (aQ 1 _) (aY _ _)) (by rw[hl2];exact w3)
 ·rintro _ _ hh_;refine ao8 hh_ λws n k a hl hw h0 h1 q1_ q2_=>?_;clear hh_;subst q1_;subst q2_
  have hl:ws.length=5:=hl;k_extra "w";rename_i t ht;refine c6 (j5 ht) λht1 ht2=>?_
  refine c6 (j5 ht2) λht3 ht4=>?_
  refine G6 N (n:=n) (by k_extra "heap") h0 h1 (by k_extra "n") (by k_extra "n") λr n' hr hr' hn hn'=>?_
  refine Look.mk _ (by k_extra "heap") ?_
  refine Req.mk (by decide) ?_
  refine New.mk λe he=>?_
  have hs:slc none (some r) [V.str (Str.ofString "line"),V.str (Str.ofString "paper"),V.str (Str.ofString "add")]=([(Str.ofString "line"),Str.ofString "paper",Str.ofString "add"].take r.toNat).map V.str:=by
   rw[Z7 hr,gG];rfl
  rw[hs];have hlt:([(Str.ofString "line"),Str.ofString "paper",Str.ofString "add"].take r.toNat).length<=3:=by rw[cG];exact cm _ _
  refine Look.mk (ws.map .str) (i9 (by k_extra "heap") he) ?_
  refine Look.mk _ (c9 _ _ _) ?_;refine Req.mk (by simp only[ac];lia) ?_
  refine New.mk λf hf=>?_
  rw[<- av];k_extra "w";refine c6 (j5 hf) λhf1 hf2=>?_
  refine c6 (j5 hf2) λhf3 hf4=>?_
  refine c6 (j5 hf4) λhf5 hf6=>?_
  refine c6 (j5 hf6) λhf7 hf8=>?_
  refine c6 (j5 hf8) λhf9 hf10=>?_
  refine t9 (B5 (Sub.trans (bR4 λc o hc hM=>?_) (Sub.upd he))) (h f (ws++[(Str.ofString "line"),Str.ofString "paper",Str.ofString "add"].take r.toNat) n' hf3 hf10 (by simp;lia) (by simp only[az];lia) ?_ hn hn')
  ·rw[d6 _ _ (l7 hM ht4),d6 _ _ (l7 hM hb'),d6 _ _ hc];exact hM
  ·intro x hx
   rcases aq.mp hx with hx | hx
   ·exact hw x hx
   ·have:=bx hx
    simp only[au,aO,or_false] at this
    rcases this with rfl | rfl | rfl
    ·exact aV8
    ·exact bt8
    ·exact bk4
end
section
variable{g:G}{d:Nat}{M:Hp}{Q:V->Hp->Prop}{X:Str->Hp->Prop}
open Internal renaming K3->y12,av3->y13
theorem cl2:True:=by
 k_with "call"=>first | (refine y12 (by assumption) (by k_extra "n") (by k_extra "n") (by k_extra "n") (by k_extra "n") ?_;intro _ _ _ _ _ _) | (refine y13 (by assumption) (by k_extra "n") (by k_extra "n") ?_;intro _ _ _ _ _ _)
 trivial
structure Src(M:Hp)(st sl wl:Addr)(z:Lim)(seen:List Int)(ws:List Str):Prop where
 hs:M sl=some (.lst (seen.map .int))
 sne:sl≠st
 hw:M wl=some (.lst (ws.map .str))
 wne:wl≠st
 sz:(seen.map V.int).length<=100
 wz:(ws.map V.str).length<=100
 w1:1<=(ws.map V.str).length
 L:1<=z.L
 L':z.L<=100
 T:0<=z.T
 T':z.T<=100
 C:0<=z.C
 C':z.C<=100
theorem aJ7(N:Nm g){st sl wl:Addr}{n:Int}{z:Lim}{seen:List Int}{ws:List Str}(S:Src M st sl wl z seen ws)(h0:0<=n)(h1:n<2147483647)
  (h:∀ r n',GR z (·∈seen) (·∈ws) 1 r->0<=n'->n'<2147483647->Q r (upd M st (.lst [.int n']))) :
  c7 g (d+3) true "_law_plain" [.ref st,.ref sl,.tup [.int z.L,.int z.T,.int z.C],.ref wl] (upd M st (.lst [.int n])) Q X:=by
 obtain⟨hs,sne,hw,wne,sz,wz,w1,L,L',T,T',C,C'⟩:=S;refine bg7 N ?_;k_extra "w"
 ·exact d0 (h _ _ (.num (by k_extra "n") (by k_extra "n")) (by assumption) (by assumption))
 ·refine Idx.mk (by k_extra "n") (by k_extra "n") (by k_extra "n") λx hx=>?_
  refine a9 (U3 hx) λi hi q1_=>?_;subst q1_
  k_extra "w";exact d0 (h _ _ (.line hi) (by assumption) (by assumption))
 ·refine Idx.mk (by k_extra "n") (by k_extra "n") (by k_extra "n") λx hx=>?_
  refine a9 (U3 hx) λi hi q1_=>?_;subst q1_
  k_extra "w";exact d0 (h _ _ (.paper hi) (by assumption) (by assumption))
 ·exact d0 (h _ _ (.earlier (by k_extra "n") (by k_extra "n")) (by assumption) (by assumption))
 ·refine Idx.mk (by k_extra "n") (by k_extra "n") (by k_extra "n") λx hx=>?_
  refine a9 (U3 hx) λi hi q1_=>?_;subst q1_
  k_extra "w";exact d0 (h _ _ (.paper hi) (by assumption) (by assumption))
theorem ad5{e:Int}{k:Nat}(he:e=((k+1+1:Nat):Int)):min (e-1) 2=((min (k+1) 2-1+1:Nat):Int):=by
 subst he;cases k with
 | zero=>decide
 | succ k=>
  rw[dh (aQ 2 k),Int.min_eq_right (by lia)];rfl
theorem S4{k:Nat}:min (k+1) 2-1<k+1:=fj (cc (be _ _) 1)
theorem aa2{k:Nat}(h:k+1<8):min (k+1) 2-1<8:=bO S4 h
theorem ac9{k:Nat}:min (k+1) 2-1+1=min (k+1) 2:=fb (fw.mpr ⟨aQ 1 k,by decide⟩)
theorem ah6{d k:Nat}:0+(min (k+1) 2-1)+5<=d+(k+1)+4:=by
 rw[bC];exact ae (cf (aR S4) 5) (cf (aQ (k+1) d) 4)
set_option tactic.hygienic true in
theorem be9(N:Nm g){st sl wl:Addr}{z:Lim}{seen:List Int}{ws:List Str}(S:Src M st sl wl z seen ws):∀ (m:Nat) {n e:Int} {d:Nat} {Q:V->Hp->Prop},e=((m+1:Nat):Int)->m<8->0<=n->n<2147483647->
  (∀ r n',GR z (·∈seen) (·∈ws) (m+1) r->0<=n'->n'<2147483647->Q r (upd M st (.lst [.int n'])))->
  c7 g (d+m+5) true "_law_rule" [.ref st,.int e,.ref sl,.tup [.int z.L,.int z.T,.int z.C],.ref wl] (upd M st (.lst [.int n])) Q X:=by
 intro m;induction m using fQ with
 | ind m ih=>
 intro n e d Q he hm h0 h1 h;have hT:=S.T;have hT':=S.T';have hC:=S.C;have hC':=S.C';refine bW7 N ?_;cases m with
 | zero=>
  k_extra "w";refine aJ7 N S (by k_extra "n") (by k_extra "n") λr n' hr hn hn'=>?_
  k_extra "w";exact d0 (h _ _ hr hn hn')
 | succ k=>
  k_extra "w"
  ·refine aJ7 N S (by k_extra "n") (by k_extra "n") λr n' hr hn hn'=>?_
   k_extra "w";exact d0 (h _ _ (hr.le (by k_extra "n")) hn hn')
  ·rename_i kind n1 hk0 hk12 hn1 hn1' hd hk
   refine ih k (by k_extra "n") (by k_extra "n") (by k_extra "n") hn1 hn1' λone n2 hone hn2 hn2'=>?_
   k_extra "w"
   ·exact d0 (h _ _ (.part hone (by k_extra "n") (by k_extra "n")) (by assumption) (by assumption))
   ·exact d0 (h _ _ (.part hone (by k_extra "n") (by k_extra "n")) (by assumption) (by assumption))
   ·exact d0 (h _ _ (.part hone (by k_extra "n") (by k_extra "n")) (by assumption) (by assumption))
   ·exact d0 (h _ _ (.table hone (by k_extra "n") (by k_extra "n")) (by assumption) (by assumption))
   ·exact d0 (h _ _ (hone.le (by k_extra "n")) (by assumption) (by assumption))
   ·rename_i hk6 hk7
    refine(ih (min (k+1) 2-1) S4 (d:=0) (ad5 he) (aa2 hm) hn2 hn2' λother n3 ho hn3 hn3'=>?_).deep ah6
    rw[ac9] at ho;k_extra "w"
    ·exact d0 (h _ _ (.twor (by k_extra "mem") ho hone) (by assumption) (by assumption))
    ·exact d0 (h _ _ (.twor (by k_extra "mem") ho hone) (by assumption) (by assumption))
    ·exact d0 (h _ _ (.twor (by k_extra "mem") ho hone) (by assumption) (by assumption))
    ·exact d0 (h _ _ (.twor (by k_extra "mem") ho hone) (by assumption) (by assumption))
    ·refine(ih (min (k+1) 2-1) S4 (d:=0) (ad5 he) (aa2 hm) (by assumption) (by assumption) λthird n4 ht hn4 hn4'=>?_).deep ah6
     rw[ac9] at ht;k_extra "w";exact d0 (h _ _ (.wherr ho hone ht) (by assumption) (by assumption))
    ·exact d0 (h _ _ (.chor (by k_extra "n") (by k_extra "n") ho hone) (by assumption) (by assumption))
    ·exact d0 (h _ _ (.twol (by k_extra "mem") hone ho) (by assumption) (by assumption))
    ·exact d0 (h _ _ (.twol (by k_extra "mem") hone ho) (by assumption) (by assumption))
    ·exact d0 (h _ _ (.twol (by k_extra "mem") hone ho) (by assumption) (by assumption))
    ·exact d0 (h _ _ (.twol (by k_extra "mem") hone ho) (by assumption) (by assumption))
    ·exact d0 (h _ _ (.twol (by k_extra "mem") hone ho) (by assumption) (by assumption))
    ·refine(ih (min (k+1) 2-1) S4 (d:=0) (ad5 he) (aa2 hm) (by assumption) (by assumption) λthird n4 ht hn4 hn4'=>?_).deep ah6
     rw[ac9] at ht;k_extra "w";exact d0 (h _ _ (.wherl hone ho ht) (by assumption) (by assumption))
    ·exact d0 (h _ _ (.chol (by k_extra "n") (by k_extra "n") hone ho) (by assumption) (by assumption))
    ·exact d0 (h _ _ (.twor (by k_extra "mem") ho hone) (by assumption) (by assumption))
end
structure NmP(Gs:List V)(gt:V->List V)(args F rest:List V):Prop where
 nd:F.Nodup
 sub:∀ y∈F,y∈Gs
 all:∀ y∈Gs,y∈F∨∃ x∈rest,(∃ l,x=.tup l)/\y∈gt x
 mem:∀ x∈rest,x∈args
section
variable{Gs args F rest L2:List V}{gt:V->List V}{v:V}
theorem NmP.skip(p:NmP Gs gt args F (v::rest))(ht:¬∃ l,v=.tup l):NmP Gs gt args F rest:=
 ⟨p.nd,p.sub,λy hy=>(p.all y hy).imp id λq=>by
  obtain⟨x,hx,hxt,q⟩:=q;rcases au.mp hx with rfl | hx
  ·exact absurd hxt ht
  ·exact⟨x,hx,hxt,q⟩,λx hx=>p.mem x (.tail _ hx)⟩
theorem NmP.put(p:NmP Gs gt args F (v::rest))(hn:L2.Nodup)(hm:∀ y,y∈L2↔y∈gt v)(hv:∀ y∈gt v,y∈Gs)(ha:∀ y∈Gs,j9 y):NmP Gs gt args (F++L2.filter λy=>!B3 F y) rest:=by
 have hF:∀ y∈F,j9 y:=λy hy=>ha y (p.sub y hy)
 refine⟨bk.mpr ⟨p.nd,hn.sublist gM,λx hx y hy e=>?_⟩,λy hy=>?_,λy hy=>?_,λx hx=>p.mem x (.tail _ hx)⟩
 ·subst e
  have h2:=(cL.mp hy).2;rw[(Q2 hF (hF x hx)).mpr hx] at h2;cases h2
 ·rcases aq.mp hy with q | q
  ·exact p.sub y q
  ·exact hv y ((hm y).mp (cL.mp q).1)
 ·rcases p.all y hy with q | ⟨x,hx,hxt,q⟩
  ·exact .inl (aq.mpr (.inl q))
  ·rcases au.mp hx with rfl | hx
   ·refine .inl (aq.mpr ?_)
    cases hq:B3 F y with
    | true=>exact .inl ((Q2 hF (ha y hy)).mp hq)
    | false=>exact .inr (cL.mpr ⟨(hm y).mpr q,by rw[hq];rfl⟩)
   ·exact .inr ⟨x,hx,hxt,q⟩
theorem NmP.fin(p:NmP Gs gt args F [])(y:V):y∈F↔y∈Gs:=⟨p.sub y,λhy=>by
 rcases p.all y hy with q | ⟨x,hx,_⟩
 ·exact q
 ·cases hx⟩
end
section
variable{g:G}{d:Nat}{X:Str->Hp->Prop}
set_option tactic.hygienic true in
theorem at0(N:Nm g){z:Lim}{u:Str}(hu:NW u):∀ (n:Nat) {v:V} {M:Hp} {Q:V->Hp->Prop},ok z n v=true->(d5 n v u).length<64->
  (∀ b L,M b=none->Srt L->(∀ y,y∈L↔y∈d5 n v u)->Q (.ref b) (upd M b (.lst L)))->c7 g (d+n+2) true "_law_named" [v,.str u] M Q X:=by
 intro n;induction n with
 | zero=>intro v M Q hk;exact(ag hk).elim
 | succ n ih=>
  intro v M Q hk hl h;obtain⟨hat,hsk⟩:=O4 hu hk;obtain⟨w,args,rfl⟩:=I6 hk;obtain⟨m,hm,hs,hf,hin⟩:=D4 hk;obtain rfl:n=m:=Nat.succ.inj hm;have h5:2<=(args.length:Int)+1/\(args.length:Int)+1<=4:=(by decide +kernel:∀ p∈szs,2<=p.2/\p.2<=4) _ (S7 hs)
  have hz:args.length<=100:=by lia
  have hp0:∃ x l,args=x::l:=by
   cases args with
   | nil=>exact absurd h5.1 (by decide)
   | cons x l=>exact⟨x,l,rfl⟩
  clear h5 hk hm;have hlv:∀ x∈f4 w args,(d5 n x u).length<64:=λx hx=>by
   have:=aG0 (l:=(f4 w args).map λx=>(d5 n x u).length) (x:=(d5 n x u).length) (ar.mpr ⟨_,hx,rfl⟩)
   rw[B6,az,gL,bI] at hl;exact aM (ae this (aQ _ _)) hl
  have hg:∀ y,y∈d5 (n+1) (.tup (.str w::args)) u↔(y∈(if w==u then[arg args 0] else[]))∨∃ x∈f4 w args,y∈d5 n x u:=λy=>by
   rw[B6,aq,dj];refine or_congr Iff.rfl ⟨λq=>?_,λq=>?_⟩
   ·obtain⟨_,hr,q⟩:=q
    obtain⟨x,hx,rfl⟩:=ar.mp hr;exact⟨x,hx,q⟩
   ·obtain⟨x,hx,q⟩:=q
    exact⟨_,ar.mpr ⟨x,hx,rfl⟩,q⟩
  generalize d5 (n+1) (.tup (.str w::args)) u=Gs at hat hsk hl hg h;refine bl0 N ?_;refine New.mk ?_;intro b hb;have k:wSs g (d+(n+1)+1) true aK5 [some (.tup (.str w::args)),some (.str u),some (.ref b),none] (upd M b (.lst (if w==u then[arg args 0] else[]))) (e9 Q) (xK X):=?_
  ·obtain⟨x,l,rfl⟩:=hp0
   k_extra "w"
   ·rename_i e
    refine Stop.mk ?_;rw[if_pos (beq_iff_eq.mpr e)] at k;exact k
   ·rename_i e
    refine Stop.mk ?_;rw[if_neg (λq=>e (beq_iff_eq.mp q))] at k;exact k
  clear hp0;k_extra "w";rw[aE4];refine Loop.g (λrest Z' M'=>∃ c F o,M c=none/\NmP Gs (λx=>d5 n x u) args F rest/\M'=upd M c (.lst F)/\Z'=[some (.tup (.str w::args)),some (.str u),some (.ref c),o]) ⟨b,_,none,hb,⟨?_,λy hy=>(hg y).mpr (.inl hy),λy hy=>?_,λx hx=>hx⟩,rfl,rfl⟩ (λR J hR hJ=>?_) ?_
  ·split
   ·exact .cons (λ_ h=>by cases h) .nil
   ·exact .nil
  ·refine((hg y).mp hy).imp id λq=>?_
   obtain⟨x,hx,q⟩:=q;obtain⟨w',a',e⟩:=I6 (hin x hx);exact⟨x,al7 hx,⟨_,e⟩,q⟩
  ·rintro v rest _ _ hh_;obtain⟨c,F,o,hc,hp,rfl,rfl⟩:=hh_
   refine⟨trivial,?_⟩;have hva:=hp.mem v (.head _);by_cases ht:∃ l,v=.tup l
   ·have hv:=bF2 hs hf hva ht.choose_spec
    have hvk:=hin v hv;have hvl:=hlv v hv;have hvg:∀ y∈d5 n v u,y∈Gs:=λy hy=>(hg y).mpr (.inr ⟨v,hv,hy⟩)
    obtain⟨l,rfl⟩:=ht;clear hlv hin hg hv hva hs hf;k_extra "w";refine ih hvk hvl λe L2 he hS hm2=>?_
    have hL2:∀ y∈L2,j9 y:=λy hy=>hat y (hvg y ((hm2 y).mp hy))
    have hFa:∀ y∈F,j9 y:=λy hy=>hat y (hp.sub y hy)
    have hL2l:L2.length<=63:=aR (aM (D0 hS.nodup λy hy=>(hm2 y).mp hy) hvl)
    have hFl:F.length<=63:=aR (aM (D0 hp.nd hp.sub) hl);have hp2:=hp.put hS.nodup hm2 hvg hat;have hce:c≠e:=l7 (c9 _ _ _) he;refine Look.mk L2 (c9 _ _ _) ?_;refine CLoop.g (λrest acc M'=>upd (upd M c (.lst F)) e (.lst L2)=M'/\∃ done,L2=done++rest/\acc=done.filter (λy=>!B3 F y)) (by k_extra "n") ⟨rfl,[],rfl,rfl⟩ (λJ2 hJ2=>?_) ?_
    ·rintro v rest acc _ hh_;obtain⟨rfl,done,hd,rfl⟩:=hh_
     have hv2:j9 v:=hL2 v (hd▸aq.mpr (.inr (.head _)));refine⟨c9 _ _ _,?_⟩;k_extra "w";refine aj6 ?_;refine InL.mk (j9.flatL hFa) hv2.flat (by rw[j9.depL hFa,hv2.dep];lia) ?_
     have hd2:L2=(done++[v])++rest:=by rw[hd,aH];rfl
     k_extra "w"
     ·rename_i hq
      exact hJ2 ⟨rfl,done++[v],hd2,by rw[dF,List.filter_cons,if_pos (by rw[show B3 F v=false from Bool.eq_false_iff.mpr (Ne.symm hq)];rfl)];rfl⟩
     ·rename_i hq
      exact hJ2 ⟨rfl,done++[v],hd2,by rw[dF,List.filter_cons,if_neg (by rw[show B3 F v=true from hq.symm];decide)];exact(aS _).symm⟩
    ·rintro acc _ hh_;obtain⟨rfl,done,hd,rfl⟩:=hh_
     rw[aS] at hd;subst hd;refine⟨c9 _ _ _,λa ha=>?_⟩
     have hfl:(L2.filter λy=>!B3 F y).length<=L2.length:=eB _ _
     k_extra "w";rename_i f hf;exact Drop.mk (B5 (((Sub.upd hc).trans (Sub.upd he)).trans (Sub.upd ha))) (hJ ⟨f,_,_,(j5 (j5 (j5 hf).2).2).2,hp2,rfl,rfl⟩)
   ·have hp2:=hp.skip ht
    rcases au8 hs hf hva with q | ⟨i,rfl⟩ | ⟨i,rfl⟩
    ·obtain⟨w',a',e⟩:=I6 (hin v q)
     exact absurd ⟨_,e⟩ ht
    all_goals
     clear hg hlv hin hs hf hva;k_extra "w";exact Drop.mk (Sub.refl _) (hJ ⟨c,F,_,hc,hp2,rfl,rfl⟩)
  ·rintro _ _ hh_;obtain⟨c,F,o,hc,hp,rfl,rfl⟩:=hh_
   refine⟨trivial,?_⟩;have hFl:F.length<=63:=aR (aM (D0 hp.nd hp.sub) hl);k_extra "w";refine Srted.mk _ (c9 _ _ _) (hsk.sub hp.sub) (fj hFl) λe L he hq hpw=>?_
   k_extra "w";exact t9 (B5 (Sub.upd hc)) (h e L (j5 he).2 (ag7 hpw (hq.nodup_iff.mpr hp.nd)) λy=>hq.mem_iff.trans (hp.fin y))
end
noncomputable def r9(v:V):Bool:=match v with
 | .tup l=>decide (l.length=3)&&(m8 (arg l 0) (0-1000000000) 1000000000&&(m8 (arg l 1) (0-1000000000) 1000000000&&m8 (arg l 2) 0 100))
 | _=>false
noncomputable def aK7(v:V):Int:=match v with
 | .tup (.int a::_)=>a
 | _=>0
noncomputable def B9(l:List V)(k:Nat):Bool:=decide (aK7 (l.getD k .none)<aK7 (l.getD (k+1) .none))
noncomputable def u7(v:V):Bool:=match v with
 | .tup l=>(decide (1<=l.length)&&decide (l.length<=20))&&(l.all r9&&(List.range (l.length-1)).all (B9 l))
 | _=>false
theorem aW5{l:List V}(h:l.length≠3):r9 (.tup l)=false:=by
 show(decide (l.length=3)&&_)=false;rw[decide_eq_false h];rfl
theorem ah1{a b c:V}:r9 (.tup [a,b,c])=(m8 a (0-1000000000) 1000000000&&(m8 b (0-1000000000) 1000000000&&m8 c 0 100)):=rfl
section
variable{g:G}{d:Nat}{M:Hp}{Q:V->Hp->Prop}{X:Str->Hp->Prop}
open Internal renaming T4->y14,O6->y15
theorem cl8:True:=by
 k_with "call"=>first | refine y14 (by assumption) (Cld.ok (by assumption)) ?_ | refine y15 (by assumption) (Cld.ok (by assumption)) ?_
 trivial
set_option tactic.hygienic true in
theorem cb4(N:Nm g){v:V}(ok:Cld M v)(h:Q (.bool (r9 v)) M):c7 g (d+3) true "is_row" [v] M Q X:=by
 refine bY9 N ?_;cases v with
 | tup l=>
  refine c6 ok.tups λhz hx=>?_
  have hz:l.length<=10000:=ae hz (by decide)
  k_extra "w"
  ·rename_i hl
   refine d0 ?_;rw[aW5 (λq=>hl (by rw[q];rfl))] at h;exact h
  ·rename_i hl
   refine Ma5 (J9 (l:=l) (Int.ofNat_inj.mp hl)) λa b c q1_=>?_;subst q1_
   have ka:=hx a (by k_extra "mem")
   have kb:=hx b (by k_extra "mem")
   have kc:=hx c (by k_extra "mem")
   k_extra "w"
   ·rename_i ha hb
    rw[ah1,ha,hb] at h;exact d0 h
   ·rename_i ha hb
    exact r_b hb (by rw[ah1,ha,hb] at h;exact h)
   ·rename_i ha
    exact r_b ha (by rw[ah1,ha] at h;exact h)
 | ref a=>
  refine c5 (ok.ok a rfl) λl hl=>?_
  k_extra "w";all_goals exact d0 h
 | _=>
  k_extra "w";all_goals exact d0 h
end
section
variable{g:G}{d:Nat}{M:Hp}{Q:V->Hp->Prop}{X:Str->Hp->Prop}
theorem Y4{v:V}(h:r9 v=true):∃ a b c,v=.tup [.int a,.int b,.int c]/\0<=c/\c<=100:=by
 cases v with
 | tup l=>
  refine c6 ((bo _ _).mp (show(decide (l.length=3)&&_)=true from h)) λh0 h1=>?_
  refine Ma5 (J9 (of_decide_eq_true h0)) λx y t q1_=>?_;subst q1_
  refine c6 ((bo _ _).mp h1) λh1 h23=>?_
  refine c6 ((bo _ _).mp h23) λh2 h3=>?_
  refine a9 (q9 h1) λa ea z_=>?_
  refine a9 (q9 h2) λb eb z_=>?_
  refine f9 (q9 h3) λc ec h4 h5=>?_
  exact⟨a,b,c,by rw[show x=_ from ea,show y=_ from eb,show t=_ from ec],h4,h5⟩
 | _=>exact ff h
theorem aF0{v:V}(h:r9 v=true):∃ a b c,v=.tup [.int a,b,c]:=by
 refine x6 (Y4 h) λa b c e z_=>?_
 exact⟨a,_,_,e⟩
theorem V7{l:List V}{k:Nat}{x:V}(h:l[k]?=some x):l.getD k .none=x:=by rw[aF,h];rfl
set_option tactic.hygienic true in
theorem bI5(N:Nm g){v:V}(ok:Cld M v)(h:Q (.bool (u7 v)) M):c7 g (d+4) true "is_table" [v] M Q X:=by
 refine be4 N ?_;cases v with
 | tup l=>
  refine c6 ok.tups λhz0 hx=>?_
  have hz:l.length<=10000:=ae hz0 (by decide)
  k_extra "w"
  ·rename_i h1 h2
   refine Loop.g (λrest Z' M'=>M=M'/\l.all r9=rest.all r9/\(∀ x∈rest,Cld M x)/\∃ o,Z'=[some (.tup l),o]) ⟨rfl,rfl,hx,none,rfl⟩ (λR J hR hJ=>?_) ?_
   ·rintro v rest _ _ hh_;obtain⟨rfl,h3,h4,o,rfl⟩:=hh_
    refine⟨trivial,?_⟩;have kv:=h4 v (by k_extra "mem")
    k_extra "w";refine cb4 N kv ?_;k_extra "w"
    ·rename_i hv
     exact hJ ⟨rfl,by rw[h3,fi,hv,fh],λx hx=>h4 x (.tail _ hx),_,rfl⟩
    ·rename_i hv
     have e:u7 (.tup l)=false:=by
      show(_&&(l.all r9&&_))=false;rw[h3,fi,hv,db,db,dK]
     rw[e] at h;exact hR<|d0 h
   ·rintro _ _ hh_;obtain⟨rfl,h3,h4,o,rfl⟩:=hh_
    refine⟨trivial,?_⟩;have h3:l.all r9=true:=h3;have hr:∀ x∈l,r9 x=true:=aW.mp h3;have h1':1<=l.length:=by lia
    k_extra "w";refine N0 (λi acc M'=>M=M'/\acc=(List.range i).map λk=>V.bool (B9 l k)) (by lia) ⟨rfl,rfl⟩ (λJ hJ=>?_) ?_
    ·rintro i acc _ hi hh_;refine c6 hh_ λq1_ q2_=>?_;clear hh_;subst q1_;subst q2_
     have e0:(0:Int)+(i:Int)=i:=cK _;rw[e0];have hi1:i<l.length:=by lia
     have hi2:i+1<l.length:=by lia
     refine Ma5 (aF0 (hr _ (bL hi1))) λa b c ea=>?_
     refine Ma5 (aF0 (hr _ (bL hi2))) λa' b' c' ea'=>?_
     have g1:l[i]?=some (.tup [.int a,b,c]):=by rw[aa hi1,ea]
     have g2:l[i+1]?=some (.tup [.int a',b',c']):=by rw[aa hi2,ea']
     k_extra "w";refine Idx.mk (by lia) (by lia) (by lia) λx ex=>?_
     obtain rfl:x=.tup [.int a,b,c]:=Option.some.inj (ex.symm.trans g1);k_extra "w";refine Idx.mk (by lia) (by lia) (by lia) λx ex=>?_
     obtain rfl:x=.tup [.int a',b',c']:=Option.some.inj (ex.symm.trans g2);k_extra "w";refine hJ ⟨rfl,?_⟩;rw[fR,av];show _=_++[V.bool (B9 l i)];unfold B9;rw[V7 g1,V7 g2];rfl
    ·rintro acc _ ⟨rfl,rfl⟩ c hc
     k_extra "w";have e:u7 (.tup l)=((List.range (l.length-1)).map (B9 l)).all id:=by
      show((decide (1<=l.length)&&decide (l.length<=20))&&(l.all r9&&(List.range (l.length-1)).all (B9 l)))=_;rw[h3,decide_eq_true h1',decide_eq_true (show l.length<=20 by lia),fJ];rfl
     have e2:((l.length:Int)-1-0).toNat=l.length-1:=bC6 _;refine AllB.mk ((List.range (l.length-1)).map (B9 l)) (by rw[e2,bI];exact c9 _ _ _) ?_
     rw[e] at h;exact t9 (Sub.upd hc) h
  all_goals
   have e:u7 (.tup l)=false:=by
    show((decide (1<=l.length)&&decide (l.length<=20))&&_)=false;have:¬ (1<=l.length)∨¬ (l.length<=20):=by lia
    rcases this with q | q<;>simp[q]
   rw[e] at h;exact d0 h
 | ref a=>
  refine c5 (ok.ok a rfl) λl hl=>?_
  k_extra "w";all_goals exact d0 h
 | _=>
  k_extra "w";all_goals exact d0 h
end
theorem aw6(k:Int)(p:Int×V)(L:List (Int×V)):i8 (p::L) k=if p.1=k then some p.2 else i8 L k:=by
 unfold i8;rw[fO];by_cases e:p.1=k
 ·rw[if_pos e,show decide (p.1=k)=true from decide_eq_true e];rfl
 ·rw[if_neg e,show decide (p.1=k)=false from decide_eq_false e]
theorem ai2{k:Int}{L:List (Int×V)}(h:k∈L.map (·.1)):∃ v,i8 L k=some v/\(k,v)∈L:=by
 induction L with
 | nil=>cases h
 | cons p L ih=>
  rw[aw6];by_cases e:p.1=k
  ·rw[if_pos e];exact⟨p.2,rfl,by rw[<- e];exact .head _⟩
  ·rw[if_neg e]
   rcases au.mp h with q | q
   ·exact absurd q.symm e
   ·refine a9 (ih q) λv h1 h2=>?_;exact⟨v,h1,.tail _ h2⟩
theorem aX9{k:Int}{L:List (Int×V)}(h:k∉L.map (·.1)):i8 L k=none:=by
 induction L with
 | nil=>rfl
 | cons p L ih=>
  rw[aw6,if_neg (λe=>h (by rw[<- e];exact .head _))]
  exact ih λq=>h (.tail _ q)
theorem aG5{k:Int}{L:List (Int×V)}{v:V}(h:k∉L.map (·.1)):A4 L k v=L++[(k,v)]:=by
 unfold A4;rw[if_neg];intro q;refine a9 (cH.mp q) λp hp e=>?_
 exact h (by rw[<- of_decide_eq_true e];exact ar.mpr ⟨p,hp,rfl⟩)
structure NmAt(M:Hp)(na:Addr)(nm:List (List Int)):Prop where
 ex:∃ rs:List Addr,M na=some (.lst (rs.map .ref))/\rs.length=nm.length/\∀ (i:Nat) r,rs[i]?=some r->M r=some (.lst ((nm.getD i []).map .int))
 n100:nm.length<=100
 l100:∀ l∈nm,l.length<=100
theorem NmAt.sub{M M':Hp}{na:Addr}{nm:List (List Int)}(h:NmAt M na nm)(k:Sub M M'):NmAt M' na nm:=by
 obtain⟨⟨rs,h1,h2,h3⟩,h4,h5⟩:=h;exact⟨⟨rs,k _ _ h1,h2,λi r e=>k _ _ (h3 i r e)⟩,h4,h5⟩
theorem NmAt.len{M:Hp}{na:Addr}{nm:List (List Int)}{i:Nat}(h:NmAt M na nm):(nm.getD i []).length<=100:=by
 rw[aF];cases e:nm[i]? with
 | none=>exact aE _
 | some l=>exact h.l100 l (aI e)
structure Acy(nm:List (List Int))(rk:Int->Nat):Prop where
 rng:∀ (i:Nat),∀ j∈nm.getD i [],0<=j/\j<nm.length
 dn:∀ (i:Nat),∀ j∈nm.getD i [],rk j<rk i
structure SJ(goal:Int)(rk:Int->Nat)(n:Nat)(S:List Int)(L:List (Int×V)):Prop where
 keys:L.map (·.1)=S
 nd:S.Nodup
 rng:∀ x∈S,0<=x/\x<n
 up:∀ x∈S,x=goal∨rk goal<rk x
 vals:∀ p∈L,∃ i,p.2=.int i
theorem H3{S:List Int}{n:Nat}(hn:S.Nodup)(h:∀ x∈S,0<=x/\x<n):S.length<=n:=by
 have:=D0 (l:=S.map .int) (k:=(List.range n).map fun(i:Nat)=>V.int i) (List.Pairwise.map _ (λa b hab e=>hab (V.int.inj e)) hn) λy hy=>by
  refine a9 (ar.mp hy) λx hx q1_=>?_;subst q1_
  refine c6 (h x hx) λh0 h1=>?_
  exact ar.mpr ⟨x.toNat,cb.mpr ((eD h0).mpr h1),by rw[bD h0]⟩
 rw[ac,ac,bF] at this;exact this
theorem SJ.push{goal:Int}{rk:Int->Nat}{n:Nat}{S:List Int}{L:List (Int×V)}(h:SJ goal rk n S L){o i:Int}(ho:o∉S)(h0:0<=o)(h1:o<n)(hr:rk goal<rk o):SJ goal rk n (S++[o]) (A4 L o (.int i)):=by
 rw[aG5 (by rw[h.keys];exact ho)]
 refine⟨by rw[av,h.keys];rfl,?_,?_,?_,?_⟩
 ·refine bk.mpr ⟨h.nd,(by k_extra "mem"),λx hx y hy e=>?_⟩
  rw[aj.mp hy] at e;exact ho (e▸hx)
 ·intro x hx
  rcases aq.mp hx with q | q
  ·exact h.rng x q
  ·rw[aj.mp q];exact⟨h0,h1⟩
 ·intro x hx
  rcases aq.mp hx with q | q
  ·exact h.up x q
  ·rw[aj.mp q];exact .inr hr
 ·intro p hp
  rcases aq.mp hp with q | q
  ·exact h.vals p q
  ·rw[aj.mp q];exact⟨i,rfl⟩
theorem U5{l:List Int}:∀ y∈l.map V.int,j9 y:=λy hy=>by refine a9 (ar.mp hy) λi z_ q1_=>?_;subst q1_;exact .inl ⟨i,rfl⟩
theorem aY2{l:List Int}{x:Int}:B3 (l.map .int) (.int x)=true↔x∈l:=by
 rw[Q2 U5 (.inl ⟨x,rfl⟩)];constructor
 ·intro h;refine a9 (ar.mp h) λi hi e=>?_;exact V.int.inj e▸hi
 ·intro h;exact ar.mpr ⟨x,h,rfl⟩
theorem av2{l:List Int}{x:Int}:((i4 (l.map .int)).any λy=>PyData.eqv y (dat (.int x)))=decide (x∈l):=by
 rw[dw,decide_eq_true_iff];exact aY2
theorem aq0{d:Nat}{l:List Int}{x:Int}:min (depL (l.map .int)) (dep (.int x))+1<=8*(d+1):=by
 rw[j9.depL U5,Nat.zero_min];exact ae (by decide) (eO 8 (aQ 1 d))
theorem W7{d:Nat}{l:List Int}{x:Int}{M:Hp}{Q:VP}(h:Q (.bool (decide (x∈l))) M):InL false (d+1) (l.map .int) (.int x) M Q:=
 InL.mk (j9.flatL U5) rfl aq0 (by rw[av2,ct];exact h)
theorem bJ3{d:Nat}{l:List Int}{x:Int}{M:Hp}{Q:VP}(h:Q (.bool (!decide (x∈l))) M):InL true (d+1) (l.map .int) (.int x) M Q:=
 InL.mk (j9.flatL U5) rfl aq0 (by rw[av2,cM];exact h)
theorem bw0{M:Hp}{a b:Addr}{x x' y y':AObj}:upd (upd (upd (upd M a x) b y) a x') b y'=upd (upd M a x') b y':=by
 funext c
 unfold upd;by_cases h1:c=b
 ·rw[if_pos h1,if_pos h1]
 ·rw[if_neg h1,if_neg h1]
  by_cases h2:c=a
  ·rw[if_pos h2,if_pos h2,if_neg h1]
  ·rw[if_neg h2,if_neg h1,if_neg h2,if_neg h2]
section
variable{g:G}{d:Nat}{M:Hp}{Q:V->Hp->Prop}{X:Str->Hp->Prop}
set_option tactic.hygienic true in
theorem bE9(N:Nm g){na:Addr}{nm:List (List Int)}{goal:Int}{rk:Int->Nat}(hN:NmAt M na nm)(hA:Acy nm rk)(h0:0<=goal)(h1:goal<nm.length)
  (h:∀ D S L,M D=none->SJ goal rk nm.length S L->Q (.ref D) (upd M D (.di L))):c7 g (d+2) true "steps_to" [.ref na,.int goal] M Q X:=by
 refine cd6 N ?_;refine f9 hN.ex λrs hna hrl hrs=>?_
 have hz:(rs.map V.ref).length<=100:=by rw[ac,hrl];exact hN.n100
 have hz2:(rs.map V.ref).length=nm.length:=by rw[ac,hrl]
 k_extra "w";rename_i D hD sA hsA;refine c6 (j5 hsA) λhne hsA'=>?_
 refine Whl.g (λm Z' M'=>∃ (S:List Int) (L:List (Int×V)) (a:Nat) (o5 o6:Option V),SJ goal rk nm.length S L/\m=nm.length-a/\a<=S.length/\M'=upd (upd M D (.di L)) sA (.lst (S.map .int))/\
  Z'=[some (.ref na),some (.int goal),some (.ref D),some (.ref sA),some (.int a),o5,o6]) (nm.length-0) ⟨[goal],_,0,none,none,?_,rfl,aE _,rfl,rfl⟩ λR J hR hJ=>?_
 ·exact⟨rfl,(by k_extra "mem"),λx hx=>by rw[aj.mp hx];exact⟨h0,h1⟩,λx hx=>.inl (aj.mp hx),λp hp=>by rw[aj.mp hp];exact⟨0,rfl⟩⟩
 ·rintro m _ _ hh_;refine aR6 hh_ λS L a o5 o6 hS q1_ ha q2_ q3_=>?_;clear hh_;subst q1_;subst q2_;subst q3_
  have hSl:=H3 hS.nd hS.rng;have hS1:(S.map V.int).length=S.length:=ac _;have hS2:(S.map V.int).length<=10000:=by rw[hS1];have:=hN.n100;lia
  k_extra "w"
  ·rename_i hlt
   refine Idx.mk (by lia) (by lia) (by lia) λx hx=>?_
   refine a9 (U3 hx) λline hline q1_=>?_;subst q1_
   have hsA2:upd M D (.di L) sA=none:=by rw[d6 _ _ hne];exact hsA'
   k_extra "w";refine A6 (λi Z' M'=>∃ (S':List Int) (L':List (Int×V)) (o6:Option V),SJ goal rk nm.length S' L'/\S.length<=S'.length/\line∈S'/\M'=upd (upd M D (.di L')) sA (.lst (S'.map .int))/\
    Z'=[some (.ref na),some (.int goal),some (.ref D),some (.ref sA),some (.int a),some (.int line),o6]) ⟨S,L,o6,hS,aC _,hline,rfl,rfl⟩ (λR J hR hJ=>?_) ?_
   ·rintro i _ _ hi hh_;refine M0 hh_ λS' L' o6 hS' hle hl' q1_ q2_=>?_;clear hh_;subst q1_;subst q2_
    have hi':i<nm.length:=by lia
    have hSl':=H3 hS'.nd hS'.rng;have hS1':(S'.map V.int).length=S'.length:=ac _;have hS2':(S'.map V.int).length<=10000:=by rw[hS1'];have:=hN.n100;lia
    have hLl:L'.length<=10000:=by have:=congrArg List.length hS'.keys;rw[ac] at this;have:=hN.n100;lia
    have hsA2:upd M D (.di L') sA=none:=by rw[d6 _ _ hne];exact hsA'
    obtain⟨r,hr⟩:∃ r,rs[i]?=some r:=⟨_,aa (by lia)⟩
    have hMr:=hrs i r hr;have e0:(0:Int)+(i:Int)=i:=cK _;rw[e0];have hup:line∈nm.getD i []->rk goal<rk i:=λq=>by
     have:=hA.dn i line q;rcases hS'.up line hl' with e | e
     ·rw[e] at this;exact this
     ·exact bO e this
    k_extra "w";refine Idx.mk (by lia) (by lia) (by lia) λx hx=>?_
    obtain rfl:x=.ref r:=by
     have e:(rs.map V.ref)[i]?=some (.ref r):=by rw[aw,hr];rfl
     exact Option.some.inj (hx.symm.trans e)
    k_extra "w";refine W7 ?_;k_extra "w"
    ·rename_i hin hnot
     have hno:(i:Int)∉S':=λq=>by
      obtain⟨v,hv,-⟩:=ai2 (L:=L') (k:=i) (by rw[hS'.keys];exact q)
      rw[hv] at hnot;exact hnot rfl
     obtain⟨v,hv,hv'⟩:=ai2 (L:=L') (k:=line) (by rw[hS'.keys];exact hl')
     refine c5 (hS'.vals _ hv') λk ek=>?_
     obtain rfl:v=.int k:=ek;refine DAt.mk _ hv ?_;k_extra "w";refine hJ ⟨S'++[(i:Int)],_,_,hS'.push (i:=k+1) hno (aT i) (by lia) (hup hin),by rw[az];lia,aq.mpr (.inl hl'),?_,rfl⟩
     rw[bw0,av];rfl
    ·exact hJ ⟨S',L',_,hS',hle,hl',rfl,rfl⟩
    ·exact hJ ⟨S',L',_,hS',hle,hl',rfl,rfl⟩
   ·rintro _ _ hh_;refine M0 hh_ λS' L' o6 hS' hle hl' q1_ q2_=>?_;clear hh_;subst q1_;subst q2_
    k_extra "w";exact hJ ⟨nm.length-(a+1),ao1 (by lia),S',L',a+1,_,_,hS',rfl,by lia,rfl,rfl⟩
  ·have hsA2:upd M D (.di L) sA=none:=by rw[d6 _ _ hne];exact hsA'
   exact hR<|t9 (Sub.upd hsA2) (h D S L hD hS)
theorem aZ7{d:Nat}{M:Hp}{Q:VP}(h:Q (.bool true) M):EqL false (d+1) [] [] M Q:=EqL.mk rfl rfl (ae (by decide) (eO 8 (aQ 1 d))) h
theorem aG7{d:Nat}{M:Hp}{Q:VP}(h:Q (.bool false) M):EqL true (d+1) [] [] M Q:=EqL.mk rfl rfl (ae (by decide) (eO 8 (aQ 1 d))) h
set_option tactic.hygienic true in
theorem bv1(N:Nm g){na:Addr}{nm:List (List Int)}{start:Int}{rk:Int->Nat}(hN:NmAt M na nm)(hA:Acy nm rk)(h0:0<=start)(h1:start<nm.length)
  (h:∀ b,M b=none->Q (.ref b) (upd M b (.lst []))):c7 g (d+3) true "ring_from" [.ref na,.int start] M Q X:=by
 refine bZ4 N ?_;refine f9 hN.ex λrs hna hrl hrs=>?_
 have hz:(rs.map V.ref).length<=100:=by rw[ac,hrl];exact hN.n100
 have hz2:(rs.map V.ref).length=nm.length:=by rw[ac,hrl]
 have hst:start.toNat<nm.length:=by lia
 obtain⟨r,hr⟩:∃ r,rs[start.toNat]?=some r:=⟨_,aa (by lia)⟩
 have hMr:=hrs _ r hr;k_extra "w";refine bE9 N hN hA h0 h1 λD S L hD hS=>?_
 k_extra "w";refine Idx.mk h0 (by lia) (by lia) λx hx=>?_
 obtain rfl:x=.ref r:=by
  have e:(rs.map V.ref)[start.toNat]?=some (.ref r):=by rw[aw,hr];rfl
  exact Option.some.inj (hx.symm.trans e)
 have hMr':upd M D (.di L) r=some (.lst ((nm.getD start.toNat []).map .int)):=i9 hMr hD;have hlen:=hN.len (i:=start.toNat);have hnone:∀ j∈nm.getD start.toNat [],i8 L j=none:=λj hj=>by
  refine aX9 ?_;rw[hS.keys];intro q;have h3:=hA.dn _ j hj;rw[show((start.toNat:Nat):Int)=start by lia] at h3
  rcases hS.up j q with e | e
  ·rw[e] at h3;exact bn _ h3
  ·exact bn _ (bO h3 e)
 k_extra "w";refine CLoop.g (λrest acc M'=>upd M D (.di L)=M'/\acc=[]/\∃ l':List Int,rest=l'.map .int/\∀ j∈l',j∈nm.getD start.toNat []) (by rw[ac];lia) ⟨rfl,rfl,_,rfl,λj hj=>hj⟩ (λJ hJ=>?_) ?_
 ·rintro v rest acc _ hh_;obtain⟨rfl,rfl,l',hl,hm⟩:=hh_
  refine⟨hMr',?_⟩;cases l' with
  | nil=>cases hl
  | cons j l'=>
   refine c6 (List.cons.inj hl) λe1 q1_=>?_;subst q1_
   subst e1;have hj:=hnone j (hm j (.head _));k_extra "w"
   ·rename_i q;rw[hj] at q;exact absurd rfl q
   ·exact hJ ⟨rfl,rfl,l',rfl,λi hi=>hm i (.tail _ hi)⟩
 ·rintro acc _ hh_;refine k8 hh_ λq1_ q2_ _=>?_;clear hh_;subst q1_;subst q2_
  refine⟨hMr',λc hc=>?_⟩
  k_extra "w";rename_i e he;refine aZ7 ?_;k_extra "w";rename_i b hb;refine c6 (j5 hb) λhb1 hb2=>?_
  refine c6 (j5 hb2) λhb3 hb4=>?_
  refine c6 (j5 hb4) λhb5 hb6=>?_
  exact t9 (B5 (((Sub.upd hD).trans (Sub.upd hc)).trans (Sub.upd he))) (h b hb6)
end
structure RuleOK(z:Lim)(v:V):Prop where
 ok:Internal.ok z 8 v=true
 few:∀ u,(d5 8 v u).length<64
 cld:∀ M,Cld M v
structure Nam(rules:List V)(nm:List (List Int)):Prop where
 len:nm.length=rules.length
 iff:∀ (i:Nat) l v,nm[i]?=some l->rules[i]?=some v->∀ y,y∈l.map V.int↔y∈d5 8 v (Str.ofString "line")
 l100:∀ l∈nm,l.length<=100
structure RsAt(M:Hp)(rs:List Addr)(nm:List (List Int)):Prop where
 len:rs.length=nm.length
 at':∀ (i:Nat) r,rs[i]?=some r->M r=some (.lst ((nm.getD i []).map .int))
theorem Y1{α:Type}{l:List α}{x y:α}{i:Nat}(h:(l++[x])[i]?=some y):l[i]?=some y∨(i=l.length/\y=x):=by
 by_cases hi:i<l.length
 ·rw[cP hi] at h;exact .inl h
 ·rw[ci (cn hi)] at h
  obtain⟨hlt,e⟩:=ay.mp h;have h0:i-l.length=0:=Nat.lt_one_iff.mp hlt;refine .inr ⟨aZ (fV.mp h0) (cn hi),?_⟩;rw[<- e];simp[h0]
theorem RsAt.snoc{M:Hp}{rs:List Addr}{nm:List (List Int)}{b:Addr}{l:List Int}(h:RsAt M rs nm)(hb:M b=none):RsAt (upd M b (.lst (l.map .int))) (rs++[b]) (nm++[l]):=by
 refine⟨by rw[az,az,h.len];rfl,λi r e=>?_⟩
 rcases Y1 e with q | ⟨rfl,rfl⟩
 ·have hi:i<nm.length:=h.len▸(ay.mp q).1
  rw[aF,cP hi,<- aF];exact i9 (h.at' i r q) hb
 ·rw[c9,aF,h.len,ci (aC _),cS];rfl
theorem Nam.snoc{rules:List V}{nm:List (List Int)}{v:V}{l:List Int}(h:Nam rules nm)(hl:l.length<=100)(hi:∀ y,y∈l.map V.int↔y∈d5 8 v (Str.ofString "line")):Nam (rules++[v]) (nm++[l]):=by
 refine⟨by rw[az,az,h.len];rfl,λi l' v' e1 e2=>?_,λl' hl'=>?_⟩
 ·rcases Y1 e1 with q1 | ⟨q1,rfl⟩
  ·rcases Y1 e2 with q2 | ⟨q2,rfl⟩
   ·exact h.iff i l' v' q1 q2
   ·have:=(ay.mp q1).1;rw[h.len,q2] at this;exact absurd this (bn _)
  ·rcases Y1 e2 with q2 | ⟨q2,rfl⟩
   ·have:=(ay.mp q2).1;rw[<- h.len,q1] at this;exact absurd this (bn _)
   ·exact hi
 ·rcases aq.mp hl' with q | q
  ·exact h.l100 l' q
  ·rw[aj.mp q];exact hl
theorem Nam.nil:Nam [] []:=⟨rfl,λi l v e=>(by cases e),λl hl=>(by cases hl)⟩
theorem RsAt.nm{M:Hp}{rs:List Addr}{nm:List (List Int)}{rules:List V}{c:Addr}(h:RsAt M rs nm)(hn:Nam rules nm)(hz:rules.length<=100)(hc:M c=none):NmAt (upd M c (.lst (rs.map .ref))) c nm:=
 ⟨⟨rs,c9 _ _ _,h.len,λi r e=>i9 (h.at' i r e) hc⟩,hn.len▸hz,hn.l100⟩
theorem W8{L:List V}(h:∀ y∈L,∃ i,y=.int i):∃ l:List Int,L=l.map .int:=by
 induction L with
 | nil=>exact⟨[],rfl⟩
 | cons y L ih=>
  obtain⟨l,rfl⟩:=ih λz hz=>h z (.tail _ hz)
  refine c5 (h y (.head _)) λi q1_=>?_;subst q1_
  exact⟨i::l,rfl⟩
section
variable{g:G}{d:Nat}{M:Hp}{Q:V->Hp->Prop}{X:Str->Hp->Prop}
theorem ar0(N:Nm g){z:Lim}{rules:List V}{K:Hp->Prop}{turn:V->Hp->VP->(Hp->Prop)->Prop}(hR:∀ r∈rules,RuleOK z r)(hz:rules.length<=100)(hK:∀ M',Sub M M'->K M')
  (ht:∀ v M yes no,c7 g (d+8+3) true "named" [v,.str (Str.ofString "line")] M yes noX->turn v M yes no)
  (h:∀ rs nm M' c,Sub M M'->RsAt M' rs nm->Nam rules nm->M' c=none->Q (.ref c) (upd M' c (.lst (rs.map .ref)))):CLoop rules K M turn Q:=by
 refine CLoop.g (λrest acc M'=>∃ done rs nm,rules=done++rest/\acc=List.map V.ref rs/\Sub M M'/\RsAt M' rs nm/\Nam done nm) (ae hz (by decide)) ⟨[],[],[],rfl,rfl,Sub.refl _,⟨rfl,λi r e=>(by cases e)⟩,Nam.nil⟩ (λJ hJ=>?_) ?_
 ·rintro v rest acc M' hh_;refine M0 hh_ λdone rs nm e q1_ hs hr hn=>?_;clear hh_;subst q1_
  refine⟨hK M' hs,ht _ _ _ _ ?_⟩;have hv:=hR v (by rw[e];simp)
  refine ad1 N hv.ok (hv.few _) (O4 (.inl rfl) hv.ok).2 λb L hb hS hm=>?_
  obtain⟨l,rfl⟩:=W8 (L:=L) λy hy=>J0 (.inl rfl) hv.ok y ((hm y).mp hy)
  refine hJ ⟨done++[v],rs++[b],nm++[l],by rw[e,aH];rfl,by rw[av];rfl,hs.trans (Sub.upd hb),hr.snoc hb,hn.snoc ?_ hm⟩
  have h1:=D0 hS.nodup λy hy=>(hm y).mp hy
  have h2:=hv.few (Str.ofString "line");rw[ac] at h1;lia
 ·rintro acc M' hh_;refine M0 hh_ λdone rs nm e q1_ hs hr hn=>?_;clear hh_;subst q1_
  refine⟨hK M' hs,λc hc=>h rs nm M' c hs hr ?_ hc⟩
  rw[aS] at e;rw[e];exact hn
set_option tactic.hygienic true in
theorem cf3(N:Nm g){z:Lim}{la:Addr}{rules:List V}(hla:M la=some (.lst rules))(hR:∀ r∈rules,RuleOK z r)(hz:rules.length<=100)(hA:∀ nm,Nam rules nm->∃ rk,Acy nm rk)
  (h:∀ b,M b=none->Q (.ref b) (upd M b (.lst []))):c7 g (d+12) true "ring_of" [.ref la] M Q X:=by
 refine bX0 N ?_;k_extra "w";refine ar0 (d:=d) N hR hz (λM' hs=>hs _ _ hla) (λv M yes no hc=>?_) λrs nm M' c hs hr hn hc=>?_
 ·k_extra "w"
  exact hc
 ·refine c5 (hA nm hn) λrk hacy=>?_
  have hN:=hr.nm hn hz hc;have hla':=hs _ _ hla;have hlen:=hn.len;k_extra "w";rename_i best hbest;refine A6 (λi Z' M''=>∃ o3 o4,Sub (upd (upd M' c (.lst (rs.map .ref))) best (.lst [])) M''/\Z'=[some (.ref la),some (.ref c),some (.ref best),o3,o4]) ⟨none,none,Sub.refl _,rfl⟩ (λR J hR hJ=>?_) ?_
  ·rintro i _ M'' hi hh_;refine j8 hh_ λo3 o4 hsub q1_=>?_;clear hh_;subst q1_
   have hN':=(hN.sub (Sub.upd hbest)).sub hsub;have hb:=hsub _ _ (c9 _ _ _);k_extra "w";refine bv1 (d:=d+8) N hN' hacy (by lia) (by lia) λb hb=>?_
   k_extra "w";rename_i e he;refine aG7 ?_;k_extra "w";exact hJ ⟨_,_,(hsub.trans (Sub.upd hb)).trans (Sub.upd he),rfl⟩
  ·rintro _ M'' hh_;refine j8 hh_ λo3 o4 hsub q1_=>?_;clear hh_;subst q1_
   k_extra "w";refine t9 (M':=upd M best (.lst [])) (Sub.trans ?_ hsub) (h best ?_)
   ·exact B5 (hs.trans (Sub.upd hc))
   ·refine c6 (j5 hbest) λh1 h2=>?_
    cases q:M best with
    | none=>rfl
    | some o=>rw[hs _ _ q] at h2;cases h2
structure FormOK(rules tabs:List V)(C owed:Int):Prop where
 rule:∀ r∈rules,RuleOK ⟨rules.length,tabs.length,C⟩ r
 l1:1<=rules.length
 l40:rules.length<=40
 t5:tabs.length<=5
 tab:∀ t∈tabs,u7 t=true/\∀ M,Cld M t
 c0:0<=C
 c8:C<=8
 o0:0<=owed
 o1:owed<rules.length
 acy:∀ nm,Nam rules nm->∃ rk,Acy nm rk
theorem w6{i a b:Int}(h1:a<=i)(h2:i<=b):m8 (.int i) a b=true:=by
 show(decide (a<=i)&&decide (i<=b))=true;rw[decide_eq_true h1,decide_eq_true h2];rfl
set_option tactic.hygienic true in
theorem bg3(N:Nm g){la ta:Addr}{rules tabs:List V}{C owed:Int}(hla:M la=some (.lst rules))(hta:M ta=some (.lst tabs))(F:FormOK rules tabs C owed)
  (h:Q (.tup [.tup rules,.tup tabs,.int C,.int owed]) M):c7 g (d+14) true "form_of" [.ref la,.ref ta,.int C,.int owed] M Q X:=by
 refine bl4 N ?_;have t5:=F.t5;have l1:=F.l1;have l40:=F.l40;have hc:=w6 F.c0 F.c8;have ho:=w6 (b:=(rules.length:Int)-1) F.o0 (by have:=F.o1;lia)
 have okC:∀ M,Ok M (.int C):=λM a e=>by cases e
 have okO:∀ M,Ok M (.int owed):=λM a e=>by cases e
 k_extra "w";refine CLoop.g (λrest acc M'=>M=M'/\∃ done,tabs=done++rest/\acc=(done.map λ_=>true).map V.bool) (by lia) ⟨rfl,[],rfl,rfl⟩ (λJ hJ=>?_) ?_
 ·rintro v rest acc _ hh_;obtain⟨rfl,done,e,rfl⟩:=hh_
  refine⟨hta,?_⟩;obtain⟨hv1,hv2⟩:=F.tab v (by rw[e];simp)
  k_extra "w";refine bI5 (d:=d+9) N (hv2 _) ?_;rw[hv1];exact hJ ⟨rfl,done++[v],by rw[e,aH];rfl,by rw[av,av];rfl⟩
 ·rintro acc _ hh_;obtain⟨rfl,done,e,rfl⟩:=hh_
  refine⟨hta,λc hcn=>?_⟩
  refine AllB.mk _ (c9 _ _ _) ?_;rw[show(done.map λ_=>true).all id=true by rw[fJ];exact aW.mpr λ_ _=>rfl]
  k_extra "w";refine O6 N (okC _) ?_;k_extra "w";refine O6 N (okO _) ?_;k_extra "w";refine LoopR.held rules (by k_extra "heap") (Loop.g (λrest Z' M'=>upd M c (.lst ((done.map λ_=>true).map V.bool))=M'/\(∀ x∈rest,x∈rules)/\∃ o,Z'=[some (.ref la),some (.ref ta),some (.int C),some (.int owed),some (.int rules.length),o]) ⟨rfl,λx hx=>hx,none,rfl⟩ (λR J hR hJ=>?_) ?_)
  ·rintro v rest _ _ hh_;obtain⟨rfl,hr,o,rfl⟩:=hh_
   refine⟨by k_extra "heap",?_⟩
   have hv:=F.rule v (hr v (by k_extra "mem"))
   have hok:=hv.ok;k_extra "w";refine bN7 (d:=d) (z:=⟨rules.length,tabs.length,C⟩) N (hv.cld _) ?_;k_extra "w";exact hJ ⟨rfl,λx hx=>hr x (.tail _ hx),_,rfl⟩
  ·rintro _ _ hh_;obtain⟨rfl,-,o,rfl⟩:=hh_
   refine⟨by k_extra "heap",?_⟩
   k_extra "w";refine cf3 (d:=d+1) N (rules:=rules) (by k_extra "heap") F.rule (by lia) F.acy λb hb=>?_
   k_extra "w";rename_i e he;refine aG7 ?_;k_extra "w";exact t9 (((Sub.upd hcn).trans (Sub.upd hb)).trans (Sub.upd he)) h
end
noncomputable def ah8(F:List Int)(y:V):Bool:=match y with
 | .int j=>decide (j∈F)
 | _=>false
noncomputable def A5(rules:List V)(F:List Int)(i:Nat):Bool:=!decide ((i:Int)∈F)&&(d5 8 (rules.getD i .none) (Str.ofString "line")).all (ah8 F)
noncomputable def Q3(rules:List V)(F:List Int):Option Nat:=(List.range rules.length).find? (A5 rules F)
class inductive Ordr (rules:List V):List Int->Prop
 | nil:Ordr rules []
 | snoc {F:List Int} {i:Nat} (h:Ordr rules F) (e:Q3 rules F=some i):Ordr rules (F++[(i:Int)])
theorem ai8{rules:List V}{F:List Int}{i:Nat}(h:Q3 rules F=some i):i<rules.length/\A5 rules F i=true:=⟨cb.mp (dy h),List.find?_some h⟩
theorem cb3{rules:List V}{F:List Int}{i:Nat}(h:A5 rules F i=true):(i:Int)∉F:=λq=>by
 unfold A5 at h;rw[decide_eq_true q] at h;cases h
theorem Ordr.ok{rules:List V}{F:List Int}(h:Ordr rules F):F.Nodup/\∀ x∈F,0<=x/\x<rules.length:=by
 induction h with
 | nil=>exact⟨.nil,λx hx=>by cases hx⟩
 | snoc h e ih=>
  refine c6 (ai8 e) λh1 h2=>?_
  have h3:=cb3 h2;refine⟨bk.mpr ⟨ih.1,by simp,λx hx y hy q=>?_⟩,λx hx=>?_⟩
  ·rw[aj.mp hy] at q;exact h3 (q▸hx)
  ·rcases aq.mp hx with q | q
   ·exact ih.2 x q
   ·rw[aj.mp q];exact⟨aT _,eL.mpr h1⟩
theorem A0{α:Type}{l:List α}{i:Nat}{x:α}(h:i<l.length):l[i]?=some (l.getD i x):=by rw[aF,aa h];rfl
theorem Nam.all{rules:List V}{nm:List (List Int)}(h:Nam rules nm){i:Nat}(hi:i<rules.length)(F:List Int):(nm.getD i []).all (λj=>decide (j∈F))=(d5 8 (rules.getD i .none) (Str.ofString "line")).all (ah8 F):=by
 have hm:=h.iff i _ _ (A0 (x:=[]) (h.len▸hi)) (A0 (x:=.none) hi);rw[dw,aW,aW];constructor
 ·intro q y hy
  refine a9 (ar.mp ((hm y).mpr hy)) λj hj q1_=>?_;subst q1_
  exact q j hj
 ·intro q j hj
  exact q (.int j) ((hm _).mp (ar.mpr ⟨j,hj,rfl⟩))
theorem bL0{rules:List V}{nm:List (List Int)}{rk:Int->Nat}(hn:Nam rules nm)(hA:Acy nm rk){F:List Int}(hF:F.length<rules.length):∃ i,Q3 rules F=some i:=by
 have key:∀ (k:Nat) (i:Nat),i<rules.length->(i:Int)∉F->rk i=k->∃ j,j<rules.length/\A5 rules F j=true:=by
  intro k;induction k using fQ with
  | ind k ih=>
   intro i hi hiF hk;cases q:(nm.getD i []).all (λj=>decide (j∈F)) with
   | true=>exact⟨i,hi,by unfold A5;rw[decide_eq_false hiF,<- hn.all hi,q];rfl⟩
   | false=>
    refine a9 (List.all_eq_false.mp q) λj hj hjF=>?_
    have hjF:j∉F:=λe=>hjF (decide_eq_true e)
    refine c6 (hA.rng i j hj) λh0 h1=>?_
    have hd:=hA.dn i j hj;have e:((j.toNat:Nat):Int)=j:=bD h0;exact ih (rk j) (hk▸hd) j.toNat (by rw[<- hn.len];exact(eD h0).mpr h1) (by rw[e];exact hjF) (by rw[e])
 have ex:∃ i,i<rules.length/\((i:Nat):Int)∉F:=by
  refine cx λhno=>?_
  have hall:∀ i,i<rules.length->(i:Int)∈F:=λi hi=>cx λq=>hno ⟨i,hi,q⟩
  have:=D0 (l:=(List.range rules.length).map fun(i:Nat)=>V.int i) (k:=F.map .int) (List.Pairwise.map _ (λa b hab e=>hab (Int.ofNat.inj (V.int.inj e))) List.nodup_range) λy hy=>by
   refine a9 (ar.mp hy) λi hi q1_=>?_;subst q1_
   exact ar.mpr ⟨_,hall i (cb.mp hi),rfl⟩
  rw[ac,ac,bF] at this;exact bn _ (aA hF this)
 refine a9 ex λi hi hiF=>?_
 refine a9 (key _ i hi hiF rfl) λj hj hs=>?_
 cases q:Q3 rules F with
 | some k=>exact⟨k,rfl⟩
 | none=>exact absurd hs (List.find?_eq_none.mp q j (cb.mpr hj))
theorem bb2{p:Nat->Bool}{n i:Nat}(hi:i<n)(hp:p i=true)(hb:∀ k,k<i->p k=false):(List.range n).find? p=some i:=by
 rw[List.find?_eq_some_iff_getElem];refine⟨hp,i,by rw[bF];exact hi,List.getElem_range ..,λj hj=>?_⟩
 rw[List.getElem_range,hb j hj];rfl
theorem bC9{f:Addr}{M MN M':Hp}{o:AObj}(h1:Sub M MN)(h2:u4 f MN M')(h3:M' f=some o):Sub (upd M f o) M':=λa o' e=>by
 by_cases q:a=f
 ·subst q;rw[c9] at e;rw[h3];exact e
 ·rw[d6 _ _ q] at e;exact h2 a o' q (h1 _ _ e)
theorem F1{M M':Hp}{a:Addr}(h:Sub M M')(k:M' a=none):M a=none:=by
 cases q:M a with
 | none=>rfl
 | some o=>rw[h _ _ q] at k;cases k
section
variable{g:G}{d:Nat}{M:Hp}{Q:V->Hp->Prop}{X:Str->Hp->Prop}
set_option tactic.hygienic true in
theorem aI2(N:Nm g){z:Lim}{rules tabs:List V}{x y:V}(hR:∀ r∈rules,RuleOK z r)(hz:rules.length<=100)(hA:∀ nm,Nam rules nm->∃ rk,Acy nm rk)
  (h:∀ f F,M f=none->Ordr rules F->F.length=rules.length->Q (.ref f) (upd M f (.lst (F.map .int)))):c7 g (d+12) true "order_of" [.tup [.tup rules,.tup tabs,x,y]] M Q X:=by
 refine bf4 N ?_;k_extra "w";refine ar0 (d:=d) N hR hz (λM' hs=>trivial) (λv M yes no hc=>?_) λrs nm M' c hs hr hn hc=>?_
 ·k_extra "w"
  exact hc
 refine c5 (hA nm hn) λrk hacy=>?_
 have hN:=hr.nm hn hz hc;have hlen:=hn.len;have hrl:=hr.len;k_extra "w";rename_i f hf;generalize hMN:upd M' c (.lst (rs.map .ref))=MN at hf hN;have hsN:Sub M MN:=by rw[<- hMN];exact hs.trans (Sub.upd hc)
 have hcN:MN c=some (.lst (rs.map .ref)):=by rw[<- hMN];exact c9 _ _ _
 have hcf:c≠f:=l7 hcN hf;have hrsN:∀ (i:Nat) r,rs[i]?=some r->MN r=some (.lst ((nm.getD i []).map .int)):=λi r e=>by rw[<- hMN];exact i9 (hr.at' i r e) hc
 have hcl:(rs.map V.ref).length=rules.length:=by rw[ac,hrl,hlen]
 have hcl2:(rs.map V.ref).length<=10000:=by lia
 refine Whl.g (λm Z' M''=>∃ (F:List Int) (o3:Option V),Ordr rules F/\m=rules.length-F.length/\F.length<=rules.length/\u4 f MN M''/\M'' f=some (.lst (F.map .int))/\
  Z'=[some (.tup [.tup rules,.tup tabs,x,y]),some (.ref c),some (.ref f),o3]) (rules.length-0) ⟨[],none,.nil,rfl,aE _,u4.upd,c9 _ _ _,rfl⟩ λR J hR hJ=>?_
 rintro m _ M'' hh_;refine bF1 hh_ λF o3 hF q1_ hFl hst hMf q2_=>?_;clear hh_;subst q1_;subst q2_
 have hFm:(F.map V.int).length=F.length:=ac _;have hFz:(F.map V.int).length<=10000:=by lia
 have hc'':=hst c _ hcf hcN;k_extra "w"
 ·rename_i hlt
  have hlt:F.length<rules.length:=by lia
  refine A6 (λi Z' M3=>∃ (o3:Option V),(∀ k,k<i->A5 rules F k=false)/\u4 f MN M3/\M3 f=some (.lst (F.map .int))/\Z'=[some (.tup [.tup rules,.tup tabs,x,y]),some (.ref c),some (.ref f),o3]) ⟨o3,λk hk=>absurd hk (bS _),hst,hMf,rfl⟩ (λR2 J2 hR2 hJ2=>?_) ?_
  ·rintro i _ M3 hi hh_;refine z8 hh_ λo3 hno hst3 hMf3 q1_=>?_;clear hh_;subst q1_
   have e0:(0:Int)+(i:Int)=i:=cK _;rw[e0];have hi':i<rules.length:=by lia
   have hc3:=hst3 c _ hcf hcN;obtain⟨r,hr'⟩:∃ r,rs[i]?=some r:=⟨_,aa (by lia)⟩
   have hrN:=hrsN i r hr';have hr3:=hst3 r _ (l7 hrN hf) hrN;have hnl:(nm.getD i []).length<=100:=hN.len;k_extra "w";refine bJ3 ?_;k_extra "w"
   ·rename_i hiF
    exact hJ2 ⟨_,λk hk=>by
     rcases dG.mp hk with q | rfl
     ·exact hno k q
     ·unfold A5;rw[decide_eq_true hiF];rfl,hst3,hMf3,rfl⟩
   ·rename_i hiF
    refine Idx.mk (by lia) (by lia) (by lia) λx hx=>?_
    obtain rfl:x=.ref r:=by
     have e:(rs.map V.ref)[i]?=some (.ref r):=by rw[aw,hr'];rfl
     exact Option.some.inj (hx.symm.trans e)
    k_extra "w";refine CLoop.g (λrest acc M4=>M3=M4/\∃ done todo:List Int,nm.getD i []=done++todo/\rest=todo.map .int/\acc=(done.map λj=>decide (j∈F)).map V.bool) (by rw[ac];lia) ⟨rfl,[],_,rfl,rfl,rfl⟩ (λJ3 hJ3=>?_) ?_
    ·rintro v rest acc _ hh_;obtain⟨rfl,done,todo,e,hrest,rfl⟩:=hh_
     refine⟨hr3,?_⟩;cases todo with
     | nil=>cases hrest
     | cons j todo=>
      refine c6 (List.cons.inj hrest) λe1 q1_=>?_;subst q1_
      subst e1;k_extra "w";refine W7 ?_;exact hJ3 ⟨rfl,done++[j],todo,by rw[e,aH];rfl,rfl,by rw[av,av];rfl⟩
    ·rintro acc _ hh_;obtain⟨rfl,done,todo,e,hrest,rfl⟩:=hh_
     refine⟨hr3,λq hq=>?_⟩
     obtain rfl:todo=[]:=by cases todo with | nil=>rfl | cons _ _=>cases hrest
     rw[aS] at e;refine AllB.mk _ (c9 _ _ _) ?_;have ea:(done.map λj=>decide (j∈F)).all id=(d5 8 (rules.getD i .none) (Str.ofString "line")).all (ah8 F):=by
      rw[<- hn.all hi',e,fJ];rfl
     rw[ea];have hqf:f≠q:=l7 hMf3 hq;have hMf4:upd M3 q (.lst ((done.map λj=>decide (j∈F)).map V.bool)) f=some (.lst (F.map .int)):=i9 hMf3 hq
     have hst4:u4 f MN (upd M3 q (.lst ((done.map λj=>decide (j∈F)).map V.bool))):=hst3.sub (Sub.upd hq)
     k_extra "w"
     ·rename_i hall
      have hs:A5 rules F i=true:=by unfold A5;rw[decide_eq_false hiF,hall];rfl
      have hnext:Q3 rules F=some i:=bb2 hi' hs hno;exact hR2<|hJ ⟨rules.length-(F++[(i:Int)]).length,by rw[az];exact ao1 hlt,F++[(i:Int)],_,.snoc hF hnext,rfl,by rw[az];exact hlt,hst4.trans u4.upd,by rw[c9,av];rfl,rfl⟩
     ·rename_i hall
      exact hJ2 ⟨_,λk hk=>by
       rcases dG.mp hk with q | rfl
       ·exact hno k q
       ·unfold A5;rw[hall,dK],hst4,hMf4,rfl⟩
  ·rintro _ M3 hh_;refine z8 hh_ λo3 hno hst3 hMf3 q1_=>?_;clear hh_;subst q1_
   refine c5 (bL0 hn hacy hlt) λi hi=>?_
   refine c6 (ai8 hi) λh1 h2=>?_
   have h3:=hno i (by rw[hcl];lia)
   rw[h2] at h3;cases h3
 ·have hFe:F.length=rules.length:=by lia
  exact hR<|t9 (bC9 hsN hst hMf) (h f F (F1 hsN hf) hF hFe)
end
theorem bk9{α β:Type}(f:α->β)(l:List α)(i:Nat):(l.map f).eraseIdx i=(l.eraseIdx i).map f:=by
 induction l generalizing i with
 | nil=>rfl
 | cons x l ih=>cases i with
  | zero=>rfl
  | succ i=>exact congrArg (f x :: ·) (ih i)
section
variable{g:G}{d:Nat}{M:Hp}{Q:V->Hp->Prop}{X:Str->Hp->Prop}
theorem md{x k:Int}(h:0<k):0<=x%k/\x%k<k:=⟨Int.emod_nonneg _ (gO h),Int.emod_lt_of_pos _ h⟩
theorem bX6(N:Nm g){cell most:Int}(hm:7<=most)(hm':most<=40)(h:∀ m t c,1<=m->m<=most->0<=t->t<=5->0<=c->c<=8->Q (.tup [.int m,.int t,.int c]) M):c7 g (d+1) true "_law_sizes" [.int cell,.int most] M Q X:=by
 refine bf6 N ?_;have k7:∀ m t:Int,1<=m->m<=most->0<=t->t<=5->wSs g d true aA6 [some (.int cell),some (.int most),some (.int m),some (.int t),none] M (e9 Q) (xK X):=λm t a1 a2 a3 a4=>by
  have e1:=md (x:=cell / 88128) (k:=4) (by decide)
  have e2:=md (x:=cell / 2820096) (k:=5) (by decide)
  k_extra "w"
  ·exact d0 (h _ _ _ a1 a2 a3 a4 (by lia) (by lia))
  ·exact d0 (h _ _ _ a1 a2 a3 a4 (by lia) (by lia))
 have k4:∀ m:Int,1<=m->m<=most->wSs g d true al0 [some (.int cell),some (.int most),some (.int m),none,none] M (e9 Q) (xK X):=λm a1 a2=>by
  have e1:=md (x:=cell / 1224) (k:=3) (by decide)
  have e2:=md (x:=cell / 29376) (k:=3) (by decide)
  k_extra "w"
  ·exact Stop.mk (k7 _ _ a1 a2 (by lia) (by lia))
  ·exact Stop.mk (k7 _ _ a1 a2 (by lia) (by lia))
 have e1:=md (x:=cell) (k:=6) (by decide)
 have e2:=md (x:=cell / 36) (k:=most-6) (by lia)
 k_extra "w"
 ·exact Stop.mk (k4 _ (by lia) (by lia))
 ·exact Stop.mk (k4 _ (by lia) (by lia))
structure Prm(n:Nat)(O:List Int):Prop where
 len:O.length=n
 nd:O.Nodup
 rng:∀ x∈O,0<=x/\x<n
theorem av4(n:Nat):g9 0 1 n=((List.range n).map fun(i:Nat)=>(i:Int)).map V.int:=by
 unfold g9;rw[bI];refine List.map_congr_left λi z_=>?_
 show V.int (0+(i:Int)*1)=V.int i;rw[cK,Int.mul_one]
theorem bm9{l:List Int}{k:Nat}{x:Int}(h:l[k]?=some x)(hn:l.Nodup):x∉l.eraseIdx k/\(l.eraseIdx k).Nodup/\(∀ y,y∈l.eraseIdx k->y∈l)/\(l.eraseIdx k).length+1=l.length:=by
 obtain⟨hk,rfl⟩:=ay.mp h;refine⟨λq=>?_,hn.sublist (List.eraseIdx_sublist _ _),λy hy=>List.mem_of_mem_eraseIdx hy,by rw[List.length_eraseIdx,if_pos hk];exact fb (aM (aE _) hk)⟩
 refine a9 (List.mem_eraseIdx_iff_getElem?.mp q) λj hj e=>?_
 obtain⟨hj',e'⟩:=ay.mp e;exact hj ((dX hn).mp e')
theorem bv7{M:Hp}{s a b:Addr}{x x' y y' z z':AObj}:upd (upd (upd (upd (upd (upd M s x) a y) b z) s x') a y') b z'=upd (upd (upd M s x') a y') b z':=by
 funext c
 unfold upd;by_cases h1:c=b
 ·simp only[h1,if_true]
 ·by_cases h2:c=a
  ·simp only[h1,h2,if_true,if_false]
  ·by_cases h3:c=s
   ·simp only[h1,h2,h3,if_true,if_false]
   ·simp only[h1,h2,h3,if_false]
set_option tactic.hygienic true in
theorem bW4(N:Nm g){st:Addr}{n:Int}{many:Nat}(h0:0<=n)(h1:n<2147483647)(hz:many<=100)(h:∀ b O n',b≠st->M b=none->Prm many O->0<=n'->n'<2147483647->Q (.ref b) (upd (upd M st (.lst [.int n'])) b (.lst (O.map .int)))) :
  c7 g (d+2) true "_law_order" [.ref st,.int many] (upd M st (.lst [.int n])) Q X:=by
 refine bh9 N ?_;k_extra "w";rename_i a ha b hb;refine c6 (j5 ha) λha1 ha2=>?_
 refine c6 (j5 hb) λhb1 hb2=>?_
 refine c6 (j5 hb2) λhb3 hb4=>?_
 have lh:(g9 0 1 (many:Int).toNat).length=many:=by rw[show(many:Int).toNat=many from rfl,av4,ac,ac,bF]
 rw[show(many:Int).toNat=many from rfl,av4]
 refine Whl.g (λm Z' M'=>∃ (L O:List Int) (n:Int),m=L.length/\L.length+O.length=many/\O.Nodup/\L.Nodup/\(∀ x∈O,x∉L)/\(∀ x,x∈O∨x∈L->0<=x/\x<many)/\0<=n/\n<2147483647/\M'=upd (upd (upd M st (.lst [.int n])) a (.lst (L.map .int))) b (.lst (O.map .int))/\
  Z'=[some (.ref st),some (.int many),some (.ref a),some (.ref b)]) many ⟨_,[],n,?_,?_,.nil,?_,λx hx=>(by cases hx),?_,h0,h1,rfl,rfl⟩ λR J hR hJ=>?_
 ·rw[ac,bF]
 ·rw[ac,bF];rfl
 ·exact List.Pairwise.map _ (λa b hab e=>hab (Int.ofNat.inj e)) List.nodup_range
 ·rintro x (hx | hx)
  ·cases hx
  ·refine a9 (ar.mp hx) λi hi q1_=>?_;subst q1_
   exact⟨aT i,eL.mpr (cb.mp hi)⟩
 ·rintro m _ _ hh_;obtain⟨L,O,n,rfl,hlo,hO,hL,hd,hr,h0,h1,rfl,rfl⟩:=hh_
  have hl1:(L.map V.int).length=L.length:=ac _;have hl2:(O.map V.int).length=O.length:=ac _;have hab:b≠a:=hb1;k_extra "w"
  ·rename_i hpos
   refine G6 N (n:=n) (by k_extra "heap") h0 h1 (by lia) (by lia) λr n' hr0 hr1 hn hn'=>?_
   k_extra "w";intro x hx;rw[aw] at hx;refine a9 (aJ.mp hx) λy hy q1_=>?_;subst q1_
   refine ae1 (bm9 hy hL) λe1 e2 e3 e4=>?_
   k_extra "w";refine hJ ⟨(L.eraseIdx r.toNat).length,by lia,L.eraseIdx r.toNat,O++[y],n',rfl,by rw[az];show _+(O.length+1)=_;lia,?_,e2,?_,?_,hn,hn',?_,rfl⟩
   ·refine bk.mpr ⟨hO,by simp,λu hu w hw q=>?_⟩
    rw[aj.mp hw] at q;exact hd u hu (q▸aI hy)
   ·intro u hu q
    rcases aq.mp hu with hu | hu
    ·exact hd u hu (e3 u q)
    ·rw[aj.mp hu] at q;exact e1 q
   ·rintro u (hu | hu)
    ·rcases aq.mp hu with hu | hu
     ·exact hr u (.inl hu)
     ·rw[aj.mp hu];exact hr y (.inr (aI hy))
    ·exact hr u (.inr (e3 u hu))
   ·rw[bk9,bv7,av];rfl
  ·obtain rfl:L=[]:=cg.mp (by lia)
   refine hR<|t9 ?_ (h b O n hb3 hb4 ⟨by simpa using hlo,hO,λx hx=>hr x (.inl hx)⟩ h0 h1)
   exact B5 (Sub.upd (by rw[d6 _ _ ha1];exact ha2))
end
noncomputable def t8(p:Int×Int×Int):V:=.tup [.int p.1,.int p.2.1,.int p.2.2]
structure RowB(p:Int×Int×Int):Prop where
 a0:0-1000000000<=p.1
 a1:p.1<=1000000000
 b0:0-1000000000<=p.2.1
 b1:p.2.1<=1000000000
 c0:0<=p.2.2
 c1:p.2.2<=100
theorem RowB.ok{p:Int×Int×Int}(h:RowB p):r9 (t8 p)=true:=by
 show(m8 (.int p.1) _ _&&(m8 (.int p.2.1) _ _&&m8 (.int p.2.2) _ _))=true;rw[w6 h.a0 h.a1,w6 h.b0 h.b1,w6 h.c0 h.c1];rfl
theorem bR1{M:Hp}(p:Int×Int×Int):Cld M (t8 p):=.t3 (.int _) (.int _) (.int _)
theorem bA7{R:List (Int×Int×Int)}(h1:1<=R.length)(h20:R.length<=20)(hv:∀ p∈R,RowB p)(hp:R.Pairwise (λp q=>p.1<q.1)):u7 (.tup (R.map t8))=true:=by
 show((decide (1<=(R.map t8).length)&&decide ((R.map t8).length<=20))&&((R.map t8).all r9&&(List.range ((R.map t8).length-1)).all (B9 (R.map t8))))=true;rw[ac,decide_eq_true h1,decide_eq_true h20];have e1:(R.map t8).all r9=true:=by
  rw[aW];intro x hx;refine a9 (ar.mp hx) λp hp q1_=>?_;subst q1_
  exact(hv p hp).ok
 rw[e1];show(List.range (R.length-1)).all _=true;rw[aW];intro k hk;have hk:k<R.length-1:=cb.mp hk;have hk1:k<R.length:=aA hk (cj _ _);have hk2:k+1<R.length:=Nat.add_lt_of_lt_sub hk;unfold B9;have g1:(R.map t8)[k]?=some (t8 R[k]):=by rw[aw,aa hk1];rfl
 have g2:(R.map t8)[k+1]?=some (t8 R[k+1]):=by rw[aw,aa hk2];rfl
 rw[V7 g1,V7 g2];exact decide_eq_true (cw.mp hp k (k+1) hk1 hk2 (bp k))
noncomputable def i6(a b:Addr)(M M':Hp):Prop:=∀ c o,c≠a->c≠b->M c=some o->M' c=some o
theorem i6.trans{a b:Addr}{M zs M2:Hp}(h:i6 a b M zs)(k:i6 a b zs M2):i6 a b M M2:=λc o h1 h2 e=>k c o h1 h2 (h c o h1 h2 e)
theorem i6.l{a b:Addr}{M:Hp}{x:AObj}:i6 a b M (upd M a x):=λc o h1 z_ e=>by rw[d6 _ _ h1];exact e
theorem i6.r{a b:Addr}{M:Hp}{x:AObj}:i6 a b M (upd M b x):=λc o z_ h2 e=>by rw[d6 _ _ h2];exact e
theorem i6.sub{a b:Addr}{M zs M2:Hp}(h:i6 a b M zs)(k:Sub zs M2):i6 a b M M2:=λc o h1 h2 e=>k c o (h c o h1 h2 e)
section
variable{g:G}{d:Nat}{M:Hp}{Q:V->Hp->Prop}{X:Str->Hp->Prop}
theorem X8(N:Nm g){st:Addr}{n:Int}(hst:M st=some (.lst [.int n]))(h0:0<=n)(h1:n<2147483647)(h:∀ r n',-1000000000<=r->r<=1000000000->0<=n'->n'<2147483647->Q (.int r) (upd M st (.lst [.int n']))):c7 g (d+2) true "_law_number" [.ref st] M Q X:=by
 have:=av3 (d:=d) (M:=M) (Q:=Q) (X:=X) N (st:=st) h0 h1 h;rw[L7 hst] at this;exact this
open Internal renaming G6->y16,X8->y17
theorem cl3:True:=by
 k_with "call"=>first | (refine y16 (by assumption) (by k_extra "heap") (by assumption) (by assumption) (by k_extra "n") (by k_extra "n") ?_;intro _ _ _ _ _ _) | (refine y17 (by assumption) (by k_extra "heap") (by assumption) (by assumption) ?_;intro _ _ _ _ _ _)
 trivial
theorem ad4(N:Nm g){st ra:Addr}{n s pct k:Int}{many:V}{R:List V}{QQ:d4}{XX:g7}(hne:ra≠st)(hst:M st=some (.lst [.int n]))(hra:M ra=some (.lst R))(hR:R.length<=100)(h0:0<=n)(h1:n<2147483647)
  (hq:∀ num s' n' M',-1000000000<=num->num<=1000000000->s+1<=s'->s'<=s+20000->0<=n'->n'<2147483647->M' st=some (.lst [.int n'])->M' ra=some (.lst (R++[.tup [.int s,.int num,.int pct]]))->i6 st ra M M'->
   QQ .next [some (.ref st),some many,some (.int s'),some (.ref ra),some (.int k),some (.int pct)] M') :
  wSs g (d+2) true aM7 [some (.ref st),some many,some (.int s),some (.ref ra),some (.int k),some (.int pct)] M QQ XX:=by
 have hne':=Ne.symm hne;k_extra "w"
 ·exact hq _ _ _ _ (by assumption) (by assumption) (by lia) (by lia) (by assumption) (by assumption) (c9 _ _ _) (by k_extra "heap") (((i6.l.trans i6.r).trans i6.l).trans (i6.l.trans i6.l))
 ·exact hq _ _ _ _ (by assumption) (by assumption) (by lia) (by lia) (by assumption) (by assumption) (c9 _ _ _) (by k_extra "heap") (((i6.l.trans i6.r).trans i6.l).trans (i6.l.trans i6.l))
end
section
variable{g:G}{d:Nat}{M:Hp}{Q:V->Hp->Prop}{X:Str->Hp->Prop}
theorem aV1{st ra:Addr}{M M':Hp}{o:AObj}(h1:i6 st ra M M')(h2:M' st=some o)(h3:M ra=none):Sub (upd M st o) M':=λa o' e=>by
 by_cases q:a=st
 ·subst q;rw[c9] at e;rw[h2];exact e
 ·rw[d6 _ _ q] at e
  exact h1 a o' q (λq=>by rw[q,h3] at e;cases e) e
open Internal renaming G6->y18,X8->y19
theorem cl4:True:=by
 k_with "call"=>first | (refine y18 (by assumption) (by k_extra "heap") (by assumption) (by assumption) (by k_extra "n") (by k_extra "n") ?_;intro _ _ _ _ _ _) | (refine y19 (by assumption) (by k_extra "heap") (by assumption) (by assumption) ?_;intro _ _ _ _ _ _)
 trivial
def at9(st ra:Addr)(M:Hp)(s:Int)(many:Nat)(i:Nat)(Z':Lo)(M':Hp):Prop:=
 ∀ P_:Prop,(∀ (R:List (Int×Int×Int)) (s' n':Int) (o4 o5:Option V) (hl:R.length=i) (hb:∀ p∈R,RowB p) (hp:R.Pairwise (λp q=>p.1<q.1)) (hlt:∀ p∈R,p.1<s') (hs:s<=s') (hs':s'<=s+20000*i) (hn:0<=n') (hn':n'<2147483647)
  (hst:M' st=some (.lst [.int n'])) (hra:M' ra=some (.lst (R.map t8))) (hS:i6 st ra M M') (e:Z'=[some (.ref st),some (.int many),some (.int s'),some (.ref ra),o4,o5]),P_)->P_
set_option tactic.hygienic true in
theorem bL3(N:Nm g){st:Addr}{n s:Int}{many:Nat}(hst:M st=some (.lst [.int n]))(h0:0<=n)(h1:n<2147483647)(hm1:1<=many)(hm20:many<=20)(hs0:0-1000000000<=s)(hs1:s+20000*many<=1000000000)
  (h:∀ t n',u7 t=true->(∀ M,Cld M t)->0<=n'->n'<2147483647->Q t (upd M st (.lst [.int n']))) :
  wSs g (d+2) true Z8 [some (.ref st),some (.int many),some (.int s),none,none,none] M (e9 Q) (xK X):=by
 k_extra "w";rename_i ra hra;have hne:ra≠st:=λe=>by rw[e,hst] at hra;cases hra
 refine A6 (at9 st ra M s many) (λ_ k_=>k_ [] s n none none rfl (λp hp=>(by cases hp)) .nil (λp hp=>(by cases hp)) (bK _) (by lia) h0 h1 (i9 hst hra) (c9 _ _ _) i6.r rfl) (λR J hR hJ=>?_) ?_
 ·rintro i _ M' hi hh_;refine hh_ _ ?_;clear hh_;rintro R s' n' o4 o5 hl hb hp hlt hs hs' hn hn' hst' hra' hSt rfl
  have hRl:(R.map t8).length<=100:=by rw[ac];lia
  have fin:∀ pct num s2 n2 M3 o4 o5,0<=pct->pct<=100->-1000000000<=num->num<=1000000000->s'+1<=s2->s2<=s'+20000->0<=n2->n2<2147483647->M3 st=some (.lst [.int n2])->M3 ra=some (.lst (R.map t8++[.tup [.int s',.int num,.int pct]]))->i6 st ra M M3->
    at9 st ra M s many (i+1) [some (.ref st),some (.int many),some (.int s2),some (.ref ra),o4,o5] M3:=λpct num s2 n2 M3 o4 o5 p0 p1 q0 q1 q2 q3 q4 q5 q6 q7 q8=>by
   refine(λ_ k_=>k_ (R++[(s',num,pct)]) s2 n2 _ _ (by rw[az,hl];rfl) (λp hp'=>?_) (bb.mpr ⟨hp,by simp,λp hp' q hq=>by rw[aj.mp hq];exact hlt p hp'⟩) (λp hp'=>?_) (by lia) (by lia) q4 q5 q6 (by rw[q7,av];rfl) q8 rfl)
   ·rcases aq.mp hp' with q | q
    ·exact hb p q
    ·rw[aj.mp q];exact⟨by show _<=s';lia,by show s'<=_;lia,by show _<=num;lia,by show num<=_;lia,p0,p1⟩
   ·rcases aq.mp hp' with q | q
    ·have:=hlt p q;lia
    ·rw[aj.mp q];show s'<s2;lia
  k_extra "w"
  ·exact Stop.mk (ad4 (d:=d) N hne (c9 _ _ _) (by k_extra "heap") hRl (by assumption) (by assumption) λnum s2 n2 M3 q0 q1 q2 q3 q4 q5 q6 q7 q8=>RJ.next hi (hJ (fin _ num s2 n2 M3 _ _ (by decide) (by decide) q0 q1 q2 q3 q4 q5 q6 q7 (((hSt.trans i6.l).trans i6.l).trans q8))))
  ·exact Stop.mk (ad4 (d:=d) N hne (c9 _ _ _) (by k_extra "heap") hRl (by assumption) (by assumption) λnum s2 n2 M3 q0 q1 q2 q3 q4 q5 q6 q7 q8=>RJ.next hi (hJ (fin _ num s2 n2 M3 _ _ (by decide) (by decide) q0 q1 q2 q3 q4 q5 q6 q7 (((hSt.trans i6.l).trans i6.l).trans q8))))
  ·rename_i pct _ p0 p1 _ _ _ _ _ _ _ _ _
   exact Stop.mk (ad4 (d:=d) N hne (c9 _ _ _) (by k_extra "heap") hRl (by assumption) (by assumption) λnum s2 n2 M3 q0 q1 q2 q3 q4 q5 q6 q7 q8=>RJ.next hi (hJ (fin _ num s2 n2 M3 _ _ p0 (by lia) q0 q1 q2 q3 q4 q5 q6 q7 (((hSt.trans i6.l).trans i6.l).trans q8))))
 ·rintro _ M' hh_;refine hh_ _ ?_;clear hh_;rintro R s' n' o4 o5 hl hb hp hlt hs hs' hn hn' hst' hra' hSt rfl
  have hl:R.length=many:=by rw[hl];lia
  have hRl:(R.map t8).length<=10000:=by rw[ac];lia
  k_extra "w";refine t9 (aV1 hSt hst' hra) (h _ n' (bA7 (by lia) (by lia) hb hp) (λM=>.tup (by rw[ac];lia) λx hx=>?_) hn hn')
  refine a9 (ar.mp hx) λp _ q1_=>?_;subst q1_
  exact bR1 p
end
section
variable{g:G}{d:Nat}{M:Hp}{Q:V->Hp->Prop}{X:Str->Hp->Prop}
open Internal renaming K3->y20
theorem cl5:True:=by
 k_with "call"=>(refine y20 (by assumption) (by k_extra "n") (by k_extra "n") (by k_extra "n") (by k_extra "n") ?_;intro _ _ _ _ _ _)
 trivial
theorem bH0(N:Nm g){st:Addr}{n:Int}(h0:0<=n)(h1:n<2147483647)(h:∀ t n',u7 t=true->(∀ M,Cld M t)->0<=n'->n'<2147483647->Q t (upd M st (.lst [.int n']))) :
  c7 g (d+3) true "_law_table" [.ref st] (upd M st (.lst [.int n])) Q X:=by
 refine bi9 N ?_;have k5:∀ (n s m:Int),0<=n->n<2147483647->1<=m->m<=20->0-1000000000<=s->s+20000*m<=1000000000->wSs g (d+2) true Z8 [some (.ref st),some (.int m),some (.int s),none,none,none] (upd M st (.lst [.int n])) (e9 Q) (xK X):=λn s m a3 a4 a5 a6 a7 a8=>by
  obtain⟨m,rfl⟩:=bv (show 0<=m by lia)
  refine bL3 N (c9 _ _ _) a3 a4 (by lia) (by lia) a7 a8 λt n' b1 b2 b3 b4=>?_
  rw[N5];exact h t n' b1 b2 b3 b4
 have k4:∀ (n m:Int),0<=n->n<2147483647->1<=m->m<=20->wSs g (d+2) true aN0 [some (.ref st),some (.int m),none,none,none,none] (upd M st (.lst [.int n])) (e9 Q) (xK X):=λn m a3 a4 a5 a6=>by
  k_extra "w";all_goals exact Stop.mk (k5 _ _ _ (by assumption) (by assumption) a5 a6 (by lia) (by lia))
 k_extra "w"
 ·exact Stop.mk (k4 _ _ (by assumption) (by assumption) (by lia) (by lia))
 ·exact Stop.mk (k4 _ _ (by assumption) (by assumption) (by lia) (by lia))
end
theorem z6{z:Lim}{n:Nat}{w:Str}{args:List V}(h1:siz w=some ((args.length:Int)+1))(h2:fit z w args=true)(h3:∀ x∈f4 w args,ok z n x=true):ok z (n+1) (.tup (.str w::args))=true:=by
 show((siz w==some ((args.length:Int)+1))&&fit z w args&&(f4 w args).all (ok z n))=true;rw[h1,h2,aW.mpr h3,beq_self_eq_true];rfl
theorem GR.mono{z:Lim}{see see':Int->Prop}{wd wd':Str->Prop}(hs:∀ i,see i->see' i)(hw:∀ x,wd x->wd' x){d:Nat}{r:V}(h:GR z see wd d r):GR z see' wd' d r:=by
 induction h with
 | num a b=>exact .num a b
 | line a=>exact .line (hs _ a)
 | earlier a b=>exact .earlier a b
 | paper a=>exact .paper (hw _ a)
 | part _ a b ih=>exact .part ih a b
 | table _ a b ih=>exact .table ih a b
 | twol a _ _ i1 i2=>exact .twol a i1 i2
 | twor a _ _ i1 i2=>exact .twor a i1 i2
 | wherl _ _ _ i1 i2 i3=>exact .wherl i1 i2 i3
 | wherr _ _ _ i1 i2 i3=>exact .wherr i1 i2 i3
 | chol a b _ _ i1 i2=>exact .chol a b i1 i2
 | chor a b _ _ i1 i2=>exact .chor a b i1 i2
theorem O8{x a:V}{l:List V}{P:V->Prop}(e:l=[a])(h:P a)(hx:x∈l):P x:=by subst e;rw[aj.mp hx];exact h
theorem D7{x a b:V}{l:List V}{P:V->Prop}(e:l=[a,b])(ha:P a)(hb:P b)(hx:x∈l):P x:=by
 subst e;rcases au.mp hx with rfl | hx
 ·exact ha
 ·exact O8 rfl hb hx
theorem W3{x a b c:V}{l:List V}{P:V->Prop}(e:l=[a,b,c])(ha:P a)(hb:P b)(hc:P c)(hx:x∈l):P x:=by
 subst e;rcases au.mp hx with rfl | hx
 ·exact ha
 ·exact D7 rfl hb hc hx
theorem aD5{z:Lim}{w:Str}{l:List V}(a:w∈[("add" : Str),"take","least","most"]):fit z w l=true:=by
 simp only[au,aO,or_false] at a
 rcases a with rfl | rfl | rfl | rfl
 ·exact az2 _ _
 ·exact aI7 _ _
 ·exact ap0 _ _
 ·exact at3 _ _
theorem GR.ok{z:Lim}{see:Int->Prop}{wd:Str->Prop}(hs:∀ i,see i->0<=i/\i<z.L)(hw:∀ x,wd x->j7 x=true){d:Nat}{r:V}(h:GR z see wd d r):∀ {n:Nat},d<=n->Internal.ok z n r=true:=by
 induction h with
 | num a b=>intro n hn;refine a9 (n9 hn) λn q1_ hk=>?_;subst q1_;exact z6 bn2 (by rw[V6];exact w6 a b) λx hx=>by rw[aa3] at hx;cases hx
 | line a=>intro n hn;refine a9 (n9 hn) λn q1_ hk=>?_;subst q1_;exact z6 bj7 (by rw[P8];exact w6 (hs _ a).1 (cQ (hs _ a).2)) λx hx=>by rw[aa0] at hx;cases hx
 | earlier a b=>intro n hn;refine a9 (n9 hn) λn q1_ hk=>?_;subst q1_;exact z6 bc9 (by rw[P4];exact w6 a (cQ b)) λx hx=>by rw[Z9] at hx;cases hx
 | paper a=>intro n hn;refine a9 (n9 hn) λn q1_ hk=>?_;subst q1_;exact z6 aQ0 (by rw[P5];exact hw _ a) λx hx=>by rw[ae9] at hx;cases hx
 | part _ a b ih=>intro n hn;refine a9 (n9 hn) λn q1_ hk=>?_;subst q1_;exact z6 aA7 (by rw[X4];exact w6 a b) λx hx=>O8 (P:=λx=>Internal.ok z n x=true) (G1 _) (ih hk) hx
 | table _ a b ih=>intro n hn;refine a9 (n9 hn) λn q1_ hk=>?_;subst q1_;exact z6 bm6 (by rw[R8];exact w6 a (cQ b)) λx hx=>O8 (P:=λx=>Internal.ok z n x=true) (G3 _) (ih hk) hx
 | twol a _ _ i1 i2=>intro n hn;refine a9 (n9 hn) λn q1_ hk=>?_;subst q1_;exact z6 (aG1 a) (aD5 a) λx hx=>D7 (P:=λx=>Internal.ok z n x=true) (K1 a) (i1 hk) (i2 (ae (be _ _) hk)) hx
 | twor a _ _ i1 i2=>intro n hn;refine a9 (n9 hn) λn q1_ hk=>?_;subst q1_;exact z6 (aG1 a) (aD5 a) λx hx=>D7 (P:=λx=>Internal.ok z n x=true) (K1 a) (i1 (ae (be _ _) hk)) (i2 hk) hx
 | wherl _ _ _ i1 i2 i3=>intro n hn;refine a9 (n9 hn) λn q1_ hk=>?_;subst q1_;exact z6 au6 (aa8 _ _) λx hx=>W3 (P:=λx=>Internal.ok z n x=true) (v0 _) (i1 hk) (i2 (ae (be _ _) hk)) (i3 (ae (be _ _) hk)) hx
 | wherr _ _ _ i1 i2 i3=>intro n hn;refine a9 (n9 hn) λn q1_ hk=>?_;subst q1_;exact z6 au6 (aa8 _ _) λx hx=>W3 (P:=λx=>Internal.ok z n x=true) (v0 _) (i1 (ae (be _ _) hk)) (i2 hk) (i3 (ae (be _ _) hk)) hx
 | chol a b _ _ i1 i2=>intro n hn;refine a9 (n9 hn) λn q1_ hk=>?_;subst q1_;exact z6 aG8 (by rw[Ma2];exact w6 a (cQ b)) λx hx=>D7 (P:=λx=>Internal.ok z n x=true) (v7 _) (i1 hk) (i2 (ae (be _ _) hk)) hx
 | chor a b _ _ i1 i2=>intro n hn;refine a9 (n9 hn) λn q1_ hk=>?_;subst q1_;exact z6 aG8 (by rw[Ma2];exact w6 a (cQ b)) λx hx=>D7 (P:=λx=>Internal.ok z n x=true) (v7 _) (i1 (ae (be _ _) hk)) (i2 hk) hx
set_option tactic.hygienic true in
theorem x9{n:Nat}{w:Str}{args:List V}{u:Str}{y:V}(h:y∈d5 n (.tup (.str w::args)) u):(w=u/\y=arg args 0)∨∃ m,n=m+1/\∃ x∈f4 w args,y∈d5 m x u:=by
 cases n with
 | zero=>cases h
 | succ n=>
  simp only[B6,aq,dj,ar] at h
  rcases h with h | ⟨_,⟨r,hr,rfl⟩,h⟩
  ·split at h
   ·rename_i e;exact .inl ⟨beq_iff_eq.mp e,aj.mp h⟩
   ·cases h
  ·exact .inr ⟨n,rfl,r,hr,h⟩
theorem GR.line_see{z:Lim}{see:Int->Prop}{wd:Str->Prop}{d:Nat}{r:V}(h:GR z see wd d r):∀ {n:Nat},∀ y∈d5 n r (Str.ofString "line"),∃ i,y=.int i/\see i:=by
 have two:∀ {w:Str},w∈[("add" : Str),"take","least","most"]->w≠Str.ofString "line":=fun{w} a e=>by subst e;revert a;decide +kernel
 induction h with
 | num a b=>intro n y hy;rcases x9 hy with ⟨e,-⟩ | ⟨m,-,x,hx,-⟩;exact absurd e (by decide +kernel);rw[aa3] at hx;cases hx
 | line a=>intro n y hy;rcases x9 hy with ⟨-,e⟩ | ⟨m,-,x,hx,-⟩;exact⟨_,e,a⟩;rw[aa0] at hx;cases hx
 | earlier a b=>intro n y hy;rcases x9 hy with ⟨e,-⟩ | ⟨m,-,x,hx,-⟩;exact absurd e (by decide +kernel);rw[Z9] at hx;cases hx
 | paper a=>intro n y hy;rcases x9 hy with ⟨e,-⟩ | ⟨m,-,x,hx,-⟩;exact absurd e (by decide +kernel);rw[ae9] at hx;cases hx
 | part _ a b ih=>intro n y hy;rcases x9 hy with ⟨e,-⟩ | ⟨m,-,x,hx,q⟩;exact absurd e (by decide +kernel);exact O8 (P:=λx=>y∈d5 m x _->_) (G1 _) (ih y) hx q
 | table _ a b ih=>intro n y hy;rcases x9 hy with ⟨e,-⟩ | ⟨m,-,x,hx,q⟩;exact absurd e (by decide +kernel);exact O8 (P:=λx=>y∈d5 m x _->_) (G3 _) (ih y) hx q
 | twol a _ _ i1 i2=>intro n y hy;rcases x9 hy with ⟨e,-⟩ | ⟨m,-,x,hx,q⟩;exact absurd e (two a);exact D7 (P:=λx=>y∈d5 m x _->_) (K1 a) (i1 y) (i2 y) hx q
 | twor a _ _ i1 i2=>intro n y hy;rcases x9 hy with ⟨e,-⟩ | ⟨m,-,x,hx,q⟩;exact absurd e (two a);exact D7 (P:=λx=>y∈d5 m x _->_) (K1 a) (i1 y) (i2 y) hx q
 | wherl _ _ _ i1 i2 i3=>intro n y hy;rcases x9 hy with ⟨e,-⟩ | ⟨m,-,x,hx,q⟩;exact absurd e (by decide +kernel);exact W3 (P:=λx=>y∈d5 m x _->_) (v0 _) (i1 y) (i2 y) (i3 y) hx q
 | wherr _ _ _ i1 i2 i3=>intro n y hy;rcases x9 hy with ⟨e,-⟩ | ⟨m,-,x,hx,q⟩;exact absurd e (by decide +kernel);exact W3 (P:=λx=>y∈d5 m x _->_) (v0 _) (i1 y) (i2 y) (i3 y) hx q
 | chol a b _ _ i1 i2=>intro n y hy;rcases x9 hy with ⟨e,-⟩ | ⟨m,-,x,hx,q⟩;exact absurd e (by decide +kernel);exact D7 (P:=λx=>y∈d5 m x _->_) (v7 _) (i1 y) (i2 y) hx q
 | chor a b _ _ i1 i2=>intro n y hy;rcases x9 hy with ⟨e,-⟩ | ⟨m,-,x,hx,q⟩;exact absurd e (by decide +kernel);exact D7 (P:=λx=>y∈d5 m x _->_) (v7 _) (i1 y) (i2 y) hx q
structure FG(rules tabs:List V)(C owed:Int)(rk:Int->Nat):Prop where
 gr:∀ (i:Nat) r,rules[i]?=some r->GR ⟨rules.length,tabs.length,C⟩ (λj=>(0<=j/\j<rules.length)/\rk j<rk i) (λx=>j7 x=true) 8 r
 l1:1<=rules.length
 l40:rules.length<=40
 t5:tabs.length<=5
 tab:∀ t∈tabs,u7 t=true/\∀ M,Cld M t
 c0:0<=C
 c8:C<=8
 o0:0<=owed
 o1:owed<rules.length
theorem FG.form{rules tabs:List V}{C owed:Int}{rk:Int->Nat}(h:FG rules tabs C owed rk):FormOK rules tabs C owed:=by
 refine⟨λr hr=>?_,h.l1,h.l40,h.t5,h.tab,h.c0,h.c8,h.o0,h.o1,λnm hn=>⟨rk,?_⟩⟩
 ·refine c5 (dc.mp hr) λi hi=>?_
  have hg:=h.gr i r hi;have hk:=hg.ok (λj hj=>hj.1) (λx hx=>hx) (aC 8)
  exact⟨hk,λu=>hg.few.lt u hk,λM=>hg.cld λx hx=>hx⟩
 ·have key:∀ (i:Nat),∀ j∈nm.getD i [],(0<=j/\j<(rules.length:Int))/\rk j<rk i:=λi j hj=>by
   by_cases hi:i<rules.length
   ·have hm:=hn.iff i _ _ (A0 (x:=[]) (hn.len▸hi)) (A0 (x:=.none) hi)
    refine a9 ((h.gr i _ (A0 (x:=.none) hi)).line_see _ ((hm _).mp (ar.mpr ⟨j,hj,rfl⟩))) λk e hk=>?_
    rw[V.int.inj e];exact hk
   ·rw[aF,gj (by rw[hn.len];exact cn hi)] at hj;cases hj
  exact⟨λi j hj=>by rw[hn.len];exact(key i j hj).1,λi j hj=>(key i j hj).2⟩
theorem l9{a b:Addr}(h:a≠b):a∉[b]:=λq=>h (aj.mp q)
noncomputable def d7(A:List Addr)(M M':Hp):Prop:=∀ c o,c∉A->M c=some o->M' c=some o
theorem d7.refl{A:List Addr}{M:Hp}:d7 A M M:=λz_ z_ z_ e=>e
theorem d7.trans{A:List Addr}{M zs M2:Hp}(h:d7 A M zs)(k:d7 A zs M2):d7 A M M2:=λc o h1 e=>k c o h1 (h c o h1 e)
theorem d7.upd{A:List Addr}{M:Hp}{a:Addr}{x:AObj}(h:a∈A):d7 A M (Internal.upd M a x):=λc o h1 e=>by rw[d6 M x (fun(q:c=a)=>h1 (by rw[q];exact h))];exact e
theorem d7.new{A:List Addr}{M:Hp}{a:Addr}{x:AObj}(h:M a=none):d7 A M (Internal.upd M a x):=λc o h1 e=>Sub.upd h _ _ e
theorem d7.sub{A:List Addr}{M zs:Hp}(h:d7 A M zs)(hA:∀ a∈A,M a=none):Sub M zs:=λc o e=>h c o (λq=>by rw[hA c q] at e;cases e) e
section
variable{g:G}{d:Nat}{M:Hp}{Q:V->Hp->Prop}{X:Str->Hp->Prop}
theorem aT5(N:Nm g){st sl wl:Addr}{z:Lim}{seen:List Int}{ws:List Str}(S:Src M st sl wl z seen ws)(m:Nat){n e:Int}(hst:M st=some (.lst [.int n]))(he:e=((m+1:Nat):Int))(hm:m<8)(h0:0<=n)(h1:n<2147483647)
  (h:∀ r n',GR z (·∈seen) (·∈ws) (m+1) r->0<=n'->n'<2147483647->Q r (upd M st (.lst [.int n']))) :
  c7 g (d+12) true "_law_rule" [.ref st,.int e,.ref sl,.tup [.int z.L,.int z.T,.int z.C],.ref wl] M Q X:=by
 have:=be9 (X:=X) N S m (d:=0) (Q:=Q) he hm h0 h1 h;rw[L7 hst] at this;exact this.deep (by k_extra "n")
theorem ce4(N:Nm g){st:Addr}{n:Int}{many:Nat}(hst:M st=some (.lst [.int n]))(h0:0<=n)(h1:n<2147483647)(hz:many<=100)(h:∀ b O n',b≠st->M b=none->Prm many O->0<=n'->n'<2147483647->Q (.ref b) (upd (upd M st (.lst [.int n'])) b (.lst (O.map .int)))) :
  c7 g (d+2) true "_law_order" [.ref st,.int many] M Q X:=by
 have:=bW4 (X:=X) (d:=d) N (st:=st) h0 h1 hz h;rw[L7 hst] at this;exact this
theorem bz2(N:Nm g){st:Addr}{n:Int}(hst:M st=some (.lst [.int n]))(h0:0<=n)(h1:n<2147483647)(h:∀ t n',u7 t=true->(∀ M,Cld M t)->0<=n'->n'<2147483647->Q t (upd M st (.lst [.int n']))) :
  c7 g (d+3) true "_law_table" [.ref st] M Q X:=by
 have:=bH0 (X:=X) (d:=d) N (st:=st) h0 h1 h;rw[L7 hst] at this;exact this
def FmJ(sa st la sl wl:Addr)(most:Int)(z:Lim)(m:Nat)(ws:List Str)(O:List Int)(M:Hp)(rest:List V)(Z':Lo)(M':Hp):Prop:=
 ∀ P_:Prop,(∀ (done todo:List Int) (n:Int) (R:List V) (o7 o8:Option V) (e1:O=done++todo) (e2:rest=todo.map .int) (hst:M' st=some (.lst [.int n])) (h0:0<=n) (h1:n<2147483647) (hla:M' la=some (.lst R)) (hR:R.length=m) (hsl:M' sl=some (.lst (done.map .int)))
  (hG:∀ (i:Nat) r,(i:Int)∈done->R[i]?=some r->GR z (λj=>(0<=j/\j<m)/\O.idxOf j<O.idxOf (i:Int)) (λx=>j7 x=true) 8 r) (hS:d7 [st,la,sl] M M')
  (e:Z'=[some (.ref sa),some (.int most),some (.ref st),some (.tup [.int z.L,.int z.T,.int z.C]),some (.ref wl),some (.ref la),some (.ref sl),o7,o8,none]),P_)->P_
set_option tactic.hygienic true in
theorem am6(N:Nm g){sa st la sl wl:Addr}{most n deep:Int}{z:Lim}{m:Nat}{ws:List Str}{seen:List Int}{R:List V}{x:Nat}{o9:Option V}{QQ:d4}{XX:g7}(hst:M st=some (.lst [.int n]))(h0:0<=n)(h1:n<2147483647)(hla:M la=some (.lst R))(hsl:M sl=some (.lst (seen.map .int)))(hwl:M wl=some (.lst (ws.map .str)))
  (n1:la≠st) (n2:sl≠st) (n3:la≠sl) (n4:wl≠st) (hd1:1<=deep) (hd8:deep<=8) (hzL:1<=z.L) (hzL':z.L<=100) (hzT:0<=z.T) (hzT':z.T<=100) (hzC:0<=z.C) (hzC':z.C<=100) (hs:seen.length<=100) (hw1:1<=ws.length) (hw2:ws.length<=100) (hx:x<R.length) (hR:R.length<=100)
  (hq:∀ r n' M',GR z (·∈seen) (·∈ws) 8 r->0<=n'->n'<2147483647->M' st=some (.lst [.int n'])->M' la=some (.lst (R.set x r))->M' sl=some (.lst ((seen++[(x:Int)]).map .int))->d7 [st,la,sl] M M'->
   QQ .next [some (.ref sa),some (.int most),some (.ref st),some (.tup [.int z.L,.int z.T,.int z.C]),some (.ref wl),some (.ref la),some (.ref sl),some (.int x),some (.int deep),o9] M') :
  wSs g (d+12) true aM9 [some (.ref sa),some (.int most),some (.ref st),some (.tup [.int z.L,.int z.T,.int z.C]),some (.ref wl),some (.ref la),some (.ref sl),some (.int x),some (.int deep),o9] M QQ XX:=by
 have n1':=Ne.symm n1;have n2':=Ne.symm n2;have n3':=Ne.symm n3;have hsz:(seen.map V.int).length<=100:=by rw[ac];exact hs
 have hwz:(ws.map V.str).length=ws.length:=ac _;k_extra "w";rename_i q hq';have hqst:q≠st:=λe=>by rw[e,hst] at hq';cases hq'
 have hqla:la≠q:=l7 hla hq';have hqsl:sl≠q:=l7 hsl hq';obtain⟨m',hm'⟩:∃ m':Nat,deep=((m'+1:Nat):Int):=⟨(deep-1).toNat,by rw[Int.natCast_add,bD (Int.sub_nonneg_of_le (by lia))];exact(Int.sub_add_cancel deep 1).symm⟩
 refine aT5 (d:=d) N (seen:=seen) (ws:=ws) ⟨c9 _ _ _,hqst,i9 hwl hq',n4,hsz,by rw[hwz];exact hw2,by rw[hwz];exact hw1,hzL,hzL',hzT,hzT',hzC,hzC'⟩ m' (i9 hst hq') hm' (by lia) h0 h1 λr n' hr hn hn'=>?_
 k_extra "w";refine hq r n' _ (hr.le (by lia)) hn hn' ?_ ?_ ?_ ?_
 ·rw[d6 _ _ n2',d6 _ _ n1',c9]
 ·rw[d6 _ _ n3,c9];rfl
 ·rw[c9,av];rfl
 ·exact(((d7.new hq').trans (d7.upd (by k_extra "mem"))).trans (d7.upd (by k_extra "mem"))).trans (d7.upd (by k_extra "mem"))
theorem bM2{O done todo:List Int}{j x:Int}(e:O=done++x::todo)(hn:O.Nodup)(hj:j∈done):O.idxOf j<O.idxOf x:=by
 subst e;have hx:x∉done:=λq=>(bk.mp hn).2.2 x q x (.head _) rfl
 rw[List.idxOf_append,if_pos hj,List.idxOf_append,if_neg hx,List.idxOf_cons_self,bC];exact List.idxOf_lt_length_iff.mpr hj
open Internal renaming aJ0->y21,aD3->y22,G6->y23
theorem ck1:True:=by
 k_with "call"=>first | (refine y21 (by with_reducible assumption) (by with_reducible assumption) (by with_reducible assumption) (by k_extra "n") (by k_extra "n") ?_;intro _) | (refine y22 (by with_reducible assumption) (by k_extra "n") ?_;intro _ _ _) | (refine y23 (by with_reducible assumption) (by k_extra "heap") (by with_reducible assumption) (by with_reducible assumption) (by k_extra "n") (by k_extra "n") ?_;intro _ _ _ _ _ _)
 trivial
set_option tactic.hygienic true in
theorem bP3(N:Nm g){sa:Addr}{ns:List Int}{most:Int}(hs:Scr g sa ns)(hl:ns.length<=100)(hm:7<=most)(hm':most<=40)
  (h:∀ M' p la ta wl rules tabs ws C owed rk,M' p=some (.lst [.ref la,.ref ta,.int C,.int owed,.ref wl])->M' la=some (.lst rules)->M' ta=some (.lst tabs)->M' wl=some (.lst (List.map V.str ws))->la≠p->la≠ta->la≠wl->Sub M M'->FG rules tabs C owed rk->(rules.length:Int)<=most->
   5<=ws.length->ws.length<=8->(∀ x∈ws,j7 x=true)->Q (.ref p) M'):c7 g (d+13) true "_law_form" [.ref sa,.int most] M Q X:=by
 refine bN6 N ?_;k_extra "w";rename_i x0 hx0 hx1 st hst _ _ _ _;refine bX6 N hm hm' λm t c hm1 hm2 ht1 ht2 hc1 hc2=>?_
 obtain⟨m,rfl⟩:=bv (show 0<=m by lia)
 refine c5 (bv ht1) λt q1_=>?_;subst q1_
 k_extra "w";refine bG9 N hx0 hx1 λwl ws n hne hwl h5 h8 hw hn hn'=>?_
 k_extra "w";rename_i tmp htmp la hla sl hsl;have er:(List.replicate (m:Int).toNat [V.tup [.str (Str.ofString "number"),.int 0]]).flatten=List.replicate m (V.tup [.str (Str.ofString "number"),.int 0]):=List.flatten_replicate_singleton;rw[er] at hsl ⊢;refine c6 (j5 hla) λa1 a2=>?_
 refine c6 (j5 a2) λa3 a4=>?_
 refine c6 (j5 a4) λa5 a6=>?_
 refine c6 (j5 hsl) λb1 b2=>?_
 refine c6 (j5 b2) λb3 b4=>?_
 refine c6 (j5 b4) λb5 b6=>?_
 refine c6 (j5 b6) λb7 b8=>?_
 refine c6 (j5 htmp) λc1 c2=>?_
 refine c6 (j5 c2) λc3 c4=>?_
 obtain⟨τ,hτ⟩:∃ τ,τ=upd (upd (upd (upd (upd M st (.lst [.int n])) wl (.lst (ws.map .str))) tmp (.lst [V.tup [.str (Str.ofString "number"),.int 0]])) la (.lst (List.replicate m (V.tup [.str (Str.ofString "number"),.int 0])))) sl (.lst []):=⟨_,rfl⟩;have t1:τ st=some (.lst [.int n]):=by rw[hτ,d6 _ _ (Ne.symm b7),d6 _ _ (Ne.symm a5),d6 _ _ (Ne.symm c3),d6 _ _ (Ne.symm hne),c9]
 have t2:τ wl=some (.lst (ws.map .str)):=by rw[hτ,d6 _ _ (Ne.symm b5),d6 _ _ (Ne.symm a3),d6 _ _ (Ne.symm c1),c9]
 have t3:τ la=some (.lst (List.replicate m (V.tup [.str (Str.ofString "number"),.int 0]))):=by rw[hτ,d6 _ _ (Ne.symm b1),c9]
 have t4:τ sl=some (.lst []):=by rw[hτ,c9]
 have t5:Sub M τ:=by
  rw[hτ];exact((((Sub.upd hst).trans (Sub.upd (by rw[d6 _ _ hne];exact hwl))).trans (Sub.upd (by rw[d6 _ _ c1,d6 _ _ c3];exact c4))).trans (Sub.upd (by rw[d6 _ _ a1,d6 _ _ a3,d6 _ _ a5];exact a6))).trans (Sub.upd (by rw[d6 _ _ b1,d6 _ _ b3,d6 _ _ b5,d6 _ _ b7];exact b8))
 rw[<- hτ];clear hτ hsl hla htmp;refine ce4 (many:=m) N t1 hn hn' (by lia) λb O n2 hbst hb hO hn2 hn2'=>?_
 have hbwl:=l7 t2 hb;have hbla:=l7 t3 hb;have hbsl:=l7 t4 hb;have hwlA:wl∉[st,la,sl]:=by simp[hne,Ne.symm a3,Ne.symm b5]
 have hOl:=hO.len;refine LoopR.tmp (by rw[d6 _ _ hbst];exact hb) (Loop.g (FmJ sa st la sl wl most ⟨m,t,c⟩ m ws O τ) (λ_ k_=>k_ [] O n2 _ none none rfl rfl (c9 _ _ _) hn2 hn2' (by rw[d6 _ _ a5];exact t3) gf (by rw[d6 _ _ b7];exact t4) (λi r hi=>(by cases hi)) (d7.upd (by k_extra "mem")) rfl) (λR J hR hJ=>?_) ?_)
 ·rintro v rest _ M' hh_;refine hh_ _ ?_;clear hh_;rintro done todo n R o7 o8 e1 e2 hst' h0 h1 hla' hR hsl' hG hS rfl
  refine⟨trivial,?_⟩;cases todo with
  | nil=>cases e2
  | cons x todo=>
   refine c6 (List.cons.inj e2) λe3 q1_=>?_;subst q1_
   subst e3;obtain⟨x0',x1'⟩:=hO.rng x (by rw[e1];simp)
   refine c5 (bv x0') λx q1_=>?_;subst q1_
   have hdl:done.length<=100:=by have:=congrArg List.length e1;rw[az,hO.len] at this;lia
   have hnx:(x:Int)∉done:=λq=>(bk.mp (e1▸hO.nd)).2.2 _ q _ (.head _) rfl
   have fin:∀ r n' M'' o7 o8,d7 [st,la,sl] M' M''->GR ⟨m,t,c⟩ (·∈done) (·∈ws) 8 r->0<=n'->n'<2147483647->M'' st=some (.lst [.int n'])->M'' la=some (.lst (R.set x r))->M'' sl=some (.lst ((done++[(x:Int)]).map .int))->
     FmJ sa st la sl wl most ⟨m,t,c⟩ m ws O τ (todo.map .int) [some (.ref sa),some (.int most),some (.ref st),some (.tup [.int m,.int t,.int c]),some (.ref wl),some (.ref la),some (.ref sl),o7,o8,none] M'':=λr n' M'' o7 o8 q1 q2 q3 q4 q5 q6 q7=>by
    refine(λ_ k_=>k_ (done++[(x:Int)]) todo n' (R.set x r) o7 o8 (by rw[e1,aH];rfl) rfl q5 q3 q4 q6 (by rw[bB];exact hR) q7 (λi r' hi hr'=>?_) (hS.trans q1) rfl)
    by_cases hix:x=i
    ·subst hix
     rw[cX (by lia)] at hr'
     rw[<- Option.some.inj hr'];exact q2.mono (λj hj=>⟨hO.rng j (by rw[e1];exact aq.mpr (.inl hj)),bM2 e1 hO.nd hj⟩) λy hy=>hw y hy
    ·rw[dg hix] at hr'
     rcases aq.mp hi with q | q
     ·exact hG i r' q hr'
     ·exact absurd (Int.ofNat.inj (aj.mp q)).symm hix
   have hwl':=hS wl _ hwlA t2;k_extra "w"
   ·exact Stop.mk (am6 (z:=⟨m,t,c⟩) (d:=d) (m:=m) N (c9 _ _ _) (by with_reducible assumption) (by with_reducible assumption) (by k_extra "heap") (by k_extra "heap") (by k_extra "heap") a5 b7 (Ne.symm b1) hne (by lia) (by lia) (by show 1<=(m:Int);lia) (by show(m:Int)<=100;lia) (by show 0<=(t:Int);lia) (by show(t:Int)<=100;lia) hc1 (by show c<=100;lia) hdl (by lia) (by lia) (by lia) (by lia)
     λr n' M'' q1 q2 q3 q4 q5 q6 q7=>hJ (fin r n' M'' _ _ ((((d7.upd (by k_extra "mem")).trans (d7.upd (by k_extra "mem"))).trans (d7.upd (by k_extra "mem"))).trans q7) q1 q2 q3 q4 q5 q6))
   ·exact Stop.mk (am6 (z:=⟨m,t,c⟩) (d:=d) (m:=m) N (c9 _ _ _) (by with_reducible assumption) (by with_reducible assumption) (by k_extra "heap") (by k_extra "heap") (by k_extra "heap") a5 b7 (Ne.symm b1) hne (by lia) (by lia) (by show 1<=(m:Int);lia) (by show(m:Int)<=100;lia) (by show 0<=(t:Int);lia) (by show(t:Int)<=100;lia) hc1 (by show c<=100;lia) hdl (by lia) (by lia) (by lia) (by lia)
     λr n' M'' q1 q2 q3 q4 q5 q6 q7=>hJ (fin r n' M'' _ _ (((d7.upd (by k_extra "mem")).trans (d7.upd (by k_extra "mem"))).trans q7) q1 q2 q3 q4 q5 q6))
 ·rintro _ M' hh_;refine hh_ _ ?_;clear hh_;rintro done todo n R o7 o8 e1 e2 hst' h0 h1 hla' hR hsl' hG hS rfl
  refine⟨trivial,?_⟩;obtain rfl:todo=[]:=by cases todo with | nil=>rfl | cons _ _=>cases e2
  rw[aS] at e1;subst e1;have hwl':=hS wl _ hwlA t2;refine Stop.mk ?_;have hlaA:la∉[st]:=by simp[a5]
  have hwlA':wl∉[st]:=by simp[hne]
  show wSs g (d+12) true aN2 [some (.ref sa),some (.int most),some (.ref st),some (.tup [.int m,.int t,.int c]),some (.ref wl),some (.ref la),some (.ref sl),o7,o8,none] M' _ _;k_extra "w";refine N0 (a:=0) (b:=(t:Int)) (λi acc M''=>∃ n,0<=n/\n<2147483647/\M'' st=some (.lst [.int n])/\d7 [st] M' M''/\acc.length=i/\∀ x∈acc,u7 x=true/\∀ M,Cld M x) (by lia) ⟨n,h0,h1,hst',d7.refl,rfl,λx hx=>(by cases hx)⟩ (λJ hJ=>?_) ?_
  ·rintro i acc M'' hi hh_;refine bf3 hh_ λn g0 g1 g2 g3 g4 g5=>?_
   k_extra "w";refine bz2 (d:=d+9) N g2 g0 g1 λt' n' q1 q2 q3 q4=>?_
   refine CJ.next hi (hJ ⟨n',q3,q4,c9 _ _ _,g3.trans (d7.upd (by k_extra "mem")),by rw[az,g4];rfl,λx hx=>?_⟩)
   rcases aq.mp hx with q | q
   ·exact g5 x q
   ·rw[aj.mp q];exact⟨q1,q2⟩
  ·rintro acc M'' ⟨n,g0,g1,g2,g3,g4,g5⟩ ta hta
   have g4:acc.length=t:=by rw[g4];lia
   have hla2:=g3 la _ hlaA hla';have hwl2:=g3 wl _ hwlA' hwl';have hlat:=l7 hla2 hta;have hwlt:=l7 hwl2 hta;have hstt:=l7 g2 hta;k_extra "w";rename_i owed n3 o0 o1 _ _ p hp;have hla3:upd (upd M'' ta (.lst acc)) st (.lst [.int n3]) la=some (.lst R):=by k_extra "heap"
   refine d0 (h _ p la ta wl R acc ws c owed (λj=>O.idxOf j) (c9 _ _ _) (i9 (by k_extra "heap") hp) (i9 (by k_extra "heap") hp) (i9 (by k_extra "heap") hp) (l7 hla3 hp) hlat (Ne.symm (λe=>a3 e.symm)) ?_ ?_ (by rw[hR];exact hm2) h5 h8 hw)
   ·have k1:d7 [st,la,sl] M'' (upd (upd M'' ta (.lst acc)) st (.lst [.int n3])):=(d7.new hta).trans (d7.upd (by k_extra "mem"))
    have k2:d7 [st,la,sl] M' M'':=λx o hx e=>g3 x o (λq=>hx (by rw[aj.mp q];simp)) e
    have k3:d7 [st,la,sl] M τ:=λx o _ e=>t5 x o e
    refine Sub.trans (d7.sub (((k3.trans hS).trans k2).trans k1) λx hx=>?_) (Sub.upd hp)
    simp only[au,aO,or_false] at hx
    rcases hx with rfl | rfl | rfl
    ·exact hst
    ·exact a6
    ·exact b8
   ·refine⟨λi r hi=>?_,by lia,by lia,by lia,g5,hc1,hc2,o0,by rw[hR];exact o1⟩
    have hlt:i<R.length:=(ay.mp hi).1;have hin:(i:Int)∈O:=cx λq=>by
     have:=H3 (S:=(i:Int)::O) (n:=m) (cz.mpr ⟨q,hO.nd⟩) λx hx=>by
      rcases au.mp hx with rfl | hx
      ·exact⟨aT i,by lia⟩
      ·exact hO.rng x hx
     rw[aN,hO.len] at this;lia
    have:=hG i r hin hi;rw[hR,g4];exact this
end
theorem af3{v:V}(h:u7 v=true):∃ l,v=.tup l/\∀ x∈l,r9 x=true:=by
 cases v with
 | tup l=>
  have h:((decide (1<=l.length)&&decide (l.length<=20))&&(l.all r9&&(List.range (l.length-1)).all (B9 l)))=true:=h;exact⟨l,rfl,aW.mp ((bo _ _).mp ((bo _ _).mp h).2).1⟩
 | _=>exact ff h
def AtJ(l:List V)(n:Int)(k:Nat)(M:Hp)(rest:List V)(Z':Lo)(M':Hp):Prop:=
 ∀ P_:Prop,(∀ (f:Int) (os:Lo) (e:M=M') (hr:∀ x∈rest,r9 x=true) (hf:rest.foldl (Q4 n) f=l.foldl (Q4 n) 0) (hl:os.length=k) (e2:Z'=some (.tup l)::some (.int n)::some (.int f)::os),P_)->P_
theorem aU1{l:Lo}(h:l.length=3):∃ a b c,l=[a,b,c]:=by
 cases l with
 | nil=>cases h
 | cons a l=>cases l with
  | nil=>cases h
  | cons b l=>cases l with
   | nil=>cases h
   | cons c l=>cases l with
    | nil=>exact⟨a,b,c,rfl⟩
    | cons _ _=>cases h
theorem bm5{n f a b c:Int}(h:a<=n):Q4 n f (.tup [.int a,.int b,.int c])=b+(n-a)*c / 100:=if_pos h
theorem cb7{n f a b c:Int}(h:¬ a<=n):Q4 n f (.tup [.int a,.int b,.int c])=f:=if_neg h
section
variable{g:G}{d:Nat}{M:Hp}{Q:V->Hp->Prop}{X:Str->Hp->Prop}
set_option tactic.hygienic true in
theorem cd7(N:Nm g){t:V}{n:Int}(ht:u7 t=true)(h:Q (.int (atN t n)) M):c7 g (d+1) true "at_number" [t,.int n] M Q X:=by
 refine bS0 N ?_;refine a9 (af3 ht) λl q1_ hr=>?_;subst q1_
 k_extra "w";refine Loop.g (AtJ l n 3 M) (λ_ k_=>k_ 0 [none,none,none] rfl hr rfl rfl rfl) (λR J hR hJ=>?_) ?_
 ·rintro v rest _ _ hh_;refine hh_ _ ?_;clear hh_;rintro f os rfl hr hf hl rfl
  refine⟨trivial,?_⟩;refine Ma5 (aU1 hl) λo1 o2 o3 q1_=>?_;subst q1_
  obtain⟨a,b,c,rfl,c0,c1⟩:=Y4 (hr v (by k_extra "mem"))
  have hr':∀ x∈rest,r9 x=true:=λx hx=>hr x (.tail _ hx)
  k_extra "w"
  ·rename_i q
   exact hJ (λ_ k_=>k_ _ _ rfl hr' (by rw[dx,bm5 q] at hf;exact hf) rfl rfl)
  ·rename_i q
   exact hJ (λ_ k_=>k_ _ _ rfl hr' (by rw[dx,cb7 q] at hf;exact hf) rfl rfl)
 ·rintro _ _ hh_;refine hh_ _ ?_;clear hh_;rintro f os rfl hr hf hl rfl
  refine⟨trivial,?_⟩;k_extra "w";refine d0 ?_;have e:f=atN (.tup l) n:=hf;rw[e];exact h
theorem bU1{a b:Int}:H7 "add" a b=a+b:=if_pos (by decide +kernel)
theorem bV4{a b:Int}:H7 "take" a b=a-b:=(if_neg (by decide +kernel)).trans (if_pos (by decide +kernel))
theorem ba2{a b:Int}:H7 "least" a b=min a b:=(if_neg (by decide +kernel)).trans ((if_neg (by decide +kernel)).trans (if_pos (by decide +kernel)))
theorem bG3{a b:Int}:H7 "most" a b=max a b:=(if_neg (by decide +kernel)).trans ((if_neg (by decide +kernel)).trans (if_neg (by decide +kernel)))
theorem cj3(N:Nm g){w:Str}{a b:Int}(hw:W2 w)(h:Q (.int (H7 w a b)) M):c7 g (d+1) true "of_two" [.str w,.int a,.int b] M Q X:=by
 refine aZ1 N ?_;cases hw
 ·k_extra "w"
  exact d0 (by rw[bU1] at h;exact h)
 ·k_extra "w"
  exact d0 (by rw[bV4] at h;exact h)
 ·k_extra "w"
  exact d0 (by rw[ba2] at h;exact h)
 ·k_extra "w"
  exact d0 (by rw[bG3] at h;exact h)
end
inductive TkAt(M:Hp)(T:List Bool):V->Prop
 | lst (a:Addr) (h:M a=some (.lst (T.map .bool))):TkAt M T (.ref a)
 | tup:TkAt M T (.tup (T.map .bool))
theorem TkAt.sub{M M':Hp}{T:List Bool}{v:V}(h:TkAt M T v)(k:Sub M M'):TkAt M' T v:=by
 cases h with
 | lst a h=>exact .lst a (k _ _ h)
 | tup=>exact .tup
structure YrAt(M:Hp)(z:Lim)(y:Yr)(pa ea:Addr)(tk:V):Prop where
 hp:M pa=some (.ds (dS y.P))
 he:M ea=some (.lst (y.E.map .int))
 ht:TkAt M y.T tk
 ez:y.E=[]∨(y.E.length:Int)=z.L
 e1:y.E.length<=100
 tz:(y.T.length:Int)=z.C
 bz:(y.tabs.length:Int)=z.T
 t1:y.T.length<=100
 b1:y.tabs.length<=100
 tab:∀ t∈y.tabs,u7 t=true
theorem YrAt.sub{M M':Hp}{z:Lim}{y:Yr}{pa ea:Addr}{tk:V}(h:YrAt M z y pa ea tk)(k:Sub M M'):YrAt M' z y pa ea tk:=
 ⟨k _ _ h.hp,k _ _ h.he,h.ht.sub k,h.ez,h.e1,h.tz,h.bz,h.t1,h.b1,h.tab⟩
theorem am1{T:List Bool}{k:Nat}{x:V}(h:(T.map V.bool)[k]?=some x):x=.bool (T.getD k false):=by
 rw[aw] at h;refine a9 (aJ.mp h) λb hb q1_=>?_;subst q1_
 rw[aF,hb];rfl
theorem bJ0{T:List Int}{k:Nat}{x:V}(h:(T.map V.int)[k]?=some x):x=.int (T.getD k 0):=by
 rw[aw] at h;refine a9 (aJ.mp h) λb hb q1_=>?_;subst q1_
 rw[aF,hb];rfl
theorem av9{T:List V}{k:Nat}{x:V}(h:T[k]?=some x):x=T.getD k .none:=by
 rw[aF,h];rfl
theorem bK8{g:G}{M:Hp}{T:List Bool}{tk:V}{i:Int}{Q:VP}(ht:TkAt M T tk)(h0:0<=i)(h1:i<T.length)(hz:T.length<=100)(h:Q (.bool (T.getD i.toNat false)) M):ac4 g tk (.int i) M Q:=by
 have hl:(T.map V.bool).length=T.length:=ac _;cases ht with
 | lst a e=>exact ItR.l (LookR.mk _ e (Idx.mk h0 (by lia) (by lia) λx ex=>by rw[am1 ex];exact h))
 | tup=>exact Idx.mk h0 (by lia) (by lia) λx ex=>by rw[am1 ex];exact h
section
variable{g:G}{d:Nat}{M:Hp}{Q:V->Hp->Prop}{X:Str->Hp->Prop}
noncomputable def as9(f:Int->Int)(L:List (Int×V))(n:Nat)(v:V):Prop:=Nms (λi=>i8 L i=some (.int (f i))) n v
theorem T2(N:Nm g){z:Lim}{y:Yr}{pa ea va:Addr}{tk:V}{tabs:V}{f:Int->Int}{L:List (Int×V)}{n:Nat}{w:Str}{x:V}(Y:YrAt M z y pa ea tk)(hv:M va=some (.di L))(hk:ok z (n+1) (.tup [.str w,x])=true)(hl:Y5 w=true)(hL:as9 f L (n+1) (.tup [.str w,x]))(h:Q (.int (wv y f (n+1) (.tup [.str w,x]))) M) :
  c7 g (d+1) true "leaf" [.tup [.str w,x],.tup [.ref pa,.ref ea,tk,tabs,.ref va]] M Q X:=by
 refine bI0 N ?_;obtain⟨hp,he,ht,ez,e1,-⟩:=Y;have el:(y.E.map V.int).length=y.E.length:=ac _;cases J1 hk with
 | num i=>
  k_extra "w";exact d0 (by rw[P9] at h;exact h)
 | paper x=>
  k_extra "w";refine d0 ?_;rw[ch6];rw[N8] at h;exact h
 | line i h0 h1=>
  k_extra "w";refine DAt.mk _ hL.line ?_;exact d0 (by rw[R0] at h;exact h)
 | earlier i h0 h1=>
  rw[R7] at h;rcases ez with ez | ez
  ·rw[ez] at h el he
   k_extra "w";exact d0 h
  ·k_extra "w"
   refine Idx.mk h0 (by lia) (by lia) λx ex=>?_
   rw[bJ0 ex];exact d0 h
end
section
variable{g:G}{d:Nat}{X:Str->Hp->Prop}
set_option tactic.hygienic true in
theorem aV6(N:Nm g){M:Hp}{z:Lim}{y:Yr}{pa ea va:Addr}{tk:V}{f:Int->Int}{L:List (Int×V)}(Y:YrAt M z y pa ea tk)(hv:M va=some (.di L)):∀ (n:Nat) {v:V} {Q:V->Hp->Prop},ok z n v=true->as9 f L n v->Q (.int (wv y f n v)) M->
  c7 g (d+n+2) true "worth" [v,.tup [.ref pa,.ref ea,tk,.tup y.tabs,.ref va]] M Q X:=by
 intro n;induction n with
 | zero=>intro v Q hk;exact ff hk
 | succ n ih=>
  intro v Q hk hL h;refine bx0 N ?_;cases J1 hk with
  | num i=>
   k_extra "w";exact T2 N Y hv hk (by decide +kernel) hL (d0 h)
  | paper x=>
   k_extra "w";exact T2 N Y hv hk (by decide +kernel) hL (d0 h)
  | line i h0 h1=>
   k_extra "w";exact T2 N Y hv hk (by decide +kernel) hL (d0 h)
  | earlier i h0 h1=>
   k_extra "w";exact T2 N Y hv hk (by decide +kernel) hL (d0 h)
  | part r i hr h0 h1=>
   k_extra "w";refine ih hr hL.part ?_;k_extra "w";exact d0 (by rw[Q6] at h;exact h)
  | table i r h0 h1 hr=>
   have hb:=Y.bz;have hb1:=Y.b1;k_extra "w";refine Idx.mk h0 (by lia) (by lia) λt ht=>?_
   refine ih hr hL.table ?_;refine cd7 N (Y.tab t (aI ht)) ?_;rw[av9 ht];exact d0 (by rw[P3] at h;exact h)
  | two w r t hw hr ht=>
   rw[Q1 hw] at h;cases hw;all_goals
    k_extra "w";refine ih hr (hL.two1 (by constructor)) ?_
    refine ih ht (hL.two2 (by constructor)) ?_
    exact cj3 N (by constructor) (d0 h)
  | wher r t u hr ht hu=>
   rw[O2] at h;k_extra "w";refine ih hr hL.wher1 ?_;k_extra "w"
   ·rename_i q
    rw[if_pos q] at h;exact ih ht hL.wher2 (d0 h)
   ·rename_i q
    rw[if_neg q] at h;exact ih hu hL.wher3 (d0 h)
  | choo i r t h0 h1 hr ht=>
   rw[S5] at h;have hc:=Y.tz;k_extra "w";refine bK8 Y.ht h0 (by lia) Y.t1 ?_
   cases hb:y.T.getD i.toNat false with
   | true=>
    rw[hb,if_pos rfl] at h;k_extra "w";exact ih ht hL.choo2 (d0 h)
   | false=>
    rw[hb,if_neg ag] at h;k_extra "w";exact ih hr hL.choo1 (d0 h)
end
noncomputable def n8(p:V×V):V:=.tup [p.1,p.2]
noncomputable def gdP(p:V×V):Bool:=F6 p.1&&m8 p.2 (0-1000000000) 1000000000
noncomputable def papF:List (V×V)->List (Str×Int)->Option (List (Str×Int))
 | [],D=>some D
 | p::l,D=>bif gdP p then(bif (i8 (dS D) (toS p.1)).isSome then none else papF l (D++[(toS p.1,toI p.2)])) else none
theorem ab4(p:V×V)(l:List (V×V))(D:List (Str×Int)):papF (p::l) D=bif gdP p then(bif (i8 (dS D) (toS p.1)).isSome then none else papF l (D++[(toS p.1,toI p.2)])) else none:=rfl
theorem av0{p:V×V}{l:List (V×V)}{D:List (Str×Int)}(h:gdP p=false):papF (p::l) D=none:=by rw[ab4,h];rfl
theorem ca8{p:V×V}{l:List (V×V)}{D:List (Str×Int)}(h:(i8 (dS D) (toS p.1)).isSome=true):papF (p::l) D=none:=by rw[ab4,h];cases gdP p<;>rfl
theorem av8{p:V×V}{l:List (V×V)}{D:List (Str×Int)}(h:gdP p=true)(h2:(i8 (dS D) (toS p.1)).isSome=false):papF (p::l) D=papF l (D++[(toS p.1,toI p.2)]):=by rw[ab4,h,h2];rfl
theorem bq3{D:List (Str×Int)}{x:Str}{i:Int}(h:(i8 (dS D) x).isSome=false):A4 (dS D) x (.int i)=dS (D++[(x,i)]):=by
 unfold A4;rw[if_neg]
 ·unfold dS;rw[av];rfl
 ·intro q
  have:(i8 (dS D) x).isSome=true:=by
   unfold i8;rw[Option.isSome_map,List.find?_isSome];refine a9 (cH.mp q) λp hp e=>?_
   exact⟨p,hp,e⟩
  rw[h] at this;cases this
def bw1(pa b:Addr)(ps0:List (V×V))(M:Hp)(rest:List V)(Z':Lo)(M':Hp):Prop:=
 ∀ P_:Prop,(∀ (ps:List (V×V)) (D:List (Str×Int)) (o:Option V) (e1:rest=ps.map n8) (e2:papF ps D=papF ps0 []) (hc:∀ p∈ps,Cld M p.1/\Cld M p.2) (hz:ps.length+D.length<=1000) (e3:M'=upd M b (.ds (dS D))) (e4:Z'=[some (.ref pa),some (.ref b),o]),P_)->P_
section
variable{g:G}{d:Nat}{M:Hp}{Q:V->Hp->Prop}{X:Str->Hp->Prop}
open Internal renaming aL1->y24,T4->y25
theorem cm0:True:=by
 k_with "call"=>first | refine y24 (by with_reducible assumption) (by with_reducible assumption) ?_ | refine y25 (by with_reducible assumption) (Cld.ok (by with_reducible assumption)) ?_
 trivial
set_option tactic.hygienic true in
theorem bz9(N:Nm g){pa:Addr}{ps:List (V×V)}(hpa:M pa=some (.lst (ps.map n8)))(hc:∀ p∈ps,Cld M p.1/\Cld M p.2)(hz:ps.length<=1000)(h1:∀ D,papF ps []=some D->∀ b,M b=none->Q (.ref b) (upd M b (.ds (dS D))))(h2:papF ps []=none->∀ M',Sub M M'->X (Str.ofString "NoPaper") M') :
  c7 g (d+3) true "papers_of" [.ref pa] M Q X:=by
 refine ba6 N ?_;k_extra "w";rename_i b hb;refine LoopR.held _ (i9 hpa hb) (Loop.g (bw1 pa b ps M) (λ_ k_=>k_ ps [] none rfl rfl hc hz rfl rfl) (λR J hR hJ=>?_) ?_)
 ·rintro v rest _ _ hh_;refine hh_ _ ?_;clear hh_;rintro qs D o e1 e2 hc hz rfl rfl
  refine⟨i9 hpa hb,?_⟩;cases qs with
  | nil=>cases e1
  | cons p qs=>
   refine c6 (List.cons.inj e1) λe3 q1_=>?_;subst q1_
   obtain⟨a,c⟩:=p;obtain rfl:v=.tup [a,c]:=e3;refine c6 (hc _ (.head _)) λka kc=>?_
   have ka':Cld (upd M b (.ds (dS D))) a:=ka.sub (Sub.upd hb);have kc':Cld (upd M b (.ds (dS D))) c:=kc.sub (Sub.upd hb);have hl:(dS D).length<=10000:=by unfold dS;rw[ac];rw[aN] at hz;lia
   k_extra "w"
   ·rename_i q1 q2
    refine a9 (X9 q1) λx q1_ _=>?_;subst q1_
    refine a9 (q9 q2) λi q1_ _=>?_;subst q1_
    have hg:gdP (.str x,.int i)=true:=by unfold gdP;rw[q1,q2];rfl
    k_extra "w"
    ·rename_i q3
     exact h2 (e2▸ca8 (eq_true_of_ne_false (Ne.symm q3))) _ (Sub.upd hb)
    ·rename_i q3
     have q3:=q3.symm;refine hJ (λ_ k_=>k_ qs (D++[(x,i)]) _ rfl (by rw[<- e2,av8 hg q3];rfl) (λp hp=>hc p (.tail _ hp)) (by rw[az];rw[aN] at hz;show _+(_+1)<=_;lia) (by rw[bq3 q3]) rfl)
   ·rename_i q1 q2
    exact h2 (e2▸av0 (by unfold gdP;rw[q2,dK])) _ (Sub.upd hb)
   ·rename_i q1
    exact h2 (e2▸av0 (by unfold gdP;rw[q1,db])) _ (Sub.upd hb)
 ·rintro _ _ hh_;refine hh_ _ ?_;clear hh_;rintro qs D o e1 e2 hc hz rfl rfl
  refine⟨i9 hpa hb,?_⟩;obtain rfl:qs=[]:=by cases qs with | nil=>rfl | cons _ _=>cases e1
  k_extra "w";exact d0 (h1 D e2.symm b hb)
set_option tactic.hygienic true in
theorem cf8(N:Nm g){a b c tk:V}{C:Int}{T:List Bool}(ht:TkAt M T tk)(hz:T.length<=100)(h1:(T.length:Int)=C->Q .none M)(h2:(T.length:Int)≠C->X (Str.ofString "NoChoice") M) :
  c7 g (d+1) true "need_taken" [.tup [a,b,.int C,c],tk] M Q X:=by
 refine bi3 N ?_;have hl:(T.map V.bool).length=T.length:=ac _;have hlz:(T.map V.bool).length<=10000:=by lia
 have key:∀ (K:Hp->Prop),K M->(T.length:Int)=C->Loop (T.map V.bool) K [some (.tup [a,b,.int C,c]),some tk,none] M (lpK (wSs g d true (.cons (.iff (.not (.isi (.v 2) .bool)) (.cons (.rais (Str.ofString "NoChoice") (.cons (.k (.str (Str.ofString "no truth"))) .nil)) .nil) .nil) .nil)) 2 (xK X)) (sq (wSs g d true .nil) (e9 Q) (xK X)):=λK hK e=>by
  refine Loop.g (λrest Z' M'=>M=M'/\(∃ bs:List Bool,rest=bs.map .bool)/\∃ o,Z'=[some (.tup [a,b,.int C,c]),some tk,o]) ⟨rfl,⟨T,rfl⟩,none,rfl⟩ (λR J hR hJ=>?_) ?_
  ·rintro v rest _ _ ⟨rfl,⟨bs,e1⟩,o,rfl⟩
   refine⟨hK,?_⟩;cases bs with
   | nil=>cases e1
   | cons t bs=>
    refine c6 (List.cons.inj e1) λq1_ q2_=>?_;subst q1_;subst q2_
    k_extra "w";exact hJ ⟨rfl,⟨bs,rfl⟩,_,rfl⟩
  ·rintro _ _ hh_;obtain⟨rfl,-,o,rfl⟩:=hh_
   exact⟨hK,d0 (h1 e)⟩
 cases ht with
 | lst ta e=>
  k_extra "w"
  ·rename_i q
   exact h2 (by rw[hl] at q;exact q)
  ·rename_i q
   exact LoopR.held _ e (key (λM=>M ta=some (.lst (T.map .bool))) e (by rw[hl] at q;exact q))
 | tup=>
  k_extra "w"
  ·rename_i q
   exact h2 (by rw[hl] at q;exact q)
  ·rename_i q
   exact key (λ_=>True) trivial (by rw[hl] at q;exact q)
end
noncomputable def fmV(rules tabs:List V)(C owed:Int):V:=.tup [.tup rules,.tup tabs,.int C,.int owed]
noncomputable def E8(rules:List V)(y:Yr)(rk:Int->Nat):List Int:=(List.range rules.length).map fun(i:Nat)=>sol rules y rk i
theorem FG.lnk{rules tabs:List V}{C owed:Int}{rk:Int->Nat}(h:FG rules tabs C owed rk):Lnk ⟨rules.length,tabs.length,C⟩ rules rk:=
 ⟨λi hi=>(h.gr i _ (A0 hi)).ok (λj hj=>hj.1) (λx hx=>hx) (aC 8),λi hi j hj=>by
  refine a9 ((h.gr i _ (A0 (x:=.none) hi)).line_see _ hj) λk e hk=>?_
  rw[V.int.inj e];exact hk⟩
theorem Ordr.names{rules:List V}{F:List Int}(h:Ordr rules F):∀ {done todo:List Int} {i:Nat},F=done++(i:Int)::todo->Nms (·∈done) 8 (rules.getD i .none):=by
 induction h with
 | nil=>intro done todo i e;cases done<;>cases e
 | @snoc F k h e ih=>
  intro done todo i e';rcases List.eq_nil_or_concat todo with rfl | ⟨todo',t,rfl⟩
  ·refine c6 (List.append_inj' e' rfl) λq1_ e2=>?_;subst q1_
   obtain rfl:k=i:=Int.ofNat.inj (List.cons.inj e2).1;intro j hj;refine c6 (ai8 e) λz_ h2=>?_
   have:=aW.mp ((bo _ _).mp h2).2 _ hj;exact of_decide_eq_true this
  ·rw[List.concat_eq_append,<- List.cons_append,<- aH] at e'
   exact ih (List.append_inj' e' rfl).1
theorem ay1{f:Int->Int}{l:List Int}{j:Int}(h:j∈l):i8 (l.map λi=>(i,V.int (f i))) j=some (.int (f j)):=by
 obtain⟨v,h1,h2⟩:=ai2 (L:=l.map λi=>(i,V.int (f i))) (k:=j) (by rw[bI];exact ar.mpr ⟨j,h,rfl⟩)
 refine a9 (ar.mp h2) λi z_ e=>?_
 refine c6 (Prod.mk.inj e) λq1_ q2_=>?_;subst q1_;subst q2_
 exact h1
theorem aL8{O:List Int}{n:Nat}(hl:O.length=n)(hn:O.Nodup)(hr:∀ x∈O,0<=x/\x<n){i:Nat}(hi:i<n):(i:Int)∈O:=cx λq=>by
 have:=H3 (S:=(i:Int)::O) (n:=n) (cz.mpr ⟨q,hn⟩) λx hx=>by
  rcases au.mp hx with rfl | hx
  ·exact⟨aT i,by lia⟩
  ·exact hr x hx
 rw[aN,hl] at this;lia
theorem aE3{E:List Int}{n:Nat}(ez:E=[]∨E.length=n)(h:n<=40):E.length<=100:=by
 rcases ez with q | q
 ·rw[q];exact aE _
 ·lia
def aX8(rules:List V)(O:List Int)(f:Int->Int)(va:Addr)(fm pv ev tk yv:V)(pp:V)(M:Hp)(rest:List V)(Z':Lo)(M':Hp):Prop:=
 ∀ P_:Prop,(∀ (done todo:List Int) (o:Option V) (e1:O=done++todo) (e2:rest=todo.map .int) (e3:M'=upd M va (.di (done.map λi=>(i,V.int (f i))))) (e4:Z'=[some fm,some pv,some ev,some tk,some pp,some (.ref va),some yv,o]),P_)->P_
section
variable{g:G}{d:Nat}{M:Hp}{Q:V->Hp->Prop}{X:Str->Hp->Prop}
set_option tactic.hygienic true in
theorem bA0(N:Nm g){rules tabs:List V}{C owed:Int}{rk:Int->Nat}(F:FG rules tabs C owed rk){pa ea:Addr}{tk:V}{ps:List (V×V)}{E:List Int}{T:List Bool}(hpa:M pa=some (.lst (ps.map n8)))(hc:∀ p∈ps,Cld M p.1/\Cld M p.2)(hz:ps.length<=1000)
  (he:M ea=some (.lst (E.map .int))) (ez:E=[]∨E.length=rules.length) (ht:TkAt M T tk) (tz:T.length<=100)
  (h1:∀ P,papF ps []=some P->(T.length:Int)=C->∀ b,M b=none->Q (.ref b) (upd M b (.lst ((E8 rules ⟨P,E,T,tabs⟩ rk).map .int))))
  (h2:papF ps []=none->∀ M',Sub M M'->X (Str.ofString "NoPaper") M') (h3:∀ P,papF ps []=some P->(T.length:Int)≠C->∀ M',Sub M M'->X (Str.ofString "NoChoice") M') :
  c7 g (d+13) true "reckoned" [fmV rules tabs C owed,.ref pa,.ref ea,tk] M Q X:=by
 refine bH4 N ?_;have FF:=F.form;have l40:=F.l40;k_extra "w";refine bz9 (d:=d+9) N hpa hc hz (λP hP b hb=>?_) h2
 k_extra "w";refine cf8 N (ht.sub (Sub.upd hb)) tz (λeT=>?_) (λeT=>h3 P hP eT _ (Sub.upd hb))
 k_extra "w";rename_i va hva;refine aI2 (d:=d) N FF.rule (by lia) FF.acy λfa O hf hO hOl=>?_
 refine c6 hO.ok λOn Or=>?_
 have Y:YrAt (upd M b (.ds (dS P))) ⟨rules.length,tabs.length,C⟩ ⟨P,E,T,tabs⟩ b ea tk:=
  ⟨c9 _ _ _,i9 he hb,ht.sub (Sub.upd hb),by rcases ez with q | q;exact .inl q;exact .inr (by show(E.length:Int)=rules.length;rw[q]),aE3 ez l40,eT,rfl,tz,ae F.t5 (by decide),λt ht=>(F.tab t ht).1⟩
 generalize hτ:upd M b (.ds (dS P))=τ at hva hf Y ⊢;have hsub:Sub M τ:=hτ▸Sub.upd hb;refine LoopR.tmp hf (Loop.g (aX8 rules O (sol rules ⟨P,E,T,tabs⟩ rk) va (fmV rules tabs C owed) (.ref pa) (.ref ea) tk (.tup [.ref b,.ref ea,tk,.tup tabs,.ref va]) (.ref b) τ) (λ_ k_=>k_ [] O none rfl rfl rfl rfl) (λR J hR hJ=>?_) ?_)
 ·rintro v rest _ _ hh_;refine hh_ _ ?_;clear hh_;rintro done todo o e1 e2 rfl rfl
  refine⟨trivial,?_⟩;cases todo with
  | nil=>cases e2
  | cons x todo=>
   refine c6 (List.cons.inj e2) λe3 q1_=>?_;subst q1_
   subst e3;obtain⟨x0,x1⟩:=Or x (by rw[e1];simp)
   refine c5 (bv x0) λi q1_=>?_;subst q1_
   have hi:i<rules.length:=by lia
   have hnd:(i:Int)∉done:=λq=>(bk.mp (e1▸On)).2.2 _ q _ (.head _) rfl
   have hdl:done.length<=100:=by have:=congrArg List.length e1;rw[az,hOl] at this;lia
   have hmk:(done.map λi=>(i,V.int (sol rules ⟨P,E,T,tabs⟩ rk i))).map (·.1)=done:=by rw[bI];exact List.map_id'' (λ_=>rfl) _
   k_extra "w";refine Idx.mk (aT i) (by lia) (by lia) λr hr=>?_
   obtain rfl:r=rules.getD i .none:=av9 hr;refine aV6 (d:=d+2) (f:=sol rules ⟨P,E,T,tabs⟩ rk) N (Y.sub (Sub.upd hva)) (c9 _ _ _) 8 (F.lnk.ok i hi) (λj hj=>ay1 (hO.names e1 j hj)) ?_
   rw[ag9 F.lnk hi];have hL:(done.map λi=>(i,V.int (sol rules ⟨P,E,T,tabs⟩ rk i))).length<=10000:=by rw[ac];lia
   k_extra "w";refine hJ (λ_ k_=>k_ (done++[(i:Int)]) todo _ (by rw[e1,aH];rfl) rfl ?_ rfl)
   rw[aG5 (by rw[hmk];exact hnd),av];rfl
 ·rintro _ _ hh_;refine hh_ _ ?_;clear hh_;rintro done todo o e1 e2 rfl rfl
  refine⟨trivial,?_⟩;obtain rfl:todo=[]:=by cases todo with | nil=>rfl | cons _ _=>cases e2
  rw[aS] at e1;subst e1;k_extra "w";refine N0 (λi acc M'=>upd τ va (.di (O.map λi=>(i,V.int (sol rules ⟨P,E,T,tabs⟩ rk i))))=M'/\acc=((List.range i).map fun(k:Nat)=>sol rules ⟨P,E,T,tabs⟩ rk k).map V.int) (by lia) ⟨rfl,rfl⟩ (λJ hJ=>?_) ?_
  ·rintro i acc _ hi hh_;refine c6 hh_ λq1_ q2_=>?_;clear hh_;subst q1_;subst q2_
   have e0:(0:Int)+(i:Int)=i:=cK _;rw[e0];k_extra "w";refine DAt.mk _ (ay1 (aL8 hOl On Or (by lia))) ?_
   exact CJ.next hi (hJ ⟨rfl,by rw[fR,av,av];rfl⟩)
  ·rintro acc _ ⟨rfl,rfl⟩ c hcn
   have e2:((rules.length:Int)-0).toNat=rules.length:=aB6 _;rw[e2];refine c6 (j5 hcn) λc1 c2=>?_
   exact t9 (B5 (hsub.trans (Sub.upd hva))) (h1 P hP eT c (F1 hsub c2))
end
structure GP(P:List (Str×Int)):Prop where
 nd:((dS P).map (·.1)).Nodup
 wd:∀ p∈P,j7 p.1=true
 lo:∀ p∈P,-1000000000<=p.2
 hi:∀ p∈P,p.2<=1000000000
theorem bd5{st b:Addr}{M M':Hp}{o o':AObj}(h1:i6 st b M M')(h2:M' st=some o)(h3:M' b=some o'):Sub (upd (upd M st o) b o') M':=λa x e=>by
 by_cases q:a=b
 ·subst q;rw[c9] at e;rw[h3];exact e
 ·rw[d6 _ _ q] at e
  by_cases q2:a=st
  ·subst q2;rw[c9] at e;rw[h2];exact e
  ·rw[d6 _ _ q2] at e;exact h1 a x q2 q e
theorem az7{P:List (Str×Int)}{x:Str}{i:Int}:dS (P++[(x,i)])=dS P++[(x,.int i)]:=by unfold dS;rw[av];rfl
theorem GP.snoc{P:List (Str×Int)}{x:Str}{i:Int}(h:GP P)(hx:x∉(dS P).map (·.1))(hw:j7 x=true)(h0 : -1000000000<=i)(h1:i<=1000000000):GP (P++[(x,i)]):=by
 have key:∀ {R:Str×Int->Prop},(∀ p∈P,R p)->R (x,i)->∀ p∈P++[(x,i)],R p:=fun{R} a b p hp=>by
  rcases aq.mp hp with q | q
  ·exact a p q
  ·rw[aj.mp q];exact b
 refine⟨?_,key h.wd hw,key h.lo h0,key h.hi h1⟩;rw[az7,av];refine bk.mpr ⟨h.nd,by simp,λa ha b hb e=>?_⟩
 rw[aj.mp hb] at e;have e:a=x:=e;exact hx (e▸ha)
def PpJ(st wl b:Addr)(ws:List Str)(M:Hp)(rest:List V)(Z':Lo)(M':Hp):Prop:=
 ∀ P_:Prop,(∀ (todo:List Str) (P:List (Str×Int)) (n:Int) (o:Option V) (e1:rest=todo.map .str) (hw:∀ x∈todo,j7 x=true) (hP:GP P) (hz:P.length+todo.length<=ws.length) (h0:0<=n) (h1:n<2147483647) (hst:M' st=some (.lst [.int n])) (hb:M' b=some (.lst ((dS P).map M8))) (hS:i6 st b M M')
  (e2:Z'=[some (.ref st),some (.ref wl),some (.ref b),o]),P_)->P_
theorem bP8{P:List (Str×V)}{x:Str}:((P.map (·.1)).any (· == x))=false->x∉P.map (·.1):=λh q=>by
 rw[List.any_eq_false] at h;exact h x q (by k_extra "mem")
section
variable{g:G}{d:Nat}{M:Hp}{Q:V->Hp->Prop}{X:Str->Hp->Prop}
open Internal renaming G6->y26,X8->y27
theorem ck4:True:=by
 k_with "call"=>first | (refine y26 (by with_reducible assumption) (by k_extra "heap") (by with_reducible assumption) (by with_reducible assumption) (by k_extra "n") (by k_extra "n") ?_;intro _ _ _ _ _ _) | (refine y27 (by with_reducible assumption) (by k_extra "heap") (by with_reducible assumption) (by with_reducible assumption) ?_;intro _ _ _ _ _ _)
 trivial
set_option tactic.hygienic true in
theorem aY0(N:Nm g){st wl:Addr}{n:Int}{ws:List Str}(hst:M st=some (.lst [.int n]))(h0:0<=n)(h1:n<2147483647)(hwl:M wl=some (.lst (ws.map .str)))(hne:wl≠st)(hw:∀ x∈ws,j7 x=true)(hz:ws.length<=100)
  (h:∀ b P n',b≠st->M b=none->GP P->P.length<=ws.length->0<=n'->n'<2147483647->Q (.ref b) (upd (upd M st (.lst [.int n'])) b (.lst ((dS P).map M8)))) :
  c7 g (d+3) true "_law_papers" [.ref st,.ref wl] M Q X:=by
 refine cf7 N ?_;k_extra "w";rename_i b hb;have hbs:st≠b:=l7 hst hb;have hbw:wl≠b:=l7 hwl hb;refine LoopR.held _ (i9 hwl hb) (Loop.g (PpJ st wl b ws M) (λ_ k_=>k_ ws [] n none rfl hw ⟨.nil,λp hp=>(by cases hp),λp hp=>(by cases hp),λp hp=>(by cases hp)⟩ (by simp) h0 h1 (i9 hst hb) (c9 _ _ _) i6.r rfl) (λR J hR hJ=>?_) ?_)
 ·rintro v rest _ M' hh_;refine hh_ _ ?_;clear hh_;rintro todo P n o e1 hw hP hz' h0 h1 hst' hb' hS rfl
  have hwl':=hS wl _ hne hbw hwl;refine⟨hwl',?_⟩;cases todo with
  | nil=>cases e1
  | cons x todo=>
   refine c6 (List.cons.inj e1) λe3 q1_=>?_;subst q1_
   subst e3;rw[aN] at hz';have hx:=hw x (.head _);have hw':∀ x∈todo,j7 x=true:=λy hy=>hw y (.tail _ hy)
   have hPl:(dS P).length=P.length:=ac _;have hbs':=Ne.symm hbs;k_extra "w"
   ·rename_i r n1 r0 r3 n0 n2 q
    have hb1:upd M' st (.lst [.int n1]) b=some (.lst ((dS P).map M8)):=by rw[d6 _ _ hbs'];exact hb'
    refine CLoop.g (λrest acc M2=>upd M' st (.lst [.int n1])=M2/\∃ done todo:List (Str×V),dS P=done++todo/\rest=todo.map M8/\acc=(done.map (·.1)).map V.str) (by rw[ac];lia) ⟨rfl,[],_,rfl,rfl,rfl⟩ (λJ hJ=>?_) ?_
    ·rintro v rest acc _ hh_;obtain⟨rfl,done,todo',e,hr,rfl⟩:=hh_
     refine⟨hb1,?_⟩;cases todo' with
     | nil=>cases hr
     | cons p todo'=>
      refine c6 (List.cons.inj hr) λe4 q1_=>?_;subst q1_
      obtain rfl:v=.tup [.str p.1,p.2]:=e4;k_extra "w";exact hJ ⟨rfl,done++[p],todo',by rw[e,aH];rfl,rfl,by rw[av,av];rfl⟩
    ·rintro acc _ hh_;obtain⟨rfl,done,todo',e,hr,rfl⟩:=hh_
     obtain rfl:todo'=[]:=by cases todo' with | nil=>rfl | cons _ _=>cases hr
     rw[aS] at e;subst e;refine⟨hb1,λc hc=>?_⟩
     refine InR.l (Look.mk _ (c9 _ _ _) (InL.ofStrs ((dS P).map (·.1)) x rfl rfl ?_))
     rw[cM];have hcs:st≠c:=l7 (c9 _ _ _) hc;have hcb:b≠c:=l7 hb1 hc;have hbz:((dS P).map M8).length<=10000:=by rw[ac];lia
     have hbz':=hcb;k_extra "w"
     ·rename_i q2
      exact hJ (λ_ k_=>k_ todo P n1 _ rfl hw' hP (by lia) (by assumption) (by assumption) (by rw[d6 _ _ hcs,c9]) (by rw[d6 _ _ hcb];exact hb1) ((hS.trans i6.l).sub (Sub.upd hc)) rfl)
     ·rename_i q2 i n3 i0 i1 n4 n5
      refine hJ (λ_ k_=>k_ todo (P++[(x,i)]) n3 _ rfl hw' (hP.snoc (bP8 q2) hx i0 i1) (by rw[az];show P.length+1+_<=_;lia) n4 n5 (by rw[d6 _ _ hbs,c9]) (by rw[c9,az7,av];rfl) ((((hS.trans i6.l).sub (Sub.upd hc)).trans i6.l).trans i6.r) rfl)
   ·rename_i r n1 r0 r3 n0 n2 q
    exact hJ (λ_ k_=>k_ todo P n1 _ rfl hw' hP (by lia) n0 n2 (c9 _ _ _) (by rw[d6 _ _ hbs'];exact hb') (hS.trans i6.l) rfl)
 ·rintro _ M' hh_;refine hh_ _ ?_;clear hh_;rintro todo P n o e1 hw hP hz' h0 h1 hst' hb' hS rfl
  refine⟨hS wl _ hne hbw hwl,?_⟩;k_extra "w";exact t9 (bd5 hS hst' hb') (h b P n (Ne.symm hbs) hb hP (by lia) h0 h1)
set_option tactic.hygienic true in
theorem ce3(N:Nm g){st:Addr}{n:Int}{many:Int}(hst:M st=some (.lst [.int n]))(h0:0<=n)(h1:n<2147483647)(hm:0<=many)(hm':many<=100)
  (h:∀ b (T:List Bool) n',b≠st->M b=none->(T.length:Int)=many->0<=n'->n'<2147483647->Q (.ref b) (upd (upd M st (.lst [.int n'])) b (.lst (T.map .bool)))) :
  c7 g (d+2) true "_law_taken" [.ref st,.int many] M Q X:=by
 refine aY4 N ?_;k_extra "w";refine N0 (λi acc M'=>∃ (T:List Bool) (n:Int),0<=n/\n<2147483647/\M'=upd M st (.lst [.int n])/\T.length=i/\acc=T.map V.bool) (by lia) ⟨[],n,h0,h1,by rw[L7 hst],rfl,rfl⟩ (λJ hJ=>?_) ?_
 ·rintro i acc _ hi hh_;obtain⟨T,n,h0,h1,rfl,hT,rfl⟩:=hh_
  k_extra "w";rename_i r n' r0 r1 n0 n1;exact hJ ⟨T++[r==1],n',n0,n1,N5 _ _ _ _,by rw[az,hT];rfl,by rw[av];rfl⟩
 ·rintro acc _ ⟨T,n,h0,h1,rfl,hT,rfl⟩ c hc
  obtain⟨c1,c2⟩:=j5 hc;exact d0 (h c T n c1 c2 (by lia) h0 h1)
end
noncomputable def i7(P:List (Str×Int)):List (V×V):=P.map λp=>(.str p.1,.int p.2)
theorem bB5{P:List (Str×Int)}:(dS P).map M8=(i7 P).map n8:=by unfold dS i7;rw[bI,bI];rfl
theorem aR9{P:List (Str×Int)}(h:GP P)(M:Hp):∀ p∈i7 P,Cld M p.1/\Cld M p.2:=λp hp=>by
 refine a9 (ar.mp hp) λq hq q1_=>?_;subst q1_
 exact⟨.str (ae (O3 (h.wd q hq)).2.2 (by decide)),.int _⟩
theorem bh6{D:List (Str×Int)}{x:Str}(h:x∉(dS D).map (·.1)):(i8 (dS D) x).isSome=false:=by
 cases e:i8 (dS D) x with
 | none=>rfl
 | some v=>
  unfold i8 at e;refine a9 (aJ.mp e) λp hp z_=>?_
  have:=List.find?_some hp;exact absurd (ar.mpr ⟨p,dy hp,of_decide_eq_true this⟩) h
theorem aP8:∀ (P2 P1:List (Str×Int)),((dS (P1++P2)).map (·.1)).Nodup->(∀ p∈P2,j7 p.1=true/\-1000000000<=p.2/\p.2<=1000000000)->papF (i7 P2) P1=some (P1++P2):=by
 intro P2;induction P2 with
 | nil=>intro P1 _ _;rw[aS];rfl
 | cons p P2 ih=>
  intro P1 hn hg;refine k8 (hg p (.head _)) λh1 h2 h3=>?_
  have e:P1++p::P2=(P1++[p])++P2:=by rw[aH];rfl
  have hnot:p.1∉(dS P1).map (·.1):=λq=>by
   unfold dS at hn;rw[av,av] at hn;exact(bk.mp hn).2.2 _ q _ (.head _) rfl
  rw[e] at hn ⊢;have:=av8 (p:=(V.str p.1,V.int p.2)) (l:=i7 P2) (D:=P1) (by unfold gdP;rw[w6 (by lia) h3];show(j7 p.1&&true)=true;rw[h1];rfl) (bh6 hnot)
  exact this.trans (ih (P1++[p]) hn λq hq=>hg q (.tail _ hq))
theorem GP.papF{P:List (Str×Int)}(h:GP P):papF (i7 P) []=some P:=aP8 P [] h.nd λp hp=>⟨h.wd p hp,h.lo p hp,h.hi p hp⟩
theorem z5{l:List V}(h:∀ x∈l,nz x=true):nzL l=true:=by
 induction l with
 | nil=>rfl
 | cons x l ih=>
  show(nz x&&nzL l)=true;rw[h x (.head _),ih λy hy=>h y (.tail _ hy)];rfl
theorem L1{l:List V}(h1:zp l=false)(h2:nzL l=true):nz (.tup l)=true:=by
 show(!zp l&&nzL l)=true;rw[h1,h2];rfl
theorem ai4{x y z:V}(hx:zp [x,y,z]=false)(h1:nz x=true)(h2:nz y=true)(h3:nz z=true):nz (.tup [x,y,z])=true:=L1 hx (by
 show(nz x&&(nz y&&(nz z&&true)))=true;rw[h1,h2,h3];rfl)
theorem aj4{x y z u:V}(hx:zp [x,y,z,u]=false)(h1:nz x=true)(h2:nz y=true)(h3:nz z=true)(h4:nz u=true):nz (.tup [x,y,z,u])=true:=L1 hx (by
 show(nz x&&(nz y&&(nz z&&(nz u&&true))))=true;rw[h1,h2,h3,h4];rfl)
theorem bZ5{z:Lim}:∀ (n:Nat) {v:V},ok z n v=true->nz v=true:=by
 intro n;induction n with
 | zero=>intro v h;exact ff h
 | succ n ih=>
  intro v h;cases J1 h with
  | num i=>rfl
  | paper x=>rfl
  | line i h0 h1=>rfl
  | earlier i h0 h1=>rfl
  | part r i hr h0 h1=>exact ai4 rfl rfl (ih hr) rfl
  | table i r h0 h1 hr=>exact ai4 rfl rfl rfl (ih hr)
  | two w r t hw hr ht=>exact ai4 rfl rfl (ih hr) (ih ht)
  | wher r t u hr ht hu=>exact aj4 rfl rfl (ih hr) (ih ht) (ih hu)
  | choo i r t h0 h1 hr ht=>exact aj4 rfl rfl rfl (ih hr) (ih ht)
theorem ab6{l:List V}(h:∀ x∈l,∃ k,x=.tup k):zp l=false:=by
 cases l with
 | nil=>rfl
 | cons x l=>
  refine c5 (h x (.head _)) λk q1_=>?_;subst q1_
  cases l with
  | nil=>rfl
  | cons y l=>cases l with
   | nil=>rfl
   | cons _ _=>rfl
theorem bY1{z:Lim}{v:V}(h:ok z 8 v=true):∃ k,v=.tup k:=by
 cases J1 h<;>exact⟨_,rfl⟩
theorem aR2{t:V}(h:u7 t=true):nz t=true:=by
 refine a9 (af3 h) λl q1_ hr=>?_;subst q1_
 refine L1 (ab6 λx hx=>?_) (z5 λx hx=>?_)
 ·refine x6 (Y4 (hr x hx)) λa b c q1_ z_=>?_;subst q1_;exact⟨_,rfl⟩
 ·refine x6 (Y4 (hr x hx)) λa b c q1_ z_=>?_;subst q1_;rfl
theorem FG.nz{rules tabs:List V}{C owed:Int}{rk:Int->Nat}(F:FG rules tabs C owed rk):nz (fmV rules tabs C owed)=true:=by
 have FF:=F.form;refine aj4 rfl (L1 (ab6 λx hx=>bY1 (FF.rule x hx).ok) (z5 λx hx=>bZ5 8 (FF.rule x hx).ok)) (L1 (ab6 λx hx=>?_) (z5 λx hx=>aR2 (F.tab x hx).1)) rfl rfl
 refine a9 (af3 (F.tab x hx).1) λl q1_ z_=>?_;subst q1_
 exact⟨_,rfl⟩
theorem NR.nil:NR []:=λi v e=>by cases e
theorem NR.cons{o:Option V}{Z:Lo}(h:∀ v,o=some v->Internal.nz v=true)(k:NR Z):NR (o::Z):=λi v e=>by
 cases i with
 | zero=>exact h v (Option.some.inj e)
 | succ i=>exact k i v e
theorem NR.some{v:V}{Z:Lo}(h:Internal.nz v=true)(k:NR Z):NR (some v::Z):=k.cons λw e=>by cases e;exact h
structure PAt(M:Hp)(cs:List Addr)(Ls:List (List V)):Prop where
 len:cs.length=Ls.length
 at':∀ {j:Nat} {c:Addr} {x:List V},cs[j]?=some c->Ls[j]?=some x->M c=some (.lst x)
theorem PAt.nil{M:Hp}:PAt M [] []:=⟨rfl,λe=>by cases e⟩
theorem PAt.sub{M M':Hp}{cs:List Addr}{Ls:List (List V)}(h:PAt M cs Ls)(k:Sub M M'):PAt M' cs Ls:=⟨h.len,λe1 e2=>k _ _ (h.at' e1 e2)⟩
theorem PAt.stay{M M':Hp}{A:List Addr}{cs:List Addr}{Ls:List (List V)}(h:PAt M cs Ls)(k:d7 A M M')(hA:∀ c∈cs,c∉A):PAt M' cs Ls:=⟨h.len,λe1 e2=>k _ _ (hA _ (aI e1)) (h.at' e1 e2)⟩
theorem ae6{α:Type}{l:List α}{x y:α}{j:Nat}(h:(l++[x])[j]?=some y):(j<l.length/\l[j]?=some y)∨(j=l.length/\y=x):=by
 by_cases q:j<l.length
 ·rw[cP q] at h;exact .inl ⟨q,h⟩
 ·rw[ci (cn q)] at h
  have h2:=(ay.mp h).1;rw[gv] at h2;have e:j=l.length:=aZ (cr (Nat.lt_one_iff.mp h2)) (cn q);subst e;rw[cS] at h;exact .inr ⟨rfl,(Option.some.inj h).symm⟩
theorem PAt.snoc{M:Hp}{cs:List Addr}{Ls:List (List V)}{c:Addr}{x:List V}(h:PAt M cs Ls)(e:M c=some (.lst x)):PAt M (cs++[c]) (Ls++[x]):=
 ⟨by rw[az,az,h.len];rfl,λe1 e2=>by
  rcases ae6 e1 with ⟨q1,e1⟩ | ⟨q1,rfl⟩
  ·rcases ae6 e2 with ⟨q2,e2⟩ | ⟨q2,rfl⟩
   ·exact h.at' e1 e2
   ·have:=h.len;lia
  ·rcases ae6 e2 with ⟨q2,e2⟩ | ⟨q2,rfl⟩
   ·have:=h.len;lia
   ·exact e⟩
theorem PAt.get{M:Hp}{cs:List Addr}{Ls:List (List V)}(h:PAt M cs Ls){j:Nat}{x:List V}(e:Ls[j]?=some x):∃ c,cs[j]?=some c/\M c=some (.lst x):=by
 have q:=(ay.mp e).1;rw[<- h.len] at q;exact⟨_,aa q,h.at' (aa q) e⟩
theorem PAt.has{M:Hp}{cs:List Addr}{Ls:List (List V)}(h:PAt M cs Ls){c:Addr}(hc:c∈cs):∃ x∈Ls,M c=some (.lst x):=by
 obtain⟨j,hj,rfl⟩:=dt hc;have q:=hj;rw[h.len] at q;exact⟨_,bL q,h.at' (aa hj) (aa q)⟩
noncomputable def eS(rules tabs:List V)(rk:Int->Nat)(E:List Int)(r:List (V×V)×List Bool):List Int:=E8 rules ⟨(papF r.1 []).getD [],E,r.2,tabs⟩ rk
noncomputable def eY(rules tabs:List V)(rk:Int->Nat)(Us:List (List (V×V)))(Ts:List (List Bool))(k:Nat):List Int:=((Us.zip Ts).take k).foldl (eS rules tabs rk) []
noncomputable def hL(rules tabs:List V)(rk:Int->Nat)(Us:List (List (V×V)))(Ts:List (List Bool))(k:Nat):List (List V):=(List.range k).map λj=>(eY rules tabs rk Us Ts (j+1)).map V.int
section
variable{rules tabs:List V}{rk:Int->Nat}{Us:List (List (V×V))}{Ts:List (List Bool)}
theorem N4{k:Nat}{u:List (V×V)}{T:List Bool}(hu:Us[k]?=some u)(hT:Ts[k]?=some T):eY rules tabs rk Us Ts (k+1)=E8 rules ⟨(papF u []).getD [],eY rules tabs rk Us Ts k,T,tabs⟩ rk:=by
 have e:(Us.zip Ts)[k]?=some (u,T):=List.getElem?_zip_eq_some.mpr ⟨hu,hT⟩;unfold eY;rw[dO,e,List.foldl_append];rfl
theorem aA2{y:Yr}:(E8 rules y rk).length=rules.length:=by unfold E8;rw[ac,bF]
theorem az4(k:Nat):eY rules tabs rk Us Ts k=[]∨(eY rules tabs rk Us Ts k).length=rules.length:=by
 induction k with
 | zero=>exact .inl rfl
 | succ k ih=>
  cases e:(Us.zip Ts)[k]? with
  | none=>unfold eY;rw[dO,e,Option.toList_none,aS];exact ih
  | some r=>unfold eY;rw[dO,e,List.foldl_append];exact .inr aA2
theorem aX5(k:Nat):hL rules tabs rk Us Ts (k+1)=hL rules tabs rk Us Ts k++[(eY rules tabs rk Us Ts (k+1)).map V.int]:=by
 unfold hL;rw[fR,av];rfl
theorem aD7(k:Nat):(hL rules tabs rk Us Ts k).length=k:=by unfold hL;rw[ac,bF]
theorem as7{k:Nat}{x:List V}(h:x∈hL rules tabs rk Us Ts k):∃ j,x=(eY rules tabs rk Us Ts (j+1)).map V.int:=by
 refine a9 (ar.mp h) λj z_ q1_=>?_;subst q1_
 exact⟨j,rfl⟩
end
theorem F5{l:List Addr}:nzO (.lst (l.map V.ref))=true:=z5 λx hx=>by refine a9 (ar.mp hx) λc z_ q1_=>?_;subst q1_;rfl
theorem bY2{l:List Int}:nzO (.lst (l.map V.int))=true:=z5 λx hx=>by refine a9 (ar.mp hx) λc z_ q1_=>?_;subst q1_;rfl
def CpJ(τ:Hp)(cs:List Addr)(Ls:List (List V))(rest acc:List V)(M':Hp):Prop:=
 ∀ P_:Prop,(∀ (d1 d2 bs:List Addr) (e1:cs=d1++d2) (e2:rest=d2.map .ref) (e3:acc=bs.map .ref) (hs:Sub τ M') (hn:NZ M') (hP:PAt M' bs (Ls.take d1.length)) (nw:∀ b∈bs,τ b=none),P_)->P_
theorem br0{xa:Addr}{cs:List Addr}{Ls:List (List V)}{τ:Hp}{turn:V->Hp->VP->(Hp->Prop)->Prop}{Q:VP}(hx:τ xa=some (.lst (cs.map .ref)))(hP:PAt τ cs Ls)(hz:cs.length<=1000)(nz:NZ τ)
  (ht:∀ M' c x (yes:VP) (no:Hp->Prop),x∈Ls->M' c=some (.lst x)->(∀ b,M' b=none->yes (.ref b) (upd M' b (.lst x)))->turn (.ref c) M' yes no)
  (h:∀ M' b bs,Sub τ M'->NZ M'->M' b=some (.lst (bs.map .ref))->PAt M' bs Ls->(∀ c∈bs,τ c=none)->Q (.ref b) M'):CLoop (cs.map .ref) (λM=>M xa=some (.lst (cs.map .ref))) τ turn Q:=by
 refine CLoop.g (CpJ τ cs Ls) (by rw[ac];lia) (λz_ k_=>k_ [] cs [] rfl rfl rfl (Sub.refl _) nz PAt.nil (λc hc=>(by cases hc))) (λJ hJ=>?_) ?_
 ·rintro v rest acc M' hh_;refine hh_ _ ?_;clear hh_;rintro d1 d2 bs e1 e2 rfl hs hn hP' nw
  refine⟨hs _ _ hx,?_⟩;cases d2 with
  | nil=>cases e2
  | cons c d2=>
   obtain⟨rfl,rfl⟩:=List.cons.inj e2;have hc:cs[d1.length]?=some c:=by rw[e1,ci (aC _),cS];rfl
   have q:=(ay.mp hc).1;rw[hP.len] at q;have hl:=aa q;have hcx:=hP.at' hc hl;refine ht M' c _ _ _ (bL q) (hs _ _ hcx) λb hb=>hJ (λz_ k_=>k_ (d1++[c]) d2 (bs++[b]) (by rw[e1,aH];rfl) rfl (by rw[av];rfl) (hs.trans (Sub.upd hb)) (hn.upd (nz c _ hcx)) ?_ (λy hy=>?_))
   ·rw[az]
    show PAt _ _ (Ls.take (d1.length+1));rw[dO,hl];exact(hP'.sub (Sub.upd hb)).snoc (c9 _ _ _)
   ·rcases aq.mp hy with q | q
    ·exact nw y q
    ·rw[aj.mp q];exact F1 hs hb
 ·rintro acc M' hh_;refine hh_ _ ?_;clear hh_;rintro d1 d2 bs e1 e2 rfl hs hn hP' nw
  refine⟨hs _ _ hx,λa ha=>?_⟩
  obtain rfl:d2=[]:=by cases d2 with | nil=>rfl | cons _ _=>cases e2
  rw[aS] at e1;subst e1;rw[hP.len,List.take_length] at hP';exact h _ a bs (hs.trans (Sub.upd ha)) (hn.upd F5) (c9 _ _ _) (hP'.sub (Sub.upd ha)) nw
theorem TkAt.nz{M:Hp}{T:List Bool}{v:V}(h:TkAt M T v):nz v=true:=by
 cases h with
 | lst a h=>rfl
 | tup=>
  refine L1 ?_ (z5 λx hx=>by refine a9 (ar.mp hx) λb z_ q1_=>?_;subst q1_;rfl)
  cases T with
  | nil=>rfl
  | cons a T=>cases T with
   | nil=>rfl
   | cons b T=>cases T with
    | nil=>rfl
    | cons _ _=>rfl
structure HIn(M:Hp)(ya ta:Addr)(as:List Addr)(tks:List V)(Us:List (List (V×V)))(Ts:List (List Bool)):Prop where
 hy:M ya=some (.lst (as.map .ref))
 ht:M ta=some (.lst tks)
 pa:PAt M as (Us.map (·.map n8))
 lt:tks.length=Ts.length
 lu:Us.length=Ts.length
 tk:∀ {i:Nat} {t:V} {T:List Bool},tks[i]?=some t->Ts[i]?=some T->TkAt M T t
 cl:∀ u∈Us,∀ M,∀ p∈u,Cld M p.1/\Cld M p.2
 uz:∀ u∈Us,u.length<=1000
 tz:∀ T∈Ts,T.length<=100
 zz:Ts.length<=100
def HsJ(rules tabs:List V)(C:Int)(rk:Int->Nat)(Us:List (List (V×V)))(Ts:List (List Bool))(fm:V)(ya ta fa:Addr)(M:Hp)(i:Nat)(Z':Lo)(M':Hp):Prop:=
 ∀ P_:Prop,(∀ (ea:Addr) (cs:List Addr) (o1 o2:Option V) (g1:∀ (j:Nat) u,j<i->Us[j]?=some u->papF u []≠none) (g2:∀ (j:Nat) (T:List Bool),j<i->Ts[j]?=some T->(T.length:Int)=C) (hs:Sub M M') (hn:NZ M') (hf:M' fa=some (.lst (cs.map .ref))) (hP:PAt M' cs (hL rules tabs rk Us Ts i)) (he:M' ea=some (.lst ((eY rules tabs rk Us Ts i).map .int)))
  (hne:∀ c∈cs,c≠fa) (hea:ea≠fa) (q1:∀ v,o1=some v->nz v=true) (q2:∀ v,o2=some v->nz v=true) (e:Z'=[some fm,some (.ref ya),some (.ref ta),some (.ref fa),some (.ref ea),o1,o2]),P_)->P_
section
variable{g:G}{d:Nat}{M:Hp}{Q:V->Hp->Prop}{X:Str->Hp->Prop}
set_option tactic.hygienic true in
theorem cc1(N:Nm g){rules tabs:List V}{C owed:Int}{rk:Int->Nat}(F:FG rules tabs C owed rk){ya ta:Addr}{as:List Addr}{tks:List V}{Us:List (List (V×V))}{Ts:List (List Bool)}(H:HIn M ya ta as tks Us Ts)(nz:NZ M)
  (h1:(∀ u∈Us,papF u []≠none)->∀ M' b cs,Sub M M'->NZ M'->M' b=some (.lst (cs.map .ref))->PAt M' cs (hL rules tabs rk Us Ts Ts.length)->(∀ c∈cs,M c=none)->Q (.ref b) M')
  (h2:∀ (i:Nat) u,Us[i]?=some u->papF u []=none->(∀ (j:Nat) (T:List Bool),j<i->Ts[j]?=some T->(T.length:Int)=C)->∀ M',X (Str.ofString "NoPaper") M')
  (h3:∀ (i:Nat) (T:List Bool),Ts[i]?=some T->(T.length:Int)≠C->(∀ (j:Nat) u,j<=i->Us[j]?=some u->papF u []≠none)->∀ M',X (Str.ofString "NoChoice") M') :
  c7 g (d+14) true "history" [fmV rules tabs C owed,.ref ya,.ref ta] M Q X:=by
 refine bG7 N ?_;obtain⟨hy,ht,pa,lt,lu,tk,cl,uz,tz,zz⟩:=H;have la:as.length=Ts.length:=by rw[pa.len,ac,lu]
 have el:min (as.map V.ref).length tks.length=Ts.length:=by rw[ac,la,lt,dE]
 have zk:∀ {M':Hp} {fa ea:Addr} {o1 o2:Option V},Sub M M'->NZ M'->(∀ v,o1=some v->Internal.nz v=true)->(∀ v,o2=some v->Internal.nz v=true)->ZipK ya ta (as.map .ref) tks [some (fmV rules tabs C owed),some (.ref ya),some (.ref ta),some (.ref fa),some (.ref ea),o1,o2] M':=λhs hn q1 q2=>
  ⟨hs _ _ hy,hs _ _ ht,λx hx=>by
   obtain⟨c,hc,rfl⟩:=ar.mp hx;obtain⟨z,-,e⟩:=pa.has hc;exact⟨c,_,rfl,hs _ _ e⟩,hn,.some F.nz (.some rfl (.some rfl (.some rfl (.some rfl (.cons q1 (.cons q2 .nil))))))⟩
 k_extra "w";rename_i fa hfa ea hea;refine LoopZ.mk (as.map .ref) tks (by k_extra "heap") (by k_extra "heap") (HsJ rules tabs C rk Us Ts (fmV rules tabs C owed) ya ta fa M) (λ_ k_=>k_ ea [] none none (λj u h=>absurd h (bS _)) (λj u h=>absurd h (bS _)) ((Sub.upd hfa).trans (Sub.upd hea)) ((nz.upd rfl).upd rfl) (i9 (c9 _ _ _) hea) PAt.nil (c9 _ _ _) (λc hc=>(by cases hc)) ((j5 hea).1) (λv e=>(by cases e)) (λv e=>(by cases e)) rfl) ?_ ?_
 ·rintro i x y _ M' hx hy' hh_;refine hh_ _ ?_;clear hh_;rintro ea cs o1 o2 g1 g2 hs hn hf hP he hne hea q1 q2 rfl
  have hi:i<Ts.length:=by rw[<- lt];exact(ay.mp hy').1
  have hT:Ts[i]?=some Ts[i]:=aa hi;have hU:Us[i]?=some (Us[i]'(lu▸hi)):=aa _;generalize Ts[i]=T at hT;generalize Us[i]'_=u at hU;obtain⟨a,ha,hau⟩:=pa.get (j:=i) (x:=u.map n8) (by rw[aw,hU];rfl)
  obtain rfl:x=.ref a:=by rw[aw,ha] at hx;exact(Option.some.inj hx).symm
  have hty:=tk hy' hT;have mu:=aI hU;have mT:=aI hT;refine⟨zk hs hn q1 q2,?_⟩;have hcl:(cs.map V.ref).length<=10000:=by rw[ac,hP.len,aD7];lia
  k_extra "w";refine bA0 (d:=d) N F (hs _ _ hau) (cl u mu _) (uz u mu) he (az4 i) (hty.sub hs) (tz T mT) (λP hPp eT b hb=>?_) (λhPp M' _=>h2 i u hU hPp g2 M') (λP hPp eT M' _=>h3 i T hT eT (λj v hj hv=>?_) M')
  ·have eb:E8 rules ⟨P,eY rules tabs rk Us Ts i,T,tabs⟩ rk=eY rules tabs rk Us Ts (i+1):=by rw[N4 hU hT,hPp];rfl
   rw[eb];have hbf:b≠fa:=(l7 hf hb).symm;have em:cs.map V.ref++[V.ref b]=(cs++[b]).map V.ref:=by rw[av];rfl
   k_extra "w";rw[em];refine(λ_ k_=>k_ b (cs++[b]) _ _ (λj v hj hv=>?_) (λj v hj hv=>?_) (λc o e=>?_) ((hn.upd bY2).upd F5) (c9 _ _ _) ?_ (by rw[d6 _ _ hbf];exact c9 _ _ _) (λc hc=>?_) hbf (λv e=>(by cases e;rfl)) (λv e=>(by cases e;exact hty.nz)) rfl)
   ·by_cases q:j=i
    ·subst q;rw[hU] at hv;cases hv;rw[hPp];exact λe=>by cases e
    ·exact g1 j v (by lia) hv
   ·by_cases q:j=i
    ·subst q;rw[hT] at hv;cases hv;exact eT
    ·exact g2 j v (by lia) hv
   ·rw[d6 _ _ (l7 e hfa)];exact Sub.upd hb _ _ (hs _ _ e)
   ·rw[aX5]
    exact(hP.stay ((d7.new hb).trans (d7.upd (by k_extra "mem"))) λc hc=>l9 (hne c hc)).snoc (by rw[d6 _ _ hbf];exact c9 _ _ _)
   ·rcases aq.mp hc with q | q
    ·exact hne c q
    ·rw[aj.mp q];exact hbf
  ·by_cases q:j=i
   ·subst q;rw[hU] at hv;cases hv;rw[hPp];exact λe=>by cases e
   ·exact g1 j v (by lia) hv
 ·rintro _ M' hh_;refine hh_ _ ?_;clear hh_;rintro ea cs o1 o2 g1 g2 hs hn hf hP he hne hea q1 q2 rfl
  rw[el] at g1 g2 hP he;refine⟨zk hs hn q1 q2,?_⟩;k_extra "w";refine br0 hf hP (by rw[hP.len,aD7];lia) hn (λM' c x yes no hx hc hk=>?_) λM'' b bs k1 k2 k3 k4 k5=>d0 (h1 (λu hu=>?_) M'' b bs (hs.trans k1) k2 k3 k4 λc hc=>F1 hs (k5 c hc))
  ·obtain⟨j,rfl⟩:=as7 hx
   have:((eY rules tabs rk Us Ts (j+1)).map V.int).length<=10000:=by rw[ac];have:=aE3 (az4 (rules:=rules) (tabs:=tabs) (rk:=rk) (Us:=Us) (Ts:=Ts) (j+1)) F.l40;lia
   k_extra "w";exact hk _ (by assumption)
  ·obtain⟨j,hj,rfl⟩:=dt hu
   exact g1 j _ (by lia) (aa hj)
theorem ab0(N:Nm g){rules tabs:List V}{C owed:Int}{rk:Int->Nat}(F:FG rules tabs C owed rk){ya ta:Addr}{as:List Addr}{tks:List V}{Us:List (List (V×V))}{Ts:List (List Bool)}(H:HIn M ya ta as tks Us Ts)(nz:NZ M)(good:∀ u∈Us,papF u []≠none)(hC:∀ T∈Ts,(T.length:Int)=C)
  (h:∀ M' b cs,Sub M M'->NZ M'->M' b=some (.lst (cs.map .ref))->PAt M' cs (hL rules tabs rk Us Ts Ts.length)->(∀ c∈cs,M c=none)->Q (.ref b) M') :
  c7 g (d+14) true "history" [fmV rules tabs C owed,.ref ya,.ref ta] M Q X:=
 cc1 N F H nz (λz_=>h) (λi u hu e=>absurd e (good u (aI hu))) λi T hT e=>absurd (hC T (aI hT)) e
end
theorem am9{α:Type}{f:α->List V}{R:α->Prop}{Ls:List (List V)}(h:∀ x∈Ls,∃ P,R P/\x=f P):∃ Ps:List α,Ls=Ps.map f/\∀ P∈Ps,R P:=by
 induction Ls with
 | nil=>exact⟨[],rfl,λP hP=>by cases hP⟩
 | cons x Ls ih=>
  refine a9 (h x (.head _)) λP hP q1_=>?_;subst q1_
  obtain⟨Ps,rfl,k⟩:=ih λy hy=>h y (.tail _ hy)
  exact⟨P::Ps,rfl,λq hq=>by
   rcases au.mp hq with rfl | hq
   ·exact hP
   ·exact k q hq⟩
def MkJ(st:Addr)(M:Hp)(R:List V->Prop)(i:Nat)(acc:List V)(M':Hp):Prop:=
 ∀ P_:Prop,(∀ (as:List Addr) (Ls:List (List V)) (n:Int) (e1:acc=as.map .ref) (e2:Ls.length=i) (hS:d7 [st] M M') (hst:M' st=some (.lst [.int n])) (n0:0<=n) (n1:n<2147483647) (hP:PAt M' as Ls) (hR:∀ x∈Ls,R x) (hn:NZ M') (ne:∀ a∈as,a≠st),P_)->P_
theorem ck6{st:Addr}{M:Hp}{n cnt:Int}{turn:V->Hp->VP->(Hp->Prop)->Prop}{Q:VP}(R:List V->Prop)(c0:0<=cnt)(c8:cnt<=100)(nz:NZ M)(hst:M st=some (.lst [.int n]))(n0:0<=n)(n1:n<2147483647)(hR:∀ x,R x->nzL x=true)
  (ht:∀ M' n v (yes:VP) (no:Hp->Prop),d7 [st] M M'->M' st=some (.lst [.int n])->0<=n->n<2147483647->(∀ b x n',b≠st->M' b=none->R x->0<=n'->n'<2147483647->yes (.ref b) (upd (upd M' st (.lst [.int n'])) b (.lst x)))->turn v M' yes no)
  (h:∀ M' l as Ls n,d7 [st] M M'->M' st=some (.lst [.int n])->0<=n->n<2147483647->M' l=some (.lst (as.map .ref))->l≠st->PAt M' as Ls->(Ls.length:Int)=cnt->(∀ x∈Ls,R x)->NZ M'->(∀ a∈as,a≠st)->Q (.ref l) M'):CLoop (g9 0 1 (cnt-0).toNat) (λz_=>True) M turn Q:=by
 refine N0 (MkJ st M R) (by lia) (λz_ k_=>k_ [] [] n rfl rfl d7.refl hst n0 n1 PAt.nil (λx hx=>(by cases hx)) nz (λa ha=>(by cases ha))) (λJ hJ=>?_) ?_
 ·rintro i acc M' hi hh_;refine hh_ _ ?_;clear hh_;rintro as Ls n rfl e2 hS hst n0 n1 hP hR' hn ne
  refine ht M' n _ _ _ hS hst n0 n1 λb x n' b1 b2 hx m0 m1=>CJ.next hi (hJ (λz_ k_=>k_ (as++[b]) (Ls++[x]) n' (by rw[av];rfl) (by rw[az,e2];rfl) ?_ ?_ m0 m1 ?_ ?_ ((hn.upd rfl).upd (hR x hx)) ?_))
  ·exact(hS.trans (d7.upd (by k_extra "mem"))).trans (d7.new (N6 b2 b1))
  ·rw[d6 _ _ (Ne.symm b1)];exact c9 _ _ _
  ·exact(hP.stay ((d7.upd (by k_extra "mem")).trans (d7.new (N6 b2 b1))) λc hc=>l9 (ne c hc)).snoc (c9 _ _ _)
  ·intro y hy
   rcases aq.mp hy with q | q
   ·exact hR' y q
   ·rw[aj.mp q];exact hx
  ·intro y hy
   rcases aq.mp hy with q | q
   ·exact ne y q
   ·rw[aj.mp q];exact b1
 ·rintro acc M' hh_ c hc;refine hh_ _ ?_;clear hh_;rintro as Ls n rfl e2 hS hst n0 n1 hP hR' hn ne
  exact h _ c as Ls n (hS.trans (d7.new hc)) (i9 hst hc) n0 n1 (c9 _ _ _) (l7 hst hc).symm (hP.sub (Sub.upd hc)) (by lia) hR' (hn.upd F5) ne
theorem bH7{l:List Str}:nzO (.lst (l.map V.str))=true:=z5 λx hx=>by refine a9 (ar.mp hx) λb z_ q1_=>?_;subst q1_;rfl
theorem af6{P:List (Str×Int)}:nzO (.lst ((i7 P).map n8))=true:=z5 λx hx=>by
 refine a9 (ar.mp hx) λq hq q1_=>?_;subst q1_
 refine a9 (ar.mp hq) λp hp q1_=>?_;subst q1_
 rfl
theorem PAt.set{M:Hp}{cs:List Addr}{Ls:List (List V)}{c:Addr}{x:List V}(h:PAt M cs Ls)(i:Nat)(e:M c=some (.lst x)):PAt M (cs.set i c) (Ls.set i x):=
 ⟨by rw[bB,bB,h.len],fun{j c' x'} e1 e2=>by
  rw[List.getElem?_set] at e1 e2;by_cases q:i=j
  ·rw[if_pos q] at e1 e2
   by_cases q2:i<cs.length
   ·rw[if_pos q2] at e1
    rw[if_pos (h.len▸q2)] at e2;cases e1;cases e2;exact e
   ·rw[if_neg q2] at e1;cases e1
  ·rw[if_neg q] at e1 e2;exact h.at' e1 e2⟩
inductive Hg(rules:List V)(u:Str)(x:V)(yr:Nat):Nat->Int->Prop
 | hit {l:Int} (h0:0<=l) (h1:l<rules.length) (h:x∈d5 8 (rules.getD l.toNat .none) u):Hg rules u x yr yr l
 | line {y:Nat} {l o:Int} (h0:0<=l) (h1:l<rules.length) (h:V.int o∈d5 8 (rules.getD l.toNat .none) "line") (k:Hg rules u x yr y o):Hg rules u x yr y l
 | ear {y:Nat} {l o:Int} (h0:0<=l) (h1:l<rules.length) (h:V.int o∈d5 8 (rules.getD l.toNat .none) "earlier") (k:Hg rules u x yr y o):Hg rules u x yr (y+1) l
noncomputable def ky(p:Int×Int):Int:=p.1*1000+p.2
structure HgSet(rules:List V)(u:Str)(x:V)(yr cnt:Nat)(R:List (Int×Int)):Prop where
 srt:R.Pairwise λp q=>ky p<ky q
 mem:∀ p,p∈R↔∃ y:Nat,p.1=y/\y<cnt/\Hg rules u x yr y p.2
section
variable{rules:List V}{u:Str}{x:V}{yr:Nat}
theorem Hg.rng{y:Nat}{l:Int}(h:Hg rules u x yr y l):yr<=y/\0<=l/\l<rules.length:=by
 induction h with
 | hit h0 h1 h=>exact⟨aC _,h0,h1⟩
 | line h0 h1 h k ih=>exact⟨ih.1,h0,h1⟩
 | ear h0 h1 h k ih=>exact⟨dN ih.1,h0,h1⟩
def PH(rules:List V)(u:Str)(x:V)(yr y:Nat)(o:Int):Prop:=∃ z,y=z+1/\Hg rules u x yr z o
theorem Hg.iff{y:Nat}{l:Int}(h0:0<=l)(h1:l<rules.length):Hg rules u x yr y l↔(y=yr/\x∈d5 8 (rules.getD l.toNat .none) u)∨(∃ o,V.int o∈d5 8 (rules.getD l.toNat .none) "line"/\Hg rules u x yr y o)∨∃ o,V.int o∈d5 8 (rules.getD l.toNat .none) "earlier"/\PH rules u x yr y o:=by
 constructor
 ·intro h
  cases h with
  | hit _ _ h=>exact .inl ⟨rfl,h⟩
  | line _ _ h k=>exact .inr (.inl ⟨_,h,k⟩)
  | ear _ _ h k=>exact .inr (.inr ⟨_,h,_,rfl,k⟩)
 ·rintro(⟨rfl,h⟩ | ⟨o,h,k⟩ | ⟨o,h,z,rfl,k⟩)
  ·exact .hit h0 h1 h
  ·exact .line h0 h1 h k
  ·exact .ear h0 h1 h k
theorem aX0:∀ {l k:List (Int×Int)},(l.Pairwise λp q=>ky p<ky q)->(k.Pairwise λp q=>ky p<ky q)->(∀ x,x∈l↔x∈k)->l=k:=by
 intro l;induction l with
 | nil=>
  intro k _ _ h;cases k with
  | nil=>rfl
  | cons y k=>have:=(h y).mpr (.head _);cases this
 | cons x l ih=>
  intro k hl hk h;cases k with
  | nil=>have:=(h x).mp (.head _);cases this
  | cons y k=>
   refine c6 (cq.mp hl) λhl1 hl2=>?_
   refine c6 (cq.mp hk) λhk1 hk2=>?_
   have e:x=y:=by
    rcases au.mp ((h x).mp (.head _)) with e | e
    ·exact e
    ·rcases au.mp ((h y).mpr (.head _)) with e' | e'
     ·exact e'.symm
     ·exact absurd (Int.lt_trans (hl1 _ e') (hk1 _ e)) (cU _)
   subst e
   congr 1
   refine ih hl2 hk2 λz=>⟨λhz=>?_,λhz=>?_⟩
   ·rcases au.mp ((h z).mp (.tail _ hz)) with e | e
    ·subst e;exact absurd (hl1 _ hz) (cU _)
    ·exact e
   ·rcases au.mp ((h z).mpr (.tail _ hz)) with e | e
    ·subst e;exact absurd (hk1 _ hz) (cU _)
    ·exact e
theorem HgSet.eq{cnt:Nat}{R R':List (Int×Int)}(a:HgSet rules u x yr cnt R)(b:HgSet rules u x yr cnt R'):R=R':=aX0 a.srt b.srt λp=>(a.mem p).trans (b.mem p).symm
theorem HgSet.nil:HgSet rules u x yr 0 []:=⟨.nil,λp=>⟨λh=>(by cases h),λh=>by refine f9 h λz_ z_ h z_=>?_;exact absurd h (bS _)⟩⟩
theorem HgSet.snoc{cnt:Nat}{R:List (Int×Int)}{S:List Int}(hz:rules.length<=1000)(a:HgSet rules u x yr cnt R)(hs:S.Pairwise (· < ·))(hm:∀ l,l∈S↔Hg rules u x yr cnt l):HgSet rules u x yr (cnt+1) (R++S.map λl=>((cnt:Int),l)):=by
 refine⟨bb.mpr ⟨a.srt,cD.mpr (hs.imp λh=>Int.add_lt_add_left h _),λp hp q hq=>?_⟩,λp=>⟨λh=>?_,λh=>?_⟩⟩
 ·obtain⟨y,e,hy,h⟩:=(a.mem p).mp hp
  obtain⟨l,hl,rfl⟩:=ar.mp hq;have h1:=h.rng;have h2:=((hm l).mp hl).rng;unfold ky;rw[e];show _<(cnt:Int)*1000+l;lia
 ·rcases aq.mp h with q | q
  ·obtain⟨y,e,hy,h⟩:=(a.mem p).mp q
   exact⟨y,e,bE hy,h⟩
  ·obtain⟨l,hl,rfl⟩:=ar.mp q
   exact⟨cnt,rfl,bp _,(hm l).mp hl⟩
 ·obtain⟨y,e,hy,h⟩:=h
  rcases dG.mp hy with q | rfl
  ·exact aq.mpr (.inl ((a.mem p).mpr ⟨y,e,q,h⟩))
  ·exact aq.mpr (.inr (ar.mpr ⟨p.2,(hm _).mpr h,by rw[<- e]⟩))
theorem HgSet.of{cnt:Nat}{R F:List (Int×Int)}(hp:R.Perm F)(hs:R.Pairwise leP)(hn:F.Nodup)(hb:∀ p∈F,0<=p.2/\p.2<1000)(h1:∀ p∈F,∃ y:Nat,p.1=y/\y<cnt/\Hg rules u x yr y p.2)
  (h2:∀ (y:Nat) (l:Int),y<cnt->Hg rules u x yr y l->((y:Int),l)∈F):HgSet rules u x yr cnt R:=by
 refine⟨?_,λp=>⟨λh=>h1 p (hp.mem_iff.mp h),λh=>hp.mem_iff.mpr ?_⟩⟩
 ·refine List.Pairwise.imp_of_mem (fun{p q} hpm hqm hpq=>?_) (List.Pairwise.and hs (hp.nodup_iff.mpr hn))
  have b1:=hb p (hp.mem_iff.mp hpm);have b2:=hb q (hp.mem_iff.mp hqm);refine c6 hpq λh3 h4=>?_
  unfold leP at h3;unfold ky;refine gA.mpr ⟨h3,λe=>h4 (Prod.ext ?_ ?_)⟩
  ·lia
  ·lia
 ·refine f9 h λy e hy h=>?_
  have:=h2 y p.2 hy h;rw[<- e] at this;exact this
end
structure Agr(z:Lim)(y y':Yr)(f f':Int->Int)(n:Nat)(v:V):Prop where
 pap:∀ w,V.str w∈d5 n v "paper"->D9 y.P w=D9 y'.P w
 cho:∀ c,0<=c->V.int c∈d5 n v "choose"->y.T.getD c.toNat false=y'.T.getD c.toNat false
 lin:∀ j,V.int j∈d5 n v "line"->f j=f' j
 ear:∀ j,0<=j->j<z.L->V.int j∈d5 n v "earlier"->y.E.getD j.toNat 0=y'.E.getD j.toNat 0
theorem Agr.sub{z:Lim}{y y':Yr}{f f':Int->Int}{n:Nat}{w:Str}{args:List V}{r:V}(h:Agr z y y' f f' (n+1) (.tup (.str w::args)))(hr:r∈f4 w args):Agr z y y' f f' n r:=
 ⟨λw q=>h.pap w (v9 hr _ q),λw a q=>h.cho w a (v9 hr _ q),λw q=>h.lin w (v9 hr _ q),λw a b q=>h.ear w a b (v9 hr _ q)⟩
theorem W0{n:Nat}{w:Str}{a:V}{args:List V}:a∈d5 (n+1) (.tup (.str w::a::args)) w:=by
 rw[B6,if_pos (beq_iff_eq.mpr rfl)];exact aq.mpr (.inl (.head _))
theorem bs0{z:Lim}{y y':Yr}{f f':Int->Int}(ht:y.tabs=y'.tabs):∀ {n:Nat} {v:V},ok z n v=true->Agr z y y' f f' n v->wv y f n v=wv y' f' n v:=by
 intro n;induction n with
 | zero=>intro v h;exact ff h
 | succ n ih=>
  intro v hk h;cases J1 hk with
  | num i=>rw[P9,P9]
  | paper x=>rw[N8,N8];exact h.pap x W0
  | line i=>rw[R0,R0];exact h.lin i W0
  | earlier i h0 h1=>rw[R7,R7];exact h.ear i h0 h1 W0
  | part r i hr=>rw[Q6,Q6,ih hr (h.sub (by rw[G1];exact .head _))]
  | table i r _ _ hr=>rw[P3,P3,ih hr (h.sub (by rw[G3];exact .head _)),ht]
  | two w r t hw hr ht=>rw[Q1 hw,Q1 hw,ih hr (h.sub (by rw[hw.ins];exact .head _)),ih ht (h.sub (by rw[hw.ins];exact .tail _ (.head _)))]
  | wher r t u hr ht hu=>rw[O2,O2,ih hr (h.sub (by rw[v0];exact .head _)),ih ht (h.sub (by rw[v0];exact .tail _ (.head _))),ih hu (h.sub (by rw[v0];exact .tail _ (.tail _ (.head _))))]
  | choo i r t h0 _ hr ht=>rw[S5,S5,ih hr (h.sub (by rw[v7];exact .head _)),ih ht (h.sub (by rw[v7];exact .tail _ (.head _))),h.cho i h0 W0]
structure But(u:Str)(x:V)(P P':List (Str×Int))(T T':List Bool):Prop where
 pap:∀ w,(u = "paper"->x≠.str w)->D9 P w=D9 P' w
 cho:∀ c:Int,0<=c->(u = "choose"->x≠.int c)->T.getD c.toNat false=T'.getD c.toNat false
theorem But.refl{u:Str}{x:V}{P:List (Str×Int)}{T:List Bool}:But u x P P T T:=⟨λz_ z_=>rfl,λz_ z_ z_=>rfl⟩
section
variable{rules tabs:List V}{rk:Int->Nat}{Us Us':List (List (V×V))}{Ts Ts':List (List Bool)}{z:Lim}
theorem aC5{u:Str}{x:V}{yr k:Nat}{P P':List (Str×Int)}{E E':List Int}{T T':List Bool}(L:Lnk z rules rk)(hz:z.L=rules.length)(b:k≠yr->P=P'/\T=T')(b':But u x P P' T T')
  (he:∀ j,0<=j->j<(rules.length:Int)->¬PH rules u x yr k j->E.getD j.toNat 0=E'.getD j.toNat 0) :
  ∀ (n:Nat) (l:Int),rk l<n->0<=l->l<rules.length->¬Hg rules u x yr k l->sol rules ⟨P,E,T,tabs⟩ rk l=sol rules ⟨P',E',T',tabs⟩ rk l:=by
 intro n;induction n with
 | zero=>intro l h;exact absurd h (bS _)
 | succ n ih=>
  intro l hn h0 h1 hg;have hl:l.toNat<rules.length:=by lia
  have e:((l.toNat:Nat):Int)=l:=bD h0;have s1:=ag9 (y:=⟨P,E,T,tabs⟩) L hl;have s2:=ag9 (y:=⟨P',E',T',tabs⟩) L hl;rw[e] at s1 s2;rw[<- s1,<- s2];have hi:=λq=>hg ((Hg.iff h0 h1).mpr q)
  refine bs0 (z:=z) (y:=⟨P,E,T,tabs⟩) (y':=⟨P',E',T',tabs⟩) rfl (L.ok _ hl) ⟨λw hw=>?_,λc c0 hc=>?_,λj hj=>?_,λj j0 j1 hj=>?_⟩
  ·by_cases hk:k=yr
   ·refine b'.pap w λe q=>hi (.inl ⟨hk,?_⟩)
    rw[e,q];exact hw
   ·rw[(b hk).1]
  ·by_cases hk:k=yr
   ·refine b'.cho c c0 λe q=>hi (.inl ⟨hk,?_⟩)
    rw[e,q];exact hc
   ·rw[(b hk).2]
  ·obtain⟨⟨j0,j1⟩,j2⟩:=L.dn _ hl j hj
   rw[e] at j2;exact ih j (by lia) j0 j1 λq=>hi (.inr (.inl ⟨j,hj,q⟩))
  ·exact he j j0 (by rw[<- hz];exact j1) λq=>hi (.inr (.inr ⟨j,hj,q⟩))
theorem U2{y:Yr}{l:Int}(h0:0<=l)(h1:l<rules.length):(E8 rules y rk).getD l.toNat 0=sol rules y rk l:=by
 have hl:l.toNat<rules.length:=by lia
 unfold E8;rw[aF,aw,dq hl];show sol rules y rk ((l.toNat:Nat):Int)=_;rw[bD h0]
theorem ba0{u:Str}{x:V}{yr:Nat}(L:Lnk z rules rk)(hz:z.L=rules.length)(b:∀ (k:Nat) U U' T T',Us[k]?=some U->Us'[k]?=some U'->Ts[k]?=some T->Ts'[k]?=some T'->(k≠yr->U=U'/\T=T')/\But u x ((papF U []).getD []) ((papF U' []).getD []) T T')(l1:Us'.length=Us.length)(l2:Ts.length=Us.length)(l3:Ts'.length=Us.length) :
  ∀ (k:Nat),k<Us.length->∀ l,0<=l->l<(rules.length:Int)->¬Hg rules u x yr k l->(eY rules tabs rk Us Ts (k+1)).getD l.toNat 0=(eY rules tabs rk Us' Ts' (k+1)).getD l.toNat 0:=by
 intro k;induction k with
 | zero=>
  intro hk l h0 h1 hg;have g1:=aa hk;have g2:=aa (l1.symm▸hk);have g3:=aa (l2.symm▸hk);have g4:=aa (l3.symm▸hk);refine c6 (b 0 _ _ _ _ g1 g2 g3 g4) λb1 b2=>?_
  rw[N4 g1 g3,N4 g2 g4,U2 h0 h1,U2 h0 h1];exact aC5 L hz (λq=>⟨by rw[(b1 q).1],(b1 q).2⟩) b2 (λj z_ z_ z_=>rfl) _ l (bp _) h0 h1 hg
 | succ k ih=>
  intro hk l h0 h1 hg;have g1:=aa hk;have g2:=aa (l1.symm▸hk);have g3:=aa (l2.symm▸hk);have g4:=aa (l3.symm▸hk);refine c6 (b (k+1) _ _ _ _ g1 g2 g3 g4) λb1 b2=>?_
  rw[N4 g1 g3,N4 g2 g4,U2 h0 h1,U2 h0 h1];exact aC5 L hz (λq=>⟨by rw[(b1 q).1],(b1 q).2⟩) b2 (λj j0 j1 hj=>ih (bQ hk) j j0 j1 λq=>hj ⟨k,rfl,q⟩) _ l (bp _) h0 h1 hg
end
theorem aI6{l H:List Int}{K:Hp->Prop}{M:Hp}{turn:V->Hp->VP->(Hp->Prop)->Prop}{Q:VP}(hz:l.length<=10000)(hK:K M)(ht:∀ j (yes:VP) (no:Hp->Prop),yes (.bool (decide (j∈H))) M->turn (.int j) M yes no)
  (h:∀ a,M a=none->Q (.ref a) (upd M a (.lst ((l.map λj=>decide (j∈H)).map V.bool)))):CLoop (l.map .int) K M turn Q:=by
 refine CLoop.g (λrest acc M'=>M=M'/\∃ done todo:List Int,l=done++todo/\rest=todo.map .int/\acc=(done.map λj=>decide (j∈H)).map V.bool) (by rw[ac];exact hz) ⟨rfl,[],l,rfl,rfl,rfl⟩ (λJ hJ=>?_) ?_
 ·rintro v rest acc _ hh_;obtain⟨rfl,done,todo,e,hr,rfl⟩:=hh_
  refine⟨hK,?_⟩;cases todo with
  | nil=>cases hr
  | cons j todo=>
   refine c6 (List.cons.inj hr) λe1 q1_=>?_;subst q1_
   subst e1;exact ht j _ _ (hJ ⟨rfl,done++[j],todo,by rw[e,aH];rfl,rfl,by rw[av,av];rfl⟩)
 ·rintro acc _ hh_;obtain⟨rfl,done,todo,e,hr,rfl⟩:=hh_
  refine⟨hK,λa ha=>?_⟩
  obtain rfl:todo=[]:=by cases todo with | nil=>rfl | cons _ _=>cases hr
  rw[aS] at e;subst e;exact h a ha
theorem af5{l H:List Int}:(l.map λj=>decide (j∈H)).any id=true↔∃ j,j∈l/\j∈H:=by
 rw[eG,cH];exact⟨λh=>by refine a9 h λj h1 h2=>?_;exact⟨j,h1,of_decide_eq_true h2⟩,λh=>by refine a9 h λj h1 h2=>?_;exact⟨j,h1,decide_eq_true h2⟩⟩
section
variable{g:G}{d:Nat}{M:Hp}{Q:V->Hp->Prop}{X:Str->Hp->Prop}{rules tabs:List V}{C owed:Int}{rk:Int->Nat}
theorem ax0(N:Nm g){z:Lim}{u:Str}{v:V}(hv:RuleOK z v)(hu:u = "line"∨u = "earlier")(h:∀ b (l:List Int),M b=none->l.length<=63->(∀ j,j∈l↔V.int j∈d5 8 v u)->Q (.ref b) (upd M b (.lst (l.map .int)))):c7 g (d+11) true "named" [v,.str u] M Q X:=by
 have hi:=J0 (u:=u) (hu.imp id .inl) hv.ok;refine ad1 (d:=d) N hv.ok (hv.few u) (.of_ints hi) λb L hb hS hm=>?_
 obtain⟨l,rfl⟩:=W8 (L:=L) λy hy=>hi y ((hm y).mp hy)
 refine h b l hb ?_ λj=>?_
 ·have:=D0 hS.nodup λy hy=>(hm y).mp hy
  rw[ac] at this;exact aR (aM this (hv.few u))
 ·rw[<- hm,ar]
  exact⟨λq=>⟨j,q,rfl⟩,λq=>by refine a9 q λk h1 h2=>?_;rw[<- V.int.inj h2];exact h1⟩
theorem aB0(N:Nm g){fm cv yv wv tv fv:V}{oa ah he:Addr}{n l:Int}{r:V}{b:Bool}{A H:List Int}{QQ:d4}{XX:g7}{z:Lim}(hr:RuleOK z r)(hah:M ah=some (.lst (A.map .int)))(hhe:M he=some (.lst (H.map .int)))(hne:he≠ah)(hz:H.length<=1000)(hA:A.length<=1000)
  (h:∀ M' c,(c=true↔b=true∨∃ j,V.int j∈d5 8 r "earlier"/\j∈A)->d7 [he] M M'->M' he=some (.lst ((if c then H++[l] else H).map .int))->QQ .next [some fm,some cv,some yv,some wv,some tv,some (.ref oa),some fv,some (.ref ah),some (.int n),some (.ref he),some (.int l),some r,some (.bool b)] M') :
  wSs g (d+11) true ax1 [some fm,some cv,some yv,some wv,some tv,some (.ref oa),some fv,some (.ref ah),some (.int n),some (.ref he),some (.int l),some r,some (.bool b)] M QQ XX:=by
 have hHz:(H.map V.int).length<=10000:=by rw[ac];lia
 have yes:∀ M':Hp,(b=true∨∃ j,V.int j∈d5 8 r "earlier"/\j∈A)->Sub M M'->M' he=some (.lst (H.map .int))->QQ .next [some fm,some cv,some yv,some wv,some tv,some (.ref oa),some fv,some (.ref ah),some (.int n),some (.ref he),some (.int l),some r,some (.bool b)] (upd M' he (.lst (H.map .int++[.int l]))):=λM' q hs hh=>
  h _ true ⟨λz_=>q,λz_=>rfl⟩ (d7.trans (λc o z_ e=>hs c o e) (d7.upd (.head _))) (by rw[c9,if_pos rfl,av];rfl)
 cases b with
 | true=>
  k_extra "w";exact yes _ (.inl rfl) (Sub.refl _) hhe
 | false=>
  k_extra "w";refine ax0 (d:=d) N hr (.inr rfl) λb l' hb hl hm=>?_
  have hah':upd M b (.lst (l'.map .int)) ah=some (.lst (A.map .int)):=i9 hah hb;k_extra "w";refine aI6 (H:=A) (by lia) (c9 _ _ _) (λj y no hy=>?_) λa ha=>?_
  ·k_extra "w"
   refine W7 ?_;exact hy
  ·refine AnyB.mk _ (c9 _ _ _) ?_
   have hs:Sub M (upd (upd M b (.lst (l'.map .int))) a (.lst ((l'.map λj=>decide (j∈A)).map V.bool))):=(Sub.upd hb).trans (Sub.upd ha)
   have hhe':=hs _ _ hhe;cases hq:(l'.map λj=>decide (j∈A)).any id with
   | true=>
    have q:=af5.mp hq;k_extra "w";refine yes _ (.inr ?_) hs hhe';refine a9 q λj h1 h2=>?_
    exact⟨j,(hm j).mp h1,h2⟩
   | false=>
    k_extra "w";refine h _ false ⟨λq=>(by cases q),λq=>?_⟩ (λc o z_ e=>hs c o e) hhe'
    rcases q with q | ⟨j,h1,h2⟩
    ·cases q
    ·rw[af5.mpr ⟨j,(hm j).mpr h1,h2⟩] at hq;cases hq
theorem bX9(N:Nm g){fm cv yv wv tv fv:V}{oa ah he:Addr}{n l:Int}{r:V}{b:Bool}{A H:List Int}{QQ:d4}{XX:g7}{z:Lim}(hr:RuleOK z r)(hah:M ah=some (.lst (A.map .int)))(hhe:M he=some (.lst (H.map .int)))(hne:he≠ah)(hz:H.length<=1000)(hA:A.length<=1000)
  (h:∀ M' c o,(c=true↔b=true∨(∃ j,V.int j∈d5 8 r "line"/\j∈H)∨∃ j,V.int j∈d5 8 r "earlier"/\j∈A)->d7 [he] M M'->M' he=some (.lst ((if c then H++[l] else H).map .int))->QQ .next [some fm,some cv,some yv,some wv,some tv,some (.ref oa),some fv,some (.ref ah),some (.int n),some (.ref he),some (.int l),some r,o] M') :
  wSs g (d+11) true af8 [some fm,some cv,some yv,some wv,some tv,some (.ref oa),some fv,some (.ref ah),some (.int n),some (.ref he),some (.int l),some r,some (.bool b)] M QQ XX:=by
 cases b with
 | true=>
  k_extra "w";exact Stop.mk (aB0 N hr hah hhe hne hz hA λM' c hc=>h M' c _ ⟨λq=>.inl rfl,λz_=>hc.mpr (.inl rfl)⟩)
 | false=>
  k_extra "w";refine ax0 (d:=d) N hr (.inl rfl) λb l' hb hl hm=>?_
  have hhe':upd M b (.lst (l'.map .int)) he=some (.lst (H.map .int)):=i9 hhe hb;k_extra "w";refine aI6 (H:=H) (by lia) (c9 _ _ _) (λj y no hy=>?_) λa ha=>?_
  ·k_extra "w"
   refine W7 ?_;exact hy
  ·refine AnyB.mk _ (c9 _ _ _) ?_
   have hs:Sub M (upd (upd M b (.lst (l'.map .int))) a (.lst ((l'.map λj=>decide (j∈H)).map V.bool))):=(Sub.upd hb).trans (Sub.upd ha)
   refine Stop.mk (aB0 N hr (hs _ _ hah) (hs _ _ hhe) hne hz hA λM' c hc st=>h M' c _ ?_ (d7.trans (λc o z_ e=>hs c o e) st))
   rw[hc,af5];refine⟨λq=>?_,λq=>?_⟩
   ·rcases q with ⟨j,h1,h2⟩ | q
    ·exact .inr (.inl ⟨j,(hm j).mp h1,h2⟩)
    ·exact .inr (.inr q)
   ·rcases q with q | ⟨j,h1,h2⟩ | q
    ·cases q
    ·exact .inl ⟨j,(hm j).mpr h1,h2⟩
    ·exact .inr q
def HlJ(rules:List V)(u:Str)(x:V)(yr i:Nat)(O:List Int)(he:Addr)(τ:Hp)(pre:Lo)(rest:List V)(Z':Lo)(M':Hp):Prop:=
 ∀ P_:Prop,(∀ (done todo H:List Int) (o1 o2 o3:Option V) (e1:O=done++todo) (e2:rest=todo.map .int) (st:d7 [he] τ M') (eh:M' he=some (.lst (H.map .int))) (nd:H.Nodup) (hm:∀ l,l∈H↔l∈done/\Hg rules u x yr i l) (e3:Z'=pre++[some (.ref he),o1,o2,o3]),P_)->P_
def HyJ(rules:List V)(u:Str)(x:V)(yr:Nat)(τ:Hp)(pre:Lo)(i:Nat)(Z':Lo)(M':Hp):Prop:=
 ∀ P_:Prop,(∀ (fo ah:Addr) (R:List (Int×Int)) (A:List Int) (o8 o9 o10 o11 o12:Option V) (s:Sub τ M') (nf:τ fo=none) (hR:HgSet rules u x yr i R) (hA:∀ l,l∈A↔PH rules u x yr i l) (zA:A.length<=1000) (zR:R.length<=i*100) (e1:M' fo=some (.lst (R.map tp))) (e2:M' ah=some (.lst (A.map .int)))
  (e3:Z'=pre++[some (.ref fo),some (.ref ah),o8,o9,o10,o11,o12]),P_)->P_
theorem bX3{M M':Hp}{b:Addr}{o:AObj}(h:Sub M M')(e:M' b=some o):Sub (upd M b o) M':=λc p q=>by
 by_cases hc:c=b
 ·subst hc;rw[c9] at q;rw[<- Option.some.inj q];exact e
 ·rw[d6 _ _ hc] at q;exact h c p q
theorem aY8{H done:List Int}{l:Int}{P:Int->Prop}{c:Bool}(hm:∀ k,k∈H↔k∈done/\P k)(hc:c=true↔P l)(k:Int):k∈(if c then H++[l] else H)↔k∈done++[l]/\P k:=by
 rw[aq,aj];cases c with
 | true=>
  rw[if_pos rfl,aq,aj,hm];exact⟨λq=>q.elim (λq=>⟨.inl q.1,q.2⟩) λq=>⟨.inr q,q▸hc.mp rfl⟩,λq=>q.1.elim (λa=>.inl ⟨a,q.2⟩) λa=>.inr a⟩
 | false=>
  rw[if_neg (by decide),hm]
  exact⟨λq=>⟨.inl q.1,q.2⟩,λq=>q.1.elim (λa=>⟨a,q.2⟩) λa=>absurd (hc.mpr (a▸q.2)) (by decide)⟩
theorem cb6{u:Str}{x:V}{yr i:Nat}{H A done:List Int}{l:Int}{b c:Bool}(h0:0<=l)(h1:l<rules.length)(hb:b=true↔i=yr/\x∈d5 8 (rules.getD l.toNat .none) u)(hm:∀ k,k∈H↔k∈done/\Hg rules u x yr i k)(hn:Nms (·∈done) 8 (rules.getD l.toNat .none))(hA:∀ k,k∈A↔PH rules u x yr i k)
  (hc:c=true↔b=true∨(∃ j,V.int j∈d5 8 (rules.getD l.toNat .none) "line"/\j∈H)∨∃ j,V.int j∈d5 8 (rules.getD l.toNat .none) "earlier"/\j∈A):c=true↔Hg rules u x yr i l:=by
 rw[hc,Hg.iff h0 h1,hb];refine or_congr Iff.rfl (or_congr ⟨λq=>?_,λq=>?_⟩ ⟨λq=>?_,λq=>?_⟩)
 ·refine a9 q λj a b=>?_;exact⟨j,a,((hm j).mp b).2⟩
 ·refine a9 q λj a b=>?_;exact⟨j,a,(hm j).mpr ⟨hn j a,b⟩⟩
 ·refine a9 q λj a b=>?_;exact⟨j,a,(hA j).mp b⟩
 ·refine a9 q λj a b=>?_;exact⟨j,a,(hA j).mpr b⟩
theorem bW3{s:List Int}{i:Int}{K:Hp->Prop}{τ:Hp}{turn:V->Hp->VP->(Hp->Prop)->Prop}{Q:VP}(hz:s.length<=10000)(hK:K τ)(ht:∀ j (yes:VP) (no:Hp->Prop),yes (tp (i,j)) τ->turn (.int j) τ yes no)
  (h:∀ a,τ a=none->Q (.ref a) (upd τ a (.lst ((s.map λj=>(i,j)).map tp)))):CLoop (s.map .int) K τ turn Q:=by
 refine CLoop.g (λrest acc M'=>τ=M'/\∃ done todo:List Int,s=done++todo/\rest=todo.map .int/\acc=(done.map λj=>(i,j)).map tp) (by rw[ac];exact hz) ⟨rfl,[],s,rfl,rfl,rfl⟩ (λJ hJ=>?_) ?_
 ·rintro v rest acc _ hh_;obtain⟨rfl,done,todo,e,hr,rfl⟩:=hh_
  refine⟨hK,?_⟩;cases todo with
  | nil=>cases hr
  | cons j todo=>
   refine c6 (List.cons.inj hr) λe1 q1_=>?_;subst q1_
   subst e1;exact ht j _ _ (hJ ⟨rfl,done++[j],todo,by rw[e,aH];rfl,rfl,by rw[av,av];rfl⟩)
 ·rintro acc _ hh_;obtain⟨rfl,done,todo,e,hr,rfl⟩:=hh_
  refine⟨hK,λa ha=>?_⟩
  obtain rfl:todo=[]:=by cases todo with | nil=>rfl | cons _ _=>cases hr
  rw[aS] at e;subst e;exact h a ha
set_option tactic.hygienic true in
theorem bn6(N:Nm g){fm cv yv wv tv:V}{oa fo ah he:Addr}{n:Int}{o1 o2 o3:Option V}{R:List (Int×Int)}{H:List Int}{QQ:d4}{XX:g7}(hfo:M fo=some (.lst (R.map tp)))(hhe:M he=some (.lst (H.map .int)))(nd:H.Nodup)(hz:H.length<=40)(hR:R.length<=1000)
  (h:∀ M' c (s:List Int),Sub M M'->M c=none->s.Pairwise (· < ·)->(∀ l,l∈s↔l∈H)->s.length<=40->M' c=some (.lst ((R++s.map λl=>(n,l)).map tp))->QQ .next [some fm,some cv,some yv,some wv,some tv,some (.ref oa),some (.ref c),some (.ref he),some (.int n),some (.ref he),o1,o2,o3] M') :
  wSs g (d+11) true ao0 [some fm,some cv,some yv,some wv,some tv,some (.ref oa),some (.ref fo),some (.ref ah),some (.int n),some (.ref he),o1,o2,o3] M QQ XX:=by
 have zR:(R.map tp).length<=10000:=by rw[ac];lia
 k_extra "w";refine Srted.mk (H.map .int) hhe (.inl ⟨H,rfl⟩) (by rw[ac];lia) λb L hb hp hw=>?_
 obtain⟨s,rfl⟩:=W8 (L:=L) λy hy=>by refine a9 (ar.mp (hp.mem_iff.mp hy)) λk _ e=>?_;exact⟨k,e.symm⟩
 have hmem:∀ l,l∈s↔l∈H:=λl=>by
  have:=hp.mem_iff (a:=V.int l);rw[ar,ar] at this;refine⟨λq=>?_,λq=>?_⟩
  ·refine a9 (this.mp ⟨l,q,rfl⟩) λk h1 h2=>?_;rw[<- V.int.inj h2];exact h1
  ·refine a9 (this.mpr ⟨l,q,rfl⟩) λk h1 h2=>?_;rw[<- V.int.inj h2];exact h1
 have hsl:s.length<=40:=by have:=hp.length_eq;rw[ac,ac] at this;lia
 have hnd:(s.map V.int).Nodup:=hp.nodup_iff.mpr (cD.mpr (nd.imp λh e=>h (V.int.inj e)))
 have hsp:s.Pairwise (· < ·):=List.Pairwise.of_map V.int (λa b h=>h) (show(s.map V.int).Pairwise ltV from ag7 hw hnd)
 k_extra "w";refine bW3 (i:=n) (by lia) (c9 _ _ _) (λj y no hy=>?_) λa ha=>?_
 ·k_extra "w"
  exact hy
 have hs:Sub M (upd (upd M b (.lst (s.map .int))) a (.lst ((s.map λj=>(n,j)).map tp))):=(Sub.upd hb).trans (Sub.upd ha)
 have hfo':=hs _ _ hfo;have za:((s.map λj=>(n,j)).map tp).length<=100:=by rw[ac,ac];lia
 k_extra "w";rename_i c hc;exact h _ c s (hs.trans (Sub.upd hc)) (F1 hs hc) hsp hmem hsl (by rw[c9,av])
set_option tactic.hygienic true in
theorem aF5(N:Nm g)(F:FG rules tabs C owed rk){u:Str}{x:V}{cnt yr:Nat}(hu:NW u)(hx:j9 x)(hc:cnt<=8)(hcx:Cld M x)(h:∀ b R,M b=none->HgSet rules u x yr cnt R->Q (.ref b) (upd M b (.lst (R.map tp)))) :
  c7 g (d+14) true "hanging_on" [fmV rules tabs C owed,.int cnt,.int yr,.str u,x] M Q X:=by
 have FF:=F.form;have l40:=F.l40;refine bm1 N ?_;k_extra "w";refine aI2 (d:=d+1) N FF.rule (by lia) FF.acy λfa O hf hO hOl=>?_
 refine c6 hO.ok λOn Or=>?_
 have hOz:(O.map V.int).length<=10000:=by rw[ac];lia
 k_extra "w";rename_i fo hfo ah hah;generalize hτ:upd M fa (.lst (O.map .int))=τ at hfo hah ⊢;have hτs:Sub M τ:=hτ▸Sub.upd hf;have hτf:τ fa=some (.lst (O.map .int)):=hτ▸c9 _ _ _;have hcc:((cnt:Int)-0).toNat=cnt:=by rw[gS];rfl
 refine A6 (HyJ rules u x yr τ [some (fmV rules tabs C owed),some (.int cnt),some (.int yr),some (.str u),some x,some (.ref fa)]) (λ_ k_=>k_ fo ah [] [] none none none none none ((Sub.upd hfo).trans (Sub.upd hah)) hfo .nil (λl=>⟨λq=>(by cases q),λq=>(by refine a9 q λz e _=>?_;cases e)⟩) (aE _) (aE _) (i9 (c9 _ _ _) hah) (c9 _ _ _) rfl) (λRQ J hRQ hJ=>?_) ?_
 ·rintro i _ M' hi hh_;refine hh_ _ ?_;clear hh_;rintro fo ah R A o8 o9 o10 o11 o12 hs nf hR hA zA zR e1 e2 rfl
  rw[cK];have hi':i<cnt:=by lia
  have hfa:=hs _ _ hτf;k_extra "w";rename_i he hhe;have hheah:he≠ah:=λq=>by rw[q,e2] at hhe;cases hhe
  have heA:fa∉[he]:=λq=>by rw[aj.mp q,hhe] at hfa;cases hfa
  refine LoopR.held _ (i9 hfa hhe) (Loop.g (HlJ rules u x yr i O he (upd M' he (.lst [])) [some (fmV rules tabs C owed),some (.int cnt),some (.int yr),some (.str u),some x,some (.ref fa),some (.ref fo),some (.ref ah),some (.int i)]) (λ_ k_=>k_ [] O [] o10 o11 o12 rfl rfl d7.refl (c9 _ _ _) .nil (λl=>⟨λq=>(by cases q),λq=>(by cases q.1)⟩) rfl) (λR2 J2 hR2 hJ2=>?_) ?_)
  ·rintro v rest _ M2 hh_;refine hh_ _ ?_;clear hh_;rintro done todo H p1 p2 p3 e3 e4 st eh nd hm rfl
   refine⟨st fa _ heA (i9 hfa hhe),?_⟩;cases todo with
   | nil=>cases e4
   | cons l todo=>
    refine c6 (List.cons.inj e4) λe5 q1_=>?_;subst q1_
    subst e5;obtain⟨l0,l1⟩:=Or l (by rw[e3];exact aq.mpr (.inr (.head _)))
    have hln:l.toNat<rules.length:=(eD l0).mpr l1;have hnd:l∉done:=λq=>(bk.mp (e3▸On)).2.2 _ q _ (.head _) rfl
    have hnm:Nms (·∈done) 8 (rules.getD l.toNat .none):=hO.names (by rw[e3,bD l0])
    have ah2:=st ah _ (λq=>hheah (aj.mp q).symm) (i9 e2 hhe)
    have zH:H.length<=1000:=by
     have:=H3 nd λk hk=>Or k (by rw[e3];exact aq.mpr (.inl ((hm k).mp hk).1))
     lia
    k_extra "w";refine Idx.mk l0 l1 (by lia) λr hr=>?_
    obtain rfl:r=rules.getD l.toNat .none:=Option.some.inj (hr.symm.trans (A0 hln));have hrk:=FF.rule _ (aI hr);have fin:∀ (b:Bool) (τ2:Hp),(b=true↔i=yr/\x∈d5 8 (rules.getD l.toNat .none) u)->Sub M2 τ2->wSs g (d+13) true af8 [some (fmV rules tabs C owed),some (.int cnt),some (.int yr),some (.str u),some x,some (.ref fa),some (.ref fo),some (.ref ah),some (.int i),some (.ref he),some (.int l),some (rules.getD l.toNat .none),some (.bool b)] τ2 (C2 R2 J2 (todo.map .int)) (xK X):=λb τ2 hb hs2=>by
     refine bX9 (d:=d+2) N hrk (hs2 _ _ ah2) (hs2 _ _ eh) hheah zH zA λM3 c o hc st3 eh3=>hJ2 (λ_ k_=>k_ (done++[l]) todo _ _ _ o (by rw[e3,aH];rfl) rfl ((st.trans λc o _ e=>hs2 c o e).trans st3) eh3 ?_ (aY8 hm (cb6 l0 l1 hb hm hnm hA hc)) rfl)
     cases c with
     | true=>rw[if_pos rfl];exact bk.mpr ⟨nd,.cons (λ_ h=>by cases h) .nil,λa ha b hb e=>hnd (by rw[<- aj.mp hb,<- e];exact((hm a).mp ha).1)⟩
     | false=>rw[if_neg (by decide)];exact nd
    k_extra "w"
    ·rename_i hq
     have hq:i=yr:=by lia
     refine ad1 (d:=d+2) N hrk.ok (hrk.few u) (O4 hu hrk.ok).2 λb L hb hS hm2=>?_
     have hL:∀ y∈L,j9 y:=λy hy=>(O4 hu hrk.ok).1 y ((hm2 y).mp hy)
     k_extra "w";refine aj6 ?_;refine InL.mk (j9.flatL hL) hx.flat (by rw[j9.depL hL,hx.dep];lia) ?_
     exact Stop.mk (fin (false ^^ B3 L x) _ (by rw[ct,Q2 hL hx,hm2];exact⟨λq=>⟨hq,q⟩,λq=>q.2⟩) (Sub.upd hb))
    ·rename_i hq
     exact Stop.mk (fin ((i:Int)==(yr:Int)) _ ⟨λq=>absurd (beq_iff_eq.mp q) hq,λq=>absurd (congrArg Int.ofNat q.1) hq⟩ (Sub.refl _))
  ·rintro _ M2 hh_;refine hh_ _ ?_;clear hh_;rintro done todo H p1 p2 p3 e3 e4 st eh nd hm rfl
   refine⟨st fa _ heA (i9 hfa hhe),?_⟩;obtain rfl:todo=[]:=by cases todo with | nil=>rfl | cons _ _=>cases e4
   rw[aS] at e3;subst e3;have hm':∀ l,l∈H↔Hg rules u x yr i l:=λl=>(hm l).trans ⟨λq=>q.2,λq=>⟨by
    refine k8 q.rng λ_ q0 q1=>?_
    have:=aL8 hOl On Or (i:=l.toNat) ((eD q0).mpr q1);rwa[bD q0] at this,q⟩⟩
   have zH:H.length<=40:=ae (H3 nd λk hk=>((hm' k).mp hk).rng.2) l40
   have hfoe:fo∉[he]:=λq=>by rw[aj.mp q,hhe] at e1;cases e1
   have hs2:Sub M' M2:=λc o e=>st c o (λq=>by rw[aj.mp q,hhe] at e;cases e) (i9 e hhe)
   refine Stop.mk (bn6 (d:=d+2) N (hs2 _ _ e1) eh nd zH (by lia) λM3 c s hs3 hc hsp hsm hsl ec=>?_)
   refine RJ.next hi (hJ (λ_ k_=>k_ c he _ H _ _ p1 p2 p3 ((hs.trans hs2).trans hs3) (F1 (hs.trans hs2) hc) (hR.snoc (by lia) hsp λl=>(hsm l).trans (hm' l)) (λl=>(hm' l).trans ⟨λq=>⟨i,rfl,q⟩,λq=>by refine a9 q λz e q=>?_;rw[Nat.succ.inj e];exact q⟩) (by lia) ?_ ec (hs3 _ _ eh) rfl))
   rw[az,ac];lia
 ·rintro _ M' hh_;refine hh_ _ ?_;clear hh_;rintro fo ah R A o8 o9 o10 o11 o12 hs nf hR hA zA zR e1 e2 rfl
  rw[hcc] at hR;exact t9 (bX3 (hτs.trans hs) e1) (h fo R (F1 hτs nf) hR)
end
theorem bl2{p q:Int×Int}(h:tp p=tp q):p=q:=by
 have h:=V.tup.inj h;refine c6 (List.cons.inj h) λh1 h2=>?_
 exact Prod.ext (V.int.inj h1) (V.int.inj (List.cons.inj h2).1)
theorem ay9{F:List (Int×Int)}{p:Int×Int}:((i4 (F.map tp)).any λy=>PyData.eqv y (dat (tp p)))=decide (p∈F):=by
 rw[dw,decide_eq_true_iff,aN6,eG,eG,cH];exact⟨λh=>by refine a9 h λq hq e=>?_;rw[<- bl2 ((L8 (a:=tp q) (b:=tp p) rfl rfl).mp e)];exact hq,λh=>⟨p,h,(L8 (a:=tp p) (b:=tp p) rfl rfl).mpr rfl⟩⟩
theorem T6{F:List (Int×Int)}:flatL (F.map tp)=true:=by
 induction F with
 | nil=>rfl
 | cons p F ih=>show(flat (tp p)&&flatL (F.map tp))=true;rw[ih];rfl
theorem ap1{d:Nat}{F:List (Int×Int)}{p:Int×Int}:min (depL (F.map tp)) (dep (tp p))+1<=8*(d+1):=
 ae (bc (cm _ _)) (ae (show dep (tp p)+1<=8 from gw rfl) (Nat.le_mul_of_pos_right 8 (gQ d)))
theorem aN7{d:Nat}{F:List (Int×Int)}{p:Int×Int}{M:Hp}{Q:VP}(h:Q (.bool (decide (p∈F))) M):InL false (d+1) (F.map tp) (tp p) M Q:=
 InL.mk T6 rfl ap1 (by rw[ay9,ct];exact h)
theorem aD2{d:Nat}{F:List (Int×Int)}{p:Int×Int}{M:Hp}{Q:VP}(h:Q (.bool (!decide (p∈F))) M):InL true (d+1) (F.map tp) (tp p) M Q:=
 InL.mk T6 rfl ap1 (by rw[ay9,cM];exact h)
theorem ap9{l:List Int}{F:List (Int×Int)}{y:Int}{b:Bool}{pre:Lo}{o:Option V}{M:Hp}{turn:V->Lo->Hp->d4->Prop}{Q:d4}
  (ht:∀ j b o (QQ:d4),QQ .next (pre++[some (.bool (b||decide ((y,j)∈F))),some (.int j)]) M->turn (.int j) (pre++[some (.bool b),o]) M QQ)
  (h:∀ b' o,(b'=true↔b=true∨∃ j,j∈l/\(y,j)∈F)->Q .next (pre++[some (.bool b'),o]) M):Loop (l.map .int) (λz_=>True) (pre++[some (.bool b),o]) M turn Q:=by
 refine Loop.g (λrest Z' M'=>∃ (done todo:List Int) (b':Bool) (o':Option V),l=done++todo/\rest=todo.map .int/\M'=M/\(b'=true↔b=true∨∃ j,j∈done/\(y,j)∈F)/\Z'=pre++[some (.bool b'),o']) ⟨[],l,b,o,rfl,rfl,rfl,⟨λq=>.inl q,λq=>q.elim id λq=>by refine a9 q λj q z_=>?_;cases q⟩,rfl⟩ (λR J hR hJ=>?_) ?_
 ·rintro v rest _ _ hh_;refine an0 hh_ λdone todo b' o' e hr q1_ hb q2_=>?_;clear hh_;subst q1_;subst q2_
  refine⟨trivial,?_⟩;cases todo with
  | nil=>cases hr
  | cons j todo=>
   refine c6 (List.cons.inj hr) λe1 q1_=>?_;subst q1_
   subst e1;refine ht j b' o' _ (hJ ⟨done++[j],todo,_,_,by rw[e,aH];rfl,rfl,rfl,?_,rfl⟩)
   rw[dv,hb,decide_eq_true_iff,or_assoc];refine or_congr Iff.rfl ⟨λq=>?_,λq=>?_⟩
   ·rcases q with ⟨k,h1,h2⟩ | q
    ·exact⟨k,aq.mpr (.inl h1),h2⟩
    ·exact⟨j,aq.mpr (.inr (.head _)),q⟩
   ·refine a9 q λk h1 h2=>?_
    rcases aq.mp h1 with h1 | h1
    ·exact .inl ⟨k,h1,h2⟩
    ·rw[aj.mp h1] at h2;exact .inr h2
 ·rintro _ _ hh_;refine an0 hh_ λdone todo b' o' e hr q1_ hb q2_=>?_;clear hh_;subst q1_;subst q2_
  refine⟨trivial,?_⟩;obtain rfl:todo=[]:=by cases todo with | nil=>rfl | cons _ _=>cases hr
  rw[aS] at e;subst e;exact h b' o' hb
def One(rules:List V)(u:Str)(x:V)(yr:Nat)(F:List (Int×Int))(y l:Int):Prop:=
 (y=yr/\x∈d5 8 (rules.getD l.toNat .none) u)∨(∃ j,V.int j∈d5 8 (rules.getD l.toNat .none) "line"/\(y,j)∈F)∨∃ j,V.int j∈d5 8 (rules.getD l.toNat .none) "earlier"/\(y-1,j)∈F
structure Snd(rules:List V)(u:Str)(x:V)(yr cnt:Nat)(F:List (Int×Int)):Prop where
 nd:F.Nodup
 hg:∀ p∈F,∃ y:Nat,p.1=y/\y<cnt/\Hg rules u x yr y p.2
structure Rnd(rules:List V)(u:Str)(x:V)(yr cnt:Nat)(F0 F:List (Int×Int))(m:Bool)(D:Int->Int->Prop):Prop where
 sn:Snd rules u x yr cnt F
 yes:m=true->F0.length<F.length
 no:m=false->F=F0/\∀ y l,D y l->One rules u x yr F0 y l->(y,l)∈F0
section
variable{rules:List V}{u:Str}{x:V}{yr cnt:Nat}{F0 F:List (Int×Int)}{m:Bool}{D:Int->Int->Prop}
theorem Snd.one(s:Snd rules u x yr cnt F){y:Nat}{l:Int}(h0:0<=l)(h1:l<rules.length)(h:One rules u x yr F y l):Hg rules u x yr y l:=by
 refine(Hg.iff h0 h1).mpr ?_;rcases h with ⟨e,q⟩ | ⟨j,hj,q⟩ | ⟨j,hj,q⟩
 ·exact .inl ⟨Int.ofNat.inj e,q⟩
 ·refine f9 (s.hg _ q) λz e z_ hg=>?_
  exact .inr (.inl ⟨j,hj,by rw[show y=z from Int.ofNat.inj e];exact hg⟩)
 ·refine f9 (s.hg _ q) λz e z_ hg=>?_
  exact .inr (.inr ⟨j,hj,z,by have e:(y:Int)-1=z:=e;lia,hg⟩)
theorem Rnd.mono{D':Int->Int->Prop}(r:Rnd rules u x yr cnt F0 F m D)(h:∀ y l,D' y l->D y l):Rnd rules u x yr cnt F0 F m D':=⟨r.sn,r.yes,λe=>⟨(r.no e).1,λy l q=>(r.no e).2 y l (h y l q)⟩⟩
theorem Rnd.skip{y l:Int}{D':Int->Int->Prop}(r:Rnd rules u x yr cnt F0 F m D)(hD:∀ a b,D' a b->D a b∨(a=y/\b=l))(h:One rules u x yr F y l->(y,l)∈F):Rnd rules u x yr cnt F0 F m D':=
 ⟨r.sn,r.yes,λe=>⟨(r.no e).1,λa b q o=>by
  rcases hD a b q with q | ⟨rfl,rfl⟩
  ·exact(r.no e).2 a b q o
  ·have:=(r.no e).1;subst this;exact h o⟩⟩
theorem Rnd.add{y:Nat}{l:Int}{D':Int->Int->Prop}(r:Rnd rules u x yr cnt F0 F m D)(hy:y<cnt)(h0:0<=l)(h1:l<rules.length)(o:One rules u x yr F y l)(hn:((y:Int),l)∉F):Rnd rules u x yr cnt F0 (F++[((y:Int),l)]) true D':=
 ⟨⟨bk.mpr ⟨r.sn.nd,.cons (λz_ h=>by cases h) .nil,λa ha b hb e=>hn (by rw[<- aj.mp hb,<- e];exact ha)⟩,λp hp=>by
  rcases aq.mp hp with q | q
  ·exact r.sn.hg p q
  ·rw[aj.mp q];exact⟨y,rfl,hy,r.sn.one h0 h1 o⟩⟩,λz_=>by
  rw[az];cases m with
  | true=>exact bE (r.yes rfl)
  | false=>rw[(r.no rfl).1];exact bp _,λe=>by cases e⟩
theorem Snd.len(s:Snd rules u x yr cnt F)(hc:cnt<=4)(hz:rules.length<=16):F.length<=64:=by
 have hi:∀ p∈F,∃ y:Nat,p.1=y/\y<cnt/\0<=p.2/\p.2<rules.length:=λp hp=>by
  refine f9 (s.hg p hp) λy e hy h=>?_;exact⟨y,e,hy,h.rng.2⟩
 have key:=H3 (S:=F.map λp=>p.1*16+p.2) (n:=64) (cD.mpr (List.Pairwise.imp_of_mem (fun{p q} hp hq hne e=>hne (by
  refine z8 (hi p hp) λy e1 h1 h2 h3=>?_
  refine z8 (hi q hq) λz e2 h4 h5 h6=>?_
  rw[e1,e2] at e;exact Prod.ext (by rw[e1,e2];lia) (by lia))) s.nd)) λa ha=>by
  refine a9 (ar.mp ha) λp hp q1_=>?_;subst q1_
  refine z8 (hi p hp) λy e1 h1 h2 h3=>?_
  rw[e1];constructor<;>lia
 rw[ac] at key;exact key
theorem Rnd.full(r:Rnd rules u x yr cnt F0 F false λy l=>(yr:Int)<=y/\y<cnt/\0<=l/\l<rules.length){y:Nat}{l:Int}(h:Hg rules u x yr y l):y<cnt->((y:Int),l)∈F:=by
 refine c6 (r.no rfl) λe cl=>?_
 rw[e];induction h with
 | hit h0 h1 h=>exact λhy=>cl _ _ ⟨bK _,by lia,h0,h1⟩ (.inl ⟨rfl,h⟩)
 | line h0 h1 h k ih=>exact λhy=>cl _ _ ⟨by have:=k.rng.1;lia,by lia,h0,h1⟩ (.inr (.inl ⟨_,h,ih hy⟩))
 | @ear y l o h0 h1 h k ih=>exact λhy=>cl _ _ ⟨by have:=k.rng.1;lia,by lia,h0,h1⟩ (.inr (.inr ⟨_,h,by rw[show((y+1:Nat):Int)-1=y by lia];exact ih (by lia)⟩))
end
section
variable{g:G}{d:Nat}{M:Hp}{Q:V->Hp->Prop}{X:Str->Hp->Prop}{rules tabs:List V}{C owed:Int}{rk:Int->Nat}
theorem ba9{fm cv yv wv tv r:V}{fo:Addr}{y l:Int}{b m:Bool}{o:Option V}{F:List (Int×Int)}{QQ:d4}{XX:g7}(hfo:M fo=some (.lst (F.map tp)))(zF:F.length<=1000)
  (h1:b=true->(y,l)∉F->QQ .next [some fm,some cv,some yv,some wv,some tv,some (.ref fo),some (.bool true),some (.int y),some (.int l),some r,some (.bool b),o] (upd M fo (.lst ((F++[(y,l)]).map tp))))
  (h2:(b=true->(y,l)∈F)->QQ .next [some fm,some cv,some yv,some wv,some tv,some (.ref fo),some (.bool m),some (.int y),some (.int l),some r,some (.bool b),o] M) :
  wSs g (d+10) true X2 [some fm,some cv,some yv,some wv,some tv,some (.ref fo),some (.bool m),some (.int y),some (.int l),some r,some (.bool b),o] M QQ XX:=by
 have zF':(F.map tp).length<=10000:=by rw[ac];lia
 cases b with
 | false=>
  k_extra "w";exact h2 λq=>(by cases q)
 | true=>
  k_extra "w";refine aD2 (p:=(y,l)) ?_;cases hq:decide ((y,l)∈F) with
  | true=>
   k_extra "w";exact h2 λz_=>of_decide_eq_true hq
  | false=>
   have hn:=of_decide_eq_false hq;rw[av] at h1;k_extra "w";exact h1 rfl hn
theorem aq5(N:Nm g){z:Lim}{u:Str}{v:V}(hv:RuleOK z v)(hu:u = "line"∨u = "earlier")(h:∀ b (l:List Int),M b=none->l.length<=63->(∀ j,j∈l↔V.int j∈d5 8 v u)->Q (.ref b) (upd M b (.lst (l.map .int)))):c7 g (d+10) true "_law_named" [v,.str u] M Q X:=by
 have hi:=J0 (u:=u) (hu.imp id .inl) hv.ok;have hw:NW u:=by rcases hu with q | q;exact .inl q;exact .inr (.inl q)
 refine at0 (d:=d) N hw 8 hv.ok (hv.few u) λb L hb hS hm=>?_
 obtain⟨l,rfl⟩:=W8 (L:=L) λy hy=>hi y ((hm y).mp hy)
 refine h b l hb ?_ λj=>?_
 ·have:=D0 hS.nodup λy hy=>(hm y).mp hy
  rw[ac] at this;exact aR (aM this (hv.few u))
 ·rw[<- hm,ar]
  exact⟨λq=>⟨j,q,rfl⟩,λq=>by refine a9 q λk h1 h2=>?_;rw[<- V.int.inj h2];exact h1⟩
theorem bh1(N:Nm g){fm cv yv wv tv r:V}{fo:Addr}{y l:Int}{b m:Bool}{o:Option V}{F:List (Int×Int)}{QQ:d4}{XX:g7}{z:Lim}(hr:RuleOK z r)(hfo:M fo=some (.lst (F.map tp)))
  (h:∀ b' o',(b'=true↔b=true∨∃ j,V.int j∈d5 8 r "earlier"/\(y-1,j)∈F)->wSs g (d+10) true X2 [some fm,some cv,some yv,some wv,some tv,some (.ref fo),some (.bool m),some (.int y),some (.int l),some r,some (.bool b'),o'] M QQ XX) :
  wSs g (d+10) true aE8 [some fm,some cv,some yv,some wv,some tv,some (.ref fo),some (.bool m),some (.int y),some (.int l),some r,some (.bool b),o] M QQ XX:=by
 k_extra "w";refine aq5 (d:=d) N hr (.inr rfl) λa L ha hl hm=>?_
 refine LoopR.tmp ha (ap9 (pre:=[some fm,some cv,some yv,some wv,some tv,some (.ref fo),some (.bool m),some (.int y),some (.int l),some r]) (F:=F) (y:=y-1) (λj b o QQ hq=>?_) λb' o' hb=>?_)
 ·cases b with
  | true=>
   k_extra "w";exact hq
  | false=>
   k_extra "w";refine aN7 (p:=(y-1,j)) ?_;exact hq
 ·exact Stop.mk (h b' o' (by rw[hb];exact or_congr Iff.rfl ⟨λq=>by refine a9 q λj h1 h2=>?_;exact⟨j,(hm j).mp h1,h2⟩,λq=>by refine a9 q λj h1 h2=>?_;exact⟨j,(hm j).mpr h1,h2⟩⟩))
theorem cg4(N:Nm g){fm cv yv wv tv r:V}{fo:Addr}{y l:Int}{b m:Bool}{o:Option V}{F:List (Int×Int)}{QQ:d4}{XX:g7}{z:Lim}(hr:RuleOK z r)(hfo:M fo=some (.lst (F.map tp)))
  (h:∀ b' o',(b'=true↔b=true∨(∃ j,V.int j∈d5 8 r "line"/\(y,j)∈F)∨∃ j,V.int j∈d5 8 r "earlier"/\(y-1,j)∈F)->wSs g (d+10) true X2 [some fm,some cv,some yv,some wv,some tv,some (.ref fo),some (.bool m),some (.int y),some (.int l),some r,some (.bool b'),o'] M QQ XX) :
  wSs g (d+10) true af4 [some fm,some cv,some yv,some wv,some tv,some (.ref fo),some (.bool m),some (.int y),some (.int l),some r,some (.bool b),o] M QQ XX:=by
 k_extra "w";refine aq5 (d:=d) N hr (.inl rfl) λa L ha hl hm=>?_
 refine LoopR.tmp ha (ap9 (pre:=[some fm,some cv,some yv,some wv,some tv,some (.ref fo),some (.bool m),some (.int y),some (.int l),some r]) (F:=F) (y:=y) (λj b o QQ hq=>?_) λb' o' hb=>?_)
 ·cases b with
  | true=>
   k_extra "w";exact hq
  | false=>
   k_extra "w";refine aN7 (p:=(y,j)) ?_;exact hq
 ·refine Stop.mk (bh1 N hr hfo λb'' o'' hb'=>h b'' o'' ?_)
  rw[hb',hb,or_assoc];exact or_congr Iff.rfl (or_congr ⟨λq=>by refine a9 q λj h1 h2=>?_;exact⟨j,(hm j).mp h1,h2⟩,λq=>by refine a9 q λj h1 h2=>?_;exact⟨j,(hm j).mpr h1,h2⟩⟩ Iff.rfl)
def RwJ(rules:List V)(u:Str)(x:V)(yr cnt:Nat)(fo:Addr)(τ:Hp)(pre:Lo)(n:Nat)(Z':Lo)(M':Hp):Prop:=
 ∀ P_:Prop,(∀ (F:List (Int×Int)) (m:Bool) (o7 o8 o9 o10 o11:Option V) (sn:Snd rules u x yr cnt F) (cl:m=false->∀ (y:Nat) (l:Int),y<cnt->Hg rules u x yr y l->((y:Int),l)∈F) (en:n=64-F.length+(if m then 1 else 0)) (st:d7 [fo] τ M') (ef:M' fo=some (.lst (F.map tp))) (e:Z'=pre++[some (.ref fo),some (.bool m),o7,o8,o9,o10,o11]),P_)->P_
def RyJ(rules:List V)(u:Str)(x:V)(yr cnt:Nat)(fo:Addr)(F0:List (Int×Int))(D:Int->Int->Prop)(τ:Hp)(pre:Lo)(post:Lo->Prop)(Z':Lo)(M':Hp):Prop:=
 ∀ P_:Prop,(∀ (F:List (Int×Int)) (m:Bool) (os:Lo) (r:Rnd rules u x yr cnt F0 F m D) (st:d7 [fo] τ M') (ef:M' fo=some (.lst (F.map tp))) (po:post os) (e:Z'=pre++some (.ref fo)::some (.bool m)::os),P_)->P_
end
theorem bD0{M M':Hp}{fo:Addr}{o:AObj}(h:d7 [fo] (upd M fo o) M')(hf:M fo=none):Sub M M':=λc p e=>h c p (λq=>by rw[aj.mp q,hf] at e;cases e) (i9 e hf)
def D1(yr i n y l:Int):Prop:=yr<=y/\y<yr+i/\0<=l/\l<n
def D2(yr i n k y l:Int):Prop:=D1 yr i n y l∨(y=yr+i/\0<=l/\l<k)
theorem ci8{yr n y l:Int}(q:D1 yr 0 n y l){P:Prop}:P:=absurd (dB q.1 q.2.1) (by rw[Int.add_zero];exact cU _)
theorem bJ5{yr i n y l:Int}(q:D2 yr i n 0 y l):D1 yr i n y l:=q.elim id λq=>absurd (dB q.2.1 q.2.2) (cU _)
theorem be8{yr i n k a b:Int}(q:D2 yr i n (k+1) a b):D2 yr i n k a b∨(a=yr+i/\b=k):=by
 rcases q with q | ⟨e,q1,q2⟩
 ·exact .inl (.inl q)
 ·rcases Int.lt_or_eq_of_le (gF q2) with z | z
  ·exact .inl (.inr ⟨e,q1,z⟩)
  ·exact .inr ⟨e,z⟩
theorem aU5{yr i n k y l:Int}(h:n<=k)(q:D1 yr (i+1) n y l):D2 yr i n k y l:=by
 have q2:y<yr+i+1:=by rw[Int.add_assoc];exact q.2.1
 rcases Int.lt_or_eq_of_le (gF q2) with z | z
 ·exact .inl ⟨q.1,z,q.2.2⟩
 ·exact .inr ⟨z,q.2.2.1,dC q.2.2.2 h⟩
theorem bQ8{yr cnt n y l:Int}(q:yr<=y/\y<cnt/\0<=l/\l<n):D1 yr (cnt-yr).toNat n y l:=
 ⟨q.1,dC q.2.1 (Int.le_add_of_sub_left_le (Int.self_le_toNat (cnt-yr))),q.2.2⟩
section
variable{g:G}{d:Nat}{M:Hp}{Q:V->Hp->Prop}{X:Str->Hp->Prop}{rules tabs:List V}{C owed:Int}{rk:Int->Nat}
set_option tactic.hygienic true in
theorem ap7(N:Nm g)(FF:FG rules tabs C owed rk){u:Str}{x:V}{cnt yr:Nat}(hu:NW u)(hx:j9 x)(hc:cnt<=4)(hy:yr<cnt)(hz:rules.length<=16)(h:∀ b R,M b=none->HgSet rules u x yr cnt R->Q (.ref b) (upd M b (.lst (R.map tp)))) :
  c7 g (d+11) true "_law_hangs" [fmV rules tabs C owed,.int cnt,.int yr,.str u,x] M Q X:=by
 have FR:=FF.form.rule;have hrz:(rules.length:Int)<=16:=by lia
 refine bs8 N ?_;k_extra "w";rename_i fo hfo;refine Whl.g (RwJ rules u x yr cnt fo (upd M fo (.lst [])) [some (fmV rules tabs C owed),some (.int cnt),some (.int yr),some (.str u),some x]) 65 (λ_ k_=>k_ [] true none none none none none ⟨.nil,λp hp=>(by cases hp)⟩ (λq=>(by cases q)) rfl d7.refl (c9 _ _ _) rfl) λR J hR hJ=>?_
 rintro n _ M' hh_;refine hh_ _ ?_;clear hh_;rintro F m o7 o8 o9 o10 o11 sn cl en st ef rfl;have zF:=sn.len hc hz;cases m with
 | false=>
  k_extra "w";refine hR ?_;k_extra "w";refine Srted.prs F ef (λp hp=>?_) sn.nd zF λb ps hb hp hw=>?_
  ·refine f9 (sn.hg p hp) λy _ _ q=>?_
   have:=q.rng.2;lia
  ·have hs:=bD0 st hfo
   refine t9 (B5 hs) (h b ps (F1 hs hb) (HgSet.of hp hw sn.nd (λp hp=>?_) sn.hg (cl rfl)))
   refine f9 (sn.hg p hp) λy _ _ q=>?_
   have:=q.rng.2;lia
 | true=>
  k_extra "w";refine A6 (fun(i:Nat)=>RyJ rules u x yr cnt fo F (D1 yr i rules.length) (upd M fo (.lst [])) [some (fmV rules tabs C owed),some (.int cnt),some (.int yr),some (.str u),some x] λos=>∃ a b c d e,os=[a,b,c,d,e]) (λ_ k_=>k_ F false _ ⟨sn,λq=>(by cases q),λ_=>⟨rfl,λy l q=>ci8 q⟩⟩ st ef ⟨_,_,_,_,_,rfl⟩ rfl) (λR2 J2 hR2 hJ2=>?_) ?_
  ·rintro i _ M2 hi hh_;refine hh_ _ ?_;clear hh_;rintro F2 m2 _ r2 st2 ef2 ⟨p1,p2,p3,p4,p5,rfl⟩ rfl
   have hyc:yr+i<cnt:=by lia
   k_extra "w";refine A6 (fun(k:Nat)=>RyJ rules u x yr cnt fo F (D2 yr i rules.length k) (upd M fo (.lst [])) [some (fmV rules tabs C owed),some (.int cnt),some (.int yr),some (.str u),some x] λos=>∃ b c d e,os=[some (.int (yr+i)),b,c,d,e]) (λ_ k_=>k_ F2 m2 _ (r2.mono λy l q=>bJ5 q) st2 ef2 ⟨_,_,_,_,rfl⟩ rfl) (λR3 J3 hR3 hJ3=>?_) ?_
   ·rintro k _ M3 hk hh_;refine hh_ _ ?_;clear hh_;rintro F3 m3 _ r3 st3 ef3 ⟨q2,q3,q4,q5,rfl⟩ rfl
    rw[cK] at hk ⊢;have hkl:k<rules.length:=by lia
    have z3:=r3.sn.len hc hz;k_extra "w";refine Idx.mk (by lia) (by lia) (by lia) λr hr=>?_
    obtain rfl:r=rules.getD (k:Int).toNat .none:=Option.some.inj (hr.symm.trans (A0 hkl));have hrk:=FR _ (aI hr);have fin:∀ (b:Bool) (τ2:Hp),(b=true↔((yr+i:Nat):Int)=yr/\x∈d5 8 (rules.getD (k:Int).toNat .none) u)->Sub M3 τ2->wSs g (d+10) true af4 [some (fmV rules tabs C owed),some (.int cnt),some (.int yr),some (.str u),some x,some (.ref fo),some (.bool m3),some (.int (yr+i)),some (.int k),some (rules.getD (k:Int).toNat .none),some (.bool b),q5] τ2 (C2 R3 (RJ 0 rules.length J3) ((g9 0 1 ((rules.length:Int)-0).toNat).drop (k+1))) (xK X):=λb τ2 hb hs2=>by
     have e3:=hs2 _ _ ef3;have s3:d7 [fo] (upd M fo (.lst [])) τ2:=st3.trans λc o _ e=>hs2 c o e
     have hD:∀ a b:Int,D2 yr i rules.length ((k+1:Nat):Int) a b->D2 yr i rules.length k a b∨(a=((yr+i:Nat):Int)/\b=(k:Int)):=λa b q=>be8 q
     refine cg4 N hrk e3 λb' o' hb'=>?_
     have ho:b'=true↔One rules u x yr F3 ((yr+i:Nat):Int) k:=by rw[hb',hb];exact Iff.rfl
     refine ba9 e3 (by lia) (λq1 q2=>RJ.next (by lia) (hJ3 (λ_ k_=>k_ (F3++[(((yr+i:Nat):Int),(k:Int))]) true _ (r3.add hyc (by lia) (by lia) (ho.mp q1) q2) (s3.trans (d7.upd (.head _))) (c9 _ _ _) ⟨_,_,_,_,rfl⟩ rfl))) λq=>RJ.next (by lia) (hJ3 (λ_ k_=>k_ F3 m3 _ (r3.skip hD λo=>q (ho.mpr o)) s3 e3 ⟨_,_,_,_,rfl⟩ rfl))
    k_extra "w"
    ·rename_i hq
     refine at0 (d:=d) N hu 8 hrk.ok (hrk.few u) λb L hb hS hm2=>?_
     have hL:∀ y∈L,j9 y:=λy hy=>(O4 hu hrk.ok).1 y ((hm2 y).mp hy)
     k_extra "w";refine aj6 ?_;refine InL.mk (j9.flatL hL) hx.flat (by rw[j9.depL hL,hx.dep];lia) ?_
     exact Stop.mk (fin (false ^^ B3 L x) _ (by rw[ct,Q2 hL hx,hm2];exact⟨λq=>⟨hq,q⟩,λq=>q.2⟩) (Sub.upd hb))
    ·rename_i hq
     exact Stop.mk (fin ((yr:Int)+(i:Int)==(yr:Int)) _ ⟨λq=>absurd (beq_iff_eq.mp q) hq,λq=>absurd q.1 hq⟩ (Sub.refl _))
   ·rintro _ M3 hh_;refine hh_ _ ?_;clear hh_;rintro F3 m3 _ r3 st3 ef3 ⟨q2,q3,q4,q5,rfl⟩ rfl
    refine RJ.next hi (hJ2 (λ_ k_=>k_ F3 m3 _ (r3.mono λy l q=>aU5 (by rw[aB6];exact bK _) q) st3 ef3 ⟨_,_,_,_,_,rfl⟩ rfl))
  ·rintro _ M2 hh_;refine hh_ _ ?_;clear hh_;rintro F2 m2 _ r2 st2 ef2 ⟨p1,p2,p3,p4,p5,rfl⟩ rfl
   have z2:=r2.sn.len hc hz;refine hJ ⟨64-F2.length+(if m2 then 1 else 0),?_,λ_ k_=>k_ F2 m2 p1 p2 p3 p4 p5 r2.sn (λe y l hyc hg=>?_) rfl st2 ef2 rfl⟩
   ·cases m2 with
    | true=>have:=r2.yes rfl;rw[en,if_pos rfl];lia
    | false=>rw[en,(r2.no rfl).1,if_pos rfl,if_neg (by decide)];exact bp _
   ·subst e
    exact(r2.mono λa b q=>bQ8 q).full hg hyc
end
theorem aK6{F:List (Int×Int)}:B7 (F.map tp)=true:=by
 induction F with
 | nil=>rfl
 | cons p F ih=>show(D8 (tp p)&&B7 (F.map tp))=true;rw[ih];rfl
theorem bU4{F:List (Int×Int)}:depL (F.map tp)<=1:=by
 induction F with
 | nil=>exact aE _
 | cons p F ih=>exact eJ.mpr ⟨gw rfl,ih⟩
section
variable{g:G}{d:Nat}{M:Hp}{Q:V->Hp->Prop}{X:Str->Hp->Prop}{rules tabs:List V}{C owed:Int}{rk:Int->Nat}
theorem bB0(N:Nm g)(F:FG rules tabs C owed rk){w:Str}{cnt yr:Nat}(hc:cnt<=8)(hw:j9 (.str w))(hcx:Cld M (.str w))(h:∀ b R,M b=none->HgSet rules (Str.ofString "paper") (.str w) yr cnt R->Q (.ref b) (upd M b (.lst (R.map tp)))) :
  c7 g (d+15) true "hanging" [fmV rules tabs C owed,.int cnt,.int yr,.str w] M Q X:=by
 refine bR0 N ?_;k_extra "w";refine aF5 N F (.inr (.inr (.inr (.inr rfl)))) hw hc hcx λb R hb hR=>?_
 exact d0 (h b R hb hR)
theorem bs2(N:Nm g)(F:FG rules tabs C owed rk){w:Int}{cnt yr:Nat}(hc:cnt<=8)(h:∀ b R,M b=none->HgSet rules (Str.ofString "choose") (.int w) yr cnt R->Q (.ref b) (upd M b (.lst (R.map tp)))) :
  c7 g (d+15) true "hanging_choice" [fmV rules tabs C owed,.int cnt,.int yr,.int w] M Q X:=by
 refine bu0 N ?_;k_extra "w";refine aF5 N F (.inr (.inr (.inr (.inl rfl)))) (.inl ⟨w,rfl⟩) hc (.int _) λb R hb hR=>?_
 exact d0 (h b R hb hR)
theorem aO2(N:Nm g){fa ha:Addr}{R:List (Int×Int)}(hf:M fa=some (.lst (R.map tp)))(hh:M ha=some (.lst (R.map tp)))(h:Q (.bool true) M):c7 g (d+2) true "_law_pairs" [.ref fa,.ref ha] M Q X:=by
 refine bz3 N ?_;k_extra "w";refine EqL.mk T6 T6 (ae (bc (ae (be _ _) bU4)) (by lia)) ?_
 rw[(ch2 aK6 aK6).mpr rfl,show(true ^^ true)=false from rfl]
 k_extra "w";refine LoopR.held _ hf (Loop.g (λrest Z' M'=>M=M'/\(∃ ps:List (Int×Int),rest=ps.map tp)/\∃ o,Z'=[some (.ref fa),some (.ref ha),o]) ⟨rfl,⟨R,rfl⟩,_,rfl⟩ (λR2 J hR hJ=>?_) ?_)
 ·rintro v rest _ _ ⟨rfl,⟨ps,e⟩,o,rfl⟩
  refine⟨hf,?_⟩;cases ps with
  | nil=>cases e
  | cons p ps=>
   refine c6 (List.cons.inj e) λe1 q1_=>?_;subst q1_
   subst e1;k_extra "w";exact hJ ⟨rfl,⟨ps,rfl⟩,_,rfl⟩
 ·rintro _ _ hh_;obtain⟨rfl,-,o,rfl⟩:=hh_
  refine⟨hf,?_⟩;exact d0 h
theorem aT0(N:Nm g){fa sa ha:Addr}{as bs:List Addr}{E E':Nat->List Int}{n k:Nat}{R:List (Int×Int)}(hf:M fa=some (.lst (as.map .ref)))(hs:M sa=some (.lst (bs.map .ref)))(hh:M ha=some (.lst (R.map tp)))(pf:PAt M as ((List.range n).map λy=>(E y).map .int))(ps:PAt M bs ((List.range n).map λy=>(E' y).map .int))
  (hn:n<=100) (hk:k<=100) (le:∀ y,y<n->(E y).length=k) (le':∀ y,y<n->(E' y).length=k) (hq:∀ y l:Nat,y<n->l<k->((y:Int),(l:Int))∉R->(E y).getD l 0=(E' y).getD l 0) (h:Q (.bool true) M) :
  c7 g (d+2) true "_law_others_stay" [.ref fa,.ref sa,.ref ha] M Q X:=by
 have al:as.length=n:=by rw[pf.len,ac,bF]
 have bl:bs.length=n:=by rw[ps.len,ac,bF]
 have am:(as.map V.ref).length=n:=by rw[ac];exact al
 have bm:(bs.map V.ref).length=n:=by rw[ac];exact bl
 refine bj4 N ?_;k_extra "w";refine A6 (λz_ Z' M'=>M=M'/\∃ o o',Z'=[some (.ref fa),some (.ref sa),some (.ref ha),o,o']) ⟨rfl,_,_,rfl⟩ (λRQ J hR hJ=>?_) ?_
 ·rintro y _ _ hy hh_;obtain⟨rfl,o,o',rfl⟩:=hh_
  rw[cK];have hyn:y<n:=by lia
  have g1:((List.range n).map λy=>(E y).map V.int)[y]?=some ((E y).map .int):=by rw[aw,dq hyn];rfl
  have g2:((List.range n).map λy=>(E' y).map V.int)[y]?=some ((E' y).map .int):=by rw[aw,dq hyn];rfl
  refine a9 (pf.get g1) λa ha1 ha2=>?_
  refine a9 (ps.get g2) λb hb1 hb2=>?_
  have ma:(as.map V.ref)[y]?=some (.ref a):=by rw[aw,ha1];rfl
  have mb:(bs.map V.ref)[y]?=some (.ref b):=by rw[aw,hb1];rfl
  have l1:((E y).map V.int).length=k:=by rw[ac];exact le y hyn
  have l2:((E' y).map V.int).length=k:=by rw[ac];exact le' y hyn
  k_extra "w";refine Idx.mk (by lia) (by lia) (by lia) λv hv=>?_
  obtain rfl:v=.ref a:=Option.some.inj (hv.symm.trans ma);k_extra "w";refine A6 (λz_ Z' M'=>M=M'/\∃ o',Z'=[some (.ref fa),some (.ref sa),some (.ref ha),some (.int y),o']) ⟨rfl,_,rfl⟩ (λRQ2 J2 hR2 hJ2=>?_) ?_
  ·rintro l _ _ hl hh_;obtain⟨rfl,o',rfl⟩:=hh_
   rw[cK];have hlk:l<k:=by lia
   k_extra "w";refine aD2 (p:=((y:Int),(l:Int))) ?_;cases hd:decide (((y:Int),(l:Int))∈R) with
   | true=>
    k_extra "w";exact hJ2 ⟨rfl,_,rfl⟩
   | false=>
    have e:=hq y l hyn hlk (of_decide_eq_false hd);have m1:((E y).map V.int)[l]?=some (.int ((E y).getD l 0)):=by rw[aw,A0 (x:=0) (by rw[le y hyn];exact hlk)];rfl
    have m2:((E' y).map V.int)[l]?=some (.int ((E' y).getD l 0)):=by rw[aw,A0 (x:=0) (by rw[le' y hyn];exact hlk)];rfl
    k_extra "w";refine Idx.mk (by lia) (by lia) (by lia) λv hv=>?_
    obtain rfl:v=.ref a:=Option.some.inj (hv.symm.trans ma);k_extra "w";refine Idx.mk (by lia) (by lia) (by lia) λv hv=>?_
    obtain rfl:v=.int ((E y).getD l 0):=Option.some.inj (hv.symm.trans m1);k_extra "w";refine Idx.mk (by lia) (by lia) (by lia) λv hv=>?_
    obtain rfl:v=.ref b:=Option.some.inj (hv.symm.trans mb);k_extra "w";refine Idx.mk (by lia) (by lia) (by lia) λv hv=>?_
    obtain rfl:v=.int ((E' y).getD l 0):=Option.some.inj (hv.symm.trans m2);rw[e];k_extra "w";exact hJ2 ⟨rfl,_,rfl⟩
  ·rintro _ _ hh_;obtain⟨rfl,o',rfl⟩:=hh_
   exact RJ.next hy (hJ ⟨rfl,_,_,rfl⟩)
 ·rintro _ _ hh_;obtain⟨rfl,o,o',rfl⟩:=hh_
  exact d0 h
end
structure YS(M:Hp)(st yl tl:Addr)(as bs:List Addr)(Ps:List (List (Str×Int)))(Ts:List (List Bool))(C n:Int):Prop where
 hst:M st=some (.lst [.int n])
 n0:0<=n
 n1:n<2147483647
 hy:M yl=some (.lst (as.map .ref))
 ht:M tl=some (.lst (bs.map .ref))
 pa:PAt M as (Ps.map λP=>(i7 P).map n8)
 pb:PAt M bs (Ts.map λT=>T.map .bool)
 len:Ps.length=Ts.length
 zz:Ts.length<=8
 gp:∀ P∈Ps,GP P
 pz:∀ P∈Ps,P.length<=100
 tz:∀ T∈Ts,(T.length:Int)=C
 nz:NZ M
 ny:yl≠st
 nt:tl≠st
 na:∀ a∈as,a≠st
 nb:∀ b∈bs,b≠st
variable{rules tabs:List V}{C owed n:Int}{rk:Int->Nat}{as bs cs hs:List Addr}{Ps:List (List (Str×Int))}{Ts:List (List Bool)}{st yl tl:Addr}
theorem YS.stay{M M':Hp}{n':Int}(S:YS M st yl tl as bs Ps Ts C n)(k:d7 [st] M M')(h0:M' st=some (.lst [.int n']))(h1:0<=n')(h2:n'<2147483647)(h3:NZ M'):YS M' st yl tl as bs Ps Ts C n':=
 ⟨h0,h1,h2,k _ _ (l9 S.ny) S.hy,k _ _ (l9 S.nt) S.ht,S.pa.stay k λc hc=>l9 (S.na c hc),S.pb.stay k λc hc=>l9 (S.nb c hc),S.len,S.zz,S.gp,S.pz,S.tz,h3,S.ny,S.nt,S.na,S.nb⟩
theorem YS.sub{M M':Hp}(S:YS M st yl tl as bs Ps Ts C n)(k:Sub M M')(h3:NZ M'):YS M' st yl tl as bs Ps Ts C n:=
 S.stay (λc o z_ e=>k c o e) (k _ _ S.hst) S.n0 S.n1 h3
theorem YS.hin{M:Hp}(S:YS M st yl tl as bs Ps Ts C n)(c8:C<=8):HIn M yl tl as (bs.map .ref) (Ps.map i7) Ts:=by
 have lb:bs.length=Ts.length:=by rw[S.pb.len,ac]
 refine⟨S.hy,S.ht,by rw[bI];exact S.pa,by rw[ac,lb],by rw[ac,S.len],fun{i t T} h1 h2=>?_,λu hu M=>?_,λu hu=>?_,λT hT=>?_,ae S.zz (by decide)⟩
 ·rw[aw] at h1
  refine a9 (aJ.mp h1) λb hb q1_=>?_;subst q1_
  exact .lst b (S.pb.at' hb (by rw[aw,h2];rfl))
 ·refine a9 (ar.mp hu) λP hP q1_=>?_;subst q1_
  exact aR9 (S.gp P hP) M
 ·refine a9 (ar.mp hu) λP hP q1_=>?_;subst q1_
  unfold i7;rw[ac];have:=S.pz P hP;lia
 ·have:=S.tz T hT;lia
theorem bV2{l:List V}{k:Nat}{x:V}(h:k<l.length):l.take k++[x]++l.drop (k+1)=l.set k x:=by
 rw[List.set_eq_take_append_cons_drop,if_pos h,aH];rfl
theorem ap5{l:List Addr}{i:Nat}(h:i<l.length):∃ c,l[i]?=some c/\(l.map V.ref)[i]?=some (.ref c):=⟨_,aa h,by rw[aw,aa h];rfl⟩
section
variable{l:List Addr}{k:Nat}{c:Addr}
theorem bZ1:nzO (.lst ((l.map V.ref).take k))=true:=by rw[<- gG];exact F5
theorem bM7:nzO (.lst ((l.map V.ref).drop k))=true:=by rw[<- List.map_drop];exact F5
theorem bG5:nzO (.lst ((l.map V.ref).take k++[V.ref c]))=true:=by
 rw[show(l.map V.ref).take k++[V.ref c]=(l.take k++[c]).map V.ref by rw[av,gG];rfl];exact F5
theorem aO4{l:List Bool}:nzO (.lst (l.map V.bool))=true:=z5 λx hx=>by refine a9 (ar.mp hx) λb z_ q1_=>?_;subst q1_;rfl
end
theorem YS.good{M:Hp}(S:YS M st yl tl as bs Ps Ts C n):∀ u∈Ps.map i7,papF u []≠none:=λu hu=>by
 refine a9 (ar.mp hu) λP hP q1_=>?_;subst q1_
 rw[(S.gp P hP).papF];exact λe=>by cases e
def MkD(st:Addr)(M:Hp)(R:List V->Prop)(i:Nat)(acc:List V)(M':Hp):Prop:=
 ∀ P_:Prop,(∀ (as:List Addr) (Ls:List (List V)) (n:Int) (e1:acc=as.map .ref) (e2:Ls.length=i) (hS:d7 [st] M M') (hst:M' st=some (.lst [.int n])) (n0:0<=n) (n1:n<2147483647) (hP:PAt M' as Ls) (hR:∀ x∈Ls,R x) (hn:NZ M') (ne:∀ a∈as,a≠st) (nd:as.Nodup),P_)->P_
theorem aC3{st:Addr}{M:Hp}{n cnt:Int}{turn:V->Hp->VP->(Hp->Prop)->Prop}{Q:VP}(R:List V->Prop)(c0:0<=cnt)(c8:cnt<=100)(nz:NZ M)(hst:M st=some (.lst [.int n]))(n0:0<=n)(n1:n<2147483647)(hR:∀ x,R x->nzL x=true)
  (ht:∀ M' n v (yes:VP) (no:Hp->Prop),d7 [st] M M'->M' st=some (.lst [.int n])->0<=n->n<2147483647->(∀ b x n',b≠st->M' b=none->R x->0<=n'->n'<2147483647->yes (.ref b) (upd (upd M' st (.lst [.int n'])) b (.lst x)))->turn v M' yes no)
  (h:∀ M' l as Ls n,d7 [st] M M'->M' st=some (.lst [.int n])->0<=n->n<2147483647->M' l=some (.lst (as.map .ref))->l≠st->PAt M' as Ls->(Ls.length:Int)=cnt->(∀ x∈Ls,R x)->NZ M'->(∀ a∈as,a≠st)->as.Nodup->Q (.ref l) M'):CLoop (g9 0 1 (cnt-0).toNat) (λz_=>True) M turn Q:=by
 refine N0 (MkD st M R) (by lia) (λz_ k_=>k_ [] [] n rfl rfl d7.refl hst n0 n1 PAt.nil (λx hx=>(by cases hx)) nz (λa ha=>(by cases ha)) .nil) (λJ hJ=>?_) ?_
 ·rintro i acc M' hi hh_;refine hh_ _ ?_;clear hh_;rintro as Ls n rfl e2 hS hst n0 n1 hP hR' hn ne nd
  refine ht M' n _ _ _ hS hst n0 n1 λb x n' b1 b2 hx m0 m1=>CJ.next hi (hJ (λz_ k_=>k_ (as++[b]) (Ls++[x]) n' (by rw[av];rfl) (by rw[az,e2];rfl) ?_ ?_ m0 m1 ?_ ?_ ((hn.upd rfl).upd (hR x hx)) ?_ ?_))
  ·exact(hS.trans (d7.upd (by k_extra "mem"))).trans (d7.new (N6 b2 b1))
  ·rw[d6 _ _ (Ne.symm b1)];exact c9 _ _ _
  ·exact(hP.stay ((d7.upd (by k_extra "mem")).trans (d7.new (N6 b2 b1))) λc hc=>l9 (ne c hc)).snoc (c9 _ _ _)
  ·intro y hy
   rcases aq.mp hy with q | q
   ·exact hR' y q
   ·rw[aj.mp q];exact hx
  ·intro y hy
   rcases aq.mp hy with q | q
   ·exact ne y q
   ·rw[aj.mp q];exact b1
  ·refine bk.mpr ⟨nd,cz.mpr ⟨λq=>(by cases q),.nil⟩,λa ha c hc e=>?_⟩
   refine a9 (hP.has ha) λx z_ hx=>?_
   rw[e,aj.mp hc,b2] at hx;cases hx
 ·rintro acc M' hh_ c hc;refine hh_ _ ?_;clear hh_;rintro as Ls n rfl e2 hS hst n0 n1 hP hR' hn ne nd
  exact h _ c as Ls n (hS.trans (d7.new hc)) (i9 hst hc) n0 n1 (c9 _ _ _) (l7 hst hc).symm (hP.sub (Sub.upd hc)) (by lia) hR' (hn.upd F5) ne nd
theorem ne_bools{M:Hp}{c t:Addr}{l:List V}{T:List Bool}(h:M t=some (.lst (T.map .bool)))(e:0<T.length)(hc:M c=some (.lst l))(hl:∀ v∈l,∀ b,v≠.bool b):c≠t:=λq=>by
 rw[q,h] at hc;cases T with
 | nil=>exact absurd e (bn _)
 | cons b T=>
  cases hc;exact hl _ (.head _) b rfl
theorem PAt.ne_bools{M:Hp}{t:Addr}{cs:List Addr}{Ls:List (List V)}{T:List Bool}(p:PAt M cs Ls)(h:M t=some (.lst (T.map .bool)))(e:0<T.length)(hl:∀ l∈Ls,∀ v∈l,∀ b,v≠.bool b):∀ c∈cs,c≠t:=λc hc=>by
 refine a9 (p.has hc) λx hx e2=>?_
 exact Internal.ne_bools h e e2 (hl x hx)
theorem PAt.put{M:Hp}{cs:List Addr}{Ls:List (List V)}{i:Nat}{c:Addr}{x:List V}(h:PAt M cs Ls)(nd:cs.Nodup)(hc:cs[i]?=some c):PAt (upd M c (.lst x)) cs (Ls.set i x):=
 ⟨by rw[bB,h.len],fun{j c' x'} e1 e2=>by
  rw[List.getElem?_set] at e2;by_cases q:i=j
  ·subst q
   rw[if_pos rfl] at e2;obtain rfl:c=c':=Option.some.inj (hc.symm.trans e1);by_cases q2:i<Ls.length
   ·rw[if_pos q2] at e2;cases e2;exact c9 _ _ _
   ·rw[if_neg q2] at e2;cases e2
  ·rw[if_neg q] at e2
   rw[d6 _ _ λe=>q ?_]
   ·exact h.at' e1 e2
   ·obtain⟨i1,g1⟩:=ay.mp hc
    obtain⟨i2,g2⟩:=ay.mp e1;exact(dX nd).mp (g1.trans (e.symm.trans g2.symm))⟩
theorem But.flip{P:List (Str×Int)}{T:List Bool}{c:Nat}{b:Bool}:But "choose" (.int c) P P T (T.set c b):=
 ⟨λz_ z_=>rfl,λk k0 hk=>by
  have:c≠k.toNat:=λe=>hk rfl (by rw[e,bD k0])
  rw[aF,aF,dg this]⟩
theorem N9{l:List V}{k:Int}{K:V->Prop}(n:Nat)(x:V)(e:k=n)(hx:l[n]?=some x)(hn:n<=100)(h:K x):Idx l k K:=by
 subst e;exact⟨aT n,eL.mpr (ay.mp hx).1,by lia,λy hy=>Option.some.inj (hx.symm.trans hy)▸h⟩
noncomputable def A3(P:List (Str×Int))(w:Str)(i:Int):List (Str×Int):=P.filter (λp=>p.1 != w)++[(w,i)]
theorem aa5{P:List (Str×Int)}:(dS P).map (·.1)=P.map (·.1):=by unfold dS;rw[bI];rfl
theorem GP.oth{P:List (Str×Int)}{w:Str}{i:Int}(h:GP P)(hw:j7 w=true)(h0 : -1000000000<=i)(h1:i<=1000000000):GP (A3 P w i):=by
 have k:∀ {p},p∈P.filter (λp=>p.1 != w)->p∈P:=λhp=>(cL.mp hp).1
 have nd:=h.nd;rw[aa5] at nd;refine GP.snoc ⟨?_,λp hp=>h.wd p (k hp),λp hp=>h.lo p (k hp),λp hp=>h.hi p (k hp)⟩ (λq=>?_) hw h0 h1
 ·rw[aa5];exact List.Nodup.sublist (List.Sublist.map _ gM) nd
 ·rw[aa5] at q
  refine a9 (ar.mp q) λp hp e=>?_
  have:=(cL.mp hp).2;rw[e,bne_self_eq_false] at this;cases this
theorem bp5{w x:Str}{i:Int}(hx:w≠x):∀ {P:List (Str×Int)},i8 (dS (A3 P w i)) x=i8 (dS P) x:=by
 intro P;unfold i8 A3 dS
 congr 1
 rw[av,List.find?_append];have e1:List.find? (λp=>decide (p.1=x)) (List.map (λp:Str×Int=>(p.1,V.int p.2)) [(w,i)])=none:=by
  rw[List.find?_eq_none];intro p hp q;rw[aj.mp hp] at q;exact hx (of_decide_eq_true q)
 rw[e1,Option.or_none,List.find?_map,List.find?_map,List.find?_filter]
 congr 1
 congr 1
 funext p
 by_cases q:p.1=x
 ·exact decide_eq_decide.mpr ⟨λk=>of_decide_eq_true k.2,λk=>⟨bne_iff_ne.mpr λe=>hx (e.symm.trans q),decide_eq_true k⟩⟩
 ·exact decide_eq_decide.mpr ⟨λk=>of_decide_eq_true k.2,λk=>absurd k q⟩
theorem But.oth{P:List (Str×Int)}{T:List Bool}{w:Str}{i:Int}:But "paper" (.str w) P (A3 P w i) T T:=
 ⟨λx hx=>by unfold D9;rw[bp5 λe=>hx rfl (by rw[e])],λz_ z_ z_=>rfl⟩
section
variable{g:G}{d:Nat}{M:Hp}{Q:V->Hp->Prop}{X:Str->Hp->Prop}
theorem ax2(N:Nm g){fa sa ha:Addr}{cs':List Addr}{Us Us':List (List (V×V))}{Ts':List (List Bool)}{u:Str}{x:V}{y m:Nat}{R:List (Int×Int)}(F:FG rules tabs C owed rk)(hf:M fa=some (.lst (cs.map .ref)))(hs:M sa=some (.lst (cs'.map .ref)))(hh:M ha=some (.lst (R.map tp)))
  (pf:PAt M cs (hL rules tabs rk Us Ts m)) (ps:PAt M cs' (hL rules tabs rk Us' Ts' m)) (hm:m<=100) (hR:HgSet rules u x y m R)
  (b:∀ (k:Nat) U U' T T',Us[k]?=some U->Us'[k]?=some U'->Ts[k]?=some T->Ts'[k]?=some T'->(k≠y->U=U'/\T=T')/\But u x ((papF U []).getD []) ((papF U' []).getD []) T T') (l0:Us.length=m) (l1:Us'.length=m) (l2:Ts.length=m) (l3:Ts'.length=m) (h:Q (.bool true) M) :
  c7 g (d+2) true "_law_others_stay" [.ref fa,.ref sa,.ref ha] M Q X:=by
 have hz:=F.l40;have key:∀ {Us:List (List (V×V))} {Ts:List (List Bool)} (k:Nat),Us.length=m->Ts.length=m->k<m->(eY rules tabs rk Us Ts (k+1)).length=rules.length:=fun{Us Ts} k a b hk=>by
  have g1:=aa (l:=Us) (i:=k) (by rw[a];exact hk)
  have g2:=aa (l:=Ts) (i:=k) (by rw[b];exact hk)
  rw[N4 g1 g2,aA2]
 refine aT0 (E:=λy=>eY rules tabs rk Us Ts (y+1)) (E':=λy=>eY rules tabs rk Us' Ts' (y+1)) (k:=rules.length) (n:=m) N hf hs hh pf ps hm (by lia) (λk hk=>key k l0 l2 hk) (λk hk=>key k l1 l3 hk) (λk l hk hl hne=>?_) h
 have:=ba0 (tabs:=tabs) (Us:=Us) (Us':=Us') (Ts:=Ts) (Ts':=Ts') F.lnk rfl b (by rw[l0,l1]) (by rw[l0,l2]) (by rw[l0,l3]) k (by rw[l0];exact hk) l (aT _) (eL.mpr hl) λq=>hne ((hR.mem _).mpr ⟨k,rfl,hk,q⟩)
 rw[dL] at this;exact this
theorem H8{α:Type}{l:List α}{y k:Nat}{v a b:α}(h1:l[k]?=some a)(h2:(l.set y v)[k]?=some b)(h:k≠y):a=b:=by
 rw[dg (Ne.symm h),h1] at h2;exact Option.some.inj h2
theorem ai7{l:List Addr}:∀ v∈l.map V.ref,∀ b,v≠.bool b:=λv hv b e=>by refine a9 (ar.mp hv) λa z_ q1_=>?_;subst q1_;cases e
theorem ca2{l:List (Int×Int)}:∀ v∈l.map tp,∀ b,v≠.bool b:=λv hv b e=>by refine a9 (ar.mp hv) λa z_ q1_=>?_;subst q1_;cases e
theorem aQ5{rules tabs:List V}{rk:Int->Nat}{Us:List (List (V×V))}{Ts:List (List Bool)}{k:Nat}:∀ l∈hL rules tabs rk Us Ts k,∀ v∈l,∀ b,v≠.bool b:=λl hl v hv b e=>by
 refine c5 (as7 hl) λj q1_=>?_;subst q1_
 refine a9 (ar.mp hv) λa z_ q1_=>?_;subst q1_;cases e
theorem YS.flip{y:Nat}{ta:Addr}{T T':List Bool}(S:YS M st yl tl as bs Ps Ts C n)(nd:bs.Nodup)(hta:bs[y]?=some ta)(hy:y<Ts.length)(et:M ta=some (.lst (T.map .bool)))(T0:0<T.length)(tz:T'.length=T.length)(e:(T.length:Int)=C):YS (upd M ta (.lst (T'.map .bool))) st yl tl as bs Ps (Ts.set y T') C n:=by
 have mb:=aI hta;have k:d7 [ta] M (upd M ta (.lst (T'.map .bool))):=d7.upd (by k_extra "mem")
 refine⟨k _ _ (l9 (S.nb ta mb).symm) S.hst,S.n0,S.n1,k _ _ (l9 (ne_bools et T0 S.hy ai7)) S.hy,k _ _ (l9 (ne_bools et T0 S.ht ai7)) S.ht,S.pa.stay k λc hc=>l9 (S.pa.ne_bools et T0 (λl hl v hv b e=>?_) c hc),?_,by rw[bB];exact S.len,by rw[bB];exact S.zz,S.gp,S.pz,λW hW=>?_,S.nz.upd aO4,S.ny,S.nt,S.na,S.nb⟩
 ·refine a9 (ar.mp hl) λP z_ q1_=>?_;subst q1_
  refine a9 (ar.mp hv) λq z_ q1_=>?_;subst q1_
  cases e
 ·rw[eM];exact S.pb.put nd hta
 ·rcases cR hW with q | rfl
  ·exact S.tz W q
  ·rw[tz];exact e
theorem bJ6(N:Nm g){a p fl ha:Addr}{y c:Nat}{R:List (Int×Int)}{o6 o11:Option V}(F:FG rules tabs C owed rk)(S:YS M st yl tl as bs Ps Ts C n)(nd:bs.Nodup)(hy:y<Ts.length)(hc:(c:Int)<C)
  (hf:M fl=some (.lst (cs.map .ref))) (hP:PAt M cs (hL rules tabs rk (Ps.map i7) Ts Ts.length)) (hh:M ha=some (.lst (R.map tp))) (hR:HgSet rules "choose" (.int c) y Ts.length R) (h:∀ M',Q (.bool true) M') :
  wSs g (d+15) true al9 [some (.ref a),some (.ref p),some (fmV rules tabs C owed),some (.ref st),some (.int Ts.length),some (.int y),o6,some (.ref yl),some (.ref tl),some (.ref fl),some (.ref ha),o11,some (.int c)] M (e9 Q) (xK X):=by
 have zz:=S.zz;have c8:=F.c8;have ht:=S.ht;have lb:bs.length=Ts.length:=by rw[S.pb.len,ac]
 obtain⟨ta,hta,hta'⟩:=ap5 (l:=bs) (i:=y) (by rw[lb];exact hy)
 have hT:Ts[y]?=some Ts[y]:=aa hy;generalize Ts[y]=T at hT;have tz:=S.tz T (aI hT);have et:M ta=some (.lst (T.map .bool)):=S.pb.at' hta (by rw[aw,hT];rfl)
 have hcT:c<T.length:=by lia
 have gT:(T.map V.bool)[c]?=some (.bool T[c]):=by rw[aw,aa hcT];rfl
 have lT:(T.map V.bool).length=T.length:=ac _;have lbm:(bs.map V.ref).length=Ts.length:=by rw[ac];exact lb
 k_extra "w";refine N9 y _ rfl hta' (by lia) ?_
 k_extra "w";refine N9 c _ rfl gT (by lia) ?_
 k_extra "w";refine N9 y _ rfl hta' (by lia) ?_
 k_extra "w";rw[dL,<- eM];generalize hT':T.set c (!T[c])=T';have tz':T'.length=T.length:=by rw[<- hT',bB]
 have T0:0<T.length:=aM (aE _) hcT;have mb:=aI hta;have S':=S.flip nd hta hy et T0 tz' tz;have H:=S'.hin c8;have k:d7 [ta] M (upd M ta (.lst (T'.map .bool))):=d7.upd (by k_extra "mem")
 have hf':=k _ _ (l9 (ne_bools et T0 hf ai7)) hf;have hh':=k _ _ (l9 (ne_bools et T0 hh ca2)) hh;have hP':=hP.stay k λc hc=>l9 (hP.ne_bools et T0 aQ5 c hc)
 generalize upd M ta (.lst (T'.map .bool))=ω at *;k_extra "w";refine ab0 (d:=d+1) N F H S'.nz S'.good S'.tz λM3 b3 cs3 m1 m2 m3 m4 z_=>?_
 rw[bB] at m4;refine ax2 (d:=d+13) N F (m1 _ _ hf') m3 (m1 _ _ hh') (hP'.sub m1) m4 (by lia) hR (λk U U' W W' a1 a2 a3 a4=>?_) (by rw[ac,S.len]) (by rw[ac,S.len]) rfl bB (d0 (h _))
 obtain rfl:U=U':=Option.some.inj (a1.symm.trans a2);refine⟨λhk=>⟨rfl,H8 a3 a4 hk⟩,?_⟩
 by_cases hk:k=y
 ·subst hk
  obtain rfl:T=W:=Option.some.inj (hT.symm.trans a3);rw[cX hy] at a4;obtain rfl:T'=W':=Option.some.inj a4;rw[<- hT'];exact But.flip
 ·rw[H8 a3 a4 hk];exact But.refl
theorem ck3:True:=by
 k_with "call"=>(refine G6 (by with_reducible assumption) (by k_extra "heap") (by with_reducible assumption) (by with_reducible assumption) (by k_extra "n") (by k_extra "n") ?_;intro _ _ _ _ _ _)
 trivial
set_option tactic.hygienic true in
theorem bL4(N:Nm g){a p fl la ta wl:Addr}{y:Nat}{o6 o10 o11:Option V}(F:FG rules tabs C owed rk)(S:YS M st yl tl as bs Ps Ts C n)(nd:bs.Nodup)(hy:y<Ts.length)(h4:Ts.length<=4)(hz:rules.length<=16)(C0:0<C)(hp:M p=some (.lst [.ref la,.ref ta,.int C,.int owed,.ref wl]))
  (hps:p≠st) (hfs:fl≠st) (hcs:∀ c∈cs,c≠st) (hf:M fl=some (.lst (cs.map .ref))) (hP:PAt M cs (hL rules tabs rk (Ps.map i7) Ts Ts.length)) (h:∀ M',Q (.bool true) M') :
  wSs g (d+15) true az3 [some (.ref a),some (.ref p),some (fmV rules tabs C owed),some (.ref st),some (.int Ts.length),some (.int y),o6,some (.ref yl),some (.ref tl),some (.ref fl),o10,o11,none] M (e9 Q) (xK X):=by
 have hst:=S.hst;have n0:=S.n0;have n1:=S.n1;have c8:=F.c8;k_extra "w";rename_i r n' r0 r1 m0 m1;refine c5 (bv r0) λc q1_=>?_;subst q1_
 have k:d7 [st] M (upd M st (.lst [.int n'])):=d7.upd (by k_extra "mem")
 have S1:=S.stay k (c9 _ _ _) m0 m1 (S.nz.upd rfl);have hf1:=k _ _ (l9 hfs) hf;have hP1:=hP.stay k λc hc=>l9 (hcs c hc)
 clear k;generalize upd M st (.lst [.int n'])=ω at *;refine ap7 (d:=d+4) N F (.inr (.inr (.inr (.inl rfl)))) (.inl ⟨_,rfl⟩) h4 hy hz λb R hb hR=>?_
 k_extra "w";refine bs2 (d:=d) N F (by lia) λb2 R2 hb2 hR2=>?_
 obtain rfl:=hR.eq hR2;have s1:=Sub.upd (o:=.lst (R.map tp)) hb;have s2:=Sub.upd (o:=.lst (R.map tp)) hb2;have nt:nzO (.lst (R.map tp))=true:=z5 λx hx=>by refine a9 (ar.mp hx) λq _ q1_=>?_;subst q1_;rfl
 refine aO2 (d:=d+13) (R:=R) N (c9 _ _ _) (s2 _ _ (c9 _ _ _)) ?_;k_extra "w";exact Stop.mk (bJ6 N F (S1.sub (s1.trans s2) ((S1.nz.upd nt).upd nt)) nd hy r1 ((s1.trans s2) _ _ hf1) (hP1.sub (s1.trans s2)) (s2 _ _ (c9 _ _ _)) hR h)
theorem bJ9(N:Nm g){a p fl la ta wl:Addr}{y:Nat}{o6 o10 o11:Option V}(F:FG rules tabs C owed rk)(S:YS M st yl tl as bs Ps Ts C n)(nd:bs.Nodup)(hy:y<Ts.length)(h4:Ts.length<=4)(hz:rules.length<=16)(hp:M p=some (.lst [.ref la,.ref ta,.int C,.int owed,.ref wl]))
  (hps:p≠st) (hfs:fl≠st) (hcs:∀ c∈cs,c≠st) (hf:M fl=some (.lst (cs.map .ref))) (hP:PAt M cs (hL rules tabs rk (Ps.map i7) Ts Ts.length)) (h:∀ M',Q (.bool true) M') :
  wSs g (d+15) true aw1 [some (.ref a),some (.ref p),some (fmV rules tabs C owed),some (.ref st),some (.int Ts.length),some (.int y),o6,some (.ref yl),some (.ref tl),some (.ref fl),o10,o11,none] M (e9 Q) (xK X):=by
 have c0:=F.c0;k_extra "w"
 ·exact d0 (h _)
 ·exact Stop.mk (bL4 N F S nd hy h4 hz (by lia) hp hps hfs hcs hf hP h)
end
theorem bE6{L:List Addr}{k:Nat}{c:Addr}(hz:L.length<=8):((L.map V.ref).take k).length+1<=10000/\((L.map V.ref).take k++[V.ref c]).length+((L.map V.ref).drop (k+1)).length<=10000:=by
 have h1:=eF k (L.map V.ref);have h2:((L.map V.ref).drop (k+1)).length<=(L.map V.ref).length:=by rw[bX];exact cj _ _
 rw[ac] at h1 h2;rw[az,gv];constructor<;>lia
section
variable{g:G}{d:Nat}{M:Hp}{Q:V->Hp->Prop}{X:Str->Hp->Prop}
theorem bg8{pa:Addr}{P:List (Str×Int)}{w:Str}{turn:V->Hp->VP->(Hp->Prop)->Prop}{Q:VP}(hx:M pa=some (.lst ((i7 P).map n8)))(hz:P.length<=100)
  (ht:∀ (x:Str) i (yes:VP) (no:Hp->Prop),(x≠w->yes (.tup [.str x,.int i]) M)->(x=w->no M)->turn (.tup [.str x,.int i]) M yes no) (h:∀ a,M a=none->Q (.ref a) (upd M a (.lst ((i7 (P.filter λp=>p.1 != w)).map n8)))):CLoop ((i7 P).map n8) (λM=>M pa=some (.lst ((i7 P).map n8))) M turn Q:=by
 refine CLoop.g (λrest acc M'=>M=M'/\∃ d1 d2:List (Str×Int),P=d1++d2/\rest=(i7 d2).map n8/\acc=(i7 (d1.filter λp=>p.1 != w)).map n8) (by unfold i7;rw[ac,ac];lia) ⟨rfl,[],P,rfl,rfl,rfl⟩ (λJ hJ=>?_) ?_
 ·rintro v rest acc _ hh_;obtain⟨rfl,d1,d2,e1,e2,rfl⟩:=hh_
  refine⟨hx,?_⟩;cases d2 with
  | nil=>cases e2
  | cons c d2=>
   refine c6 (List.cons.inj e2) λq1_ q2_=>?_;subst q1_;subst q2_
   refine ht c.1 c.2 _ _ (λq=>hJ ⟨rfl,d1++[c],d2,by rw[e1,aH];rfl,rfl,?_⟩) λq=>hJ ⟨rfl,d1++[c],d2,by rw[e1,aH];rfl,rfl,?_⟩
   ·rw[dF,List.filter_cons_of_pos (by exact bne_iff_ne.mpr q)];unfold i7;rw[av,av];rfl
   ·rw[dF,List.filter_cons_of_neg (by rw[q,bne_self_eq_false];exact λe=>by cases e),List.filter_nil,aS]
 ·rintro acc _ hh_;obtain⟨rfl,d1,d2,e1,e2,rfl⟩:=hh_
  refine⟨hx,λa ha=>?_⟩
  obtain rfl:d2=[]:=by cases d2 with | nil=>rfl | cons _ _=>cases e2
  rw[aS] at e1;subst e1;exact h a ha
theorem YS.paper{M':Hp}{y:Nat}{y2 ob:Addr}{P':List (Str×Int)}(S:YS M st yl tl as bs Ps Ts C n)(k:Sub M M')(nz:NZ M')(ey:M' y2=some (.lst ((as.set y ob).map .ref)))(hy:y<Ps.length)(eo:M ob=some (.lst ((i7 P').map n8)))(gp:GP P')(oz:P'.length<=100)(n2:y2≠st)(no:ob≠st):YS M' st y2 tl (as.set y ob) bs (Ps.set y P') Ts C n:=by
 refine⟨k _ _ S.hst,S.n0,S.n1,ey,k _ _ S.ht,?_,S.pb.sub k,by rw[bB];exact S.len,S.zz,λQ hQ=>?_,λQ hQ=>?_,S.tz,nz,n2,S.nt,λa ha=>?_,S.nb⟩
 ·rw[eM];exact(S.pa.sub k).set y (k _ _ eo)
 ·rcases cR hQ with q | rfl
  ·exact S.gp Q q
  ·exact gp
 ·rcases cR hQ with q | rfl
  ·exact S.pz Q q
  ·exact oz
 ·rcases cR ha with q | rfl
  ·exact S.na a q
  ·exact no
theorem cl0:True:=by
 k_with "call"=>(refine X8 (by with_reducible assumption) (by k_extra "heap") (by with_reducible assumption) (by with_reducible assumption) ?_;intro _ _ _ _ _ _)
 trivial
set_option tactic.hygienic true in
theorem ch7(N:Nm g){a p fl ha la ta wl:Addr}{y:Nat}{w:Str}{R:List (Int×Int)}(F:FG rules tabs C owed rk)(S:YS M st yl tl as bs Ps Ts C n)(nd:bs.Nodup)(hy:y<Ts.length)(h4:Ts.length<=4)(hz:rules.length<=16)(hp:M p=some (.lst [.ref la,.ref ta,.int C,.int owed,.ref wl]))
  (hps:p≠st) (hfs:fl≠st) (hhs:ha≠st) (hcs:∀ c∈cs,c≠st) (hf:M fl=some (.lst (cs.map .ref))) (hP:PAt M cs (hL rules tabs rk (Ps.map i7) Ts Ts.length)) (hh:M ha=some (.lst (R.map tp))) (hR:HgSet rules "paper" (.str w) y Ts.length R) (hw:j7 w=true) (p99:∀ P∈Ps,P.length<=99) (h:∀ M',Q (.bool true) M') :
  wSs g (d+15) true aD1 [some (.ref a),some (.ref p),some (fmV rules tabs C owed),some (.ref st),some (.int Ts.length),some (.int y),some (.str w),some (.ref yl),some (.ref tl),some (.ref fl),some (.ref ha),none,none] M (e9 Q) (xK X):=by
 have hst:=S.hst;have n0:=S.n0;have n1:=S.n1;have zz:=S.zz;have hyl:=S.hy;have c8:=F.c8;have la:as.length=Ts.length:=by rw[S.pa.len,ac,S.len]
 obtain⟨pa,hpa,hpa'⟩:=ap5 (l:=as) (i:=y) (by rw[la];exact hy)
 have hU:Ps[y]?=some (Ps[y]'(S.len▸hy)):=aa _;generalize Ps[y]'_=P at hU;have mP:=aI hU;have pz:=p99 P mP;have epa:M pa=some (.lst ((i7 P).map n8)):=S.pa.at' hpa (by rw[aw,hU];rfl)
 k_extra "w";refine N9 y _ rfl hpa' (by lia) ?_
 k_extra "w";refine bg8 (w:=w) epa (S.pz P mP) (λx i yes no h1 h2=>?_) λb hb=>?_
 ·k_extra "w"
  ·rename_i q;exact h1 (by first | exact q | exact(bne_iff_ne.mp q) | exact of_decide_eq_true q)
  ·rename_i q;exact h2 (by first | exact q | exact da.mp q)
 have hbs:b≠st:=(l7 hst hb).symm;have lP:((i7 (P.filter λp=>p.1 != w)).map n8).length<=100:=by unfold i7;rw[ac,ac];exact ae (eB _ _) (S.pz P mP)
 k_extra "w";rename_i r n' r0 r1 m0 m1 x1 hx1 ob hob;have k:d7 [st] M (upd (upd (upd (upd M b (.lst ((i7 (P.filter λp=>p.1 != w)).map n8))) st (.lst [.int n'])) x1 (.lst [.tup [.str w,.int r]])) ob (.lst ((i7 (P.filter λp=>p.1 != w)).map n8++[.tup [.str w,.int r]]))):=(((d7.new hb).trans (d7.upd (by k_extra "mem"))).trans (d7.new hx1)).trans (d7.new hob)
 have e0:(i7 (P.filter λp=>p.1 != w)).map n8++[.tup [.str w,.int r]]=(i7 (A3 P w r)).map n8:=by unfold A3 i7;rw[av,av];rfl
 have S1:=S.stay k (i9 (i9 (c9 _ _ _) hx1) hob) m0 m1 ((((S.nz.upd af6).upd rfl).upd rfl).upd (by rw[e0];exact af6))
 have gp:=GP.oth (S.gp P mP) hw r0 r1;have oz:(A3 P w r).length<=100:=by unfold A3;rw[az];exact bc (ae (eB _ _) pz)
 have hf1:=k _ _ (l9 hfs) hf;have hh1:=k _ _ (l9 hhs) hh;have hp1:=k _ _ (l9 hps) hp;have hP1:=hP.stay k λc hc=>l9 (hcs c hc)
 have eo:=c9 (upd (upd (upd M b (.lst ((i7 (P.filter λp=>p.1 != w)).map n8))) st (.lst [.int n'])) x1 (.lst [.tup [.str w,.int r]])) ob (.lst ((i7 (P.filter λp=>p.1 != w)).map n8++[.tup [.str w,.int r]]))
 rw[e0] at eo;rw[e0] at S1 hf1 hh1 hp1 hP1 ⊢;clear k e0;generalize upd (upd (upd (upd M b _) st _) x1 _) ob _=ω at *;clear hx1 hob hb epa hst hyl;have hyl:=S1.hy;obtain⟨z1,z2⟩:=bE6 (k:=y) (c:=ob) (L:=as) (by lia)
 have q1:slc none (some (y:Int)) (as.map V.ref)=(as.map V.ref).take y:=Z7 (aT _);have q2:slc (some ((y:Int)+1)) none (as.map V.ref)=(as.map V.ref).drop (y+1):=ai1 (aT (_+1));have q3:(as.map V.ref).take y++[V.ref ob]++(as.map V.ref).drop (y+1)=(as.set y ob).map V.ref:=by rw[bV2 (by rw[ac,la];exact hy),eM]
 k_extra "w";rename_i s1 g1 s2 g2 s3 g3 s4 g4 s5 g5;generalize hω:upd _ s5 _=ω';have sb:Sub ω ω':=hω▸((((Sub.upd g1).trans (Sub.upd g2)).trans (Sub.upd g3)).trans (Sub.upd g4)).trans (Sub.upd g5);have ey:ω' s5=some (.lst ((as.set y ob).map .ref)):=by rw[<- q3,<- q1,<- q2];exact hω▸c9 _ _ _
 have nz':NZ ω':=hω▸((((S1.nz.upd (by rw[q1];exact bZ1)).upd rfl).upd (by rw[q1];exact bG5)).upd (by rw[q2];exact bM7)).upd (by rw[q1,q2,q3];exact F5)
 clear hω g1 g2 g3 g4 g5;have n2:s5≠st:=λe=>by rw[e,sb _ _ S1.hst] at ey;cases hh2:as.set y ob with | nil=>rw[hh2] at ey;cases ey | cons c l=>rw[hh2] at ey;cases ey
 have no:ob≠st:=λe=>by rw[e,S1.hst] at eo;cases hh2:A3 P w r with | nil=>rw[hh2] at eo;cases eo | cons c l=>rw[hh2] at eo;cases eo
 have S2:YS ω' st s5 tl (as.set y ob) bs (Ps.set y (A3 P w r)) Ts C n':=S1.paper sb nz' ey (by rw[S.len];exact hy) eo gp oz n2 no
 k_extra "w";refine ab0 (d:=d+1) N F (S2.hin c8) S2.nz S2.good S2.tz λM3 b3 cs3 j1 j2 j3 j4 _=>?_
 refine ax2 (d:=d+13) N F ((sb.trans j1) _ _ hf1) j3 ((sb.trans j1) _ _ hh1) (hP1.sub (sb.trans j1)) j4 (by lia) hR (λk U U' W W' a1 a2 a3 a4=>?_) (by rw[ac,S.len]) (by rw[ac,bB,S.len]) rfl rfl ?_
 ·obtain rfl:W=W':=Option.some.inj (a3.symm.trans a4)
  rw[eM] at a2;refine⟨λhk=>⟨H8 a1 a2 hk,rfl⟩,?_⟩
  by_cases hk:k=y
  ·subst hk
   rw[aw,hU] at a1;obtain rfl:i7 P=U:=Option.some.inj a1;rw[cX (by rw[ac,S.len];exact hy)] at a2
   obtain rfl:i7 (A3 P w r)=U':=Option.some.inj a2;rw[(S.gp P mP).papF,gp.papF];exact But.oth
  ·rw[H8 a1 a2 hk];exact But.refl
 k_extra "w";exact Stop.mk (bJ9 N F (S1.sub (sb.trans j1) j2) nd hy h4 hz ((sb.trans j1) _ _ hp1) hps hfs hcs ((sb.trans j1) _ _ hf1) (hP1.sub (sb.trans j1)) h)
theorem cb0{w:Str}(h:j7 w=true):j9 (.str w)/\∀ M,Cld M (.str w):=⟨.inr ⟨w,rfl,(O3 h).1.strOk⟩,λM=>.str (ae (O3 h).2.2 (by decide))⟩
theorem aW2(N:Nm g){a p fl la ta wl:Addr}{y:Nat}{w:Str}(F:FG rules tabs C owed rk)(S:YS M st yl tl as bs Ps Ts C n)(nd:bs.Nodup)(hy:y<Ts.length)(h4:Ts.length<=4)(hz:rules.length<=16)(hp:M p=some (.lst [.ref la,.ref ta,.int C,.int owed,.ref wl]))
  (hps:p≠st) (hfs:fl≠st) (hcs:∀ c∈cs,c≠st) (hf:M fl=some (.lst (cs.map .ref))) (hP:PAt M cs (hL rules tabs rk (Ps.map i7) Ts Ts.length)) (hw:j7 w=true) (p99:∀ P∈Ps,P.length<=99) (h:∀ M',Q (.bool true) M') :
  wSs g (d+15) true ay2 [some (.ref a),some (.ref p),some (fmV rules tabs C owed),some (.ref st),some (.int Ts.length),some (.int y),some (.str w),some (.ref yl),some (.ref tl),some (.ref fl),none,none,none] M (e9 Q) (xK X):=by
 refine c6 (cb0 hw) λw1 w2=>?_
 k_extra "w";refine ap7 (d:=d+4) N F (.inr (.inr (.inr (.inr rfl)))) w1 h4 hy hz λb R hb hR=>?_
 k_extra "w";refine bB0 (d:=d) N F (by lia) w1 (w2 _) λb2 R2 hb2 hR2=>?_
 obtain rfl:=hR.eq hR2;have s1:=Sub.upd (o:=.lst (R.map tp)) hb;have s2:=Sub.upd (o:=.lst (R.map tp)) hb2;have nt:nzO (.lst (R.map tp))=true:=z5 λx hx=>by refine a9 (ar.mp hx) λq z_ q1_=>?_;subst q1_;rfl
 refine aO2 (d:=d+13) (R:=R) N (c9 _ _ _) (s2 _ _ (c9 _ _ _)) ?_;k_extra "w";exact Stop.mk (ch7 N F (S.sub (s1.trans s2) ((S.nz.upd nt).upd nt)) nd hy h4 hz ((s1.trans s2) _ _ hp) hps hfs (l7 S.hst hb).symm hcs ((s1.trans s2) _ _ hf) (hP.sub (s1.trans s2)) (s2 _ _ (c9 _ _ _)) hR hw p99 h)
theorem bi4(N:Nm g){a p la ta wl:Addr}{y:Nat}{w:Str}(F:FG rules tabs C owed rk)(S:YS M st yl tl as bs Ps Ts C n)(nd:bs.Nodup)(hy:y<Ts.length)(h4:Ts.length<=4)(hz:rules.length<=16)(hp:M p=some (.lst [.ref la,.ref ta,.int C,.int owed,.ref wl]))
  (hps:p≠st) (hw:j7 w=true) (p99:∀ P∈Ps,P.length<=99) (h:∀ M',Q (.bool true) M') :
  wSs g (d+15) true aI5 [some (.ref a),some (.ref p),some (fmV rules tabs C owed),some (.ref st),some (.int Ts.length),some (.int y),some (.str w),some (.ref yl),some (.ref tl),none,none,none,none] M (e9 Q) (xK X):=by
 k_extra "w";refine ab0 (d:=d+1) N F (S.hin F.c8) S.nz S.good S.tz λM3 fl cs m1 m2 m3 m4 m5=>?_
 have S3:=S.sub m1 m2;refine Stop.mk (aW2 N F S3 nd hy h4 hz (m1 _ _ hp) hps (λe=>?_) (λc hc e=>?_) m3 m4 hw p99 h)
 ·rw[e,S3.hst] at m3
  cases cs with
  | nil=>cases m3
  | cons c l=>cases m3
 ·have:=m5 c hc;rw[e,S.hst] at this;cases this
theorem bk2(N:Nm g){a p la ta wl:Addr}{cnt:Int}{y:Nat}{w:Str}{ws:List Str}(F:FG rules tabs C owed rk)(hp:M p=some (.lst [.ref la,.ref ta,.int C,.int owed,.ref wl]))(hwl:M wl=some (.lst (ws.map .str)))(hst:M st=some (.lst [.int n]))(n0:0<=n)(n1:n<2147483647)(hps:p≠st)(hws:wl≠st)(nz:NZ M)(c0:1<=cnt)(c4:cnt<=4)(hy:(y:Int)<cnt)(hz:rules.length<=16)(h8:ws.length<=8)(hw:∀ x∈ws,j7 x=true)(hwd:j7 w=true)(h:∀ M',Q (.bool true) M') :
  wSs g (d+15) true av5 [some (.ref a),some (.ref p),some (fmV rules tabs C owed),some (.ref st),some (.int cnt),some (.int y),some (.str w),none,none,none,none,none,none] M (e9 Q) (xK X):=by
 have C0:=F.c0;have C8:=F.c8;have k60:s8 cnt:=by unfold s8;lia
 k_extra "w";refine aC3 (λx=>∃ P:List (Str×Int),(GP P/\P.length<=99)/\x=(i7 P).map n8) (by lia) (by lia) nz hst n0 n1 (λx hx=>?_) (λM' n v yes no hS hst n0 n1 hk=>?_) λM1 yl as Ls n' hS hst' m0 m1 hyl ny hP hl hR hn na nd=>?_
 ·refine a9 hx λP z_ q1_=>?_;try clear hx;subst q1_
  exact af6
 ·have hp1:=hS p _ (l9 hps) hp
  have hw1:=hS wl _ (l9 hws) hwl;k_extra "w";refine aY0 (d:=d+12) N hst n0 n1 hw1 hws hw (by lia) λb P n2 b1 b2 gp pz g0 g1=>?_
  rw[bB5];exact hk b _ n2 b1 b2 ⟨P,⟨gp,by lia⟩,rfl⟩ g0 g1
 refine a9 (am9 hR) λPs q1_ hPs=>?_;subst q1_
 have hp1:=hS p _ (l9 hps) hp;k_extra "w";refine aC3 (λx=>∃ T:List Bool,(T.length:Int)=C/\x=T.map .bool) (by lia) (by lia) hn hst' m0 m1 (λx hx=>?_) (λM' n v yes no hS hst n0 n1 hk=>?_) λM2 tl bs Ls n2 hS2 hst2 g0 g1 htl nt hP2 hl2 hR2 hn2 nb nd2=>?_
 ·refine a9 hx λT z_ q1_=>?_;try clear hx;subst q1_
  exact aO4
 ·have hp2:=hS p _ (l9 hps) hp1
  k_extra "w";refine ce3 (d:=d+13) N hst n0 n1 C0 (by lia) λb T n2 b1 b2 tz g0 g1=>?_
  exact hk b _ n2 b1 b2 ⟨T,tz,rfl⟩ g0 g1
 refine a9 (am9 hR2) λTs q1_ hTs=>?_;subst q1_
 rw[ac] at hl hl2;obtain rfl:cnt=Ts.length:=hl2.symm;exact Stop.mk (bi4 (Ps:=Ps) (Ts:=Ts) N F ⟨hst2,g0,g1,hS2 _ _ (l9 ny) hyl,htl,hP.stay hS2 λc hc=>l9 (na c hc),hP2,by lia,by lia,λP hP=>(hPs P hP).1,λP hP=>ae (hPs P hP).2 (by decide),hTs,hn2,ny,nt,na,nb⟩ nd2 (by lia) (by lia) hz (hS2 _ _ (l9 hps) hp1) hps hwd (λP hP=>(hPs P hP).2) h)
theorem bk6{ws:List Str}{x:Str}:nzO (.lst (ws.map V.str++[.str x]))=true:=z5 λv hv=>by
 rcases aq.mp hv with q | q
 ·refine a9 (ar.mp q) λb z_ q1_=>?_;subst q1_;rfl
 ·rw[aj.mp q];rfl
theorem ca9{ws:List Str}{r:Int}(hw:∀ x∈ws,j7 x=true)(h0:0<=r)(h1:r<(ws.length:Int)+1):∃ w,j7 w=true/\(ws.map V.str++[.str (Str.ofString "other")])[r.toNat]?=some (.str w):=by
 have e:ws.map V.str++[.str (Str.ofString "other")]=(ws++[Str.ofString "other"]).map .str:=by rw[av];rfl
 have hl:r.toNat<(ws++[Str.ofString "other"]).length:=by rw[az];show _<_+1;lia
 refine⟨(ws++[Str.ofString "other"])[r.toNat],?_,by rw[e,aw,aa hl];rfl⟩
 rcases aq.mp (bL hl) with q | q
 ·exact hw _ q
 ·rw[aj.mp q];decide +kernel
theorem ck5:True:=by
 k_with "call"=>first | (refine aJ0 (by with_reducible assumption) (by with_reducible assumption) (by with_reducible assumption) (by k_extra "n") (by k_extra "n") ?_;intro _) | (refine aD3 (by with_reducible assumption) (by k_extra "n") ?_;intro _ _ _) | (refine G6 (by with_reducible assumption) (by k_extra "heap") (by with_reducible assumption) (by with_reducible assumption) (by k_extra "n") (by k_extra "n") ?_;intro _ _ _ _ _ _)
 trivial
set_option tactic.hygienic true in
theorem bf5(N:Nm g){a:Addr}{ns:List Int}(hs:Scr g a ns)(hl:ns.length<=100)(h:∀ M',Q (.bool true) M'):c7 g (d+16) true "law" [.ref a] M Q X:=by
 refine bZ9 N ?_;k_extra "w";refine bP3 (d:=d+2) N hs hl (by decide) (by decide) λM1 p la ta wl rules tabs ws C owed rk hp hla hta hwl n1 n2 n3 hS F hm h5 h8 hw=>?_
 k_extra "w";refine bg3 (d:=d+1) N hla hta F.form ?_;have hne:wl≠p:=λe=>by
  rw[e,hp] at hwl;cases ws with
  | nil=>exact absurd h5 (by decide)
  | cons w ws=>cases hwl
 refine Drop.mk (M':=upd (upd (λ_=>none) wl (.lst (ws.map .str))) p (.lst [.ref la,.ref ta,.int C,.int owed,.ref wl])) (λb o e=>?_) ?_
 ·by_cases q:b=p
  ·subst q;rw[c9] at e;rw[hp];exact e
  ·rw[d6 _ _ q] at e
   by_cases q2:b=wl
   ·subst q2;rw[c9] at e;rw[hwl];exact e
   ·rw[d6 _ _ q2] at e;cases e
 have nz0:NZ (λ_=>none):=λa o e=>by cases e
 have nz:NZ (upd (upd (λ_=>none) wl (.lst (ws.map .str))) p (.lst [.ref la,.ref ta,.int C,.int owed,.ref wl])):=(nz0.upd bH7).upd rfl
 have wp:=c9 (upd (λ_=>none) wl (.lst (ws.map .str))) p (.lst [.ref la,.ref ta,.int C,.int owed,.ref wl])
 have ww:upd (upd (λ_=>none) wl (.lst (ws.map .str))) p (.lst [.ref la,.ref ta,.int C,.int owed,.ref wl]) wl=some (.lst (ws.map .str)):=by rw[d6 _ _ hne];exact c9 _ _ _
 generalize upd (upd (λ_=>none) wl (.lst (ws.map .str))) p (.lst [.ref la,.ref ta,.int C,.int owed,.ref wl])=τ at nz wp ww ⊢
 have hwz:(ws.map V.str).length=ws.length:=ac _;k_extra "w";rename_i x y x0 x1 st hst r1 m1 a1 a2 a3 a4 r2 m2 b1 b2 b3 b4;have hps:p≠st:=l7 wp hst;have hws:wl≠st:=l7 ww hst;have wp':upd (upd (upd τ st (.lst [.int y])) st (.lst [.int m1])) st (.lst [.int m2]) p=some (.lst [.ref la,.ref ta,.int C,.int owed,.ref wl]):=by rw[d6 _ _ hps,d6 _ _ hps,d6 _ _ hps];exact wp
 have ww':upd (upd (upd τ st (.lst [.int y])) st (.lst [.int m1])) st (.lst [.int m2]) wl=some (.lst (ws.map .str)):=by rw[d6 _ _ hws,d6 _ _ hws,d6 _ _ hws];exact ww
 have ws':=c9 (upd (upd τ st (.lst [.int y])) st (.lst [.int m1])) st (.lst [.int m2]);have nz':NZ (upd (upd (upd τ st (.lst [.int y])) st (.lst [.int m1])) st (.lst [.int m2])):=((nz.upd rfl).upd rfl).upd rfl;generalize upd (upd (upd τ st (.lst [.int y])) st (.lst [.int m1])) st (.lst [.int m2])=ω at *;refine c5 (bv b1) λyr q1_=>?_;subst q1_
 k_extra "w";rename_i o1 h1 o2 h2 r n' c1 c2 c3 c4;have s1:st≠o2:=l7 (i9 ws' h1) h2;have e5:upd (upd (upd ω o1 (.lst [.str (Str.ofString "other")])) o2 (.lst (ws.map V.str++[.str (Str.ofString "other")]))) st (.lst [.int n']) o2=some (.lst (ws.map V.str++[.str (Str.ofString "other")])):=by rw[d6 _ _ (Ne.symm s1)];exact c9 _ _ _
 obtain⟨w,hw1,hw2⟩:=ca9 hw c1 (by rw[hwz] at c2;exact c2)
 k_extra "w";refine N9 r.toNat _ (by lia) hw2 (by lia) ?_
 k_extra "w";exact Stop.mk (bk2 (la:=la) (ta:=ta) (wl:=wl) (ws:=ws) N F (by rw[d6 _ _ hps];exact i9 (i9 wp' h1) h2) (by rw[d6 _ _ hws];exact i9 (i9 ww' h1) h2) (c9 _ _ _) c3 c4 hps hws (((nz'.upd rfl).upd bk6).upd rfl) (by lia) (by lia) (by lia) (by lia) h8 hw hw1 h)
end
open PySem.W
theorem aX2{g:G}{a:Addr}{vs:List Value}{ns:List Int}(hl:g.h₀.IsList a vs.toArray)(hi:PyProof.Rows.IntsAre vs ns):Scr g a ns:=by
 refine⟨vs.toArray,hl,λh=>?_⟩
 rw[gI];clear hl;induction hi with
 | nil=>exact .nil
 | cons n t r ih=>exact .cons (.int n t) ih
theorem fin(l:OpenLaw){w:World}{sx sv:Shared}(g:G)(hp:g.prog=l.prog)(hw:g.w=w)(hh:g.h₀=sv.heap)(hg:sv.gens=#[]){fa a:Addr}{d:Nat}(hd:d<=100){f:Str}(hf:g.mg f=some (.ref fa))
  (c:c7 g d true f [.ref a] (λz_=>none) (λv z_=>v=.bool true) noX) {args:List WData} :
  wpAny (model l.row.prog w) callerA (call (.ref fa) [.ref a]) (λv s'=>GoodWG l.row.claim (classAt sx.heap) (ExcName.means sx.heap) args sv (.ok (.ret v)) s') (λe s'=>GoodWG l.row.claim (classAt sx.heap) (ExcName.means sx.heap) args sv (.error e) s') sv:=by
 subst hw;have e:l.row.prog=g.prog:=hp.symm;rw[e];refine enter_call (codeAny_mono (c callerA sv [.ref a] fa hf ?_ ?_ (λz_=>rfl) ⟨by rw[hh];exact λz_ z_ e=>e,λz_ z_ e=>by cases e⟩ (λz_ k_=>k_ [] rfl (λz_ h=>nomatch h)) (.cons (.ref a) .nil)) λr s' p=>?_)
 ·have:callerA.depth=301:=rfl
  have:recursionLimit=1000:=rfl
  omega
 ·have:callerA.units=4:=rfl
  have:cLine=9900:=rfl
  omega
 cases r with
 | error e=>refine p _ ?_;intro _ _ _ _ _ q;exact q.elim
 | ok f=>cases f with
  | ret v=>
   refine p _ ?_;intro V M' rv sm st hv;subst hv;obtain rfl:=rv.ofBool;refine GoodW.toG ⟨.inl ⟨_,.bool true,[],rfl,λz_=>rfl,.bool true,?_,λz_=>⟨.nil,λz_ h=>nomatch h⟩⟩,λb o hb=>sm.stays b o (by rw[hh];exact hb),st.same.2,st.same.1.trans hg⟩
   with_unfolding_all rfl
  | _=>exact p.elim
noncomputable def at7(e:DictEntry):Bool:=match e.key with
 | .str _ _=>true
 | _=>false
noncomputable def am3:List Str:="__init__" :: V9
noncomputable def nsB(es:Array DictEntry):Bool:=es.all at7&&am3.all λn=>(nsFind es n).isNone
def U1(h:Heap)(N:Addr):Prop:=
 ∀ P_:Prop,(∀ (m:Str->Option Value) (hn:h.Ns N m) (hi:m "__init__" = none) (hc:∀ n∈V9,m n=none),P_)->P_
set_option tactic.hygienic true in
theorem w0{h:Heap}{N:Addr}{o:Obj}{es:Array DictEntry}{ep:Nat}(ho:h.get? N=some o)(hd:o.data=.dict es ep)(hb:nsB es=true):U1 h N:=by
 refine c6 ((bo _ _).mp hb) λh1 h2=>?_
 have k:∀ n∈am3,nsFind es n=none:=λn hn=>bV.mp (aW.mp h2 n hn)
 refine(λ_ k_=>k_ (nsFind es) ⟨o,es,ep,ho,hd,λe he=>?_,λ_=>rfl⟩ (k _ (.head _)) (λn hn=>k n (.tail _ hn)))
 obtain⟨i,hi,rfl⟩:=Array.mem_iff_getElem.mp he;have:=Array.all_eq_true.mp h1 i hi;unfold at7 at this
 split at this
 ·rename_i n t e;exact⟨n,t,e⟩
 ·cases this
section
variable{g:G}{x nm q nm' q':Str}{C N C' N':Addr}{bs bs' bm:List Value}{hdct hdct':Bool}{sn sn':List Str}{sub sub':List Value}{ab ab':Bool}{col col':Option Bool}{dd dd':Option Addr}{k0 k1 k2 k3 k5 k0' k1' k2' k3' k5':Option Value}{newId:String}
theorem br4(hb:g.mg x=some (.ref C))(hC:g.h₀.get? C=some (excClassObj nm q C N bs vbm hdct sn sub ab col dd k0 k1 k2 k3 k5 "ValueError.__new__"))(hN:U1 g.h₀ N):XC g x C vbm:=by
 refine hN _ ?_;clear hN;rintro m hn hi hc;exact⟨hb,λz_ k_=>k_ N nm q bs hdct sn sub ab col dd k0 k1 k2 k3 k5 m hC hn hi hc .base .base⟩
theorem N1(hC':g.h₀.get? C'=some (excClassObj nm' q' C' N' bs' vbm hdct' sn' sub' ab' col' dd' k0' k1' k2' k3' k5' newId))(hN':U1 g.h₀ N')
  (hb:g.mg x=some (.ref C)) (hC:g.h₀.get? C=some (excClassObj nm q C N bs (.ref C'::vbm) hdct sn sub ab col dd k0 k1 k2 k3 k5 "ValueError.__new__")) (hN:U1 g.h₀ N):XC g x C (.ref C'::vbm):=by
 refine hN _ ?_;clear hN;rintro m hn hi hc;refine hN' _ ?_;clear hN';rintro m' hn' hi' hc';exact⟨hb,λz_ k_=>k_ N nm q bs hdct sn sub ab col dd k0 k1 k2 k3 k5 m hC hn hi hc (.own hC' hn' hi' .base) (.own hC' hn' hc' .base)⟩
end
end Internal
set_option maxHeartbeats 8000000
open PySem PySem.W PyProof.Rows
namespace Internal
noncomputable def bV0:List (Str×Nat×Int×Nat):=[("number",358,2,359),("paper",360,2,361),("line",362,2,363),("earlier",364,2,365),("add",366,3,367),("take",368,3,369),("least",370,3,371),("most",372,3,373),("part",374,3,375),("table",376,3,377),("where",378,4,379),("choose",380,4,381)]
theorem gd{w:World}{mg mb:Str->Option Value}{h:Heap}(g1:h.Ns mainGlobals mg)(g2:h.Ns builtinsNs mb)(g3:h.NoLimit)(K:(myK w.params).In h):Gd ⟨Challenge.pw_uf010038_08,w,h,mg,mb,g1,g2,g3⟩ (Str.ofString "SIZES") szs:=by
 refine⟨133,?_,?_⟩
 ·have h3:=K 3 _ rfl
  exact(E7 g1 h3 rfl _).trans (by kernel_rfl)
 ·exact bN4 (n:=12) bV0 (by decide +kernel) (by decide +kernel) (K 133 _ rfl)
theorem bL6{w:World}{mg mb:Str->Option Value}{h:Heap}(g1:h.Ns mainGlobals mg)(g2:h.Ns builtinsNs mb)(g3:h.NoLimit)(K:(myK w.params).In h):XC ⟨Challenge.pw_uf010038_08,w,h,mg,mb,g1,g2,g3⟩ (Str.ofString "FormError") 24 vbm:=br4 ((E7 g1 (K 3 _ rfl) rfl _).trans (by kernel_rfl)) (K 24 _ rfl) (w0 (K 23 _ rfl) rfl (by kernel_rfl))
theorem bD4{w:World}{mg mb:Str->Option Value}{h:Heap}(g1:h.Ns mainGlobals mg)(g2:h.Ns builtinsNs mb)(g3:h.NoLimit)(K:(myK w.params).In h):XC ⟨Challenge.pw_uf010038_08,w,h,mg,mb,g1,g2,g3⟩ (Str.ofString "NoTable") 37 (.ref 24::vbm):=N1 (K 24 _ rfl) (w0 (K 23 _ rfl) rfl (by kernel_rfl)) ((E7 g1 (K 3 _ rfl) rfl _).trans (by kernel_rfl)) (K 37 _ rfl) (w0 (K 36 _ rfl) rfl (by kernel_rfl))
theorem ba8{w:World}{mg mb:Str->Option Value}{h:Heap}(g1:h.Ns mainGlobals mg)(g2:h.Ns builtinsNs mb)(g3:h.NoLimit)(K:(myK w.params).In h):XC ⟨Challenge.pw_uf010038_08,w,h,mg,mb,g1,g2,g3⟩ (Str.ofString "NoForm") 49 (.ref 24::vbm):=N1 (K 24 _ rfl) (w0 (K 23 _ rfl) rfl (by kernel_rfl)) ((E7 g1 (K 3 _ rfl) rfl _).trans (by kernel_rfl)) (K 49 _ rfl) (w0 (K 48 _ rfl) rfl (by kernel_rfl))
theorem aS5{w:World}{mg mb:Str->Option Value}{h:Heap}(g1:h.Ns mainGlobals mg)(g2:h.Ns builtinsNs mb)(g3:h.NoLimit)(K:(myK w.params).In h):XC ⟨Challenge.pw_uf010038_08,w,h,mg,mb,g1,g2,g3⟩ (Str.ofString "NoRule") 61 (.ref 24::vbm):=N1 (K 24 _ rfl) (w0 (K 23 _ rfl) rfl (by kernel_rfl)) ((E7 g1 (K 3 _ rfl) rfl _).trans (by kernel_rfl)) (K 61 _ rfl) (w0 (K 60 _ rfl) rfl (by kernel_rfl))
theorem bW0{w:World}{mg mb:Str->Option Value}{h:Heap}(g1:h.Ns mainGlobals mg)(g2:h.Ns builtinsNs mb)(g3:h.NoLimit)(K:(myK w.params).In h):XC ⟨Challenge.pw_uf010038_08,w,h,mg,mb,g1,g2,g3⟩ (Str.ofString "Ring") 73 (.ref 24::vbm):=N1 (K 24 _ rfl) (w0 (K 23 _ rfl) rfl (by kernel_rfl)) ((E7 g1 (K 3 _ rfl) rfl _).trans (by kernel_rfl)) (K 73 _ rfl) (w0 (K 72 _ rfl) rfl (by kernel_rfl))
theorem by7{w:World}{mg mb:Str->Option Value}{h:Heap}(g1:h.Ns mainGlobals mg)(g2:h.Ns builtinsNs mb)(g3:h.NoLimit)(K:(myK w.params).In h):XC ⟨Challenge.pw_uf010038_08,w,h,mg,mb,g1,g2,g3⟩ (Str.ofString "NoPaper") 85 (.ref 24::vbm):=N1 (K 24 _ rfl) (w0 (K 23 _ rfl) rfl (by kernel_rfl)) ((E7 g1 (K 3 _ rfl) rfl _).trans (by kernel_rfl)) (K 85 _ rfl) (w0 (K 84 _ rfl) rfl (by kernel_rfl))
theorem aW6{w:World}{mg mb:Str->Option Value}{h:Heap}(g1:h.Ns mainGlobals mg)(g2:h.Ns builtinsNs mb)(g3:h.NoLimit)(K:(myK w.params).In h):XC ⟨Challenge.pw_uf010038_08,w,h,mg,mb,g1,g2,g3⟩ (Str.ofString "NoChoice") 97 (.ref 24::vbm):=N1 (K 24 _ rfl) (w0 (K 23 _ rfl) rfl (by kernel_rfl)) ((E7 g1 (K 3 _ rfl) rfl _).trans (by kernel_rfl)) (K 97 _ rfl) (w0 (K 96 _ rfl) rfl (by kernel_rfl))
noncomputable def fks:List Nat:=[11,12,13,14,15,21,22,23,24,25,26,27,32,33,34,35,36,38,39,40,41,42,43,44,45,46,47,49,50,51,52,53,54,55,56,57,58,59,60,61,62,63,64,65,66]
noncomputable def bT:Tab:=[(Str.ofString "all",.bi "all"),(Str.ofString "any",.bi "any"),(Str.ofString "bool",.ty "bool"),(Str.ofString "int",.ty "int"),(Str.ofString "isinstance",.bi "isinstance"),(Str.ofString "len",.bi "len"),(Str.ofString "list",.ty "list"),(Str.ofString "max",.bi "max"),(Str.ofString "min",.bi "min"),(Str.ofString "range",.ty "range"),(Str.ofString "set",.ty "set"),(Str.ofString "sorted",.bi "sorted"),(Str.ofString "str",.ty "str"),(Str.ofString "tuple",.ty "tuple"),(Str.ofString "zip",.ty "zip")]
theorem bP5:recsOf viw=fks.map (f3 Challenge.pw_uf010038_08):=by kernel_rfl
noncomputable def tR:Tab:=(Str.ofString "DEEPEST",.int 8)::(Str.ofString "FormError",.cls 24 (vbm))::(Str.ofString "GREATEST",.int 1000000000)::(Str.ofString "LETTERS",.str "abcdefghijklmnopqrstuvwxyz")::(Str.ofString "LONGEST",.int 8)::(Str.ofString "MOST_CHOICES",.int 8)::(Str.ofString "MOST_LINES",.int 40)::(Str.ofString "MOST_ROWS",.int 20)::(Str.ofString "MOST_TABLES",.int 5)::(Str.ofString "NoChoice",.cls 97 (.ref 24::vbm))::(Str.ofString "NoForm",.cls 49 (.ref 24::vbm))::(Str.ofString "NoPaper",.cls 85 (.ref 24::vbm))::(Str.ofString "NoRule",.cls 61 (.ref 24::vbm))::(Str.ofString "NoTable",.cls 37 (.ref 24::vbm))::(Str.ofString "Ring",.cls 73 (.ref 24::vbm))::(Str.ofString "SIZES",.dict szs)::bT
theorem bk3:fnT Challenge.pw_uf010038_08 fks++tR=tab:=by kernel_rfl
theorem N7:∀ p∈bT,p.1∉startupNames/\p.1∉looseW viw [Str.ofString "SIZES"]/\p.1∉(recsOf viw).map (·.name)/\p.1∉(litsOf viw).map (·.1)/\p.1∉(clssOf viw (looseW viw [Str.ofString "SIZES"])).map (·.name):=by decide +kernel
theorem aQ6:∀ p∈bT,p.1≠"__name__":=by decide +kernel
theorem bW1:∀ p∈bT,isB p.2=true:=by decide +kernel
theorem bu9:∀ p∈bT,bootBuiltins p.1=some (itV p.2):=List.map_inj_left.mp (show bT.map (λp=>bootBuiltins p.1)=bT.map (λp=>some (itV p.2)) by kernel_rfl)
set_option tactic.hygienic true in
theorem hdw:PySem.Challenge.rw_uf010038_08.Holds:=by
 w_on
 refine holds_law ak7 λak7=>?_
 refine holds_open (q:=viw) (loose:=[Str.ofString "SIZES"]) (Xt:=xt4) (XP:=XL viw []) (Yf:=Hook.obs (kHook myK [3,133,24,23,37,36,49,48,61,60,73,72,85,84,97,96] (λ_=>rfl))) (Ya:=Hook.val (kHook myK [3,133,24,23,37,36,49,48,61,60,73,72,85,84,97,96] (λ_=>rfl))) (YP:=Hook.says (kHook myK [3,133,24,23,37,36,49,48,61,60,73,72,85,84,97,96] (λ_=>rfl))) (d:=f3 Challenge.pw_uf010038_08 66) (kwd:=[]) (N:=5000) left (Hook.of (kHook myK [3,133,24,23,37,36,49,48,61,60,73,72,85,84,97,96] (λ_=>rfl))) (Hook.keeps (kHook myK [3,133,24,23,37,36,49,48,61,60,73,72,85,84,97,96] (λ_=>rfl))) (λs e=>xl_of s (ba.mp e).1) XL.keeps (by kernel_rfl) (by kernel_rfl) (by kernel_rfl) (λs e=>recFacts_of (ba.mp e).2) (by kernel_rfl) ak7 (by kernel_rfl) ⟨rfl,rfl,rfl,rfl,rfl,by decide +kernel⟩ ?hw ?hc
 case hw=>w_witness2
 intro w sx sv mg mb G Y fa o pm cd doc dV kV ho hd hcd hD hmg hg args vals as hpre hlay hrd hwl hlo;have KX:=kIn_of Y;refine Ground.open G ?_;intro T B D TE TW;clear hd hcd hD ho B D TE TW G Y
 wrow_args hpre hlay hrd hwl hlo
 rename_i ns _ _ _ _ _ _ _ a vs _ hL _ _ _ hI _ hlen _;have gi:∀ x i,valOf viw x=some (.int i)->Gi ⟨Challenge.pw_uf010038_08,w,sv.heap,mg,mb,T.g,T.b,T.nolimit⟩ x i:=λx i hx=>by
  obtain⟨v,h1,h2⟩:=T.const x _ hx;cases h2 sv.heap;exact⟨_,h1⟩
 have gs:∀ x i,valOf viw x=some (.str i)->Gs ⟨Challenge.pw_uf010038_08,w,sv.heap,mg,mb,T.g,T.b,T.nolimit⟩ x i:=λx i hx=>by
  obtain⟨v,h1,h2⟩:=T.const x _ hx;cases h2 sv.heap;exact⟨_,h1⟩
 have N:TabOK ⟨Challenge.pw_uf010038_08,w,sv.heap,mg,mb,T.g,T.b,T.nolimit⟩ tR:=
  .cons (gi _ _ (by kernel_rfl)) <|
  .cons (bL6 T.g T.b T.nolimit KX) <|
  .cons (gi _ _ (by kernel_rfl)) <|
  .cons (gs _ _ (by kernel_rfl)) <|
  .cons (gi _ _ (by kernel_rfl)) <|
  .cons (gi _ _ (by kernel_rfl)) <|
  .cons (gi _ _ (by kernel_rfl)) <|
  .cons (gi _ _ (by kernel_rfl)) <|
  .cons (gi _ _ (by kernel_rfl)) <|
  .cons (aW6 T.g T.b T.nolimit KX) <|
  .cons (ba8 T.g T.b T.nolimit KX) <|
  .cons (by7 T.g T.b T.nolimit KX) <|
  .cons (aS5 T.g T.b T.nolimit KX) <|
  .cons (bD4 T.g T.b T.nolimit KX) <|
  .cons (bW0 T.g T.b T.nolimit KX) <|
  .cons (gd T.g T.b T.nolimit KX) <|
  TabOK.bis (λp hp=>⟨T.free p.1 (N7 p hp).1 (N7 p hp).2.1 (N7 p hp).2.2.1 (N7 p hp).2.2.2.1 (N7 p hp).2.2.2.2,(T.builtins p.1 (aQ6 p hp)).trans (bu9 p hp)⟩) bW1
 have N:=TabOK.fns (ks:=fks) (λk hk=>by obtain⟨a,o,pm,code,doc,h1,h2,h3,h4⟩:=T.fn _ (show f3 Challenge.pw_uf010038_08 k∈recsOf viw from bP5▸ar.mpr ⟨k,hk,rfl⟩);exact⟨λ_ k_=>k_ a o pm code doc h1 h2 h3 h4⟩) N
 have N:Nm ⟨Challenge.pw_uf010038_08,w,sv.heap,mg,mb,T.g,T.b,T.nolimit⟩:=⟨rfl,bk3▸N⟩;exact Internal.fin PySem.Challenge.rw_uf010038_08 ⟨Challenge.pw_uf010038_08,w,sv.heap,mg,mb,T.g,T.b,T.nolimit⟩ rfl rfl rfl hg (d:=16) (by decide) hmg (Internal.bf5 (d:=0) N (Internal.aX2 hL hI) (by omega) λ_=>rfl)
end Internal
theorem PySem.Challenge.cw_uf010038_08_holds : PySem.Challenge.rw_uf010038_08.Holds :=
 Internal.hdw